/-
  The law BodiesJoins holds (part 5 of 9).
-/
import Derived.Test.YtlobmefcflhmaaaGreatDoorYj4
import Derived.Laws.Bits64
import Derived.Lib.IndexMore
open Bool renaming false → ν, true → μ
open List renaming length → γ
open Option renaming none → ι, some → θ
set_option linter.unusedVariables false
set_option linter.unusedSimpArgs false
set_option maxRecDepth 100000
namespace Go.Wk
open Go.Px
open Go.Lib renaming join → cY
open Int renaming toNat → bH
open List renaming length → aL, take → eZ
def Zh(s:aC):aC:=34::(s.flatMap wE++[34])
def xD(s:aC):aC×ζ:=if s.any eJ=μ then([],5)else(Zh s,0)
theorem UN(c:ζ):γ (wE c)<=2:=by unfold wE;split<;>simp
theorem bjg:∀s:aC,γ (s.flatMap wE)<=2*aL s
 |[]=>by simp
 |c::l=>by have b:=UN c;have a:=bjg l;rw[Kh,cG,cN];omega
theorem xi(s:aC)(u:aL s<=4194304)(l:aC):∀p d,s=p++l->aL l<d->
  ale FU s d (34::p.flatMap wE) (γ p)=θ (if l.any eJ=μ then .inr ([],5)else .inl (34::s.flatMap wE)):=by
 induction l with
 |nil=>intro p d h o;obtain⟨d,rfl⟩:=bV d;rw[gD]at h;subst h;rw[bgw,auh,aA aU];rfl
 |cons c l q=>
  intro p d h o;obtain⟨d,rfl⟩:=bV d;have r:=bF aL h;simp at r o;have n:(0:Int)<=(aL p:Int)/\(aL p:Int)<(aL s:Int):=aA0;have t:at_ s (aL p:Int)=c:=aE0;have v:=bjg p;have k:=q (p++[c]) d aA6 aU;rw[NN,iX]at k;rw[bgw,auh,aB n.2,aS n,t,Bu,aR,Tx];cases w:eJ c with
  |true=>rw[aM,tS,aB rfl]
  |false=>
   rw[aH,NL];have a:∀b:η,wE c=(bif b then [92,c]else [c])->(bif b then gd ((γ (34::p.flatMap wE)+γ ([(92:ζ)]:δ ζ))*1<=140737488355328) (θ ((34::p.flatMap wE)++([(92:ζ)]:δ ζ)))else θ (34::p.flatMap wE))=θ ((34::p.flatMap wE)++(bif b then [92]else [])):=by
    intro b _;cases b with
    |true=>rw[aM,aM,aS aB9]
    |false=>rw[aH,aH,gD]
   have j:∀b:η,wE c=(bif b then [92,c]else [c])->((θ ((34::p.flatMap wE)++(bif b then [92]else []))).bind λ(i:δ ζ)=>(gd (0<=(aL p:Int)/\(aL p:Int)<(aL s:Int))<|(gd ((aL i+γ ([c]:δ ζ))*1<=140737488355328)<|(gd (bK ((aL p:Int)+(1:Int)))<|(ale FU s d (i++([c]:δ ζ)) ((aL p:Int)+(1:Int)))))))=θ (if l.any eJ=μ then .inr ([],5)else .inl (34::s.flatMap wE)):=by intro b m;rw[aR,aS n,aS (by cases b<;>simp only[aM,aH,cG,cN,iP]<;>omega),aS (cA _ aU aU),<-k,m];cases b<;>simp
   by_cases g:c=34
   ·have e:wE c=(bif μ then [92,c]else [c]):=by rw[g];rfl
    rw[aB g,aR,a μ e,j μ e]
   ·rw[aA g,aR];by_cases f:c=92
    ·have e:wE c=(bif μ then [92,c]else [c]):=by rw[f];rfl
     rw[aD f,a μ e,j μ e]
    ·have e:wE c=(bif ν then [92,c]else [c]):=by unfold wE;rw[aA (by simp[g,f])];rfl
     rw[aE f,a ν e,j ν e]
theorem T1{a:Type}{p:Prop}{b:Decidable p}(h:p){x:ε a}: @gd _ p b x=x:=by unfold gd;exact aB h
theorem Mk(s:aC)(b:aL s<=4194304):awk FU s=θ (xD s):=by
 have:=xi s b s [] FU aA3 aA4;have a:ale FU s FU ([]++[34]) (0:Int)=_:=this;have c:=bjg s;unfold awk xD;rw[aS (cA _ aU aU),T1 aU,aS aA1,a,aR];cases s.any eJ with
 |true=>rfl
 |false=>rw[aA (show¬(ν=μ)by decide),kA,aS aB9];rfl
theorem G5(s:aC)(u:aL s<=4194304)(l:aC):∀(p:aC) (d:Nat),s=p++l->aL l<d->
  ald FU s d (34::p.flatMap wE) (aL p:Int)=θ (if l.any eJ=μ then .inr ([],5)else .inl (34::s.flatMap wE)):=by
 induction l with
 |nil=>intro p d h n;obtain⟨d,rfl⟩:=bV d;rw[gD]at h;subst h;rw[bgv,aud,aA aU];rfl
 |cons c l q=>
  intro p d h n;obtain⟨d,rfl⟩:=bV d;have r:=bF aL h;simp only[cG,cN]at r n;have o:(0:Int)<=(aL p:Int)/\(aL p:Int)<(aL s:Int):=aA0;have t:at_ s (aL p:Int)=c:=aE0;have v:=bjg p;have k:=q (p++[c]) d aA6 aU;rw[<-Xp p c,NN,iX]at k;rw[bgv,aud,aB o.2];simp only[aS o,t];rw[bcc,aR,Tx];cases w:eJ c with
  |true=>rw[aM,tS,aB rfl]
  |false=>
   rw[aH,NL];have a:∀b:η,wE c=(bif b then [92,c]else [c])->(bif b then gd ((γ (34::p.flatMap wE)+γ ([(92:ζ)]:δ ζ))*1<=140737488355328) (θ ((34::p.flatMap wE)++([(92:ζ)]:δ ζ)))else θ (34::p.flatMap wE))=θ ((34::p.flatMap wE)++(bif b then [92]else [])):=by
    intro b _;cases b with
    |true=>rw[aM,aM,aS aB9]
    |false=>rw[aH,aH,gD]
   have j:∀b:η,wE c=(bif b then [92,c]else [c])->((θ ((34::p.flatMap wE)++(bif b then [92]else []))).bind λ(i:δ ζ)=>(gd ((aL i+γ ([c]:δ ζ))*1<=140737488355328)<|(gd (bK ((aL p:Int)+(1:Int)))<|(ald FU s d (i++([c]:δ ζ)) ((aL p:Int)+(1:Int))))))=θ (if l.any eJ=μ then .inr ([],5)else .inl (34::s.flatMap wE)):=by intro b m;rw[aR,aS (by cases b<;>simp only[aM,aH,cG,cN,iP]<;>omega),aS (cA _ aU aU),<-k,m];cases b<;>simp
   by_cases g:c=34
   ·have e:wE c=(bif μ then [92,c]else [c]):=by rw[g];rfl
    rw[aB g,aR,a μ e,j μ e]
   ·rw[aA g,aR];by_cases f:c=92
    ·have e:wE c=(bif μ then [92,c]else [c]):=by rw[f];rfl
     rw[aD f,a μ e,j μ e]
    ·have e:wE c=(bif ν then [92,c]else [c]):=by unfold wE;rw[aA (by simp[g,f])];rfl
     rw[aE f,a ν e,j ν e]
theorem Lx(s:aC)(b:aL s<=4194304):bbe FU s=θ (xD s):=by
 have:=G5 s b s [] FU aA3 aA4;have a:ald FU s FU ([(34:ζ)]:δ ζ) (0:Int)=_:=this;have c:=bjg s;unfold bbe xD;rw[a,aR];cases s.any eJ with
 |true=>rfl
 |false=>rw[aA (show¬(ν=μ)by decide),kA,aS aB9,aA (show¬(ν=μ)by decide)];rfl
theorem bkn(s:aC):γ (Zh s)<=2*aL s+2:=by have:=bjg s;unfold Zh;rw[cN,cG,eI];omega
theorem zZ(s:aC)(d:aL s<=4194304):tp FU s=θ (!s.any eJ):=by
 have h:=nZ (λc=> !eJ c) s d ν (avy FU s)
  (λb=>by rw[ayx,anf,aA aU])
  (λb k f h=>by have a:eJ (at_ s (k:Int))=μ:=aA8;rw[ayx,anf,aB aU,dS,bcc,aR,a,aM])
  (λb k f h=>by have a:eJ (at_ s (k:Int))=ν:=aA8;rw[ayx,anf,aB aU,dS,bcc,aR,a,aH,dS])
 unfold tp;rw[h,aR];have e:s.all (λc=> !eJ c)= !s.any eJ:=by rw[IV]
 rw[e];cases s.any eJ<;>rfl
theorem vn:∀c:ζ,cJ c=μ->eJ c=ν:=fM _ aA5
theorem zh:∀c:ζ,fX c=μ->eJ (eQ c)=ν:=fM _ aA5
theorem yt:∀c:ζ,jY c=μ->eJ (eQ c)=ν:=fM _ aA5
theorem dig_nc:∀c:ζ,gA c=μ->eJ c=ν:=fM _ aA5
theorem tn(l:aC)(h:∀c∈l,eJ c=ν):l.any eJ=ν:=by rw[dC];intro c a;rw[h c a];decide
theorem P7(s:aC)(h:iH s=μ):s.any eJ=ν:=by unfold iH at h;rw[lA]at h;exact tn s λc a=>vn c (aT.1 h.2 c a)
theorem kv(g:aC)(h:qT g=μ):∀c∈jO g,eJ c=ν:=by
 have hx:g.all fX=μ:=by unfold qT at h;simp only[lA]at h;exact h.2
 intro c a;unfold jO at a;split at a
 ·rw[aG.1 a];decide
 ·have b:=(wQ _).subset a;obtain⟨d,e,rfl⟩:=dB.1 b;exact zh d (aT.1 hx d e)
theorem Ju:∀(l:δ aC),(∀x∈l,∀c∈x,eJ c=ν)->∀c∈cY l [58],eJ c=ν
 |[],_,c,d=>by simp[cY]at d
 |[a],h,c,d=>by simp[cY]at d;exact h a aA3 c d
 |a::b::l,h,c,d=>by
  rcases aV.1 d with d|d
  ·exact h a aA3 c d
  ·rcases aQ.1 d with rfl|d
   ·decide
   ·exact Ju _ (λx hx=>h x (eU _ hx)) c d
theorem Pf(s:aC):∀x∈(yV s).1,∀c∈x,eJ c=ν:=by
 intro x hx;unfold yV at hx;split at hx
 ·rename_i b;obtain⟨y,a,rfl⟩:=dB.1 hx;exact kv y (aT.1 b y a)
 ·simp at hx
theorem GN(s:aC):∀x∈(iG s).1,∀c∈x,eJ c=ν:=by
 intro x hx;unfold iG at hx;split at hx
 ·simp at hx
 ·exact Pf s x hx
theorem R9(s:aC):∀c∈(dT s).1,eJ c=ν:=by
 intro c a;unfold dT at a;split at a
 ·simp at a
 ·split at a
  ·exact Ju _ (Pf s) c a
  ·split at a
   ·simp at a
   ·rcases aV.1 a with a|a
    ·rcases aV.1 a with a|a
     ·exact Ju _ (GN _) c a
     ·have b:c=58:=by simpa using a
      rw[b];decide
    ·exact Ju _ (GN _) c a
theorem Q7(s:aC):((eO s).1).any eJ=ν:=by
 refine tn _ λc a=> ?_;unfold eO at a;split at a
 ·split at a
  ·rcases aV.1 a with a|a
   ·rcases aV.1 a with a|a
    ·rw[aG.1 a];decide
    ·exact R9 _ c a
   ·rw[aG.1 a];decide
  ·simp at a
 ·split at a
  ·rename_i b;unfold Ke at b;simp only[lA]at b;rcases mx 46 gA s (λx hx=>(bji x (by rw[<-uG];exact aT.1 b.1.2 x hx)).2.2) c a with h|h
   ·exact dig_nc c h
   ·rw[h];decide
  ·split at a
   ·rename_i b;unfold JF at b;simp only[lA]at b;obtain⟨d,e,rfl⟩:=dB.1 a;rcases mx 46 jY s (λx hx=>by have:=aT.1 b.1.2 x hx;unfold Fk at this;simp only[lA]at this;exact this.2) d e with h|h
    ·exact yt d h
    ·rw[h];decide
   ·simp at a
def XZ(v:aC):η:=(eO v).2&&decide ((eO v).1=v)&&(at_ v 0==91)
def CL(pre:δ PP)(p:PP):η:=iH p.1&&decide (cK p.1=p.1)&& !(pre.any λq=>q.1==p.1)
def Zy(p:PP):η:=bif p.2.2 then !p.2.1.any eJ else decide (p.2.1=[])
def Uh(p:PP):aC:=bif p.2.2 then 61::(bif iH p.2.1||XZ p.2.1 then p.2.1 else Zh p.2.1)else []
def Rn:δ PP->δ PP->ε aC
 |_,[]=>θ []
 |pre,p::r=>bif CL pre p&&Zy p then(Rn (pre++[p]) r).map λt=>59::(p.1++(Uh p++t))else ι
def rZ(l:δ PP):aC×ζ:=if 16<aL l then([],2)else match Rn [] l with|some t=>(t,0)|none=>([],2)
theorem brV_nc(v:aC)(h:XZ v=μ):v.any eJ=ν:=by unfold XZ at h;simp at h;rw[<-h.1.2];exact Q7 v
theorem QW(v:aC)(h:(eO v).2=μ)(a:(eO v).1=v):v≠[]:=by intro e;subst e;exact absurd h aA1
theorem Yh(p:PP)(a:aL p.2.1<=4194304):γ (Uh p)<=8388611:=by
 have:=bkn p.2.1;unfold Uh;cases p.2.2 with
 |false=>simp
 |true=>
  rw[aM,cN];cases(iH p.2.1||XZ p.2.1)with
  |true=>rw[aM];omega
  |false=>rw[aH];omega
theorem pp_lp(l:δ PP)(J:aL l<=16)(G:∀p∈l,aL p.1<=4194304/\γ p.2.1<=4194304)(r:δ PP):∀pre b (out:aC),l=pre++r->aL r<b->aL out<=aL pre*16000000->
  ael FU l b (γ pre) () out=θ (match Rn pre r with|some t=>.inl ((),out++t)|none=>.inr ([],2)):=by
 induction r with
 |nil=>intro pre b out h B E;obtain⟨b,rfl⟩:=bV b;rw[gD]at h;rw[avk,aia,aA aC6];simp[Rn]
 |cons p r D=>
  intro pre b out h B E;obtain⟨b,rfl⟩:=bV b;have n:=bF aL h;simp only[cG,cN]at n B;have g:(0:Int)<=(aL pre:Int)/\(aL pre:Int)<(aL l:Int):=aA0;have F:el l (aL pre:Int)=p:=aA9;have x:eZ (bH (aL pre:Int)) l=pre:=aA6
  have c:=G p aA6;have H:=Yh p c.2;have f:bK ((aL pre:Int)+1):=cA _ aU aU;have next:∀o:aC,o=out++(59::(p.1++Uh p))->CL pre p=μ->Zy p=μ->ael FU l b ((aL pre:Int)+1) () o=θ (match Rn pre (p::r)with|some t=>.inl ((),out++t)|none=>.inr ([],2)):=by
   intro o m w k;have s:=D (pre++[p]) b o aA6 aU (by rw[m];simp only[cG,cN,iP];omega);rw[show(γ (pre++[p]):Int)=(aL pre:Int)+1 by simp]at s;rw[s,Rn,w,k,Rw,aM];cases Rn (pre++[p]) r with
   |none=>rfl
   |some t=>rw[m];simp
  have a:CL pre p=ν\/Zy p=ν->Rn pre (p::r)=ι:=by
   rintro(h|h)
   ·rw[Rn,h];rfl
   ·rw[Rn,h,eN];rfl
  rw[avk,aia,aB g.2,aS g,aS g,F,te _ aU,aR];cases w:iH p.1 with
  |false=>rw[a (.inl (by unfold CL;rw[w];rfl))];rfl
  |true=>
   rw[gL,aH,bc _ c.1,aR];by_cases k:p.1=cK p.1
   ·rw[aB k,aS aU,x,Pd pre aU,aR,aR];cases C:pre.any λq=>q.1==p.1 with
    |true=>rw[a (.inl (by unfold CL;rw[C];simp))];rfl
    |false=>
     have A:CL pre p=μ:=by unfold CL;rw[w,C,aD k.symm];rfl
     rw[aH,aS aA2];unfold CP;rw[aS aA2,aR];simp only;cases j:p.2.2 with
     |false=>
      rw[vP,aM];by_cases d:p.2.1=[]
      ·have z:Zy p=μ:=by unfold Zy;rw[j];exact aD d
       rw[aB d,aS f];refine next _ ?_ A z
       have:Uh p=[]:=by unfold Uh;rw[j];rfl
       rw[this];simp
      ·have z:Zy p=ν:=by unfold Zy;rw[j];exact aE d
       rw[aA d,a (.inr z)]
     |true=>
      have i:Zy p= !p.2.1.any eJ:=by unfold Zy;rw[j];rfl
      rw[gL,aH,bjy _ c.2,aR,te _ aU,aR];have e:(bif (!iH p.2.1)then(bif (eO p.2.1).2 then(if(eO p.2.1).1=p.2.1 then(gd (0<=(0:Int)/\(0:Int)<(aL p.2.1:Int))<|some (!decide ((at_ p.2.1 (0:Int))=(91:ζ))))else θ μ)else θ μ)else θ ν)=θ (!(iH p.2.1||XZ p.2.1)):=by
       unfold XZ;cases iH p.2.1 with
       |true=>rfl
       |false=>
        rw[vP];cases v:(eO p.2.1).2 with
        |false=>rfl
        |true=>
         rw[aM];by_cases u:(eO p.2.1).1=p.2.1
         ·have:=bL.2 (QW p.2.1 v u);rw[aB u,aD u,aS aU];rfl
         ·rw[aA u,aE u];rfl
      rw[e,aR];cases d:(iH p.2.1||XZ p.2.1)with
      |true=>
       have y:p.2.1.any eJ=ν:=by
        rcases Bool.or_eq_true_iff.1 d with h|h
        ·exact P7 _ h
        ·exact brV_nc _ h
       rw[gL,aH,aR,kA,aS aA2,aS aA2,aR,aS f];refine next _ ?_ A (by rw[i,y];rfl)
       have:Uh p=61::p.2.1:=by unfold Uh;rw[j,d];rfl
       rw[this];simp
      |false=>
       rw[vP,aM,Mk _ c.2,aR];unfold xD;have I:=bkn p.2.1;cases v:p.2.1.any eJ with
       |true=>rw[aB rfl,aA (show¬((5:ζ)=0)by decide),aR,Rt,a (.inr (by rw[i,v];rfl))]
       |false=>
        rw[aA (show¬(ν=μ)by decide),aB rfl,aR,kA];simp only;rw[aS aA2,aS aA2,aR,aS f];refine next _ ?_ A (by rw[i,v];rfl)
        have:Uh p=61::Zh p.2.1:=by unfold Uh;rw[j,d];rfl
        rw[this];simp
   ·rw[aA k,aR,aM,a (.inl (by unfold CL;rw[aE (λh=>k h.symm)];simp))]
theorem Zo:∀r pre t,(∀p∈r,aL p.1<=4194304/\γ p.2.1<=4194304)->Rn pre r=θ t->aL t<=aL r*16000000
 |[],_,t,_,h=>by simp[Rn]at h;subst h;simp
 |p::r,pre,t,c,h=>by
  rw[Rn]at h;cases b:CL pre p&&Zy p with
  |false=>rw[b]at h;cases h
  |true=>rw[b,aM,bR]at h;obtain⟨u,d,rfl⟩:=h;have:=Zo r _ u (λq e=>c q (eU _ e)) d;have a:=c p gK;have f:=Yh p a.2;simp;omega
theorem bil(l:δ PP)(b:∀p∈l,aL p.1<=4194304/\γ p.2.1<=4194304):XN FU l=θ (rZ l):=by
 unfold XN rZ;by_cases h:16<aL l
 ·rw[aB aU,aB h]
 ·have:=pp_lp l aU b l [] FU [] aA3 aA4 aA3;have a:ael FU l FU 0 () []=_:=this;rw[aA aU,aA h,a,aR];cases c:Rn [] l with
  |none=>rfl
  |some t=>have:=Zo l [] t b c;simp;rw[aS aU]
open Go.Op renaming bytesLess → qZ
theorem mo(v:aC)(b:aL v<=4194304):aqg FU v=θ (XZ v):=by
 unfold aqg XZ;rw[bfs v b,aR];cases c:(eO v).2 with
 |false=>rfl
 |true=>
  by_cases a:(eO v).1=v
  ·have:=bL.2 (QW v c a);rw[aB a,aD a,aS aU];rfl
  ·rw[aA a,aE a];rfl
def JD:δ PP->δ PP->ε aC
 |_,[]=>θ []
 |pre,p::r=>bif CL pre p&&Zy p&&decide (aL pre<16)then(JD (pre++[p]) r).map λt=>59::(p.1++(Uh p++t))else ι
theorem K2:∀r pre,aL pre+aL r<=16->JD pre r=Rn pre r
 |[],_,_=>rfl
 |p::r,pre,h=>by simp at h;rw[JD,Rn,aD (show γ pre<16 by omega),oD,K2 r _ aA2]
theorem EL:∀r pre,aL pre<=16->16<aL pre+aL r->JD pre r=ι
 |[],pre,b,a=>by simp at a;omega
 |p::r,pre,b,a=>by
  simp at a;rw[JD];by_cases h:aL pre<16
  ·rw[EL r _ aA2 aA2];cases(CL pre p&&Zy p&&decide (aL pre<16))<;>rfl
  ·rw[aE h,eN];rfl
theorem qw(pre:δ PP)(nm:aC):(yA pre nm=0)↔((pre.any λq=>q.1==nm)=ν/\γ pre<16):=by
 unfold yA;cases pre.any λq=>q.1==nm with
 |true=>simp
 |false=>
  by_cases h:16<=aL pre
  ·rw[aB h];simp;omega
  ·rw[aA h];simp;omega
theorem ez(l:δ PP)(X:aL l<=100)(O:∀p∈l,aL p.1<=4194304/\γ p.2.1<=4194304)(r:δ PP):∀pre d out,l=pre++r->aL r<d->aL out<=aL pre*16000000->(∀q∈pre,cK q.1=q.1)->
  afh FU l d out (γ pre)=θ (match JD pre r with|some t=>.inl (out++t)|none=>.inr ([],2)):=by
 induction r with
 |nil=>intro pre d out h N S a;obtain⟨d,rfl⟩:=bV d;rw[gD]at h;rw[axs,ajr,aA aC6];simp[JD]
 |cons p r Q=>
  intro pre d out h N S a;obtain⟨d,rfl⟩:=bV d;have B:=bF aL h;simp only[cG,cN]at B N;have j:(0:Int)<=(aL pre:Int)/\(aL pre:Int)<(aL l:Int):=aA0;have C:(0:Int)<=(aL pre:Int)/\(aL pre:Int)<=(aL l:Int):=aA0;have T:el l (aL pre:Int)=p:=aA9;have G:eZ (bH (aL pre:Int)) l=pre:=aA6
  have b:=O p aA6;have V:=Yh p b.2;have W:=bkn p.2.1;have i:bK ((aL pre:Int)+1):=cA _ aU aU;have next:∀o:aC,o=out++(59::(p.1++Uh p))->CL pre p=μ->Zy p=μ->aL pre<16->afh FU l d o ((aL pre:Int)+1)=θ (match JD pre (p::r)with|some t=>.inl (out++t)|none=>.inr ([],2)):=by
   intro o A F m k;have I:cK p.1=p.1:=by unfold CL at F;simp only[lA,aW]at F;exact F.1.2
   have D:=Q (pre++[p]) d o aA6 aU (by rw[A];simp only[cG,cN,iP];omega) (λq g=>by
    rcases aV.1 g with hx|hx
    ·exact a q hx
    ·rw[aG.1 hx];exact I)
   rw[show(γ (pre++[p]):Int)=(aL pre:Int)+1 by simp]at D;rw[D,JD,F,m,aD k,Rw,Rw,aM];cases JD (pre++[p]) r with
   |none=>rfl
   |some t=>rw[A];simp
  have U:CL pre p=ν\/Zy p=ν\/¬γ pre<16->JD pre (p::r)=ι:=by
   rintro(h|h|h)
   ·rw[JD,h];rfl
   ·rw[JD,h,eN];rfl
   ·rw[JD,aE h,eN];rfl
  have M:(((y5 FU p.1).bind λ(z:η)=>(bif (!z)then θ μ else((IM FU p.1).bind λ(y:aC)=>(if y=p.1 then((tp FU p.2.1).bind λ(x:η)=>(bif (!x)then θ μ else(bif (!p.2.2)then(if p.2.1=([]:aC)then(gd (0<=(aL pre:Int)/\(aL pre:Int)<=(aL l:Int))<|((IJ FU pre p.1).bind λ(w:ζ)=>θ (!decide (w=(0:ζ)))))else θ μ)else(gd (0<=(aL pre:Int)/\(aL pre:Int)<=(aL l:Int))<|((IJ FU pre p.1).bind λ(v:ζ)=>θ (!decide (v=(0:ζ))))))))else θ μ)))))=θ (!(CL pre p&&Zy p&&decide (aL pre<16))):=by
   rw[bce _ aU,aR,XI _ aU,aR,zZ _ b.2];unfold CL Zy;cases F:iH p.1 with
   |false=>rfl
   |true=>
    rw[gL,aH,Rw];by_cases m:cK p.1=p.1
    ·have f:=uC pre aU (λq g=>(O q (by rw[h];simp[g])).1) p.1 b.1 a m;have H:=qw pre p.1;have R:θ (!decide (yA pre p.1=0))=θ (!(!(pre.any λq=>q.1==p.1)&&decide (aL pre<16))):=by congr 2;rw[YP,aW,H];simp
     rw[aB m,aR,aD m,Rw,aS C,f,aR,R,Bool.not_not];cases k:p.2.2 with
     |false=>
      rw[aH];by_cases L:p.2.1=[]
      ·rw[L,aD rfl,oD];rfl
      ·rw[aA L,aE L,eN];cases p.2.1.any eJ<;>rfl
     |true=>
      rw[gL,aH,aM];cases p.2.1.any eJ with
      |true=>rw[gL,eN];rfl
      |false=>rw[aH,vP,oD]
    ·rw[aA m,aE m];rfl
  rw[axs,ajr,aB j.2,aS j,aS j,T,G,M,aR];cases c:(CL pre p&&Zy p&&decide (aL pre<16))with
  |false=>
   have E:JD pre (p::r)=ι:=by rw[JD,c];rfl
   rw[vP,aM,E]
  |true=>
   simp at c;obtain⟨⟨K,s⟩,n⟩:=c;rw[gL,aH,aS aA2,aS aA2];cases k:p.2.2 with
   |false=>
    rw[aH,aR,aH,aS i];refine next _ ?_ K s n
    have:Uh p=[]:=by unfold Uh;rw[k];rfl
    rw[this];simp
   |true=>
    rw[aM,bce _ aU,aR];have e:(bif iH p.2.1 then θ μ else(aqg FU p.2.1).bind λ(u:η)=>θ u)=θ (iH p.2.1||XZ p.2.1):=by rw[mo _ b.2];cases iH p.2.1<;>rfl
    rw[e,aR];cases P:(iH p.2.1||XZ p.2.1)with
    |true=>
     rw[aS aA2,aS aA2,aS i];refine next _ ?_ K s n
     have:Uh p=61::p.2.1:=by unfold Uh;rw[k,P];rfl
     rw[this];simp
    |false=>
     have J:p.2.1.any eJ=ν:=by unfold Zy at s;rw[k]at s;simpa using s
     rw[aH,Lx _ b.2,aR];unfold xD;rw[J,aA (show¬(ν=μ)by decide)];simp only;rw[aS aA2,aS aA2,aS i];refine next _ ?_ K s n
     have:Uh p=61::Zh p.2.1:=by unfold Uh;rw[k,P];rfl
     rw[this];simp
theorem bdt(l:δ PP)(b:aL l<=100)(c:∀p∈l,aL p.1<=4194304/\γ p.2.1<=4194304):aig FU l=θ (rZ l):=by
 have:=ez l b c l [] FU [] aA3 aA4 aA3 aA3;have a:afh FU l FU [] 0=_:=this;unfold aig rZ;rw[a];by_cases h:16<aL l
 ·rw[aB h,EL l [] aA3 aA8];rfl
 ·rw[aA h,K2 l [] aA2];cases Rn [] l<;>rfl
theorem sE:∀x y:aC,qZ x y= !(qZ y x||y==x)
 |[],[]=>rfl
 |[],b::y=>rfl
 |a::x,[]=>rfl
 |a::x,b::y=>by
  have g:=sE x y;rw[qZ,qZ,g];rcases Nat.lt_trichotomy a.toNat b.toNat with h|h|h
  ·have f:a<b:=h;have d:¬b<a:=by rw[ca];omega
   have c:¬a=b:=λe=>by subst e;omega
   have i:(b::y==a::x)=ν:=by simp;intro e;exact absurd e.symm c
   rw[i];simp[f,d];exact .inl λe=>c e.symm
  ·have e:=jI.1 h;subst e;simp
  ·have f:b<a:=h;have d:¬a<b:=by rw[ca];omega
   have c:¬a=b:=λe=>by subst e;omega
   simp[f,d,c]
def WD(a b:aC):η:= !(qZ a b||a==b)
def Et(x:PP):δ PP->δ PP
 |[]=>[x]
 |a::V=>bif WD a.1 x.1 then a::Et x V else x::a::V
def nQ(x:PP)(l:δ PP):δ PP:=(Et x l.reverse).reverse
theorem Wm(x a:PP)(l:δ PP):nQ x (l++[a])=bif WD a.1 x.1 then nQ x l++[a]else l++[a,x]:=by unfold nQ;rw[List.reverse_append,List.reverse_singleton,pj,Et];cases WD a.1 x.1<;>simp
theorem GF(x:PP):∀V:δ PP,γ (Et x V)=aL V+1
 |[]=>rfl
 |a::V=>by
  rw[Et];cases WD a.1 x.1 with
  |true=>rw[aM,cN,GF x V,cN]
  |false=>rfl
theorem Oy(x:PP)(l:δ PP):γ (nQ x l)=aL l+1:=by unfold nQ;rw[List.length_reverse,GF,List.length_reverse]
theorem Ox(x y:PP):∀V:δ PP,y∈Et x V->y=x\/y∈V
 |[],h=>by left;simpa [Et] using h
 |a::V,h=>by
  rw[Et]at h;cases b:WD a.1 x.1 with
  |true=>
   rw[b]at h;rcases aQ.1 h with rfl|h
   ·right;simp
   ·rcases Ox x y V h with h|h
    ·exact .inl h
    ·right;simp[h]
  |false=>
   rw[b]at h;rcases aQ.1 h with rfl|h
   ·left;rfl
   ·right;exact h
theorem Q0(x y:PP)(l:δ PP)(h:y∈nQ x l):y=x\/y∈l:=by
 rcases Ox x y _ (List.mem_reverse.1 h)with h|h
 ·exact .inl h
 ·exact .inr (List.mem_reverse.1 h)
def fU(l:δ PP):δ PP:=l.foldl (λout x=>nQ x out) []
theorem GV:∀(q p:δ PP),γ (q.foldl (λout x=>nQ x out) p)=aL p+aL q
 |[],p=>by simp
 |a::q,p=>by rw[List.foldl_cons,GV q,Oy,cN];omega
theorem GU(y:PP):∀(q p:δ PP),y∈q.foldl (λout x=>nQ x out) p->y∈p\/y∈q
 |[],p,h=>.inl h
 |a::q,p,h=>by
  rcases GU y q _ h with h|h
  ·rcases Q0 a y p h with h|h
   ·right;simp[h]
   ·exact .inl h
  ·right;simp[h]
theorem bjq(l:δ PP):γ (fU l)=aL l:=by unfold fU;rw[GV];simp
theorem tf(l:δ PP)(y:PP)(h:y∈fU l):y∈l:=by
 rcases GU y l [] h with h|h
 ·simp at h
 ·exact h
theorem KK(l:δ PP)(out:δ PP)(i:Int)(x:PP)(hx:el l i=x)(c:0<=i/\i<aL l)(r:aL out<=4194304)(n:Nat):∀a,n<=aL out->n<a->
  ∃k:Nat,k<=n/\ank FU l out i a n=θ (k:Int)/\(out.take n).take k++([x]++(out.take n).drop k)=nQ x (out.take n):=by
 induction n with
 |zero=>intro a j o;obtain⟨a,rfl⟩:=bV a;exact⟨0,dO _,by rw[awy];rfl,rfl⟩
 |succ n d=>
  intro a j o;obtain⟨a,rfl⟩:=bV a;have e:((n+1:Nat)-1)=(n:Int):=aA0;have b:n<aL out:=aA0;have g:out.take (n+1)=out.take n++[el out (n:Int)]:=wV out n b;rw[awy,arw,aB aU,e,aS (cA _ aU aU),aS aU,aS aU,aS c,aS c,hx,aR,g,Wm];have m:(!(qZ (el out _).1 x.1||(el out n).1==x.1))=WD (el out _).1 x.1:=rfl;rw[m];have f:γ (out.take n)=n:=aB8;cases h:WD (el out _).1 x.1 with
  |true=>obtain⟨k,s,q,p⟩:=d a aU aU;refine⟨k,aA0,by rw[aM,aS (cA _ aU aU),q], ?_⟩;rw[<-p,iM aU,iO aU];simp
  |false=>refine⟨n+1,dO _,by rw[aH], ?_⟩;rw[eW aA2,Rm aA2];simp
theorem UE(l:δ PP)(r:aL l<=4194304)(q:δ PP):∀p c (out:δ PP),l=p++q->aL q<c->aL out=aL p->
  ajq FU l c out (γ p)=θ (q.foldl (λout x=>nQ x out) out):=by
 induction q with
 |nil=>intro p c out h e j;obtain⟨c,rfl⟩:=bV c;rw[gD]at h;rw[awz,alw,aA aC6];rfl
 |cons a q i=>intro p c out h e j;obtain⟨c,rfl⟩:=bV c;have d:=bF aL h;simp at d e;have b:(0:Int)<=(aL p:Int)/\(aL p:Int)<(aL l:Int):=aA0;have f:el l (aL p:Int)=a:=aA9;obtain⟨k,s,n,g⟩:=KK l out (aL p:Int) a f b aU (γ out) FU (dO _) aA4;rw[hZ]at g;have o:((k:Nat):Int).toNat=k:=aA0;have m:=Oy a out;rw[awz,alw,aB b.2,n,aR,aS aU,o,aS aA2,aS b,aS b,f];simp only[Rl];rw[aS aA2,aS aU,aS aA2,aR,aS (cA _ aU aU),gZ,g];have:=i (p++[a]) c (nQ a out) aA6 aU aB4;rw[show(γ (p++[a]))=aL p+1 by simp]at this;exact this
theorem bcb(l:δ PP)(b:aL l<=4194304):bo FU l=θ (fU l):=by have:=UE l b l [] FU [] aA3 aA4 rfl;have a:ajq FU l FU [] 0=_:=this;unfold bo;rw[a];rfl
open List renaming length → aL, set → kZ
def mb(a b:aC):Int:=bif qZ a b then-1 else bif !(qZ a b||a==b)then 1 else 0
theorem zf(fu:Nat)(x y:PP):auo fu x y=θ (mb x.1 y.1):=by
 unfold auo aph aul mb;rw[aR,aR,aD rfl,aD rfl,gL,aH,aH];cases qZ x.1 y.1 with
 |true=>rfl
 |false=>rw[aH,aH];cases(!(ν||x.1==y.1))<;>rfl
theorem cmp_lt(a b:aC):decide (mb a b<0)=qZ a b:=by
 unfold mb;cases qZ a b with
 |true=>rfl
 |false=>rw[aH];cases(!(ν||a==b))<;>rfl
theorem ppE(x:PP):(x.1,x.2.1,x.2.2)=x:=rfl
theorem ma(x:δ PP)(hx:aL x<=4194304)(q:δ PP):∀(p:δ PP) (b:Nat),x=p++q->aL q<b->
  aai FU x b (aL p:Int) p=θ (x,0):=by
 induction q with
 |nil=>intro p b h f;obtain⟨b,rfl⟩:=bV b;rw[gD]at h;subst h;rw[abl,aan,aA aU]
 |cons a q g=>intro p b h f;obtain⟨b,rfl⟩:=bV b;have d:=bF aL h;simp only[cG,cN]at d f;have c:(0:Int)<=(aL p:Int)/\(aL p:Int)<(aL x:Int):=aA0;have i:el x (aL p:Int)=a:=aA9;rw[abl,aan,aB c.2,aS c,aS c,i];unfold abz;simp only[ppE];rw[aS aB5,aR,aB rfl,aS (cA _ aU aU)];have:=g (p++[a]) b aA6 aU;rw[show(γ (p++[a]):Int)=(aL p:Int)+1 by simp]at this;exact this
theorem MK(x:δ PP)(hx:aL x<=4194304):acr FU x=θ x:=by have:=ma x hx x [] FU aA3 aA4;unfold acr adv aaz;have a:aai FU x FU (0:Int) []=_:=this;rw[a,aR,aB rfl];rfl
theorem su(P S:δ PP)(x:PP):el (P++x::S) (aL P:Int)=x:=by simp[el]
theorem ke(n:Nat):∀(P S:δ PP) (x:PP) (c:Nat),aL P=n->n<c->aL P+aL S<=1048575->
  abi FU 0 c (P++x::S) (aL P:Int)=θ (nQ x P++S):=by
 induction n with
 |zero=>intro P S x c i u m;obtain⟨c,rfl⟩:=bV c;obtain rfl:P=[]:=Je i;rw[adu,abf,aA aA3];rfl
 |succ n r=>
  intro P S x c i u m;obtain⟨c,rfl⟩:=bV c;rcases List.eq_nil_or_concat P with rfl|⟨b,a,rfl⟩
  ·simp at i
  ·simp only[List.concat_eq_append]at*;have q:aL b=n:=by simp at i;omega
   have v:((γ (b++[a]):Int)-1)=(aL b:Int):=aA3;have s:el (b++[a]++x::S) (γ (b++[a]):Int)=x:=su _ _ _;have o:el (b++[a]++x::S) (aL b:Int)=a:=by rw[gZ];exact su b (x::S) a
   have d:γ (b++[a]++x::S)=aL b+2+aL S:=aA2;have p:(0:Int)<=(γ (b++[a]):Int)/\(γ (b++[a]):Int)<(γ (b++[a]++x::S):Int):=by rw[d];simp;omega
   have g:(0:Int)<=(aL b:Int)/\(aL b:Int)<(γ (b++[a]++x::S):Int):=by rw[d];omega
   have l:bK (aL b:Int):=cA _ aU (by simp at m;omega);have k:(γ (b++[a]):Int).toNat=aL b+1:=aA3;have j:((aL b:Nat):Int).toNat=aL b:=aA0;rw[adu,abf,v];simp only[s,o,ppE,zf,aR,cmp_lt,aS p,aS g,aS l];rw[aB aB4,aR,sE x.1 a.1,Wm];have t:(!(qZ a.1 x.1||a.1==x.1))=WD a.1 x.1:=rfl;rw[t];cases WD a.1 x.1 with
   |false=>rw[aH,aH];simp
   |true=>
    have f:kZ (b++[a]++x::S) (γ (b++[a]):Int).toNat a=b++a::a::S:=by rw[k,gZ,wP _ _ aU];simp
    have e:kZ (b++a::a::S) ((aL b:Nat):Int).toNat x=b++x::a::S:=by rw[j,wP _ _ aU];simp
    rw[aM,aM,f,e,aS aA2,aS aA2,r b (a::S) x c q aU (by simp at m⊢;omega)];simp
theorem kg(R:δ PP):∀(P:δ PP) (b:Nat) (n:Int),n=(γ (P++R):Int)->γ (P++R)<=1048575->aL R<b->
  aao FU 0 n b (P++R) (aL P:Int)=θ (R.foldl (λout x=>nQ x out) P):=by
 induction R with
 |nil=>intro P b n d f g;obtain⟨b,rfl⟩:=bV b;rw[acb,aaw,aA (by rw[d];simp)];simp
 |cons a R h=>intro P b n d f g;obtain⟨b,rfl⟩:=bV b;simp only[cG,cN]at f g;rw[acb,aaw,aB (by rw[d];simp;omega),ke (γ P) P R a FU rfl aA4 aU,aR,aS (cA _ aU aU)];have c:=Oy a P;have:=h (nQ a P) b n (by rw[d];simp[c];omega) (by simp only[cG,c];omega) aU;rw[c]at this;have e:((aL P:Int)+1)=((aL P+1:Nat):Int):=rfl;rw[e,this];rfl
theorem za(l:δ PP)(b:aL l<=1048575):aau FU l 0 (aL l:Int)=θ (fU l):=by
 unfold aau;rw[aS (cA _ aU aU)];cases l with
 |nil=>obtain⟨m,c⟩:∃m,FU=m+1:=⟨FU-1,by rw[dK]⟩;rw[show(aao FU 0 (γ ([]:δ PP):Int) FU [] (0+1))=aao FU 0 (γ ([]:δ PP):Int) (m+1) [] (0+1)by rw[<-c]];rw[acb,aaw,aA aA3];rfl
 |cons a l=>have:=kg l [a] FU (γ (a::l):Int) rfl b (by rw[dK];simp at b;omega);exact this
open Go.Lib renaming cut → eF, index → cE
theorem Li(l:δ PP)(d:γ l<20):aay FU l=θ (fU l):=by
 unfold aay acf;obtain⟨m,a⟩:∃m,FU=m+1:=⟨FU-1,by rw[dK]⟩
 have c:abc FU (γ l) FU l 0 20=θ (l,0):=by
  have:∀k,abc FU (γ l) (k+1) l (0:Int) (20:Int)=θ (l,0):=λk=>by rw[alr,acp,aA aU]
  have:=this m;rw[<-a]at this;exact this
 have b:abb FU (γ l) FU (fU l) 20=θ (fU l):=by
  have:∀k,abb FU (γ l) (k+1) (fU l) (20:Int)=θ (fU l):=λk=>by rw[alq,aco,aA aU]
  have:=this m;exact this
 rw[c,aR];rw[za l aU,aR,b];rfl
theorem TP:acg FU=aay FU:=by kernel_rfl
theorem tZ(l:δ PP)(a:γ l<20):XM FU l=θ (fU l):=by unfold XM amw aba;rw[aR,MK l aU,aR,TP,Li l a];rfl
theorem Q2(c:ζ):∀v:aC,(cE v [c]= -1/\∀b∈v,b≠c)\/(∃f a,v=f++c::a/\(∀b∈f,b≠c)/\cE v [c]=(γ f:Int))
 |[]=>.inl ⟨rfl,aA3⟩
 |b::l=>by
  rw[bck];have e:([c]:aC).isPrefixOf (b::l)=(c==b):=by simp[List.isPrefixOf]
  rw[e];by_cases h:b=c
  ·subst h;right;exact⟨[],l,rfl,aA3,by rw[aB aA3];rfl⟩
  ·rw[aA (by simpa using λx=>h x.symm)];rcases Q2 c l with⟨g,d⟩|⟨f,a,g,d,i⟩
   ·left;rw[aB g];exact⟨rfl,λx hx=>by rcases aQ.1 hx with rfl|hx;exact h;exact d x hx⟩
   ·right;refine⟨b::f,a,by rw[g];rfl,λx hx=>by rcases aQ.1 hx with rfl|hx;exact h;exact d x hx, ?_⟩;rw[aA aU,i,cN];omega
def Xa(v:aC):η:=iH (eF v [47]).1&&(!(eF v [47]).2.2||iH (eF v [47]).2.1)
theorem tok47:cJ 47=ν:=aA1
theorem zJ(p:ζ->η)(l:aC):l.all p=decide (cI p l=γ l):=by have:=bkk p l;rw[YP,aW];exact this.symm
theorem Ur(p:ζ->η):∀(f:aC) (c:ζ) (b:aC),f.all p=ν->cI p (f++c::b)<γ f/\p (at_ (f++c::b) (cI p (f++c::b):Int))=ν
 |[],c,b,h=>by cases h
 |a::f,c,b,h=>by
  cases d:p a with
  |false=>rw[NM,lQ p a _ d];exact⟨aA3,by simpa [at_] using d⟩
  |true=>
   rw[Jf,d,Rw]at h;have g:=Ur p f c b h;have e:cI p (a::f++c::b)=cI p (f++c::b)+1:=by rw[NM,cI,aB d]
   rw[e];refine⟨by rw[cN];omega, ?_⟩;have:=g.2;simpa [at_] using this
theorem P5(v:aC):Xa v=decide (v≠[]/\kK v=γ v):=by
 unfold Xa kK;rw[wZ,Fh];have w:=Tp cJ v;rcases Q2 47 v with⟨g,p⟩|⟨f,i,g,p,x⟩
 ·rw[aB g];simp only[vP,tS,oD];have j:cR v (cI cJ v) 47=ν:=by
   cases h:cR v _ 47 with
   |false=>rfl
   |true=>have:=wM h;exact absurd this.2 (p _ (at_mem v _ this.1))
  rw[j];unfold iH;rw[zJ,YP];simp only[lA,gJ,Tu,aW];constructor
  ·rintro⟨a,b⟩;have:=bL.2 a;exact⟨a,by rw[aA aU];exact b⟩
  ·rintro⟨a,b⟩;have:=bL.2 a;refine⟨a, ?_⟩;split at b
   ·omega
   ·exact b
 ·rw[aA aU,x];have y:(γ f:Int).toNat=γ f:=by omega
  have z:v.take (γ f)=f:=by rw[g,fJ]
  have s:v.drop (γ f+γ ([47]:aC))=i:=by rw[g,eI,show f++47::i=(f++[47])++i by simp,show γ f+1=γ (f++[47]) by simp,eM]
  rw[y,z,s];simp only[gL,NL];have m:γ v=γ f+1+γ i:=by rw[g];simp;omega
  have o:v≠[]:=by intro e;rw[e,iP]at m;omega
  cases k:f.all cJ with
  |false=>
   have d:=Ur cJ f 47 i k;rw[<-g]at d;have j:cR v (cI cJ v) 47=ν:=by
    cases h:cR v _ 47 with
    |false=>rfl
    |true=>
     exfalso;have r:=(wM h).2;have u:at_ v (cI cJ v)∈f:=by
      have:at_ v (cI cJ v)=at_ f (cI cJ v):=by rw[g];simp only[at_,bJ];rw[aJ (by rw[<-g];omega)]
      rw[this];exact at_mem f _ d.1
     exact p _ u r
   have t:iH f=ν:=by unfold iH;rw[k,eN]
   rw[t,tT,j,aA (show¬(ν=μ)by decide)];symm;rw[bM];rintro⟨_,b⟩;split at b<;>omega
  |true=>
   have d:cI cJ v=γ f:=by rw[g,Ln cJ f _ k,lQ cJ 47 i tok47];omega
   have hO:at_ v (γ f:Nat)=47:=by rw[g,Rp]
   have j:cR v (cI cJ v) 47=μ:=by unfold cR;rw[d,hO,aD aU];rfl
   have n:bT cJ v (γ f+1:Nat)=γ f+1+cI cJ i:=by
    unfold bT;rw[tt _ _ aU];have:v.drop (γ f+1)=i:=by rw[<-s,eI]
    rw[this]
   rw[j,aB rfl,d,n];unfold iH;rw[k,oD,zJ];rw[YP];simp only[lA,gJ,Tu,aW];constructor
   ·rintro⟨a,b,c⟩;have r:=bL.2 a;have A:=bL.2 b;refine⟨o, ?_⟩;rw[aA aU,aA aU];omega
   ·rintro⟨_,b⟩;by_cases q:γ f=0
    ·rw[aB q]at b;omega
    ·rw[aA q]at b;by_cases l:γ f+1+cI cJ i=γ f+1
     ·rw[aB l]at b;omega
     ·rw[aA l]at b;exact⟨λe=>q aF6,λe=>by rw[e]at l;simp[cI]at l,aA0⟩
theorem uE(l:δ PP)(b:∀p∈l,γ p.1<=4194304/\γ p.2.1<=4194304):γ (rZ l).1<=256000000:=by
 unfold rZ;split
 ·simp
 ·rename_i h;cases a:Rn [] l with
  |none=>simp
  |some t=>have:=Zo l [] t b a;simp only;omega
def xE(x:aC×δ PP):aC×ζ:=if Xa x.1=μ/\(rZ (fU x.2)).2=0 then(x.1++(rZ (fU x.2)).1,0)else([],2)
theorem Ly(x:aC×δ PP)(l:γ x.1<=4194304)(m:γ x.2<=40)(k:∀p∈x.2,γ p.1<=4194304/\γ p.2.1<=4194304):avu FU x=θ (xE x):=by
 have c:∀p∈fU x.2,γ p.1<=4194304/\γ p.2.1<=4194304:=λp i=>k p (tf _ p i);have j:=bjq x.2;have g:=uE _ c;unfold avu xE;rw[bcb x.2 aU,aR,bdt _ aU c,aR,P5];by_cases e:x.1=[]
 ·rw[aB e,aR,aM,aA (by rintro⟨a,b⟩;rw[aW]at a;exact a.1 e)]
 ·rw[aA e,Ou x.1 l,aR];by_cases f:kK x.1=γ x.1
  ·rw[aB aU,aR];by_cases d:(rZ (fU x.2)).2=0
   ·rw[aD d,gL,aH,aS aU,aB ⟨aD ⟨e,f⟩,d⟩]
   ·rw[aE d,vP,aM,aA (λh=>d h.2)]
  ·rw[aA aU,aR,aM,aA (by rintro⟨a,b⟩;rw[aW]at a;exact f a.2)]
theorem FA(l:δ PP)(h:16<γ l):XN FU l=θ ([],2):=by unfold XN;rw[aB aU]
theorem Zl(x:aC×δ PP)(t:γ x.1<=4194304)(q:γ x.2<=19)(n:∀p∈x.2,γ p.1<=4194304/\γ p.2.1<=4194304):auj FU x=θ (xE x):=by
 have b:∀p∈fU x.2,γ p.1<=4194304/\γ p.2.1<=4194304:=λp k=>n p (tf _ p k);have m:=bjq x.2;have j:=uE _ b;have s:=BH x.1 [47];unfold auj xE;rw[aS aU,te _ aU,aR];have e:(bif (!iH (eF x.1 [47]).1)then θ μ else(bif ((eF x.1 [47]).2.2)then((YE FU ((eF x.1 [47]).2.1)).bind λf=>θ (!f))else θ ν))=θ (!Xa x.1):=by unfold Xa;rw[te _ aU];cases iH (eF x.1 _).1<;>cases(eF x.1 _).2.2<;>simp
 rw[e,aR];cases r:Xa x.1 with
 |false=>rw[vP,aM,aA (λh=>absurd h.1 aA1)]
 |true=>
  rw[gL,aH];obtain⟨y,g,i⟩:∃y,((XM FU x.2).bind λ(d:δ PP)=>((XN FU d).bind λ(a:(aC×ζ))=>(if a.2=(0:ζ)then(gd (γ x.1+γ a.1<=9223372036854775807)<|some (x.1++a.1,0))else θ (([]:aC),(2:ζ)))))=(if(rZ (fU x.2)).2=(0:ζ)then(gd (γ x.1+γ (rZ (fU x.2)).1<=9223372036854775807)<|some (x.1++(rZ (fU x.2)).1,(0:ζ)))else θ (([]:aC),(2:ζ)))/\y=0:=by
   refine⟨0, ?_,rfl⟩;by_cases o:16<γ x.2
   ·have l:rZ (fU x.2)=([],2):=by unfold rZ;rw[aB aU]
    rw[tZ x.2 aU,aR,FA _ aU,aR,l]
   ·rw[tZ x.2 aU,aR,bil _ b,aR]
  rw[g];by_cases c:(rZ (fU x.2)).2=0
  ·rw[aB c,aS aU,aB ⟨rfl,c⟩]
  ·rw[aA c,aA (λh=>c h.2)]
theorem Mu(s:aC):∀(f:Nat) (l:δ PP) (i:Nat),γ l<=16->γ (kH s f l i).1<=16
 |0,_,_,_=>by simp[kH]
 |f+1,l,i,h=>by
  rw[kH];split
  ·exact h
  ·split
   ·simp
   ·split
    ·split
     ·rename_i b;have a:=((qw l _).1 b).2;exact Mu s f _ _ aB7
     ·simp
    ·simp
theorem Er(v:aC):γ (BT v).1.2<=16:=by
 unfold BT;split
 ·simp
 ·split
  ·exact Mu _ _ _ _ aA3
  ·simp
end Go.Wk
set_option maxRecDepth 20000
namespace Go.Wk
open Go.Px
open List renaming length → aL
variable {c:ζ}
theorem RP(h:gA c=ν):c<48\/(57:ζ)<c:=by
 by_cases b:c<48
 ·exact .inl b
 ·by_cases a:(57:ζ)<c
  ·exact .inr a
  ·exfalso;have:gA c=μ:=by rw[pH];rw[ca]at b a;have e:(48:ζ).toNat=48:=rfl;have d:(57:ζ).toNat=57:=rfl;omega
   rw[this]at h;cases h
theorem HO(h:gA c=μ):(c-48).toNat=c.toNat-48/\¬c<48/\¬(57:ζ)<c/\c.toNat<=57:=by
 have b:=(pH c).1 h;refine⟨?_, ?_, ?_,aA0⟩
 ·have a:(48:ζ)<=c:=by rw[wO];show 48<=c.toNat;omega
  rw[XR _ _ a];rfl
 ·rw[ca];show¬c.toNat<48;omega
 ·rw[ca];show¬57<c.toNat;omega
def eV(s:aC):Int×ζ:=
 if γ s<1\/10<aL s\/s.all gA=ν then(0,5)else if 2147483647<mP s then(0,3)else((mP s:Int),0)
theorem LB(s:aC)(t:aL s<=18)(l:aC):∀(p:aC) (a:Nat),s=p++l->aL l<a->p.all gA=μ->
  ant FU s a (mP p:Int) (aL p:Int)=θ (if l.all gA=μ then .inl (mP s:Int)else .inr ((0:Int),(5:ζ))):=by
 induction l with
 |nil=>intro p a h i f;obtain⟨a,rfl⟩:=bV a;rw[gD]at h;subst h;rw[axc,ama,aA aU];rfl
 |cons c l o=>
  intro p a h i f;obtain⟨a,rfl⟩:=bV a;have b:(0:Int)<=(aL p:Int)/\(aL p:Int)<(aL s:Int):=by rw[h,cG,cN];omega
  have j:at_ s (aL p:Int)=c:=aE0;simp only[cN]at i;cases d:gA c with
  |false=>
   rw[axc,ama,aB b.2,aS b,j,Jf,d,tT,aA (show¬ν=μ by decide)];rcases RP d with g|g
   ·rw[aB g,aR,aM]
   ·by_cases k:c<48
    ·rw[aB k,aR,aM]
    ·rw[aA k,aS b,aD g,aR,aM]
  |true=>
   obtain⟨hx,n,m,q⟩:=HO d;have r:=uS 17 p (by have:=bF aL h;rw[cG,cN]at this;omega) f;rw[axc,ama,aB b.2,aS b,j,aA n,aS b,aE m,aR,aH,hx,aS (cA _ aU aU),aS b,aS (cA _ aU aU),aS (cA _ aU aU)];have e:(10:Int)*(mP p:Int)+((c.toNat-48:Nat):Int)=(mP (p++[c]):Int):=by rw[bcm];omega
   rw[e,Xp p c,Jf,d,Rw];exact o (p++[c]) a aA6 aU (by rw[eA,f];simpa using d)
theorem uH(s:aC):tw FU s=θ (eV s):=by
 unfold tw eV;by_cases c:aL s<1
 ·rw[aB aU,aR,aM,aB (.inl c)]
 ·rw[aA aU,aR];by_cases b:10<aL s
  ·rw[aD aU,aM,aB (.inr (.inl b))]
  ·rw[aE aU,aH];have:=LB s aU s [] FU aA3 aA4 aA3;change ant FU s FU (0:Int) (0:Int)=_ at this;rw[this,aR];cases d:s.all gA with
   |false=>rw[aA (show¬ν=μ by decide),Rt,aB (.inr (.inr rfl))]
   |true=>
    rw[aB rfl,kA,aA (show¬(aL s<1\/10<aL s\/μ=ν)by rintro(h|h|h)<;>first|omega|cases h)];by_cases a:2147483647<mP s
    ·rw[aB aU,aB a]
    ·rw[aA aU,aA a]
theorem Sm(s:aC)(w:aL s<=4194304)(l:aC):∀(p:aC) (a:Nat),s=p++l->aL l<a->p.all gA=μ->aL p<=10->
  anr FU s a (mP p:Int) (aL p:Int)=θ (if l.all gA=μ/\γ s<=10 then .inl (mP s:Int)else .inr ((0:Int),(5:ζ))):=by
 induction l with
 |nil=>intro p a h m f k;obtain⟨a,rfl⟩:=bV a;rw[gD]at h;subst h;rw[axa,alx,aA aU,aB ⟨rfl,k⟩]
 |cons c l r=>
  intro p a h m f k;obtain⟨a,rfl⟩:=bV a;have j:aL s=aL p+(aL l+1):=by rw[h,cG,cN]
  have b:(0:Int)<=(aL p:Int)/\(aL p:Int)<(aL s:Int):=aA0;have n:at_ s (aL p:Int)=c:=aE0;simp only[cN]at m;cases d:gA c with
  |false=>
   rw[axa,alx,aB b.2,aS b,n,Jf,d,tT,aA (show¬(ν=μ/\γ s<=10)by rintro⟨h,_⟩;cases h)];by_cases g:c<48
   ·rw[aB g,aR,aM]
   ·rcases RP d with i|i
    ·exact absurd i g
    ·rw[aA g,aS b,aB i,aR,aM]
  |true=>
   obtain⟨hx,q,o,u⟩:=HO d;rw[axa,alx,aB b.2,aS b,n,aA q,aS b,aA o,aR];by_cases t:10<=aL p
   ·rw[aD aU,aM,aA (by rintro⟨_,h⟩;omega)]
   ·have v:=uS 17 p aU f;rw[aE aU,aH,hx,aS (cA _ aU aU),aS b,aS (cA _ aU aU),aS (cA _ aU aU)];have e:(10:Int)*(mP p:Int)+((c.toNat-48:Nat):Int)=(mP (p++[c]):Int):=by rw[bcm];omega
    rw[e,Xp p c,Jf,d,Rw];exact r (p++[c]) a aA6 aU (by rw[eA,f];simpa using d) aA2
theorem bhl(s:aC)(d:aL s<=4194304):aor FU s=θ (eV s):=by
 unfold aor eV;have:=Sm s d s [] FU aA3 aA4 aA3 aA3;change anr FU s FU (0:Int) (0:Int)=_ at this;rw[this,aR];by_cases c:s=[]
 ·subst c;rfl
 have f:0<aL s:=bL.2 c;by_cases b:s.all gA=μ/\γ s<=10
 ·rw[aB b,kA,aA c,aA (show¬(aL s<1\/10<aL s\/s.all gA=ν)by rintro(h|h|h)<;>first|omega|(rw[b.1]at h;cases h))];by_cases a:2147483647<mP s
  ·rw[aB aU,aB a]
  ·rw[aA aU,aA a]
 ·rw[aA b,Rt,aB];by_cases e:10<aL s
  ·exact .inr (.inl e)
  ·cases a:s.all gA with
   |false=>exact .inr (.inr rfl)
   |true=>exact absurd ⟨a,aA0⟩ b
def Bx(s:aC):Int×ζ:=if(eV s).2=0/\((eV s).1<1\/65535<(eV s).1)then(0,3)else eV s
theorem KT(s:aC)(d:aL s<=4194304):bhu FU s=θ (Bx s):=by
 unfold bhu Bx;rw[bhl s d,aR];by_cases a:(eV s).2=0
 ·rw[aB a];by_cases c:(eV s).1<1
  ·rw[aB c,aR,aM,aB ⟨a,.inl c⟩]
  ·rw[aA c,aR];by_cases b:65535<(eV s).1
   ·rw[aD b,aM,aB ⟨a,.inr b⟩]
   ·rw[aE b,aH,aA (by rintro⟨_,h|h⟩<;>contradiction)]
 ·rw[aA a,aR,aH,aA (λh=>a h.1)]
end Go.Wk
set_option maxRecDepth 100000
namespace Go.Wk
open Go.Px
open Go.Lib renaming decDigits → mC, itoa → gM
open UInt8 renaming ofNat → qK
theorem dig_of:∀n:Fin 10,gA (qK (48+n.val))=μ/\(qK (48+n.val)).toNat-48=n.val/\sub ([48,49,50,51,52,53,54,55,56,57]:aC) (n.val:Int) ((n.val:Int)+1)=[qK (48+n.val)]:=aA5
theorem pI(n:Nat)(h:n<10):gA (qK (48+n))=μ/\(qK (48+n)).toNat-48=n/\sub ([48,49,50,51,52,53,54,55,56,57]:aC) (n:Int) ((n:Int)+1)=[qK (48+n)]:=dig_of ⟨n,h⟩
theorem Pv:∀(k n:Nat),n<10^(k+1)->(mC n).all gA=μ/\mP (mC n)=n/\1<=γ (mC n)/\γ (mC n)<=k+1:=by
 intro k;induction k with
 |zero=>intro n h;have h:n<10:=aA8;have:=pI n h;rw[mC,Xx h];refine⟨by simpa using this.1, ?_,aA3,aA3⟩;show 10*0+_=n;omega
 |succ k c=>
  intro n h;rw[mC];by_cases a:n<10
  ·have:=pI n a;rw[Xx a];refine⟨by simpa using this.1, ?_,aA3,aA3⟩;show 10*0+_=n;omega
  ·have b:=pI (n%10) (NI _ aA1);have:=c (n/10) aF1;rw[dif_neg a];refine⟨by rw[eA,this.1];simpa using b.1, ?_,aA3,by simp;omega⟩;rw[bcm,this.2.1,b.2.1];omega
theorem nP(n:Nat):gM (n:Int)=mC n:=by unfold gM;rw[aA aA0,lB]
theorem bgf(n:Int)(e:0<=n)(h:n<=65535):eV (gM n)=(n,0)/\1<=γ (gM n)/\γ (gM n)<=5/\(gM n).all gA=μ:=by obtain⟨m,rfl⟩:∃m:Nat,n=(m:Int):=⟨n.toNat,aA0⟩;obtain⟨a,d,c,b⟩:=Pv 4 m aA0;rw[nP];refine⟨?_,c,b,a⟩;unfold eV;rw[a,d,aA (by rintro(h|h|h)<;>first|omega|cases h),aA aA0]
theorem Za:∀(k n a:Nat),n<10^(k+1)->k+1<a->k<=15->SP a (n:Int)=θ (mC n):=by
 intro k;induction k with
 |zero=>intro n a h g c;obtain⟨a,rfl⟩:=bV a;have h:n<10:=aA8;rw[SP,aB aA0,dS,aS aA2,(pI n h).2.2,mC,Xx h]
 |succ k f=>
  intro n a h g c;obtain⟨a,rfl⟩:=bV a;have j:10^(k+1+1)<=10^17:=Nat.pow_le_pow_right aA1 aA0;rw[SP,mC];by_cases d:n<10
  ·rw[aB aA0,Xx d,dS,aS aA2,(pI n d).2.2]
  ·have m:(n:Int)/10=((n/10:Nat):Int):=by omega
   have l:(n:Int)%10=((n%10:Nat):Int):=aA0;have e:n/10<10^(k+1):=aF1;have o:=(Pv k _ e).2.2.2;have b:0<=(n:Int)/\0<(10:Int)/\bK (n:Int):=⟨aA0,aA0,cA _ aA0 aA0⟩;have i:=pI (n%10) (NI _ aA1);rw[aA aA0,dif_neg d,aS b,m,f (n/10) a e aA0 aA0,aR,aS b,aS b,l,aS (cA _ aA0 aA0),aS aA2,i.2.2,aS aA2]
theorem aux(n:Int)(a:0<=n)(h:n<=9999999999999999):SP FU n=θ (gM n):=by obtain⟨m,rfl⟩:∃m:Nat,n=(m:Int):=⟨n.toNat,aA0⟩;rw[nP];exact Za 15 m FU aA0 aA4 aA1
open Go.Lib renaming itoa → gM
open Int renaming toNat → bH
open List renaming drop → cC, length → aL, take → eZ
abbrev VV:=aC×aC×Int×aC×δ PP
def rH:VV:=([],[],0,[],[])
def VER:aC:=[83,73,80,47,50,46,48,47]
def uo:aC:=[98,114,97,110,99,104]
def Xk(s:aC):aC:=s.map Hn
theorem oQ(s:aC):γ (Xk s)=aL s:=by unfold Xk;exact Gf ..
theorem B0(s:aC)(g:aL s<=9223372036854775807)(l:aC):∀p a,aL p+aL l=aL s->aL l<a->
  adg FU s a (p++l) (γ p)=θ (p++l.map Hn):=by
 induction l with
 |nil=>intro p a d e;obtain⟨a,rfl⟩:=bV a;simp at d;rw[ain,acz,aA aU];rfl
 |cons c l f=>intro p a d e;obtain⟨a,rfl⟩:=bV a;simp at d e;have b:=xH p c l;rw[ain,acz,aB aU,aS b,aS b,Rp,Yc];simp only[aR];rw[aS b,aS b,aS (cA _ aU aU),oU,Xp p _,f _ a aB4 aU];simp
theorem Ku(s:aC)(a:aL s<=9223372036854775807):ace FU s=θ (Xk s):=by unfold ace;have:=B0 s a s [] FU aA3 aA4;simp at this;rw[this];rfl
theorem zn(l:δ PP)(j:aL l<=4194304)(e:∀p∈l,aL p.1<=4194304)(y:aC)(n:Nat):∀k a,k+n=aL l->n<a->
  aqw FU l y a k=θ (match(l.drop k).find? (λp=>cK p.1==y)with|none=>.inl ()|some p=>.inr (p.2.1,μ)):=by
 induction n with
 |zero=>intro k a f g;obtain⟨a,rfl⟩:=bV a;obtain rfl:k=aL l:=aA0;rw[bhc,aup,aA aU,XT];rfl
 |succ n d=>
  intro k a f g;obtain⟨a,rfl⟩:=bV a;have b:k<aL l:=aA0;have c:0<=(k:Int)/\(k:Int)<(aL l:Int):=aA0;have i:l.drop k=el l (k:Int)::l.drop (k+1):=by rw[Pr _ _ b,zbD b]
  rw[bhc,aup,aB c.2,aS c,aS c,bc _ (e _ (BC l k b)),aR,i,List.find?_cons];by_cases h:cK (el l k).1=y
  ·rw[aB h,show(cK (el l _).1==y)=μ by simpa using h]
  ·rw[aA h,show(cK (el l (k:Int)).1==y)=ν by simpa using h,aS (cA _ aU aU),lZ,d _ a aU aU]
theorem get_eq(l:δ PP)(d:aL l<=4194304)(b:∀p∈l,aL p.1<=4194304)(name:aC)(c:aL name<=4194304):bbq FU l name=θ (Il l name):=by have:=zn l d b (cK name) (γ l) 0 FU aU aA4;rw[YN]at this;have a:aqw FU l _ FU 0=_:=this;unfold bbq;rw[bc _ c,aR,a];have e:Il l name=(match l.find? (λp=>cK p.1==cK name)with|some p=>(p.2.1,μ)|none=>([],ν)):=rfl;rw[e];cases l.find? (λp=>cK p.1==cK name)<;>rfl
theorem pJ(v:aC)(c:ζ):Lib.contains v [c]=v.any (·==c):=by
 unfold Lib.contains;rcases Q2 c v with⟨a,b⟩|⟨f,e,a,b,d⟩
 ·rw[a,aE aU];symm;rw[dC];intro x hx;simpa using b x hx
 ·rw[d,a];simp
def jE(P:aC):aC×aC×η:=
 if kS (·==58) P<0 then(P,[],ν)
 else if((P.take (kS (·==58) P).toNat).any (·==91)&&(P.drop (kS (·==58) P).toNat).any (·==93))=μ then(P,[],ν)
 else(P.take (kS (·==58) P).toNat,P.drop (kS (·==58) P+1).toNat,μ)
theorem MI(P:aC)(f:aL P<=4194304):ayf FU P=θ (jE P):=by
 have b:=uJ (·==58) P;unfold ayf jE;rw[aS aU];generalize kS _ P=a at b⊢;by_cases h:a<0
 ·rw[aB h,aR,aM,aB h]
 ·have e:0<=a/\a<aL P:=by omega
  rw[aA h,aA h,aS aU,aS aB8,pJ,pJ];have c:∀o:ε η,o=θ ((P.take a.toNat).any (·==91)&&(P.drop a.toNat).any (·==93))->(o.bind λ(v:η)=>(bif v then θ (P,([]:aC),ν)else(gd (0<=a/\a<=(aL P:Int))<|(gd (bK (a+(1:Int)))<|(gd (0<=(a+1)/\(a+1)<=aL P)<|some (eZ (bH a) P,cC (bH (a+1)) P,μ))))))=θ (if((P.take a.toNat).any (·==91)&&(P.drop a.toNat).any (·==93))=μ then(P,[],ν)else(P.take a.toNat,P.drop (a+1).toNat,μ)):=by
   intro o d;rw[d,aR];cases((P.take a.toNat).any _&&(P.drop a.toNat).any _)with
   |true=>rfl
   |false=>rw[aH,aS aU,aS (cA _ aU aU),aS aU,aA (show¬(ν=μ)by decide)]
  refine c _ ?_;cases(P.take a.toNat).any _ with
  |false=>rfl
  |true=>rw[aM,aS aU,aS aB6,Rw]
theorem HR(P:aC):γ (jE P).1<=aL P/\γ (jE P).2.1<=aL P:=by
 unfold jE;split
 ·simp
 ·split
  ·simp
  ·simp;omega
def mL(c:ζ):η:=c==59||bX c
theorem ef:(λc=>([59,32,9]).contains c)=mL:=by funext c;revert c;exact fM _ aA5
def wT(c h:aC)(b:Int)(a:aC):VV×ζ:=if(fR a).2.2=0 then((c,h,b,(Il (fR a).1 uo).1,(fR a).1),0)else(rH,(fR a).2.2)
def Cz(b place a:aC):VV×ζ:=
 if(eO (jE place).1).2=ν then(rH,5)
 else if(jE place).2.2=μ then(if(Bx (jE place).2.1).2=0 then wT b (eO (jE place).1).1 (Bx (jE place).2.1).1 a else(rH,(Bx (jE place).2.1).2))
 else wT b (eO (jE place).1).1 0 a
def mD(v:aC):VV×ζ:=
 if(cT v).length<8 then(rH,5)
 else if¬Xk ((cT v).take 8)=VER then(rH,5)
 else if bT cJ (cT v) 8=8 then(rH,5)
 else if bT bX (cT v) (bT cJ (cT v) 8)=bT cJ (cT v) 8 then(rH,5)
 else Cz (Xk (sub (cT v) 8 (bT cJ (cT v) 8)))
  (((cT v).drop (bT bX (cT v) (bT cJ (cT v) 8))).take (cI (λc=> !mL c) ((cT v).drop (bT bX (cT v) (bT cJ (cT v) 8)))))
  (((cT v).drop (bT bX (cT v) (bT cJ (cT v) 8))).drop (cI (λc=> !mL c) ((cT v).drop (bT bX (cT v) (bT cJ (cT v) 8)))))
theorem Ms(s:aC)(d:aL s<=4194304):∀f l i,(∀p∈l,cK p.1=p.1/\γ p.1<=aL s/\γ p.2.1<=90000000)->∀p∈(kH s f l i).1,cK p.1=p.1/\γ p.1<=aL s/\γ p.2.1<=90000000
 |0,_,_,_=>by simp[kH]
 |f+1,l,i,h=>by
  rw[kH];split
  ·exact h
  ·split
   ·simp
   ·split
    ·rename_i e;have c:=jL bX s ((bT bX s i+1):Int);have a:=FB s d _ c e;split
     ·refine Ms s d f _ _ λp b=> ?_;rcases aV.1 b with b|b
      ·exact h p b
      ·rw[aG.1 b];exact⟨a.2.2.2.1,a.2.2.2.2.1,a.2.2.2.2.2⟩
     ·simp
    ·simp
theorem bcf(s:aC)(a:aL s<=4194304):∀p∈(fR s).1,cK p.1=p.1/\γ p.1<=aL s/\γ p.2.1<=90000000:=Ms s a _ [] 0 aA3
theorem Ac(s:aC):γ (fR s).1<=16:=Mu s _ [] 0 aA3
theorem OD(d h:aC)(b:Int)(a:aC)(e:aL a<=4194304):((ajz FU a).bind λ(y:((δ PP)×Int×ζ))=>(if y.2.2=0 then((bbq FU y.1 ([98,114,97,110,99,104])).bind λg=>θ ((d,h,b,g.1,y.1),0))else θ (([],[],0,[],[]),y.2.2)))=θ (wT d h b a):=by
 have j:=Ac a;have i:=bcf a e;unfold wT;rw[Dq a e,aR];by_cases c:(fR a).2.2=0
 ·rw[aB c,aB c,get_eq _ aU (λp f=>by have:=(i p f).2.1;omega) _ aA1];rfl
 ·rw[aA c,aA c];rfl
theorem PY(y:Int×ζ):((if y.2=0 then(if y.1<1 then θ μ else θ (decide (65535<y.1)))else θ ν).bind λb=>(bif b then θ 3 else θ y.2))=θ (if y.2=0/\(y.1<1\/65535<y.1)then 3 else y.2):=by
 by_cases a:y.2=0
 ·rw[aB a];by_cases d:y.1<1
  ·rw[aB d,aB ⟨a,.inl d⟩];rfl
  ·rw[aA d];by_cases c:65535<y.1
   ·rw[aD c,aB ⟨a,.inr c⟩];rfl
   ·rw[aE c,aA (by rintro⟨_,h|h⟩<;>contradiction)];rfl
 ·rw[aA a,aA (λh=>a h.1)];rfl
theorem vh(v:aC)(C:aL v<=4194304):bii FU v=θ (mD v):=by
 have E:=BZ v;unfold bii mD;rw[lP v C,aR];generalize cT v=s at E⊢;by_cases B:aL s<8
 ·rw[aB (show(aL s:Int)<8 by omega),aB B];rfl
 rw[aA (show¬(aL s:Int)<8 by omega),aA B,aS aU,Ku _ aB8,aR,aR];by_cases q:Xk (s.take 8)=VER
 ·have d:Xk (eZ (bH (8:Int)) s)=([83,73,80,47,50,46,48,47]:aC):=q;have u:=Ca cJ s 8 aU;have l:=jL cJ s 8;have m:8<=bT cJ s 8:=u;rw[aD d,gL,aH,aA (not_not_intro q),oR s aU,aR,uV s aU,aR];generalize bT cJ s 8=k at m l⊢;have x:=Ca bX s k l;have w:=jL bX s (k:Int);generalize bT bX s (k:Int)=i at x w⊢;by_cases j:k=8
  ·rw[aB aU,aB j];rfl
  rw[aA aU,aR,aA j];by_cases n:i=k
  ·rw[aD aU,aB n];rfl
  rw[aE aU,aH,aA n,aS aU,Ku _ aC4,aR,aS aU,lB];have y:γ (s.drop i)<=4194304:=aB6;generalize Xk (sub s (8:Int) (k:Int))=G;generalize s.drop i=P at y⊢;have e:=nk mL P;have A:=Tp (λc=> !mL c) P;have t:∀o:ε (aC×aC),o=θ (P.take (cI (λc=> !mL c) P),P.drop (cI (λc=> !mL c) P))->∀f:aC×aC->ε (VV×ζ),o.bind f=f (P.take (cI (λc=> !mL c) P),P.drop (cI (λc=> !mL c) P)):=λo D f=>by rw[D];rfl
  rw[t _ (by
   rw[aS ⟨aA0,aA1,aA1⟩,azk,ef];by_cases hx:(0:Int)<=dN mL P
   ·rcases e with h|h
    ·omega
    ·rw[aB hx,aS aU,aS aU,h.2.2,lB]
   ·rcases e with h|h
    ·rw[aA hx,h.2,hZ,XT]
    ·omega)]
  have g:γ (P.take (cI (λc=> !mL c) P))<=4194304:=aB8;have b:γ (P.drop (cI (λc=> !mL c) P))<=4194304:=aB6;generalize P.take (cI (λc=> !mL c) P)=a at g⊢;generalize P.drop (cI (λc=> !mL c) P)=z at b⊢;have F:=HR a;unfold Cz;simp only;rw[MI a g,aR,bjy _ aU,aR];cases H:(eO (jE a).1).2 with
  |false=>rfl
  |true=>
   rw[gL,aH,aA (show¬(μ=ν)by decide)];cases I:(jE a).2.2 with
   |false=>rw[aH,aR,kA,OD _ _ _ _ b,aA (show¬(ν=μ)by decide)]
   |true=>
    rw[aM,uH,aR,PY,aR,aB rfl];unfold Bx;by_cases p:(eV (jE a).2.1).2=0/\((eV (jE a).2.1).1<1\/65535<(eV (jE a).2.1).1)
    ·rw[aB p,aB p,aA aA1];rfl
    ·rw[aA p,aA p];by_cases r:(eV (jE a).2.1).2=0
     ·rw[aB r,aB r,aR,kA,OD _ _ _ _ b]
     ·rw[aA r,aA r];rfl
 ·have d:¬Xk (eZ (bH 8) s)=([83,73,80,47,50,46,48,47]:aC):=q;rw[aE d,aB q];rfl
def kT(l:δ PP):δ PP:=l.filter λp=> !(p.1==uo)
def iR(b:aC):δ PP:=if b=[]then []else [(uo,b,μ)]
def mG(h:aC)(n:Int):aC:=if n=0 then h else h++([58]++gM n)
def Gu(x:VV):aC×ζ:=
 if(eO x.2.1).2=μ/\iH x.1=μ/\0<=x.2.2.1/\x.2.2.1<=65535/\(rZ (fU (kT x.2.2.2.2++iR x.2.2.2.1))).2=0
 then(VER++Xk x.1++[32]++mG (eO x.2.1).1 x.2.2.1++(rZ (fU (kT x.2.2.2.2++iR x.2.2.2.1))).1,0)else([],2)
theorem Ai(l:δ PP):γ (kT l)<=aL l:=List.length_filter_le _ _
theorem M6(l:δ PP)(p:PP)(h:p∈kT l):p∈l:=(List.mem_filter.1 h).1
theorem IB(b:aC):γ (iR b)<=1:=by unfold iR;split<;>simp
theorem ie(x:VV)(m:aL x.2.2.2.2<=4194304)(q:δ PP):∀p c,x.2.2.2.2=p++q->aL q<c->
  ajc FU x c (kT p) (γ p)=θ (kT (p++q)):=by
 induction q with
 |nil=>intro p c h i;obtain⟨c,rfl⟩:=bV c;rw[bbi,amc,aA aA6,gD]
 |cons a q j=>
  intro p c h i;obtain⟨c,rfl⟩:=bV c;have f:=bF aL h;simp at f i;have d:(0:Int)<=(aL p:Int)/\(aL p:Int)<(aL x.2.2.2.2:Int):=aA0;have l:el x.2.2.2.2 (aL p:Int)=a:=aA9;have b:=j (p++[a]) c aA6 aU;rw[show(γ (p++[a]):Int)=(aL p:Int)+1 by simp,gZ]at b;have k:=Ai p;rw[bbi,amc,aB d.2,aS d,aS d,l];by_cases g:a.1=uo
  ·have e:kT (p++[a])=kT p:=by unfold kT;rw[Rf];simp[g]
   rw[aB (show a.1=([98,114,97,110,99,104]:aC)from g),aS (cA _ aU aU)];rw[e]at b;exact b
  ·have e:kT (p++[a])=kT p++[a]:=by unfold kT;rw[Rf];simp[g]
   rw[aA (show¬a.1=([98,114,97,110,99,104]:aC)from g)];rw[aS aA2,aS (cA _ aU aU)];rw[e]at b;exact b
theorem A5(x:VV)(b:∀p∈x.2.2.2.2,aL p.1<=4194304/\γ p.2.1<=4194304)(c:aL x.2.2.2.1<=4194304):∀p∈kT x.2.2.2.2++iR x.2.2.2.1,aL p.1<=4194304/\γ p.2.1<=4194304:=by
 intro p a;rcases aV.1 a with h|h
 ·exact b p (M6 _ p h)
 ·unfold iR at h;split at h
  ·simp at h
  ·rw[aG.1 h];exact⟨show γ uo<=4194304 by decide,c⟩
theorem VU(l:δ PP)(f:aL l<=19)(d:∀p∈l,aL p.1<=4194304/\γ p.2.1<=4194304):((XM FU l).bind λy=>XN FU y)=θ (rZ (fU l)):=by
 have c:=bjq l;by_cases e:16<aL l
 ·have b:rZ (fU l)=([],2):=by unfold rZ;rw[aB aU]
  rw[tZ l aU,aR,FA _ aU,b]
 ·rw[tZ l aU,aR,bil _ (λp a=>d p (tf _ p a))]
theorem Z2(x:VV)(h:¬((eO x.2.1).2=μ/\iH x.1=μ/\0<=x.2.2.1/\x.2.2.1<=65535/\(rZ (fU (kT x.2.2.2.2++iR x.2.2.2.1))).2=0)):Gu x=([],2):=by unfold Gu;rw[aA h]
theorem Dm(x:VV)(h:(eO x.2.1).2=μ/\iH x.1=μ/\0<=x.2.2.1/\x.2.2.1<=65535/\(rZ (fU (kT x.2.2.2.2++iR x.2.2.2.1))).2=0):Gu x=(VER++Xk x.1++[32]++mG (eO x.2.1).1 x.2.2.1++(rZ (fU (kT x.2.2.2.2++iR x.2.2.2.1))).1,0):=by unfold Gu;rw[aB h]
theorem EI(x:VV)(I:aL x.1<=4194304)(C:aL x.2.1<=4194304)(F:aL x.2.2.2.2<=18)(A:∀p∈x.2.2.2.2,aL p.1<=4194304/\γ p.2.1<=4194304)(B:aL x.2.2.2.1<=4194304):awm FU x=θ (Gu x):=by
 have w:=Ai x.2.2.2.2;have z:=IB x.2.2.2.1;have d:=A5 x A B;have s:γ (kT x.2.2.2.2++iR x.2.2.2.1)<=19:=aC9;have m:=uE (fU (kT x.2.2.2.2++iR x.2.2.2.1)) (λp v=>d p (tf _ p v));have H:=Ev x.2.1;have t:=oQ x.1;unfold awm;rw[bjy _ C,aR];cases r:(eO x.2.1).2 with
 |false=>rw[Z2 x (λh=>by rw[r]at h;exact absurd h.1 aA1)];rfl
 |true=>
  rw[gL,aH,te _ aU,aR];cases q:iH x.1 with
  |false=>rw[Z2 x (λh=>by rw[q]at h;exact absurd h.2.1 aA1)];rfl
  |true=>
   rw[gL,aH];by_cases c:x.2.2.1<0
   ·rw[aB c,aR,aM,Z2 x (by rintro⟨_,_,h,_⟩;omega)]
   by_cases e:65535<x.2.2.1
   ·rw[aA c,aD e,aR,aM,Z2 x (by rintro⟨_,_,_,h,_⟩;omega)]
   have n:=ie x aU x.2.2.2.2 [] FU rfl aA4;have i:ajc FU x FU ([]:δ PP) (0:Int)=θ (kT x.2.2.2.2):=n;rw[aA c,aE e,aR,aH,i,aR];have E:(if x.2.2.2.1=([]:aC)then θ (kT x.2.2.2.2)else(gd ((γ (kT x.2.2.2.2)+γ ([(([98,114,97,110,99,104]:aC),x.2.2.2.1,μ)]:δ PP))*40<=140737488355328)<|some (kT x.2.2.2.2++([(([98,114,97,110,99,104]:aC),x.2.2.2.1,μ)]:δ PP))))=θ (kT x.2.2.2.2++iR x.2.2.2.1):=by
    unfold iR;by_cases a:x.2.2.2.1=[]
    ·rw[aB a,aB a,gD]
    ·rw[aA a,aA a,aS aA2];rfl
   rw[E,aR];have o:=VU (kT x.2.2.2.2++iR x.2.2.2.1) aU d;have b:=Dm x;have g:=Z2 x;generalize kT x.2.2.2.2++iR x.2.2.2.1=l at o m b g⊢;have key:∀f:aC×ζ->ε (aC×ζ),((XM FU l).bind λ(y:δ PP)=>((XN FU y).bind f))=f (rZ (fU l)):=by
    intro f;have:((XM FU l).bind λ(y:δ PP)=>((XN FU y).bind f))=((XM FU l).bind λy=>XN FU y).bind f:=by cases XM FU l<;>rfl
    rw[this,o];rfl
   rw[key];by_cases k:(rZ (fU l)).2=0
   ·have G:=bgf x.2.2.1 aU aU;have D:(if x.2.2.1=(0:Int)then θ (eO x.2.1).1 else(gd (bK x.2.2.1)<|(gd (γ ([58]:aC)+γ (gM x.2.2.1)<=9223372036854775807)<|(gd (γ (eO x.2.1).1+γ (([58]:aC)++(gM x.2.2.1))<=9223372036854775807)<|some ((eO x.2.1).1++(([58]:aC)++(gM x.2.2.1)))))))=θ (mG (eO x.2.1).1 x.2.2.1):=by
     unfold mG;by_cases j:x.2.2.1=0
     ·rw[aB j,aB j]
     ·rw[aA j,aA j,aS (cA _ aU aU),aS aA2,aS aA2]
    have u:γ (mG (eO x.2.1).1 x.2.2.1)<=γ (eO x.2.1).1+6:=by
     unfold mG;split
     ·omega
     ·simp;omega
    rw[aB k,D,aR,Ku _ aU,aR,aS aA2,aS aA2,aS aA2,aS aA2,b ⟨r,q,aA0,aA0,k⟩];rfl
   ·rw[aA k,g (λh=>k h.2.2.2.2)]
theorem KJ(s:aC)(k:aL s<=9223372036854775807)(l:aC):∀p a,aL p+aL l=aL s->aL l<a->
  avq FU s a (p++l) (γ p)=θ (p++l.map Hn):=by
 induction l with
 |nil=>intro p a g i;obtain⟨a,rfl⟩:=bV a;simp at g;rw[bgm,att,aA aU];rfl
 |cons c l f=>
  intro p a g i;obtain⟨a,rfl⟩:=bV a;simp at g i;have j:=xH p c l;have b:=f (p++[Hn c]) a aB4 aU;have ok:bK ((aL p:Int)+1):=cA _ aU aU;rw[bgm,att,aB aU];simp only[aS j,Rp,aS ok,oU];by_cases e:97<=c
  ·by_cases d:c<=122
   ·simp only[aB e,aD d,Uf c e d];rw[Xp p (Hn c),b];simp
   ·simp only[aE d];rw[bjd c (λh=>d h.2)]at b;rw[Xp p c,show p++c::l=(p++[c])++l by simp,b];simp[bjd c (λh=>d h.2)]
  ·simp only[aA e];rw[bjd c (λh=>e h.1)]at b;rw[Xp p c,show p++c::l=(p++[c])++l by simp,b];simp[bjd c (λh=>e h.1)]
theorem oX(s:aC)(a:aL s<=9223372036854775807):avr FU s=θ (Xk s):=by unfold avr;have:=KJ s a s [] FU aA3 aA4;simp at this;rw[this];rfl
theorem HE{b:Type}[Inhabited b](p:b->η):∀l:δ b,(l.find? p=ι/\l.findIdx? p=ι)\/∃j:Nat,j<aL l/\l.findIdx? p=θ j/\l.find? p=θ (el l j)
 |[]=>.inl ⟨rfl,rfl⟩
 |a::l=>by
  rw[List.find?_cons,List.findIdx?_cons];cases h:p a with
  |true=>exact .inr ⟨0,aA3,rfl,rfl⟩
  |false=>
   rcases HE p l with⟨d,c⟩|⟨j,d,c,e⟩
   ·left;rw[d,c];exact⟨rfl,rfl⟩
   ·right;refine⟨j+1,by simp;omega,by rw[c];rfl, ?_⟩;rw[e];rfl
theorem G8(l:δ PP)(g:aL l<=4194304)(d:∀p∈l,aL p.1<=4194304)(name:aC)(f:aL name<=4194304):bgu FU l name=θ (Il l name):=by
 unfold bgu;rw[Vd l g d name f,aR];have e:Il l name=(match l.find? (λp=>cK p.1==cK name)with|some p=>(p.2.1,μ)|none=>([],ν)):=rfl;rw[e];rcases HE (λp:PP=>cK p.1==cK name) l with⟨c,a⟩|⟨j,c,a,h⟩
 ·rw[c,a];rfl
 ·rw[a,h];have b:0<=(j:Int)/\(j:Int)<(aL l:Int):=by omega
  have i:ll (θ j)=(j:Int):=rfl;rw[i,aA aU,aS b,aS b]
theorem H4(s:aC)(g:aL s<=4194304)(i:Nat)(j:i<=aL s):bax FU s FU i=θ ((i+cI (λc=> !mL c) (s.drop i):Nat):Int):=by
 refine mZ _ s _ ?_ ?_ ?_ (aL s-i) i FU aU aA4
 ·intro d;rw[bcq,asl,aA aU];rfl
 ·intro d k e h;have a:mL (at_ s k)=μ:=by simpa using h
  rw[bcq,asl,aB aU,aS aU];by_cases b:at_ s k=59
  ·rw[aB b];rfl
  ·have f:bX (at_ s k)=μ:=by
    unfold mL at a;rw[YO]at a;rcases a with h|h
    ·exact absurd aA8 b
    ·exact h
   rw[aA b,aS aU,bft,f];rfl
 ·intro d k e h;have a:mL (at_ s k)=ν:=by simpa using h
  unfold mL at a;rw[Bool.or_eq_false_iff]at a;have b:¬at_ s k=59:=by simpa using a.1
  rw[bcq,asl,aB aU,aS aU,aA b,aS aU,bft,aR,a.2,vP,aR,aM,dS]
def jG(E:Nat):aC->Nat->Nat->Nat
 |[],_,c=>c
 |x::l,k,c=>jG E l (k+1) (if x=93 then E else if x=58 then k else c)
theorem H9(s:aC)(i:aL s<=4194304)(E:Nat)(j:E<=aL s)(n:Nat):∀(k d c:Nat),k+n=E->n<d->
  baw FU s E d c k=θ ((jG E ((s.drop k).take n) k c:Nat):Int):=by
 induction n with
 |zero=>intro k d c f g;obtain⟨d,rfl⟩:=bV d;rw[bjz,axy,aA aU];rfl
 |succ n e=>
  intro k d c f g;obtain⟨d,rfl⟩:=bV d;have h:0<=(k:Int)/\(k:Int)<(aL s:Int):=aA0;have ok:bK ((k:Int)+1):=cA _ aU aU;rw[bjz,axy,aB aU,Iq s k aU,dY,jG];simp only[aS h,aS ok];by_cases a:at_ s (k:Int)=93
  ·have b:¬at_ s (k:Int)=58:=by rw[a];decide
   rw[aA b,aR,aB a,aB a];exact e (k+1) d E aU aU
  ·by_cases b:at_ s k=58
   ·rw[aB b,aR,aA a,aA a,aB b];exact e (k+1) d k aU aU
   ·rw[aA b,aR,aA a,aA a,aA b];exact e (k+1) d c aU aU
theorem BK(E:Nat):∀B (k c),(∀b∈B,b≠58)->jG E B k c=if B.any (·==93)=μ then E else c
 |[],_,_,_=>rfl
 |x::B,k,c,h=>by
  have hx:=h x aA3;rw[jG,BK E B _ _ (λb d=>h b (eU _ d)),aA hx,Tx];by_cases a:x=93
  ·have:(x==93)=μ:=by simpa using a
   rw[this];split<;>rfl
  ·have:(x==93)=ν:=by simpa using a
   rw[aA a,this,NL]
theorem HU(E:Nat):∀A l (k c),jG E (A++l) k c=jG E l (k+aL A) (jG E A k c)
 |[],_,_,_=>rfl
 |x::A,l,k,c=>by rw[NM,jG,HU E A l,cN];congr 1;omega
theorem Ng(p:ζ->η):∀l:aC,0<=kS p l->∃A c B,l=A++c::B/\kS p l=aL A/\p c=μ/\∀b∈B,p b=ν
 |[],h=>by unfold kS at h;omega
 |b::l,h=>by
  have f:=uJ p l;by_cases e:kS p l= -1
  ·have a:l.any p=ν:=by rcases f with h|h;exact h.2;omega
   have d:p b=μ:=by
    cases d:p b with
    |true=>rfl
    |false=>unfold kS at h;rw[aB e,d]at h;simp at h
   refine⟨[],b,l,rfl, ?_,d,λx hx=>by have:=dC.1 a x hx;simpa using this⟩;unfold kS;rw[aB e,d];rfl
  ·obtain⟨A,c,B,j,k,i,g⟩:=Ng p l aU;refine⟨b::A,c,B,by rw[j];rfl, ?_,i,g⟩;unfold kS;rw[cN];omega
theorem ks(P:aC)(b:58∈P)(f:at_ P 0≠91):(eO P).2=ν:=by
 have e:vF P=ν:=by
  cases hx:vF P with
  |false=>rfl
  |true=>unfold vF at hx;simp at hx;exact absurd hx.1.2 f
 have c:Ke P=ν:=by
  cases hx:Ke P with
  |false=>rfl
  |true=>
   unfold Ke at hx;simp only[lA]at hx;rcases mx 46 gA P (λx a=>(bji x (by rw[<-uG];exact aT.1 hx.1.2 x a)).2.2) 58 b with h|h
   ·exact absurd h aA1
   ·exact absurd h aA1
 have d:JF P=ν:=by
  cases hx:JF P with
  |false=>rfl
  |true=>
   unfold JF at hx;simp only[lA]at hx;rcases mx 46 jY P (λx a=>by have:=aT.1 hx.1.2 x a;unfold Fk at this;simp only[lA]at this;exact this.2) 58 b with h|h
   ·exact absurd h aA1
   ·exact absurd h aA1
 unfold eO;rw[e,aA aA1,c,aA aA1,d,aA aA1]
def Bs(P:aC):aC×aC×η:=if jG (γ P) P 0 (γ P)=aL P then(P,[],ν)else(P.take (jG (γ P) P 0 (γ P)),P.drop (jG (γ P) P 0 (γ P)+1),μ)
theorem ic(B:aC)(h:B.any (·==93)=μ):eV B=(0,5):=by
 have:B.all gA=ν:=by
  cases hx:B.all gA with
  |false=>rfl
  |true=>obtain⟨c,d,a⟩:=cV.1 h;have b:=aT.1 hx c d;have:c=93:=aC0;rw[this]at b;exact absurd b aA1
 unfold eV;rw[aB (.inr (.inr this))]
def TB(b place a:aC):VV×ζ:=
 if(eO (Bs place).1).2=ν then(rH,5)
 else if(Bs place).2.2=μ then(if(Bx (Bs place).2.1).2=0 then wT b (eO (Bs place).1).1 (Bx (Bs place).2.1).1 a else(rH,(Bx (Bs place).2.1).2))
 else wT b (eO (Bs place).1).1 0 a
theorem di(v P j:aC):TB v P j=Cz v P j:=by
 by_cases hx:kS (·==(58:ζ)) P<0
 ·have r:∀b∈P,b≠58:=by
   rcases uJ (·==(58:ζ)) P with h|h
   ·intro b t;have:=dC.1 h.2 b t;simpa using this
   ·omega
  have l:jE P=(P,[],ν):=by unfold jE;rw[aB hx]
  have m:Bs P=(P,[],ν):=by
   unfold Bs;have:jG (γ P) P 0 (γ P)=aL P:=by rw[BK _ _ _ _ r];split<;>rfl
   rw[aB this]
  unfold TB Cz;rw[l,m]
 ·obtain⟨A,c,B,g,D,y,C⟩:=Ng (·==(58:ζ)) P aU;have n:c=58:=by simpa using y
  subst n;have u:∀b∈B,b≠58:=λb t=>by simpa using C b t
  have k:jG (γ P) P 0 (γ P)=if B.any (·==93)=μ then γ P else γ A:=by
   conv=>lhs;rw[show jG (γ P) P 0 (γ P)=jG (γ P) (A++58::B) 0 (γ P) from by rw[<-g]]
   rw[HU,jG,aA aA1,aB rfl,BK _ _ _ _ u,Jd]
  have w:aL P=aL A+(aL B+1):=by rw[g,cG,cN]
  have s:((aL A:Int)+1).toNat=γ (A++[58]):=aA3
  have f:jE P=if(A.any (·==91)&&B.any (·==93))=μ then(P,[],ν)else(A,B,μ):=by
   unfold jE;rw[aA hx,D,lB,s];have t1:P.take (γ A)=A:=by rw[g,fJ]
   have t2:P.drop (γ A)=58::B:=by rw[g,eM]
   have t3:P.drop (γ (A++[58]))=B:=by rw[g,show A++58::B=(A++[58])++B by simp,eM]
   rw[t1,t2,t3,Tx,show((58:ζ)==93)=ν by decide,NL]
  cases e:B.any (·==93)with
  |false=>
   have m:Bs P=(A,B,μ):=by
    have d:jG (γ P) P 0 (γ P)=aL A:=by rw[k,e];exact aA aA1
    unfold Bs;rw[d,aA aU];have t1:P.take (γ A)=A:=by rw[g,fJ]
    have t3:P.drop (aL A+1)=B:=by rw[g,show A++58::B=(A++[58])++B by simp,show γ A+1=γ (A++[58]) by simp,eM]
    rw[t1,t3]
   have l:jE P=(A,B,μ):=by rw[f,e,eN,aA aA1]
   unfold TB Cz;rw[l,m]
  |true=>
   have m:Bs P=(P,[],ν):=by
    have d:jG (γ P) P 0 (γ P)=aL P:=by rw[k,e];exact aB rfl
    unfold Bs;rw[aB d]
   cases i:A.any (·==91)with
   |true=>
    have l:jE P=(P,[],ν):=by rw[f,e,i,aB aA1]
    unfold TB Cz;rw[l,m]
   |false=>
    have l:jE P=(A,B,μ):=by rw[f,e,i,aA aA1]
    have x:Bx B=(0,5):=by unfold Bx;rw[ic B e,aA (by rintro⟨h,_⟩;exact absurd h aA1)]
    have o:(eO P).2=ν:=by
     refine ks P (by rw[g];simp) ?_;intro q;cases A with
     |nil=>rw[g]at q;exact absurd (show(58:ζ)=91 from q) aA1
     |cons a A=>
      have z:a=91:=by rw[g]at q;simpa [at_] using q
      rw[z]at i;simp at i
    unfold TB Cz;rw[l,m];simp only;rw[o,aB rfl,x];by_cases p:(eO A).2=ν
    ·rw[aB p]
    ·rw[aA p,aB trivial,aA aA1]
theorem RS(E:Nat):∀(P:aC) (k c:Nat),k+aL P<=E->c<=E->jG E P k c<=E
 |[],_,_,_,a=>a
 |x::P,k,c,h,a=>by
  rw[cN]at h;rw[jG];refine RS E P (k+1) _ aU ?_;split
  ·omega
  ·split<;>omega
theorem Pz(d E:Nat):∀(P:aC) (k c:Nat),jG (d+E) P (d+k) (d+c)=d+jG E P k c
 |[],_,_=>rfl
 |x::P,k,c=>by
  rw[jG,jG,<-Pz d E P];congr 1;split
  ·rfl
  ·split<;>rfl
theorem Uy(d h:aC)(b:Int)(a:aC)(e:aL a<=4194304):((aop FU a).bind λ(y:((δ PP)×Int×ζ))=>(if y.2.2=(0:ζ)then((bgu FU y.1 ([98,114,97,110,99,104]:aC)).bind λ(g:(aC×η))=>θ ((d,h,b,g.1,y.1),(0:ζ)))else θ ((([]:aC),([]:aC),(0:Int),([]:aC),([]:δ PP)),y.2.2)))=θ (wT d h b a):=by
 have j:=Ac a;have i:=bcf a e;unfold wT;rw[rP a e,aR];by_cases c:(fR a).2.2=0
 ·rw[aB c,aB c,G8 _ aU (λp f=>by have:=(i p f).2.1;omega) _ aA1,aR];rfl
 ·rw[aA c,aA c];rfl
theorem G2(v:aC)(H:aL v<=4194304):bld FU v=θ (mD v):=by
 have I:=BZ v;unfold bld mD;rw[bcd v H,aR];generalize cT v=s at I⊢;have u:=jL cJ s 8;rw[auy s aU,aR,YC s aU,aR];by_cases G:aL s<8
 ·rw[aB (show(aL s:Int)<8 by omega),aB G];rfl
 have C:8<=bT cJ s 8:=Ca cJ s 8 aU;rw[aA (show¬(aL s:Int)<8 by omega),aA G,aS aU,oX _ aB8,aR];by_cases A:Xk (s.take 8)=VER
 ·have q:Xk (eZ (bH (8:Int)) s)=([83,73,80,47,50,46,48,47]:aC):=A;rw[aB q,aA (not_not_intro A)];generalize bT cJ s 8=k at C u⊢;have D:=Ca bX s k u;have x:=jL bX s (k:Int);generalize bT bX s (k:Int)=i at D x⊢;by_cases t:k=8
  ·rw[aB aU,aB t];rfl
  rw[aA aU,aR,aA t];by_cases w:i=k
  ·rw[aD aU,aB w];rfl
  rw[aE aU,aH,aA w,H4 s aU i x,aR];have r:=Tp (λc=> !mL c) (s.drop i);rw[fB]at r;have g:γ ((s.drop i).take (cI (λc=> !mL c) (s.drop i)))=cI (λc=> !mL c) (s.drop i):=by rw[jS,fB];omega
  have z:s=s.take i++((s.drop i).take (cI (λc=> !mL c) (s.drop i))++(s.drop i).drop (cI (λc=> !mL c) (s.drop i))):=by rw[NO,NO]
  have f:cC (i+cI (λc=> !mL c) (s.drop i)) s=(s.drop i).drop (cI (λc=> !mL c) (s.drop i)):=aF0;have j:=H9 s aU (i+cI (λc=> !mL c) (s.drop i)) aU (cI (λc=> !mL c) (s.drop i)) i FU (i+cI (λc=> !mL c) (s.drop i)) rfl aA4;have e:∀m:Nat,m<=cI (λc=> !mL c) (s.drop i)->sub s (i:Int) ((i+m:Nat):Int)=((s.drop i).take (cI (λc=> !mL c) (s.drop i))).take m:=by intro m F;unfold sub;rw[lB,lB,zbJ,Rb,SR F]
  have a:∀m:Nat,m<cI (λc=> !mL c) (s.drop i)->sub s (((i+m:Nat):Int)+1) ((i+cI (λc=> !mL c) (s.drop i):Nat):Int)=((s.drop i).take (cI (λc=> !mL c) (s.drop i))).drop (m+1):=by intro m F;unfold sub;have y:(((i+m:Nat):Int)+1).toNat=i+(m+1):=aA0;rw[lB,y,Ri,Rx];congr 1;omega
  have b:=Pz i (cI (λc=> !mL c) (s.drop i)) ((s.drop i).take (cI (λc=> !mL c) (s.drop i))) 0 (cI (λc=> !mL c) (s.drop i));have d:=RS (cI (λc=> !mL c) (s.drop i)) ((s.drop i).take (cI (λc=> !mL c) (s.drop i))) 0 (cI (λc=> !mL c) (s.drop i)) aU (dO _);rw[Ru]at b;rw[b]at j;have o:γ ((s.drop i).drop (cI (λc=> !mL c) (s.drop i)))<=4194304:=by rw[fB,fB];omega
  rw[j,aR];rw[<-di];unfold TB Bs;rw[g];generalize(s.drop i).drop (cI (λc=> !mL c) (s.drop i))=E at f o⊢;generalize K:cI (λc=> !mL c) (s.drop i)=n at r g e a d f⊢;generalize(s.drop i).take n=l at g e a d⊢;generalize jG n l 0 n=m at d⊢;have h:((i+n:Nat):Int).toNat=i+n:=aA0;rw[aS aU,e m d];by_cases p:m=n
  ·have y:l.take m=l:=by rw[p,<-g,hZ]
   rw[aB p,y,bfs _ aU,aR];simp only;cases J:(eO l).2 with
   |false=>rfl
   |true=>rw[gL,aH,aS aU,oX _ aF7,aR,aA (show¬((i+m:Nat):Int)<((i+n:Nat):Int)by omega),aR,kA,aS aU,h,f,Uy _ _ _ _ o,aA aA1,aA aA1]
  ·have y:γ (l.take m)<=4194304:=by rw[jS];omega
   rw[aA p,bfs _ y,aR];simp only;cases J:(eO (l.take m)).2 with
   |false=>rfl
   |true=>
    rw[gL,aH,aS aU,oX _ aF7,aR,aB (show((i+m:Nat):Int)<((i+n:Nat):Int)by omega),aS (cA _ aU aU),aS aU,a m aU,KT _ aB6,aR,aA (show¬(μ=ν)by decide),aB trivial];by_cases B:(Bx (l.drop (m+1))).2=0
    ·rw[aB B,aB B,aR,kA,aS aU,h,f,Uy _ _ _ _ o]
    ·rw[aA B,aA B,aR,Rt];rfl
 ·have q:¬Xk (eZ (bH (8:Int)) s)=([83,73,80,47,50,46,48,47]:aC):=A;rw[aA q,aB A];rfl
theorem UF(x:VV)(n:aL x.2.2.2.2<=4194304)(q:δ PP):∀(p:δ PP) (d:Nat),x.2.2.2.2=p++q->aL q<d->
  akd FU x d (kT p) (aL p:Int)=θ (kT (p++q)):=by
 induction q with
 |nil=>intro p d h j;obtain⟨d,rfl⟩:=bV d;rw[bbt,amz,aA aA6,gD]
 |cons a q k=>
  intro p d h j;obtain⟨d,rfl⟩:=bV d;have f:=bF aL h;simp only[cG,cN]at f j;have b:(0:Int)<=(aL p:Int)/\(aL p:Int)<(aL x.2.2.2.2:Int):=aA0;have m:el x.2.2.2.2 (aL p:Int)=a:=aA9;have c:=k (p++[a]) d aA6 aU;rw[show(γ (p++[a]):Int)=(aL p:Int)+1 by simp,gZ,pj]at c;have l:=Ai p;rw[bbt,amz,aB b.2,aS b,aS b,m];by_cases i:a.1=uo
  ·have e:kT (p++[a])=kT p:=by unfold kT;rw[Rf];simp[i]
   rw[aB (show a.1=([98,114,97,110,99,104]:aC)from i),aS (cA _ aU aU)];rw[e]at c;exact c
  ·have e:kT (p++[a])=kT p++[a]:=by unfold kT;rw[Rf];simp[i]
   rw[aA (show¬a.1=([98,114,97,110,99,104]:aC)from i)];simp only[ppE];rw[aS b,aS b,aS aB5,aS (cA _ aU aU)];rw[e]at c;exact c
theorem Sl(x:VV)(N:aL x.1<=4194304)(I:aL x.2.1<=4194304)(K:aL x.2.2.2.2<=40)(G:∀p∈x.2.2.2.2,aL p.1<=4194304/\γ p.2.1<=4194304)(H:aL x.2.2.2.1<=4194304):axz FU x=θ (Gu x):=by
 have D:=Ai x.2.2.2.2;have F:=IB x.2.2.2.1;have s:=A5 x G H;have A:γ (kT x.2.2.2.2++iR x.2.2.2.1)<=41:=aC9;have k:∀p∈fU (kT x.2.2.2.2++iR x.2.2.2.1),aL p.1<=4194304/\γ p.2.1<=4194304:=λp C=>s p (tf _ p C);have t:=uE (fU (kT x.2.2.2.2++iR x.2.2.2.1)) k;have E:=bjq (kT x.2.2.2.2++iR x.2.2.2.1);have M:=Ev x.2.1;have B:=oQ x.1;unfold axz;rw[bfs _ I,aR,bce _ aU,aR];cases w:iH x.1 with
 |false=>rw[Z2 x (λh=>by rw[w]at h;exact absurd h.2.1 aA1)];rfl
 |true=>
  rw[gL,aH];cases y:(eO x.2.1).2 with
  |false=>rw[Z2 x (λh=>by rw[y]at h;exact absurd h.1 aA1)];rfl
  |true=>
   rw[gL,aH];by_cases m:x.2.2.1<0
   ·rw[aB m,aR,aM,Z2 x (by rintro⟨_,_,h,_⟩;omega)]
   by_cases n:65535<x.2.2.1
   ·rw[aA m,aD n,aR,aM,Z2 x (by rintro⟨_,_,_,h,_⟩;omega)]
   have u:=UF x aU x.2.2.2.2 [] FU rfl aA4;have q:akd FU x FU ([]:δ PP) (0:Int)=θ (kT x.2.2.2.2):=u;rw[aA m,aE n,aR,aH,q,aR];have J:(if x.2.2.2.1=([]:aC)then θ (kT x.2.2.2.2)else(gd ((γ (kT x.2.2.2.2)+γ ([(([98,114,97,110,99,104]:aC),x.2.2.2.1,μ)]:δ PP))*40<=140737488355328)<|some (kT x.2.2.2.2++([(([98,114,97,110,99,104]:aC),x.2.2.2.1,μ)]:δ PP))))=θ (kT x.2.2.2.2++iR x.2.2.2.1):=by
    unfold iR;by_cases i:x.2.2.2.1=[]
    ·rw[aB i,aB i,gD]
    ·rw[aA i,aA i,aS aB5];rfl
   rw[J,aR,bcb _ aU,aR,bdt _ aU k,aR];have j:=Dm x;have o:=Z2 x;generalize fU (kT x.2.2.2.2++iR x.2.2.2.1)=l at t j o⊢;by_cases r:(rZ l).2=0
   ·have L:=bgf x.2.2.1 aU aU;rw[aB r,oX _ aU,aR,aS aB9,aS aB2,aS aB2,j ⟨y,w,aA0,aA0,r⟩];by_cases v:x.2.2.1=0
    ·rw[aA aU,aS aB2];unfold mG;rw[aB v];rfl
    ·rw[aB aU,aS aB2,aux _ aU aU,aR,aS aB2,aS aB2];unfold mG;rw[aA v];have e:∀a b c d e f g:aC,a++b++c++d++e++f++g=a++b++c++(d++(e++f))++g:=by intros;simp
     exact bF (λz=>θ (z,(0:ζ))) (e _ _ _ _ _ _ _)
   ·rw[aA r,o (λh=>r h.2.2.2.2)]
theorem FZ(l:aC)(c:ζ):decide (0<=dN (·==c) l)=fT l c:=FY l c
theorem Oz(c:ζ)(k:Int)(h:k=0\/k=1\/k=2):aqs FU c k=θ (Ik c k):=by
 unfold aqs;rw[Xt,aR];have a:∀b:η,Ik c k=(b||fT (BL k) c)->((θ b).bind λ(e:η)=>(bif e then θ μ else(((if(0:Int)<=k then(if k<=(2:Int)then(gd (0<=k/\k<(3:Int))<|(gd (0<=k/\k<γ be)<|some (decide (0<=(dN (·==c) (el be k))))))else θ ν)else θ ν)).bind λd=>θ d)))=θ (Ik c k):=by
  intro b j;rw[j];cases b with
  |true=>rfl
  |false=>
   have l:γ be=3:=rfl;have i:el be k=BL k:=by rcases h with rfl|rfl|rfl<;>rfl
   rw[aB aA0,aB aA0,aS aA0,aS aA0,i,FZ];rfl
 cases f:mw c with
 |true=>rw[aM];exact a μ (by unfold Ik;rw[f];rfl)
 |false=>
  rw[Cb,aR];cases g:gA c with
  |true=>rw[aM];exact a μ (by unfold Ik;rw[f,g];rfl)
  |false=>rw[FZ];exact a _ (by unfold Ik;rw[f,g];rfl)
theorem ayt(s:aC)(c:ζ)(f:γ s<=4194304):YG FU s c=θ (fT s c):=by
 have h:=nZ (λb=> !(b==c)) s f μ (apc FU s c)
  (λd=>by rw[ath,aiz,aA aA0])
  (λd k g h=>by have a:at_ s (k:Int)=c:=aA8;rw[ath,aiz,aB aA0,dS,aB a])
  (λd k g h=>by have a:¬at_ s k=c:=aA8;rw[ath,aiz,aB aA0,dS,aA a,dS])
 unfold YG;rw[h];have e:s.all (λb=> !(b==c))= !fT s c:=by unfold fT;rw[IV]
 rw[e];cases fT s c<;>rfl
theorem PE(c:ζ)(k:Int)(j:k=0\/k=1\/k=2):bkb FU c k=θ (Ik c k):=by
 unfold bkb;rw[Ux,aR];have a:∀b:η,Ik c k=(b||fT (BL k) c)->((θ b).bind λg=>(bif g then θ μ else(if k=0 then((YG FU [38,61,43,36,44,59,63,47] c).bind λf=>θ f)else(if k=1 then((YG FU [91,93,47,58,38,43,36] c).bind λe=>θ e)else(if k=2 then((YG FU [91,93,47,63,58,43,36] c).bind λd=>θ d)else θ ν)))))=θ (Ik c k):=by
  intro b l;rw[l];cases b with
  |true=>rfl
  |false=>rw[ayt _ _ aA1,ayt _ _ aA1,ayt _ _ aA1];rcases j with rfl|rfl|rfl<;>rfl
 cases h:mw c with
 |true=>rw[aM];exact a μ (by unfold Ik;rw[h];rfl)
 |false=>
  rw[zN,aR];cases i:gA c with
  |true=>rw[aM];exact a μ (by unfold Ik;rw[h,i];rfl)
  |false=>rw[ayt _ _ aA1];exact a _ (by unfold Ik;rw[h,i];rfl)
def hx(c:ζ):ζ:=((uc FU c).getD (0,ν)).1
theorem QY:∀c:ζ,uc FU c=θ (hx c,fX c):=fM _ aA5
theorem Vc:∀c:ζ,fX c=μ->bg FU c=θ ((hx c).toNat:Int):=fM _ aA5
theorem QU:∀c:ζ,(hx c).toNat<16:=fM _ aA5
theorem DV:∀c:ζ,fX c=ν->bg FU c=θ (-1):=fM _ aA5
theorem vy:∀a b:Fin 16,(TU (qK a.val) 4)|||qK b.val=qK (16*a.val+b.val):=aA5
def esV(a b:ζ):ζ:=qK (16*(hx a).toNat+(hx b).toNat)
theorem ee(a b:ζ):(TU (hx a) 4)|||hx b=esV a b:=by have:=vy ⟨(hx a).toNat,QU a⟩ ⟨(hx b).toNat,QU b⟩;simp only[UInt8.ofNat_toNat]at this;exact this
def lF(l:aC):ε ζ:=if 2<γ l/\at_ l 0=37/\fX (at_ l 1)=μ/\fX (at_ l 2)=μ then θ (esV (at_ l 1) (at_ l 2))else ι
theorem Y3(s:aC)(i:Nat)(j:Nat):at_ (s.drop i) j=at_ s ((i+j:Nat)):=by simp only[at_,lB,bJ,bU]
theorem HJ(s:aC)(l:γ s<=4194304)(i:Nat)(n:i<γ s):∃v,aod FU s i=θ (v,(lF (s.drop i)).isSome)/\((lF (s.drop i)).isSome=μ->lF (s.drop i)=θ v):=by
 have k:=Y3 s i 0;have j:=Y3 s i 1;have g:=Y3 s i 2;have f:(i:Int)+1=((i+1:Nat):Int):=rfl;have e:(i:Int)+2=((i+2:Nat):Int):=rfl;have m:γ (s.drop i)=γ s-i:=fB;have d:at_ (s.drop i) 0=at_ s (i:Int):=k;have c:at_ (s.drop i) 1=at_ s ((i+1:Nat):Int):=j;have b:at_ (s.drop i) 2=at_ s ((i+2:Nat):Int):=g;unfold aod lF;rw[aS (cA _ aA0 aA0),f,e,d,c,b];by_cases q:γ s<=i+2
 ·rw[aB aA0,aA aA0];exact⟨0,rfl,λh=>absurd h aA1⟩
 ·rw[aA aA0,aS aA0,aR];by_cases a:at_ s (i:Int)=37
  ·rw[aD a,aS (cA _ aA0 aA0),aS aA0,QY,aR,aS (cA _ aA0 aA0),aS aA0,QY,aR,ee];cases p:fX (at_ s ((i+1:Nat):Int))with
   |false=>rw[aA (λh=>absurd h.2.2.1 aA1)];exact⟨_,rfl,λh=>absurd h aA1⟩
   |true=>
    cases o:fX (at_ s ((i+2:Nat):Int))with
    |false=>rw[aA (λh=>absurd h.2.2.2 aA1)];exact⟨_,rfl,λh=>absurd h aA1⟩
    |true=>rw[aB ⟨aA0,a,rfl,rfl⟩];exact⟨_,rfl,λ_=>rfl⟩
  ·rw[aE a,aA (λh=>a h.2.1)];exact⟨0,rfl,λh=>absurd h aA1⟩
theorem Yg:∀c:ζ,XU c.toNat=c:=fM _ aA5
theorem H3(s:aC)(n:γ s<=4194304)(i:Nat)(p:i<γ s):bcy FU s i=θ (match lF (s.drop i)with|some v=>v.toNat|none=> -1):=by
 have g:=Y3 s i 0;have m:=Y3 s i 1;have l:=Y3 s i 2;have k:i+1=((i+1:Nat):Int):=rfl;have j:(i:Int)+2=((i+2:Nat):Int):=rfl;have o:γ (s.drop i)=γ s-i:=fB;rw[Ru]at g;have d:at_ (s.drop i) 0=at_ s (i:Int):=g;have c:at_ (s.drop i) 1=at_ s ((i+1:Nat):Int):=m;have b:at_ (s.drop i) 2=at_ s ((i+2:Nat):Int):=l;unfold bcy lF;rw[aS (cA _ aA0 aA0),k,j,d,c,b];by_cases t:γ s<=i+2
 ·rw[aB aA0,aR,aM,aA aA0]
 ·rw[aA aA0,aS aA0];by_cases a:at_ s (i:Int)=37
  ·rw[aB a,aS (cA _ aA0 aA0),aS aA0];cases f:fX (at_ s ((i+1:Nat):Int))with
   |false=>rw[DV _ f,aR,aB aA1,aR,aM,aA (λh=>absurd h.2.2.1 aA1)]
   |true=>
    have r:=QU (at_ s ((i+1:Nat):Int));rw[Vc _ f,aR,aA aA0,aS (cA _ aA0 aA0),aS aA0];cases e:fX (at_ s ((i+2:Nat):Int))with
    |false=>rw[DV _ e,aR,aR,show decide ((-1:Int)<0)=μ by decide,aM,aA (λh=>absurd h.2.2.2 aA1)]
    |true=>
     have q:=QU (at_ s ((i+2:Nat):Int));rw[Vc _ e,aR,aR,aS (cA _ aA0 aA0),aS aA0,aR,aS (cA _ aA0 aA0),aS (cA _ aA0 aA0),aS aA0,aR,aS (cA _ aA0 aA0),aB ⟨aA0,a,rfl,rfl⟩];unfold esV;have:(qK (16*(hx (at_ s ((i+1:Nat):Int))).toNat+(hx (at_ s ((i+2:Nat):Int))).toNat)).toNat=16*(hx (at_ s ((i+1:Nat):Int))).toNat+(hx (at_ s ((i+2:Nat):Int))).toNat:=by rw[iT,IT aA0]
     simp only[this];congr 1
  ·rw[aA a,aR,aM,aA (λh=>a h.2.1)]
def gV(k:Int):Nat->aC->ε Nat
 |0,_=>ι
 |f+1,l=>if l=[]then ι else if Ik (at_ l 0) k=μ then(gV k f (l.drop 1)).map (·+1)
  else match lF l with
   |some v=>if eJ v=μ then θ 0 else(gV k f (l.drop 3)).map (·+3)
   |none=>θ 0
def tD(k:Int):Nat->aC->aC
 |0,_=>[]
 |f+1,l=>if l=[]then []else if Ik (at_ l 0) k=μ then at_ l 0::tD k f (l.drop 1)
  else match lF l with
   |some v=>v::tD k f (l.drop 3)
   |none=>[]
def fG(k:Int)(l:aC):ε Nat:=gV k (γ l+1) l
def kP(k:Int)(l:aC):aC:=tD k (γ l+1) l
theorem rq(k:Int)(a:k=0\/k=1\/k=2):Ik 37 k=ν:=by rcases a with rfl|rfl|rfl<;>decide
variable {T:aC}
theorem bgh{v:ζ}(h:lF T=θ v):2<γ T/\at_ T 0=37:=by
 unfold lF at h;split at h
 ·rename_i a;exact⟨a.1,a.2.1⟩
 ·cases h
theorem yF(c:ζ):awq FU c=θ (eJ c):=by revert c;exact fM _ aA5
theorem ZT(s:aC)(t:Int)(e:Nat)(D:γ s<=4194304)(E:e<=γ s)(k:Int)(x:k=0\/k=1\/k=2)(n:Nat):∀i a f,e-i<=n->n<a->i<=e->e-i<f->
  ahz FU (s,t) e k a i=θ (match gV k f ((s.take e).drop i)with|none=>.inl ()|some j=>.inr (((i+j:Nat)),μ)):=by
 induction n with
 |zero=>intro i a f y z g l;obtain⟨a,rfl⟩:=bV a;obtain⟨f,rfl⟩:∃m,f=m+1:=⟨f-1,aA0⟩;rw[ako,afc,aA aA0,gV,aB (Rm aB8)]
 |succ n p=>
  intro i a f y z g l;obtain⟨a,rfl⟩:=bV a;obtain⟨f,rfl⟩:∃m,f=m+1:=⟨f-1,aA0⟩;by_cases d:i<e
  ·have b:γ ((s.take e).drop i)=e-i:=by rw[fB,jS];omega
   have c:¬(s.take e).drop i=[]:=λh=>by rw[h]at b;simp at b;omega
   have hO:at_ ((s.take e).drop i) 0=at_ s (i:Int):=by have:=Y3 (s.take e) i 0;rw[Ru]at this;rw[show at_ ((s.take e).drop i) 0=at_ (s.take e) (i:Int)from this];simp only[at_,lB,bJ];rw[CJ d]
   have d1:((s.take e).drop i).drop 1=(s.take e).drop (i+1):=aF0;have d3:((s.take e).drop i).drop 3=(s.take e).drop (i+3):=aF0;rw[ako,afc,aB aA0,aS (show 0<=(i:Int)/\(i:Int)<(γ s:Int)by omega),Oz _ k x,aR,gV,aA c,hO];cases F:Ik (at_ s (i:Int)) k with
   |true=>
    rw[aS (cA _ aA0 aA0),lZ,p (i+1) a f aA0 aA0 aA0 aA0,d1];cases gV k f ((s.take e).drop (i+1))with
    |none=>rfl
    |some j=>
     show θ (Sum.inr _)=θ (Sum.inr _);congr 3;try dsimp only
     omega
   |false=>
    have u:γ (s.take e)=e:=aB8;obtain⟨v,B,r⟩:=HJ (s.take e) aA0 i aA0;rw[aS (show 0<=(e:Int)/\(e:Int)<=(γ s:Int)by omega),lB,B,aR];cases q:lF ((s.take e).drop i)with
    |none=>congr 3
    |some o=>
     rw[q]at r;obtain rfl:o=v:=by have:=r rfl;simpa using this
     have w:=(bgh q).1;simp only[Option.isSome_some,gL,aH];rw[yF,aR,aR];cases A:eJ o with
     |true=>rw[aM];rfl
     |false=>
      rw[aS (cA _ aA0 aA0),aS (cA _ aA0 aA0),d3];have C:i+2+1=((i+3:Nat):Int):=aA0;rw[C,p (i+3) a f aA0 aA0 aA0 aA0];cases gV k f _ with
      |none=>rfl
      |some j=>
       show θ (Sum.inr _)=θ (Sum.inr _);congr 3;try dsimp only
       omega
  ·rw[ako,afc,aA aA0,gV,aB (Rm aB8)]
theorem Kn(s:aC)(d:γ s<=4194304)(i e:Nat)(b:i<=e)(g:e<=γ s)(k:Int)(f:k=0\/k=1\/k=2):
  afq FU (s,i) e k=θ (match fG k (sub s i e)with|none=>(0,ν)|some j=>(((i+j:Nat)),μ)):=by
 have a:sub s i e=(s.take e).drop i:=by unfold sub;rw[lB,lB,Ri]
 have c:γ ((s.take e).drop i)=e-i:=by rw[fB,jS];omega
 have:=ZT s i e d g k f _ i FU (γ (sub s _ e)+1) (dO _) aA4 b (by rw[a];omega);unfold afq;rw[this,<-a];unfold fG;cases gV k _ _<;>rfl
theorem B2(s:aC)(A:γ s<=4194304)(k:Int)(C:k=0\/k=1\/k=2)(n:Nat):∀i c f (b:aC),γ s-i<=n->n<c->i<=γ s->γ s-i<f->γ b<=i->gV k f (s.drop i)=ι->
  aid FU s c b i=θ (.inl (b++tD k f (s.drop i))):=by
 induction n with
 |zero=>intro i c f b D E t u F a;obtain⟨c,rfl⟩:=bV c;obtain⟨f,rfl⟩:∃m,f=m+1:=⟨f-1,aA0⟩;rw[aqv,aho,aA aA0,tD,aB (Rm aA0),gD]
 |succ n w=>
  intro i c f b D E t u F a;obtain⟨c,rfl⟩:=bV c;obtain⟨f,rfl⟩:∃m,f=m+1:=⟨f-1,aA0⟩;by_cases r:i<γ s
  ·have g:0<=(i:Int)/\(i:Int)<(γ s:Int):=by omega
   have d:γ (s.drop i)=γ s-i:=fB;have l:¬s.drop i=[]:=λh=>by rw[h]at d;simp at d;omega
   have hO:at_ (s.drop i) 0=at_ s (i:Int):=by have:=Y3 s i 0;rw[Ru]at this;exact this
   have d1:(s.drop i).drop 1=s.drop (i+1):=aF0;have d3:(s.drop i).drop 3=s.drop (i+3):=aF0;rw[gV,aA l,hO]at a;rw[aqv,aho,aB g.2,aS g,tD,aA l,hO];by_cases p:Ik (at_ s (i:Int)) k=μ
   ·have j:¬at_ s (i:Int)=37:=λe=>by rw[e,rq k C]at p;cases p
    rw[aB p,tP,d1]at a;rw[aA j,aS g,aS aA2,aS (cA _ aA0 aA0),lZ,w _ c f _ aA0 aA0 aA0 aA0 aA2 a,aB p];simp
   ·rw[aA p]at a⊢;cases q:lF _ with
    |none=>rw[q]at a;cases a
    |some v=>
     rw[q]at a;simp only at a;have B:=(bgh q).1;have j:at_ s i=37:=by rw[<-hO];exact(bgh q).2
     obtain⟨z,y,x⟩:=HJ s A i r;rw[q]at y x;obtain rfl:v=z:=by have:=x rfl;simpa using this
     by_cases o:eJ v=μ
     ·rw[aB o]at a;cases a
     ·rw[aA o,tP,d3]at a;have G:i+2+1=((i+3:Nat):Int):=by omega
      rw[aB j,y,aR];rw[aS aA2,aS (cA _ aA0 aA0),aS (cA _ aA0 aA0),G,w (i+3) c f _ aA0 aA0 aA0 aA0 aA2 a];simp
  ·rw[aqv,aho,aA aA0,tD,aB (Rm aA0),gD]
theorem xU(s:aC)(c:γ s<=4194304)(k:Int)(d:k=0\/k=1\/k=2)(b:fG k s=ι):alj FU s=θ (kP k s):=by have:=B2 s c k d (γ s) 0 FU (γ s+1) [] aA0 aA4 aA0 aA0 aA3 (by rw[YN];exact b);have a:aid FU s FU _ 0=_:=this;unfold alj bbo;rw[T1 aA0,a,aR];rfl
open Go.Lib renaming indexAny → Cr
abbrev RR:=aC×Int×Int×ζ
def Qi(r:RR)(a:Int)(e:ζ):RR:=if r.2.2.2=0 then(r.1,r.2.1,a,e)else r
theorem Rr(r:RR)(a:Int)(e:ζ):Kg FU r a e=θ (Qi r a e):=by unfold Kg Qi;split<;>rfl
theorem Jy(r:RR)(a:Int)(e:ζ):(Qi r a e).1=r.1/\(Qi r a e).2.1=r.2.1:=by unfold Qi;split<;>exact⟨rfl,rfl⟩
def bP(st:aC)(s:aC)(i:Nat):Nat:=i+cI (λc=> !fT st c) (s.drop i)
theorem Kf(st s:aC)(i:Nat):i<=bP st s i:=Nat.le_add_right _ _
theorem Fs(st s:aC)(i:Nat)(a:i<=γ s):bP st s i<=γ s:=by have:=Tp (λc=> !fT st c) (s.drop i);rw[fB]at this;unfold bP;omega
theorem Tm(st:aC):(λc=>st.contains c)=fT st:=by funext c;rw[List.contains_eq_any_beq];congr 1;funext b;exact Bool.beq_comm
theorem nl(s:aC)(j:γ s<=4194304)(i:Nat)(k:i<=γ s)(st:aC)(h:γ st<=1000)(g:st.all (λb=>decide (b.toNat<128))=μ):CD FU s i st=θ ((bP st s i):Int):=by
 have l:γ (s.drop i)=γ s-i:=fB;have a:=nk (fT st) (s.drop i);have c:Cr (s.drop i) st=dN (fT st) (s.drop i):=by rw[azk,Tm]
 unfold CD bP;rw[aS aA0,lB,aS ⟨aA0,h,g⟩,c];rcases a with⟨f,e⟩|⟨f,e,d⟩
 ·rw[aA aA0];congr 1;omega
 ·rw[aS (cA _ aA0 aA0),d];rfl
theorem bca(s:aC)(g:γ s<=4194304)(i:Nat)(j:i<=γ s)(a:Int)(e:ζ)(st:aC)(l:γ st<=1000):YI FU (s,i,a,e) st=θ ((bP st s i):Int):=by
 have:=mZ (λc=> !fT st c) s (ajm FU (s,(i:Int),a,e) st)
  (λd=>by rw[amm,aft,aA (show¬((γ s:Int)<(γ s:Int))by omega)];rfl)
  (λd k f h=>by have b:fT st (at_ s (k:Int))=μ:=aA8;rw[amm,aft,aB (show(k:Int)<(γ s:Int)by omega),aS (show 0<=(k:Int)/\(k:Int)<(γ s:Int)by omega),ayt _ _ aA0,b];rfl)
  (λd k f h=>by have b:fT st (at_ s (k:Int))=ν:=aA8;rw[amm,aft,aB (show(k:Int)<(γ s:Int)by omega),aS (show 0<=(k:Int)/\(k:Int)<γ s by omega),ayt _ _ aA0,b,aR,vP,aR,aM,dS])
  (γ s-i) i FU aA0 aA4
 unfold YI;rw[this];rfl
theorem bkf(st s:aC)(i:Nat)(f:i<=γ s)(h:bP st s i<γ s):fT st (at_ s ((bP st s i)))=μ:=by
 have g:γ (s.drop i)=γ s-i:=fB;have key:∀l:aC,cI (λc=> !fT st c) l<γ l->fT st (at_ l (cI (λc=> !fT st c) l:Int))=μ:=by
  intro l;induction l with
  |nil=>intro h;simp at h
  |cons a l d=>
   intro h;cases b:fT st a with
   |true=>have e:cI (λc=> !fT st c) (a::l)=0:=lQ _ a l (by simp[b]);rw[e];exact b
   |false=>
    have e:cI (λc=> !fT st c) (a::l)=cI (λc=> !fT st c) l+1:=by rw[cI,aB (by simp[b])]
    rw[e]at h⊢;have:=d (by simp at h;omega);simpa [at_] using this
 unfold bP at h⊢;have:=key (s.drop i) aA0;rw[Y3]at this;exact this
theorem H8(s:aC)(y:Int)(a:Int)(A:ζ)(e:Nat)(J:γ s<=4194304)(K:e<=γ s)(k:Int)(z:k=0\/k=1\/k=2)(n:Nat):∀(i c f:Nat) (out:aC),e-i<=n->n<c->i<=e->e-i<f->γ out<=i->
  ahy FU (s,y,a,A) (e:Int) k c out (i:Int)=θ (match gV k f ((s.take e).drop i)with|none=>.inl (out++tD k f ((s.take e).drop i))|some j=>.inr ([],Qi (s,y,a,A) ((i+j:Nat):Int) 5)):=by
 induction n with
 |zero=>intro i c f out F G t u D;obtain⟨c,rfl⟩:=bV c;obtain⟨f,rfl⟩:∃m,f=m+1:=⟨f-1,aA0⟩;have o:(s.take e).drop i=[]:=Rm aB8;rw[akm,afa,aA aA0,gV,aB o,tD,aB o,gD]
 |succ n x=>
  intro i c f out F G t u D;obtain⟨c,rfl⟩:=bV c;obtain⟨f,rfl⟩:∃m,f=m+1:=⟨f-1,aA0⟩;by_cases q:i<e
  ·have g:γ ((s.take e).drop i)=e-i:=by rw[fB,jS];omega
   have l:¬(s.take e).drop i=[]:=λh=>by rw[h]at g;simp at g;omega
   have hO:at_ ((s.take e).drop i) 0=at_ s (i:Int):=by have:=Y3 (s.take e) i 0;rw[Ru]at this;rw[show at_ ((s.take e).drop i) 0=at_ (s.take e) (i:Int)from this];simp only[at_,lB,bJ];rw[CJ q]
   have d1:((s.take e).drop i).drop 1=(s.take e).drop (i+1):=aF0;have d3:((s.take e).drop i).drop 3=(s.take e).drop (i+3):=aF0;have r:0<=(i:Int)/\(i:Int)<(γ s:Int):=aA0;rw[akm,afa,aB aA0,aS r,gV,tD,aA l,aA l,hO];by_cases d:at_ s (i:Int)=37
   ·have b:((at_ s (i:Int)).toNat:Int)=37:=by rw[d];rfl
    have w:¬Ik (at_ s (i:Int)) k=μ:=by rw[d,rq k z];decide
    have C:γ (s.take e)=e:=aB8;rw[aB b,aS (show 0<=(e:Int)/\(e:Int)<=(γ s:Int)by omega),lB,H3 (s.take e) aA0 i aA0,aR,aA w,aA w];cases p:lF ((s.take e).drop i)with
    |none=>simp only;rw[aB aA1,aR,aM,Rr,aR,aR,Rt];rfl
    |some v=>
     have E:=(bgh p).1;have B:=fI v;simp only;rw[aA aA0,Yg,bcc,aR,aR];cases H:eJ v with
     |true=>rw[aM,Rr,aR,aR,Rt,aB rfl];rfl
     |false=>
      rw[aH,aS (cA _ aA0 aA0),aR,kA,aA (show¬(ν=μ)by decide),d3];simp only;have I:(i:Int)+2+1=((i+3:Nat):Int):=aA0;rw[Yg,aS aB5,aS (cA _ aA0 aA0),I,x (i+3) c f _ aA0 aA0 aA0 aA0 aB7];cases gV k f ((s.take e).drop (i+3))with
      |none=>simp
      |some j=>
       show θ (Sum.inr _)=θ (Sum.inr _);congr 4;try dsimp only
       omega
   ·have b:¬((at_ s (i:Int)).toNat:Int)=37:=λh=>d (jI.1 (by have:(37:ζ).toNat=37:=rfl;omega));rw[aA b,Yg,PE _ k z,aR];cases w:Ik (at_ s (i:Int)) k with
    |true=>
     rw[gL,aH,aR,kA,aB rfl,aB rfl,d1];simp only;rw[Yg,aS aB5,aS (cA _ aA0 aA0),lZ,x (i+1) c f _ aA0 aA0 aA0 aA0 aB7];cases gV k f ((s.take e).drop (i+1))with
     |none=>simp
     |some j=>
      show θ (Sum.inr _)=θ (Sum.inr _);congr 4;try dsimp only
      omega
    |false=>
     have p:lF ((s.take e).drop i)=ι:=by
      cases p:lF ((s.take e).drop i)with
      |none=>rfl
      |some v=>exact absurd (by rw[<-hO];exact(bgh p).2) d
     rw[vP,aM,Rr,aR,aR,Rt,aA (show¬(ν=μ)by decide),p];rfl
  ·have o:(s.take e).drop i=[]:=Rm aB8;rw[akm,afa,aA aA0,gV,aB o,tD,aB o,gD]
theorem rT(s:aC)(g:γ s<=4194304)(i e:Nat)(f:i<=e)(l:e<=γ s)(a:Int)(d:ζ)(k:Int)(h:k=0\/k=1\/k=2):
  uh FU (s,(i:Int),a,d) (e:Int) k=θ (match fG k (sub s (i:Int) (e:Int))with|none=>(kP k (sub s (i:Int) (e:Int)),(s,(e:Int),a,d))|some j=>([],Qi (s,(i:Int),a,d) ((i+j:Nat):Int) 5)):=by
 have b:sub s (i:Int) (e:Int)=(s.take e).drop i:=by unfold sub;rw[lB,lB,Ri]
 have c:γ ((s.take e).drop i)=e-i:=by rw[fB,jS];omega
 have:=H8 s (i:Int) a d e g l k h (e-i) i FU (γ (sub s (i:Int) (e:Int))+1) [] (dO _) aA4 f (by rw[b,c];omega) aA3;unfold uh;simp only;rw[this,aR,<-b];unfold fG kP;cases gV k (γ (sub s (i:Int) (e:Int))+1) (sub s (i:Int) (e:Int))with
 |none=>simp only[Rl];rfl
 |some j=>rfl
theorem vX(s:aC)(i:Nat)(a:Int)(c:ζ):NB FU (s,i,a,0) c=θ (cR s i c):=by unfold NB;rw[Lw];rfl
theorem Wi(s:aC)(i a:Int)(e:ζ)(b:¬e=0)(c:ζ):NB FU (s,i,a,e) c=θ ν:=by unfold NB;rw[aA b];rfl
theorem Y8(k:Int):∀f l j,gV k f l=θ j->j<γ l
 |0,_,_,h=>by cases h
 |f+1,l,j,h=>by
  rw[gV]at h;by_cases a:l=[]
  ·rw[aB a]at h;cases h
  ·have b:=bL.2 a;rw[aA a]at h;split at h
   ·rw[bR]at h;obtain⟨x,hx,rfl⟩:=h;have:=Y8 k f _ x hx;rw[fB]at this;omega
   ·split at h
    ·rename_i v c;split at h
     ·rw[bG]at h;omega
     ·rw[bR]at h;obtain⟨x,hx,rfl⟩:=h;have:=Y8 k f _ x hx;rw[fB]at this;omega
    ·rw[bG]at h;omega
theorem Py(k:Int):∀f l,γ (tD k f l)<=γ l
 |0,_=>by simp[tD]
 |f+1,l=>by
  rw[tD];by_cases a:l=[]
  ·rw[aB a];simp
  ·have b:=bL.2 a;rw[aA a];split
   ·have:=Py k f (l.drop 1);rw[fB]at this;rw[cN];omega
   ·split
    ·have:=Py k f (l.drop 3);rw[fB]at this;rw[cN];omega
    ·simp
theorem tC(k:Int)(l:aC):γ (kP k l)<=γ l:=Py k _ l
theorem tB(k:Int)(l:aC)(a:fG k l=ι):kP k l=[]↔l=[]:=by
 unfold kP fG at*;rw[tD];rw[gV]at a;by_cases b:l=[]
 ·rw[aB b];simp[b]
 ·rw[aA b]at a⊢;constructor
  ·intro h;split at h
   ·cases h
   ·rename_i c;rw[aA c]at a;split at h
    ·cases h
    ·rename_i d;rw[d]at a;cases a
  ·intro h;exact absurd h b
abbrev UU:=aC×aC×aC×Int×δ PP×δ PP
def mS(U:aC):ζ×aC:=match fG 0 U with|some j=>(if at_ U j=58 then 15 else 5,[])|none=>if U=[]then(5,[])else(0,kP 0 U)
theorem utl1(b:ζ)(s:aC)(i:Nat):bP [b] s i=i+cI (λc=> !(c==b)) (s.drop i):=by
 have e:(λc=> !fT [b] c)=(λc=> !(c==b)):=by funext c;unfold fT;rw[Tx,iY,dU,Bool.beq_comm]
 unfold bP;rw[e]
theorem bgj(A B:aC)(j:Nat)(h:j<γ A):at_ (A++B) j=at_ A j:=by simp only[at_,lB,bJ];rw[aJ h]
theorem MA(A B:aC)(n:∀c∈A,c≠58)(d:A≠[]):lF (A++58::B)=lF A:=by
 have f:=bL.2 d;have m:at_ (A++58::B) 0=at_ A 0:=bgj A _ 0 f;unfold lF;by_cases e:2<γ A
 ·have l:at_ (A++58::B) 1=at_ A 1:=bgj A _ 1 aA0;have k:at_ (A++58::B) 2=at_ A 2:=bgj A _ 2 aA0;have a:2<γ (A++58::B):=by rw[cG];omega
  rw[m,l,k];by_cases b:at_ A 0=37/\fX (at_ A 1)=μ/\fX (at_ A 2)=μ
  ·rw[aB ⟨a,b⟩,aB ⟨e,b⟩]
  ·rw[aA (λh=>b h.2),aA (λh=>b h.2)]
 ·have g:(if 2<γ A/\at_ A 0=37/\fX (at_ A 1)=μ/\fX (at_ A 2)=μ then θ (esV (at_ A 1) (at_ A 2))else ι)=ι:=aA (λh=>e h.1);rw[g];refine aA λh=> ?_;by_cases j:γ A=1
  ·have:at_ (A++58::B) 1=58:=by have:=Rp A 58 B;rw[j]at this;exact this
   rw[this]at h;exact absurd h.2.2.1 aA1
  ·have:at_ (A++58::B) 2=58:=by have i:γ A=2:=aA0;have:=Rp A 58 B;rw[i]at this;exact this
   rw[this]at h;exact absurd h.2.2.2 aA1
theorem Fl(B:aC):∀f g A,(∀c∈A,c≠58)->γ A<f->γ A+γ B+1<g->gV 0 g (A++58::B)=θ (match gV 0 f A with|some j=>j|none=>γ A)
 |0,_,A,_,h,_=>by omega
 |f+1,g,A,o,t,s=>by
  obtain⟨g,rfl⟩:∃m,g=m+1:=⟨g-1,aA0⟩;have d:¬A++58::B=[]:=aA3;rw[gV,gV,aA d];by_cases k:A=[]
  ·subst k;have q:at_ ([]++58::B) 0=58:=rfl;have e:lF ([]++58::B)=ι:=by
    cases e:lF ([]++58::B)with
    |none=>rfl
    |some v=>exact absurd (show(58:ζ)=37 from(bgh e).2) aA1
   rw[q,e];rfl
  ·have l:=bL.2 k;have r:at_ (A++58::B) 0=at_ A 0:=bgj A _ 0 l;have n:∀m,m<=γ A->(A++58::B).drop m=A.drop m++58::B:=λm p=>iO p;have i:∀m,∀c∈A.drop m,c≠58:=λm c b=>o c (IZ b);rw[aA k,r];by_cases b:Ik (at_ A 0) 0=μ
   ·rw[aB b,aB b,n 1 l,Fl B f g (A.drop 1) (i 1) aB6 aB6];cases gV 0 f _ with
    |some j=>rfl
    |none=>show θ _=θ _;congr 1;rw[fB];show γ A-1+1=γ A;omega
   ·rw[aA b,aA b,MA A B o k];cases e:lF A with
    |none=>rfl
    |some v=>
     have u:=(bgh e).1;simp only;by_cases a:eJ v=μ
     ·rw[aB a,aB a]
     ·rw[aA a,aA a,n 3 aA0,Fl B f g (A.drop 3) (i 3) aB6 aB6];cases gV 0 f _ with
      |some j=>rfl
      |none=>show θ _=θ _;congr 1;rw[fB];show γ A-3+3=γ A;omega
theorem TE(A B:aC)(b:∀c∈A,c≠58):mS (A++58::B)=(match fG 0 A with|some _=>5|none=>15,[]):=by
 have h:=Fl B (γ A+1) (γ (A++58::B)+1) A b aA0 (by rw[cG,cN];omega);unfold mS;have e:fG 0 (A++58::B)=θ (match fG 0 A with|some j=>j|none=>γ A):=h;rw[e];cases d:fG 0 A with
 |none=>simp only[Rp,gG]
 |some j=>have a:j<γ A:=Y8 0 _ A j d;simp only;rw[bgj A _ j a,aA (b _ (at_mem A j a))]
theorem TD(U:aC)(d:∀c∈U,c≠58):mS U=match fG 0 U with|some _=>(5,[])|none=>if U=[]then(5,[])else(0,kP 0 U):=by
 unfold mS;cases b:fG 0 U with
 |none=>rfl
 |some j=>have a:j<γ U:=Y8 0 _ U j b;simp only;rw[aA (d _ (at_mem U j a))]
def fY(s:aC)(i:Nat):Nat:=if cR s i 91=μ then min (bP [93] s i+1) (γ s) else bP [58,59,63] s i
def jV (s : aC) (i : Nat) : ζ × aC × Int × Nat :=
  if (eO (sub s i (fY s i))).2 = ν then (5, [], 0, 0)
  else if cR s (fY s i) 58 = μ then
    (if (Bx (sub s ((fY s i + 1 : Nat)) (bP [59, 63] s (fY s i + 1)))).2 = 0 then (0, (eO (sub s i (fY s i))).1, (Bx (sub s ((fY s i + 1 : Nat)) (bP [59, 63] s (fY s i + 1)))).1, bP [59, 63] s (fY s i + 1))
     else ((Bx (sub s ((fY s i + 1 : Nat)) (bP [59, 63] s (fY s i + 1)))).2, [], 0, 0))
  else if fY s i < γ s /\ cR s (fY s i) 59 = ν /\ cR s (fY s i) 63 = ν then (5, [], 0, 0)
  else (0, (eO (sub s i (fY s i))).1, 0, fY s i)
theorem Bg(s:aC)(i:Nat)(a:i<=γ s):i<=fY s i/\fY s i<=γ s:=by
 have d:=Kf [93] s i;have c:=Kf [58,59,63] s i;have b:=Fs [58,59,63] s i a;unfold fY;split
 ·rename_i h;omega
 ·omega
def gC(s:aC)(i:Nat):ζ×aC×(aC×Int×Nat):=
 if bP [64] s i<γ s then
  (if(mS (sub s i (bP [64] s i))).1=0 then((jV s (bP [64] s i+1)).1,(mS (sub s i (bP [64] s i))).2,(jV s (bP [64] s i+1)).2)else((mS (sub s i (bP [64] s i))).1,[],[],0,0))
 else((jV s i).1,[],(jV s i).2)
theorem SO(s:aC)(D:γ s<=4194304)(i:Nat)(B:i<=γ s)(j r:aC):∃a c u,0<=a/\a<=5000000/\((CD FU s i ([58,59,63])).bind λC=>((((Is FU (s,i) 91).bind λp=>(bif p then((CD FU s i [93]).bind λk=>(gd (bK (k+1))<|some (min (k+1) (γ s))))else θ C))).bind λb=>(gd (0<=(i:Int)/\i<=b/\b<=γ s)<|((bm FU (sub s i b)).bind λf=>(bif (!f.2)then θ ((i:Int),5,(s,(i:Int)),((j,r,([]:aC),(0:Int),([]:δ PP),([]:δ PP)):UU))else((Is FU (s,b) 58).bind λt=>(bif t then(gd (bK (b+1))<|((CD FU s (b+1) ([59,63])).bind λg=>(gd (0<=(b+1)/\(b+1)<=g/\g<=γ s)<|((tw FU (sub s (b+1) g)).bind λd=>(((((if d.2=0 then(if d.1<1 then θ μ else θ (decide (65535<d.1)))else θ ν)).bind λw=>(bif w then θ 3 else θ d.2))).bind λo=>(if o=0 then θ (0,0,(s,g),((j,r,f.1,d.1,[],[])))else θ (b+1,o,(s,b+1),((j,r,f.1,(0:Int),[],[])))))))))else((((ug FU (s,b)).bind λn=>(bif (!n)then((Is FU (s,b) 59).bind λm=>(bif (!m)then((Is FU (s,b) 63).bind λl=>θ (!l))else θ ν))else θ ν))).bind λv=>(bif v then θ (b,5,(s,b),((j,r,f.1,0,[],[])))else θ (0,0,(s,b),((j,r,f.1,0,[],[]))))))))))))
  =θ (a,(jV s i).1,c,u)/\((jV s i).1=0->c=(s,((jV s i).2.2.2:Int))/\u=(j,r,(jV s i).2.1,(jV s i).2.2.1,[],[])):=by
 have H:=Bg s i B;have M:((if cR s i 91=μ then θ ((min (bP [93] s i+1) (γ s):Nat):Int)else θ ((bP [58,59,63] s i:Nat):Int)))=θ ((fY s i:Nat):Int):=by unfold fY;split<;>rfl
 have L:((Is FU (s,(i:Int)) (91:ζ)).bind λ(p:η)=>(bif p then((CD FU s (i:Int) ([93]:aC)).bind λ(k:Int)=>(gd (bK (k+(1:Int)))<|some (min (k+(1:Int)) (γ s:Int))))else θ ((bP [58,59,63] s i:Nat):Int)))=θ ((fY s i:Nat):Int):=by
  have N:=Fs [93] s i B;rw[JH,aR,<-M];cases cR s i 91 with
  |false=>rfl
  |true=>
   rw[aM,nl s D i B _ aA1 aA1,aR,aS (cA _ aA0 aA0)];congr 1;try dsimp only
   omega
 rw[nl s D i B _ aA1 aA1,aR,L,aR];unfold jV;generalize fY s i=e at H⊢;rw[aS aA0,bjy _ aC4,aR];cases O:(eO (sub s (i:Int) (e:Int))).2 with
 |false=>exact⟨_,_,_,aA0,aA0,rfl,λh=>by rw[aB rfl]at h;exact absurd h aA1⟩
 |true=>
  rw[aA (show¬(μ=ν)by decide),JH,aR];cases E:cR s e 58 with
  |true=>
   have y:=(wM E).1;have G:=Kf [59,63] s (e+1);have F:=Fs [59,63] s (e+1) y;rw[aB rfl,aS (cA _ aA0 aA0),lZ,nl s D (e+1) y _ aA1 aA1,aR,aS aA0,uH,aR,PY,aR];unfold Bx;generalize eV (sub s ((e+1:Nat):Int) ((bP [59,63] s (e+1):Nat):Int))=q;by_cases A:q.2=0/\(q.1<1\/65535<q.1)
   ·rw[aB A,aB A,aA aA1,aA aA1];exact⟨_,_,_,aA0,aA0,rfl,λh=>absurd h aA1⟩
   ·rw[aA A,aA A];by_cases z:q.2=0
    ·rw[aB z,aB z];exact⟨_,_,_,aA0,aA0,rfl,λ_=>⟨rfl,rfl⟩⟩
    ·rw[aA z,aA z];exact⟨_,_,_,aA0,aA0,rfl,λh=>absurd h z⟩
  |false=>
   have K:((ug FU (s,(e:Int))).bind λ(n:η)=>(bif (!n)then((Is FU (s,(e:Int)) (59:ζ)).bind λ(m:η)=>(bif (!m)then((Is FU (s,(e:Int)) (63:ζ)).bind λ(l:η)=>θ (!l))else θ ν))else θ ν))=θ (decide (e<γ s/\cR s e 59=ν/\cR s e 63=ν)):=by
    rw[nT];by_cases x:e<γ s
    ·rw[aE (show¬(γ s:Int)<=(e:Int)by omega),JH];cases J:cR s e 59 with
     |true=>rw[aE (by rintro⟨_,h,_⟩;cases h)];rfl
     |false=>
      rw[JH];cases I:cR s e 63 with
      |true=>rw[aE (by rintro⟨_,_,h⟩;cases h)];rfl
      |false=>rw[aD ⟨x,rfl,rfl⟩];rfl
    ·rw[aD (show(γ s:Int)<=(e:Int)by omega),aE (λh=>x h.1)];rfl
   rw[aA (show¬(ν=μ)by decide),K];by_cases hx:e<γ s/\cR s e 59=ν/\cR s e 63=ν
   ·rw[aD hx,aB hx];exact⟨_,_,_,aA0,aA0,rfl,λh=>absurd h aA1⟩
   ·rw[aE hx,aA hx];exact⟨_,_,_,aA0,aA0,rfl,λ_=>⟨rfl,rfl⟩⟩
theorem K5(s:aC)(z:γ s<=4194303)(i:Nat)(v:i<=γ s)(b:aC):∃a c u,0<=a/\a<=5000000/\amh FU (s,i) (b,[],[],0,[],[])=θ (a,(gC s i).1,c,u)/\((gC s i).1=0->c=(s,((gC s i).2.2.2.2:Int))/\u=(b,(gC s i).2.1,(gC s i).2.2.1,(gC s i).2.2.2.1,[],[])):=by
 have A:γ (s.drop i)=γ s-i:=fB;have g:=nk (·==(64:ζ)) (s.drop i);have r:=utl1 64 s i;unfold amh gC;simp only;rw[aS aA0,lB];rcases g with⟨p,x⟩|⟨p,x,w⟩
 ·have f:¬bP [64] s i<γ s:=by omega
  rw[aA aA0,aA f];exact SO s aA0 i v b []
 ·have y:(i:Int)+dN (·==(64:ζ)) (s.drop i)=((bP [64] s i:Nat):Int):=by rw[w,r];rfl
  have l:bP [64] s i<γ s:=aA0;have m:=Kf [64] s i;have q:(dN (·==(64:ζ)) (s.drop i)=0)↔bP [64] s i=i:=aA0;rw[aB p,y,aS (cA _ aA0 aA0),aB l,Kn s aA0 i _ m aA0 0 (.inl rfl),aR];have e:γ (sub s (i:Int) (bP [64] s i:Int))=bP [64] s i-i:=aC4;unfold mS;cases o:fG 0 (sub s (i:Int) (bP [64] s i:Int))with
  |some j=>
   have t:j<bP [64] s i-i:=by have:=Y8 0 _ _ j o;omega
   have hO:at_ s ((i+j:Nat):Int)=at_ (sub s (i:Int) (bP [64] s i:Int)) (j:Int):=by unfold sub;have:=Y3 s i j;rw[<-this];simp only[at_,lB,bJ];rw[CJ t]
   simp only;rw[aM,aS aA0,hO];by_cases d:at_ (sub s (i:Int) (bP [64] s i:Int)) (j:Int)=58
   ·rw[aB d,aB d,aA aA1];exact⟨_,_,_,aA0,aA0,rfl,λh=>absurd h aA1⟩
   ·rw[aA d,aA d,aA aA1];exact⟨_,_,_,aA0,aA0,rfl,λh=>absurd h aA1⟩
  |none=>
   simp only;rw[aH];by_cases n:bP [64] s i=i
   ·have k:sub s (i:Int) (bP [64] s i:Int)=[]:=by apply Je;omega
    rw[aB (q.2 n),aB k,aA aA1];exact⟨_,_,_,aA0,aA0,rfl,λh=>absurd h aA1⟩
   ·have k:¬sub s (i:Int) (bP [64] s i:Int)=[]:=λh=>by rw[h]at e;simp at e;omega
    rw[aA (λh=>n (q.1 h)),aA k,aS aA0,xU _ aA0 0 (.inl rfl) o,aR,aS (cA _ aA0 aA0),lZ];exact SO s aA0 _ aA0 b _
theorem Pq(r:RR)(a:Int)(e:ζ)(b:0<=r.2.2.1/\r.2.2.1<=5000000)(c:0<=a/\a<=5000000):0<=(Qi r a e).2.2.1/\(Qi r a e).2.2.1<=5000000:=by
 unfold Qi;split
 ·exact c
 ·exact b
variable {p:Prop}
theorem abo(h:p:=by first|omega|(dsimp only;omega)):p:=h
theorem rD(h:p:=by first|omega|(dsimp only;omega)|exact Pq _ _ _ abo abo|exact Pq _ _ _ (Pq _ _ _ abo abo) abo):p:=h
theorem UB(s:aC)(o:γ s<=4194304)(i y:Nat)(t:i<=y)(z:y<=γ s)(n:Nat):∀k a,k+n=y->n<a->i<=k->(∀c∈sub s i k,c≠58)->
  (∃r:RR,ahg FU (s,(i:Int),0,0) (y:Int) a (k:Int)=θ (.inr ([],r))/\r.1=s/\(0<=r.2.2.1/\r.2.2.1<=5000000)/\r.2.2.2=(mS (sub s (i:Int) (y:Int))).1/\¬(mS (sub s (i:Int) (y:Int))).1=0)\/
  (ahg FU (s,i,0,0) y a k=θ (.inl ())/\∀c∈sub s i y,c≠58):=by
 induction n with
 |zero=>intro k a p u f d;obtain⟨a,rfl⟩:=bV a;obtain rfl:k=y:=aA0;right;rw[axo,ajl,aA aA0];exact⟨rfl,d⟩
 |succ n m=>
  intro k a p u f d;obtain⟨a,rfl⟩:=bV a;rw[axo,ajl,aB aA0,aS (show 0<=(k:Int)/\(k:Int)<(γ s:Int)by omega)];by_cases e:at_ s (k:Int)=58
  ·left
   have b:sub s (i:Int) (y:Int)=sub s (i:Int) (k:Int)++58::sub s ((k+1:Nat):Int) (y:Int):=by
    unfold sub;simp;have x:(s.drop i).take (y-i)=(s.drop i).take (k-i)++((s.drop i).drop (k-i)).take (y-k):=by rw[show y-i=(k-i)+(y-k)by omega];rw[List.take_add]
    have w:(s.drop i).drop (k-i)=s.drop k:=by rw[Rx];congr 1;omega
    rw[x,w,Iq s k aA0,e,show y-k=(y-(k+1))+1 by omega,dY]
   rw[aB e,rT s o i k f aA0 0 0 0 (.inl rfl),aR,b,TE _ _ d];cases v:fG 0 (sub s (i:Int) (k:Int))with
   |some j=>
    have A:=Y8 _ _ _ j v;have q:γ (sub s (i:Int) (k:Int))<=k-i:=aC4;simp only;rw[Rr,aR,Rr];refine⟨_,rfl, ?_,(show 0<=((i+j:Nat):Int)/\((i+j:Nat):Int)<=5000000 by omega), ?_,aA1⟩
    ·rw[(Jy _ _ _).1,(Jy _ _ _).1]
    ·rfl
   |none=>
    rw[Rr,aR,Rr];refine⟨_,rfl, ?_,(show 0<=((k:Nat):Int)/\((k:Nat):Int)<=5000000 by omega), ?_,aA1⟩
    ·rw[(Jy _ _ _).1,(Jy _ _ _).1]
    ·rfl
  ·have g:sub s (i:Int) ((k+1:Nat):Int)=sub s (i:Int) (k:Int)++[at_ s (k:Int)]:=CZ s i k f aA0
   have:=m (k+1) a aA0 aA0 aA0 (λc l=>by
    rw[g]at l;rcases aV.1 l with h|h
    ·exact d c h
    ·rw[aG.1 h];exact e)
   rw[aA e,aS (cA _ aA0 aA0)];exact this
theorem UC(s:aC)(w:γ s<=4194303)(i:Nat)(n:i<=γ s):∃u r,alt FU (s,i,0,0)=θ (u,r)/\r.1=s/\(0<=r.2.2.1/\r.2.2.1<=5000000)/\
  (if bP [64] s i<γ s then r.2.2.2=(mS (sub s i (bP [64] s i))).1/\((mS (sub s i (bP [64] s i))).1=0->u=(mS (sub s i (bP [64] s i))).2/\r=(s,((bP [64] s i+1:Nat):Int),0,0))else u=[]/\r=(s,(i:Int),0,0)):=by
 have d:=Kf [64] s i;have f:=Fs [64] s i n;unfold alt;rw[bca s aA0 i n 0 0 _ aA1,aR];simp only;by_cases a:bP [64] s i<γ s
 ·rw[aA aA0];have c:sub s (i:Int) (i:Int)=[]:=Z4 s i;rcases UB s aA0 i (bP [64] s i) d f (bP [64] s i-i) i FU aA0 aA4 (dO _) (by rw[c];simp)with⟨r,m,l,k,q,p⟩|⟨m,l⟩
  ·rw[m];exact⟨_,r,rfl,l,k,by rw[aB a];exact⟨q,λh=>absurd h p⟩⟩
  ·rw[m,aR,TD _ l];have b:γ (sub s (i:Int) (bP [64] s i:Int))=bP [64] s i-i:=by rw[Hr];omega
   by_cases v:bP [64] s i=i
   ·have e:sub s (i:Int) (bP [64] s i:Int)=[]:=by apply Je;omega
    have g:fG 0 ([]:aC)=ι:=rfl;rw[aB aA0,Rr,aR,aR];have t:(Qi (s,(i:Int),0,0) ((bP [64] s i:Nat):Int) 5)=(s,(i:Int),((bP [64] s i:Nat):Int),5):=rfl;rw[t];rw[rT s aA0 i _ d aA0 _ _ 0 (.inl rfl),aR,e,g];rw[aS (cA _ aA0 aA0)];exact⟨_,_,rfl,rfl,rD,by rw[aB a];exact⟨rfl,λh=>absurd h aA1⟩⟩
   ·have e:¬sub s (i:Int) (bP [64] s i:Int)=[]:=λh=>by rw[h]at b;simp at b;omega
    rw[aA aA0,aR];rw[rT s aA0 i _ d aA0 _ _ 0 (.inl rfl),aR,aA e];cases o:fG 0 (sub s (i:Int) (bP [64] s i:Int))with
    |some j=>have x:=Y8 _ _ _ j o;simp only;rw[aS (cA _ aA0 aA0)];exact⟨_,_,rfl,rfl,rD,by rw[aB a];exact⟨rfl,λh=>absurd h aA1⟩⟩
    |none=>rw[aS (cA _ aA0 aA0)];exact⟨_,_,rfl,rfl,rD,by rw[aB a];exact⟨rfl,λ_=>⟨rfl,rfl⟩⟩⟩
 ·rw[aB aA0];exact⟨_,_,rfl,rfl,rD,by rw[aA a];exact⟨rfl,rfl⟩⟩
theorem KQ(s:aC)(d:γ s<=4194304)(i:Nat)(b:i<=γ s):oy FU (s,i,0,0)=θ ((eO (sub s i (fY s i))).1,if(eO (sub s i (fY s i))).2=μ then(s,(fY s i:Int),0,0)else(s,(fY s i),(i:Int),5)):=by
 have j:=Bg s i b;have f:((if cR s i 91=μ then θ ((min (bP [93] s i+1) (γ s):Nat):Int)else θ ((bP [58,59,63] s i:Nat):Int)))=θ ((fY s i:Nat):Int):=by unfold fY;split<;>rfl
 unfold oy;simp only;rw[bca s d i b 0 0 _ aA1,aR];have e:((NB FU (s,(i:Int),(0:Int),(0:ζ)) (91:ζ)).bind λ(c:η)=>(bif c then((YI FU (s,(i:Int),(0:Int),(0:ζ)) ([93]:aC)).bind λ(a:Int)=>(gd (bK (a+(1:Int)))<|some (min (a+(1:Int)) (γ s:Int))))else θ ((bP [58,59,63] s i:Nat):Int)))=θ ((fY s i:Nat):Int):=by
  have g:=Fs [93] s i b;rw[vX,aR,<-f];cases cR s i 91 with
  |false=>rfl
  |true=>rw[aM,bca s d i b 0 0 _ aA1,aR,aS (cA _ aA0 aA0)];congr 1;omega
 rw[e,aR];rw[aS aA0,bfs _ aC4,aR];cases h:(eO _).2 with
 |true=>rfl
 |false=>rfl
theorem Va(s:aC)(i a:Int)(e:ζ)(b:¬e=0):adc FU (s,i,a,e)=θ (0,(s,i,a,e)):=by
 unfold adc;rw[Wi s i a e b];by_cases h:i<γ s
 ·rw[aB h,Wi s i a e b,Wi s i a e b,aR,Rr];have:Qi (s,i,a,e) i 5=(s,i,a,e):=aA b;rw[this];rfl
 ·rw[aA h];rfl
theorem fj (s : aC) (v : γ s <= 4194304) (i : Nat) (w : i <= γ s) : ∃ y p, oy FU (s, i, 0, 0) = θ y /\ adc FU y.2 = θ p /\ p.2.1 = s /\ (0 <= p.2.2.2.1 /\ p.2.2.2.1 <= 5000000) /\ p.2.2.2.2 = (jV s i).1 /\
    ((jV s i).1 = 0 -> y.1 = (jV s i).2.1 /\ p.1 = (jV s i).2.2.1 /\ p.2 = (s, ((jV s i).2.2.2 : Int), 0, 0)) := by
  have C := Bg s i w;rw[KQ s v i w];unfold jV;generalize fY s i = e at C ⊢;cases J : (eO (sub s (i : Int) (e : Int))).2 with
  | false =>
    refine ⟨_, (0, (s, (e : Int), (i : Int), 5)), rfl, ?_, ?_⟩
    · show adc FU (if ν = μ then (s, (e : Int), 0, 0) else (s, (e : Int), (i : Int), 5)) = _;rw[aA (show ¬ (ν = μ) by decide)]; exact Va s _ _ 5 aA1
    · exact ⟨rfl, rD, rfl, λh => by rw[aB rfl] at h; exact absurd h aA1⟩
  | true =>
    rw[aB rfl, aA (show ¬ (μ = ν) by decide)];have g : ∃ p, adc FU (s, (e : Int), 0, 0) = θ p /\ p.2.1 = s /\ (0 <= p.2.2.2.1 /\ p.2.2.2.1 <= 5000000) /\ p.2.2.2.2 = (if cR s e 58 = μ then
    (if (Bx (sub s ((e + 1 : Nat) : Int) (bP [59, 63] s (e + 1) : Int))).2 = 0 then ((0 : ζ), (eO (sub s (i : Int) (e : Int))).1, (Bx (sub s ((e + 1 : Nat) : Int) (bP [59, 63] s (e + 1) : Int))).1, bP [59, 63] s (e + 1))
     else ((Bx (sub s ((e + 1 : Nat) : Int) (bP [59, 63] s (e + 1) : Int))).2, [], 0, 0))
  else if e < γ s /\ cR s e 59 = ν /\ cR s e 63 = ν then (5, [], 0, 0)
  else (0, (eO (sub s (i : Int) (e : Int))).1, 0, e)).1 /\ ((if cR s e 58 = μ then
    (if (Bx (sub s ((e + 1 : Nat) : Int) (bP [59, 63] s (e + 1) : Int))).2 = 0 then ((0 : ζ), (eO (sub s (i : Int) (e : Int))).1, (Bx (sub s ((e + 1 : Nat) : Int) (bP [59, 63] s (e + 1) : Int))).1, bP [59, 63] s (e + 1))
     else ((Bx (sub s ((e + 1 : Nat) : Int) (bP [59, 63] s (e + 1) : Int))).2, [], 0, 0))
  else if e < γ s /\ cR s e 59 = ν /\ cR s e 63 = ν then (5, [], 0, 0)
  else (0, (eO (sub s (i : Int) (e : Int))).1, 0, e)).1 = 0 -> p.1 = (if cR s e 58 = μ then (Bx (sub s ((e + 1 : Nat) : Int) (bP [59, 63] s (e + 1) : Int))).1 else 0) /\ p.2 = (s, ((if cR s e 58 = μ then bP [59, 63] s (e + 1) else e : Nat) : Int), 0, 0)) := by
      unfold adc;rw[vX, aR];cases d : cR s e 58 with
      | false =>
        rw[vP, aM];simp only;have I : (if (e : Int) < (γ s : Int) then ((NB FU (s, (e : Int), (0 : Int), (0 : ζ)) (59 : ζ)).bind λ(t : η) => (bif (!t) then ((NB FU (s, (e : Int), (0 : Int), (0 : ζ)) (63 : ζ)).bind λ(r : η) => θ (!r)) else θ ν)) else θ ν) = θ (decide (e < γ s /\ cR s e 59 = ν /\ cR s e 63 = ν)) := by
          by_cases k : e < γ s
          · rw[aB aA0, vX, aR];cases E : cR s e 59 with
            | true => rw[aE (by rintro ⟨_, h, _⟩; cases h)]; rfl
            | false =>
              rw[vP, aM, vX, aR];cases D : cR s e 63 with
              | true => rw[aE (by rintro ⟨_, _, h⟩; cases h)]; rfl
              | false => rw[aD ⟨k, rfl, rfl⟩]; rfl
          · rw[aA aA0, aE (λh => k h.1)]
        rw[I, aR, aA (show ¬ (ν = μ) by decide)];by_cases hx : e < γ s /\ cR s e 59 = ν /\ cR s e 63 = ν
        · rw[aD hx, aM, Rr, aB hx];exact ⟨_, rfl, rfl, rD, rfl, λh => absurd h aA1⟩
        · rw[aE hx, aH, aA hx];exact ⟨_, rfl, rfl, rD, rfl, λ_ => ⟨rfl, rfl⟩⟩
      | true =>
        have l := (wM d).1;have A := Kf [59, 63] s (e + 1);have z := Fs [59, 63] s (e + 1) l;rw[gL, aH];simp only;rw[aS (cA _ aA0 aA0), lZ, bca s v (e + 1) l 0 0 _ aA1, aR, aS aA0, bhl _ (by rw[Hr]; omega), aR];simp only[gG];unfold Bx;generalize eV (sub s ((e + 1 : Nat) : Int) ((bP [59, 63] s (e + 1) : Nat) : Int)) = q;by_cases c : q.2 = 0
        · rw[aB c];by_cases f : q.1 < 1
          · rw[aB f, aB (⟨c, .inl f⟩ : q.2 = 0 /\ (q.1 < 1 \/ 65535 < q.1)), aA aA1];exact ⟨_, rfl, rfl, rD, rfl, λh => absurd h aA1⟩
          · by_cases m : 65535 < q.1
            · rw[aA f, aD m, aB (⟨c, .inr m⟩ : q.2 = 0 /\ (q.1 < 1 \/ 65535 < q.1)), aA aA1];exact ⟨_, rfl, rfl, rD, rfl, λh => absurd h aA1⟩
            · rw[aA f, aE m, aA (show ¬ (q.2 = 0 /\ (q.1 < 1 \/ 65535 < q.1)) by rintro ⟨_, h | h⟩ <;> contradiction), aB c];exact ⟨_, rfl, rfl, rD, rfl, λ_ => ⟨rfl, rfl⟩⟩
        · have B : ¬ (q.2 = 0 /\ (q.1 < 1 \/ 65535 < q.1)) := λh => c h.1
          have H : Qi (s, ((e + 1 : Nat) : Int), 0, 0) ((e + 1 : Nat) : Int) q.2 = (s, ((e + 1 : Nat) : Int), ((e + 1 : Nat) : Int), q.2) := rfl;rw[aA c, Rr, H, aR, aR, aA B, aA c];have x : ∀ b : η, ((θ b).bind λ(j : η) => (bif j then ((Kg FU (s, ((e + 1 : Nat) : Int), ((e + 1 : Nat) : Int), q.2) ((e + 1 : Nat) : Int) (3 : ζ)).bind λ(a : RR) => θ (a.1, a.2.1, a.2.2.1, a.2.2.2)) else θ (s, ((e + 1 : Nat) : Int), ((e + 1 : Nat) : Int), q.2))) = θ (s, ((e + 1 : Nat) : Int), ((e + 1 : Nat) : Int), q.2) := by
            intro b;cases b with
            | false => rfl
            | true =>rw[ Rr];have : Qi (s, ((e + 1 : Nat) : Int), ((e + 1 : Nat) : Int), q.2) ((e + 1 : Nat) : Int) 3 = (s, ((e + 1 : Nat) : Int), ((e + 1 : Nat) : Int), q.2) := aA c;rw[this]; rfl
          by_cases f : q.1 < 1
          · rw[aB f, x];exact ⟨_, rfl, rfl, rD, rfl, λh => absurd h c⟩
          · rw[aA f, x];exact ⟨_, rfl, rfl, rD, rfl, λh => absurd h c⟩
    obtain ⟨p, f, m, u, G, F⟩ := g;refine ⟨_, p, rfl, f, m, u, G, λh => ?_⟩;obtain ⟨o, n⟩ := F h;cases d : cR s e 58 with
    | true =>
      rw[d] at h o n;rw[aB rfl];by_cases c : (Bx (sub s ((e + 1 : Nat) : Int) (bP [59, 63] s (e + 1) : Int))).2 = 0
      · rw[aB c]; exact ⟨rfl, o, n⟩
      · rw[aA c] at h; exact absurd h c
    | false =>
      rw[d, aA (show ¬ (ν = μ) by decide)] at h o n;rw[aA (show ¬ (ν = μ) by decide)];by_cases hx : e < γ s /\ cR s e 59 = ν /\ cR s e 63 = ν
      · rw[aB hx] at h; exact absurd h aA1
      · rw[aA hx]; exact ⟨rfl, o, n⟩
theorem CY(s:aC)(i e n:Nat)(h:i+n<=e):sub s i ((i+n:Nat))=(sub s i e).take n:=by unfold sub;rw[Rb];congr 1;omega
theorem Un(s:aC)(i e n:Nat):sub s ((i+n+1:Nat)) e=(sub s i e).drop (n+1):=by unfold sub;rw[Ri,Rx];congr 1;omega
def dR(T:aC):Nat:=cI (λc=> !(c==61)) T
def lE(k:Int)(l:δ PP)(T:aC):ζ×PP:=
 match fG k (T.take (dR T))with
 |some _=>(5,([],[],ν))
 |none=>if dR T=0 then(5,([],[],ν))else if dR T<γ T then
   (match fG k (T.drop (dR T+1))with
   |some _=>(5,([],[],ν))
   |none=>if T.drop (dR T+1)=[]/\k=1 then(5,([],[],ν))else(yA l (cK (kP k (T.take (dR T)))),(cK (kP k (T.take (dR T))),kP k (T.drop (dR T+1)),μ)))
  else if k=2 then(5,([],[],ν))else(yA l (cK (kP k (T.take (dR T)))),(cK (kP k (T.take (dR T))),[],ν))
theorem HF(s:aC)(N:γ s<=4194303)(i e:Nat)(I:i<=e)(P:e<=γ s)(l:δ PP)(O:γ l<=16)(k:Int)(H:k=1\/k=2):
  ∃l' a c,0<=a/\a<=5000000/\aic FU (s,(i:Int)) l (e:Int) k=θ (l',a,(lE k l (sub s (i:Int) (e:Int))).1,c)/\
   ((lE k l (sub s (i:Int) (e:Int))).1=0->l'=l++[(lE k l (sub s (i:Int) (e:Int))).2]/\c=(s,(e:Int))):=by
 have f:k=0\/k=1\/k=2:=.inr H;have L:γ (sub s (i:Int) (e:Int))=e-i:=aC4;have r:=λn h=>CY s i e n h;have t:=λn=>Un s i e n
 have b:∀(nm v:aC) (h:η),∃l' a c,0<=a/\a<=5000000/\((asz FU l nm).bind λ(g:ζ)=>(if g=(0:ζ)then(gd ((γ l+γ ([(nm,v,h)]:δ PP))*40<=140737488355328)<|some (l++([(nm,v,h)]:δ PP),(0:Int),(0:ζ),(s,(e:Int))))else θ (([]:δ PP),(i:Int),g,(s,(e:Int)))))=θ (l',a,yA l nm,c)/\(yA l nm=0->l'=l++[(nm,v,h)]/\c=(s,(e:Int))):=by
  intro nm v h;rw[OU l aA0,aR];by_cases q:yA l nm=0
  ·rw[aB q,aS aB9,q];exact⟨_,_,_,aA0,aA0,rfl,λ_=>⟨rfl,rfl⟩⟩
  ·rw[aA q];exact⟨_,_,_,aA0,aA0,rfl,λh=>absurd h q⟩
 unfold aic;simp only;rw[aS aA0];generalize K:sub s (i:Int) (e:Int)=T at L r t⊢;have G:dR T<=γ T:=Tp _ _;have u:=nk (·==(61:ζ)) T;have D:(if(0:Int)<=(dN (·==(61:ζ)) T)then(gd (bK ((i:Int)+(dN (·==(61:ζ)) T)))<|some ((i:Int)+(dN (·==(61:ζ)) T)))else θ (e:Int))=θ ((i+dR T:Nat):Int):=by
  unfold dR at G⊢;rcases u with⟨z,o⟩|⟨z,o,M⟩
  ·rw[aA aA0];congr 1;omega
  ·rw[aB z,aS (cA _ aA0 aA0)];congr 1;omega
 have m:(0:Int)<=dN (·==(61:ζ)) T↔dR T<γ T:=by unfold dR;rcases u with⟨z,o⟩|⟨z,o,M⟩<;>constructor<;>intro h<;>omega
 rw[D,aR,Kn s aA0 i (i+dR T) aA0 aA0 k f,aR,r (dR T) aA0];unfold lE;cases F:fG k (T.take (dR T))with
 |some j=>have B:=Y8 _ _ _ j F;rw[jS]at B;simp only;rw[aM];exact⟨_,_,_,aA0,aA0,rfl,λh=>absurd h aA1⟩
 |none=>
  simp only;rw[aH];by_cases q:dR T=0
  ·rw[aB aA0,aB q];exact⟨_,_,_,aA0,aA0,rfl,λh=>absurd h aA1⟩
  ·have A:γ (T.take (dR T))<=4194304:=by rw[jS];omega
   have J:=tC k (T.take (dR T));rw[aA aA0,aA q,aS aA0,xU _ A k f F,aR,bc _ aA0,aR];by_cases d:dR T<γ T
   ·have p:(0:Int)<=dN (·==(61:ζ)) T:=m.2 d;rw[aB d];simp only[p,decide_true,gG];rw[aS (cA _ aA0 aA0),lZ,Kn s aA0 (i+dR T+1) e aA0 aA0 k f,aR,t];cases x:fG k (T.drop (dR T+1))with
    |some j=>have B:=Y8 _ _ _ j x;rw[fB]at B;simp only;rw[aM,aR];exact⟨_,_,_,aA0,aA0,rfl,λh=>absurd h aA1⟩
    |none=>
     have w:γ (T.drop (dR T+1))=γ T-(dR T+1):=fB;have C:(if((i+dR T+1:Nat):Int)=(e:Int)then θ (decide (k=(1:Int)))else θ ν)=θ (decide (T.drop (dR T+1)=[]/\k=1)):=by
      by_cases y:T.drop (dR T+1)=[]
      ·rw[y]at w;rw[aB (by simp at w;omega)];congr 1;simp[y]
      ·have:¬γ (T.drop (dR T+1))=0:=λh=>y (Je h);rw[aA aA0,aE (λh=>y h.1)]
     simp only;rw[aH,C,aR];by_cases hx:T.drop (dR T+1)=[]/\k=1
     ·rw[aD hx,aM,aR,aB hx];exact⟨_,_,_,aA0,aA0,rfl,λh=>absurd h aA1⟩
     ·rw[aE hx,aH,aS aA0,xU _ aA0 k f x,aR,aR,aA hx];exact b _ _ _
   ·have p:¬(0:Int)<=dN (·==(61:ζ)) T:=λh=>d (m.1 h);have E:((i+dR T:Nat):Int)=(e:Int):=aA0;rw[aA d];simp only[p,decide_false,IQ];by_cases o:k=2
    ·rw[aB o,aB o,aR];exact⟨_,_,_,aA0,aA0,rfl,λh=>absurd h aA1⟩
    ·rw[aA o,aA o,aR];exact b _ _ _
def jB (st : aC) (s : aC) : Nat -> Nat -> δ PP -> ζ × Nat × δ PP
  | 0, i, l => (0, i, l)
  | f + 1, i, l => if cR s i 59 = μ then
      (if (lE 1 l (sub s ((i + 1 : Nat) : Int) (bP st s (i + 1) : Int))).1 = 0 then jB st s f (bP st s (i + 1)) (l ++ [(lE 1 l (sub s ((i + 1 : Nat) : Int) (bP st s (i + 1) : Int))).2])
       else ((lE 1 l (sub s ((i + 1 : Nat) : Int) (bP st s (i + 1) : Int))).1, 0, []))
    else (0, i, l)
def yT (s : aC) : Nat -> Nat -> δ PP -> ζ × δ PP
  | 0, i, l => (0, l)
  | f + 1, i, l => if i < γ s then
      (if (lE 2 l (sub s ((i + 1 : Nat) : Int) (bP [38] s (i + 1) : Int))).1 = 0 then yT s f (bP [38] s (i + 1)) (l ++ [(lE 2 l (sub s ((i + 1 : Nat) : Int) (bP [38] s (i + 1) : Int))).2])
       else ((lE 2 l (sub s ((i + 1 : Nat) : Int) (bP [38] s (i + 1) : Int))).1, []))
    else (0, l)
variable {l:δ PP}
theorem DL(h:yA l T=0):γ l<16:=by
 unfold yA at h;split at h
 ·exact absurd h aA1
 ·split at h
  ·exact absurd h aA1
  ·omega
theorem uQ{k:Int}(h:(lE k l T).1=0):γ l<16:=by
 unfold lE at h;split at h
 ·exact absurd h aA1
 ·split at h
  ·exact absurd h aA1
  ·split at h
   ·split at h
    ·exact absurd h aA1
    ·split at h
     ·exact absurd h aA1
     ·exact DL h
   ·split at h
    ·exact absurd h aA1
    ·exact DL h
theorem UX(s:aC)(y:γ s<=4194303)(v:Int×ζ×aC×aC×Int×aC×aC×aC×Int×δ PP×δ PP)(C:γ v.2.2.1<=1000)(B:v.2.2.1.all (λb=>decide (b.toNat<128))=μ)(n:Nat):
  ∀(i d f:Nat) (l:δ PP) (a:Int),0<=a->a<=5000000->γ s-i<=n->n+1<d->n<f->i<=γ s->γ l<=16->
  ∃a' u i' l',0<=a'/\a'<=5000000/\aim FU v d a 0 s (i:Int) l=θ (a',(jB v.2.2.1 s f i l).1,u,i',l')/\((jB v.2.2.1 s f i l).1=0->u=s/\i'=((jB v.2.2.1 s f i l).2.1:Int)/\l'=(jB v.2.2.1 s f i l).2.2):=by
 induction n with
 |zero=>
  intro i d f l a t r z A q p w;obtain⟨d,rfl⟩:=bV d;obtain⟨f,rfl⟩:∃m,f=m+1:=⟨f-1,aA0⟩;have k:cR s i 59=ν:=by unfold cR;rw[aE aA0];rfl
  rw[aof,ahs,aB rfl,JH,aR,k,aR,aH,jB,k,aA aA1];exact⟨_,_,_,_,aA0,aA0,rfl,λ_=>⟨rfl,rfl,rfl⟩⟩
 |succ n x=>
  intro i d f l a t r z A q p w;obtain⟨d,rfl⟩:=bV d;obtain⟨f,rfl⟩:∃m,f=m+1:=⟨f-1,aA0⟩;rw[aof,ahs,aB rfl,JH,aR,aR,jB];cases k:cR s i 59 with
  |false=>rw[aH,aA aA1];exact⟨_,_,_,_,aA0,aA0,rfl,λ_=>⟨rfl,rfl,rfl⟩⟩
  |true=>
   have j:=(wM k).1;have o:=Kf v.2.2.1 s (i+1);have g:=Fs v.2.2.1 s (i+1) j;rw[aM,aB rfl,aS (cA _ aA0 aA0),lZ,nl s aA0 (i+1) j _ C B,aR];obtain⟨l',a',c,G,F,E,D⟩:=HF s y (i+1) (bP v.2.2.1 s (i+1)) o g l w 1 (.inl rfl);rw[E,aR];by_cases e:(lE 1 l (sub s ((i+1:Nat):Int) (bP v.2.2.1 s (i+1):Int))).1=0
   ·obtain⟨rfl,rfl⟩:=D e;have:=uQ e;rw[aB e,e];exact x (bP v.2.2.1 s (i+1)) d f _ _ aA0 aA0 aA0 aA0 aA0 g aB2
   ·rw[aA e];simp only;obtain⟨d,rfl⟩:=bV d;rw[aof,ahs,aA e,aR,aH];exact⟨_,_,_,_,aA0,aA0,rfl,λh=>absurd h e⟩
theorem WB(s:aC)(v:γ s<=4194303)(n:Nat):
  ∀(i b f:Nat) (l:δ PP) (a:Int),0<=a->a<=5000000->γ s-i<=n->n+1<b->n<f->i<=γ s->γ l<=16->
  ∃a' t i' l',0<=a'/\a'<=5000000/\ail FU b a 0 s (i:Int) l=θ (a',(yT s f i l).1,t,i',l')/\((yT s f i l).1=0->l'=(yT s f i l).2):=by
 induction n with
 |zero=>intro i b f l a q p w x o k r;obtain⟨b,rfl⟩:=bV b;obtain⟨f,rfl⟩:∃m,f=m+1:=⟨f-1,aA0⟩;rw[aoe,ahr,aB rfl,nT,aR,aD aA0,aR,gL,aH,yT,aA aA0];exact⟨_,_,_,_,aA0,aA0,rfl,λ_=>rfl⟩
 |succ n u=>
  intro i b f l a q p w x o k r;obtain⟨b,rfl⟩:=bV b;obtain⟨f,rfl⟩:∃m,f=m+1:=⟨f-1,aA0⟩;rw[aoe,ahr,aB rfl,nT,aR,aR,yT];by_cases d:i<γ s
  ·have j:=Kf [38] s (i+1);have g:=Fs [38] s (i+1) d;rw[aE aA0,vP,aM,aB d,aS (cA _ aA0 aA0),lZ,nl s aA0 (i+1) d _ aA1 aA1,aR];obtain⟨l',a',c,B,A,z,y⟩:=HF s v (i+1) (bP [38] s (i+1)) j g l r 2 (.inr rfl);rw[z,aR];by_cases e:(lE 2 l (sub s ((i+1:Nat):Int) (bP [38] s (i+1):Int))).1=0
   ·obtain⟨rfl,rfl⟩:=y e;have:=uQ e;rw[aB e,e];exact u (bP [38] s (i+1)) b f _ _ aA0 aA0 aA0 aA0 aA0 g aB2
   ·rw[aA e];simp only;obtain⟨b,rfl⟩:=bV b;rw[aoe,ahr,aA e,aR,aH];exact⟨_,_,_,_,aA0,aA0,rfl,λh=>absurd h e⟩
  ·rw[aD aA0,gL,aH,aA d];exact⟨_,_,_,_,aA0,aA0,rfl,λ_=>rfl⟩
theorem pL(l:δ PP)(a:γ l<20):oq FU l=θ (fU l):=by unfold oq;rw[aS aA0,Li l a];rfl
open Go.Lib renaming hasPrefix → oI, trimPrefix → iD
def lW(a:η)(c:ζ):η:=gA c||(!a&&(c==42||c==35))
def T3(c:ζ):η:=c==45||c==46||c==40||c==41
def xY(a:η):aC->ε aC
 |[]=>θ []
 |c::T=>if lW a c=μ then(xY a T).map (c::·)else if T3 c=μ then xY a T else ι
theorem lu(b:η)(c:ζ):(((if 48<=c then θ (decide (c<=57))else θ ν)).bind λa=>(bif a then θ a else(bif (!b)then(if c=42 then θ μ else θ (decide (c=35)))else θ ν)))=θ (lW b c):=by revert c;cases b<;>exact fM _ aA5
theorem zo(c:ζ):(if c=45 then θ ν else(if c=46 then θ ν else(if c=40 then θ ν else θ (!decide (c=41)))))=θ (!T3 c):=by revert c;exact fM _ aA5
theorem Em(a:η):∀T d,xY a T=θ d->γ d<=γ T
 |[],d,h=>by simp only[xY,bG]at h;subst h;exact dO _
 |c::T,d,h=>by
  unfold xY at h;split at h
  ·cases b:xY a T with
   |none=>rw[b]at h;cases h
   |some d'=>rw[b]at h;simp at h;subst h;have:=Em a T d' b;simp;omega
  ·split at h
   ·have:=Em a T d h;simp;omega
   ·cases h
theorem OG(s:aC)(v:γ s<=4194303)(o:Int)(u:UU)(e:Nat)(y:e<=γ s)(h:η)(n:Nat):∀k f (b:aC),k+n=e->n<f->γ b<=k->
  ∃j,ahn FU (s,o) u e h f b k=θ j/\
   (match xY h (sub s k e)with
   |some d=>j=.inl (b++d,e)
   |none=>∃a c w,0<=a/\a<=5000000/\j=.inr (a,5,c,w)):=by
 induction n with
 |zero=>intro k f b p q r;obtain⟨f,rfl⟩:=bV f;obtain rfl:k=e:=aA0;rw[asr,agt,aA aA0,Z4];exact⟨_,rfl,by simp only[xY,gD]⟩
 |succ n m=>
  intro k f b p q r;obtain⟨f,rfl⟩:=bV f;have l:sub s (k:Int) (e:Int)=at_ s (k:Int)::sub s ((k+1:Nat):Int) (e:Int):=by unfold sub;simp;rw[Iq s k aA0,show e-k=(e-(k+1))+1 by omega,dY]
  rw[asr,agt,aB aA0,dS,lu,aR,l];unfold xY;cases z:lW h (at_ s (k:Int))with
  |true=>
   rw[aM,aS aA2,aR,kA,aS (cA _ aA0 aA0)];obtain⟨j,t,i⟩:=m (k+1) f (b++[at_ s (k:Int)]) aA0 aA0 aA2;refine⟨j,t, ?_⟩;cases g:xY h (sub s ((k+1:Nat):Int) (e:Int))with
   |none=>rw[g]at i;exact i
   |some d=>rw[g]at i;simp;rw[i,gZ];rfl
  |false=>
   rw[aH,zo,aR];cases x:T3 (at_ s (k:Int))with
   |true=>rw[gL,aH,aR,kA,aS (cA _ aA0 aA0),lZ];exact m _ f b aA0 aA0 aA0
   |false=>exact⟨_,rfl,_,_,_,aA0,aA0,rfl⟩
def jX(s:aC)(i:Nat):ζ×aC:=
 match xY (cR s i 43) (sub s ((if cR s i 43=μ then i+1 else i:Nat)) (bP [59] s i))with
 |none=>(5,[])
 |some d=>if d=[]then(5,[])else if 30<γ d then(4,[])else(0,if cR s i 43=μ then 43::d else d)
theorem Oo(T d:aC)(h:xY ν T=θ d):iD d [43]=d:=by
 have key:∀(T d),xY ν T=θ d->∀c∈d,c≠43:=by
  intro T;induction T with
  |nil=>intro d h;simp only[xY,bG]at h;subst h;simp
  |cons a T g=>
   intro d h;unfold xY at h;split at h
   ·rename_i i;cases b:xY ν T with
    |none=>rw[b]at h;cases h
    |some d'=>
     rw[b]at h;simp at h;subst h;intro c f;rcases aQ.1 f with rfl|f
     ·intro e;subst e;exact absurd i aA1
     ·exact g d' b c f
   ·split at h
    ·exact g d h
    ·cases h
 cases d with
 |nil=>rfl
 |cons c d=>have:=key T _ h c aA3;have j:¬43=c:=λe=>this e.symm;unfold iD oI;simp[j]
theorem rM(st s:aC)(i:Nat)(a:i<γ s)(h:fT st (at_ s i)=ν):bP st s i=bP st s (i+1):=by unfold bP;rw[Iq s i a,cI,aB (by rw[h];rfl)];omega
theorem vq(s:aC)(q:γ s<=4194303)(i:Nat)(r:i<=γ s)(b:aC):∃a c u,0<=a/\a<=5000000/\akp FU (s,i) (b,[],[],0,[],[])=θ (a,(jX s i).1,c,u)/\
  ((jX s i).1=0->c=(s,(bP [59] s i:Int))/\u=(b,(jX s i).2,[],0,[],[])):=by
 have A:=Kf [59] s i;have k:=Fs [59] s i r;have f:∀(d v:aC) (t:aC),iD v ([43]:aC)=d->∃a c u,0<=a/\a<=5000000/\
   (if(iD v ([43]:aC))=([]:aC)then θ ((i:Int),(5:ζ),(s,(bP [59] s i:Int)),((b,v,([]:aC),(0:Int),([]:δ PP),([]:δ PP)):UU))else(if(30:Int)<(γ (iD v ([43]:aC)):Int)then θ ((i:Int),(4:ζ),(s,(bP [59] s i:Int)),((b,v,([]:aC),(0:Int),([]:δ PP),([]:δ PP)):UU))else θ ((0:Int),(0:ζ),(s,(bP [59] s i:Int)),((b,v,([]:aC),(0:Int),([]:δ PP),([]:δ PP)):UU))))=
   θ (a,(if d=[]then((5,[]):ζ×aC)else if 30<γ d then(4,[])else(0,v)).1,c,u)/\((if d=[]then((5,[]):ζ×aC)else if 30<γ d then(4,[])else(0,v)).1=0->c=(s,(bP [59] s i:Int))/\u=(b,(if d=[]then((5,[]):ζ×aC)else if 30<γ d then(4,[])else(0,v)).2,[],0,[],[])):=by
  intro d v t C;rw[C];by_cases n:d=[]
  ·rw[aB n,aB n];exact⟨_,_,_,aA0,aA0,rfl,λh=>absurd h aA1⟩
  ·rw[aA n,aA n];by_cases m:30<γ d
   ·rw[aB aA0,aB m];exact⟨_,_,_,aA0,aA0,rfl,λh=>absurd h aA1⟩
   ·rw[aA aA0,aA m];exact⟨_,_,_,aA0,aA0,rfl,λ_=>⟨rfl,rfl⟩⟩
 unfold akp jX;simp only;rw[nl s aA0 i r _ aA1 aA1,aR,JH,aR];cases l:cR s i 43 with
 |true=>
  have o:=(wM l).1;have hO:=(wM l).2;have B:=rM [59] s i o (by rw[hO];decide);have z:=Kf [59] s (i+1);rw[aM,aS aA1,aS (cA _ aA0 aA0),aR,lZ,aB rfl];simp only;obtain⟨j,p,e⟩:=OG s q (i:Int) (b,[],[],0,[],[]) (bP [59] s i) k μ (bP [59] s i-(i+1)) (i+1) FU ([]++[43]) aA0 aA4 (by simp only[Rl,cN,iP];omega);rw[p,aR];cases g:xY μ (sub s ((i+1:Nat):Int) ((bP [59] s i:Nat):Int))with
  |none=>rw[g]at e;obtain⟨a,c,w,y,x,rfl⟩:=e;rw[Rt];exact⟨_,_,_,aA0,aA0,rfl,λh=>absurd h aA1⟩
  |some d=>rw[g]at e;simp only at e;subst e;rw[kA];exact f d _ [] (by unfold iD oI;simp)
 |false=>
  rw[aH,aR,aA (show¬(ν=μ)by decide)];obtain⟨j,p,e⟩:=OG s q i _ _ k ν (bP [59] s i-i) i FU [] aA0 aA4 aA3;rw[p,aR];cases g:xY ν _ with
  |none=>rw[g]at e;obtain⟨a,c,w,y,x,rfl⟩:=e;exact⟨_,_,_,aA0,aA0,rfl,λh=>absurd h aA1⟩
  |some d=>rw[g]at e;subst e;exact f d d [] (Oo _ _ g)
def iE:UU:=([],[],[],0,[],[])
theorem Zp(st s:aC):∀f i l,γ l<=16->γ (jB st s f i l).2.2<=16
 |0,i,l,h=>h
 |f+1,i,l,h=>by
  unfold jB;split
  ·split
   ·rename_i a;have:=uQ a;exact Zp st s f _ _ aA2
   ·exact cW _
  ·exact h
theorem AV(s:aC):∀f i l,γ l<=16->γ (yT s f i l).2<=16
 |0,i,l,h=>h
 |f+1,i,l,h=>by
  unfold yT;split
  ·split
   ·rename_i a;have:=uQ a;exact AV s f _ _ aA2
   ·exact cW _
  ·exact h
theorem KX(st s:aC):∀f i l,i<=γ s->(jB st s f i l).1=0->(jB st s f i l).2.1<=γ s
 |0,i,l,h,_=>h
 |f+1,i,l,h,a=>by
  unfold jB at a⊢;split
  ·rename_i b;rw[aB b]at a;split
   ·rename_i c;rw[aB c]at a;exact KX st s f _ _ (Fs st s _ (wM b).1) a
   ·exact cW _
  ·exact h
def wF (st s b c h : aC) (a : Int) (i : Nat) : ζ × UU :=
  if (jB st s (γ s + 1) i []).1 = 0 then
    (if (yT s (γ s + 1) (jB st s (γ s + 1) i []).2.1 []).1 = 0 then (0, (b, c, h, a, fU (jB st s (γ s + 1) i []).2.2, fU (yT s (γ s + 1) (jB st s (γ s + 1) i []).2.1 []).2))
     else ((yT s (γ s + 1) (jB st s (γ s + 1) i []).2.1 []).1, iE))
  else ((jB st s (γ s + 1) i []).1, iE)
abbrev PV:=Int×ζ×aC×aC×Int×aC×aC×aC×Int×δ PP×δ PP
def PG(v:PV):ε (UU×Int×ζ):=((aim FU v FU v.1 v.2.1 v.2.2.2.1 v.2.2.2.2.1 v.2.2.2.2.2.2.2.2.2.1)).bind λ(a:(Int×ζ×aC×Int×(δ PP)))=>(((ail FU FU a.1 a.2.1 a.2.2.1 a.2.2.2.1 v.2.2.2.2.2.2.2.2.2.2)).bind λ(b:(Int×ζ×aC×Int×(δ PP)))=>(if b.2.1=0 then((oq FU a.2.2.2.2).bind λ(d:δ PP)=>((oq FU b.2.2.2.2).bind λ(c:δ PP)=>θ ((v.2.2.2.2.2.1,v.2.2.2.2.2.2.1,v.2.2.2.2.2.2.2.1,v.2.2.2.2.2.2.2.2.1,d,c),0,0)))else θ (([],[],[],0,[],[]),b.1,b.2.1)))
theorem N2(b:Nat)(d:0<b)(a:Int)(e:ζ)(c:¬e=0)(x:aC)(i:Int)(l:δ PP):ail FU b a e x i l=θ (a,e,x,i,l):=by obtain⟨b,rfl⟩:=bV b;rw[aoe,ahr,aA c,aR,aH]
theorem yk(v:PV)(b:Nat)(d:0<b)(a:Int)(e:ζ)(c:¬e=0)(x:aC)(i:Int)(l:δ PP):aim FU v b a e x i l=θ (a,e,x,i,l):=by obtain⟨b,rfl⟩:=bV b;rw[aof,ahs,aA c,aR,aH]
theorem Zb(v:PV)(a:¬v.2.1=0):PG v=θ (iE,v.1,v.2.1):=by unfold PG;rw[yk v FU aA4 _ _ a,aR];rw[N2 FU aA4 _ _ a,aR];rw[aA a];rfl
theorem PF(s:aC)(n:γ s<=4194303)(st:aC)(t:γ st<=1000)(r:st.all (λb=>decide (b.toNat<128))=μ)(a:Int)(m:0<=a)(l:a<=5000000)(e j h:aC)(d:Int)(i:Nat)(o:i<=γ s):
  ∃a',0<=a'/\a'<=5000000/\PG (a,0,st,s,i,e,j,h,d,[],[])=θ ((wF st s e j h d i).2,a',(wF st s e j h d i).1):=by
 unfold PG wF;obtain⟨A,c,F,D,z,y,x,w⟩:=UX s n (a,0,st,s,i,e,j,h,d,[],[]) t r (γ s) i FU (γ s+1) [] a m l aA0 aA4 aA0 o aA3;rw[x,aR];by_cases f:(jB st s (γ s+1) i []).1=0
 ·obtain⟨rfl,rfl,rfl⟩:=w f;have k:=KX st c _ i [] o f;have q:=Zp st c (γ c+1) i [] aA3;have p:=AV c (γ c+1) (jB st c (γ c+1) i []).2.1 [] aA3;obtain⟨I,B,E,C,H,G,v,u⟩:=WB c n (γ c) (jB st c _ i []).2.1 FU (γ c+1) [] A z y aA0 aA4 aA0 k aA3;rw[f,v,aR];simp only;by_cases g:(yT c (γ c+1) (jB st c (γ c+1) i []).2.1 []).1=0
  ·rw[aB g,aB g,u g,pL _ aA0,pL _ aA0];exact⟨_,aA0,aA0,rfl⟩
  ·rw[aA g,aA g];exact⟨_,aA0,aA0,rfl⟩
 ·rw[aA f,N2 FU aA4 _ _ f,aR];rw[aA f];exact⟨_,aA0,aA0,rfl⟩
def YK:aC:=[115,105,112]
def CE:aC:=[115,105,112,115]
def pg:aC:=[116,101,108]
def Fp (s : aC) : ζ × UU :=
  if 1024 < γ s then (4, iE) else if bP [58] s 0 < γ s then
    (if cK (s.take (bP [58] s 0)) = YK \/ cK (s.take (bP [58] s 0)) = CE then
      (if (gC s (bP [58] s 0 + 1)).1 = 0 then wF [59, 63] s (cK (s.take (bP [58] s 0))) (gC s (bP [58] s 0 + 1)).2.1 (gC s (bP [58] s 0 + 1)).2.2.1 (gC s (bP [58] s 0 + 1)).2.2.2.1 (gC s (bP [58] s 0 + 1)).2.2.2.2 else ((gC s (bP [58] s 0 + 1)).1, iE))
     else if cK (s.take (bP [58] s 0)) = pg then
      (if (jX s (bP [58] s 0 + 1)).1 = 0 then wF [59] s (cK (s.take (bP [58] s 0))) (jX s (bP [58] s 0 + 1)).2 [] 0 (bP [59] s (bP [58] s 0 + 1)) else ((jX s (bP [58] s 0 + 1)).1, iE))
     else (15, iE))
  else (5, iE)
theorem LL(s:aC)(i:Nat)(b:i<=γ s):(jV s i).2.2.2<=γ s:=by
 have c:=Bg s i b;unfold jV;split
 ·exact cW _
 ·split
  ·rename_i a;split
   ·exact Fs _ s _ (wM a).1
   ·exact cW _
  ·split
   ·exact cW _
   ·exact c.2
theorem xp(s:aC)(i:Nat)(a:i<=γ s):(gC s i).2.2.2.2<=γ s:=by
 unfold gC;split
 ·split
  ·exact LL s _ aA0
  ·exact cW _
 ·exact LL s i a
theorem L0(s:aC):∃a,0<=a/\a<=5000000/\avl FU s=θ ((Fp s).2,a,(Fp s).1):=by
 unfold avl Fp;by_cases r:1024<γ s
 ·rw[aB aA0,aB r];exact⟨_,aA0,aA0,rfl⟩
 ·rw[aA aA0,aA r];have t:=utl1 58 s 0;rw[YN]at t;rcases nk (·==(58:ζ)) s with⟨w,v⟩|⟨w,v,x⟩
  ·rw[aB aA0,aA aA0];exact⟨_,aA0,aA0,rfl⟩
  ·have m:dN (·==(58:ζ)) s=((bP [58] s 0:Nat):Int):=by omega
   rw[m];have g:bP [58] s 0<γ s:=aA0
   generalize bP [58] s 0=c at g⊢;rw[aB g,aS (cA _ aA0 aA0),aS aA0,lB,bc _ aB8,aR,lZ];generalize cK (s.take c)=b;have p:(if b=([115,105,112]:aC)then θ (decide (b=([115,105,112]:aC)))else θ (decide (b=([115,105,112,115]:aC))))=θ (decide (b=YK\/b=CE)):=by
    by_cases i:b=YK
    ·rw[aB (show b=([115,105,112]:aC)from i),aD (show b=([115,105,112]:aC)from i),aD (Or.inl i)]
    ·rw[aA (show¬b=([115,105,112]:aC)from i)];congr 1;rw[bZ];exact⟨Or.inr,λh=>h.resolve_left i⟩
   rw[p,aR];by_cases e:b=YK\/b=CE
   ·obtain⟨a,q,u,k,j,o,n⟩:=K5 s aA0 (c+1) g b;rw[aD e,aB e,o,aR];by_cases f:(gC s (c+1)).1=0
    ·obtain⟨rfl,rfl⟩:=n f;rw[f];have l:(gC s (c+1)).2.2.2.2<=γ s:=xp s (c+1) g;exact PF s aA0 [59,63] aA1 aA1 a k j b _ _ _ _ l
    ·rw[aA f];exact⟨_,k,j,Zb (a,(gC s (c+1)).1,[59,63],q.1,q.2,u) f⟩
   ·rw[aE e,aH,aA e];by_cases d:b=pg
    ·obtain⟨a,q,u,k,j,o,n⟩:=vq s aA0 (c+1) g b;rw[aB (show b=[116,101,108]from d),aB d,o,aR];by_cases f:(jX s (c+1)).1=0
     ·obtain⟨rfl,rfl⟩:=n f;rw[f];exact PF s aA0 _ aA1 aA1 a k j b _ _ _ _ (Fs _ s _ g)
     ·rw[aA f];exact⟨_,k,j,Zb _ f⟩
    ·rw[aA (show¬b=[116,101,108]from d),aA d,aR];exact⟨_,qJ 0,(show 0<=5000000 by decide),Zb _ (show¬15=0 by decide)⟩
theorem seesA(s A B:aC)(b:ζ)(h:s=A++B):cR s (γ A) b=decide (B.head? =θ b):=by
 subst h;unfold cR;cases B with
 |nil=>simp
 |cons c B=>
  rw[Rp];by_cases h:c=b
  ·subst h;simp
  ·simp[h]
theorem vu(s A B C:aC)(h:s=A++(B++C)):sub s (γ A) ((γ A+γ B:Nat))=B:=by subst h;unfold sub;rw[lB,lB,eM,zbJ,fJ]
theorem TO(p:ζ->η)(B:aC)(h:∀c,B.head? =θ c->p c=ν):cI p B=0:=by
 cases B with
 |nil=>rfl
 |cons c B=>exact lQ p c B (h c rfl)
theorem R2(a b:aC)(h:a≠[]):(a++b).head? =a.head? :=by
 cases a with
 |nil=>exact absurd rfl h
 |cons x a=>rfl
section
variable (q : ζ -> η) (h1 : ∀ c, fX c = μ -> q (eQ c) = μ) (h2 : q 58 = μ) (h3 : q 48 = μ)
include h1 h2 h3
omit h2 in
theorem S5 (g:aC) (h:qT g=μ):∀c∈jO g,q c=μ:=by
 have hx:g.all fX=μ:=by unfold qT at h;simp only[lA]at h;exact h.2
 intro c a;unfold jO at a;split at a
 ·rw[aG.1 a];exact h3
 ·have b:=(wQ _).subset a;obtain⟨d,e,rfl⟩:=dB.1 b;exact h1 d (aT.1 hx d e)
end
theorem jm:∀c:ζ,jY c=μ->c≠91:=fM _ aA5
open Go.Px
open Go.Lib renaming cut → eF, index → cE, join → cY, trimLeftS → Ge
theorem Be(a b:aC)(l:δ aC):cY (a::b::l) [58]=a++(58::cY (b::l) [58]):=by simp[cY]
theorem join_one(a:aC):cY [a] [58]=a:=by simp[cY]
theorem OL(c:ζ):∀(a z:aC),(∀b∈a,b≠c)->cH c (a++c::z)=a::cH c z
 |[],z,_=>aym c z
 |b::a,z,h=>by rw[NM,tl c b _ (h b aA3),OL c a z (λx hx=>h x (eU _ hx))];rfl
theorem D1(c:ζ):∀(a:aC),(∀b∈a,b≠c)->cH c a=[a]
 |[],_=>rfl
 |b::a,h=>by rw[tl c b _ (h b aA3),D1 c a (λx hx=>h x (eU _ hx))];rfl
theorem Lk:∀gs:δ aC,gs≠[]->(∀g∈gs,∀b∈g,b≠58)->cH 58 (cY gs [58])=gs
 |[],h,_=>absurd rfl h
 |[a],_,h=>by rw[join_one,D1 58 a (h a aA3)]
 |a::b::l,_,h=>by rw[Be,OL 58 a _ (h a aA3),Lk (b::l) aA3 (λg c=>h g (eU _ c))]
def D3:aC->η
 |[]=>μ
 |c::l=>(if c=58 then !(l.head? ==ι)&& !(l.head? ==θ 58)else μ)&&D3 l
theorem Df:∀l:aC,D3 l=μ->cE l [58,58]= -1/\∀r,cE (l++58::58::r) [58,58]=γ l
 |[],_=>⟨aA1,λr=>by rw[Rl];rfl⟩
 |c::l,h=>by
  rw[D3,lA]at h;obtain⟨g,f⟩:=Df l h.2;have key:∀r:aC,(r=[]\/l≠[]\/c≠58)->[58,58].isPrefixOf (c::(l++r))=ν:=by
   by_cases a:c=58
   ·subst a;cases l with
    |nil=>simp at h
    |cons d l=>
     have i:¬d=58:=by simpa using h.1
     have b:(58==d)=ν:=by simpa using λe:58=d=>i e.symm
     simp[List.isPrefixOf,b]
   ·have:(58==c)=ν:=by simpa using λe:58=c=>a e.symm
    simp[List.isPrefixOf,this]
  constructor
  ·have:=key [] (.inl rfl);rw[gD]at this;rw[bck,this,aA aA1,aB g]
  ·intro r
   have:=key (58::58::r) (by
    by_cases a:c=58
    ·right;left;intro e;subst e a;simp at h
    ·exact .inr (.inr a))
   rw[NM,bck,this,aA aA1,f r,cN];omega
theorem D2:∀a:aC,(∀b∈a,b≠58)->D3 a=μ
 |[],_=>rfl
 |c::a,h=>by rw[D3,aA (h c aA3),D2 a (λx hx=>h x (eU _ hx))];rfl
theorem OM:∀a d (z:aC),(∀b∈a,b≠58)->d≠58->D3 (d::z)=μ->D3 (a++58::d::z)=μ
 |[],d,z,_,f,e=>by have:(d==58)=ν:=aD5;rw[Rl,D3,e];simp[this]
 |c::a,d,z,h,f,e=>by rw[NM,D3,aA (h c aA3),OM a d z (λx hx=>h x (eU _ hx)) f e];rfl
theorem Ll:∀gs:δ aC,(∀g∈gs,g≠[]/\∀b∈g,b≠58)->D3 (cY gs [58])=μ
 |[],_=>by simp[Lib.join_nil,D3]
 |[a],h=>by rw[join_one];exact D2 a (h a aA3).2
 |a::b::l,h=>by
  have f:=Ll (b::l) (λg k=>h g (eU _ k));have j:=h b aA3;obtain⟨d,z,e⟩:∃d z,cY (b::l) [58]=d::z/\d≠58:=by
   cases c:b with
   |nil=>exact absurd c j.1
   |cons d b'=>
    have i:d≠58:=j.2 d (by rw[c];simp);cases l with
    |nil=>exact⟨d,b',by rw[join_one],i⟩
    |cons x l=>exact⟨d,b'++(58::cY (x::l) [58]),by rw[Be];rfl,i⟩
  rw[Be,e.1];rw[e.1]at f;exact OM a d z (h a aA3).2 e.2 f
theorem ku:∀c:ζ,fX c=μ->fX (eQ c)=μ:=fM _ aA5
theorem kt:∀c:ζ,fX c=μ->(!(eQ c==58))=μ:=fM _ aA5
theorem WJ(g:aC)(h:qT g=μ):qT (jO g)=μ/\jO (jO g)=jO g/\jO g≠[]/\∀b∈jO g,b≠58:=by
 have k:=Bh g h;have o:∀b∈jO g,b≠58:=λb i=>by have:=S5 (λc=> !(c==58)) kt aA1 g h b i;simpa using this
 have l:=S5 fX ku aA1 g h;have f:jO g≠[]:=by
  unfold jO;split
  ·simp
  ·assumption
 refine⟨?_, ?_,f,o⟩
 ·have:=bL.2 f;unfold qT;rw[aD aA0,aD k,Rw,Rw,aT];exact l
 ·have j:LD (jO g)=jO g:=by
   refine Dy _ λb i=> ?_;unfold jO at i;split at i
   ·rw[aG.1 i];decide
   ·have p:=(wQ _).subset i;obtain⟨d,q,rfl⟩:=dB.1 p;exact low2 d
  have m:Ge (jO g) [48]=[]\/Ge (jO g) [48]=jO g:=by
   unfold jO;split
   ·left;decide
   ·right;unfold Ge;exact Br _ _
  have e:jO (jO g)=if Ge (jO g) [48]=[]then [48]else Ge (jO g) [48]:=by
   conv=>lhs;unfold jO
   rw[show LD (if Ge _ _=[]then [48]else Ge _ _)=jO g from j]
  rw[e];rcases m with a|a
  ·rw[aB a]
   have:jO g=[48]:=by
    unfold jO at a⊢;split
    ·rfl
    ·rename_i n;rw[aA n]at a;unfold Ge at a n;rw[Br]at a;exact absurd a n
   rw[this]
  ·rw[a,aA f]
def gdG(gs:δ aC):Prop:=∀g∈gs,qT g=μ/\jO g=g/\g≠[]/\∀b∈g,b≠58
theorem Pg(s:aC):gdG (yV s).1:=by
 intro x hx;unfold yV at hx;split at hx
 ·rename_i b;obtain⟨y,a,rfl⟩:=dB.1 hx;exact WJ y (aT.1 b y a)
 ·simp at hx
theorem Bk(s:aC):gdG (iG s).1:=by
 unfold iG;split
 ·intro x hx;simp at hx
 ·exact Pg s
theorem Bj(gs:δ aC)(h:gdG gs)(b:gs≠[]):yV (cY gs [58])=(gs,μ):=by
 unfold yV;rw[Lk gs b (λg a=>(h g a).2.2.2),aB (aT.2 λg a=>(h g a).1)];congr 1
 conv=>rhs;rw[<-List.map_id gs]
 exact bz λg a=>(h g a).2.1
theorem jr(gs:δ aC)(h:gdG gs)(a:gs≠[]):cY gs [58]≠[]:=by
 intro e;have:=Lk gs a (λg b=>(h g b).2.2.2);rw[e]at this;cases gs with
 |nil=>exact a rfl
 |cons g l=>
  have c:[]=g:=by have:=bF List.head? this;simpa [cH] using this
  exact(h g aA3).2.2.1 c.symm
theorem Pj(gs:δ aC)(h:gdG gs):iG (cY gs [58])=(gs,μ):=by
 unfold iG;by_cases a:gs=[]
 ·subst a;rw[aB (by simp[Lib.join_nil])]
 ·rw[aA (jr gs h a),Bj gs h a]
theorem Wg:∀gs:δ aC,(∀g∈gs,γ g<=4)->gs≠[]->γ (cY gs [58])+1<=γ gs*5
 |[],_,h=>absurd rfl h
 |[a],h,_=>by rw[join_one];have:=h a aA3;simp;omega
 |a::b::l,h,_=>by have c:=Wg _ (λg d=>h g (eU _ d)) aA3;have:=h a aA3;rw[Be];simp at c⊢;omega
variable {a:δ aC}
theorem Bm(h:gdG a):∀g∈a,γ g<=4:=λg b=>by have:=(h g b).1;unfold qT at this;simp at this;exact this.1.2
theorem WG(x:aC)(h:(dT x).2=μ):dT (dT x).1=((dT x).1,μ):=by
 unfold dT at h;by_cases a:39<γ x
 ·rw[aB a]at h;cases h
 rw[aA a]at h;by_cases i:(eF x [58,58]).2.2=ν
 ·rw[aB i]at h;simp at h;have e:(dT x).1=cY (yV x).1 [58]:=by unfold dT;rw[aA a,aB i]
  rw[e];have f:=Pg x;generalize(yV x).1=gs at h f⊢;have c:gs≠[]:=by intro e;rw[e]at h;exact absurd h.2 aA1
  have r:=Wg gs (Bm f) c;have l:=(Df _ (Ll gs λg b=>(f g b).2.2)).1;unfold dT;rw[aA aA0,Fh,aB l,Bj gs f c,aD h.2];rfl
 ·rw[aA i]at h;by_cases j:(!(iG (eF x [58,58]).1).2|| !(iG (eF x [58,58]).2.1).2||decide (7<(γ (iG (eF x [58,58]).1).1:Int)+(γ (iG (eF x [58,58]).2.1).1:Int)))=μ
  ·rw[aB j]at h;cases h
  ·have e:(dT x).1=cY (iG (eF x [58,58]).1).1 [58]++[58,58]++cY (iG (eF x [58,58]).2.1).1 [58]:=by unfold dT;rw[aA a,aA i,aA j]
   rw[e];have k:=Bk (eF x [58,58]).1;have m:=Bk (eF x [58,58]).2.1;simp at j;have n:=j.2;generalize(iG (eF x _).1).1=A at k n⊢;generalize(iG (eF x _).2.1).1=B at m n⊢;have q:γ (cY A _)<=γ A*5:=Z0 [58] 4 A (Bm k);have p:γ (cY B [58])<=γ B*5:=Z0 [58] 4 B (Bm m);have l:=(Df _ (Ll A λg b=>(k g b).2.2)).2 (cY B [58]);have o:cY A [58]++[58,58]++cY B [58]=cY A [58]++58::58::cY B [58]:=aA3;have d:eF (cY A [58]++[58,58]++cY B [58]) [58,58]=(cY A [58],cY B [58],μ):=by rw[o,Fh,l,aA aA0,lB,fJ];rw[show cY A [58]++58::58::cY B [58]=(cY A [58]++[58,58])++cY B [58]by simp,show(cY A [58]).length+γ ([58,58]:aC)=γ (cY A [58]++[58,58]) by simp,eM]
   unfold dT;rw[aA aA2,d,aA (show¬(μ=ν)by decide)];rw[Pj A k,Pj B m,aA (by
    simp only[YO,aW];rintro((h|h)|h)
    ·cases h
    ·cases h
    ·omega)]
theorem OK(c:ζ)(f:ζ->ζ)(a:∀b,f b=c↔b=c):∀s:aC,cH c (s.map f)=(cH c s).map (List.map f)
 |[]=>rfl
 |b::l=>by
  have d:=OK c f a l;by_cases h:b=c
  ·have g:=(a b).2 h;rw[uX,h,aym];rw[h]at g;rw[g,aym,d];rfl
  ·rw[uX,tl c b l h,tl c (f b) _ (λe=>h ((a b).1 e)),d];cases cH c l with
   |nil=>rfl
   |cons x r=>rfl
theorem ym:∀c:ζ,(decide (eQ c=46))=decide (c=46):=fM _ aA5
theorem ri(b:ζ):eQ b=46↔b=46:=by
 have:=ym b;by_cases h:b=46
 ·simp[h];decide
 ·rw[aE h,bM]at this;simp[h,this]
theorem QG:∀c:ζ,jY (eQ c)=jY c:=fM _ aA5
theorem iq:∀c:ζ,gA (eQ c)=gA c:=fM _ aA5
theorem N6:∀c:ζ,gA (eQ c)=μ->eQ c=c:=fM _ aA5
theorem ir:∀c:ζ,(eQ c==45)=(c==45):=fM _ aA5
theorem Z6(x:aC)(i:Int):(at_ (cK x) i==45)=(at_ x i==45):=by
 unfold cK at_;rw[bJ,bJ,aY];cases x[i.toNat]? with
 |none=>rfl
 |some c=>exact ir c
theorem VS(x:aC):Fk (cK x)=Fk x:=by
 have a:γ (cK x)=γ x:=by unfold cK;exact Gf ..
 have b:(cK x).all jY=x.all jY:=by unfold cK;rw[List.all_map];congr 1;funext c;exact QG c
 unfold Fk;rw[a,Z6,Z6,b]
theorem O7(x:aC):mH (cK x)=mH x:=by unfold mH cK;rw[List.any_map];congr 1;funext c;show(!gA _)=_;rw[iq]
theorem VI(s:aC):JF (cK s)=JF s:=by
 have b:γ (cK s)=γ s:=by unfold cK;exact Gf ..
 have a:cH 46 (cK s)=(cH 46 s).map cK:=OK 46 eQ ri s;have d:((cH 46 s).map cK).all Fk=(cH 46 s).all Fk:=by rw[List.all_map];congr 1;funext x;exact VS x
 have c:((cH 46 s).map cK).any mH=(cH 46 s).any mH:=by rw[List.any_map];congr 1;funext x;exact O7 x
 unfold JF;rw[b,a,d,c]
theorem X7(g:aC):vF ([91]++g++[93])=μ/\sub ([91]++g++[93]) 1 ((γ ([91]++g++[93]))-1)=g:=by
 have a:γ ([91]++g++[93])=γ g+2:=aA3;have e:((γ g+2:Nat)-1)=(γ ([91]++g):Int):=aA2;constructor
 ·unfold vF;rw[a,e];have b:=Rp ([91]++g) 93 [];rw[b];rfl
 ·rw[a];have:=vu ([91]++g++[93]) [91] g [93] aA3;have c:((γ g+2:Nat)-1)=((γ ([91]:aC)+γ g):Int):=aA2;rw[c];exact this
theorem VZ(s:aC)(h:(eO s).2=μ):eO (eO s).1=((eO s).1,μ):=by
 by_cases f:vF s=μ
 ·unfold eO at h;rw[aB f]at h;by_cases k:(dT (sub s 1 (γ s-1))).2=μ
  ·have e:(eO s).1=[91]++(dT (sub s 1 (γ s-1))).1++[93]:=by unfold eO;rw[aB f,aB k]
   rw[e];have n:=WG _ k;generalize(dT _).1=g at n⊢;obtain⟨f1,f2⟩:=X7 g;unfold eO;rw[aB f1,f2,n,aB rfl]
  ·rw[aA k]at h;cases h
 ·by_cases j:Ke s=μ
  ·have e:eO s=(s,μ):=by unfold eO;rw[aA f,aB j]
   rw[e];exact e
  ·by_cases i:JF s=μ
   ·have e:eO s=(cK s,μ):=by unfold eO;rw[aA f,aA j,aB i]
    rw[e];have m:∀b∈s,jY b=μ\/b=46:=by unfold JF at i;simp only[lA]at i;exact mx 46 jY s (λx hx=>by have:=aT.1 i.1.2 x hx;unfold Fk at this;simp only[lA]at this;exact this.2)
    have p:vF (cK s)=ν:=by
     cases hx:vF _ with
     |false=>rfl
     |true=>
      exfalso;unfold vF at hx;simp at hx;have:=at_mem (cK s) 0 aA0;have r:at_ _ (0:Nat)=91:=hx.1.2;rw[r]at this;obtain⟨d,q,l⟩:=dB.1 this;rcases m d q with a|a
      ·have:jY (eQ d)=μ:=by rw[QG];exact a
       rw[l]at this;exact jm 91 this rfl
      ·rw[a]at l;exact absurd l aA1
    have o:Ke (cK s)=ν:=by
     cases hx:Ke _ with
     |false=>rfl
     |true=>
      exfalso;have c:=hx;unfold Ke at c;simp only[lA]at c;have:=mx 46 gA _ (λx hx=>(bji x (by rw[<-uG];exact aT.1 c.1.2 x hx)).2.2)
      have hid:=Dy s λb f=>by
       rcases this _ (List.mem_map_of_mem f)with a|a
       ·exact N6 b a
       ·rw[a];exact((ri b).1 a).symm
      rw[hid]at hx;exact j hx
    unfold eO;rw[p,aA aA1,o,aA aA1,VI,i,aB rfl,lU]
   ·unfold eO at h;rw[aA f,aA j,aA i]at h;cases h
open Go.Op renaming bytesLess → qZ
theorem GL(a b:aC):WD a b=qZ b a:=by unfold WD;rw[<-sE b a]
theorem Nh:∀a b c:aC,qZ b a=ν->qZ c b=ν->qZ c a=ν
 |[],b,c,_,_=>by cases c<;>rfl
 |x::a,[],c,h,_=>by cases h
 |x::a,y::b,[],_,h=>by cases h
 |x::a,y::b,z::c,f,d=>by
  rw[qZ,Bool.or_eq_false_iff]at f d⊢;have i:=fH f.1;have g:=fH d.1;rw[ca]at i g;refine⟨aE (by rw[ca];omega), ?_⟩;by_cases h:z=x
  ·have e:y=x:=by apply jI.1;rw[h]at g;omega
   subst h e;have j:(y==y)=μ:=aA3;rw[j]at f d⊢;exact Nh a b c f.2 d.2
  ·have:(z==x)=ν:=by simpa using h
   rw[this];rfl
theorem VP(a b:aC)(h:qZ a b=μ):qZ b a=ν:=by rw[sE b a,h];rfl
def XW(a b:PP):Prop:=qZ b.1 a.1=ν
theorem O0(a b:PP)(c:XW a b)(d:XW b a):a.1=b.1:=by unfold XW at c d;rw[sE b.1 a.1,d]at c;have:(a.1==b.1)=μ:=aC8;exact eq_of_beq this
theorem GG(x:PP):∀V:δ PP,V.Pairwise (λa b=>XW b a)->(Et x V).Pairwise (λa b=>XW b a)
 |[],_=>by simp[Et]
 |a::V,h=>by
  rw[iW]at h;rw[Et];cases e:WD a.1 x.1 with
  |true=>
   rw[aM,iW];refine⟨λy c=> ?_,GG x V h.2⟩;rcases Ox x y V c with rfl|c
   ·exact VP _ _ (by rw[<-GL];exact e)
   ·exact h.1 y c
  |false=>
   have d:XW a x:=by unfold XW;rw[<-GL];exact e
   rw[aH,iW,iW];refine⟨λy c=> ?_,h.1,h.2⟩;rcases aQ.1 c with rfl|c
   ·exact d
   ·exact Nh _ _ _ (h.1 y c) d
theorem Wl(x:PP):∀V:δ PP,(Et x V).Perm (x::V)
 |[]=>List.Perm.refl _
 |a::V=>by
  rw[Et];cases WD a.1 x.1 with
  |true=>rw[aM];exact((Wl x V).cons a).trans (List.Perm.swap x a V)
  |false=>rw[aH]
theorem P9(x:PP)(l:δ PP)(h:l.Pairwise XW):(nQ x l).Pairwise XW:=by unfold nQ;rw[List.pairwise_reverse];exact GG x _ (List.pairwise_reverse.2 aA8)
theorem VX(x:PP)(l:δ PP):(nQ x l).Perm (l++[x]):=by refine(List.reverse_perm _).trans ((Wl x _).trans ?_);exact(((List.reverse_perm l).cons x).trans (ai (l₁:=[x])))
theorem Pn:∀(q p:δ PP),p.Pairwise XW->(q.foldl (λout x=>nQ x out) p).Pairwise XW/\(q.foldl (λout x=>nQ x out) p).Perm (p++q)
 |[],p,h=>⟨h,aA3⟩
 |a::q,p,h=>by obtain⟨c,b⟩:=Pn q _ (P9 a p h);refine⟨c,b.trans ?_⟩;have:=(VX a p).append_right q;rw[gZ]at this;exact this
theorem Wh(l:δ PP):(fU l).Pairwise XW:=(Pn l [] List.Pairwise.nil).1
theorem bf(l:δ PP):(fU l).Perm l:=by have:=(Pn l [] List.Pairwise.nil).2;exact this
def BE(l:δ PP):Prop:=l.Pairwise λa b=>a.1≠b.1
theorem RH:∀l,BE l->∀a∈l,∀b∈l,a.1=b.1->a=b
 |[],_,a,h,_,_,_=>absurd h aA3
 |x::l,d,a,i,b,g,e=>by
  unfold BE at d;rw[iW]at d;rcases aQ.1 i with rfl|f
  ·rcases aQ.1 g with rfl|c
   ·rfl
   ·exact absurd e (d.1 b c)
  ·rcases aQ.1 g with rfl|c
   ·exact absurd e.symm (d.1 a f)
   ·exact RH l d.2 a f b c e
variable {l:δ PP}
theorem HL{m:δ PP}(h:l.Perm m)(a:BE l):BE m:=h.pairwise a λh e=>h e.symm
theorem LJ(l m:δ PP)(h:l.Perm m)(e:BE l):fU l=fU m:=by have d:=(bf l).trans (h.trans (bf m).symm);have c:=HL (bf l).symm e;refine List.Perm.eq_of_pairwise (λa b g f j i=> ?_) (Wh l) (Wh m) d;exact RH _ c a g b (d.mem_iff.2 f) (O0 a b j i)
open Go.Lib renaming hasPrefix → oI, trimPrefix → iD
open List renaming length → aL
def ID(s:aC):η:=s.all λc=> !eJ c
theorem VY(k:Int)(a:k=0\/k=1\/k=2):∀c:ζ,Ik c k=μ->eJ c=ν:=by rcases a with rfl|rfl|rfl<;>exact fM _ aA5
theorem Sq:∀c:ζ,eJ (eQ c)=eJ c:=fM _ aA5
theorem HV(s:aC):ID (cK s)=ID s:=by unfold ID cK;rw[List.all_map];congr 1;funext c;simp only[Function.comp_apply,Sq]
theorem Qa(s:aC)(d:aL s<=4194304):aqu FU s=θ (ID s):=by
 have h:=nZ (λc=> !eJ c) s d ν (asf FU s)
  (λb=>by rw[avj,aki,aA aA0])
  (λb k e h=>by have a:eJ (at_ s (k:Int))=μ:=aA8;rw[avj,aki,aB aA0,dS,yF,aR,a,aM])
  (λb k e h=>by have a:eJ (at_ s k)=ν:=aA8;rw[avj,aki,aB aA0,dS,yF,aR,a,aH,dS])
 unfold aqu;rw[h];unfold ID;cases s.all _<;>rfl
theorem xW(k:Int)(b:k=0\/k=1\/k=2):∀f l,gV k f l=ι->ID (tD k f l)=μ
 |0,l,_=>rfl
 |f+1,l,h=>by
  unfold gV at h;unfold tD;by_cases d:l=[]
  ·rw[aB d];rfl
  ·rw[aA d]at h⊢;cases c:Ik _ k with
   |true=>rw[c,aB rfl,tP]at h;rw[aB rfl];have:=xW k b f _ h;unfold ID at this⊢;rw[Jf,VY k b _ c,this];rfl
   |false=>
    rw[c,aA aA1]at h;rw[aA aA1];cases e:lF l with
    |none=>rw[e]at h;cases h
    |some v=>
     rw[e]at h;simp only at h⊢;cases a:eJ v with
     |true=>rw[a]at h;cases h
     |false=>rw[a,aA aA1,tP]at h;have:=xW k b f _ h;unfold ID at this⊢;rw[Jf,a,this];rfl
theorem xV(k:Int)(a:k=0\/k=1\/k=2)(l:aC)(h:fG k l=ι):ID (kP k l)=μ:=xW k a _ l h
def okQ(k:Int)(p:PP):Prop:=p.1≠[]/\cK p.1=p.1/\ID p.1=μ/\ID p.2.1=μ/\(k=1->p.2.2= !decide (p.2.1=[]))/\(k=2->p.2.2=μ)
variable {x:aC}
theorem OT(h:yA l x=0):∀q∈l,q.1≠x:=by
 unfold yA at h;split at h
 ·exact absurd h aA1
 ·rename_i b;intro q a e;exact b (cV.2 ⟨q,a,aE2⟩)
theorem U1(k:Int)(r:k=1\/k=2)(l:δ PP)(T:aC)(h:(lE k l T).1=0):okQ k (lE k l T).2/\∀q∈l,q.1≠(lE k l T).2.1:=by
 have d:k=0\/k=1\/k=2:=.inr r;unfold lE at h⊢;cases g:fG k _ with
 |some j=>rw[g]at h;exact absurd h (show¬5=0 by decide)
 |none=>
  rw[g]at h;by_cases o:dR T=0
  ·rw[aB o]at h;exact absurd h aA1
  ·rw[aA o]at h⊢;have i:∀_:dR T<=aL T,T.take (dR T)≠[]:=λp e=>by have:=bF aL e;rw[jS,iP]at this;omega
   have b:=i (Tp _ _);have n:cK (kP k (T.take _))≠[]:=λe=>b ((tB k _ g).1 ((Dx _).1 e));have f:ID (cK (kP k (T.take (dR T))))=μ:=by rw[HV];exact xV k d _ g
   by_cases c:dR T<aL T
   ·rw[aB c]at h⊢;cases a:fG k _ with
    |some j=>rw[a]at h;exact absurd h (show¬5=0 by decide)
    |none=>
     rw[a]at h;by_cases hx:T.drop (dR T+1)=[]/\k=1
     ·rw[aB hx]at h;exact absurd h aA1
     ·rw[aA hx]at h⊢;refine⟨⟨n,lU _,f,xV k d _ a,λs=> ?_,λ_=>rfl⟩,OT h⟩;have:¬kP k (T.drop _)=[]:=λe=>hx ⟨(tB k _ a).1 e,s⟩;rw[aE this];rfl
   ·rw[aA c]at h⊢;by_cases m:k=2
    ·rw[aB m]at h;exact absurd h aA1
    ·rw[aA m]at h⊢;exact⟨⟨n,lU _,f,rfl,λ_=>rfl,λe=>absurd e m⟩,OT h⟩
def LS(k:Int)(l:δ PP):Prop:=BE l/\∀p∈l,okQ k p
theorem LS.nil(k:Int):LS k []:=⟨List.Pairwise.nil,aA3⟩
variable {k:Int}
theorem LS.snoc(h:LS k l)(p:PP)(d:okQ k p)(e:∀q∈l,q.1≠p.1):LS k (l++[p]):=by
 refine⟨dF.2 ⟨h.1,List.pairwise_singleton _ _,λa g b f=> ?_⟩,λq c=> ?_⟩
 ·rw[aG.1 f];exact e a g
 ·rcases aV.1 c with c|c
  ·exact h.2 q c
  ·rw[aG.1 c];exact d
theorem LS.sort(h:LS k l):LS k (fU l):=⟨HL (bf l).symm h.1,λp a=>h.2 p ((bf l).mem_iff.1 a)⟩
theorem He(l:δ PP)(h:BE l):fU (fU l)=fU l:=(LJ l _ (bf l).symm h).symm
theorem K7(st s:aC):∀f i l,LS 1 l->LS 1 (jB st s f i l).2.2
 |0,i,l,h=>h
 |f+1,i,l,h=>by
  unfold jB;split
  ·split
   ·rename_i c;obtain⟨b,a⟩:=U1 1 (.inl rfl) _ _ c;exact K7 st s f _ _ (h.snoc _ b a)
   ·exact LS.nil 1
  ·exact h
theorem R4(s:aC):∀f i l,LS 2 l->LS 2 (yT s f i l).2
 |0,i,l,h=>h
 |f+1,i,l,h=>by
  unfold yT;split
  ·split
   ·rename_i c;obtain⟨b,a⟩:=U1 2 (.inr rfl) _ _ c;exact R4 s f _ _ (h.snoc _ b a)
   ·exact LS.nil 2
  ·exact h
def jW(u:aC):η:= !decide (iD u [43]=[])&&decide (γ (iD u [43])<=30)&&(iD u [43]).all (lW (oI u [43]))
theorem Hm(b:η)(c:ζ):((YF FU c).bind λa=>(bif (!a)then(bif b then θ μ else(if c=42 then θ ν else θ (!decide (c=35))))else θ ν))=θ (!lW b c):=by revert c;cases b<;>exact fM _ aA5
theorem WX(u:aC)(f:aL u<=4194304):ayj FU u=θ (jW u):=by
 have b:=Ky u [43];have h:=nZ (lW _) (iD u [43]) aA0 ν (apk FU u)
  (λc=>by rw[atk,ajg,aA aA0])
  (λc k d h=>by rw[atk,ajg,aB aA0,dS,Hm,aR,h,vP,aM])
  (λc k d h=>by rw[atk,ajg,aB aA0,dS,Hm,aR,h,gL,aH,dS])
 unfold ayj jW;by_cases a:iD u [43]=[]
 ·rw[aB a,aD a];rfl
 ·rw[aA a,aE a];by_cases e:30<γ (iD u [43])
  ·rw[aD aA0,aE (show¬γ (iD u _)<=30 by omega)];rfl
  ·rw[aE aA0,h,aD (show(iD u _).length<=30 by omega)];cases(iD u _).all _<;>rfl
theorem Eo(a:η):∀T d,xY a T=θ d->d.all (lW a)=μ
 |[],d,h=>by simp only[xY,bG]at h;subst h;rfl
 |c::T,d,h=>by
  unfold xY at h;split at h
  ·rename_i e;cases b:xY a T with
   |none=>rw[b]at h;cases h
   |some d'=>rw[b]at h;simp at h;subst h;rw[Jf,e,Eo a T d' b];rfl
  ·split at h
   ·exact Eo a T d h
   ·cases h
theorem dt(s:aC)(i:Nat)(h:(jX s i).1=0):jW (jX s i).2=μ:=by
 unfold jX at h⊢;cases f:xY (cR s i 43) (sub s ((if cR s i 43=μ then i+1 else i:Nat):Int) (bP [59] s i:Int))with
 |none=>rw[f]at h;exact absurd h (show¬(5:ζ)=0 by decide)
 |some d=>
  rw[f]at h;simp only at h⊢;by_cases j:d=[]
  ·rw[aB j]at h;exact absurd h aA1
  ·rw[aA j]at h⊢;by_cases g:30<aL d
   ·rw[aB g]at h;exact absurd h aA1
   ·rw[aA g];have a:=Eo _ _ _ f;cases b:cR s i 43 with
    |true=>
     rw[b]at a;rw[aB rfl];have l:iD (43::d) [43]=d:=by unfold iD oI;simp
     have k:oI (43::d) [43]=μ:=by unfold oI;simp
     unfold jW;rw[l,k,a,aE j,aD (show γ d<=30 by omega)];rfl
    |false=>
     rw[b]at a f;rw[aA aA1];have l:=Oo _ _ f;have k:oI d [43]=ν:=by
      cases d with
      |nil=>exact absurd rfl j
      |cons c d=>
       have m:lW ν c=μ:=by rw[Jf,lA]at a;exact a.1
       have:c≠43:=λe=>by subst e;exact absurd m aA1
       have n:¬(43:ζ)=c:=λe=>this e.symm;show((43:ζ)==c&&([]:aC).isPrefixOf d)=ν;rw[dX.2 n];rfl
     unfold jW;rw[l,k,a,aE j,aD (show γ d<=30 by omega)];rfl
structure Good (u:UU):Prop where
 qv:((u.1=YK\/u.1=CE)/\eO u.2.2.1=(u.2.2.1,μ)/\0<=u.2.2.2.1/\u.2.2.2.1<=65535/\ID u.2.1=μ)\/(u.1=pg/\u.2.2.1=[]/\u.2.2.2.1=0/\u.2.2.2.2.2=[]/\jW u.2.1=μ)
 ps:LS 1 u.2.2.2.2.1
 hs:LS 2 u.2.2.2.2.2
 pl:aL u.2.2.2.2.1<=16
 hl:aL u.2.2.2.2.2<=16
 pi:fU u.2.2.2.2.1=u.2.2.2.2.1
 hi:fU u.2.2.2.2.2=u.2.2.2.2.2
theorem DX(st s b e h:aC)(a:Int)(i:Nat)(c:(wF st s b e h a i).1=0):
  ∃P H,(wF st s b e h a i).2=(b,e,h,a,P,H)/\LS 1 P/\LS 2 H/\γ P<=16/\γ H<=16/\fU P=P/\fU H=H/\H=fU (yT s (aL s+1) (jB st s (aL s+1) i []).2.1 []).2:=by
 unfold wF at c⊢;have j:=K7 st s (aL s+1) i [] (LS.nil 1);have g:=R4 s (aL s+1) (jB st s (aL s+1) i []).2.1 [] (LS.nil 2);have l:=Zp st s (aL s+1) i [] aA3;have k:=AV s (aL s+1) (jB st s (aL s+1) i []).2.1 [] aA3;split
 ·rename_i d;rw[aB d]at c;split
  ·exact⟨_,_,rfl,j.sort,g.sort,by rw[bjq];exact l,by rw[bjq];exact k,He _ j.1,He _ g.1,rfl⟩
  ·rename_i f;rw[aA f]at c;exact absurd c f
 ·rename_i d;rw[aA d]at c;exact absurd c d
theorem K3(q:aC)(h:(Bx q).2=0):1<=(Bx q).1/\(Bx q).1<=65535:=by
 unfold Bx at h⊢;split
 ·rename_i hx;rw[aB hx]at h;exact absurd h aA1
 ·rename_i hx;rw[aA hx]at h;have a:¬((eV q).1<1\/65535<(eV q).1):=λe=>hx ⟨h,e⟩;omega
theorem Q6(s:aC)(i:Nat)(h:(jV s i).1=0):eO (jV s i).2.1=((jV s i).2.1,μ)/\0<=(jV s i).2.2.1/\(jV s i).2.2.1<=65535:=by
 unfold jV at h⊢;split
 ·rename_i c;rw[aB c]at h;exact absurd h aA1
 ·rename_i c;rw[aA c]at h;have hid:=VZ _ aC8;split
  ·rename_i a;rw[aB a]at h;split
   ·rename_i b;have:=K3 _ b;exact⟨hid,by simp only;omega,by simp only;omega⟩
   ·rename_i b;rw[aA b]at h;exact absurd h b
  ·rename_i a;rw[aA a]at h;split
   ·rename_i hx;rw[aB hx]at h;exact absurd h aA1
   ·exact⟨hid,show 0<=0 by decide,show 0<=65535 by decide⟩
theorem dk(U:aC)(h:(mS U).1=0):ID (mS U).2=μ/\(mS U).2≠[]:=by
 unfold mS at h⊢;cases a:fG 0 U with
 |some j=>rw[a]at h;simp only at h;split at h<;>exact absurd h aA1
 |none=>
  rw[a]at h;simp only at h⊢;by_cases b:U=[]
  ·rw[aB b]at h;exact absurd h aA1
  ·rw[aA b];exact⟨xV 0 (.inl rfl) U a,λe=>b ((tB 0 U a).1 e)⟩
theorem xo(s:aC)(i:Nat)(h:(gC s i).1=0):eO (gC s i).2.2.1=((gC s i).2.2.1,μ)/\0<=(gC s i).2.2.2.1/\(gC s i).2.2.2.1<=65535/\ID (gC s i).2.1=μ:=by
 unfold gC at h⊢;split
 ·rename_i a;rw[aB a]at h;split
  ·rename_i b;rw[aB b]at h;have:=Q6 s _ h;exact⟨this.1,this.2.1,this.2.2,(dk _ b).1⟩
  ·rename_i b;rw[aA b]at h;exact absurd h b
 ·rename_i a;rw[aA a]at h;have:=Q6 s _ h;exact⟨this.1,this.2.1,this.2.2,rfl⟩
theorem Zq(s:aC):∀(f i:Nat) (l:δ PP),i<=aL s->aL s-i<f->(i=aL s\/cR s i 59=μ)->(jB [59] s f i l).1=0->(jB [59] s f i l).2.1=aL s
 |0,i,l,n,m,h,b=>by omega
 |f+1,i,l,n,m,h,b=>by
  unfold jB at b⊢;by_cases d:cR s i 59=μ
  ·rw[aB d]at b⊢;have c:=(wM d).1;have j:=Kf [59] s (i+1);have e:=Fs [59] s (i+1) c;by_cases g:(lE 1 l (sub s ((i+1:Nat):Int) (bP [59] s (i+1):Int))).1=0
   ·rw[aB g]at b⊢;refine Zq s f _ _ e aA0 ?_ b;by_cases k:bP [59] s (i+1)=aL s
    ·exact .inl k
    ·have a:=bkf [59] s (i+1) c aA0;refine .inr ?_;unfold cR;rw[aD aA0,Rw];unfold fT at a;rw[Tx,iY,dU]at a;have o:=eq_of_beq a;rw[<-o];rfl
   ·rw[aA g]at b;exact absurd b g
  ·rw[aA d];exact h.resolve_right d
theorem Mr(s:aC)(h:(Fp s).1=0):Good (Fp s).2:=by
 unfold Fp at h⊢;by_cases t:1024<aL s
 ·rw[aB t]at h;exact absurd h aA1
 ·rw[aA t]at h⊢;by_cases j:bP [58] s 0<aL s
  ·rw[aB j]at h⊢;generalize bP [58] s 0=c at j h⊢;generalize cK (s.take c)=f at h⊢;by_cases b:f=YK\/f=CE
   ·rw[aB b]at h⊢;by_cases d:(gC s (c+1)).1=0
    ·rw[aB d]at h⊢;obtain⟨P,H,e,r,q,p,o,n,m,_⟩:=DX _ _ _ _ _ _ _ h;rw[e];obtain⟨A,z,y,x⟩:=xo s (c+1) d;exact⟨.inl ⟨b,A,z,y,x⟩,r,q,p,o,n,m⟩
    ·rw[aA d]at h;exact absurd h d
   ·rw[aA b]at h⊢;by_cases a:f=pg
    ·rw[aB a]at h⊢;by_cases d:(jX s (c+1)).1=0
     ·rw[aB d]at h⊢;have u:=Kf [59] s (c+1);have k:=Fs [59] s (c+1) j;have l:(jB [59] s (aL s+1) (bP [59] s (c+1)) []).1=0:=by
       unfold wF at h;by_cases hx:(jB [59] s (aL s+1) (bP [59] s (c+1)) []).1=0
       ·exact hx
       ·rw[aA hx]at h;exact absurd h hx
      have i:=Zq s (aL s+1) (bP [59] s (c+1)) [] k aA0 (by
       by_cases v:bP [59] s (c+1)=aL s
       ·exact .inl v
       ·have g:=bkf [59] s (c+1) j aA0;refine .inr ?_;unfold cR;rw[aD aA0,Rw];unfold fT at g;rw[Tx,iY,dU]at g;have B:=eq_of_beq g;rw[<-B];rfl) l
      obtain⟨P,H,e,r,q,p,o,n,m,C⟩:=DX _ _ _ _ _ _ _ h;rw[e];have w:H=[]:=by rw[C,i,yT,aA (Nat.lt_irrefl _)];rfl
      exact⟨.inr ⟨a,rfl,rfl,w,dt s (c+1) d⟩,r,q,p,o,n,m⟩
     ·rw[aA d]at h;exact absurd h d
    ·rw[aA a]at h;exact absurd h aA1
  ·rw[aA j]at h;exact absurd h aA1
theorem WS(k:Int)(A:k=1\/k=2)(l:δ PP)(F:aL l<=16)(o:LS k l)(C:∀p∈l,aL p.1<=4194304/\γ p.2.1<=4194304)(q:δ PP):∀(p:δ PP) (b:Nat),l=p++q->aL q<b->
  akh FU l k b p (aL p:Int)=θ (.inl l):=by
 induction q with
 |nil=>intro p b h j;obtain⟨b,rfl⟩:=bV b;rw[bbv,aoc,aA aA6,h,gD]
 |cons a q z=>
  intro p b h j;obtain⟨b,rfl⟩:=bV b;have d:=bF aL h;simp only[cG,cN]at d j;have c:(0:Int)<=(aL p:Int)/\(aL p:Int)<(aL l:Int):=aA0;have B:el l (aL p:Int)=a:=aA9;have n:a∈l:=aA6;obtain⟨y,w,v,u,t,s⟩:=o.2 a n;obtain⟨r,E⟩:=C a n;have i:(p.any λx=>x.1==a.1)=ν:=by rw[dC];intro x hx e;have m:=o.1;rw[h]at m;exact(dF.1 m).2.2 x hx a aA3 aE2
  have f:=z (p++[a]) b aA6 aA0;rw[show(γ (p++[a]):Int)=(aL p:Int)+1 by simp]at f;rw[bbv,aoc,aB c.2,aS c,aS c,B,bc _ r,aR,w,aA y,Qa _ r,aR,v,gL,aH,Qa _ E,aR,u,gL,aH,Pd p aA0,i,aR,aR,aH];have D:(if k=(2:Int)then(bif (!(a.2.2))then θ μ else(if k=(1:Int)then θ (!((a.2.2)==(!decide ((a.2.1)=([]:aC)))))else θ ν))else(if k=(1:Int)then θ (!((a.2.2)==(!decide ((a.2.1)=([]:aC)))))else θ ν))=θ ν:=by
   rcases A with rfl|rfl
   ·rw[aA aA1,aB rfl,t rfl];simp
   ·rw[aB rfl,s rfl,gL,aH,aA aA1]
  rw[D,aR,aH];simp only[ppE];rw[aS aB5,aS (cA _ aA0 aA0)];exact f
theorem uR(k:Int)(b:k=1\/k=2)(l:δ PP)(a:aL l<=16)(d:LS k l)(c:∀p∈l,aL p.1<=4194304/\γ p.2.1<=4194304):asq FU l k=θ (fU l,μ):=by unfold asq;have h:akh FU l k FU [] (0:Int)=θ (.inl l):=WS k b l a d c l [] FU rfl aA4;rw[aA aA0,h,aR,kA,pL l aA0,aR]
def uj(u:UU):Prop:=aL u.1<=4194304/\γ u.2.1<=4194304/\γ u.2.2.1<=4194304/\(∀p∈u.2.2.2.2.1,aL p.1<=4194304/\γ p.2.1<=4194304)/\(∀p∈u.2.2.2.2.2,aL p.1<=4194304/\γ p.2.1<=4194304)
theorem VF(u:UU)(A:Good u)(z:uj u):ayk FU u=θ (u,0):=by
 obtain⟨a,B,h,y,P,H⟩:=u;obtain⟨t,s,r,q,p,o,n⟩:=A;obtain⟨x,g,w,f,e⟩:=z;simp only at t s r q p o n x g w f e;have c:cK a=a:=by
  rcases t with⟨b,_⟩|⟨b,_⟩
  ·rcases b with rfl|rfl<;>decide
  ·rw[b];decide
 unfold ayk;simp only;rw[bc _ x,aR,c];have v:(if a=([115,105,112]:aC)then θ (decide (a=([115,105,112]:aC)))else θ (decide (a=([115,105,112,115]:aC))))=θ (decide (a=YK\/a=CE)):=by
  by_cases d:a=YK
  ·rw[aB (show a=([115,105,112]:aC)from d),aD (show a=([115,105,112]:aC)from d),aD (Or.inl d)]
  ·rw[aA (show¬a=([115,105,112]:aC)from d)];congr 1;rw[bZ];exact⟨Or.inr,λh=>h.resolve_left d⟩
 rw[v,aR];rcases t with⟨b,m,l,k,j⟩|⟨b,m,l,k,j⟩
 ·rw[aD b,aM,bjy _ w,aR,m,aM,aB l,aB k,Qa _ g,aR,j,aR];rw[uR 1 (.inl rfl) P q s f,aR,uR 2 (.inr rfl) H p r e,aR,o,n];rfl
 ·subst m l k;have i:¬(a=YK\/a=CE):=by rw[b];decide
  rw[aE i,aH,aB (show a=([116,101,108]:aC)from b),aB rfl,aB rfl,aB (show(γ ([]:δ PP):Int)=0 from rfl),WX _ g,aR,j,aR];rw[uR 1 (.inl rfl) P q s f,aR,uR 2 (.inr rfl) [] p r e,aR,o,n];rfl
def hexU(n:Nat):ζ:=at_ [48,49,50,51,52,53,54,55,56,57,65,66,67,68,69,70] (n:Int)
def MB(k:Int)(c:ζ):aC:=if Ik c k=μ then [c]else [37,hexU (c.toNat/16),hexU (c.toNat%16)]
def kM(k:Int)(s:aC):aC:=s.flatMap (MB k)
theorem shr4:∀c:ζ,(Ys c (4:Int)).toNat=c.toNat/16:=fM _ aA5
theorem yh:∀c:ζ,(c&&&(15:ζ)).toNat=c.toNat%16:=fM _ aA5
theorem Xm(k:Int)(s:aC):γ (kM k s)<=3*aL s:=by
 unfold kM;induction s with
 |nil=>exact dO _
 |cons c s a=>
  rw[Kh,cG,cN];have:γ (MB k c)<=3:=by unfold MB;split<;>simp
  omega
theorem zt(s:aC)(r:aL s<=4194304)(k:Int)(l:k=0\/k=1\/k=2)(q:aC):∀(p:aC) (d:Nat),s=p++q->aL q<d->
  akj FU s k d (kM k p) (aL p:Int)=θ (kM k s):=by
 induction q with
 |nil=>intro p d h g;obtain⟨d,rfl⟩:=bV d;rw[bbx,aoh,aA aA6,h,gD]
 |cons c q j=>
  intro p d h g;obtain⟨d,rfl⟩:=bV d;have e:=bF aL h;simp only[cG,cN]at e g;have b:(0:Int)<=(aL p:Int)/\(aL p:Int)<(aL s:Int):=aA0;have n:at_ s (aL p:Int)=c:=by rw[h];simp[at_]
  have a:=j (p++[c]) d aA6 aA0;have m:=Xm k p;have o:kM k (p++[c])=kM k p++MB k c:=by unfold kM;rw[NN,iX]
  rw[show(γ (p++[c]):Int)=(aL p:Int)+1 by simp,o]at a;rw[bbx,aoh,aB b.2,aS b,Oz _ k l,n,aR];unfold MB at a;cases i:Ik c k with
  |true=>rw[i,aB rfl]at a;rw[aM,aS b,aS aB5,aS (cA _ aA0 aA0)];exact a
  |false=>rw[i,aA aA1]at a;have t:=fI c;have f:(γ ([48,49,50,51,52,53,54,55,56,57,65,66,67,68,69,70]:aC):Int)=16:=rfl;rw[aH,aS b,shr4,yh,f,aS aA0,aS b,aS aA0,aS aB9,aS (cA _ aA0 aA0)];exact a
theorem nS(s:aC)(a:aL s<=4194304)(k:Int)(b:k=0\/k=1\/k=2):y6 FU s k=θ (kM k s):=by unfold y6;have h:akj FU s k FU [] (0:Int)=θ (kM k s):=zt s a k b s [] FU rfl aA4;rw[T1 aA0,h,aR]
open Go.Lib renaming itoa → gM
theorem Gg(out s:aC)(h:aL out+aL s<=140737488355328):CP FU ((),out) s=θ ((aL s:Int),(),(),out++s):=by unfold CP;simp only;rw[aS aA0]
theorem qg(out:aC)(c:ζ)(h:aL out+1<=140737488355328):aez FU ((),out) c=θ ((),(),out++[c]):=by unfold aez;simp only;rw[aS aB5]
def Zu(p:PP):aC:=kM 1 p.1++(bif p.2.2 then 61::kM 1 p.2.1 else [])
def Ew(p:PP):aC:=kM 2 p.1++61::kM 2 p.2.1
def kG(l:δ PP):aC:=l.flatMap λp=>59::Zu p
def vE(l:δ PP):aC:=l.flatMap λp=>38::Ew p
def Td:δ PP->aC
 |[]=>[]
 |p::r=>63::(Ew p++vE r)
def Ue(u:UU):aC:=if u.1=pg then u.2.1 else if u.2.1=[]then []else kM 0 u.2.1++[64]
def JB(n:Int):aC:=if n=0 then []else 58::gM n
def ao(u:UU):aC:=u.1++(58::(Ue u++(u.2.2.1++(JB u.2.2.2.1++(kG u.2.2.2.2.1++Td u.2.2.2.2.2)))))
theorem ES(p:PP)(h:aL p.1<=4194304/\γ p.2.1<=4194304):γ (Zu p)<=25165830:=by
 have b:=Xm 1 p.1;have a:=Xm 1 p.2.1;unfold Zu;rw[cG];cases p.2.2 with
 |true=>rw[aM,cN];omega
 |false=>rw[aH,iP];omega
theorem QZ(p:PP)(h:aL p.1<=4194304/\γ p.2.1<=4194304):γ (Ew p)<=25165830:=by have b:=Xm 2 p.1;have a:=Xm 2 p.2.1;unfold Ew;rw[cG,cN];omega
theorem UR(u:UU)(q:∀p∈u.2.2.2.2.1,aL p.1<=4194304/\γ p.2.1<=4194304)(s:aL u.2.2.2.2.1<=16)(r:δ PP):∀(pre:δ PP) (a:Nat) (out:aC),u.2.2.2.2.1=pre++r->aL r<a->aL out<=100000000+aL pre*30000000->
  aik FU (u,0) a (aL pre:Int) () out=θ ((),out++kG r):=by
 induction r with
 |nil=>intro pre a out h j m;obtain⟨a,rfl⟩:=bV a;rw[gD]at h;rw[bdq,apm,aA aA6];simp[kG]
 |cons p r k=>
  intro pre a out h j m;obtain⟨a,rfl⟩:=bV a;have f:=bF aL h;simp only[cG,cN]at f j;have b:(0:Int)<=(aL pre:Int)/\(aL pre:Int)<(aL u.2.2.2.2.1:Int):=aA0;have n:el u.2.2.2.2.1 (aL pre:Int)=p:=aA9;have c:=q p aA6;have v:=Xm 1 p.1;have t:=Xm 1 p.2.1;have d:bK ((aL pre:Int)+1):=cA _ aA0 aA0;have next:∀o:aC,o=out++(59::Zu p)->aik FU (u,0) a ((aL pre:Int)+1) () o=θ ((),out++kG (p::r)):=by intro o e;have l:=ES p c;have g:=k (pre++[p]) a o aA6 aA0 (by rw[e];simp only[cG,cN,iP];omega);rw[show(γ (pre++[p]):Int)=(aL pre:Int)+1 by simp]at g;rw[g,e];simp[kG]
  rw[bdq,apm,aB b.2];simp only;rw[aS b,aS b,n,nS _ c.1 1 (.inr (.inl rfl)),aR,aS aB5,Gg _ _ aB7,aR];cases i:p.2.2 with
  |true=>
   rw[aM,nS _ c.2 1 (.inr (.inl rfl)),aR,aS aB5,Gg _ _ aB7,aR,aS d];refine next _ ?_
   unfold Zu;rw[i];simp
  |false=>
   rw[aH,aS d];refine next _ ?_
   unfold Zu;rw[i];simp
theorem UP(u:UU)(y:∀p∈u.2.2.2.2.2,aL p.1<=4194304/\γ p.2.1<=4194304)(z:aL u.2.2.2.2.2<=16)(r:δ PP):∀(pre:δ PP) (b:Nat) (out:aC),u.2.2.2.2.2=pre++r->aL r<b->aL out<=1000000000+aL pre*30000000->
  agi FU (u,0) b (aL pre:Int) () out=θ ((),out++(if pre=[]then Td r else vE r)):=by
 induction r with
 |nil=>intro pre b out h s w;obtain⟨b,rfl⟩:=bV b;rw[gD]at h;rw[bdp,apl,aA aA6];split<;>simp[Td,vE]
 |cons p r t=>
  intro pre b out h s w;obtain⟨b,rfl⟩:=bV b;have k:=bF aL h;simp only[cG,cN]at k s;have f:(0:Int)<=(aL pre:Int)/\(aL pre:Int)<(aL u.2.2.2.2.2:Int):=aA0;have x:el u.2.2.2.2.2 (aL pre:Int)=p:=aA9;have g:=y p aA6;have B:=Xm 2 p.1;have A:=Xm 2 p.2.1;have v:=QZ p g;have q:bK ((aL pre:Int)+1):=cA _ aA0 aA0;have next:∀(c:ζ) (o:aC),o=out++(c::Ew p)->agi FU (u,0) b ((aL pre:Int)+1) () o=θ ((),out++(c::(Ew p++vE r))):=by intro c o j;have l:=t (pre++[p]) b o aA6 aA0 (by rw[j];simp only[cG,cN,iP];omega);rw[show(γ (pre++[p]):Int)=(aL pre:Int)+1 by simp,aA aA3]at l;rw[l,j];simp
  have tail:∀(c:ζ),((y6 FU p.1 (2:Int)).bind λ(a:aC)=>(gd (aL a+γ ([61]:aC)<=9223372036854775807)<|((y6 FU p.2.1 (2:Int)).bind λ(d:aC)=>(gd (γ (a++([61]:aC))+aL d<=9223372036854775807)<|((CP FU ((),out++[c]) ((a++([61]:aC))++d)).bind λ(i:(Int×Unit×(Unit×(δ ζ))))=>(gd (bK ((aL pre:Int)+(1:Int)))<|(agi FU (u,0) b ((aL pre:Int)+(1:Int)) () i.2.2.2)))))))=θ ((),out++(c::(Ew p++vE r))):=by
   intro c;rw[nS _ g.1 2 (.inr (.inr rfl)),aR,aS aB5,nS _ g.2 2 (.inr (.inr rfl)),aR,aS aB7,Gg _ _ aB7,aR,aS q];refine next c _ ?_
   unfold Ew;simp
  rw[bdp,apl,aB f.2];simp only;rw[aS f,aS f,x];by_cases m:pre=[]
  ·have n:(aL pre:Int)=0:=by rw[m];rfl
   rw[aB n,aB m,qg _ _ aA0,aR,aR];simp only;rw[tail 63];rfl
  ·have n:¬(aL pre:Int)=0:=λe=>m (Je aA0);rw[aA n,aA m,qg _ _ aA0,aR,aR];simp only;rw[tail 38];unfold vE;rw[Kh];rfl
theorem uF:∀l,(∀p∈l,aL p.1<=4194304/\γ p.2.1<=4194304)->γ (kG l)<=aL l*30000000
 |[],_=>dO _
 |p::l,h=>by have c:=ES p (h p gK);have b:=uF l (λq a=>h q (eU _ a));unfold kG at b⊢;rw[Kh,cG,cN,cN];omega
theorem GJ:∀l,(∀p∈l,aL p.1<=4194304/\γ p.2.1<=4194304)->γ (vE l)<=aL l*30000000
 |[],_=>dO _
 |p::l,h=>by have c:=QZ p (h p gK);have b:=GJ l (λq a=>h q (eU _ a));unfold vE at b⊢;rw[Kh,cG,cN,cN];omega
theorem Pe(l:δ PP)(h:∀p∈l,aL p.1<=4194304/\γ p.2.1<=4194304):γ (Td l)<=aL l*30000000:=by
 have:=GJ l h;cases l with
 |nil=>exact cW _
 |cons p l=>unfold vE at this;rw[Kh,cG,cN]at this;unfold Td vE;rw[cN,cG];omega
theorem K0(u:UU)(g:Good u)(z:uj u):bbp FU u=θ (ao u,0):=by
 have d:0<=u.2.2.2.1/\u.2.2.2.1<=65535:=by
  rcases g.qv with⟨_,_,p,A,_⟩|⟨_,_,h,_⟩
  ·exact⟨p,A⟩
  ·omega
 have hit:=bgf u.2.2.2.1 d.1 d.2;have m:=g.pl;have n:=g.hl;have x:=Xm 0 u.2.1;obtain⟨w,s,v,l,k⟩:=z;have C:=uF _ l;have B:=Pe _ k;unfold bbp;rw[VF u g ⟨w,s,v,l,k⟩,aR,aB rfl];simp only;rw[aS aB5,Gg _ _ aD2,aR];simp only;have q:(if u.1=([116,101,108]:aC)then((CP FU ((),([]:aC)++(u.1++([58]:aC))) u.2.1).bind λ(j:(Int×Unit×(Unit×(δ ζ))))=>θ ((),j.2.2.2))else(if u.2.1=([]:aC)then θ ((),([]:aC)++(u.1++([58]:aC)))else((y6 FU u.2.1 (0:Int)).bind λ(b:aC)=>(gd (aL b+γ ([64]:aC)<=9223372036854775807)<|((CP FU ((),([]:aC)++(u.1++([58]:aC))) (b++([64]:aC))).bind λ(i:(Int×Unit×(Unit×(δ ζ))))=>θ ((),i.2.2.2))))))=θ ((),u.1++([58]:aC)++Ue u):=by
  unfold Ue;by_cases e:u.1=pg
  ·rw[aB (show u.1=([116,101,108]:aC)from e),aB e,Gg _ _ aD2,aR];simp
  ·rw[aA (show¬u.1=([116,101,108]:aC)from e),aA e];by_cases f:u.2.1=[]
   ·rw[aB f,aB f];simp
   ·rw[aA f,aA f,nS _ s 0 (.inl rfl),aR,aS aB5,Gg _ _ aD2,aR];simp
 rw[q,aR];have y:γ (Ue u)<=12582913:=by
  unfold Ue;split
  ·omega
  ·split
   ·exact cW _
   ·rw[cG,eI];omega
 simp only;rw[Gg _ _ aB7,aR];simp only;have r:∀o:aC,aL o<=50000000->(if u.2.2.2.1=(0:Int)then θ ((),o)else(gd (bK u.2.2.2.1)<|(gd (γ ([58]:aC)+γ (gM u.2.2.2.1)<=9223372036854775807)<|((CP FU ((),o) (([58]:aC)++(gM u.2.2.2.1))).bind λ(c:(Int×Unit×(Unit×(δ ζ))))=>θ ((),c.2.2.2)))))=θ ((),o++JB u.2.2.2.1):=by
  intro o D;unfold JB;by_cases a:u.2.2.2.1=0
  ·rw[aB a,aB a,gD]
  ·rw[aA a,aA a,aS (cA _ aA0 aA0),aS aB5,Gg _ _ aB7,aR];simp
 rw[r _ aB7,aR];have t:γ (JB u.2.2.2.1)<=6:=by
  unfold JB;split
  ·exact cW _
  ·rw[cN];omega
 simp only;have a:aik FU (u,0) FU (0:Int) () _=_:=UR u l m u.2.2.2.2.1 [] FU (u.1++([58]:aC)++Ue u++u.2.2.1++JB u.2.2.2.1) rfl aA4 aD2;rw[a,aR];simp only;have p:agi FU (u,0) FU (0:Int) () _=_:=UP u k n u.2.2.2.2.2 [] FU (u.1++([58]:aC)++Ue u++u.2.2.1++JB u.2.2.2.1++kG u.2.2.2.2.1) rfl aA4 aD2;rw[p,aR,aB rfl];simp only;rw[aS aB7];unfold ao;simp
theorem utlA(st s A X Y:aC)(h:s=A++(X++Y))(d:∀c∈X,fT st c=ν)(b:∀c,Y.head? =θ c->fT st c=μ):bP st s (γ A)=γ A+γ X:=by subst h;unfold bP;rw[eM,Ln _ _ _ (by rw[aT];intro c a;rw[d c a];rfl),TO _ _ (λc a=>by rw[b c a];rfl),Ru]
theorem snoc1(A:aC)(c:ζ):γ A+1=γ (A++[c]):=by rw[cG];rfl
theorem F4(pre r:δ PP)(p:PP)(a:BE (pre++p::r))(d:γ pre+(γ r+1)<=16):yA pre p.1=0:=by unfold yA;unfold BE at a;rw[dF]at a;rw[aA,aA aA0];intro h;rw[cV]at h;obtain⟨q,b,c⟩:=h;exact a.2.2 q b p gK (eq_of_beq c)
theorem On(a:η):∀d:aC,d.all (lW a)=μ->xY a d=θ d
 |[],_=>rfl
 |c::d,h=>by rw[Jf,lA]at h;rw[xY,aB h.1,On a d h.2];rfl
def a62(c:ζ):η:= !(c==62)&& !eJ c
theorem W0(u:aC)(h:jW u=μ):∀c∈u,(!(c==59))=μ/\a62 c=μ:=by
 unfold jW at h;simp only[lA]at h;have g:=h.2;intro c f;have i:∀d c,lW d c=μ->(!(c==59))=μ/\a62 c=μ:=by intro d;cases d<;>exact fM _ aA5
 cases u with
 |nil=>cases f
 |cons a u=>
  by_cases b:a=43
  ·subst b;rcases aQ.1 f with h|h
   ·rw[h];decide
   ·exact i _ c (aT.1 g c h)
  ·have j:¬43=a:=λe=>b e.symm;have k:iD (a::u) [43]=a::u:=by unfold iD oI;simp[j]
   rw[k]at g;exact i _ c (aT.1 g c f)
theorem ls(u:aC)(h:jW u=μ):u≠[]:=λe=>by rw[e]at h;exact absurd h aA1
theorem telA(s A f Z:aC)(h:s=A++(f++Z))(o:∀c,Z.head? =θ c->c=59)(k:jW f=μ):jX s (γ A)=(0,f)/\bP [59] s (γ A)=γ A+γ f:=by
 have j:=ls f k;have i:bP [59] s (γ A)=γ A+γ f:=by
  refine utlA [59] s A f Z h (λc m=> ?_) (λc m=>by rw[o c m];decide);have l:¬c=59:=by simpa using (W0 f k c m).1
  unfold fT;simp only[Tx,iY,dU];exact dX.2 (λe=>l e.symm)
 refine⟨?_,i⟩;unfold jX;rw[i];have b:=seesA s A (f++Z) 43 h;rw[R2 _ _ j]at b;unfold jW at k;simp only[lA,gJ,bM,aW]at k;obtain⟨⟨d1,d2⟩,d3⟩:=k;cases f with
 |nil=>exact absurd rfl j
 |cons a u=>
  by_cases g:a=43
  ·subst g;have n:iD (43::u) [43]=u:=by unfold iD oI;simp
   rw[n]at d1 d2 d3;have p:s=(A++[43])++(u++Z):=aA6;have d:sub s ((γ A+1:Nat):Int) ((γ A+γ (43::u):Nat):Int)=u:=by have:=vu s (A++[43]) u Z p;rw[<-snoc1,show γ A+1+γ u=γ A+γ (43::u) by rw[cN];omega]at this;exact this
   rw[b,List.head?_cons,aD rfl,aB rfl,d,On μ u d3];dsimp only;rw[aA d1,aA aA0,aB rfl]
  ·have l:¬(43:ζ)=a:=λe=>g e.symm;have n:iD (a::u) [43]=a::u:=by unfold iD oI;simp[l]
   have q:oI (a::u) [43]=ν:=by show((43:ζ)==a&&([]:aC).isPrefixOf u)=ν;rw[dX.2 l];rfl
   rw[n]at d1 d2 d3;rw[q]at d3;have d:sub s (γ A:Int) ((γ A+γ (a::u):Nat):Int)=a::u:=vu s A (a::u) Z h;rw[b,List.head?_cons,aE (λe=>g (aP e)),aA aA1,d,On ν _ d3];dsimp only;rw[aA d1,aA aA0,aA aA1]
open Go.Lib renaming cut → eF, join → cY
def Sa(l:δ PP):Nat:=(l.map λz=>γ z.1+γ z.2.1).sum
theorem mV(p:PP)(l:δ PP):Sa (p::l)=γ p.1+γ p.2.1+Sa l:=by unfold Sa;rw[uX,yX]
theorem Kz{m:δ PP}(h:l.Perm m):Sa l=Sa m:=by unfold Sa;exact(h.map _).sum_nat
theorem dv(a b:δ PP):Sa (a++b)=Sa a+Sa b:=by unfold Sa;rw[Ry,List.sum_append]
theorem La(q:PP->η):∀l:δ PP,Sa (l.filter q)<=Sa l
 |[]=>dO _
 |p::l=>by
  have:=La q l;rw[List.filter_cons];split
  ·rw[mV,mV];omega
  ·rw[mV];omega
theorem B4(p:PP):γ (Uh p)<=2*γ p.2.1+3:=by
 have:=bkn p.2.1;unfold Uh;cases p.2.2 with
 |false=>simp
 |true=>
  rw[aM,cN];cases(iH p.2.1||XZ p.2.1)with
  |true=>rw[aM];omega
  |false=>rw[aH];omega
theorem EM:∀(r pre:δ PP) (t:aC),Rn pre r=θ t->γ t<=2*Sa r+4*γ r
 |[],_,t,h=>by rw[Rn,bG]at h;subst h;simp
 |p::r,pre,t,h=>by
  rw[Rn]at h;cases a:CL pre p&&Zy p with
  |false=>rw[a]at h;cases h
  |true=>rw[a,aM,bR]at h;obtain⟨u,b,rfl⟩:=h;have:=EM r _ u b;have c:=B4 p;rw[mV];simp only[cN,cG];omega
theorem Mm(l:δ PP):γ (rZ l).1<=2*Sa l+64:=by
 unfold rZ;split
 ·simp
 ·cases a:Rn [] l with
  |none=>simp
  |some t=>have:=EM l [] t a;simp only;omega
theorem KW(x:aC×δ PP):γ (xE x).1<=γ x.1+2*Sa x.2+64:=by
 have:=Mm (fU x.2);rw[Kz (bf x.2)]at this;unfold xE;split
 ·simp only[cG];omega
 ·simp
theorem WE(s:aC):γ (dT s).1<=250:=by
 unfold dT;by_cases a:39<γ s
 ·rw[aB a];simp
 ·rw[aA a];have e:∀x:aC,γ x<=39->γ (cY (yV x).1 [58])<=40*5:=λx hx=>by have g:=bjs x;have f:=Z0 [58] 4 (yV x).1 g.2;simp only[eI]at f;omega
  split
  ·have:=e s aA0;simp only;omega
  ·split
   ·simp
   ·rename_i d;simp only[YO,gJ,aW,not_or]at d;have c:=Z0 [58] 4 (iG (eF s [58,58]).1).1 (Bm (Bk _));have b:=Z0 [58] 4 (iG (eF s [58,58]).2.1).1 (Bm (Bk _));simp only[eI,cG,cN,iP]at c b⊢;omega
theorem uM(s:aC):γ (eO s).1<=γ s+252:=by
 have:=WE (sub s 1 ((γ s:Int)-1));unfold eO;split
 ·split
  ·simp only[cG,eI];omega
  ·simp
 ·split
  ·simp
  ·split
   ·unfold cK;simp
   ·simp
theorem vt(a:δ PP)(b:aC):Sa (kT a++iR b)<=Sa a+γ b+6:=by
 have d:=La (λp=> !(p.1==uo)) a;have c:Sa (iR b)<=γ b+6:=by
  unfold iR;split
  ·exact cW _
  ·rw[mV];have:γ uo=6:=rfl;have e:Sa []=0:=rfl;simp only;omega
 rw[dv];unfold kT;omega
theorem UT(x:VV):γ (Gu x).1<=γ x.1+γ x.2.1+2*(Sa x.2.2.2.2+γ x.2.2.2.1)+400:=by
 by_cases a:(eO x.2.1).2=μ/\iH x.1=μ/\0<=x.2.2.1/\x.2.2.1<=65535/\(rZ (fU (kT x.2.2.2.2++iR x.2.2.2.1))).2=0
 ·have b:=Mm (fU (kT x.2.2.2.2++iR x.2.2.2.1));rw[Kz (bf _)]at b;have h:=vt x.2.2.2.2 x.2.2.2.1;have g:=uM x.2.1;have f:=oQ x.1;have e:=(bgf x.2.2.1 a.2.2.1 a.2.2.2.1).2.2.1;have d:γ (mG (eO x.2.1).1 x.2.2.1)<=γ (eO x.2.1).1+6:=by
   unfold mG;split
   ·omega
   ·simp only[cG,eI];omega
  have c:γ VER=8:=rfl;rw[Dm x a];simp only[cG,eI];omega
 ·rw[Z2 x a];simp
theorem Kr(v:aC):γ (mD v).1.2.2.2.2<=16:=by
 have e:∀d h b a,γ (wT d h b a).1.2.2.2.2<=16:=by
  intro d h b a;unfold wT;split
  ·exact Ac a
  ·unfold rH;simp
 have c:γ (rH,(5:ζ)).1.2.2.2.2<=16:=by unfold rH;simp
 unfold mD;split
 ·exact c
 ·split
  ·exact c
  ·split
   ·exact c
   ·split
    ·exact c
    ·unfold Cz;split
     ·exact c
     ·split
      ·split
       ·exact e _ _ _ _
       ·unfold rH;simp
      ·exact e _ _ _ _
open Go.Lib renaming join → cY
abbrev AA:=aC×UU×δ PP
def nE:AA:=([],iE,[])
def kV(s:aC):Nat->Nat->δ aC->ζ×Nat×δ aC
 |0,_,_=>(5,0,[])
 |f+1,i,a=>if cR s i 60=μ then(0,i,a)else if bT cJ s i=i then(5,0,[])else kV s f (bT bX s ((bT cJ s (i:Int)))) (a++[sub s i ((bT cJ s i))])
def pM(s:aC)(i:Nat):ζ×aC×Nat:=
 if cR s i 34=μ then
  (if(tK s i).2.2=0 then(if cR s (bT bX s (tK s i).2.1) 60=μ then(0,(tK s i).1,bT bX s (tK s i).2.1)else(5,[],0))else((tK s i).2.2,[],0))
 else if fT s 60=μ then((kV s (γ s+1) i []).1,cY (kV s (γ s+1) i []).2.2 [32],(kV s (γ s+1) i []).2.1)
 else(0,[],i)
def fQ(s:aC)(i:Nat):ζ×UU×Nat:=
 if cR s i 60=μ then(if bP [62] s (i+1)=γ s then(5,iE,0)else((Fp (sub s ((i+1:Nat)) (bP [62] s (i+1)))).1,(Fp (sub s ((i+1:Nat)) (bP [62] s (i+1)))).2,bP [62] s (i+1)+1))
 else if bP [63,44] s i<bP [59,32,9] s i then(5,iE,0)else((Fp (sub s i (bP [59,32,9] s i))).1,(Fp (sub s i (bP [59,32,9] s i))).2,bP [59,32,9] s i)
def fZ (s : aC) : ζ × AA :=
  if 1024 < γ s then (4, nE) else
  if (pM s (bT bX s 0)).1 = 0 then
    (if (fQ s (pM s (bT bX s 0)).2.2).1 = 0 then
      (if (fR (s.drop (fQ s (pM s (bT bX s 0)).2.2).2.2)).2.2 = 0 then (0, ((pM s (bT bX s 0)).2.1, (fQ s (pM s (bT bX s 0)).2.2).2.1, (fR (s.drop (fQ s (pM s (bT bX s 0)).2.2).2.2)).1))
       else ((fR (s.drop (fQ s (pM s (bT bX s 0)).2.2).2.2)).2.2, nE))
     else ((fQ s (pM s (bT bX s 0)).2.2).1, nE))
  else ((pM s (bT bX s 0)).1, nE)
def dsT(d:aC):aC:=if d=[]then []else Zh d++[32]
def xm(a:AA):aC×ζ:=
 if a.1.any eJ=ν/\(rZ (fU a.2.2)).2=0 then(dsT a.1++(60::(ao a.2.1++(62::(rZ (fU a.2.2)).1))),0)else([],2)
theorem EW(s:aC):∀(f i:Nat) (a:δ aC),i<=γ s->(kV s f i a).2.1<=γ s
 |0,_,_,_=>cW _
 |f+1,i,a,h=>by
  rw[kV];split
  ·exact h
  ·split
   ·exact cW _
   ·exact EW s f _ _ (jL _ _ _)
theorem HM(s:aC)(i:Nat)(a:i<=γ s):(pM s i).2.2<=γ s:=by
 unfold pM;split
 ·split
  ·split
   ·exact jL _ _ _
   ·exact cW _
  ·exact cW _
 ·split
  ·exact EW s _ i [] a
  ·exact a
theorem TK(s:aC)(i:Nat)(h:(fQ s i).1=0):Good (fQ s i).2.1:=by
 unfold fQ at h⊢;split
 ·rename_i b;rw[aB b]at h;split
  ·rename_i a;rw[aB a]at h;exact absurd h aA1
  ·rename_i a;rw[aA a]at h;exact Mr _ h
 ·rename_i b;rw[aA b]at h;split
  ·rename_i a;rw[aB a]at h;exact absurd h aA1
  ·rename_i a;rw[aA a]at h;exact Mr _ h
theorem Qv(s:aC)(h:(fZ s).1=0):Good (fZ s).2.2.1/\γ (fZ s).2.2.2<=16/\∀p∈(fZ s).2.2.2,cK p.1=p.1/\γ p.1<=4194304:=by
 unfold fZ at h⊢;split
 ·rename_i c;rw[aB c]at h;exact absurd h aA1
 ·rename_i c;rw[aA c]at h;split
  ·rename_i b;rw[aB b]at h;split
   ·rename_i a;rw[aB a]at h;split
    ·have d:∀k,γ (s.drop k)<=4194304:=λk=>by rw[fB];omega
     refine⟨TK s _ a,Ac _,λp f=> ?_⟩;have:=bcf _ (d _) p f;exact⟨this.1,oF this.2.1 (d _)⟩
    ·rename_i e;rw[aA e]at h;exact absurd h e
   ·rename_i a;rw[aA a]at h;exact absurd h a
  ·rename_i b;rw[aA b]at h;exact absurd h b
def W8(x:aC):(δ aC⊕ζ)->(δ aC⊕ζ)
 |.inl l=>.inl (x::l)
 |.inr e=>.inr e
def fA:Nat->aC->aC->δ aC⊕ζ
 |0,a,[]=>.inl [cT a]
 |_+1,_,[]=>.inr 6
 |0,a,c::l=>if c=34 then fA 1 (a++[c]) l else if c=60 then fA 3 (a++[c]) l else if c=62 then .inr 5 else if c=44 then W8 (cT a) (fA 0 [] l)else fA 0 (a++[c]) l
 |1,a,c::l=>if c=34 then fA 0 (a++[c]) l else if c=92 then fA 2 (a++[c]) l else if eJ c=μ then .inr 5 else fA 1 (a++[c]) l
 |2,a,c::l=>if Y9 c=μ then fA 1 (a++[c]) l else .inr 5
 |_+3,a,c::l=>if c=62 then fA 0 (a++[c]) l else fA 3 (a++[c]) l
theorem s0n(a:aC):fA 0 a []=.inl [cT a]:=by rw[fA]
theorem s0c(a:aC)(c:ζ)(l:aC):fA 0 a (c::l)=if c=34 then fA 1 (a++[c]) l else if c=60 then fA 3 (a++[c]) l else if c=62 then .inr 5 else if c=44 then W8 (cT a) (fA 0 [] l)else fA 0 (a++[c]) l:=by rw[fA]
theorem s1c(a:aC)(c:ζ)(l:aC):fA 1 a (c::l)=if c=34 then fA 0 (a++[c]) l else if c=92 then fA 2 (a++[c]) l else if eJ c=μ then .inr 5 else fA 1 (a++[c]) l:=by rw[fA]
theorem s2c(a:aC)(c:ζ)(l:aC):fA 2 a (c::l)=if Y9 c=μ then fA 1 (a++[c]) l else .inr 5:=by rw[fA]
theorem s3c(m:Nat)(a:aC)(c:ζ)(l:aC):fA (m+3) a (c::l)=if c=62 then fA 0 (a++[c]) l else fA 3 (a++[c]) l:=by rw[fA]
theorem wi(a:aC)(c:ζ)(l:aC):fA 3 a (c::l)=if c=62 then fA 0 (a++[c]) l else fA 3 (a++[c]) l:=s3c 0 a c l
def jC(v:aC):δ aC×ζ:=match fA 0 [] v with|.inr e=>([],e)|.inl l=>if l.any (λx=>decide (x=[]))=μ then([],5)else(l,0)
theorem Db(x:aC):cT (cT x)=cT x:=by unfold cT;rw[Mg,Br];unfold JA;rw[List.reverse_reverse,Br]
theorem Xb{r:δ aC⊕ζ}(h:W8 x r=.inl a):∃m,r=.inl m/\a=x::m:=by
 cases r with
 |inl m=>exact⟨m,rfl,(ae h).symm⟩
 |inr e=>cases h
theorem Y4:∀(s:aC) (m:Nat) (a:aC) (l:δ aC),fA m a s=.inl l->l≠[]/\∀x∈l,∃y,x=cT y
 |[],0,a,l,h=>by rw[fA]at h;have:=ae h;subst this;exact⟨aA3,λx hx=>⟨a,aG.1 hx⟩⟩
 |[],m+1,a,l,h=>by cases h
 |c::s,0,a,l,h=>by
  rw[fA]at h;split at h
  ·exact Y4 s _ _ l h
  ·split at h
   ·exact Y4 s _ _ l h
   ·split at h
    ·cases h
    ·split at h
     ·obtain⟨m,d,rfl⟩:=Xb h;obtain⟨_,b⟩:=Y4 s _ _ m d;refine⟨aA3,λx hx=> ?_⟩;rcases aQ.1 hx with h|h
      ·exact⟨a,h⟩
      ·exact b x h
     ·exact Y4 s _ _ l h
 |c::s,1,a,l,h=>by
  rw[fA]at h;split at h
  ·exact Y4 s _ _ l h
  ·split at h
   ·exact Y4 s _ _ l h
   ·split at h
    ·cases h
    ·exact Y4 s _ _ l h
 |c::s,2,a,l,h=>by
  rw[fA]at h;split at h
  ·exact Y4 s _ _ l h
  ·cases h
 |c::s,m+3,a,l,h=>by
  rw[fA]at h;split at h
  ·exact Y4 s _ _ l h
  ·exact Y4 s _ _ l h
theorem D4:∀(l:aC) (m:Nat) (b:aC) (e:ζ),fA m b l=.inr e->e≠0:=by
 intro l;induction l with
 |nil=>
  intro m b e h;cases m with
  |zero=>cases h
  |succ m=>rw[<-ab h];decide
 |cons c l a=>
  intro m b e h
  match m with
  |0=>
   rw[fA]at h;split at h
   ·exact a _ _ _ h
   ·split at h
    ·exact a _ _ _ h
    ·split at h
     ·rw[<-ab h];decide
     ·split at h
      ·cases d:fA 0 [] l with
       |inl q=>rw[d]at h;cases h
       |inr e'=>rw[d]at h;rw[<-ab h];exact a _ _ _ d
      ·exact a _ _ _ h
  |1=>
   rw[fA]at h;split at h
   ·exact a _ _ _ h
   ·split at h
    ·exact a _ _ _ h
    ·split at h
     ·rw[<-ab h];decide
     ·exact a _ _ _ h
  |2=>
   rw[fA]at h;split at h
   ·exact a _ _ _ h
   ·rw[<-ab h];decide
  |m+3=>
   rw[fA]at h;split at h
   ·exact a _ _ _ h
   ·exact a _ _ _ h
def Cl(e:aC):Prop:=(∀b a,fA 0 b (e++a)=fA 0 (b++e) a)/\e.any eJ=ν
theorem Cl.nil:Cl []:=⟨λb a=>by rw[gD];rfl,rfl⟩
theorem Cl.app{b:aC}(e:Cl x)(d:Cl b):Cl (x++b):=⟨λf c=>by rw[gZ,e.1,d.1,gZ],by rw[List.any_append,e.2,d.2];rfl⟩
def T5(c:ζ):η:= !(c==34)&& !(c==60)&& !(c==62)&& !(c==44)&& !eJ c
theorem Cl.one(c:ζ)(h:T5 c=μ):Cl [c]:=by unfold T5 at h;simp only[lA,gJ,dX]at h;obtain⟨⟨⟨⟨g,f⟩,e⟩,d⟩,b⟩:=h;refine⟨λi a=> ?_,by rw[Tx,b];rfl⟩;rw[pj,s0c,aA g,aA f,aA e,aA d]
theorem Cl.all:∀(a:aC),(∀c∈a,T5 c=μ)->Cl a
 |[],_=>Cl.nil
 |c::a,h=>by have:=(Cl.one c (h c gK)).app (Cl.all a (λd b=>h d (eU _ b)));exact this
theorem jn2(a b:aC)(l:δ aC)(s:aC):cY (a::b::l) s=a++(s++cY (b::l) s):=by simp[cY,List.intercalate,List.intersperse]
theorem jn1(a s:aC):cY [a] s=a:=by simp[cY,List.intercalate]
theorem Oq(sep:aC):∀(c:δ aC) (x:aC),cY (c++[x]) sep=if c=[]then x else cY c sep++(sep++x)
 |[],x=>by rw[Rl,jn1,aB rfl]
 |[a],x=>by rw[aA aA3,jn1];show cY [a,x] sep=_;rw[jn2,jn1]
 |a::b::c,x=>by rw[aA aA3,jn2];show cY (a::b::(c++[x])) sep=_;rw[jn2];have:=Oq sep (b::c) x;rw[aA aA3]at this;have e:b::(c++[x])=(b::c)++[x]:=rfl;rw[e,this];simp
open Go.Lib renaming itoa → gM, join → cY
theorem P4(n:Int)(e:0<=n)(h:n<=2147483647):eV (gM n)=(n,0)/\1<=γ (gM n)/\γ (gM n)<=10/\(gM n).all gA=μ:=by obtain⟨k,rfl⟩:∃k:Nat,n=k:=⟨n.toNat,aA0⟩;obtain⟨a,d,c,b⟩:=Pv 9 k aA0;rw[nP];refine⟨?_,c,b,a⟩;unfold eV;rw[a,d,aA (by rintro(h|h|h);omega;omega;cases h),aA aA0]
def xZ(s:aC):Int×aC×ζ:=((eV (s.take (cI (λc=> !bX c) s))).1,s.drop (bT bX s (cI (λc=> !bX c) s)),(eV (s.take (cI (λc=> !bX c) s))).2)
theorem Jq(s:aC):0<=(eV s).1/\(eV s).1<=2147483647:=by
 unfold eV;split
 ·exact⟨aA1,aA1⟩
 ·split
  ·exact⟨aA1,aA1⟩
  ·dsimp only;omega
theorem QE(s:aC):0<=(xZ s).1/\(xZ s).1<=2147483647:=by unfold xZ;exact Jq _
def Kc(v:aC):Int×aC×ζ:=
 if(xZ (cT v)).2.2=0 then(if iH (xZ (cT v)).2.1=μ then((xZ (cT v)).1,(xZ (cT v)).2.1,0)else(0,[],5))else(0,[],(xZ (cT v)).2.2)
def Xi(v:aC):Int×Int×aC×ζ:=
 if(xZ (cT v)).2.2=0 then(if(Kc (xZ (cT v)).2.1).2.2=0 then((xZ (cT v)).1,(Kc (xZ (cT v)).2.1).1,(Kc (xZ (cT v)).2.1).2.1,0)else(0,0,[],(Kc (xZ (cT v)).2.1).2.2))else(0,0,[],(xZ (cT v)).2.2)
def Jj(k:Int)(ct:η)(v:aC):aC×ζ:=
 if k=1 then(if ct=μ/\cT v=[42]then([42],0)else if(fZ (cT v)).1=0 then xm (fZ (cT v)).2 else([],(fZ (cT v)).1))
 else if k=2 then(if(mD v).2=0 then Gu (mD v).1 else([],(mD v).2))
 else if k=3 then(if(Kc v).2.2=0 then(gM (Kc v).1++32::(Kc v).2.1,0)else([],(Kc v).2.2))
 else if k=4 then(if(Xi v).2.2.2=0 then(gM (Xi v).1++32::(gM (Xi v).2.1++32::(Xi v).2.2.1),0)else([],(Xi v).2.2.2))
 else if k=5 then(if(eV (cT v)).2=0 then(gM (eV (cT v)).1,0)else([],(eV (cT v)).2))
 else if k=6\/k=7 then(if(BT v).2=0 then xE (BT v).1 else([],(BT v).2))
 else if(cT v).any eJ=μ then([],5)else(cT v,0)
theorem C3(k:Int)(ct:η)(v w:aC)(h:cT v=cT w):Jj k ct v=Jj k ct w:=by
 have d:mD v=mD w:=by unfold mD;rw[h]
 have c:Kc v=Kc w:=by unfold Kc;rw[h]
 have b:Xi v=Xi w:=by unfold Xi;rw[h]
 have a:BT v=BT w:=by unfold BT;rw[h]
 unfold Jj;rw[h,d,c,b,a]
def yR(k:Int)(ct:η):δ aC->δ aC×ζ
 |[]=>([],0)
 |x::l=>if(Jj k ct x).2=0 then(if(yR k ct l).2=0 then((Jj k ct x).1::(yR k ct l).1,0)else([],(yR k ct l).2))else([],(Jj k ct x).2)
theorem OI(k:Int)(ct:η):∀l:δ aC,(yR k ct l).2=0->γ (yR k ct l).1=γ l
 |[],_=>rfl
 |x::l,h=>by
  rw[yR]at h⊢;by_cases b:(Jj k ct x).2=0
  ·rw[aB b]at h⊢;by_cases a:(yR k ct l).2=0
   ·rw[aB a];simp only[cN,OI k ct l a]
   ·rw[aA a]at h;exact absurd h a
  ·rw[aA b]at h;exact absurd h b
def C2(many:η)(k:Int)(ct:η)(v:aC):aC×ζ:=
 if many=μ then(if(jC v).2=0 then(if(yR k ct (jC v).1).2=0 then(cY (yR k ct (jC v).1).1 [44,32],0)else([],(yR k ct (jC v).1).2))else([],(jC v).2))else Jj k ct v
open Int renaming toNat → bH
theorem B6(x:aC):Lib.trimRightS x [32,9]=JA bX x:=by unfold Lib.trimRightS JA;rw[Fj]
theorem Uq(p:ζ->η):∀(l:aC) n,cI p (l.take n)=min (cI p l) n
 |[],n=>by rw[List.take_nil];simp[cI]
 |c::l,0=>by rw[List.take_zero];simp[cI]
 |c::l,n+1=>by
  rw[dY,cI,cI];split
  ·rw[Uq p l n];omega
  ·omega
theorem Vf(s:aC)(f:aL s<=4194304)(b e:Nat)(g:b<=e)(j:e<=aL s):∃k,bbf FU s b e=θ (k,cT (sub s b e)):=by
 have i:bT bX s b=b+cI bX (s.drop b):=by unfold bT;rw[tt b (γ s) aA0]
 have h:sub s b e=(s.drop b).take (e-b):=by unfold sub;rw[lB,lB]
 have c:min ((bT bX s (b:Int)):Int) e=((b+cI bX (sub s b e):Nat):Int):=by rw[h,Uq];omega
 have a:sub s ((b+cI bX (sub s b e):Nat):Int) e=(sub s b e).dropWhile bX:=by rw[<-biw];unfold sub;rw[Ri,Rx];congr 1;omega
 have d:=sub_le s ((b+cI bX (sub s b e):Nat):Int) e;unfold bbf;rw[uV s f,aR,c,aS aA0,aS aA0,a,B6];exact⟨_,rfl⟩
theorem mW(s:aC)(b i m:Nat)(a:b<=i):sub s b ((i+m:Nat))=sub s b i++(s.drop i).take m:=by unfold sub;rw[lB,lB,lB,show i+m-b=(i-b)+m by omega,List.take_add,Rx,show b+(i-b)=i by omega]
theorem J4(n:Nat):∀l k (a b),aL l<=n->
  ((fV l k a).2.2=0->fA 1 b l=fA 0 (b++l.take ((fV l k a).2.1.toNat-k)) (l.drop ((fV l k a).2.1.toNat-k)))/\(¬(fV l k a).2.2=0->fA 1 b l=.inr (fV l k a).2.2):=by
 induction n with
 |zero=>intro l k a b h;obtain rfl:l=[]:=Je aA0;exact⟨λh=>absurd h (show¬6=0 by decide),λ_=>rfl⟩
 |succ n p=>
  intro l k a b h;cases l with
  |nil=>exact⟨λh=>absurd h (show¬6=0 by decide),λ_=>rfl⟩
  |cons c l=>
   rw[cN]at h;rw[mT,s1c];by_cases g:c=34
   ·rw[aB g,aB g];refine⟨λ_=> ?_,λh=>absurd rfl h⟩;dsimp only;rw[show bH _-k=1 by omega];rfl
   ·rw[aA g,aA g];by_cases f:c=92
    ·rw[aB f,aB f];cases l with
     |nil=>exact⟨λh=>absurd h (show¬6=0 by decide),λ_=>rfl⟩
     |cons d r=>
      have s:at_ (d::r) 0=d:=rfl;rw[aA aA3,s,s2c];cases t:Y9 d with
      |false=>exact⟨λh=>absurd h (show¬5=0 by decide),λ_=>rfl⟩
      |true=>rw[aB rfl,List.drop_one,List.tail_cons];rw[cN]at h;obtain⟨o,m⟩:=p r _ _ _ aA0;have i:=(zF (γ r) r (k+2) (a++[d]) (dO _)).2;refine⟨λj=> ?_,m⟩;have q:=i j;rw[o j];have e:(fV r (k+2) (a++[d])).2.1.toNat-k=((fV r (k+2) (a++[d])).2.1.toNat-(k+2))+2:=aA0;rw[e];simp
    ·rw[aA f,aA f];cases u:eJ c with
     |true=>exact⟨λh=>absurd h (show¬5=0 by decide),λ_=>rfl⟩
     |false=>obtain⟨o,m⟩:=p l _ _ _ aA0;have i:=(zF (γ l) l (k+1) (a++[c]) (dO _)).2;rw[aA aA1];refine⟨λj=> ?_,m⟩;have q:=i j;have e:(fV l (k+1) (a++[c])).2.1.toNat-k=((fV l (k+1) (a++[c])).2.1.toNat-(k+1))+1:=aA0;rw[o j,e];simp
theorem ang1:∀(l a:aC),(dN (·==62) l<0->fA 3 a l=.inr 6)/\(¬dN (·==62) l<0->fA 3 a l=fA 0 (a++l.take ((dN (·==62) l).toNat+1)) (l.drop ((dN (·==62) l).toNat+1)))
 |[],a=>⟨λ_=>rfl,λh=>absurd (show(-1)<0 by decide) h⟩
 |c::l,a=>by
  obtain⟨f,d⟩:=ang1 l _;have g:=sQ (·==62) l;rw[wi];by_cases h:c=62
  ·have e:dN (·==62) (c::l)=0:=by rw[h];rfl
   rw[e,aB h];exact⟨λh=>absurd h aA1,λ_=>rfl⟩
  ·have i:=dX.2 h;rw[aA h,dN,i,aA aA1];by_cases b:dN (·==62) l= -1
   ·rw[aB b];refine⟨λ_=>f aA0,λh=>absurd (show(-1)<0 by decide) h⟩
   ·rw[aA b];refine⟨λh=>absurd h aA0,λ_=> ?_⟩;rw[d aA0,show bH (dN _ l+1)+1=((dN (·==(62:ζ)) l).toNat+1)+1 by omega];simp
theorem D0(s:aC)(Z:aL s<=4194303)(n:Nat):∀i f c b,aL s-i<=n->n<f->b<=i->i<=aL s->aL c<=i->
  ∃j,aqk FU s 44 f c b i=θ j/\
   (match fA 0 (sub s b i) (s.drop i)with
   |.inl l=>∃(d:hY) (b':Nat),j=.inl (d,b')/\b'<=aL s/\γ d<=aL s/\d.map (·.2)++[cT (sub s b' (γ s))]=c.map (·.2)++l
   |.inr e=>∃q a,j=.inr (q,a,e)):=by
 induction n with
 |zero=>intro i f c b T V C w I;obtain⟨f,rfl⟩:=bV f;obtain rfl:i=aL s:=aA0;rw[azb,ans,aA aA0,Rm (dO _),s0n];exact⟨_,rfl,c,b,rfl,aA0,I,rfl⟩
 |succ n B=>
  intro i f c b T V C w I;obtain⟨f,rfl⟩:=bV f;by_cases v:i<aL s
  ·have H:=Iq s i v;have u:sub s (b:Int) ((i+1:Nat):Int)=sub s (b:Int) (i:Int)++[at_ s (i:Int)]:=by rw[mW s b i 1 C,H];rfl
   rw[azb,ans,aB aA0,aS aA0,H,s0c];by_cases m:at_ s (i:Int)=34
   ·rw[aB m,aB m,wU s aA0,aR];have R:tK s (i:Int)=fV (s.drop (i+1)) (i+1) []:=by unfold tK;rw[aA aA0,aA (by rintro(h|h);omega;exact h m),lB]
    have E:=J4 (γ (s.drop (i+1))) (s.drop (i+1)) (i+1) [] (sub s (b:Int) (i:Int)++[at_ s (i:Int)]) (dO _);have y:=(zF (γ (s.drop (i+1))) (s.drop (i+1)) (i+1) [] (dO _)).2;have G:γ (s.drop (i+1))=aL s-(i+1):=fB;rw[R];generalize fV (s.drop (i+1)) (i+1) []=U at E y⊢;by_cases z:U.2.2=0
    ·obtain⟨Y,X⟩:=y z;obtain⟨o,F⟩:∃o:Nat,U.2.1=(o:Int):=⟨U.2.1.toNat,aA0⟩;rw[F]at Y X;have K:=E.1 z;rw[F,lB,<-u,<-mW s b (i+1) (o-(i+1)) aA0,Rx,show i+1+(o-(i+1))=o by omega]at K;rw[aB z,F,<-u,K];exact B o f c b aA0 aA0 aA0 aA0 aA0
    ·rw[aA z,E.2 z];exact⟨_,rfl,_,_,rfl⟩
   ·rw[aA m,aA m];by_cases g:at_ s (i:Int)=60
    ·have hx:fA 3 (sub s (b:Int) (i:Int)) (s.drop i)=fA 3 (sub s (b:Int) (i:Int)++[at_ s (i:Int)]) (s.drop (i+1)):=by rw[H,wi,aA (by rw[g];decide)]
     obtain⟨M,L⟩:=ang1 (s.drop i) (sub s (b:Int) (i:Int));have G:γ (s.drop i)=aL s-i:=fB;have D:=nk (·==(62:ζ)) (s.drop i);rw[aB g,aB g,aS aA0,lB,<-hx];generalize dN (·==(62:ζ)) (s.drop i)=x at M L D⊢;by_cases p:x<0
     ·rw[aB p,M p];exact⟨_,rfl,_,_,rfl⟩
     ·rw[aA p,L p,<-mW s b i (x.toNat+1) C,Rx,aS (cA _ aA0 aA0),aS (cA _ aA0 aA0),show(i:Int)+(x+1)=((i+(x.toNat+1):Nat):Int)by omega];exact B (i+(x.toNat+1)) f c b aA0 aA0 aA0 aA0 aA0
    ·rw[aA g,aA g];by_cases r:at_ s (i:Int)=62
     ·rw[aB r,aB r];exact⟨_,rfl,_,_,rfl⟩
     ·rw[aA r,aA r];by_cases t:at_ s (i:Int)=44
      ·obtain⟨k,S⟩:=Vf s aA0 b i C w;rw[aB t,aB t,S,aR,aS aC3,aS (cA _ aA0 aA0)];obtain⟨j,W,A⟩:=B (i+1) f (c++[(k,cT (sub s (b:Int) (i:Int)))]) (i+1) aA0 aA0 (dO _) v aB4;refine⟨j,W, ?_⟩;rw[Z4]at A;cases J:fA 0 [] (s.drop (i+1))with
       |inr e=>rw[J]at A;exact A
       |inl l=>rw[J]at A;obtain⟨d,b',Q,P,O,N⟩:=A;refine⟨d,b',Q,P,O, ?_⟩;rw[N,Ry,gZ];rfl
      ·rw[aA t,aA t,aS (cA _ aA0 aA0),<-u];exact B (i+1) f c b aA0 aA0 aA0 v aA0
  ·obtain rfl:i=aL s:=by omega
   rw[azb,ans,aA aA0,Rm (dO _)];exact⟨_,rfl,c,b,rfl,aA0,I,rfl⟩
theorem TN(s:aC)(m:aL s<=4194303):∃q a,bfi FU s 44=θ (q,a,(match fA 0 [] s with|.inl _=>0|.inr e=>e))/\(∀l,fA 0 [] s=.inl l->q.map (·.2)=l/\γ q<=aL s+1):=by
 obtain⟨j,o,b⟩:=D0 s m (γ s) 0 FU [] 0 aA0 aA4 (dO _) (cW _) (dO _);have c:aqk FU s 44 FU [] 0 0=θ j:=o;rw[Z4,YN]at b;unfold bfi;rw[xX,aR];have e:(bif bX 44 then θ μ else(if(44:ζ)=(34:ζ)then θ μ else(if(44:ζ)=(60:ζ)then θ μ else θ (decide ((44:ζ)=(62:ζ))))))=θ ν:=aA1;rw[e,aR,c,aR];cases d:fA 0 [] s with
 |inr e=>rw[d]at b;obtain⟨q,a,rfl⟩:=b;exact⟨q,a,rfl,λl h=>by cases h⟩
 |inl l=>rw[d]at b;obtain⟨f,b',rfl,i,p,g⟩:=b;obtain⟨k,n⟩:=Vf s aA0 b' (γ s) i (dO _);rw[kA];dsimp only;rw[n,aR,aS aC3];refine⟨_,_,rfl,λl' h=> ?_⟩;have:=ae h;subst this;rw[Ry,cf,g];exact⟨rfl,by rw[cG,eI];omega⟩
theorem Q9(c:(hY×Int×ζ))(k:aL c.1<=4194304)(q:hY):∀(p:hY) (b:Nat),c.1=p++q->aL q<b->
  aqo FU c b (p.map (·.2)) (aL p:Int)=θ (if(q.map (·.2)).any (λx=>decide (x=[]))=μ then .inr ([],5)else .inl (c.1.map (·.2))):=by
 induction q with
 |nil=>intro p b h f;obtain⟨b,rfl⟩:=bV b;rw[gD]at h;rw[bgz,auk,aA aC6,h];rfl
 |cons a q g=>
  intro p b h f;obtain⟨b,rfl⟩:=bV b;have i:=bF aL h;simp only[cG,cN]at i f;have e:(0:Int)<=(aL p:Int)/\(aL p:Int)<(aL c.1:Int):=aA0;have j:el c.1 (aL p:Int)=a:=aA9;rw[bgz,auk,aB e.2,aS e,aS e,j,uX,Tx];by_cases d:a.2=[]
  ·rw[aB d,aD d,tS,aB rfl]
  ·rw[aA d,aE d,NL,aS (by simp only[Gf,eI];omega),aS (cA _ aA0 aA0)];have:=g (p++[a]) b aA6 aA0;rw[Ry,cf]at this;rw[show((aL p:Int)+1)=(γ (p++[a]):Int)by simp];exact this
theorem N7(v:aC)(g:aL v<=4194303):bfl FU v=θ (jC v):=by
 obtain⟨q,a,j,i⟩:=TN v g;unfold bfl jC;rw[j,aR];have d:=D4 v 0 [];cases f:fA 0 [] v with
 |inr e=>rw[aA (d e f)]
 |inl l=>
  obtain⟨h,k⟩:=i l f;dsimp only;have:=Q9 (q,a,0) aE4 q [] FU rfl aA4;have b:aqo FU _ FU [] 0=_:=this;rw[aB rfl,b,aR,h];by_cases c:l.any (λx=>decide (x=[]))=μ
  ·rw[aB c,aB c,Rt]
  ·rw[aA c,aA c,kA]
theorem TC(s:aC)(k:Nat)(c:k<=γ s):γ (kC s k).1<=γ s+252:=by
 unfold kC;split
 ·rename_i h;have:=zE s k (wM h).2 (wM h).1;omega
 ·split
  ·split
   ·have a:=uM (sub s k (min ((k+cI (λb=> !(b==93)) (s.drop k):Nat)+1:Int) (γ s)));rw[Hr]at a;dsimp only;omega
   ·exact cW _
  ·split
   ·exact cW _
   ·dsimp only;rw[Hr];omega
theorem LG(s:aC)(b:Nat):γ (yU s b).1.2.1<=γ s+252:=by
 unfold yU;split
 ·exact cW _
 ·split
  ·exact cW _
  ·split
   ·exact TC s _ (jL _ _ _)
   ·exact cW _
theorem ER(s:aC):∀f l i,(∀p∈l,γ p.2.1<=γ s+252)->∀p∈(kH s f l i).1,γ p.2.1<=γ s+252
 |0,_,_,_=>by simp[kH]
 |f+1,l,i,h=>by
  rw[kH];split
  ·exact h
  ·split
   ·simp
   ·split
    ·split
     ·refine ER s f _ _ λp a=> ?_;rcases aV.1 a with a|a
      ·exact h p a
      ·rw[aG.1 a];exact LG s _
     ·simp
    ·simp
theorem Ab(s:aC):∀p∈(fR s).1,γ p.2.1<=γ s+252:=ER s _ [] 0 aA3
theorem HA(k:Int)(l:δ PP)(T:aC):γ (lE k l T).2.1<=γ T/\γ (lE k l T).2.2.1<=γ T:=by
 have b:=tC k (T.take (dR T));have a:=tC k (T.drop (dR T+1));rw[jS]at b;rw[fB]at a;have c:γ (cK (kP k (T.take (dR T))))=γ (kP k (T.take (dR T))):=by unfold cK;rw[Gf]
 unfold lE;split
 ·exact⟨cW _,cW _⟩
 ·split
  ·exact⟨cW _,cW _⟩
  ·split
   ·split
    ·exact⟨cW _,cW _⟩
    ·split
     ·exact⟨cW _,cW _⟩
     ·dsimp only;omega
   ·split
    ·exact⟨cW _,cW _⟩
    ·exact⟨by dsimp only;omega,cW _⟩
def iF(n:Nat)(l:δ PP):Prop:=∀p∈l,γ p.1<=n/\γ p.2.1<=n
variable {n:Nat}
theorem iF.snoc(h:iF n l)(p:PP)(d:γ p.1<=n)(c:γ p.2.1<=n):iF n (l++[p]):=λq b=>by
 rcases aV.1 b with a|a
 ·exact h q a
 ·rw[aG.1 a];exact⟨d,c⟩
theorem K6(st s:aC):∀f i l,iF (γ s) l->iF (γ s) (jB st s f i l).2.2
 |0,i,l,h=>h
 |f+1,i,l,h=>by
  rw[jB];split
  ·split
   ·have:=HA 1 l (sub s (i+1:Nat) (bP st s (i+1)));have b:=sub_le s (i+1:Nat) (bP st s (i+1));exact K6 st s f _ _ (h.snoc _ aA0 aA0)
   ·intro p a;cases a
  ·exact h
theorem R3(s:aC):∀f i l,iF (γ s) l->iF (γ s) (yT s f i l).2
 |0,i,l,h=>h
 |f+1,i,l,h=>by
  rw[yT];split
  ·split
   ·have:=HA 2 l (sub s (i+1:Nat) (bP [38] s (i+1)));have b:=sub_le s (i+1:Nat) (bP [38] s (i+1));exact R3 s f _ _ (h.snoc _ aA0 aA0)
   ·intro p a;cases a
  ·exact h
def rN(n:Nat)(u:UU):Prop:=γ u.1<=n/\γ u.2.1<=n/\γ u.2.2.1<=n/\iF n u.2.2.2.2.1/\iF n u.2.2.2.2.2
theorem CO(n:Nat):rN n iE:=⟨cW _,cW _,cW _,(λp a=>by cases a),(λp a=>by cases a)⟩
theorem Ov(h:iF n l):iF n (fU l):=λp a=>h p (tf l p a)
theorem zP(n:Nat)(st s b d h:aC)(c:Int)(i:Nat)(m:γ b<=n)(k:γ d<=n)(j:γ h<=n)(g:γ s<=n):rN n (wF st s b d h c i).2:=by
 have e:∀l,iF (γ s) l->iF n l:=λl f p a=>⟨oF (f p a).1 g,oF (f p a).2 g⟩;unfold wF;split
 ·split
  ·exact⟨m,k,j,Ov (e _ (K6 st s _ i [] (λp a=>by cases a))),Ov (e _ (R3 s _ _ [] (λp a=>by cases a)))⟩
  ·exact CO n
 ·exact CO n
theorem QV(s:aC)(i:Nat):γ (jV s i).2.1<=γ s+252:=by
 have b:=uM (sub s i (fY s i));have a:=sub_le s i (fY s i);unfold jV;split
 ·exact cW _
 ·split
  ·split
   ·dsimp only;omega
   ·exact cW _
  ·split
   ·exact cW _
   ·dsimp only;omega
theorem A9(U:aC):γ (mS U).2<=γ U:=by
 have:=tC 0 U;unfold mS;split
 ·exact cW _
 ·split
  ·exact cW _
  ·exact this
theorem PZ(s:aC)(i:Nat):γ (gC s i).2.1<=γ s/\γ (gC s i).2.2.1<=γ s+252:=by
 have b:=QV s i;have a:=QV s (bP [64] s i+1);have d:=A9 (sub s i (bP [64] s i));have c:=sub_le s i (bP [64] s i);unfold gC;split
 ·split
  ·exact⟨by dsimp only;omega,a⟩
  ·exact⟨cW _,cW _⟩
 ·exact⟨cW _,b⟩
theorem CW(s:aC)(i:Nat):γ (jX s i).2<=31:=by
 unfold jX;split
 ·exact cW _
 ·split
  ·exact cW _
  ·split
   ·exact cW _
   ·dsimp only;split
    ·rw[cN];omega
    ·omega
theorem Vg(s:aC):rN 1300 (Fp s).2:=by
 unfold Fp;split
 ·exact CO _
 ·have c:γ (cK (s.take (bP [58] s 0)))<=γ s:=by unfold cK;rw[Gf,jS];omega
  have b:=PZ s (bP [58] s 0+1);have a:=CW s (bP [58] s 0+1);split
  ·split
   ·split
    ·exact zP 1300 _ s _ _ _ _ _ aA0 aA0 aA0 aA0
    ·exact CO _
   ·split
    ·split
     ·exact zP 1300 _ s _ _ _ _ _ aA0 aA0 (cW _) aA0
     ·exact CO _
    ·exact CO _
  ·exact CO _
variable {u:UU}
theorem rN.sml(h:rN n u)(a:n<=4194304):uj u:=
 ⟨oF h.1 a,oF h.2.1 a,oF h.2.2.1 a,λp b=>⟨oF (h.2.2.2.1 p b).1 a,oF (h.2.2.2.1 p b).2 a⟩,λp b=>⟨oF (h.2.2.2.2 p b).1 a,oF (h.2.2.2.2 p b).2 a⟩⟩
theorem PX(u:UU)(b:Good u)(i:uj u):γ (ao u)<=2000000000:=by
 obtain⟨n,m,l,f,e⟩:=i;have p:=uF _ f;have o:=Pe _ e;have j:=b.pl;have k:=b.hl;have g:=Xm 0 u.2.1;have a:0<=u.2.2.2.1/\u.2.2.2.1<=65535:=by
  rcases b.qv with⟨_,_,d,c,_⟩|⟨_,_,h,_⟩
  ·exact⟨d,c⟩
  ·omega
 have hit:=bgf u.2.2.2.1 a.1 a.2;have d:γ (Ue u)<=12582913:=by
  unfold Ue;split
  ·omega
  ·split
   ·exact cW _
   ·rw[cG,eI];omega
 have c:γ (JB u.2.2.2.1)<=6:=by
  unfold JB;split
  ·exact cW _
  ·rw[cN];omega
 unfold ao;simp;omega
theorem Nc(s:aC):∀f i a,i<=γ s->γ a<=i->(∀x∈a,γ x<=γ s)->γ (kV s f i a).2.2<=γ s/\∀x∈(kV s f i a).2.2,γ x<=γ s
 |0,_,_,_,_,_=>⟨cW _,λx hx=>by cases hx⟩
 |f+1,i,a,c,d,hx=>by
  have k:=Ca cJ s i c;have g:=jL cJ s i;have j:=Ca bX s _ g;rw[kV];split
  ·exact⟨oF d c,hx⟩
  ·split
   ·exact⟨cW _,λx hx=>by cases hx⟩
   ·rename_i e;refine Nc s f _ _ (jL _ _ _) aB4 (λx b=> ?_);rcases aV.1 b with h|h
    ·exact hx x h
    ·rw[aG.1 h];exact sub_le _ _ _
theorem V9(s:aC)(c:γ s<=1024)(i:Nat)(e:i<=γ s):γ (pM s i).2.1<=1100000:=by
 unfold pM;split
 ·rename_i h;have:=zE s i (wM h).2 (wM h).1;split
  ·split
   ·dsimp only;omega
   ·exact cW _
  ·exact cW _
 ·split
  ·obtain⟨a,b⟩:=Nc s _ i [] e (cW _) (λx hx=>by cases hx);have d:=Z0 [32] (γ s) _ b;refine oF d ?_;refine oF (af (oF a c) (Nat.succ_le_succ c)) aA1
  ·exact cW _
theorem SN(s:aC):rN 1300 (fZ s).2.2.1/\γ (fZ s).2.1<=1100000/\iF 1300 (fZ s).2.2.2:=by
 have a:rN 1300 nE.2.1/\γ nE.1<=1100000/\iF 1300 nE.2.2:=⟨CO _,cW _,λp b=>by cases b⟩;unfold fZ;split
 ·exact a
 ·rename_i c;split
  ·split
   ·split
    ·refine⟨?_,V9 s aA0 _ (jL _ _ _), ?_⟩
     ·show rN 1300 (fQ s (pM s _).2.2).2.1;unfold fQ;split
      ·split
       ·exact CO _
       ·exact Vg _
      ·split
       ·exact CO _
       ·exact Vg _
     ·intro p b;have d:γ (s.drop (fQ s (pM s (bT bX s 0)).2.2).2.2)<=1024:=by rw[fB];omega
      have f:=bcf _ aA0 p b;have e:=Ab _ p b;exact⟨aA0,aA0⟩
    ·exact a
   ·exact a
  ·exact a
theorem dn(n:Nat):∀l k a,γ l<=n->0<=(fV l k a).2.1/\(fV l k a).2.1<=((k+γ l:Nat)):=by
 induction n with
 |zero=>intro l k a h;have:l=[]:=Je aA0;subst this;unfold fV;exact⟨by dsimp only;omega,by dsimp only;omega⟩
 |succ n b=>
  intro l k a h;cases l with
  |nil=>unfold fV;exact⟨by dsimp only;omega,by dsimp only;omega⟩
  |cons c l=>
   rw[cN]at h⊢;rw[mT];split
   ·exact⟨by dsimp only;omega,by dsimp only;omega⟩
   ·split
    ·split
     ·exact⟨by dsimp only;omega,by dsimp only;omega⟩
     ·split
      ·have e:γ (l.drop 1)=γ l-1:=fB;have:=b (l.drop 1) (k+2) (a++[at_ l 0]) aA0;have d:l≠[]:=by assumption
       have:=bL.2 d;omega
      ·exact⟨by dsimp only;omega,by dsimp only;omega⟩
    ·split
     ·exact⟨by dsimp only;omega,by dsimp only;omega⟩
     ·have:=b l (k+1) (a++[c]) aA0;omega
theorem B1(s:aC)(k:Nat)(a:k<=γ s):0<=(tK s k).2.1/\(tK s k).2.1<=γ s:=by
 unfold tK;split
 ·exact⟨by dsimp only;omega,by dsimp only;omega⟩
 ·split
  ·exact⟨by dsimp only;omega,by dsimp only;omega⟩
  ·rename_i h;have b:γ (s.drop (bH k+1))=γ s-(k+1):=by rw[lB,fB]
   have:=dn _ (s.drop (bH k+1)) (bH k+1) [] (dO _);omega
theorem dj(s:aC)(k:Nat)(c:k<=γ s):0<=(kC s k).2.1/\(kC s k).2.1<=γ s+1:=by
 have d:=jL cJ s k;have a:=Tp (λb=> !(b==93)) (s.drop k);rw[fB]at a;unfold kC;split
 ·have:=B1 s k c;omega
 ·split
  ·split
   ·exact⟨by dsimp only;omega,by dsimp only;omega⟩
   ·exact⟨by dsimp only;omega,by dsimp only;omega⟩
  ·split
   ·exact⟨by dsimp only;omega,by dsimp only;omega⟩
   ·exact⟨by dsimp only;omega,by dsimp only;omega⟩
theorem N8(s:aC)(b:Nat)(a:b<=γ s):0<=(yU s b).2.1/\(yU s b).2.1<=γ s+1:=by
 unfold yU;split
 ·exact⟨by dsimp only;omega,by dsimp only;omega⟩
 ·split
  ·exact⟨by dsimp only;omega,by dsimp only;omega⟩
  ·split
   ·exact⟨by dsimp only;omega,by dsimp only;omega⟩
   ·exact dj s _ (jL _ _ _)
theorem QB(s:aC):∀f l i,0<=(kH s f l i).2.1/\(kH s f l i).2.1<=γ s+1
 |0,_,_=>⟨by unfold kH;decide,by unfold kH;dsimp only;omega⟩
 |f+1,l,i=>by
  have a:=jL bX s (bT bX s i+1:Nat);rw[kH];split
  ·exact⟨by dsimp only;omega,by dsimp only;omega⟩
  ·split
   ·exact⟨by dsimp only;omega,by dsimp only;omega⟩
   ·split
    ·split
     ·exact QB s f _ _
     ·exact⟨by dsimp only;omega,by dsimp only;omega⟩
    ·exact N8 s _ a
theorem QA(s:aC)(a:γ s<=4194304):0<=(fR s).2.1/\(fR s).2.1<=γ s+1:=QB s _ _ _
theorem ij(s:aC)(y:γ s<=1024)(x:AA)(n:Nat):∀i d f b,γ s-i<=n->n<d->n<f->i<=γ s->γ b<=i->
  ∃j,afp FU x d b s i=θ j/\
   ((kV s f i b).1=0->j=.inl ((kV s f i b).2.2,s,((kV s f i b).2.1)))/\(¬(kV s f i b).1=0->∃a c w,j=.inr (a,(kV s f i b).1,c,w)):=by
 induction n with
 |zero=>
  intro i d f b u v o k t;obtain⟨d,rfl⟩:=bV d;obtain⟨f,rfl⟩:∃m,f=m+1:=⟨f-1,aA0⟩;obtain rfl:i=γ s:=aA0;have l:cR s (γ s) 60=ν:=by unfold cR;rw[aE aA0];rfl
  have e:bT cJ s (γ s:Int)=γ s:=Us _ _;rw[aow,afj,JH,l,tX s aA0 _ (dO _),e,Z4];have g:kV s (f+1) (γ s) b=(5,0,[]):=by rw[kV,l,aA aA1,aB e]
  rw[g];exact⟨_,rfl,λh=>absurd h (show¬(5:ζ)=0 by decide),λ_=>⟨_,_,_,rfl⟩⟩
 |succ n r=>
  intro i d f b u v o k t;obtain⟨d,rfl⟩:=bV d;obtain⟨f,rfl⟩:∃m,f=m+1:=⟨f-1,aA0⟩;have q:=Ca cJ s i k;have p:=jL cJ s (i:Int);have z:=Ca bX s (bT cJ s (i:Int)) p;rw[aow,afj,JH,aR];cases l:cR s i 60 with
  |true=>
   have g:kV s (f+1) i b=(0,i,b):=by rw[kV,l,aB rfl]
   rw[g];exact⟨_,rfl,λ_=>rfl,λh=>absurd rfl h⟩
  |false=>
   rw[tX s aA0 i k,aR];by_cases e:bT cJ s (i:Int)=i
   ·have g:kV s (f+1) i b=(5,0,[]):=by rw[kV,l,aA aA1,aB e]
    rw[aB ((bbz s i _ p q).2 e),g];exact⟨_,rfl,λh=>absurd h (show¬(5:ζ)=0 by decide),λ_=>⟨_,_,_,rfl⟩⟩
   ·have g:kV s (f+1) i b=kV s f (bT bX s ((bT cJ s (i:Int):Nat):Int)) (b++[sub s (i:Int) ((bT cJ s (i:Int):Nat):Int)]):=by rw[kV,l,aA aA1,aA e]
    rw[aA (λh=>e ((bbz s i _ p q).1 h)),aS aC3,ti s aA0,g];exact r _ d f _ aA0 aA0 aA0 (jL _ _ _) aB4
theorem UW(s:aC)(f:γ s<=1024)(i:Nat)(g:i<=γ s):∃a c w,aea FU (s,i) ([],iE,[])=θ (a,(kV s (γ s+1) i []).1,c,w)/\
  ((kV s (γ s+1) i []).1=0->c=(s,((kV s (γ s+1) i []).2.1:Int))/\w=(cY (kV s (γ s+1) i []).2.2 [32],iE,[])):=by
 obtain⟨j,e,n,m⟩:=ij s f _ (γ s) i FU (γ s+1) [] aA0 aA4 aA0 g (cW _);unfold aea;rw[e,aR];by_cases d:(kV s (γ s+1) i []).1=0
 ·rw[n d,kA];obtain⟨a,b⟩:=Nc s _ i [] g (cW _) (λx hx=>by cases hx);have l:=Z0 [32] (γ s) _ b;rw[eI]at l;have k:γ (kV s (γ s+1) i []).2.2*(γ s+1)<=1024*1025:=af (oF a f) (Nat.succ_le_succ f);dsimp only;rw[aS (by constructor<;>omega),d];exact⟨_,_,_,rfl,λ_=>⟨rfl,rfl⟩⟩
 ·obtain⟨a,c,w,o⟩:=m d;rw[o];exact⟨_,_,_,rfl,λh=>absurd h d⟩
theorem vp(s:aC)(y:γ s<=1024)(i:Nat)(o:i<=γ s)(d:aC):∃a c w,ahl FU (s,i) (d,iE,[])=θ (a,(fQ s i).1,c,w)/\((fQ s i).1=0->c=(s,((fQ s i).2.2:Int))/\w=(d,(fQ s i).2.1,[])/\(fQ s i).2.2<=γ s):=by
 have n:∀(b e k:Nat),b<=e->e<=γ s->k<=γ s->k<=1025->∃a c w,(gd (0<=(b:Int)/\(b:Int)<=(e:Int)/\(e:Int)<=(γ s:Int))<|((avl FU (sub s (b:Int) (e:Int))).bind λ(f:UU×Int×ζ)=>(if f.2.2=(0:ζ)then θ ((0:Int),(0:ζ),(s,(k:Int)),(d,f.1,([]:δ PP)))else(gd (bK (b+f.2.1))<|some (b+f.2.1,f.2.2,(s,i),(d,iE,[]))))))=θ (a,(Fp (sub s b e)).1,c,w)/\((Fp (sub s b e)).1=0->c=(s,(k:Int))/\w=(d,(Fp (sub s b e)).2,[])/\k<=γ s):=by
  intro b e k z l t r;obtain⟨a,v,u,x⟩:=L0 _;rw[aS aA0,x,aR];dsimp only;by_cases p:(Fp (sub s b e)).1=0
  ·rw[p];exact⟨_,_,_,rfl,λ_=>⟨rfl,rfl,t⟩⟩
  ·rw[aA p,aS (cA _ aA0 aA0)];exact⟨_,_,_,rfl,λh=>absurd h p⟩
 unfold ahl fQ;rw[JH,aR];dsimp only;cases q:cR s i 60 with
 |true=>
  have m:=(wM q).1;have j:=Kf [62] s (i+1);have g:=Fs [62] s (i+1) m;rw[aS (cA _ aA0 aA0),lZ,nl s aA0 (i+1) m _ aA1 aA1,aR];by_cases l:bP [62] s (i+1)=γ s
  ·rw[aB aA0,aB l];exact⟨_,_,_,rfl,λh=>absurd h (show¬(5:ζ)=0 by decide)⟩
  ·rw[aA aA0,aA l,aS (cA _ aA0 aA0)];exact n (i+1) (bP [62] s (i+1)) (bP [62] s (i+1)+1) j g aA0 aA0
 |false=>
  have j:=Kf [59,32,9] s i;have g:=Fs [59,32,9] s i o;rw[nl s aA0 i o _ aA1 aA1,aR,nl s aA0 i o _ aA1 aA1,aR];by_cases l:bP [63,44] s i<bP [59,32,9] s i
  ·rw[aB aA0,aB l];exact⟨_,_,_,rfl,λh=>absurd h (show¬5=0 by decide)⟩
  ·rw[aA aA0,aA l];exact n i _ _ j g g aA0
theorem MJ(s:aC):Lib.contains s [60]=fT s 60:=pJ s 60
theorem Zt(s:aC):∃a,amj FU s=θ ((fZ s).2,a,(fZ s).1):=by
 unfold amj fZ;by_cases r:1024<γ s
 ·rw[aB aA0,aB r];exact⟨_,rfl⟩
 ·rw[aA aA0,aA r,ti s aA0,aR];have m:=jL bX s 0;generalize bT bX s 0=b at m⊢;have j:∃a c w,((((Is FU (s,(b:Int)) (34:ζ)).bind λ(l:η)=>(bif l then((ahm FU (s,(b:Int)) (([]:aC),(([]:aC),([]:aC),([]:aC),(0:Int),([]:δ PP),([]:δ PP)),([]:δ PP))).bind λ(f:(Int×ζ×(aC×Int)×AA))=>θ (f.1,f.2.1,f.2.2.1.1,f.2.2.1.2,f.2.2.2.1,f.2.2.2.2.1.1,f.2.2.2.2.1.2.1,f.2.2.2.2.1.2.2.1,f.2.2.2.2.1.2.2.2.1,f.2.2.2.2.1.2.2.2.2.1,f.2.2.2.2.1.2.2.2.2.2,f.2.2.2.2.2))else(gd (γ s<=1000000000)<|(bif (Lib.contains s ([60]:aC))then((aea FU (s,(b:Int)) (([]:aC),(([]:aC),([]:aC),([]:aC),(0:Int),([]:δ PP),([]:δ PP)),([]:δ PP))).bind λ(d:(Int×ζ×(aC×Int)×AA))=>θ (d.1,d.2.1,d.2.2.1.1,d.2.2.1.2,d.2.2.2.1,d.2.2.2.2.1.1,d.2.2.2.2.1.2.1,d.2.2.2.2.1.2.2.1,d.2.2.2.2.1.2.2.2.1,d.2.2.2.2.1.2.2.2.2.1,d.2.2.2.2.1.2.2.2.2.2,d.2.2.2.2.2))else θ ((0:Int),(0:ζ),s,(b:Int),([]:aC),([]:aC),([]:aC),([]:aC),(0:Int),([]:δ PP),([]:δ PP),([]:δ PP))))))):ε (Int×ζ×aC×Int×aC×aC×aC×aC×Int×(δ PP)×(δ PP)×(δ PP)))
    =θ (a,(pM s b).1,c,w)/\((pM s b).1=0->c=s/\w=(((pM s b).2.2:Int),(pM s b).2.1,[],[],[],0,[],[],[])):=by
   have i:=HM s b m;rw[JH,aR];unfold pM at i⊢;cases v:cR s b 34 with
   |true=>
    rw[v]at i;rw[aM];unfold ahm;dsimp only;rw[wU s aA0,aR];by_cases g:(tK s (b:Int)).2.2=0
    ·rw[aB g]at i;rw[aB g,aB g,ti s aA0,aR,JH,aR];cases p:cR s (bT bX s (tK s (b:Int)).2.1) 60 with
     |true=>rw[gL];exact⟨_,_,_,rfl,λ_=>⟨rfl,rfl⟩⟩
     |false=>rw[vP];exact⟨_,_,_,rfl,λh=>absurd h (show¬(5:ζ)=0 by decide)⟩
    ·rw[aA g,aA g];exact⟨_,_,_,rfl,λh=>absurd h g⟩
   |false=>
    rw[aS aA0,MJ];cases p:fT s 60 with
    |true=>obtain⟨a,c,w,e,h⟩:=UW s aA0 b m;rw[aM];have e':aea FU (s,(b:Int)) (([]:aC),(([]:aC),([]:aC),([]:aC),(0:Int),([]:δ PP),([]:δ PP)),([]:δ PP))=θ (a,(kV s (γ s+1) b []).1,c,w):=e;rw[e'];refine⟨_,_,_,rfl,λg=> ?_⟩;obtain⟨rfl,rfl⟩:=h g;exact⟨rfl,rfl⟩
    |false=>exact⟨_,_,_,rfl,λ_=>⟨rfl,rfl⟩⟩
  obtain⟨a,c,w,e,h⟩:=j;have i:=HM s b m;rw[e,aR];generalize pM s b=D at h i⊢;by_cases g:D.1=0
  ·obtain⟨rfl,rfl⟩:=h g;rw[aB g,aB g];obtain⟨A,z,u,y,t⟩:=vp c aA0 D.2.2 i D.2.1;have q:ahl FU (c,(D.2.2:Int)) (D.2.1,(([]:aC),([]:aC),([]:aC),(0:Int),([]:δ PP),([]:δ PP)),([]:δ PP))=θ (A,(fQ c D.2.2).1,z,u):=y;rw[q,aR,aR];dsimp only;generalize fQ c D.2.2=G at t⊢;by_cases k:G.1=0
   ·obtain⟨rfl,rfl,B⟩:=t k;rw[aB k,aB k];obtain⟨x,o⟩:=QA (c.drop G.2.2) aB6;rw[aS aA0,lB,Dq _ aB6,aR,aS (cA _ aA0 (by rw[fB]at o;omega)),aR];by_cases n:(fR (c.drop G.2.2)).2.2=0
    ·rw[aB n,aB n];exact⟨_,rfl⟩
    ·rw[aA n,aA n];exact⟨_,rfl⟩
   ·rw[aA k,aA k,aR];rw[aA k];exact⟨_,rfl⟩
  ·rw[aA g,aA g,aR];rw[aA g,aR];rw[aA g];exact⟨_,rfl⟩
theorem Zm(a:AA)(g:Good a.2.1)(f:uj a.2.1)(o:γ a.1<=4194304)(n:γ a.2.2<20)(q:∀p∈a.2.2,γ p.1<=4194304/\γ p.2.1<=4194304):ami FU a=θ (xm a):=by
 have c:∀p∈fU a.2.2,γ p.1<=4194304/\γ p.2.1<=4194304:=λp m=>q p (tf _ p m);have j:=PX a.2.1 g f;have l:=uE (fU a.2.2) c;have k:=bkn a.1;unfold ami xm;rw[Mk _ o,aR];cases i:a.1.any eJ with
 |true=>
  have e:xD a.1=([],5):=by unfold xD;rw[i,aB rfl]
  rw[e,aA (show¬(5:ζ)=0 by decide),aA (λh=>absurd h.1 aA1)]
 |false=>
  have e:xD a.1=(Zh a.1,0):=by unfold xD;rw[i,aA aA1]
  rw[e,aB rfl,K0 _ g f,aR,aB rfl,pL _ n,aR,bil _ c,aR];dsimp only;by_cases d:(rZ (fU a.2.2)).2=0
  ·rw[aB d,aB (show ν=ν/\(rZ _).2=0 from⟨rfl,d⟩)];unfold dsT;by_cases b:a.1=[]
   ·rw[aB b,aB b,aS aC3,aS aA2,aS aA2];simp
   ·have r:[32,60].length=2:=rfl;rw[aA b,aA b,aS aA0,aS aC9,aS aA2,aS aA2];simp
  ·rw[aA d,aA (λh=>d h.2)]
theorem R6(v:aC)(b:γ v<=4194304):ayh FU v=θ ((fZ (cT v)).2,(fZ (cT v)).1):=by obtain⟨a,e⟩:=Zt _;unfold ayh;rw[lP v b,aR,e,aR]
open Go.Lib renaming indexAny → Cr
theorem Ah(s:aC)(f:γ s<=4194304):aqm FU s=θ (xZ s):=by
 have a:Cr s [32,9]=dN bX s:=by rw[azk,Fj]
 unfold aqm xZ;rw[aS ⟨aA0,aA1,aA1⟩,a];have e:(if dN bX s<(0:Int)then θ (γ s:Int)else θ (dN bX s))=θ ((cI (λc=> !bX c) s:Nat):Int):=by
  rcases nk bX s with⟨i,b⟩|⟨i,b,h⟩
  ·rw[aB aA0,b]
  ·rw[aA aA0,h]
 have d:=Tp (λc=> !bX c) s;have g:=jL bX s ((cI (λc=> !bX c) s:Nat):Int);rw[e,aR,aS aA0,lB,uH,aR,uV s f,aR,aS aA0,lB]
theorem bjh(s:aC):γ (xZ s).2.1<=γ s:=by unfold xZ;rw[fB];omega
theorem HT(v:aC)(a:γ v<=4194304):bbk FU v=θ (Kc v):=by
 have b:=BZ v;have c:=bjh (cT v);unfold bbk Kc;rw[lP v a,aR,Ah _ aA0,aR];by_cases h:(xZ (cT v)).2.2=0
 ·rw[aB h,aB h,te _ aA0,aR];cases d:iH (xZ (cT v)).2.1 with
  |true=>rw[gL,aH,aB rfl]
  |false=>rw[vP,aM,aA aA1]
 ·rw[aA h,aA h]
theorem I8(v:aC)(b:γ v<=4194304):bfk FU v=θ (Xi v):=by
 have c:=BZ v;have d:=bjh (cT v);unfold bfk Xi;rw[lP v b,aR,Ah _ aA0,aR];by_cases h:(xZ (cT v)).2.2=0
 ·rw[aB h,aB h,HT _ aA0,aR];by_cases a:(Kc (xZ (cT v)).2.1).2.2=0
  ·rw[aB a,aB a]
  ·rw[aA a,aA a]
 ·rw[aA h,aA h]
theorem Q8(v:aC)(a:γ v<=4194304):bbj FU v=θ (eV (cT v)):=by unfold bbj;rw[lP v a,aR,uH,aR]
open List renaming length → aL, set → kZ
def pN(c:aC):Int:=(tx FU c).getD 0
theorem jo:∀x∈vI,tx FU x.1=θ (pN x.1):=aA5
theorem jq(c:aC):tx FU c=θ (pN c):=by
 by_cases h:∃x∈vI,x.1=c
 ·obtain⟨x,hx,rfl⟩:=h;exact jo x hx
 ·have a:∀x∈vI,x.1≠c:=λx hx e=>h ⟨x,hx,e⟩;have:=Nk c a;unfold pN;rw[this];rfl
theorem Yj(n:Nat):∀l:δ PP,iF n l->Sa l<=aL l*(2*n)
 |[],_=>cW _
 |p::l,h=>by have c:=h p gK;have b:=Yj n l (λq a=>h q (eU _ a));rw[mV,cN,iL];omega
theorem Vh(n:Nat):∀l:δ PP,iF n l->γ (kG l)<=aL l*(6*n+2)
 |[],_=>cW _
 |p::l,h=>by
  have e:=h p gK;have d:=Vh n l (λq a=>h q (eU _ a));have g:=Xm 1 p.1;have f:=Xm 1 p.2.1;have b:kG (p::l)=59::(Zu p++kG l):=by unfold kG;rfl
  have c:γ (Zu p)<=6*n+1:=by
   unfold Zu;rw[cG];cases p.2.2 with
   |true=>rw[aM,cN];omega
   |false=>rw[aH,iP];omega
  rw[b,cN,cG,cN,iL];omega
theorem GI(n:Nat):∀l:δ PP,iF n l->γ (vE l)<=aL l*(6*n+2)
 |[],_=>cW _
 |p::l,h=>by
  have e:=h p gK;have d:=GI n l (λq a=>h q (eU _ a));have g:=Xm 2 p.1;have f:=Xm 2 p.2.1;have b:vE (p::l)=38::(Ew p++vE l):=by unfold vE;rfl
  have c:γ (Ew p)<=6*n+1:=by unfold Ew;rw[cG,cN];omega
  rw[b,cN,cG,cN,iL];omega
theorem WA(n:Nat)(l:δ PP)(h:iF n l):γ (Td l)<=aL l*(6*n+2):=by
 have:=GI n l h;cases l with
 |nil=>exact cW _
 |cons p l=>exact this
theorem K1(n:Nat)(u:UU)(b:Good u)(h:rN n u):γ (ao u)<=197*n+80:=by
 obtain⟨k,j,i,f,e⟩:=h;have p:=Vh n _ f;have o:=WA n _ e;have g:=Xm 0 u.2.1;have a:0<=u.2.2.2.1/\u.2.2.2.1<=65535:=by
  rcases b.qv with⟨_,_,d,c,_⟩|⟨_,_,h,_⟩
  ·exact⟨d,c⟩
  ·omega
 have hit:=bgf u.2.2.2.1 a.1 a.2;have m:aL u.2.2.2.2.1*(6*n+2)<=16*(6*n+2):=YL _ b.pl;have l:aL u.2.2.2.2.2*(6*n+2)<=16*(6*n+2):=YL _ b.hl;have d:γ (Ue u)<=3*n+1:=by
  unfold Ue;split
  ·omega
  ·split
   ·exact cW _
   ·rw[cG,eI];omega
 have c:γ (JB u.2.2.2.1)<=6:=by
  unfold JB;split
  ·exact cW _
  ·rw[cN];omega
 unfold ao;simp;omega
theorem Mq(s:aC):rN (aL s+252) (Fp s).2:=by
 unfold Fp;split
 ·exact CO _
 ·have c:γ (cK (s.take (bP [58] s 0)))<=aL s:=by unfold cK;rw[Gf,jS];omega
  have b:=PZ s (bP [58] s 0+1);have a:=CW s (bP [58] s 0+1);split
  ·split
   ·split
    ·exact zP _ _ s _ _ _ _ _ aA0 aA0 aA0 aA0
    ·exact CO _
   ·split
    ·split
     ·exact zP _ _ s _ _ _ _ _ aA0 aA0 (cW _) aA0
     ·exact CO _
    ·exact CO _
  ·exact CO _
theorem rN.mono{n m:Nat}(h:rN n u)(a:n<=m):rN m u:=
 ⟨oF h.1 a,oF h.2.1 a,oF h.2.2.1 a,λp b=>⟨oF (h.2.2.2.1 p b).1 a,oF (h.2.2.2.1 p b).2 a⟩,λp b=>⟨oF (h.2.2.2.2 p b).1 a,oF (h.2.2.2.2 p b).2 a⟩⟩
theorem Nb(s:aC):∀f i (a:δ aC),i<=aL s->γ (cY a [32])<=2*i->γ (cY (kV s f i a).2.2 [32])<=2*aL s
 |0,_,_,_,_=>cW _
 |f+1,i,a,d,g=>by
  have j:=Ca cJ s i d;have e:=jL cJ s i;have h:=Ca bX s _ e;rw[kV];split
  ·dsimp only;omega
  ·split
   ·exact cW _
   ·rename_i c;have b:γ (sub s i ((bT cJ s i):Int))=bT cJ s i-i:=by rw[Hr];omega
    refine Nb s f _ _ (jL _ _ _) ?_;rw[Oq];split
    ·omega
    ·rw[cG,cG,eI];omega
theorem WV(s:aC)(i:Nat)(a:i<=aL s):γ (pM s i).2.1<=2*aL s:=by
 unfold pM;split
 ·rename_i h;have:=zE s i (wM h).2 (wM h).1;split
  ·split
   ·dsimp only;omega
   ·exact cW _
  ·exact cW _
 ·split
  ·exact Nb s _ i [] a (cW _)
  ·exact cW _
theorem z6(s:aC):rN (aL s+252) (fZ s).2.2.1/\γ (fZ s).2.1<=2*aL s/\iF (aL s+252) (fZ s).2.2.2:=by
 have a:rN (aL s+252) nE.2.1/\γ nE.1<=2*aL s/\iF (aL s+252) nE.2.2:=⟨CO _,cW _,λp b=>by cases b⟩;unfold fZ;split
 ·exact a
 ·rename_i c;split
  ·split
   ·split
    ·refine⟨?_,WV s _ (jL _ _ _), ?_⟩
     ·show rN _ (fQ s (pM s _).2.2).2.1;generalize(pM s _).2.2=j;unfold fQ;split
      ·split
       ·exact CO _
       ·exact(Mq _).mono (by have:=sub_le s (j+1:Nat) (bP [62] s (j+1));omega)
      ·split
       ·exact CO _
       ·exact(Mq _).mono (by have:=sub_le s j (bP [59,32,9] s j);omega)
     ·intro p b;have d:γ (s.drop (fQ s (pM s (bT bX s 0)).2.2).2.2)<=aL s:=by rw[fB];omega
      have f:=bcf _ aA0 p b;have e:=Ab _ p b;exact⟨aA0,aA0⟩
    ·exact a
   ·exact a
  ·exact a
theorem gp(n:Nat)(a:AA)(b:Good a.2.1)(e:rN n a.2.1)(f:aL a.1<=2*n)(d:iF n a.2.2)(c:aL a.2.2<=16):γ (xm a).1<=265*n+200:=by
 have m:=K1 n a.2.1 b e;have l:=bkn a.1;have k:=Mm (fU a.2.2);have j:=Kz (bf a.2.2);have i:=Yj n a.2.2 d;have h:aL a.2.2*(2*n)<=16*(2*n):=YL _ c;have g:γ (dsT a.1)<=4*n+3:=by
  unfold dsT;split
  ·exact cW _
  ·rw[cG,eI];omega
 unfold xm;split
 ·simp;omega
 ·exact cW _
theorem JU(v:aC)(q:aL v<=4194304):γ (mD v).1.1<=aL v/\γ (mD v).1.2.1<=aL v+252/\γ (mD v).1.2.2.2.1<=aL v+252/\iF (aL v+252) (mD v).1.2.2.2.2:=by
 have e:aL rH.1<=aL v/\γ rH.2.1<=aL v+252/\γ rH.2.2.2.1<=aL v+252/\iF (aL v+252) rH.2.2.2.2:=⟨cW _,cW _,cW _,λp g=>by cases g⟩
 have r:=BZ v;have l:∀(f h) d c,aL f<=aL v->aL h<=aL v+252->aL c<=aL v->γ (wT f h d c).1.1<=aL v/\γ (wT f h d c).1.2.1<=aL v+252/\γ (wT f h d c).1.2.2.2.1<=aL v+252/\iF (aL v+252) (wT f h d c).1.2.2.2.2:=by
  intro f h d c o n w;have j:iF (aL v+252) (fR c).1:=λp g=>by have a:=bcf c aA0 p g;have b:=Ab c p g;exact⟨aA0,aA0⟩
  unfold wT;split
  ·refine⟨o,n, ?_,j⟩;unfold Il;split
   ·rename_i p g;exact(j p (List.mem_of_find?_eq_some g)).2
   ·exact cW _
  ·exact e
 unfold mD;split
 ·exact e
 ·split
  ·exact e
  ·split
   ·exact e
   ·split
    ·exact e
    ·have i:γ (Xk (sub (cT v) 8 (bT cJ (cT v) 8)))<=aL v:=by have:=sub_le (cT v) 8 (bT cJ (cT v) 8);rw[oQ];omega
     have m:∀P c:aC,aL P<=aL v->aL c<=aL v->γ (Cz (Xk (sub (cT v) 8 (bT cJ (cT v) 8))) P c).1.1<=aL v/\γ (Cz (Xk (sub (cT v) 8 (bT cJ (cT v) 8))) P c).1.2.1<=aL v+252/\γ (Cz (Xk (sub (cT v) 8 (bT cJ (cT v) 8))) P c).1.2.2.2.1<=aL v+252/\iF (aL v+252) (Cz (Xk (sub (cT v) 8 (bT cJ (cT v) 8))) P c).1.2.2.2.2:=by
      intro P c u k;have s:=uM (jE P).1;have t:=(HR P).1;unfold Cz;split
      ·exact e
      ·split
       ·split
        ·exact l _ _ _ _ i aA0 k
        ·exact e
       ·exact l _ _ _ _ i aA0 k
     refine m _ _ ?_ ?_
     ·rw[jS,fB];omega
     ·rw[fB,fB];omega
theorem AR(v:aC)(d:aL v<=4194304):γ (BT v).1.1<=aL v/\iF (aL v+252) (BT v).1.2:=by
 have e:=BZ v;unfold BT;split
 ·exact⟨cW _,λp c=>by cases c⟩
 ·split
  ·refine⟨by dsimp only;rw[jS];omega,λp c=> ?_⟩;have f:γ ((cT v).drop (kK (cT v)))<=aL v:=aB6;have a:=bcf _ aA0 p c;have b:=Ab _ p c;exact⟨aA0,aA0⟩
  ·exact⟨cW _,λp c=>by cases c⟩
theorem bb(n:Int)(a:0<=n)(h:n<=2147483647):γ (gM n)<=10:=(P4 n a h).2.2.1
theorem Bt(v:aC):0<=(Kc v).1/\(Kc v).1<=2147483647/\γ (Kc v).2.1<=aL v:=by
 have a:=QE (cT v);have c:=bjh (cT v);have b:=BZ v;unfold Kc;split
 ·split
  ·exact⟨a.1,a.2,by dsimp only;omega⟩
  ·exact⟨qJ 0,(show 0<=2147483647 by decide),cW _⟩
 ·exact⟨qJ 0,(show 0<=2147483647 by decide),cW _⟩
theorem Mi(v:aC):(0<=(Xi v).1/\(Xi v).1<=2147483647)/\(0<=(Xi v).2.1/\(Xi v).2.1<=2147483647)/\γ (Xi v).2.2.1<=aL v:=by
 have b:=QE (cT v);have a:=Bt (xZ (cT v)).2.1;have d:=bjh (cT v);have c:=BZ v;unfold Xi;generalize Kc (xZ _).2.1=C at a⊢;split
 ·split
  ·exact⟨b,⟨a.1,a.2.1⟩,by dsimp only;omega⟩
  ·exact⟨⟨qJ 0,(show 0<=2147483647 by decide)⟩,⟨qJ 0,(show 0<=2147483647 by decide)⟩,cW _⟩
 ·exact⟨⟨qJ 0,(show 0<=2147483647 by decide)⟩,⟨qJ 0,(show 0<=2147483647 by decide)⟩,cW _⟩
theorem Yi(k:Int)(ct:η)(v:aC)(r:aL v<=4194000):γ (Jj k ct v).1<=265*aL v+80000:=by
 have s:=BZ v;have z:∀e:ζ,γ (([]:aC),e).1<=265*aL v+80000:=λe=>cW _;unfold Jj;split
 ·split
  ·show 1<=_;omega
  ·split
   ·rename_i j;obtain⟨m,l,_⟩:=Qv _ j;obtain⟨p,u,o⟩:=z6 _;have:=gp _ _ m p aA0 o l;omega
   ·exact z _
 ·split
  ·split
   ·obtain⟨v1,h,q,v4⟩:=JU v aA0;have a:=UT (mD v).1;have b:=Yj _ _ v4;have c:=Kr v;have d:γ (mD v).1.2.2.2.2*(2*(aL v+252))<=16*(2*(aL v+252)):=YL _ c;omega
   ·exact z _
  ·split
   ·split
    ·obtain⟨g,f,i⟩:=Bt v;have:=bb _ g f;simp;omega
    ·exact z _
   ·split
    ·split
     ·obtain⟨⟨g,f⟩,⟨i,n⟩,t⟩:=Mi v;have:=bb _ g f;have:=bb _ i n;simp;omega
     ·exact z _
    ·split
     ·split
      ·obtain⟨g,f⟩:=Jq (cT v);have:=bb _ g f;dsimp only;omega
      ·exact z _
     ·split
      ·split
       ·obtain⟨v1,h⟩:=AR v aA0;have a:=KW (BT v).1;have b:=Yj _ _ h;have c:=Er v;have d:γ (BT v).1.2*(2*(aL v+252))<=16*(2*(aL v+252)):=YL _ c;omega
       ·exact z _
      ·split
       ·exact z _
       ·dsimp only;omega
def Sb(l:δ aC):Nat:=(l.map aL).sum
theorem nz(x:aC)(l:δ aC):Sb (x::l)=aL x+Sb l:=rfl
theorem FV:∀(l:δ aC),γ (cY l [44,32])<=Sb l+2*aL l
 |[]=>cW _
 |[a]=>by rw[jn1,nz];omega
 |a::b::l=>by have:=FV (b::l);rw[jn2,nz];simp at this⊢;omega
theorem OH(k:Int)(ct:η):∀l:δ aC,(∀x∈l,aL x<=4194000)->Sb (yR k ct l).1<=265*Sb l+80000*aL l
 |[],_=>cW _
 |x::l,h=>by
  have c:=Yi k ct x (h x gK);have b:=OH k ct l (λy a=>h y (eU _ a));rw[yR,nz,cN];split
  ·split
   ·rw[nz];omega
   ·exact cW _
  ·exact cW _
theorem kE:∀s m a l,fA m a s=.inl l->Sb l<=aL a+aL s/\γ l<=aL s+1
 |[],0,a,l,h=>by have:=ae h;subst this;have:=BZ a;exact⟨by rw[nz];show _+0<=_;omega,aA3⟩
 |[],m+1,a,l,h=>by cases h
 |c::s,0,a,l,h=>by
  have b:γ (a++[c])=aL a+1:=aA3;rw[s0c]at h;rw[cN];split at h
  ·have:=kE s _ _ l h;omega
  ·split at h
   ·have:=kE s _ _ l h;omega
   ·split at h
    ·cases h
    ·split at h
     ·obtain⟨m,d,rfl⟩:=Xb h;have:=kE s _ _ m d;have:=BZ a;rw[nz];simp at*
      omega
     ·have:=kE s _ _ l h;omega
 |c::s,1,a,l,h=>by
  have b:γ (a++[c])=aL a+1:=aA3;rw[s1c]at h;rw[cN];split at h
  ·have:=kE s _ _ l h;omega
  ·split at h
   ·have:=kE s _ _ l h;omega
   ·split at h
    ·cases h
    ·have:=kE s _ _ l h;omega
 |c::s,2,a,l,h=>by
  have b:γ (a++[c])=aL a+1:=aA3;rw[s2c]at h;rw[cN];split at h
  ·have:=kE s _ _ l h;omega
  ·cases h
 |c::s,m+3,a,l,h=>by
  have b:γ (a++[c])=aL a+1:=aA3;rw[s3c]at h;rw[cN];split at h
  ·have:=kE s _ _ l h;omega
  ·have:=kE s _ _ l h;omega
theorem EZ(v:aC):Sb (jC v).1<=aL v/\γ (jC v).1<=aL v+1:=by
 unfold jC;cases a:fA 0 [] v with
 |inr e=>exact⟨cW _,cW _⟩
 |inl l=>
  have:=kE v 0 [] l a;dsimp only;split
  ·exact⟨cW _,cW _⟩
  ·dsimp only;simp at this;omega
theorem Ld:∀l,∀x∈l,aL x<=Sb l
 |[],x,hx=>by cases hx
 |a::l,x,hx=>by
  rw[nz];rcases aQ.1 hx with h|h
  ·rw[h];omega
  ·have:=Ld l x h;omega
def CONT:aC:=[67,111,110,116,97,99,116]
def qS(c:aC):η:=decide (c=CONT)
theorem CV(c v:aC)(C:aL v<=4190000):bbh FU c v=θ (Jj (pN c) (qS c) v):=by
 unfold bbh Jj;rw[jq,aR];generalize pN c=k;by_cases m:k=1
 ·rw[aB m,aB m];have e:(if c=([67,111,110,116,97,99,116]:aC)then((YD FU v).bind λ(d:aC)=>θ (decide (d=([42]:aC))))else θ ν)=θ (decide (qS c=μ/\cT v=[42])):=by
   unfold qS;by_cases o:c=CONT
   ·rw[aB (show c=([67,111,110,116,97,99,116]:aC)from o),lP v aA0,aR,aD o];congr 1;rw[bZ];exact⟨λh=>⟨rfl,h⟩,λh=>h.2⟩
   ·rw[aA (show¬c=([67,111,110,116,97,99,116]:aC)from o),aE o,aE (λh=>absurd h.1 aA1)]
  rw[e,aR];by_cases n:qS c=μ/\cT v=[42]
  ·rw[aD n,aM,aB n]
  ·rw[aE n,aH,aA n,R6 v aA0,aR];dsimp only;by_cases a:(fZ (cT v)).1=0
   ·obtain⟨x,G,F⟩:=Qv _ a;obtain⟨A,I,z⟩:=SN (cT v);rw[aB a,aB a,Zm _ x (A.sml aA1) aA0 aA0 (λp f=>by have:=z p f;omega),aR]
   ·rw[aA a,aA a]
 ·rw[aA m,aA m];by_cases l:k=2
  ·rw[aB l,aB l,vh v aA0,aR];by_cases a:(mD v).2=0
   ·obtain⟨v1,s,B,v4⟩:=JU v aA0;have u:=Kr v;rw[aB a,aB a,EI _ aA0 aA0 aA0 (λp f=>by have:=v4 p f;omega) aA0,aR]
   ·rw[aA a,aA a]
  ·rw[aA l,aA l];by_cases j:k=3
   ·obtain⟨r,q,t⟩:=Bt v;have w:=bb _ r q;rw[aB j,aB j,HT v aA0,aR];by_cases a:(Kc v).2.2=0
    ·rw[aB a,aB a,aS (cA _ aA0 aA0),aS aC3,aS aB4,gZ];rfl
    ·rw[aA a,aA a]
   ·rw[aA j,aA j];by_cases i:k=4
    ·obtain⟨⟨r,q⟩,⟨t,y⟩,H⟩:=Mi v;have w:=bb _ r q;have E:=bb _ t y;rw[aB i,aB i,I8 v aA0,aR];by_cases a:(Xi v).2.2.2=0
     ·rw[aB a,aB a,aS (cA _ aA0 aA0),aS aC3,aS (cA _ aA0 aA0),aS aB4,aS aA2,aS aA2];simp
     ·rw[aA a,aA a]
    ·rw[aA i,aA i];by_cases g:k=5
     ·obtain⟨r,q⟩:=Jq (cT v);rw[aB g,aB g,Q8 v aA0,aR];by_cases a:(eV (cT v)).2=0
      ·rw[aB a,aB a,aS (cA _ aA0 aA0)]
      ·rw[aA a,aA a]
     ·rw[aA g,aA g];have e:(if k=(6:Int)then θ (decide (k=(6:Int)))else θ (decide (k=(7:Int))))=θ (decide (k=6\/k=7)):=by
       by_cases b:k=6
       ·rw[aB b,aD b,aD (.inl b)]
       ·rw[aA b];congr 1;rw[bZ];exact⟨.inr,λh=>h.resolve_left b⟩
      rw[e,aR];by_cases b:k=6\/k=7
      ·rw[aD b,aM,aB b,jz v aA0,aR];by_cases a:(BT v).2=0
       ·obtain⟨v1,s⟩:=AR v aA0;have u:=Er v;rw[aB a,aB a,Zl _ aA0 aA0 (λp f=>by have:=s p f;omega),aR]
       ·rw[aA a,aA a]
      ·have D:=BZ v;rw[aE b,aH,aA b,lP v aA0,aR,Mk _ aA0,aR];unfold xD;by_cases a:(cT v).any eJ=μ
       ·rw[aB a,aB a];rfl
       ·rw[aA a,aA a,aB rfl]
theorem ds(a:aC×ζ)(d:δ aC×ζ)(n:aL d.1<=4194304)(r:δ aC):∀P c,aL P+aL r=aL d.1->aL r<c->(∀x∈r,aL x<=4190000)->
  aqn FU a d c (P++r) (γ P)=θ (if(yR (pN a.1) (qS a.1) r).2=0 then .inl (P++(yR (pN a.1) (qS a.1) r).1)else .inr ([],(yR (pN a.1) (qS a.1) r).2)):=by
 induction r with
 |nil=>intro P c h i hx;obtain⟨c,rfl⟩:=bV c;rw[iP]at h;rw[bgy,aui,aA aA0];rfl
 |cons x r j=>
  intro P c h i hx;obtain⟨c,rfl⟩:=bV c;rw[cN]at h i;have g:γ (P++x::r)=aL P+(aL r+1):=by rw[cG,cN]
  have b:0<=(aL P:Int)/\(aL P:Int)<(γ (P++x::r):Int):=aA0;have m:el (P++x::r) (aL P:Int)=x:=by simp[el]
  rw[bgy,aui,aB aA0,aS b,aS b,m,CV _ x (hx x gK),aR,aS b,aS b,yR];by_cases f:(Jj (pN a.1) (qS a.1) x).2=0
  ·have l:kZ (P++x::r) (bH (aL P:Int)) (Jj (pN a.1) (qS a.1) x).1=(P++[(Jj (pN a.1) (qS a.1) x).1])++r:=by simp
   have:=j (P++[(Jj (pN a.1) (qS a.1) x).1]) c aB4 aA0 (λy k=>hx y (eU _ k));rw[show(γ (P++[(Jj (pN a.1) (qS a.1) x).1]):Int)=(aL P:Int)+1 by rw[cG];rfl]at this;rw[aB f,aB f,aS (cA _ aA0 aA0),l,this];by_cases e:(yR (pN a.1) (qS a.1) r).2=0
   ·rw[aB e,aB e,gZ];rfl
   ·rw[aA e,aA e,aA e]
  ·rw[aA f,aA f,aA f]
def mU(nm v:aC):aC×ζ:=if(iC nm).2=0 then C2 (Al (iC nm).1) (pN (iC nm).1) (qS (iC nm).1) v else([],5)
theorem R5(nm v:aC)(j:aL nm<=4194304)(g:aL v<=1100000):bfj FU nm v=θ (mU nm v):=by
 unfold bfj mU;rw[HZ nm aA0,aR];by_cases d:(iC nm).2=0
 ·rw[aB d,aB d,il,aR];unfold C2;cases k:Al (iC nm).1 with
  |false=>rw[vP,aM,CV _ v aA0,aR,aA aA1]
  |true=>
   obtain⟨f,e⟩:=EZ v;have hx:∀x∈(jC v).1,aL x<=4190000:=λx hx=>by have:=Ld _ x hx;omega
   have:=ds (iC nm) (jC v) aA0 (jC v).1 [] FU aA3 aA4 hx;have a:aqn FU _ _ FU (jC v).1 0=_:=this;have i:=OH (pN (iC nm).1) (qS (iC nm).1) (jC v).1 (λx h=>by have:=hx x h;omega);rw[gL,aH,N7 v aA0,aR,aB rfl];by_cases c:(jC v).2=0
   ·rw[aB c,aB c,a,aR];by_cases b:(yR (pN (iC nm).1) (qS (iC nm).1) (jC v).1).2=0
    ·have l:=OI _ _ _ b;have m:=FV (yR (pN (iC nm).1) (qS (iC nm).1) (jC v).1).1;rw[aB b,aB b,kA,Rl,aS (by constructor<;>omega)]
    ·rw[aA b,aA b,Rt]
   ·rw[aA c,aA c]
 ·rw[aA d,aA d]
open Go.Lib renaming hasPrefix → oI
def Jr(y:aC):aC:=45::45::y
def jZ(h:aC×aC):aC:=(h.1++58::32::h.2)++[13,10]
def ar(l:mA):aC:=l.flatMap jZ
theorem gm(p s:aC)(h:oI s p=μ):∃r,s=p++r:=by obtain⟨r,a⟩:=dW.1 (h);exact⟨r,a.symm⟩
theorem gk(p r:aC):oI (p++r) p=μ:=dW.2 ⟨r,rfl⟩
theorem IA:∀c:ζ,nG c≠[]->iC (nG c)=(nG c,0):=fM _ aA5
theorem Qd:∀n∈bh,iC n=(n,0):=aA5
theorem zI(y:aC):∀(l:δ aC) {q},mX l y=θ (.inr q)->q.1∈l/\q.2=0
 |[],q,h=>by cases h
 |n::l,q,h=>by
  unfold mX at h;split at h
  ·cases h;exact⟨gK,rfl⟩
  ·have:=zI y l h;exact⟨eU _ this.1,this.2⟩
theorem vm:∀c:ζ,cJ (Hn c)=cJ c:=fM _ aA5
theorem dq:∀c:ζ,cJ (eQ c)=cJ c:=fM _ aA5
theorem dm:∀c:ζ,(Hn c==45)=(c==45):=fM _ aA5
theorem upup:∀c:ζ,Hn (Hn c)=Hn c:=fM _ aA5
theorem N3:∀c:ζ,eQ (eQ c)=eQ c:=fM _ aA5
theorem rh:∀c:ζ,eQ (Hn c)=eQ c:=fM _ aA5
theorem Dc:∀(l:aC) (f:η),γ (yB f l)=γ l
 |[],_=>rfl
 |c::l,f=>by rw[yB,cN,cN,Dc l]
theorem Uk:∀(l:aC) (f:η),(yB f l).all cJ=l.all cJ
 |[],_=>rfl
 |c::l,f=>by
  rw[yB,Jf,Jf,Uk l];cases f
  ·rw[aA aA1,dq]
  ·rw[aB rfl,vm]
theorem Gm:∀(l:aC) (f:η),cK (yB f l)=cK l
 |[],_=>rfl
 |c::l,f=>by
  have:=Gm l (c==45);simp only[cK]at this⊢;rw[yB,uX,uX,this];cases f
  ·rw[aA aA1,N3]
  ·rw[aB rfl,rh]
theorem Gk:∀(l:aC) (f:η),yB f (yB f l)=yB f l
 |[],_=>rfl
 |c::l,f=>by
  have:=Gk l (c==45);cases f
  ·simp only[yB,aA (show¬(ν=μ)by decide),N3,rj,this]
  ·simp only[yB,gG,upup,dm,this]
theorem GA(l:aC)(f:η):iH (yB f l)=iH l:=by unfold iH;rw[Uk];cases l<;>rfl
theorem pK(s:aC)(h:(iC s).2=0):iC (iC s).1=((iC s).1,0):=by
 by_cases f:iH s=ν\/64<γ s
 ·have e:iC s=([],5):=by unfold iC;rw[aB f]
  rw[e]at h;exact absurd h aA1
 ·by_cases d:γ s=1/\nG (eQ (at_ s 0))≠[]
  ·have e:iC s=(nG (eQ (at_ s 0)),0):=by unfold iC;rw[aA f,aB d]
   rw[e];exact IA _ d.2
  ·have e:iC s=((aju FU (cK s) FU 0).getD (.inl ())).elim (λ_=>(yB μ s,0)) id:=by unfold iC;rw[aA f,aA d]
   obtain⟨r,g⟩:=bkj (cK s) bh;rw[oS,g,IS]at e;cases r with
   |inr q=>have i:=zI _ _ g;have e':iC s=q:=e;rw[e',Qd q.1 i.1]
   |inl u=>
    have e':iC s=(yB μ s,0):=e;rw[e'];have k:¬(iH (yB μ s)=ν\/64<γ (yB μ s)):=by rw[GA,Dc];exact f
    have j:¬(γ (yB μ s)=1/\nG (eQ (at_ (yB μ s) 0))≠[]):=by
     rintro⟨a,b⟩;rw[Dc]at a
     match s,a with
     |[c],_=>exact d ⟨rfl,λx=>b (by show nG (eQ (Hn c))=[];rw[rh];exact x)⟩
    unfold iC;rw[aA k,aA j,Gm,Gk,oS,g];rfl
abbrev PL:=fF
theorem lj(l:PL)(q:PL):∀(p:PL) (d:Nat) (n:Int),l=p++q->21<d+aL p->aL p<=20->0<=n->n<=100*(aL p:Int)->
  ∃j,aql FU l d n (aL p:Int)=θ j/\(∀b,j=.inr b->b=ν)/\∀m,j=.inl m->aL l<=20->∀x∈q,aL x.1<=100/\γ x.2<=20000:=by
 induction q with
 |nil=>intro p d n h u s B A;obtain⟨d,rfl⟩:=bV d;refine⟨.inl n, ?_,λ_ c=>(by cases c),λ_ _ _ x hx=>by cases hx⟩;rw[bcr,aso,aA aA6,aR,aH]
 |cons a q r=>
  intro p d n h u s B A;obtain⟨d,rfl⟩:=bV d;have g:=bF aL h;simp only[cG,cN]at g;have c:(0:Int)<=(aL p:Int)/\(aL p:Int)<(aL l:Int):=aA0;have v:el l (aL p:Int)=a:=aA9;have t:((aL p:Int)+1)=(γ (p++[a]):Int):=aA3;rw[bcr,aso,aB c.2,aR,aS c,aS c,aS c,aS c,v];by_cases f:(aL p:Int)<20
  ·rw[aD f,aM];by_cases o:(100:Int)<(aL a.1:Int)
   ·rw[aB o,aR,aM];exact⟨_,rfl,λb c=>(by cases c;rfl),λm e=>by cases e⟩
   ·rw[aA o,aR];by_cases k:(20000:Int)<(aL a.2:Int)
    ·rw[aD k,aM];exact⟨_,rfl,λb c=>(by cases c;rfl),λm e=>by cases e⟩
    ·obtain⟨j,z,w,y⟩:=r (p++[a]) d (n+(aL a.1:Int)) aA6 aA2 aA2 aA0 aA2;rw[aE k,aH,aS c,aS c,aS (cA _ aA0 aA0),aS (cA _ aA0 aA0),t,z];refine⟨j,rfl,w,λm e i x hx=> ?_⟩;rcases aQ.1 hx with rfl|hx
     ·omega
     ·exact y m e i x hx
  ·rw[aE f,aH];exact⟨_,rfl,λb c=>(by cases c),λm _ i=>by omega⟩
theorem zr(l:PL):∃b,bgx FU l=θ b/\(b=μ->aL l<=20/\∀x∈l,aL x.1<=100/\γ x.2<=20000):=by
 obtain⟨j,f,d,e⟩:=lj l l [] FU 0 rfl (by rw[dK];decide) aA3 aA0 aA3;have c:aql FU l FU (0:Int) (0:Int)=θ j:=f;unfold bgx;rw[c,aR];cases j with
 |inr b=>refine⟨b,rfl,λa=> ?_⟩;rw[d b rfl]at a;cases a
 |inl m=>
  show∃b,((if(aL l:Int)<=20 then θ (decide (m<=200))else θ ν).bind λv=>θ v)=θ b/\_;by_cases h:(aL l:Int)<=20
  ·rw[aB h];exact⟨_,rfl,λ_=>⟨aA0,e m rfl aA0⟩⟩
  ·rw[aA h];exact⟨_,rfl,λa=>by cases a⟩
end Go.Wk
