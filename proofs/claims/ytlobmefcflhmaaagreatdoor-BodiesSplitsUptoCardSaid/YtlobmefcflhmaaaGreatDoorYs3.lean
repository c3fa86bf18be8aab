/-
  The law BodiesSplits holds (part 3 of 9).
-/
import Derived.Test.YtlobmefcflhmaaaGreatDoorYs2
import Derived.Orders
import GoSem.Core.Utf8
open Bool renaming false → ν, true → μ
open Go renaming Addr → Γ, Oper → Α, Operand → χ, Program → Β, TypeId → ω, Value → ξ, World → ο, execOp → ς
open Go.Region renaming ready → Ζ
open Go.Utf8 renaming encode → ψ
open Go.Value renaming func → Θ, slice → π
open List renaming length → γ
open Option renaming none → ι, some → θ
set_option linter.unusedVariables false
set_option linter.unusedSimpArgs false
namespace Go.Oe
open Go.Wk
open Go.Ce (Tr)
open Nat renaming beq → cY, one_pos → Jf, succ → qW
def EOk(C:Cx):Prop:=∀t e b a,C.E t=θ (e,b,a)->C.P.underlying t=θ (.slice e)/\TI C.P e a.sz b/\a.flat=μ/\0<b
section
variable{C:Cx}{md:Md}{w0 w:ο}{S0:δ Nat}{ρ:Nat->Ad}{S:St}{F:Nat->ξ}
variable{x:χ}{t:ω}{c:SC}{g:δ PD}{v:SV}
theorem len_ok(i:Rel C w0 S0 ρ S F w)(hx:aW md F x=c.v ρ)(j:c.ok (γ S.H))(h:AE C S.H t c=θ (g,v)):vE C md ρ S F w (.call ⟨.builtin .len,#[x],#[t]⟩) v:=by
 unfold AE at h;split at h
 ·rename_i l;have h:=dF h;cases h.2;exact fD Τ Τ λd ty Ο Ν=>sp l (Dy h.1) hx
 ·split at h
  ·rename_i e b;split at h
   ·rename_i id _;split at h
    ·rename_i o f;cases h;rw[gG]at f;refine fD Τ Τ λd ty Ο Ν=> ?_;rw[zX i id o f];exact Xs (ρ id).a (ρ id).ln (ρ id).cap e (ke b) hx
    ·cases h
   ·cases h;exact fD Τ Τ λd ty Ο Ν=>Xs _ _ _ e (ke b) hx
   ·cases h;exact fD Τ Τ λd ty Ο Ν=>Xs _ _ _ e (ke b) hx
   ·cases h
  ·cases h
theorem lb(o:Rel C w0 S0 ρ S F w){id m:Nat}(h:WC S.H id=θ m)(n:0<m):(ρ id).ln=m/\(ρ id).a≠ι:=by
 obtain⟨L,p,j⟩:=o.mem;unfold WC at h;split at h
 ·rename_i e b t l c;have h:=dF h;cases h.2;rw[gG]at c;obtain⟨d,r,f,i⟩:=j.2 id _ c;subst i;refine⟨d.symm,(p.gL id f).some_ ?_⟩;rw[(Ty.wD h.1).flat];exact Xq n (Ty.Dg h.1)
 ·rename_i t l c;have h:=dF h;cases h.2;rw[gG]at c;obtain⟨d,r,f,_,g,_⟩:=j.2 id _ c;refine⟨d.symm,g.some_ ?_⟩;rw[(Ty.wD h.1).flat];exact Xq n (Ty.Dg h.1)
 ·rename_i k l c;cases h;rw[gG]at c;obtain⟨d,r,f,i⟩:=j.2 id _ c;subst i;exact⟨by rw[<-d];exact(zY o id k l c).symm,(p.dN id f).some_ (by simpa using n)⟩
 ·cases h
variable{u:χ}
theorem AR(G:Rel C w0 S0 ρ S F w){a:SC}{ro:Ro}(hx:aW md F x=c.v ρ)(p:c.ok (γ S.H))(l:aW md F u=a.v ρ)(h:vq C S.H t c a=θ ro)(o:Jd ro.g):vE C md ρ S F w (.indexAddr t x u) ro.v/\ro.H=S.H/\ro.m=[]:=by
 unfold vq at h;split at h
 ·rename_i j E;obtain⟨q,B⟩:=wJ E ρ;rw[B]at l;split at h
  ·rename_i e y;split at h
   ·rename_i i f;split at h
    ·rename_i id;split at h
     ·rename_i m D;cases h;have L:=o.1;obtain⟨M,r⟩:=lb G D aA0;exact⟨⟨p,_,Τ,λd ty Ο Ν=>ZX (ρ id).a (ρ id).ln (ρ id).cap e i q j (ke y) (Vk f w) hx l aA0 r⟩,Τ,Τ⟩
     ·cases h
    ·rename_i id m;cases h;refine⟨⟨p,_,Τ,λd ty Ο Ν=> ?_⟩,Τ,Τ⟩;have:=ZX (P:=C.P) (w:=w) (d:=d) (ty:=ty) (Ο:=Ο) (Ν:=Ν) _ m m e i q j (ke y) (Vk f w) hx l o.1 aA2;rw[this];show _=Result.ok (Next.value (iM (ρ id).b _)) w;unfold ea iM;simp[SY]
    ·cases h
   ·cases h
  ·split at h
   ·rename_i n k;split at h
    ·rename_i i f;split at h
     ·rename_i id off;have h:=dF h;cases h.2;refine⟨⟨p,_,Τ,λd ty Ο Ν=> ?_⟩,Τ,Τ⟩;have:=ZW (P:=C.P) (w:=w) (d:=d) (ty:=ty) (Ο:=Ο) (Ν:=Ν) _ n.1 n.2 i q j (oAr k) (Vk f w) hx l o.1 (CP h.1);rw[this];show _=Result.ok (Next.value (iM (ρ id).b _)) w;unfold ea iM;simp[SY]
     ·rename_i id K A s;have h:=dF h;have r:=dF h.2;have z:=dF r.2;cases z.2;refine⟨⟨p,_,Τ,λd ty Ο Ν=> ?_⟩,Τ,Τ⟩;have J:=gR r.1;have I:=gR z.1;subst J;subst I;have:=ZW (P:=C.P) (w:=w) (d:=d) (ty:=ty) (Ο:=Ο) (Ν:=Ν) _ n.1 n.2 i q j (oAr k) (Vk f w) (by rw[hx];rfl) l o.1 (CP h.1);rw[this];show Result.ok (Next.value (.pointer (θ ((ea (ρ id).a 0).add _)))) w=Result.ok (Next.value (.pointer (θ (ea (ρ id).a (j.toNat*i+0))))) w;rw[MM,Kh,Ru]
     ·cases h
    ·cases h
   ·cases h
 ·cases h
theorem Jy(s:Rel C w0 S0 ρ S F w){t:Ty}{l:δ t.T}(h:wE S.H t c=θ l):∃a cap,c.v ρ=.slice a (γ l) cap/\Rd w a (l.flatMap t.enc):=by
 obtain⟨L,k,j⟩:=s.mem;unfold wE at h;split at h
 ·cases h;exact⟨ι,0,Τ,Rd.nil _ _⟩
 ·rename_i id;rw[gG]at h;unfold Hu at h;split at h
  ·rename_i e b t2 n d;split at h
   ·rename_i i;obtain rfl:=Ty.jK i;cases h;obtain⟨f,r,g,q⟩:=j.2 id _ d;subst q;exact⟨(ρ id).a,(ρ id).cap,by show π _ (ρ id).ln _=_;rw[<-f];rfl,k.gL id g⟩
   ·cases h
  ·rename_i t2 n d;split at h
   ·rename_i i;obtain rfl:=Ty.jK i;cases h;obtain⟨f,r,g,_,o,p,_⟩:=j.2 id _ d;exact⟨(ρ id).a,(ρ id).cap,by show π _ (ρ id).ln _=_;rw[<-f];rfl,o.dj k p⟩
   ·cases h
  ·rename_i m n d;unfold strOf at h;split at h
   ·rename_i i;obtain rfl:=Ty.jK i;cases h;obtain⟨f,r,g,q⟩:=j.2 id _ d;subst q;have z:=zY s id m n d;exact⟨(ρ id).a,(ρ id).cap,by show π _ (ρ id).ln _=_;rw[<-f,<-z];rfl,Rd.dD (k.dN id g)⟩
   ·cases h
  ·cases h
 ·rename_i id m;split at h
  ·rename_i e cs d;rw[gG]at d;obtain⟨_,r,g,A,rfl,u⟩:=j.2 id _ d;obtain⟨f,_,y⟩:=dq h;refine⟨θ _,m,by rw[f];rfl,?_⟩;have x:=u.all (rP h);rw[<-y ρ,<-x];exact k.fQ id g
  ·cases h
 ·cases h
theorem D5(i:Rel C w0 S0 ρ S F w){s e:ω}{l:aC}(hx:aW md F x=c.v ρ)(f:UE C t=θ e)(b:wG C s=μ)(g:LW C e=μ)(h:wE S.H .c' c=θ l):vE C md ρ S F w (.convert t s x) (.c' (.s' l)):=by obtain⟨a,cap,k,j⟩:=Jy i h;rw[k]at hx;exact fD Τ Τ λd ty Ο Ν=>zD l a (γ l) cap e (Rd.bytes j) Τ (ke f) (Dy b) (oU8 g) hx
theorem mm_ok{b:Builtin}{f:Array ω}{y:SC}(hx:aW md F x=c.v ρ)(e:aW md F u=y.v ρ)(h:mmC b c y=θ (g,v)):vE C md ρ S F w (.call ⟨.builtin b,#[x,u],f⟩) v:=by
 unfold mmC at h;split at h
 ·rename_i k a i r;have h:=dF h;cases h.2;rw[<-mE h.1]at e;exact fD Τ Τ λd ty Ο Ν=>x_min k a r hx e
 ·rename_i k a i r;have h:=dF h;cases h.2;rw[<-mE h.1]at e;exact fD Τ Τ λd ty Ο Ν=>so k a r hx e
 ·cases h
theorem zv(hx:aW md F x=c.v ρ)(a:c.ok (γ S.H))(h:FA c=θ v):vE C md ρ S F w (.nilCheck x) v:=by
 unfold FA at h;split at h
 ·rename_i id off;cases h;exact⟨a,_,Τ,λd ty Ο Ν=>by simp[ς,hx];rfl⟩
 ·rename_i id j e off;cases h;exact⟨a,_,Τ,λd ty Ο Ν=>by simp[ς,hx];rfl⟩
 ·rename_i k b;cases h;exact⟨a,_,Τ,λd ty Ο Ν=>by simp[ς,hx];rfl⟩
 ·cases h
theorem SG{c:χ->SV}{n:Nat}:∀{l:δ χ}{a:δ Nat},(∀x∈l,(c x).ok n/\∀u,(c x).v ρ=θ u->aW md F x=u)->pg (l.map c)=θ a->l.map (aW md F)=a.map (λid=>iM (ρ id).b 0)/\∀id∈a,id<n
 |[],a,_,h=>by cases h;exact⟨Τ,λ_ h=>by cases h⟩
 |x::l,a,hx,h=>by
  have h:(match c x with
   |.c' (.p' id off)=>bif cY off 0 then(match pg _ with
    |some q=>θ _
    |none=>ι)else ι
   |_=>ι)=θ a:=h
  split at h
  ·rename_i id off m;have h:=dF h;have e:=h.2;split at e
   ·rename_i q o;cases e;obtain⟨r,p⟩:=SG (λy k=>hx y (fB _ k)) o;obtain⟨j,g⟩:=hx x gQ;rw[m]at j g;have f:=g _ Τ;rw[gR h.1]at f;refine⟨by rw[tR,r,f];rfl,λi d=> ?_⟩;rcases aQ.1 d with rfl|d
    ·exact j i (aH.2 Τ)
    ·exact p i d
   ·cases e
  ·cases h
theorem oa(m:Rel C w0 S0 ρ S F w)(j:C.nn=md.n){f:Fn}{a b:Array χ}(h:Zw (S.ev C) f a.toList b.toList=θ v):vE C md ρ S F w (.makeFunc f a b) v:=by
 unfold Zw at h;split at h
 ·rename_i k;split at h
  ·rename_i g;split at h
   ·rename_i c e;cases h;obtain⟨p,o⟩:=SG (ρ:=ρ) (md:=md) (F:=F) (n:=γ S.H) (λx _=>Tm m j x) e;have g:a= #[]:=Array.toList_inj.1 g;subst g;have l:b.map _=(c.map λid=>iM (ρ id).b 0).toArray:=Array.toList_inj.1 (by rw[Array.toList_map,p]);refine⟨λi e=>o i e,_,Τ,λd ty Ο Ν=> ?_⟩;simp[ς,Instr.makeFunc,l,SC.v]
   ·cases h
  ·cases h
 ·cases h
theorem ka(f:Rel C w0 S0 ρ S F w)(e:C.nn=md.n){b:χ}{t:η}(j:S.ev C x=.c' (.b' t))(g:(bif t then S.ev C u else S.ev C b)=v)(i:v≠.u'):vE C md ρ S F w (.pick x u b) v:=by
 have k:=(nX f e j).2;have key:v.ok (γ S.H)/\∀c,v.v ρ=θ c->(bif t then aW md F u else aW md F b)=c:=by
  cases t with
  |true=>have:=Tm f e u;rw[show S.ev C u=v from g]at this;exact this
  |false=>have:=Tm f e b;rw[show S.ev C b=v from g]at this;exact this
 obtain⟨c,h⟩:∃c,v.v ρ=θ c:=by cases v<;>first|exact⟨_,Τ⟩|exact absurd Τ i
 exact⟨key.1,c,h,λd ty Ο Ν=>ZP t c k (key.2 c h)⟩
variable{d:Nat}{ty:ω}{Ο:String}{Ν:Array Edge}
variable{L:δ cF}
theorem uJ(h:Hp w0 S0 L w):Hp w0 S0 (dL::L) w:=by
 refine⟨h.os,h.tape,h.output,h.size,h.below,λr a=> ?_,List.Pairwise.cons (λr _ b c=>by cases c) h.sep⟩;rcases aQ.1 a with rfl|a
 ·exact⟨trivial,λb c=>by cases c⟩
 ·exact h.res r a
theorem set_perm{a:Type}:∀{L:δ a}{id:Nat} r,id<γ L->(L.set id r).Perm (r::L.eraseIdx id)
 |x::L,0,r,_=>List.Perm.refl _
 |x::L,id+1,r,h=>by exact(List.Perm.cons x (set_perm r aA7)).trans (List.Perm.swap r x _)
variable{e:Nat}{r:cF}
theorem T3(hid:e<γ L)(h:Hp w0 S0 (L.set e r) w):Hp w0 S0 (r::L.set e dL) w:=by have b:=h.perm (set_perm r hid);have a:=(uJ b).perm (List.Perm.swap r dL _);exact a.perm ((set_perm dL hid).symm.cons r)
variable{H:δ Ob}{o:Ob}
theorem zz{d:Ob}(b:Mt w0 S0 ρ H L)(g:H[e]? =θ d)(k:RO w0 S0 ρ e o r)(l:o.len=d.len):Mt w0 S0 ρ (jC H e o) (L.set e r):=by
 have a:=(aF.1 g).1;refine⟨by simp[b.1,NB],λi j c=> ?_⟩;rw[yF]at c;split at c
 ·rename_i f;cases c;rw[f.1];exact⟨by rw[l];exact(b.2 e d g).1,r,by rw[eT];simp[b.1,a],k⟩
 ·rename_i f;obtain⟨p,h,n,m⟩:=b.2 i j c;refine⟨p,h,?_,m⟩;rw[eT,aA (λq=>f ⟨q.symm,a⟩)];exact n
variable{k:ο}{s:Nat}{c:ε Nat}
theorem Yz{b:Nat}{τ:Ty}{l:δ τ.T}{a:Ob}{a':ε Γ}{cap':Nat}{m:δ Rg}(x:Rel C w0 S0 ρ S F w)(v:Mt w0 S0 ρ S.H L)(n:S.H[e]? =θ a)(G:Hp w0 S0 (L.set e (bM τ.enc s τ.sz c a' cap' l)) k)(B:S.Hd m=μ)
  (D:∀A:δ Rg,(∀j,eO e j m=μ->eO e j A=μ)->kV A e ρ ρ (θ (.dd a.len)) a):
  Rel C w0 S0 (Hx ρ (γ S.H) ⟨c,a',cap',ν,γ l⟩) (St.set ⟨S.F,jC S.H e (.dd a.len)++[.rw s b τ l],S.nb,S.al,m++S.m⟩ d (.c' (.l' (γ S.H)))) (dP F d (.slice a' (γ l) cap')) k/\
  Nx S ρ (St.set ⟨S.F,jC S.H e (.dd a.len)++[.rw s b τ l],S.nb,S.al,m++S.m⟩ d (.c' (.l' (γ S.H)))) (Hx ρ (γ S.H) ⟨c,a',cap',ν,γ l⟩):=by
 have p:e<γ L:=by rw[v.1];exact(aF.1 n).1
 have h:=T3 p G;have I:γ (jC S.H e (.dd a.len))=γ S.H:=NB;let f:St:=⟨S.F,jC S.H e (.dd a.len),S.nb,S.al,m++S.m⟩;have g:Rel C w0 S0 ρ f F k:=Jk (o:=.dd a.len) (r:=dL) x v n h.tail trivial Τ (λ_ _ J=>by cases J) rfl rfl;have u:Mt w0 S0 ρ f.H (L.set e dL):=zz v n trivial Τ;have t:Nx S ρ f ρ:=Zy (o:=.dd a.len) (m:=m) x n B D Τ Τ Τ Τ;have q:=I;have z:Rel C w0 S0 (Hx ρ (γ f.H) ⟨c,a',cap',ν,γ l⟩) ⟨S.F,jC S.H e (.dd a.len)++[.rw s b τ l],S.nb,S.al,m++S.m⟩ F k:=zW (o:=.rw s b τ l) g u h (by show _=_;rw[nY]) Τ (λ_ _ J=>by cases J) rfl rfl;have y:Nx f ρ ⟨S.F,jC S.H e _++[.rw s b τ l],S.nb,S.al,m++S.m⟩ (Hx ρ (γ f.H) ⟨c,a',cap',ν,γ l⟩):=Mx (o:=.rw s b τ l) (m:=[]) g Τ Τ Τ Τ;rw[q]at z y;refine⟨qa z aC9 (λi E=> ?_),?_⟩
 ·have:i=γ S.H:=aH.1 E;subst this;rw[cE,I];simp
 ·have:=t.trans y;exact⟨⟨this.nb,this.al,this.le⟩,this.lg,this.mm⟩
theorem Mc{b:Nat}{τ:Ty}{l:δ τ.T}{a':ε Γ}(f:Rel C w0 S0 ρ S F w)(j:Mt w0 S0 ρ S.H L)(p:Hp w0 S0 (bM τ.enc e τ.sz c a' s l::L) k):
  Rel C w0 S0 (Hx ρ (γ S.H) ⟨c,a',s,ν,γ l⟩) (St.set ⟨S.F,S.H++[.rw e b τ l],S.nb,S.al,[]++S.m⟩ d (.c' (.l' (γ S.H)))) (dP F d (.slice a' (γ l) s)) k/\
  Nx S ρ (St.set ⟨S.F,S.H++[.rw e b τ l],S.nb,S.al,[]++S.m⟩ d (.c' (.l' (γ S.H)))) (Hx ρ (γ S.H) ⟨c,a',s,ν,γ l⟩):=by
 have n:Rel C w0 S0 (Hx ρ (γ S.H) ⟨c,a',s,ν,γ l⟩) ⟨S.F,S.H++[.rw e b τ l],S.nb,S.al,[]++S.m⟩ F k:=zW (o:=.rw e b τ l) f j p (by show _=_;rw[nY]) Τ (λ_ _ h=>by cases h) rfl rfl;have a:Nx S ρ ⟨S.F,S.H++[.rw e b τ l],S.nb,S.al,[]++S.m⟩ (Hx ρ (γ S.H) ⟨c,a',s,ν,γ l⟩):=Mx (o:=.rw e b τ l) (m:=[]) f Τ Τ Τ Τ;refine⟨qa n aC9 (λi g=> ?_),⟨⟨a.nb,a.al,a.le⟩,a.lg,a.mm⟩⟩;have:i=γ S.H:=aH.1 g;subst this;simp
variable{t:ω}{x y:χ}{f g:SC}{a:Ro}
theorem step_append(hE:EOk C)(K:Rel C w0 S0 ρ S F w)(hn:C.nn=md.n)(hx:aW md F x=f.v ρ)(M:aW md F y=g.v ρ)(h:rW C S.H t f g=θ a)(hg:Jd a.g)(hm:S.Hd a.m=μ):
  Step C md w0 S0 ρ S F w ⟨θ d,.call ⟨.builtin .append,#[x,y],#[t,t]⟩,ty,Ο,Ν,ι⟩ (St.set ⟨S.F,a.H,S.nb,S.al,a.m++S.m⟩ d a.v):=by
 intro b5 Q b1 hk;have np:∀d2:Nat,(θ d)=θ d2->mF (.call ⟨.builtin .append,#[x,y],#[t,t]⟩)=μ->∀F2:Nat->ξ,∃w3,(ς (aW md F) (⟨θ d,.call ⟨.builtin .append,#[x,y],#[t,t]⟩,ty,Ο,Ν,ι⟩:Α)).run C.P w=.ok (.value (F2 d2)) w3:=λd2 _ h=>by cases h
 obtain⟨L,hH,V⟩:=K.mem;unfold rW at h;split at h
 ·rename_i e b B b0;obtain⟨ht,hT,I,J⟩:=hE _ _ _ _ b0;split at h
  ·split at h
   ·rename_i N p;cases h;obtain⟨X,W,k,U⟩:=Jy K p;rw[k]at M;refine NK (Hp.cX hH B.enc e B.sz ι) 0 ι ι X 0 W e B.sz b [] N (Ty.wD I) Τ ht hT (Ty.Dg I) J hx M U hg.1 λo' a' E w' u=> ?_;obtain⟨s,A⟩:=Mc K V u;exact hk _ _ w' s A SP λd2 T O=>np d2 T O _
   ·cases h
  ·rename_i id;split at h
   ·rename_i l N z p;cases h
    obtain⟨X,W,k,U⟩:=Jy K p;rw[k]at M;have c:S.H[id]? =θ (.rw e b B l):=by
     unfold tg at z;simp only at z;split at z
     ·rename_i q hq;have i:=dF z;have u:=dF i.2;have s:=tY hq u.2;rw[gG,gR i.1,gR u.1]at s;exact s
     ·cases z
    obtain⟨i,r,Y,he⟩:=V.2 id _ c;subst he;have i:γ l=(ρ id).ln:=i;have G:aW md F x=.slice (ρ id).a (γ l) (ρ id).cap:=by rw[hx,i];rfl
    refine NK hH id (ρ id).o (ρ id).a X (ρ id).cap W e B.sz b l N (Ty.wD I) Y ht hT (Ty.Dg I) J G M U hg.1 λo' a' E w' u=> ?_;obtain⟨s,A⟩:=Yz K V c u hm (λal hc=>.inl (hc 0 (wK.2 ⟨_,aH.2 Τ,Τ,dK _,Jf⟩)));exact hk _ _ w' s A SP λd2 T O=>np d2 T O _
   ·cases h
  ·rename_i id m;split at h
   ·rename_i l c2 b4 N z p;cases h
    obtain⟨X,W,k,U⟩:=Jy K p;rw[k]at M;have c:∃cs,S.H[id]? =θ (.bl e cs)/\m<=1048576/\pS B m cs=θ l:=by
     simp only[Ty.rd]at z;split at z
     ·rename_i e2 cs hb;rw[gG]at hb;have i:=dF z;have u:=dF i.2;have s:=dF u.2;have A:=s.2;split at A
      ·rename_i y Z;cases A;rw[gR i.1]at hb;exact⟨cs,hb,CP s.1,Z⟩
      ·cases A
     ·cases z
    obtain⟨cs,c,b7,D⟩:=c;obtain⟨_,r,Y,vs,rfl,R⟩:=V.2 id _ c;obtain⟨i,_,s⟩:=dq D;have A:=R.all (rP D);have a8:=hH.IJ id B.sz m l Y (Ty.wD I) (by rw[A,s ρ]) i aE6;have a1:=(aF.1 Y).1;have G:aW md F x=.slice (θ ⟨(ρ id).b,0,ι⟩) (γ l) m:=by rw[hx,i];rfl
    refine NK a8 id _ _ X m W e B.sz b l N (Ty.wD I) (bF a1) ht hT (Ty.Dg I) J G M U hg.1 λo' a' E w' u=> ?_;rw[YC]at u;have a2:blL (fC S.H id)=qW (γ cs):=by rw[gG,c];rfl
    obtain⟨h5,h6⟩:=Yz K V c u hm (λal hc=>.inl λj hj=>hc j (wK.2 ⟨_,aH.2 Τ,Τ,cH _,by show j<blL _;rw[a2];omega⟩));exact hk _ _ w' h5 h6 SP λd2 T O=>np d2 T O _
   ·cases h
  ·cases h
 ·cases h
theorem PY{τ:Ty}{l:δ τ.T}{a':ε Γ}{cap':Nat}(b:Rel C w0 S0 ρ S F w)(g:Mt w0 S0 ρ S.H L)(h:Hp w0 S0 L w)(c:Xp w0 S0 ⟨ι,a',cap',ν,γ l⟩ τ l):
  Rel C w0 S0 (Hx ρ (γ S.H) ⟨ι,a',cap',ν,γ l⟩) (St.set ⟨S.F,S.H++[.ro τ l],S.nb,S.al,[]++S.m⟩ d (.c' (.l' (γ S.H)))) (dP F d (.slice a' (γ l) cap')) w/\
  Nx S ρ (St.set ⟨S.F,S.H++[.ro τ l],S.nb,S.al,[]++S.m⟩ d (.c' (.l' (γ S.H)))) (Hx ρ (γ S.H) ⟨ι,a',cap',ν,γ l⟩):=by
 have j:Rel C w0 S0 _ ⟨S.F,S.H++[.ro τ l],S.nb,S.al,[]++S.m⟩ F w:=zW (o:=.ro τ l) b g (uJ h) ⟨Τ,by rw[nY];exact c⟩ Τ (λ_ _ f=>by cases f) rfl rfl;have a:Nx S ρ ⟨S.F,S.H++[.ro τ l],S.nb,S.al,[]++S.m⟩ (Hx ρ (γ S.H) ⟨ι,a',cap',ν,γ l⟩):=Mx (o:=.ro τ l) (m:=[]) b Τ Τ Τ Τ;refine⟨qa j aC9 (λi e=> ?_),⟨⟨a.nb,a.al,a.le⟩,a.lg,a.mm⟩⟩;have:i=γ S.H:=aH.1 e;subst this;simp
theorem Dv{d i:ε SC}(h:Ih C H e f d i=θ a):∃(id x:Nat) (τ:Ty) (l:δ τ.T),f=.l' id/\H[id]? =θ (.ro τ l)/\C.P.underlying e=θ (.slice x)/\Uj C x=θ τ.sz/\τ.flat=μ/\
  ((∃b j,d=ι/\i=θ b/\SU b=θ j/\a=⟨[⟨0<=j/\j<=(γ l:Int),inferInstance⟩],.c' (.l' (γ H)),H++[.ro τ (l.take j.toNat)],[]⟩)\/
   ∃b j,d=θ b/\i=ι/\SU b=θ j/\a=⟨[⟨0<=j/\j<=(γ l:Int),inferInstance⟩],.c' (.l' (γ H)),H++[.ro τ (l.drop j.toNat)],[]⟩):=by
 unfold Ih at h;split at h
 ·rename_i id;split at h
  ·rename_i τ l c;rw[gG]at c;split at h
   ·rename_i x t;have t:C.P.underlying e=θ (.slice x):=by
     unfold UE at t;split at t
     ·rename_i k;cases t;exact k
     ·cases t
    split at h
    ·rename_i sz n;have h:=dF h;have m:=gR h.1;subst m;have h:=dF h.2;refine⟨_,x,τ,l,Τ,c,t,n,h.1,?_⟩;have h:=h.2;split at h
     ·rename_i b;split at h
      ·rename_i j g;cases h;exact .inl ⟨_,j,Τ,Τ,g,Τ⟩
      ·cases h
     ·rename_i b;split at h
      ·rename_i j g;cases h;exact .inr ⟨_,j,Τ,Τ,g,Τ⟩
      ·cases h
     ·cases h
    ·cases h
   ·cases h
  ·cases h
 ·cases h
theorem gu (B : Rel C w0 S0 ρ S F w) (W : C.nn = md.n)   {M N : ε χ}  (T : wG C t = ν) (h : iC C (S.ev C) S.H (.slice t x M N ι) = θ a) (hg : Jd a.g) :
    Step C md w0 S0 ρ S F w ⟨θ d,.slice t x M N ι,ty,Ο,Ν,ι⟩ (St.set ⟨S.F,a.H,S.nb,S.al,a.m ++ S.m⟩ d a.v) := by
  have h : (bif wG C t then Mj S.H _ else gM _ λm => Ii _ M λi => Ii _ N λj => Ih C S.H t m i j) = θ a := h;rw[T] at h;obtain ⟨c,h1,h2⟩ := lI (h);have hx := (nX B W h1).2;obtain ⟨L,hH,hM⟩ := B.mem;have key : ∀ (i j),Ih C S.H t c i j = θ a -> (M = ι /\ i = ι \/ ∃ o b,M = θ o /\ i = θ b /\ aW md F o = b.v ρ) -> (N = ι /\ j = ι \/ ∃ o b,N = θ o /\ j = θ b /\ aW md F o = b.v ρ) ->
      Step C md w0 S0 ρ S F w ⟨θ d,.slice t x M N ι,ty,Ο,Ν,ι⟩ (St.set ⟨S.F,a.H,S.nb,S.al,a.m ++ S.m⟩ d a.v) := by
    intro i j a7 X Z;obtain ⟨id,e,τ,l,rfl,a8,hu,R,hf,hc⟩ := Dv a7;obtain ⟨Y,r,hr,b9,U,D,A⟩ := hM.2 id _ a8;have Y : γ l = (ρ id).ln := Y;rcases hc with ⟨b,k,rfl,rfl,hk,rfl⟩ | ⟨b,k,rfl,rfl,hk,rfl⟩
    · rcases X with ⟨rfl,_⟩ | ⟨o,K,_,z,_⟩
      rotate_left
      · cases z
      rcases Z with ⟨_,z⟩ | ⟨o,K,rfl,z,ho⟩
      · cases z
      cases z;obtain ⟨kk,G⟩ := wJ hk ρ;have hb := hg.1;have f : ∀ d2 : Nat,(ς (aW md F) (⟨θ d2,.slice t x ι (θ o) ι,ty,Ο,Ν,ι⟩ : Α)).run C.P w = .ok (.value (.slice (ρ id).a k.toNat (ρ id).cap)) w := λd2 => ZO (d := d2) (ρ id).a (ρ id).ln (ρ id).cap e τ.sz kk k hu (Vk R w) hx (ho.trans G) l Y.symm hb (by rw[<- Y]; exact A);have s : γ (l.take k.toNat) = k.toNat := by rw[iI]; omega
      have hR : Xp w0 S0 ⟨ι,(ρ id).a,(ρ id).cap,ν,γ (l.take k.toNat)⟩ τ (l.take k.toNat) := by
       refine ⟨?_,λE => D (λe0 => E ?_),?_⟩
       · intro j v hv;have e1 : (l.flatMap τ.enc)[j]? = θ v := by rw[<- NZ k.toNat l,NW,aJ (aF.1 hv).1]; exact hv
         exact U j v e1
       · rw[<- NZ k.toNat l,NW] at e0;exact (tP.1 e0).1
       · show γ (l.take k.toNat) <= (ρ id).cap;omega
      obtain ⟨h3,y⟩ := PY (d := d) (τ := τ) (l := l.take k.toNat) (a' := (ρ id).a) (cap' := (ρ id).cap) B hM hH hR;intro a4 Q O u;rw[s] at h3 y;refine gC Τ Τ (f d) (u _ _ w h3 y SP λd2 hd _ => ⟨w,?_⟩);cases hd;rw[qh]; exact f d
    · rcases Z with ⟨rfl,_⟩ | ⟨o,K,_,z,_⟩
      rotate_left
      · cases z
      rcases X with ⟨_,z⟩ | ⟨o,K,rfl,z,ho⟩
      · cases z
      cases z;obtain ⟨kk,G⟩ := wJ hk ρ;have hb := hg.1;have f : ∀ d2 : Nat,(ς (aW md F) (⟨θ d2,.slice t x (θ o) ι ι,ty,Ο,Ν,ι⟩ : Α)).run C.P w = .ok (.value (.slice (F8 (ρ id).a (ρ id).cap k.toNat τ.sz) ((ρ id).ln - k.toNat) ((ρ id).cap - k.toNat))) w := λd2 => CS (d := d2) (ρ id).a (ρ id).ln (ρ id).cap e τ.sz kk k hu (Vk R w) hx (ho.trans G) l Y.symm hb;have s : γ (l.drop k.toNat) = (ρ id).ln - k.toNat := by rw[dY]; omega
      have hR : Xp w0 S0 ⟨ι,F8 (ρ id).a (ρ id).cap k.toNat τ.sz,(ρ id).cap - k.toNat,ν,γ (l.drop k.toNat)⟩ τ (l.drop k.toNat) := by
       refine ⟨Rd.By (Ty.wD hf) _ _ A U,λE p hp => ?_,?_⟩
       · have V : l.flatMap τ.enc ≠ [] := λe0 => E (by rw[<- NZ k.toNat l,NW] at e0;exact (tP.1 e0).2);unfold F8 at hp;split at hp
         · exact D V p hp
         · obtain ⟨q,hq,rfl⟩ := bU.1 hp;have := D V q hq;rw[bkd]; exact this
       · show γ (l.drop k.toNat) <= (ρ id).cap - k.toNat;omega
      obtain ⟨h3,y⟩ := PY (τ := τ) (l := l.drop k.toNat) (a' := F8 (ρ id).a (ρ id).cap k.toNat τ.sz) (cap' := (ρ id).cap - k.toNat) B hM hH hR;intro a4 Q O u;rw[s] at h3 y;refine gC Τ Τ (f d) (u _ _ w h3 y SP λd2 hd _ => ⟨w,?_⟩);cases hd;rw[qh]; exact f d
  rcases YZ h2 with ⟨y,h5⟩ | ⟨o,b,y,h5,h6⟩
  · rcases YZ h5 with ⟨J,I⟩ | ⟨o2,K,J,I,h9⟩
    · exact key _ _ I (.inl ⟨y,Τ⟩) (.inl ⟨J,Τ⟩)
    · exact key _ _ h9 (.inl ⟨y,Τ⟩) (.inr ⟨o2,K,J,Τ,(nX B W I).2⟩)
  · rcases YZ h6 with ⟨J,I⟩ | ⟨o2,K,J,I,h9⟩
    · exact key _ _ I (.inr ⟨o,b,y,Τ,(nX B W h5).2⟩) (.inl ⟨J,Τ⟩)
    · exact key _ _ h9 (.inr ⟨o,b,y,Τ,(nX B W h5).2⟩) (.inr ⟨o2,K,J,Τ,(nX B W I).2⟩)
theorem Fs(h:Yg C H e s f g=θ a):∃p x,g=.s' p/\wG C s=μ/\C.E e=θ (x,1,.c')/\zU8 C x=μ/\
  ((f=.n'/\a=⟨[⟨(γ ([]:aC)+γ p)*1<=140737488355328,inferInstance⟩],.c' (.l' (γ H)),H++[.rw x 1 .c' ([]++p)],[]⟩)\/
   ∃(id:Nat) (l:aC),f=.l' id/\H[id]? =θ (.rw x 1 .c' l)/\a=⟨[⟨(γ l+γ p)*1<=140737488355328,inferInstance⟩],.c' (.l' (γ H)),jC H id (.dd (γ l))++[.rw x 1 .c' (l++p)],[(id,0,1)]⟩):=by
 unfold Yg at h;split at h
 ·rename_i p;unfold Vg at h;have h:=dF h;have t:=h.1;have h:=h.2;split at h
  ·rename_i x b c;have h:=dF h;have n:=gR h.1;subst n;have h:=dF h.2;have k:=h.1;have h:=h.2;refine⟨p,x,Τ,t,c,k,?_⟩;split at h
   ·cases h;exact .inl ⟨Τ,Τ⟩
   ·rename_i id;split at h
    ·rename_i l d;cases h;refine .inr ⟨_,l,Τ,?_,Τ⟩;unfold tg at d;simp only at d;split at d
     ·rename_i q m;have t:=dF d;have j:=dF t.2;have i:=tY m j.2;rw[gG,gR t.1,gR j.1]at i;exact i
     ·cases d
    ·cases h
   ·cases h
  ·cases h
 ·cases h
theorem ZK(h:zU8 C e=μ):(C.P.info? e).bind (·.zero)=θ (.int .u8 0):=by
 unfold zU8 at h;split at h
 ·rename_i i b;split at h
  ·rename_i a;rw[b];exact a
  ·cases h
 ·cases h
theorem Yk(hE:EOk C)(u:Rel C w0 S0 ρ S F w)(hn:C.nn=md.n){s:ω}(hx:aW md F x=f.v ρ)(M:aW md F y=g.v ρ)(h:Yg C S.H t s f g=θ a)(T:Jd a.g)(Z:S.Hd a.m=μ):
  Step C md w0 S0 ρ S F w ⟨θ d,.call ⟨.builtin .append,#[x,y],#[t,s]⟩,ty,Ο,Ν,ι⟩ (St.set ⟨S.F,a.H,S.nb,S.al,a.m++S.m⟩ d a.v):=by
 intro X Q I R;have np:∀d2:Nat,(θ d)=θ d2->mF (.call ⟨.builtin .append,#[x,y],#[t,s]⟩)=μ->∀F2:Nat->ξ,∃W,(ς (aW md F) (⟨θ d,.call ⟨.builtin .append,#[x,y],#[t,s]⟩,ty,Ο,Ν,ι⟩:Α)).run C.P w=.ok (.value (F2 d2)) W:=λd2 _ h=>by cases h
 obtain⟨L,V,z⟩:=u.mem;obtain⟨J,e,rfl,O,A,K,q⟩:=Fs h;obtain⟨N,U,hf,a1⟩:=hE _ _ _ _ A;rcases q with⟨rfl,rfl⟩|⟨id,l,rfl,c,rfl⟩
 ·refine wT (Hp.cX V (Ty.c').enc e 1 ι) 0 ι ι 0 e [] J Τ N (Dy O) U (ZK K) hx M T.1 λo' a' i w' E=> ?_;obtain⟨D,B⟩:=Mc (τ:=.c') (b:=1) (d:=d) u z E;exact R _ _ w' D B SP λd2 p k=>np d2 p k _
 ·obtain⟨G,r,Y,he⟩:=z.2 id _ c;subst he;have G:γ l=(ρ id).ln:=G;have j:aW md F x=.slice (ρ id).a (γ l) (ρ id).cap:=by rw[hx,G];rfl
  refine wT V id (ρ id).o (ρ id).a (ρ id).cap e l J Y N (Dy O) U (ZK K) j M T.1 λo' a' i w' E=> ?_;obtain⟨D,B⟩:=Yz (τ:=.c') (b:=1) (d:=d) (m:=[(id,0,1)]) u z c E Z (λal q=>.inl (q 0 (wK.2 ⟨_,aH.2 Τ,Τ,dK _,Jf⟩)));exact R _ _ w' D B SP λd2 p k=>np d2 p k _
theorem TZ(N:EOk C)(s:Rel C w0 S0 ρ S F w)(T:C.nn=md.n){c:SC}(r:aW md F y=g.v ρ)(h:Dw C S.H t (isZ x) c g=θ a)(G:Jd a.g):
  Step C md w0 S0 ρ S F w ⟨θ d,.makeSlice t x y,ty,Ο,Ν,ι⟩ (St.set ⟨S.F,a.H,S.nb,S.al,a.m++S.m⟩ d a.v):=by
 intro u Q q D;obtain⟨L,M,K⟩:=s.mem;unfold Dw at h;split at h
 ·rename_i e b p l;obtain⟨A,J,U,k⟩:=N _ _ _ _ l;have h:=dF h;have j:=h.1;have h:=h.2;split at h
  ·rename_i i E;cases h
   obtain⟨z,I⟩:=wJ E ρ;rw[I]at r;obtain⟨kl,hx⟩:∃kl,aW md F x=.int kl 0:=by
    unfold isZ at j;split at j
    ·exact⟨_,Τ⟩
    ·cases j
   refine fg (f:=p.enc) M e p.sz b kl z i A J k hx r G.1 λo c cap w' R=> ?_;obtain⟨P,O⟩:=Mc s K R;exact D _ _ w' P O SP λd2 V B=>by cases B
  ·cases h
 ·cases h
theorem Yj(g:Rel C w0 S0 ρ S F w){s e:ω}{l:aC}(hx:aW md F x=str l)(n:C.P.underlying t=θ .string)(k:UE C s=θ e)(f:LW C e=μ):
  Step C md w0 S0 ρ S F w ⟨θ d,.convert t s x,ty,Ο,Ν,ι⟩ (St.set ⟨S.F,S.H++[.br (γ l) l],S.nb,S.al,[]++S.m⟩ d (.c' (.l' (γ S.H)))):=by
 intro j Q h p;obtain⟨L,v,u⟩:=g.mem;refine Ko v l e n (ke k) (oU8 f) hx λa cap w' b z=> ?_;have y:Rel C w0 S0 (Hx ρ (γ S.H) ⟨ι,a,cap,ν,γ l⟩) ⟨S.F,S.H++[.br (γ l) l],S.nb,S.al,[]++S.m⟩ F w':=zW (o:=.br (γ l) l) g u z (by show _=_;rw[nY]) Τ (λ_ _ f=>by cases f) rfl rfl;have c:Nx S ρ ⟨S.F,S.H++[.br (γ l) l],S.nb,S.al,[]++S.m⟩ (Hx ρ (γ S.H) ⟨ι,a,cap,ν,γ l⟩):=Mx (o:=.br (γ l) l) (m:=[]) g Τ Τ Τ Τ;refine p _ _ w' (qa y aC9 (λi q=> ?_)) ⟨⟨c.nb,c.al,c.le⟩,c.lg,c.mm⟩ SP λd2 r _=>⟨w',?_⟩
 ·have:i=γ S.H:=aH.1 q;subst this;simp
 ·cases r;rw[qh];exact b
end
open Go.Wk
open Go.Ce (Tr)
open Nat renaming beq → cY
section
variable{C:Cx}{md:Md}{w0 w:ο}{S0:δ Nat}{ρ:Nat->Ad}{S:St}{F:Nat->ξ}
variable{ty:ω}{Ο:String}{Ν:Array Edge}
variable{a:ε Nat}{v:SV}
theorem HT(h:Pt a v=μ)(b:v≠.u'):∃d,a=θ d:=by
 cases a with
 |some d=>exact⟨d,Τ⟩
 |none=>cases v<;>first|exact absurd Τ b|cases h
variable{c:Op}{b:Ro}
theorem Xm(g:Rel C w0 S0 ρ S F w)(h:vE C md ρ S F w c b.v/\b.H=S.H/\b.m=[])(f:Pt a b.v=μ):Step C md w0 S0 ρ S F w ⟨a,c,ty,Ο,Ν,ι⟩ (St.xA ⟨S.F,b.H,S.nb,S.al,b.m++S.m⟩ a b.v):=by obtain⟨l,j,i⟩:=h;obtain⟨d,rfl⟩:=HT f (λe=>by obtain⟨_,u,k,_⟩:=l;rw[e]at k;cases k);rw[j,i];exact E6 g l
theorem vi{S2:Nat->St}(f:Pt a v=μ)(g:v≠.u')(h:∀d,Step C md w0 S0 ρ S F w ⟨θ d,c,ty,Ο,Ν,ι⟩ (S2 d)){b:St}(e:∀d,a=θ d->S2 d=b):Step C md w0 S0 ρ S F w ⟨a,c,ty,Ο,Ν,ι⟩ b:=by obtain⟨d,rfl⟩:=HT f g;rw[<-e d rfl];exact h d
theorem Qo{b:Type}{a:Array b}{l:δ b}(h:a.toList=l):a=l.toArray:=by rw[<-h]
theorem MW(I:EOk C)(j:C.nn=md.n)(i:Rel C w0 S0 ρ S F w){m:Builtin}{fR:Array χ}{D:Array ω}(h:NI C (S.ev C) S.H m fR.toList D.toList=θ b)(G:Jd b.g)(E:S.Hd b.m=μ)(u:Pt a b.v=μ):
  Step C md w0 S0 ρ S F w ⟨a,.call ⟨.builtin m,fR,D⟩,ty,Ο,Ν,ι⟩ (St.xA ⟨S.F,b.H,S.nb,S.al,b.m++S.m⟩ a b.v):=by
 unfold NI at h;split at h
 ·rename_i x t s z;obtain rfl:=Qo s;obtain rfl:=Qo z;obtain⟨g,v,B,rfl⟩:=JO h;obtain⟨c,q,p⟩:=lI B;obtain⟨o,f⟩:=nX i j q;exact Xm i ⟨len_ok i f o p,Τ,Τ⟩ u
 ·rename_i x y t t2 s z;obtain rfl:=Qo s;obtain rfl:=Qo z;cases k:cY t t2 with
  |true=>
   rw[k]at h;have J:=gR k;subst J;obtain⟨r,q,p⟩:=lI h;obtain⟨c,o,f⟩:=lI p;have A:b.v≠.u':=by
    intro e;unfold rW at f;split at f
    ·split at f
     ·split at f
      ·cases f;cases e
      ·cases f
     ·split at f
      ·cases f;cases e
      ·cases f
     ·split at f
      ·cases f;cases e
      ·cases f
     ·cases f
    ·cases f
   exact vi u A (λd=>step_append (d:=d) I i j (nX i j q).2 (nX i j o).2 f G E) (λd e=>by rw[e];rfl)
  |false=>
   rw[k]at h;obtain⟨r,q,p⟩:=lI h;obtain⟨c,o,f⟩:=lI p;have A:b.v≠.u':=by intro e;obtain⟨L,z,_,_,_,_,K⟩:=Fs f;rcases K with⟨_,rfl⟩|⟨id,l,_,_,rfl⟩<;>cases e
   exact vi u A (λd=>Yk (d:=d) I i j (nX i j q).2 (nX i j o).2 f G E) (λd e=>by rw[e];rfl)
 ·rename_i x y _ s _;obtain rfl:=Qo s;obtain⟨g,v,B,rfl⟩:=JO h;obtain⟨r,q,p⟩:=lI B;obtain⟨c,o,f⟩:=lI p;exact Xm i ⟨mm_ok (nX i j q).2 (nX i j o).2 f,Τ,Τ⟩ u
 ·cases h
theorem gv(hE:EOk C)(r:C.nn=md.n)(p:Rel C w0 S0 ρ S F w){op:Op}(h:iC C (S.ev C) S.H op=θ b)(D:Jd b.g)(hm:S.Hd b.m=μ)(q:Pt a b.v=μ):
  Step C md w0 S0 ρ S F w ⟨a,op,ty,Ο,Ν,ι⟩ (St.xA ⟨S.F,b.H,S.nb,S.al,b.m++S.m⟩ a b.v):=by
 cases op<;>first|cases h|skip
 case move x=>exact Xm p (an r p (op:=.move x) rfl h D w) q
 case assign x=>exact Xm p (an r p (op:=.assign x) rfl h D w) q
 case binOp H t x y t'=>exact Xm p (an r p (op:=.binOp H t x y t') rfl h D w) q
 case unOp u t x=>exact Xm p (an r p (op:=.unOp u t x) rfl h D w) q
 case index t x Q=>exact Xm p (an r p (op:=.index t x Q) rfl h D w) q
 case slice t x L M P=>
  cases J:wG C t with
  |true=>exact Xm p (an r p (op:=.slice t x L M P) Τ (show(bif wG C t then iC C (S.ev C) S.H (.slice t x L M P)else ι)=θ b by rw[J];exact h) D w) q
  |false=>
   cases P with
   |some m=>cases h
   |none=>
    refine vi q (λe=> ?_) (λd=>gu (d:=d) p r J h D) (λd e=>by rw[e];rfl);have h:(bif wG C t then Mj S.H (gM (S.ev C x) λK=>Ii (S.ev C) L λi=>Ii (S.ev C) M λj=>Z8 K i j)else gM (S.ev C x) λK=>Ii (S.ev C) L λi=>Ii (S.ev C) M λj=>Ih C S.H t K i j)=θ b:=h;rw[J]at h;obtain⟨c,I,E⟩:=lI (show gM (S.ev C x) (λK=>Ii (S.ev C) L λi=>Ii (S.ev C) M λj=>Ih C S.H t K i j)=θ b from h);have key:∀i j,Ih C S.H t c i j=θ b->False:=λi j T=>by obtain⟨id,e2,τ,l,_,_,_,_,_,V⟩:=Dv T;rcases V with⟨H,k,_,_,_,rfl⟩|⟨H,k,_,_,_,rfl⟩<;>cases e
    rcases YZ E with⟨B,G⟩|⟨o,H,B,G,Y⟩
    ·rcases YZ G with⟨X,N⟩|⟨o2,b2,X,N,W⟩
     ·exact key _ _ N
     ·exact key _ _ W
    ·rcases YZ Y with⟨X,N⟩|⟨o2,b2,X,N,W⟩
     ·exact key _ _ N
     ·exact key _ _ W
 case extract x i=>exact Xm p (an r p (op:=.extract x i) rfl h D w) q
 case field t x f=>exact Xm p (an r p (op:=.field t x f) rfl h D w) q
 case build t O=>exact Xm p (an r p (op:=.build t O) rfl h D w) q
 case fieldAddr t x f=>exact Xm p (an r p (op:=.fieldAddr t x f) rfl h D w) q
 case pick c K H=>
  obtain⟨x,I,E⟩:=lI (show gM (S.ev C c) (λx=>match x with
   |.b' t=>mO S.H (match(bif t then S.ev C K else S.ev C H)with
    |.u'=>ι
    |v=>θ v)
   |_=>ι)=θ b from h)
  split at E
  ·rename_i t;obtain⟨v,A,rfl⟩:=be E;obtain⟨B,u,G⟩:=AH (ρ:=ρ) A;exact Xm p ⟨ka p r I B (λe=>by have e:v=.u':=e;subst e;cases G),rfl,rfl⟩ q
  ·cases E
 case convert s t x=>
  obtain⟨c,V,h⟩:=lI (show gM (S.ev C x) (BH C S.H s t)=θ b from h);have hx:=(nX p r V).2;unfold BH at h;split at h
  ·rename_i e U;have A:=dF h;have B:=dF A.2;have G:=B.2;split at G
   ·rename_i l hl;cases G;exact Xm p ⟨D5 p hx U A.1 B.1 hl,Τ,Τ⟩ q
   ·cases G
  ·split at h
   ·rename_i l;split at h
    ·rename_i e U;have A:=dF h;have B:=dF A.2;cases B.2;exact vi q aA2 (λd=>Yj (d:=d) p hx (Dy A.1) U B.1) (λd e=>by rw[e];rfl)
    ·obtain⟨g,v,A,rfl⟩:=JO h;exact Xm p ⟨BI hx A D,Τ,Τ⟩ q
   ·obtain⟨g,v,A,rfl⟩:=JO h;exact Xm p ⟨BI hx A D,Τ,Τ⟩ q
 case alloc e=>
  have Z:=h;have h:(match zC C e with
   |some z=>θ (Ro.mk [] (.c' (.p' (γ S.H) 0)) (S.H++[.bl e z]) [])
   |none=>ι)=θ b:=h
  split at h
  ·cases h;exact vi q aA2 (λd=>KG (d:=d) p Z) (λd e=>by rw[e];rfl)
  ·cases h
 case box e x=>
  have Z:=h;have h:(match(S.ev C x).cells with
   |some cs=>θ (Ro.mk [] (.c' (.p' (γ S.H) 0)) (S.H++[.bl e cs]) [])
   |none=>ι)=θ b:=h
  split at h
  ·cases h;exact vi q aA2 (λd=>E7 (d:=d) p r Z) (λd e=>by rw[e];rfl)
  ·cases h
 case buildSlice t n O=>
  have R:b.v≠.u':=by
   intro e;have h:auw C (S.ev C) S.H t n O.toList=θ b:=h;unfold auw at h;split at h
   ·split at h
    ·have I:=dF h;have E:=dF I.2;have A:=E.2;split at A
     ·cases A;cases e
     ·cases A
    ·cases h
   ·cases h
  exact vi q R (λd=>Ie (d:=d) p r h) (λd e=>by rw[e];rfl)
 case load t x=>
  obtain⟨c,I,E⟩:=lI (show gM (S.ev C x) (λK=>kI C S.H t K)=θ b from h);exact Xm p (QS p (nX p r I).2 E D) q
 case store t x y=>
  obtain⟨I,E⟩:=KE (ty:=ty) (Ο:=Ο) (Ν:=Ν) p r h D hm;rw[E]at q⊢;cases a with
  |none=>exact I
  |some d=>cases q
 case indexAddr t x Q=>
  obtain⟨K,I,E⟩:=lI (show gM (S.ev C x) (λK=>gM (S.ev C Q) λi=>vq C S.H t K i)=θ b from h);obtain⟨c,A,B⟩:=lI E;obtain⟨G,Y⟩:=nX p r I;exact Xm p (AR p Y G (nX p r A).2 B D) q
 case makeSlice t x y=>
  obtain⟨K,I,E⟩:=lI (show gM (S.ev C x) (λK=>gM (S.ev C y) λi=>Dw C S.H t (isZ x) K i)=θ b from h);obtain⟨c,A,B⟩:=lI E;have R:b.v≠.u':=by
   intro e;unfold Dw at B;split at B
   ·have G:=(dF B).2;split at G
    ·cases G;cases e
    ·cases G
   ·cases B
  exact vi q R (λd=>TZ (d:=d) hE p r (nX p r A).2 B D) (λd e=>by rw[e];rfl)
 case makeFunc f K H=>
  obtain⟨v,I,rfl⟩:=be h;exact Xm p ⟨oa p r I,Τ,Τ⟩ q
 case nilCheck x=>
  obtain⟨c,I,E⟩:=lI (show gM (S.ev C x) (λK=>mO S.H (FA K))=θ b from h);obtain⟨v,A,rfl⟩:=be E;obtain⟨B,G⟩:=nX p r I;exact Xm p ⟨zv G B A,Τ,Τ⟩ q
 case call c=>
  obtain⟨a0,fR,ts⟩:=c;cases a0<;>first|cases h|skip
  exact MW hE r p h D hm q
end
open Go.Wk
open Go.Ce (Tr)
open Nat renaming one_pos → Jf
def wx(ρ b:Nat->Ad):Ob->Ob->Prop
 |.bl e cs,d=>∃a,d=.bl e a/\cs.map (SC.v ρ)=a.map (SC.v b)/\∀(j:Nat) (c f),cs[j]? =θ c->a[j]? =θ f->c.kn=f.kn
 |o,d=>d=o
structure LR (ρ cW:Nat->Ad) (a b:List SC×List Ob):Prop where
 c:a.1.map (SC.v ρ)=b.1.map (SC.v cW)
 p:(oW a.1).map (λid=>(ρ id).b)=(oW b.1).map (λid=>(cW id).b)
 o:∀(j:Nat) (o:Ob),a.2[j]? =θ o->∃o2,b.2[j]? =θ o2/\wx ρ cW o o2
variable{t:Ty}{s:Nat}
theorem Q6{n b d:Nat}{x:t.T}{j:Nat}{c a:SC}(h:(t.lay s n x).1[j]? =θ c)(e:(t.lay b d x).1[j]? =θ a):c.kn=a.kn:=by rw[(Ty.Ed t s n x c (aI h)).1,(Ty.Ed t b d x a (aI e)).1]
theorem QW:∀(t:Ty) (s n i g) x (ρ d),(t.tz=μ->(ρ s).b=(d i).b)->(∀j,j<t.no->ρ (n+j)=d (g+j))->LR ρ d (t.lay s n x) (t.lay i g x):=by
 intro t;induction t with
 |w' t y=>intro s n i g x ρ d r m;exact y s n i g x ρ d r m
 |pr a b A z=>
  intro s n i g x ρ d r m;have u:=A s n i g x.1 ρ d (λh=>r (by simp[Ty.tz,h])) (λj B=>m j (by show j<a.no+b.no;omega));have w:=z s (n+a.no) i (g+a.no) x.2 ρ d (λh=>r (by simp[Ty.tz,h])) (λj B=>by have:=m (a.no+j) (by show a.no+j<a.no+b.no;omega);rw[Dc,Dc];exact this);refine⟨?_,?_,λj o f=> ?_⟩
  ·show((a.lay s n x.1).1++(b.lay s _ x.2).1).map _=((a.lay i g x.1).1++(b.lay i _ x.2).1).map _;rw[Rp,Rp,u.c,w.c]
  ·show(oW ((a.lay s n x.1).1++(b.lay s _ x.2).1)).map _=(oW ((a.lay i g x.1).1++(b.lay i (g+a.no) x.2).1)).map _;rw[Ac,Ac,Rp,Rp,u.p,w.p]
  ·have f:((a.lay s n x.1).2++(b.lay s _ x.2).2)[j]? =θ o:=f;show∃C,((a.lay i g x.1).2++(b.lay i (g+a.no) x.2).2)[j]? =θ C/\_;have E:=a.eA s n x.1;have D:=a.eA i g x.1;by_cases B:j<a.no
   ·rw[aJ aA0]at f⊢;exact u.o j o f
   ·rw[aO aA0]at f⊢;rw[E]at f;rw[D];exact w.o _ o f
 |l' e b t y=>
  intro s n i g x ρ d r m;have q:=m 0 Jf;rw[Ru]at q;refine⟨by simp[Ty.lay,SC.v,q],Τ,λj o f=>⟨o,f,?_⟩⟩;cases j with
  |zero=>have:Ob.rw e b t x=o:=aP f;subst this;rfl
  |succ j=>simp[Ty.lay]at f
 |y'=>
  intro s n i g x ρ d r m;have q:=m 0 Jf;rw[Ru]at q;refine⟨by simp[Ty.lay,SC.v,q],Τ,λj o f=>⟨o,f,?_⟩⟩;cases j with
  |zero=>have:Ob.br (γ x) x=o:=aP f;subst this;rfl
  |succ j=>simp[Ty.lay]at f
 |r' t y=>
  intro s n i g x ρ d r m;have q:=m 0 Jf;rw[Ru]at q;refine⟨by simp[Ty.lay,SC.v,q],Τ,λj o f=>⟨o,f,?_⟩⟩;cases j with
  |zero=>have:Ob.ro t x=o:=aP f;subst this;rfl
  |succ j=>simp[Ty.lay]at f
 |p' e t y=>
  intro s n i g x ρ d r m;have q:=m 0 (Nat.succ_pos _);rw[Ru,Ru]at q;have u:=y n (n+1) g (g+1) x ρ d (λ_=>by rw[q]) (λj B=>by have:=m (j+1) (by show j+1<t.no+1;omega);rw[Rc,Rc g];exact this);refine⟨by simp[Ty.lay,SC.v,q],by simp[Ty.lay,oW,q],λj o f=> ?_⟩;cases j with
  |zero=>have:Ob.bl e (t.lay n _ x).1=o:=aP f;subst this;exact⟨_,Τ,_,Τ,u.c,λj c F h w=>Q6 h w⟩
  |succ j=>exact u.o j o f
 |z'=>
  intro s n i g x ρ d r m;have q:=m 0 Jf;rw[Ru]at q;refine⟨by simp[Ty.lay,SC.v,q,r rfl],Τ,λj o f=>⟨o,f,?_⟩⟩;cases j with
  |zero=>have:Ob.dd 0=o:=aP f;subst this;rfl
  |succ j=>simp[Ty.lay]at f
 |f' k t y=>
  intro s n i g x ρ d r m;have u:=y s n i g x ρ d r m;refine⟨?_,Τ,u.o⟩;have:=u.p;have w:∀(ρ:Nat->Ad) (l:δ Nat),(l.map λid=>iM (ρ id).b 0)=(l.map λid=>(ρ id).b).map (λb=>iM b 0):=λρ l=>by rw[lK];rfl
  show [Θ _ #[] ((oW (t.lay s n x).1).map λid=>iM (ρ id).b 0).toArray]=[Θ _ #[] ((oW (t.lay i g x).1).map λid=>iM (d id).b 0).toArray];rw[w,w,this]
 |sm a b _ _=>intro s n i g x ρ d r m;exact⟨Τ,Τ,λj o f=>by simp[Ty.lay]at f⟩
 |_=>intro s n i g x ρ d r m;exact⟨Τ,Τ,λj o f=>by simp[Ty.lay]at f⟩
theorem Q5:∀(t:Ty) (s n) x,t.nb=μ->∀(j:Nat) e l,(t.lay s n x).2[j]? ≠θ (.ro e l):=by
 intro t;induction t with
 |w' t d=>intro s n x h;exact d s n x h
 |pr a b i g=>
  intro s n x h j e l c;have h:=gX h;have c:((a.lay s n x.1).2++(b.lay s _ x.2).2)[j]? =θ _:=c;by_cases m:j<γ (a.lay s n x.1).2
  ·rw[aJ m]at c;exact i _ _ _ h.1 _ _ _ c
  ·rw[aO aA0]at c;exact g _ _ _ h.2 _ _ _ c
 |p' e t d=>
  intro s n x h j f l c;cases j with
  |zero=>cases aP c
  |succ j=>exact d _ _ _ h j f l c
 |f' k t d=>intro s n x h;exact d s n x h
 |r' t d=>intro s n x h;cases h
 |l' e b t d=>
  intro s n x h j f l c;cases j with
  |zero=>cases aP c
  |succ j=>simp[Ty.lay]at c
 |y'=>
  intro s n x h j f l c;cases j with
  |zero=>cases aP c
  |succ j=>simp[Ty.lay]at c
 |z'=>
  intro s n x h j f l c;cases j with
  |zero=>cases aP c
  |succ j=>simp[Ty.lay]at c
 |_=>intro s n x h j e l c;simp[Ty.lay]at c
theorem K6{H:δ Ob}(A:NQ H):∀(l:δ Ty) (vs:δ SV) (a:(fU l).T) (ss:δ Src) (d:δ Ob),QA H l vs=θ (a,ss)->
  ∃obs,(jB d l a).2=d++obs/\γ obs=γ ss/\(∀v∈(jB d l a).1,v.ok (γ d+γ obs))/\(∀(j e:Nat) (cs:δ SC),obs[j]? =θ (.bl e cs)->∀c∈cs,c.ok (γ d+γ obs))/\
   ∀(ρ f:Nat->Ad),(∀(j:Nat) (s:Src),ss[j]? =θ s->f (γ d+j)=s.ad ρ)->
    (∃r:δ ξ,vs.map (SV.v ρ)=r.map θ/\(jB d l a).1.map (SV.v f)=r.map θ)/\∀(j:Nat) (s:Src) (o:Ob),ss[j]? =θ s->obs[j]? =θ o->YI μ ρ H f s o
 |[],vs,a,ss,d,h=>by
  cases vs with
  |cons v vs=>cases h
  |nil=>cases h;exact⟨[],by simp[jB],Τ,λv k=>by simp[jB]at k,λj e cs g=>by simp at g,λρ f _=>⟨⟨[],Τ,Τ⟩,λj s o g=>by simp at g⟩⟩
 |[x],vs,a,ss,d,h=>by
  simp only[QA]at h;split at h
  ·rename_i v;have k:=Ze A h;refine⟨(x.lay 0 (γ d) a).2,Τ,by rw[k.no,Ty.eA],λv q=> ?_,λj e cs g=>pw x 0 (γ d) a j e cs g,λρ f m=> ?_⟩
   ·rw[aH.1 (show v∈[x.sv (x.lay 0 (γ d) a).1]from q)];exact Ty.Gu (bjo x 0 (γ d) a k.tz)
   ·obtain⟨⟨u,F,C,_⟩,B⟩:=k.to ρ f (γ d) m;exact⟨⟨[u],by simp[F],by simp[jB,C]⟩,B⟩
  ·cases h
 |x::y::l,vs,a,ss,d,h=>by
  simp only[QA]at h;split at h
  ·rename_i v vs;split at h
   ·rename_i i G hx;split at h
    ·rename_i b J K;cases h;have k:=Ze A hx;have z:γ (x.lay 0 (γ d) i).2=γ G:=by rw[k.no,Ty.eA]
     obtain⟨obs,F,C,B,Q,P⟩:=K6 A (y::l) vs b J (d++(x.lay 0 (γ d) i).2) K;have p:γ (d++(x.lay 0 (γ d) i).2)=γ d+γ (x.lay 0 (γ d) i).2:=cE;refine⟨(x.lay 0 (γ d) i).2++obs,by rw[<-jI];exact F,by simp[z,C],λv q=> ?_,λj e cs g c I=> ?_,λρ f m=> ?_⟩
     ·rw[cE,<-Dc,<-p];rcases aQ.1 (show v∈x.sv (x.lay 0 (γ d) i).1::(jB (d++(x.lay 0 (γ d) i).2) (y::l) b).1 from q)with rfl|q
      ·exact SV.cT (Ty.Gu (bjo x 0 (γ d) i k.tz)) aA0
      ·exact B v q
     ·rw[cE,<-Dc,<-p];by_cases n:j<γ (x.lay 0 (γ d) i).2
      ·rw[aJ n]at g;exact SC.cT (pw x 0 (γ d) i j e cs g c I) aA0
      ·rw[aO aA0]at g;exact Q _ e cs g c I
     ·obtain⟨⟨u,O,N,_⟩,M⟩:=k.to ρ f (γ d) (λj s g=>m j s (by rw[aJ (aF.1 g).1];exact g));obtain⟨⟨r,L,E⟩,D⟩:=P ρ f (λj s g=>by rw[p,z,Dc];exact m _ s (by rw[aO aA0,<-g];congr 1;omega));refine⟨⟨u::r,by simp[O,L],?_⟩,λj s o t w=> ?_⟩
      ·show(x.sv (x.lay 0 (γ d) i).1::(jB (d++(x.lay 0 (γ d) i).2) (y::l) b).1).map _=_;rw[tR,N,E];rfl
      ·by_cases n:j<γ G
       ·rw[aJ n]at t;rw[aJ aA0]at w;exact M j s o t w
       ·rw[aO aA0]at t;rw[aO aA0,z]at w;exact D _ s o t w
    ·cases h
   ·cases h
  ·cases h
def lH(c:yO)(x:(fU c.a).T):δ Ob:=(jB [] c.a x).2
def It(outs:δ Nat):δ Ob->Nat->δ Nat
 |[],_=>[]
 |o::a,j=>(bif wF (θ o)then(bif lG j outs then []else [j])else [])++It outs a (j+1)
structure Cy where
 gs:List (Nat×Ob)
 p:ο->List Nat->Prop
 st:∀{w0 w:ο} {S0 S1:List Nat} {L:List cF},Hp w0 S0 L w->p w0 S0->(∀b∈S1,w0.heap.size<=b\/b∈S0)->p w S1
 rd:∀{w:ο} {S:List Nat} {g:Nat} {t:Ty} {l:List t.T},p w S->(g,.ro t l)∈gs->Rd w (θ ⟨g,0,ι⟩) (l.flatMap t.enc)/\g∉S
def Gw(G:Cy)(w:ο)(S:δ Nat):Prop:=G.p w S
variable{a:Type}
def Gv.ok:Gv a->a->Prop
 |.one o,y=>o=θ y
 |.gs l z,y=>Jd l/\z=y
theorem Pm{ρ:Type}{x:ε ρ}{r:ρ}:∀{l:δ PD},gdL l x=θ r->Jd l/\x=θ r
 |[],h=>⟨trivial,h⟩
 |⟨p,e⟩::l,h=>by obtain⟨d,c⟩:=V6 h;obtain⟨b,a⟩:=Pm c;exact⟨⟨d,b⟩,a⟩
theorem Gv.qj{ρ:Type}{g:Gv a}{k:a->ε ρ}{r:ρ}(h:g.bd k=θ r):∃y,g.ok y/\k y=θ r:=by
 cases g with
 |one o=>obtain⟨y,b,c⟩:=Cc (h);exact⟨y,b,c⟩
 |gs l z=>obtain⟨b,c⟩:=Pm (h);exact⟨z,⟨b,Τ⟩,c⟩
def lC(c:yO)(x:(fU c.a).T)(y:(gU c.r).T):δ SA×δ Ob:=fV (λj=>j) ([],kill (lH c x) (It (Rk.ids c.r) (lH c x) 0)) c.r y
def Tq(P:Β)(i:Cy)(k:Nat)(c:yO):Prop:=∀w S d L e x y,Gw i w S->Hp w S L w->Mt w S d (lH c x) L->
 (jB [] c.a x).1.map (SV.v d)=e.map θ->(c.f x).ok y->CR P k e w λv h=>∃b g,Up (γ (lH c x)) d b/\Hp w S g h/\Mt w S b (lC c x y).2 g/\(lD (lC c x y).1).v b=θ v
theorem Bw{outs:δ Nat}:∀{obs:δ Ob}{i j:Nat},j∈It outs obs i↔∃o,i<=j/\obs[j-i]? =θ o/\wF (θ o)=μ/\j∉outs
 |[],i,j=>by simp[It]
 |o::obs,i,j=>by
  have l:=Bw (outs:=outs) (obs:=obs) (i:=i+1) (j:=j);simp only[It,aV,l];constructor
  ·rintro(h|⟨c,n,b,d⟩)
   ·cases f:wF _ with
    |false=>rw[f]at h;cases h
    |true=>
     rw[f]at h;cases a:lG i outs with
     |true=>rw[a]at h;cases h
     |false=>rw[a]at h;simp at h;subst h;exact⟨o,dK _,aA2,f,λm=>by rw[Xl.2 m]at a;cases a⟩
   ·refine⟨c,aA0,?_,d⟩;rw[show j-i=(j-(i+1))+1 by omega];exact b
  ·rintro⟨c,n,b,d,k⟩;by_cases g:i=j
   ·subst g;have e:o=c:=by simpa using b
    subst e;have a:lG i outs=ν:=by
     cases a:lG i outs with
     |false=>rfl
     |true=>exact absurd (Xl.1 a) k
    rw[d,a];simp
   ·right;refine⟨c,aA0,?_,d,k⟩;rw[show j-i=(j-(i+1))+1 by omega]at b;exact b
theorem Fj{outs:δ Nat}:∀{obs:δ Ob}{ss:δ Src}{i id:Nat},id∈kM outs obs i ss↔∃j o s,i<=j/\obs[j-i]? =θ o/\ss[j-i]? =θ s/\wF (θ o)=μ/\j∉outs/\id∈s.own
 |[],ss,i,id=>by simp[kM]
 |o::obs,[],i,id=>by simp[kM]
 |o::obs,s::ss,i,id=>by
  have p:=Fj (outs:=outs) (obs:=obs) (ss:=ss) (i:=i+1) (id:=id);simp only[kM,aV,p];constructor
  ·rintro(h|⟨j,f,d,r,c,b,g⟩)
   ·cases k:wF _ with
    |false=>rw[k]at h;cases h
    |true=>
     rw[k]at h;cases a:lG i outs with
     |true=>rw[a]at h;cases h
     |false=>rw[a]at h;exact⟨i,o,s,dK _,aA2,aA2,k,(λq=>by rw[Xl.2 q]at a;cases a),h⟩
   ·refine⟨j,f,d,aA0,?_,?_,g⟩
    ·rw[show j-i=(j-(i+1))+1 by omega];exact c
    ·rw[show j-i=(j-(i+1))+1 by omega];exact b
  ·rintro⟨j,f,d,r,c,b,g,n,m⟩;by_cases l:i=j
   ·subst l;left;have e:o=f:=aC8;have t:s=d:=aC2
    subst e;subst t;have a:lG i outs=ν:=by
     cases a:lG i outs with
     |false=>rfl
     |true=>exact absurd (Xl.1 a) n
    rw[g,a];exact m
   ·right;refine⟨j,f,d,aA0,?_,?_,g,n,m⟩
    ·rw[show j-i=(j-(i+1))+1 by omega]at c;exact c
    ·rw[show j-i=(j-(i+1))+1 by omega]at b;exact b
open Nat renaming beq → cY, one_pos → Jf
structure PR (n nc:Nat) (H:List Ob) (ρ cW ρ3:Nat->Ad) (ss:List Src) (rg:List Rg) (Hc Hk:List Ob) (lc lk:List SA) (k:Nat):Prop where
 ec:γ Hc=nc+k
 ek:γ Hk=n+k
 nw:∀(i:Nat) (o:Ob),i<k->Hc[nc+i]? =θ o->(∃o3,Hk[n+i]? =θ o3/\wx cW ρ3 o o3)/\∀(t:Ty) (l:List t.T),o≠.ro t l
 ow:∀(j id:Nat) (o:Ob),ss[j]? =θ (.o' id μ)->Hc[j]? =θ o->(∃o3,Hk[id]? =θ o3/\wx cW ρ3 o o3)/\∀(t:Ty) (l:List t.T),o≠.ro t l
 ok:∀(j id m:Nat),ss[j]? =θ (.k' id m μ)->Hk[id]? =θ (.dd 0)
 ot:∀id,id<n->id∉gV ss->Hk[id]? =H[id]?
 ho:∀(id e:Nat) (cs:List SC),Hk[id]? =θ (.bl e cs)->∀c∈cs,c.ok (n+k)
 kp:∀(id:Nat) (o:Ob),H[id]? =θ o->kV rg id ρ ρ3 Hk[id]? o
 vl:lc.map (SA.v cW)=lk.map (SA.v ρ3)
 vo:∀v∈lk,v.ok (n+k)
theorem wx.len{ρ cW:Nat->Ad}{o a:Ob}(h:wx ρ cW o a):a.len=o.len:=by
 cases o with
 |bl e cs=>obtain⟨b,rfl,_⟩:=h;rfl
 |_=>have h:=h;rw[h]
theorem yk{ρ cW:Nat->Ad}{a b:δ SC}(h:a.map (SC.v ρ)=b.map (SC.v cW)):(t.sa a).v ρ=(t.sa b).v cW:=by
 unfold Ty.sa;cases t.agg with
 |true=>simp only[aM,SA.v,h]
 |false=>
  simp
  match a,b,h with
  |[],[],_=>rfl
  |[t],[y],h=>simpa [SA.v] using h
  |t::y::a,u::v::b,h=>simp only[SA.v,h]
  |[],_::_,h=>simp at h
  |_::_,[],h=>simp at h
  |[_],_::_::_,h=>simp at h
  |_::_::_,[_],h=>simp at h
theorem TN:∀{x:Ty}{v:x.T}{o:Ob},fq s x v=θ o->(∀t l,o≠.ro t l)/\∀e cs,o≠.bl e cs:=by intro x;cases x<;>intro v o h<;>first|(cases h;exact⟨(λt l e=>by cases e),(λe cs a=>by cases a)⟩)|cases h
theorem tt{b:Src}(h:b.ow=θ s):b=.o' s μ\/∃m,b=.k' s m μ:=by
 cases b with
 |o' i w=>cases w<;>simp[Src.ow]at h;subst h;exact .inl Τ
 |n'=>simp[Src.ow]at h
 |k' i m w=>cases w<;>simp[Src.ow]at h;subst h;exact .inr ⟨m,Τ⟩
 |z' t=>simp[Src.ow]at h
section
variable{n nc:Nat}{H:δ Ob}{ρ cW ρ3:Nat->Ad}{ss:δ Src}{rg:δ Rg}{Hc Hk:δ Ob}{lc lk:δ SA}{k:Nat}
theorem PR.app(h:PR n nc H ρ cW ρ3 ss rg Hc Hk lc lk k)(E:γ ss<=nc)(hid:∀(j:Nat) s i,ss[j]? =θ s->s.ow=θ i->i<n)(F:γ H=n){a b:δ SC×δ Ob}(u:LR cW ρ3 a b)(C:γ a.2=γ b.2)
  (q:∀(j:Nat) t l,a.2[j]? ≠θ (.ro t l)) (p:∀(j e:Nat) cs,b.2[j]? =θ (.bl e cs)->∀c∈cs,c.ok (n+(k+γ b.2))):
  PR n nc H ρ cW ρ3 ss rg (Hc++a.2) (Hk++b.2) lc lk (k+γ b.2):=by
 have z:=h.ec;have y:=h.ek;refine⟨by simp[z,C,Dc],by simp[y,Dc],λi o g d=> ?_,λj id o f d=> ?_,λj id m f=> ?_,λid g B=> ?_,λid e cs d c w=> ?_,λid o d=> ?_,h.vl,λv A=> ?_⟩
 ·by_cases r:i<k
  ·rw[aJ aA0]at d⊢;exact h.nw i o r d
  ·rw[aO aA0,z,show nc+i-(nc+k)=i-k by omega]at d;rw[aO aA0,y,show n+i-(n+k)=i-k by omega];exact⟨u.o _ o d,λt l e=>q _ t l (by rw[d,e])⟩
 ·have D:=(aF.1 f).1;have:=hid j _ id f Τ;rw[aJ aA0]at d⊢;exact h.ow j id o f d
 ·have:=hid j _ id f Τ;rw[aJ aA0];exact h.ok j id m f
 ·rw[aJ aA0];exact h.ot id g B
 ·by_cases g:id<γ Hk
  ·rw[aJ g]at d;exact SC.cT (h.ho id e cs d c w) aA0
  ·rw[aO aA0]at d;exact p _ e cs d c w
 ·have:=(aF.1 d).1;rw[aJ aA0];exact h.kp id o d
 ·have:=h.vo v A;cases v with
  |c' x=>exact SC.cT this aA0
  |a' l=>exact λx hx=>SC.cT (this x hx) aA0
theorem PR.dP(h:PR n nc H ρ cW ρ3 ss rg Hc Hk lc lk k)(B:(gV ss).Nodup)(hid:∀(j:Nat) s i,ss[j]? =θ s->s.ow=θ i->i<n){j id:Nat}{o o3:Ob}(r:ss[j]? =θ (.o' id μ))(E:wx cW ρ3 o o3)(y:∀t l,o≠.ro t l)(z:∀A,H[id]? =θ A->kV rg id ρ ρ3 (θ o3) A)(I:γ ss<=nc)
  (x:∀e cs,o3=.bl e cs->∀c∈cs,c.ok (n+k)):PR n nc H ρ cW ρ3 ss rg (jC Hc j o) (jC Hk id o3) lc lk k:=by
 have G:=h.ec;have F:=h.ek;have J:=hid j _ id r Τ;have D:=(aF.1 r).1;refine⟨by rw[NB,G],by rw[NB,F],λi p u d=> ?_,λw a p b d=> ?_,λw a m b=> ?_,λa u v=> ?_,λa e cs d c C=> ?_,λa p d=> ?_,h.vl,h.vo⟩
 ·rw[yF,aA aA0]at d;rw[yF,aA aA0];exact h.nw i p u d
 ·by_cases q:w=j
  ·subst q;rw[r]at b;cases b;rw[yF,aB ⟨rfl,aA0⟩]at d;cases d;rw[yF,aB ⟨rfl,aA0⟩];exact⟨⟨o3,Τ,E⟩,y⟩
  ·have f:a≠id:=λe=>q (Ms B b aF5 r Τ);rw[yF,aA (λg=>q g.1)]at d;rw[yF,aA (λg=>f g.1)];exact h.ow w a p b d
 ·have f:a≠id:=λe=>by have:=Ms B b aF5 r Τ;subst this;rw[r]at b;cases b
  rw[yF,aA (λg=>f g.1)];exact h.ok w a m b
 ·have f:a≠id:=λe=>v (by rw[e];exact rV r Τ);rw[yF,aA (λg=>f g.1)];exact h.ot a u v
 ·rw[yF]at d;split at d
  ·cases d;exact x e cs Τ c C
  ·exact h.ho a e cs d c C
 ·rw[yF];split
  ·rename_i g;rw[g.1]at d⊢;exact z p d
  ·exact h.kp a p d
theorem PR.steps(hn:(gV ss).Nodup)(R:γ ss<=nc)(hid:∀(j:Nat) s i,ss[j]? =θ s->s.ow=θ i->i<n)(hH:γ H=n)(b6:γ ss=nc)
  (O:∀i,ρ3 (n+i)=cW (nc+i)) (a3:∀j id,ss[j]? =θ (.o' id μ)->ρ3 id=cW j):∀r y (Hc Hk) (lc lk) k,PR n nc H ρ cW ρ3 ss rg Hc Hk lc lk k->Lt H ss r=μ->(∀id∈kH ss (Rk.ids r),∀q,q=sZ H id->∀j,j<q.2.2->eO id j rg=μ)->
  ∃F,PR n nc H ρ cW ρ3 ss rg (fV (λj=>j) (lc,Hc) r y).2 (fV (Jv ss) (lk,Hk) r y).2 (fV (λj=>j) (lc,Hc) r y).1 (fV (Jv ss) (lk,Hk) r y).1 F:=by
 have one:∀q v (Hc Hk) (lc lk) k,PR n nc H ρ cW ρ3 ss rg Hc Hk lc lk k->Lt H ss [q]=μ->(∀id∈kH ss (Rk.ids [q]),∀q,q=sZ H id->∀j,j<q.2.2->eO id j rg=μ)->
   ∃F,PR n nc H ρ cW ρ3 ss rg (q.put (λj=>j) (lc,Hc) v).2 (q.put (Jv ss) (lk,Hk) v).2 (q.put (λj=>j) (lc,Hc) v).1 (q.put (Jv ss) (lk,Hk) v).1 F:=by
  intro q v Hc Hk lc lk k h a b;have h1:=h.ec;have z:=h.ek;simp only[Lt]at a;have a:=(gX a).1;cases q with
  |r' x=>
   have a:(bif x.tz then ν else x.nb)=μ:=a;cases A:x.tz with
   |true=>rw[A]at a;cases a
   |false=>
    rw[A]at a;have a:=a;have m:=QW x 0 (γ Hc) 0 (γ Hk) v cW ρ3 (λe=>by rw[A]at e;cases e) (λj _=>by rw[h1,z,Dc,Dc];exact(O _).symm);have g:=h.app R hid hH m ((Ty.eA x 0 (γ Hc) v).trans (Ty.eA x 0 (γ Hk) v).symm) (Q5 x 0 (γ Hc) v a) (λj e cs L=>by have:=pw x 0 (γ Hk) v j e cs L;rw[z,Dc]at this;rw[z];exact this);refine⟨_,g.ec,g.ek,g.nw,g.ow,g.ok,g.ot,g.ho,g.kp,?_,λu G=> ?_⟩
    ·show(lc++[x.sa (x.lay 0 (γ Hc) v).1]).map _=(lk++[x.sa (x.lay 0 (γ Hk) v).1]).map _;rw[Rp,Rp,h.vl,eu,eu,yk m.c]
    ·rcases aV.1 (G)with G|G
     ·exact g.vo u G
     ·rw[aH.1 G];have:=Ty.sa_ok (x:=x) (bjo x 0 (γ Hk) v A);rw[<-Dc,<-z];exact this
  |o' j e x=>
   have a:(bif x.nb then(match fC ss j with
    |some (.o' id w)=>bif w then(match fC H id with
     |some (.bl S cs)=>bif cY S e then cY (γ cs) x.cn else ν
     |_=>ν)else ν
    |_=>ν)else ν)=μ:=a
   have a:=gX a;have W:=a.1;have a:=a.2;split at a
   ·rename_i id w f;have a:=gX a;have V:=a.1;subst V;have a:=a.2;split at a
    ·rename_i S c0 hb;have a:=gX a;rw[gG]at f hb;have a1:=gR a.1;have a4:=gR a.2;subst a1;have N:=hid j _ id f Τ;have X:=(aF.1 f).1;have p:Jv ss j=id:=by unfold Jv;rw[gG,f]
     have m:=QW x j (γ Hc) id (γ Hk) v cW ρ3 (λ_=>by rw[a3 j id f]) (λj _=>by rw[h1,z,Dc,Dc];exact(O _).symm);have K:∀c∈(x.lay id (γ Hk) v).1,c.ok (n+(k+γ (x.lay id (γ Hk) v).2)):=λc Q i a0=>by
      rcases(Ty.Ed x id (γ Hk) v c Q).2 i a0 with h3|h3
      ·omega
      ·omega
     have g:=h.app R hid hH m ((Ty.eA x j (γ Hc) v).trans (Ty.eA x id (γ Hk) v).symm) (Q5 x j (γ Hc) v W) (λj e cs L=>by have:=pw x id (γ Hk) v j e cs L;rw[z,Dc]at this;rw[z];exact this);have J:=g.dP (o:=.bl S (x.lay j (γ Hc) v).1) (o3:=.bl S (x.lay id (γ Hk) v).1) hn hid f ⟨_,Τ,m.c,λj c c2 h z=>Q6 h z⟩ (λt l e=>by cases e) (λU E=> ?_) R (λe cs he c Q=>by cases he;exact K c Q)
     ·refine⟨k+γ (x.lay id (γ Hk) v).2,?_⟩;have e1:∀{Z B:δ Ob} {i:Nat} {o:Ob},i<γ Z->jC (Z++B) i o=jC Z i o++B:=λhl=>by rw[oX,oX,cp _ _ hl]
      rw[e1 aA0,e1 aA0]at J;show PR n nc H ρ cW ρ3 ss rg _ (jC Hk _ _++(x.lay _ (γ Hk) v).2) lc lk _;rw[p];exact J
     ·rw[hb]at E;cases E;refine .inr ⟨_,Τ,(Ty.AG x id (γ Hk) v).trans a4.symm,λjj c Q=>.inl ?_⟩;have Y:=(aF.1 Q).1;refine b id ?_ _ Τ jj ?_
      ·show id∈[Jv ss j];rw[p];exact aH.2 Τ
      ·unfold sZ;rw[gG,hb];exact Y
    ·cases a
   ·cases a
  |w' j x=>
   have a:(match fC ss j with
    |some (.o' id w)=>bif w then wF _ else ν
    |_=>ν)=μ:=a
   split at a
   ·rename_i id w f;have a:=gX a;have V:=a.1;subst V;have d:=a.2;rw[gG]at f d;have N:=hid j _ id f Τ;have X:=(aF.1 f).1;have p:Jv ss j=id:=by unfold Jv;rw[gG,f]
    have P:Hc[j]? =θ _:=aN aA0;obtain⟨⟨o3,h3,h4⟩,_⟩:=h.ow j id _ f P;have M:fN Hk id=fN Hc j:=by rw[nD h3,nD P,h4.len]
    refine⟨k,?_⟩;show PR n nc H ρ cW ρ3 ss rg (qD Hc j x v) (qD Hk (Jv ss j) x v) lc lk k;rw[p];unfold qD;rw[M];split
    ·rename_i o L;have D:(∀(t:Ty) (l:δ t.T),o≠.ro t l)/\wx cW ρ3 o o/\∀(e:Nat) (cs:δ SC),o≠.bl e cs:=by
      obtain⟨h5,h6⟩:=TN L;refine⟨h5,?_,h6⟩;cases o with
      |bl e cs=>exact absurd Τ (h6 e cs)
      |_=>rfl
     refine h.dP hn hid f D.2.1 D.1 (λU E=> ?_) R (λe cs he=>absurd he (D.2.2 e cs));have a5:eO id 0 rg=μ:=by
      refine b id ?_ _ Τ 0 ?_
      ·show id∈[Jv ss j];rw[p];exact aH.2 Τ
      ·unfold sZ;rw[gG,E];rw[E]at d;cases U<;>first|exact Jf|cases d
     rw[E]at d;cases U<;>first|exact .inl a5|cases d
    ·exact h
   ·cases a
 intro r;induction r with
 |nil=>intro y Hc Hk lc lk k h _ _;exact⟨k,h⟩
 |cons q r ih=>
  intro y Hc Hk lc lk k h a b;cases r with
  |nil=>exact one q y Hc Hk lc lk k h a b
  |cons q2 r=>
   have I:=gX (a);have C:∀id,id∈kH ss (Rk.ids [q])\/id∈kH ss (Rk.ids (q2::r))->id∈kH ss (Rk.ids (q::q2::r)):=by
    intro id hid;cases q with
    |r' x=>
     rcases hid with hid|hid
     ·cases hid
     ·exact hid
    |o' i e x=>
     rcases hid with hid|hid
     ·exact aQ.2 (.inl (aH.1 hid))
     ·exact fB _ hid
    |w' i x=>
     rcases hid with hid|hid
     ·exact aQ.2 (.inl (aH.1 hid))
     ·exact fB _ hid
   obtain⟨F,z⟩:=one q y.1 Hc Hk lc lk k h (by have:=I.1;simp only[Lt];rw[this];rfl) (λid N=>b id (C id (.inl N)));exact ih y.2 _ _ _ _ F z I.2 (λid N=>b id (C id (.inr N)))
end
open Go.Wk
open Go.Ce (Tr)
open Go.Value renaming ownBlock → Db
open List renaming length → aL
theorem map_some{b a:Type}{f:b->a}{l:δ b}{j:Nat}{r:a}(h:(l.map f)[j]? =θ r):∃x,l[j]? =θ x/\f x=r:=by
 rw[bD]at h;cases c:l[j]? with
 |none=>rw[c]at h;cases h
 |some x=>rw[c]at h;exact⟨x,Τ,aP h⟩
variable{w b:ο}{S:δ Nat}{L:δ cF}{j c:Nat}{r:cF}
theorem O0(p:Hp w S L b){t:Nat}{g:cF}(h:L[j]? =θ r)(q:L[c]? =θ g)(l:r.own=θ t)(a:g.own=θ t):j=c:=by
 obtain⟨d,n⟩:=aF.1 h;obtain⟨i,m⟩:=aF.1 q;have k:=eE.1 p.sep;rcases Nat.lt_trichotomy j c with e|o|f
 ·exact absurd (by rw[m];exact a) (k j c d i e t (by rw[n];exact l))
 ·exact o
 ·exact absurd (by rw[n];exact l) (k c j i d f t (by rw[m];exact a))
variable{a n:Nat->Ad}{H:δ Ob}{s:Src}{o:Ob}
theorem tn(h:YI μ a H n s o)(b:∀t l,o≠.ro t l):YI ν a H n s o:=by
 cases o with
 |ro t l=>exact absurd Τ (b t l)
 |_=>exact h
theorem DF(c:NO a H)(d:NQ H)(h:YI μ a H n s o):o.len=(s.ad a).ln:=by
 cases o with
 |ro t l=>
  rcases h with⟨id,rfl,f⟩|⟨rfl,rfl⟩|⟨_,id,m,e,cs,rfl,f,b⟩
  ·obtain⟨ob,b,g⟩:=Xi (λm x hx=>d id m x hx) (f);have:=c id ob b;show γ l=(a id).ln;rw[<-g];exact this
  ·rfl
  ·exact(dq b).1
 |_=>exact OU c d (tn h (λt l e=>by cases e))
theorem ys{S1:δ Nat}(h:RO w S a j o r)(ρ:∀t l,o≠.ro t l):RO b S1 a j o r:=by
 cases o with
 |ro t l=>exact absurd Τ (ρ t l)
 |_=>exact h
theorem ia{S1:δ Nat}(ρ:Hp w S L b)(D:Mt w S a H L)(W:∀a0∈S1,w.heap.size<=a0\/a0∈S)(E:∀id∈s.bor,∀r a0,L[id]? =θ r->r.own=θ a0->a0∉S1)(h:YI μ a H n s o)(R:n j=s.ad a):
  ∃r,RO b S1 n j o r/\r.holds b/\∀a0,r.own=θ a0->∃i Q,s.ow=θ i/\L[i]? =θ Q/\Q.own=θ a0:=by
 cases o with
 |ro t l=>
  refine⟨dL,⟨Τ,?_⟩,trivial,λa0 u=>by cases u⟩;rw[R];rcases h with⟨id,rfl,k⟩|⟨rfl,rfl⟩|⟨_,id,m,e,cs,rfl,k,J⟩
  ·have k:=k;have E:=E id (by simp[Src.bor]);show Xp b S1 (a id) t l;unfold Hu at k;split at k
   ·rename_i e a0 t2 x u;split at k
    ·rename_i q;obtain rfl:=Ty.jK q;cases k;obtain⟨_,r,c,N⟩:=D.2 id _ u;subst N;refine⟨ρ.gL id c,λd p f=> ?_,ρ.Gy id c⟩;have M:x≠[]:=λe=>by rw[e]at d;exact d Τ
     obtain⟨z,_⟩:=ρ.res _ (aI c);rcases z with⟨_,y,_⟩|⟨g,P,Z,y,_⟩
     ·exact absurd y M
     ·rw[f]at y;cases y;exact E _ _ c Z
    ·cases k
   ·rename_i t2 x u;split at k
    ·rename_i q;obtain rfl:=Ty.jK q;cases k;obtain⟨_,r,c,_,B,d,C⟩:=D.2 id _ u;refine⟨B.dj ρ d,λG p f O=> ?_,C⟩;have K:=d G p f;rcases W _ O with A|A
     ·obtain⟨v,U⟩:∃v,(x.flatMap t2.enc)[0]? =θ v:=by
       cases q:x.flatMap t2.enc with
       |nil=>exact absurd q G
       |cons v T=>exact⟨v,Τ⟩
      obtain⟨X,I,F⟩:=B 0 v U;rw[f]at I;cases I;have:=Cb F;rw[bkd]at this;omega
     ·exact K A
    ·cases k
   ·rename_i m x u;unfold strOf at k;split at k
    ·rename_i q;obtain rfl:=Ty.jK q;cases k;obtain⟨_,r,c,N⟩:=D.2 id _ u;subst N;obtain⟨⟨F,g,cap,P,e,Y,z,Z,y,_⟩,_⟩:=ρ.res _ (aI c);simp only[Value.slice.injEq]at z;refine⟨Rd.dD (ρ.dN id c),λG p f=> ?_,?_⟩
     ·rw[z.1]at f;cases f;exact E _ g c (by simp[gF,Db,z.1])
     ·show γ x<=(a id).cap;rw[F,z.2.2];exact y
    ·cases k
   ·cases k
  ·exact⟨Rd.nil _ _,λh=>absurd Τ h,cH _⟩
  ·obtain⟨_,r,c,T,rfl,V⟩:=D.2 id _ k;obtain⟨A,_,I⟩:=dq J;have F:=V.all (rP J);refine⟨?_,λG p f=> ?_,by rw[A];exact dK _⟩
   ·rw[<-I a,<-F];exact ρ.fQ id c
   ·cases f;exact E id (by simp[Src.bor]) _ _ c Τ
 |_=>obtain⟨r,k,J,A⟩:=F6 ρ D (tn h (λt l e=>by cases e)) R;exact⟨r,ys k (λt l e=>by cases e),J,A⟩
theorem zO(h:YI μ a H n s o)(d:s.ow=θ j):
  (s=.o' j μ/\((∃e cs ρ,o=.bl e cs/\H[j]? =θ (.bl e ρ)/\ρ.map (SC.v a)=cs.map (SC.v n)/\(∀c∈ρ,c.kn=μ)/\∀c∈cs,c.kn=μ)\/(∃e b t l,o=.rw e b t l/\H[j]? =θ (.rw e b t l))\/∃p l m,o=.br p l/\p=aL l/\H[j]? =θ (.br m l)))\/
  ∃m e b t l cs,s=.k' j m μ/\o=.rw e b t l/\H[j]? =θ (.bl e cs):=by
 cases o with
 |bl e cs=>obtain⟨i,ρ,rfl,f⟩:=h;cases d;exact .inl ⟨Τ,.inl ⟨e,cs,ρ,Τ,f⟩⟩
 |rw e b t l=>
  rcases h with⟨i,rfl,f⟩|⟨rfl,_⟩|⟨i,m,cs,rfl,f,_⟩
  ·cases d;exact .inl ⟨Τ,.inr (.inl ⟨e,b,t,l,Τ,f⟩)⟩
  ·cases d
  ·cases d;exact .inr ⟨m,e,b,t,l,cs,Τ,Τ,f⟩
 |ro t l=>rcases h with⟨i,rfl,_⟩|⟨rfl,_⟩|⟨_,i,m,e,cs,rfl,_⟩<;>cases d
 |br p l=>obtain⟨f,i,m,rfl,g⟩:=h;cases d;exact .inl ⟨Τ,.inr (.inr ⟨p,l,m,Τ,f,g⟩)⟩
 |dd p=>rcases h with⟨_,⟨t,rfl⟩|⟨k,rfl,_⟩⟩<;>cases d
theorem X7{S0:δ Nat}{o3:Ob}(h:wx a n o o3)(f:n c=a j)(u:∀t l,o≠.ro t l)(C:RO w S a j o r):RO b S0 n c o3 r:=by
 cases o with
 |bl e cs=>
  obtain⟨m,rfl,q,A⟩:=h;obtain⟨s,rfl,z,y⟩:=C;have x:aL cs=aL m:=by simpa using bA aL q
  refine⟨s,by rw[f],by rw[z,x],λi B g d=> ?_⟩;have v:=(aF.1 g).1;have k:cs[i]? =θ _:=aN aA0;rw[y i _ k (by rw[A i _ B k g];exact d)];have p:=bA (λl=>l[i]?) q;simp only[bD,k,g]at p;exact p
 |rw e E t l=>subst h;show r=_;rw[f];exact C
 |ro t l=>exact absurd Τ (u t l)
 |br D l=>subst h;show r=_;rw[f];exact C
 |dd D=>subst h;trivial
theorem ag{ss:δ Src}(h:ss[j]? =θ s)(b:c∈s.bor):c∈pt ss:=by
 induction ss generalizing j with
 |nil=>simp at h
 |cons x ss a=>
  cases j with
  |zero=>have e:x=s:=aA7;subst e;exact Gi _ b
  |succ j=>exact YO _ (a aA7)
def rOf(L:δ cF):ε Nat->cF
 |some id=>(L[id]?).getD dL
 |none=>dL
variable{l:δ SA}
theorem K1{b:δ SA}{v:ξ}(h:l.map (SA.v a)=b.map (SA.v n))(c:(lD l).v a=θ v):(lD b).v n=θ v:=by
 match l,b,h with
 |[],[],_=>exact c
 |[x],[y],h=>have h:x.v a=y.v n:=aA7;show y.sv.v n=θ v;rw[SA.gm,<-h,<-SA.gm];exact c
 |x::y::l,u::z::b,h=>show θ _=θ v;rw[<-h];exact c
 |[],_::_,h=>simp at h
 |_::_,[],h=>simp at h
 |[_],_::_::_,h=>simp at h
 |_::_::_,[_],h=>simp at h
theorem jg(h:∀v∈l,v.ok j):(lD l).ok j:=by
 match l,h with
 |[],_=>exact λx hx=>by cases hx
 |[x],h=>exact SA.Gu (h x gQ)
 |x::y::l,h=>exact λz a=>h z a
section
variable{C:Cx}{md:Md}{w0 w:ο}{S0:δ Nat}{ρ:Nat->Ad}{S:St}{F:Nat->ξ}{GS:Cy}
theorem gw_now{L:δ cF}{S1:δ Nat}(d:Gw GS w0 S0)(c:Hp w0 S0 L w)(a:∀b∈S1,w0.heap.size<=b\/b∈S0):Gw GS w S1:=GS.st c d a
theorem ph(hS:Rel C w0 S0 ρ S F w)(hG:Gw GS w0 S0){c:yO}{k:Nat}(hF:Tq C.P GS k c){vs:δ SV}{a:(fU c.a).T}{ss:δ Src}{y:(gU c.r).T}(h:QA S.H c.a vs=θ (a,ss))(V:mG c S a ss=μ)(hy:(c.f a).ok y):
  ∃us,vs.map (SV.v ρ)=us.map θ/\CR C.P k us w λv w2=>∃ρ3,∀d:ε Nat,Rel C w0 S0 ρ3 (kP c S d a ss y) (match d with
   |some d=>dP F d v
   |none=>F) w2/\Nx S ρ (kP c S d a ss y) ρ3:=by
 obtain⟨L,hH,hM⟩:=hS.mem;have d2:=zX hS;have d4:=zY hS;unfold mG at V;have V:=gX V;have c0:=mZ.1 V.1;have V:=gX V.2;have i3:=sT.1 V.1;have V:=gX V.2;have g2:=V.1;have g6:=V.2;obtain⟨K,h1,h2,h3,h4,h5⟩:=K6 d4 c.a vs a ss [] h;rw[Ic]at h1
 let b4:Nat->Ad:=λj=>match ss[j]? with
  |some s=>s.ad ρ
  |none=>⟨ι,ι,0,ν,0⟩
 have b1:∀(j:Nat) (s:Src),ss[j]? =θ s->b4 j=s.ad ρ:=λj s p=>by simp only[b4,p]
 obtain⟨⟨us,h6,h7⟩,h8⟩:=h5 ρ b4 (λj s p=>by rw[iH,Kh];exact b1 j s p);refine⟨us,h6,?_⟩;have l1:=hM.1;let L1:δ cF:=ss.map λs=>rOf L s.ow;let Lr:δ cF:=(List.range (γ S.H)).map λid=>bif lG id (gV ss)then dL else(L[id]?).getD dL;have m0:γ L1=aL ss:=by simp[L1]
 have n3:γ Lr=γ S.H:=by simp[Lr]
 have d6:∀(j:Nat) (r:cF) (b:Nat),L1[j]? =θ r->r.own=θ b->∃s id W,ss[j]? =θ s/\s.ow=θ id/\L[id]? =θ W/\W.own=θ b/\r=W:=by
  intro j r b p O;obtain⟨s,E,A⟩:=map_some p;subst A;cases M:s.ow with
  |none=>rw[M]at O;cases O
  |some id=>
   cases hl:L[id]? with
   |none=>
    have e:rOf L s.ow=dL:=by rw[M];show(L[id]?).getD dL=_;rw[hl];rfl
    rw[e]at O;cases O
   |some W=>
    have e:rOf L (θ id)=W:=by show(L[id]?).getD dL=_;rw[hl];rfl
    rw[M]at O;exact⟨s,id,W,E,M,hl,by rw[<-e];exact O,e⟩
 have e7:Hp w0 S0 (L1++Lr) w:=by
  refine Go.Oe.Hp.pick (ss.map Src.ow++(List.range (γ S.H)).map λid=>bif lG id (gV ss)then ι else θ id) hH (λj r p=> ?_) (λj k i p hk=> ?_)
  ·by_cases G:j<aL ss
   ·rw[aJ aA0]at p;refine⟨?_,λb O=> ?_⟩
    ·obtain⟨s,E,A⟩:=map_some p;subst A;cases M:s.ow with
     |none=>trivial
     |some id=>
      show cF.holds ((L[id]?).getD dL) w;cases hl:L[id]? with
      |none=>trivial
      |some W=>exact(hH.res _ (aI hl)).1
    ·obtain⟨s,id,W,E,A,J,D,rfl⟩:=d6 j r b p O;refine⟨id,r,?_,J,D⟩;rw[aJ (by simpa using G),bD,E];exact bA θ A
   ·rw[aO aA0,m0]at p;have p:((List.range (γ S.H)).map _)[j-aL ss]? =θ r:=p;rw[bD]at p;by_cases X:j-aL ss<γ S.H
    ·rw[cZ X]at p;have p:(bif lG (j-aL ss) (gV ss)then dL else(L[j-aL ss]?).getD dL)=r:=aP p;have e9:L[j-aL ss]? =θ (L[j-aL ss]' aA0):=aN aA0;cases hm:lG (j-aL ss) (gV ss)with
     |true=>rw[hm]at p;rw[<-p];exact⟨trivial,λb O=>by cases O⟩
     |false=>rw[hm,e9]at p;have p:L[j-aL ss]=r:=p;rw[<-p];refine⟨(hH.res _ (aI e9)).1,λb O=>⟨j-aL ss,_,?_,e9,O⟩⟩;rw[aO aA3,Gk,bD,cZ X];simp only[cy,hm,aG]
    ·rw[bO (by simpa using JA X)]at p;cases p
  ·have key:∀j,(ss.map Src.ow++(List.range (γ S.H)).map λid=>bif lG id (gV ss)then ι else θ id)[j]? =θ (θ i)->(j<aL ss/\∃s,ss[j]? =θ s/\s.ow=θ i)\/(aL ss<=j/\j-aL ss=i/\i∉gV ss):=by
    intro j p;by_cases G:j<aL ss
    ·rw[aJ (by simpa using G),bD]at p;cases R:ss[j]? with
     |none=>rw[R]at p;cases p
     |some s=>rw[R]at p;exact .inl ⟨G,s,Τ,aP p⟩
    ·rw[aO (by simpa using JA G),Gk,bD]at p;by_cases X:j-aL ss<γ S.H
     ·rw[cZ X]at p;have p:(bif lG (j-aL ss) (gV ss)then ι else θ (j-aL ss))=θ i:=aP p;cases hm:lG (j-aL ss) (gV ss)with
      |true=>rw[hm]at p;cases p
      |false=>rw[hm]at p;have p:j-aL ss=i:=aP p;refine .inr ⟨aA0,p,λhc=> ?_⟩;rw[<-p]at hc;rw[Xl.2 hc]at hm;cases hm
     ·rw[bO (by simpa using JA X)]at p;cases p
   rcases key j p with⟨E,s,A,J⟩|⟨E,A,J⟩<;>rcases key k hk with⟨D,s2,I,N⟩|⟨D,I,N⟩
   ·exact Ms c0 A J I N
   ·exact absurd (rV A J) N
   ·exact absurd (rV I N) J
   ·omega
 have hX:∀b∈eP L1,w0.heap.size<=b\/b∈S0:=by intro b O;obtain⟨r,hr,e⟩:=nB O;exact((e7.res r (aV.2 (.inl hr))).2 b e).2
 have hB:∀id∈pt ss,∀(r:cF) (b:Nat),L[id]? =θ r->r.own=θ b->b∉eP L1:=by intro id hid r b hr O hm;obtain⟨r2,k5,e⟩:=nB hm;obtain⟨j,p⟩:=jN.1 k5;obtain⟨s,m7,W,E,A,J,D,_⟩:=d6 j r2 b p e;have:=O0 hH hr J O D;subst this;exact i3 id hid (rV E A)
 have i4:=e7.hand;have a9:lH c a=K:=h1;have hp:∀j,j<aL K->∃r,(∀o,K[j]? =θ o->RO w (eP L1) b4 j o r)/\r.holds w/\∀b,r.own=θ b->∃W,L1[j]? =θ W/\W.own=θ b:=by intro j p;have M:=aN p;have R:ss[j]? =θ (ss[j]' aA0):=aN aA0;obtain⟨r,E,A,J⟩:=ia (S1:=eP L1) hH hM hX (λid hid=>hB id (ag R hid)) (h8 j _ _ R M) (b1 j _ R);refine⟨r,λo D=>by rw[M]at D;cases D;exact E,A,λb O=> ?_⟩;obtain⟨i,W,D,I,N⟩:=J b O;refine⟨W,?_,N⟩;show(ss.map _)[j]? =_;rw[bD,R,cy,D];show θ ((L[i]?).getD dL)=_;rw[I];rfl
 obtain⟨Lc,l2,g3⟩:=Js (γ K) hp;have k8:Hp w (eP L1) Lc w:=by
  refine Go.Oe.Hp.pick ((List.range (γ K)).map θ) i4 (λj r p=> ?_) (λj k i p hk=> ?_)
  ·obtain⟨_,E,A⟩:=g3 j r p;refine⟨E,λb O=> ?_⟩;obtain⟨W,J,D⟩:=A b O;have G:=(aF.1 p).1;exact⟨j,W,by rw[bD,cZ aA0];rfl,J,D⟩
  ·have key:∀j,((List.range (γ K)).map θ)[j]? =θ (θ i)->j=i:=by
    intro j p;rw[bD]at p;by_cases G:j<aL K
    ·rw[cZ G]at p;simpa using p
    ·rw[bO (by simpa using JA G)]at p;cases p
   rw[key j p,key k hk]
 have k9:Mt w (eP L1) b4 (lH c a) Lc:=by rw[a9];refine⟨l2,λj o M=> ?_⟩;have G:=(aF.1 M).1;have R:ss[j]? =θ (ss[j]' aA0):=aN aA0;have hl:Lc[j]? =θ (Lc[j]' aA0):=aN aA0;refine⟨?_,_,hl,(g3 j _ hl).1 o M⟩;rw[b1 j _ R];exact DF d2 d4 (h8 j _ _ R M)
 refine(hF w (eP L1) b4 Lc us a y (gw_now hG hH hX) k8 k9 h7 hy).mono λv w2=> ?_;rintro⟨b8,L2,g0,e6,d1,hv⟩;have c4:=e7.dV e6;have g8:aL ss=aL K:=h2.symm;let ρ3:Nat->Ad:=λid=>if id<γ S.H then ρ id else b8 (aL K+(id-γ S.H));have Q:Up (γ S.H) ρ ρ3:=λid hi=>by simp only[ρ3,hi,eW]
 have l4:∀i,ρ3 (γ S.H+i)=b8 (aL K+i):=λi=>by have e1:¬γ S.H+i<γ S.H:=aA0;have e2:γ S.H+i-γ S.H=i:=aA0;simp only[ρ3,e1,tL,e2]
 have b2:∀(j:Nat) (s:Src) (i:Nat),ss[j]? =θ s->s.ow=θ i->i<γ S.H:=by intro j s i p hi;have a6:=(aF.1 p).1;have a5:=h8 j s _ p (aN aA0);rcases zO a5 hi with⟨_,⟨e,cs,d5,_,E,_⟩|⟨e,b,t,l,_,E⟩|⟨n,l,m,_,_,E⟩⟩|⟨m,e,b,t,l,cs,_,_,E⟩<;>exact(aF.1 E).1
 have d3:∀(j id:Nat),ss[j]? =θ (.o' id μ)->ρ3 id=b8 j:=by intro j id p;have a6:=(aF.1 p).1;have hi:=b2 j _ id p Τ;rw[Q id hi,g0 j (by rw[a9];omega),b1 j _ p];rfl
 let EC:=It (Rk.ids c.r) (lH c a) 0;let EK:=kM (Rk.ids c.r) (jB [] c.a a).2 0 ss;have i6:EK=kM (Rk.ids c.r) K 0 ss:=by show kM _ (lH c a) 0 ss=_;rw[a9]
 have i7:EC=It (Rk.ids c.r) K 0:=by show It _ (lH c a) 0=_;rw[a9]
 have b0:∀(j id:Nat) (s:Src),ss[j]? =θ s->s.ow=θ id->(id∈EK↔j∈EC):=by
  intro j id s p R;have a6:=(aF.1 p).1;rw[i6,i7,Fj,Bw];constructor
  ·rintro⟨j2,o,s2,_,E,A,J,D,I⟩
   rw[iP]at E A;have c9:s2.ow=θ id:=by
    rw[xI]at I;cases M:s2.ow with
    |none=>rw[M]at I;simp at I
    |some i=>rw[M]at I;simp at I;rw[I]
   have:=Ms c0 p R A c9;subst this;exact⟨o,cH _,by rw[iP];exact E,J,D⟩
  ·rintro⟨o,_,E,A,J⟩;rw[iP]at E;exact⟨j,o,s,cH _,by rw[iP];exact E,by rw[iP];exact p,A,J,by rw[xI,R];simp⟩
 let rg:δ Rg:=kQ c S a ss;have c7:∀{id j:Nat},eO id j (Xg S.H EK)=μ->eO id j rg=μ:=λh=>Hv.2 (.inl h)
 have a3:∀id,id∈EK->(wF S.H[id]? =μ\/∃e cs,S.H[id]? =θ (.bl e cs))/\id∈gV ss:=by
  intro id hid;rw[i6,Fj]at hid;obtain⟨j,o,s,_,E,A,J,D,I⟩:=hid;rw[iP]at E A;have c9:s.ow=θ id:=by
   rw[xI]at I;cases M:s.ow with
   |none=>rw[M]at I;simp at I
   |some i=>rw[M]at I;simp at I;rw[I]
  refine⟨?_,rV A c9⟩;rcases zO (h8 j s o A E) c9 with⟨_,⟨e,cs,d5,rfl,_⟩|⟨e,b,t,l,_,N⟩|⟨n,l,m,_,_,N⟩⟩|⟨m,e,b,t,l,cs,_,_,N⟩
  ·cases J
  ·left;rw[N];rfl
  ·left;rw[N];rfl
  ·exact .inr ⟨_,_,N⟩
 have h0:PR (γ S.H) (γ K) S.H ρ b8 ρ3 ss rg (kill (lH c a) EC) (kill S.H EK) [] [] 0:=by
  refine⟨by rw[bkx,a9];rfl,by rw[bkx];rfl,λi o hi=>by omega,λj id o p M=> ?_,λj id m p=> ?_,λid hi hn=> ?_,λid e cs M cc hc=> ?_,λid o M=> ?_,Τ,λv hv=>by cases hv⟩
  ·have a6:=(aF.1 p).1;have hi:=b2 j _ id p Τ;have Y:K[j]? =θ (K[j]' aA0):=aN aA0;have a5:=h8 j _ _ p Y;have hid:=aN hi;have g9:S.H[id].len=(K[j]' aA0).len:=by rw[d2 id _ hid,DF d2 d4 a5];rfl
   rw[SS,a9,Y]at M;rw[SS,hid];by_cases hE:j∈EC
   ·rw[aB hE]at M;rw[aB ((b0 j id _ p rfl).2 hE)];cases M;refine⟨⟨_,Τ,?_⟩,λt l e=>by cases e⟩;show Ob.dd _=Ob.dd _;rw[g9]
   ·rw[aA hE]at M;rw[aA (λhh=>hE ((b0 j id _ p rfl).1 hh))];have M:=aP M;rw[M]at a5 Y;rcases zO a5 Τ with⟨_,⟨e,cs,d5,rfl,E,A,J,D⟩|⟨e,b,t,l,rfl,E⟩|⟨n,l,m,rfl,E,A⟩⟩|⟨m,e,b,t,l,cs,he,_⟩
    ·refine⟨⟨_,Τ,d5,by rw[hid]at E;exact aP E,?_,λjj c1 c2 I N=>by rw[D c1 (aI I),J c2 (aI N)]⟩,λt l e=>by cases e⟩;rw[Yr Q (λx hx=>hS.ho id e d5 E x hx),A];refine Yr g0 λx hx=> ?_;have:=h4 j e cs Y x hx;rw[a9];simpa using this
    ·refine⟨⟨_,Τ,?_⟩,λt l e=>by cases e⟩;rw[hid]at E;exact aP E
    ·refine⟨⟨_,Τ,?_⟩,λt l e=>by cases e⟩;have J:=d4 id m l A;rw[hid]at A;show S.H[id]=Ob.br n l;rw[aP A,E,J]
    ·cases he
  ·have a6:=(aF.1 p).1;have hi:=b2 j _ id p Τ;have Y:K[j]? =θ (K[j]' aA0):=aN aA0;have a5:=h8 j _ _ p Y;obtain⟨g1,e0,o6,l6⟩:wF (θ (K[j]' aA0))=μ/\∃e cs,S.H[id]? =θ (.bl e cs):=by
    rcases zO a5 Τ with⟨he,_⟩|⟨m,e,b,t,l,cs,_,he,E⟩
    ·cases he
    ·rw[he];exact⟨Τ,e,cs,E⟩
   have g5:j∉Rk.ids c.r:=by
    intro hm;have key:∀r:δ Rk,Lt S.H ss r=μ->j∈Rk.ids r->False:=by
     intro r;induction r with
     |nil=>intro _ h;cases h
     |cons q r ih=>
      intro hq a7;have hq:=gX (show(bif _ then Lt S.H ss r else ν)=μ from hq);cases q with
      |r' x=>exact ih hq.2 a7
      |o' i e x=>
       rcases aQ.1 (show j∈i::Rk.ids r from a7)with rfl|a7
       ·have E:=(gX hq.1).2;rw[gG,p]at E;cases E
       ·exact ih hq.2 a7
      |w' i x=>
       rcases aQ.1 (show j∈i::Rk.ids r from a7)with rfl|a7
       ·have E:=hq.1;simp only[gG,p]at E;cases E
       ·exact ih hq.2 a7
    exact key c.r g2 hm
   have hE:j∈EC:=by rw[i7,Bw];exact⟨_,cH _,by rw[iP];exact Y,g1,g5⟩
   rw[SS,aB ((b0 j id _ p rfl).2 hE),l6];rfl
  ·rw[SS,aA (λhE=>hn (a3 id hE).2)]
  ·rw[SS]at M;split at M
   ·cases hg:S.H[id]? with
    |none=>rw[hg]at M;cases M
    |some o=>rw[hg]at M;cases M
   ·exact hS.ho id e cs M cc hc
  ·rw[SS];by_cases hE:id∈EK
   ·rw[aB hE,M];have:=(a3 id hE).1;cases o with
    |bl e cs=>exact .inl λj p=>c7 (Km M hE p)
    |rw e b t l=>exact .inl (c7 (bcd hE))
    |br m l=>exact .inl (c7 (bcd hE))
    |ro t l=>rcases this with E|⟨_,_,E⟩<;>rw[M]at E<;>cases E
    |dd n=>rcases this with E|⟨_,_,E⟩<;>rw[M]at E<;>cases E
   ·rw[aA hE,M];cases o with
    |bl e cs=>exact .inr ⟨cs,Τ,Τ,λj cc p=>.inr ⟨cc,p,λhk=>⟨hk,SC.up Q (hS.ho id e cs M cc (aI p))⟩⟩⟩
    |rw e b t l=>exact .inr Τ
    |br m l=>exact .inr Τ
    |ro t l=>rfl
    |dd n=>rfl
 obtain⟨k2,hP⟩:=PR.steps c0 aA0 b2 Τ g8 l4 d3 c.r y _ _ [] [] 0 h0 g2 (λid hid q hq j p=>by
  subst hq;refine Hv.2 (.inr ?_);have key:∀l:δ Nat,id∈l->eO id j (BM S.H l)=μ:=by
   intro l;induction l with
   |nil=>intro h;cases h
   |cons x l ih=>
    intro h;rcases aQ.1 h with rfl|h
    ·exact wK.2 ⟨_,gQ,Τ,cH _,p⟩
    ·obtain⟨q,E,A⟩:=wK.1 (ih h);exact wK.2 ⟨q,fB _ E,A⟩
  exact key _ hid)
 let U:=(fV (Jv ss) ([],kill S.H EK) c.r y).2;let Hc:=(lC c a y).2;have m1:γ Hc=aL K+k2:=hP.ec;have i5:γ U=γ S.H+k2:=hP.ek;have n4:γ L2=aL K+k2:=by rw[d1.1];exact m1
 let b9:Nat->ε Nat:=λid=>(List.range (γ ss)).find? λj=>decide ((ss[j]?).bind Src.ow=θ id)
 have d8:∀id j,b9 id=θ j->∃s,ss[j]? =θ s/\s.ow=θ id:=by
  intro id j p;have:=List.find?_some p;have E:(ss[j]?).bind Src.ow=θ id:=bX this;cases R:ss[j]? with
  |none=>rw[R]at E;cases E
  |some s=>rw[R]at E;exact⟨s,Τ,E⟩
 have i2:∀id,b9 id=ι->id∉gV ss:=by
  intro id p hm;have key:∀l:δ Src,id∈gV l->∃(j:Nat) (s:Src),l[j]? =θ s/\s.ow=θ id:=by
   intro l;induction l with
   |nil=>intro h;cases h
   |cons x l ih=>
    intro h;rcases aV.1 (show id∈x.own++gV l from h)with h|h
    ·refine⟨0,x,Τ,?_⟩;rw[xI]at h;cases M:x.ow with
     |none=>rw[M]at h;simp at h
     |some i=>rw[M]at h;simp at h;rw[h]
    ·obtain⟨j,s,h1,h2⟩:=ih h;exact⟨j+1,s,by simpa using h1,h2⟩
  obtain⟨j,s,E,A⟩:=key ss hm;have G:=(aF.1 E).1;have:=List.find?_eq_none.1 p j (by simpa using G);rw[E]at this;simp[A]at this
 let src:Nat->ε Nat:=λid=>if id<γ S.H then(match b9 id with
  |some j=>(match U[id]? with
   |some o=>bif GP o then ι else θ j
   |none=>ι)
  |none=>θ (γ L2+id))else θ (aL K+(id-γ S.H))
 have k7:∀id,id<γ U->∃r,(∀o,U[id]? =θ o->o.len=(ρ3 id).ln/\RO w0 S0 ρ3 id o r)/\r.holds w2/\∀b,r.own=θ b->∃i W,src id=θ i/\(L2++Lr)[i]? =θ W/\W.own=θ b:=by
  intro id hid;have M:=aN hid;by_cases G:id<γ S.H
  ·cases p:b9 id with
   |some j=>
    obtain⟨s,E,A⟩:=d8 id j p;have a6:=(aF.1 E).1;cases hd:GP U[id]with
    |true=>
     refine⟨dL,λo J=>⟨?_,?_⟩,trivial,λb O=>by cases O⟩
     ·rw[M]at J;cases J;rcases tt A with rfl|⟨m,rfl⟩
      ·have a1:Hc[j]? =θ (Hc[j]' aA0):=aN aA0;obtain⟨⟨o3,D,I⟩,_⟩:=hP.ow j id _ E a1;have D:U[id]? =θ o3:=D;rw[M]at D;have D:=aP D;rw[D,I.len,d1.lns j _ a1,d3 j id E]
      ·have D:U[id]? =θ (.dd 0):=hP.ok j id m E;have Y:K[j]? =θ (K[j]' aA0):=aN aA0;rcases zO (h8 j _ _ E Y) Τ with⟨he,_⟩|⟨m,e,b,t,l,cs,_,_,I⟩
       ·cases he
       ·rw[M]at D;rw[aP D,Q id G];have N:=d2 id _ I;exact N
     ·rw[M]at J;cases J;cases hx:U[id]<;>rw[hx]at hd<;>first|trivial|cases hd
    |false=>
     rcases tt A with rfl|⟨m,rfl⟩
     ·have a1:Hc[j]? =θ (Hc[j]' aA0):=aN aA0;obtain⟨⟨o3,D,I⟩,e8⟩:=hP.ow j id _ E a1;have D:U[id]? =θ o3:=D;obtain⟨N,r,Z,c6⟩:=d1.2 j _ a1;have he:U[id]=o3:=by rw[M]at D;exact aP D
      refine⟨r,λo a2=> ?_,?_,λb O=>⟨j,r,?_,?_,O⟩⟩
      ·rw[D]at a2;cases a2;exact⟨by rw[I.len,N,d3 j id E],X7 I (d3 j id E) e8 c6⟩
      ·exact(e6.res r (aI Z)).1
      ·simp only[src,G,eW,p,M,hd,aG]
      ·rw[aJ (aF.1 Z).1];exact Z
     ·have J:U[id]? =θ (.dd 0):=hP.ok j id m E;rw[M]at J;rw[aP J]at hd;cases hd
   |none=>
    have g7:=i2 id p;have e5:U[id]? =S.H[id]? :=hP.ot id G g7;obtain⟨N,r,Z,c6⟩:=hM.2 id _ (aN G);have l0:Lr[id]? =θ r:=by
     show((List.range (γ S.H)).map _)[id]? =_
     rw[bD,cZ G];have hm:lG id (gV ss)=ν:=by
      cases hm:lG id (gV ss)with
      |false=>rfl
      |true=>exact absurd (Xl.1 hm) g7
     simp only[cy,hm,aG,Z,IY]
    have d7:(L2++Lr)[γ L2+id]? =θ r:=by rw[aO aA0,zbO];exact l0
    refine⟨r,λo a2=> ?_,(c4.res r (aI d7)).1,λb O=>⟨γ L2+id,r,?_,d7,O⟩⟩
    ·rw[e5,aN G]at a2;cases a2;exact⟨by rw[Q id G];exact N,c6.up Q G λe cs he=>hS.ho id e cs (by rw[aN G,he])⟩
    ·simp only[src,G,eW,p]
  ·have hi:id-γ S.H<k2:=by omega
   have a1:Hc[aL K+(id-γ S.H)]? =θ (Hc[aL K+(id-γ S.H)]' aA0):=aN aA0;obtain⟨⟨o3,D,I⟩,e8⟩:=hP.nw (id-γ S.H) _ hi a1;have D:U[γ S.H+(id-γ S.H)]? =θ o3:=D;rw[show γ S.H+(id-γ S.H)=id by omega]at D;have f8:ρ3 id=b8 (aL K+(id-γ S.H)):=by simp only[ρ3,G,tL]
   obtain⟨N,r,Z,c6⟩:=d1.2 _ _ a1;refine⟨r,λo a2=> ?_,(e6.res r (aI Z)).1,λb O=>⟨aL K+(id-γ S.H),r,?_,?_,O⟩⟩
   ·rw[D]at a2;cases a2;exact⟨by rw[I.len,N,f8],X7 I f8 e8 c6⟩
   ·simp only[src,G,tL]
   ·rw[aJ (aF.1 Z).1];exact Z
 obtain⟨L3,l3,g4⟩:=Js (γ U) k7;have m2:Hp w0 S0 L3 w2:=by
  refine Go.Oe.Hp.pick ((List.range (γ U)).map src) c4 (λid r p=> ?_) (λx z i hx hz=> ?_)
  ·obtain⟨_,E,A⟩:=g4 id r p;refine⟨E,λb O=> ?_⟩;obtain⟨i,W,J,D⟩:=A b O;have G:=(aF.1 p).1;exact⟨i,W,by rw[bD,cZ aA0];exact bA θ J,D⟩
  ·have key:∀x,((List.range (γ U)).map src)[x]? =θ (θ i)->x<γ U/\src x=θ i:=by intro x hx;obtain⟨q,E,A⟩:=map_some hx;have G:=(aF.1 E).1;rw[List.length_range]at G;rw[cZ G]at E;have e:=aP E;subst e;exact⟨G,A⟩
   have cl:∀x,x<γ U->src x=θ i->(∃s:Src,i<aL ss/\ss[i]? =θ s/\s.ow=θ x)\/i=γ L2+x\/(¬x<γ S.H/\i=aL K+(x-γ S.H)):=by
    intro x hx R;by_cases G:x<γ S.H
    ·simp only[src,G]at R;cases p:b9 x with
     |none=>rw[p]at R;exact .inr (.inl (aP R).symm)
     |some j=>
      rw[p]at R;obtain⟨s,E,A⟩:=d8 x j p;have a6:=(aF.1 E).1;rw[aN hx]at R;simp only at R;cases hd:GP U[x]with
      |true=>rw[hd]at R;cases R
      |false=>rw[hd]at R;have e:j=i:=aP R;subst e;exact .inl ⟨s,a6,E,A⟩
    ·simp only[src,G]at R;exact .inr (.inr ⟨G,(aP R).symm⟩)
   obtain⟨k4,k3⟩:=key x hx;obtain⟨k1,k0⟩:=key z hz;rcases cl x k4 k3 with⟨s,E,A,J⟩|E|⟨E,A⟩<;>rcases cl z k1 k0 with⟨s2,D,I,N⟩|D|⟨D,I⟩
   ·rw[A]at I;cases I;rw[J]at N;exact aP N
   all_goals omega
 have l8:Mt w0 S0 ρ3 U L3:=by refine⟨l3,λid o M=> ?_⟩;have G:=(aF.1 M).1;have hl:L3[id]? =θ (L3[id]' aA0):=aN aA0;have:=(g4 id _ hl).1 o M;exact⟨this.1,_,hl,this.2⟩
 let B:St:=⟨S.F,U,S.nb,S.al,rg++S.m⟩
 have i8:Rel C w0 S0 ρ3 B F w2:=by
  refine⟨λg id hg=> ?_,λt u hu=> ?_,λt=> ?_,λid e cs M c hc=> ?_,⟨L3,m2,l8⟩⟩
  ·obtain⟨E,A⟩:=hS.gl g id hg;exact⟨by show id<γ U;omega,by rw[Q id E];exact A⟩
  ·have hu:(S.at t).v ρ3=θ u:=hu;rw[SV.up Q (hS.fo t)]at hu;exact hS.fr t u hu
  ·exact SV.cT (hS.fo t) (by show γ S.H<=γ U;omega)
  ·show c.ok (γ U);rw[i5];exact hP.ho id e cs M c hc
 have b5:Nx S ρ B ρ3:=by
  have i0:∀nb al,(∀id j,id<nb->eO id j rg=μ->eO id j al=μ)->Le nb al ρ S.H ρ3 B.H:=λnb al l7=>
   ⟨by show γ S.H<=γ U;omega,Q,λid o hi M=>(hP.kp id o M).mono λj hc=>l7 id j hi hc⟩
  exact⟨⟨Τ,Τ,i0 _ _ λid j hi hc=>Aj g6 hi hc⟩,i0 _ _ λid j _ hc=>Hv.2 (.inl hc),λid j hc=>Hv.2 (.inr hc)⟩
 refine⟨ρ3,λd=> ?_⟩;have l5:kP c S d a ss y=B.xA d (lD (fV (Jv ss) ([],kill S.H EK) c.r y).1):=Τ;rw[l5];cases d with
 |none=>exact⟨i8,b5⟩
 |some d=>refine⟨qa i8 (K1 hP.vl hv) (jg λv hv=> ?_),⟨⟨b5.nb,b5.al,b5.le⟩,b5.lg,b5.mm⟩⟩;show v.ok (γ U);rw[i5];exact hP.vo v hv
end
open Go.Wk
open Go.Ce (Tr)
open Nat renaming blt → fI, succ → qW
structure Env (C:Cx) (md:Md) (w0:ο) (S0:List Nat) (GS:Cy):Prop where
 e:EOk C
 n:C.nn=md.n
 g:Gw GS w0 S0
 x:∀k,∀c∈C.X k,Enters C.P k/\Tq C.P GS k c
inductive YK (C:Cx) (Ξ:List Α) (S:St) (o:Α):Bool->Prop
 |none (h:o.guard=ι):YK C Ξ S o μ
 |yes (q:Nat×Bool) (dg:Nat) (h:o.guard=θ q) (h1:HD Ξ q.1=θ dg) (h2:fI dg C.nn=μ) (h3:S.at dg=.c' (.b' q.2)):YK C Ξ S o μ
 |no (q:Nat×Bool) (dg:Nat) (h:o.guard=θ q) (h1:HD Ξ q.1=θ dg) (h2:fI dg C.nn=μ) (h3:S.at dg=.c' (.b' (!q.2))):YK C Ξ S o ν
 |un (q:Nat×Bool) (dg:Nat) (h:o.guard=θ q) (h1:HD Ξ q.1=θ dg) (h2:fI dg C.nn=μ) (h3:S.at dg=.n'):YK C Ξ S o ν
inductive Tv:SV->Bool->Prop
 |b (x:Bool):Tv (.c' (.b' x)) x
 |d (p:Prop) (h:Decidable p):Tv (.c' (.d' p h)) (@decide p h)
 |e (p:Prop) (h:Decidable p):Tv (.c' (.e' p h)) (!@decide p h)
variable{v:SV}
theorem tv_v{b:η}(h:Tv v b)(ρ:Nat->Ad):v.v ρ=θ (.bool b):=by cases h<;>rfl
theorem brB_tv{T:Type}{y n:ε T}{r:T}(h:af v y n=θ r):∃b,Tv v b/\(b=μ->y=θ r)/\(b=ν->n=θ r):=by
 unfold af at h;split at h
 ·rename_i x;exact⟨x,.b x,λe=>by subst e;exact h,λe=>by subst e;exact h⟩
 ·rename_i p a;refine⟨_,.d p a,λe=> ?_,λe=> ?_⟩
  ·rw[aB (bX e)]at h;exact h
  ·rw[aA (fF e)]at h;exact h
 ·rename_i p a;refine⟨_,.e p a,λe=> ?_,λe=> ?_⟩
  ·have:¬p:=by simpa using e
   rw[aA this]at h;exact h
  ·have:p:=by simpa using e
   rw[aB this]at h;exact h
 ·cases h
structure wy (C:Cx) (S:St) (o:Α) (S2:St):Prop where
 ex:∃(cal:Call) (f:χ) (k:Nat) (ids:List Nat) (c:yO) (a:(fU c.a).T) (ss:List Src) (y:(gU c.r).T),o.op=.call cal/\cal.callee=.value f/\S.ev C f=.c' (.f' k ids)/\c∈C.X k/\
  QA S.H c.a (cal.args.toList.map (S.ev C)++XS ids)=θ (a,ss)/\mG c S a ss=μ/\(c.f a).ok y/\S2=kP c S o.dst a ss y
inductive JS (C:Cx) (Ξ:List Α) (S:St) (o:Α):St->Prop
 |op (hg:YK C Ξ S o μ) (ro:Ro) (h:iC C (S.ev C) S.H o.op=θ ro) (ha:Jd ro.g) (hd:Pt o.dst ro.v=μ) (hm:S.Hd ro.m=μ):JS C Ξ S o (St.xA ⟨S.F,ro.H,S.nb,S.al,ro.m++S.m⟩ o.dst ro.v)
 |mv (hg:YK C Ξ S o μ) (x:χ) (d:Nat) (b:Bool) (hx:S5 o.op=θ x) (hd:o.dst=θ d) (hb:Tv (S.ev C x) b):JS C Ξ S o (S.set d (.c' (.b' b)))
 |skip (hg:YK C Ξ S o ν) (d:Nat) (hd:o.dst=θ d):JS C Ξ S o (S.set d .n')
 |call (hg:YK C Ξ S o μ) (S2:St) (h:wy C S o S2):JS C Ξ S o S2
section
variable{C:Cx}{ρ':Ty}
theorem Qf{S:St}{d:ε Nat}{vs:δ SV}{g:St->ε ρ'.T}{r:ρ'.T}:∀{l:δ yO},lU S d vs g l=θ r->∃c∈l,∃a ss y,QA S.H c.a vs=θ (a,ss)/\mG c S a ss=μ/\(c.f a).ok y/\g (kP c S d a ss y)=θ r
 |[],h=>by cases h
 |c::l,h=>by
  simp only[lU]at h;split at h
  ·rename_i a ss i;have h:=dF h;obtain⟨y,e,b⟩:=Gv.qj h.2;exact⟨c,gQ,a,ss,y,i,h.1,e,b⟩
  ·obtain⟨j,e,b⟩:=Qf h;exact⟨j,fB _ e,b⟩
theorem W7{v:SV}{q:Nat×δ Nat}(h:fnV v=θ q):v=.c' (.f' q.1 q.2):=by
 unfold fnV at h;split at h
 ·cases h;rfl
 ·cases h
variable{d:δ Α}{S:St}{o:Α}{q:St->ε ρ'.T}{r:ρ'.T}
theorem DP(s:YK C d S o μ)(h:ij C S o.dst o.op q=θ r):∃S2,JS C d S o S2/\q S2=θ r:=by
 unfold ij at h;split at h
 ·rename_i g v H m b;split at h
  ·rename_i S2 i;have i:=dF i;have e:=dF i.2;cases e.2;obtain⟨n,l⟩:=Pm h;exact⟨_,.op s _ b n i.1 e.1,l⟩
  ·cases h
 ·split at h
  ·rename_i p b;split at h
   ·rename_i f w;split at h
    ·rename_i k j u;obtain⟨c,n,a,t,y,l,A,z,x⟩:=Qf h;exact⟨_,.call s _ ⟨p,f,k,j,c,a,t,y,b,w,W7 u,n,l,A,z,Τ⟩,x⟩
    ·cases h
   ·cases h
  ·cases h
variable{i:Nat}
theorem DO(c:YK C d S o μ)(h:ig C d i S o q=θ r):∃S2,JS C d S o S2/\q S2=θ r:=by
 unfold ig at h;cases f:isG d i with
 |false=>rw[f]at h;exact DP c h
 |true=>
  rw[f]at h;split at h
  ·rename_i x hx;split at h
   ·rename_i e g;obtain⟨b,l,k,j⟩:=brB_tv h;refine⟨_,.mv c x e b hx g l,?_⟩;cases b with
    |true=>exact k Τ
    |false=>exact j Τ
   ·cases h
  ·exact DP c h
theorem DN(h:UK C d i S o q=θ r):∃S2,JS C d S o S2/\q S2=θ r:=by
 unfold UK at h;split at h
 ·rename_i m;exact DO (.none m) h
 ·rename_i l j;split at h
  ·rename_i dg c;have h:=dF h;have a:=h.2;split at a
   ·rename_i x hx;cases f:beqB x l.2 with
    |true=>
     rw[f]at a;have e:x=l.2:=by cases x<;>cases b:l.2<;>rw[b]at f<;>first|rfl|cases f
     rw[e]at hx;exact DO (.yes l dg j c h.1 hx) a
    |false=>
     rw[f]at a;have e:x= !l.2:=by cases x<;>cases b:l.2<;>rw[b]at f<;>first|rfl|cases f
     rw[e]at hx;split at a
     ·rename_i g k;exact⟨_,.skip (.no l dg j c h.1 hx) g k,a⟩
     ·cases a
   ·rename_i hx;split at a
    ·rename_i g k;exact⟨_,.skip (.un l dg j c h.1 hx) g k,a⟩
    ·cases a
   ·cases a
  ·cases h
end
section
variable{C:Cx}{md:Md}{w0 w:ο}{S0:δ Nat}{ρ:Nat->Ad}{S:St}{F:Nat->ξ}{GS:Cy}
variable{a:Array Α}{g:Nat}
theorem Pl{dg:Nat}(h:HD a.toList g=θ dg):(a[g]?).bind (·.dst)=θ dg:=by
 unfold HD at h;rw[gG]at h;cases b:a[g]? with
 |none=>rw[show a.toList[g]? =ι by simpa using b]at h;cases h
 |some o=>rw[show a.toList[g]? =θ o by simpa using b]at h;exact h
theorem OK(c:C.nn=md.n)(d:Rel C w0 S0 ρ S F w):∀{l:δ χ}{r:δ (ε ξ)}{a:δ ξ},(l.map (S.ev C)).map (SV.v ρ)++r=a.map θ->∃b,a=l.map (aW md F)++b/\r=b.map θ
 |[],r,a,h=>⟨a,Τ,h⟩
 |x::l,r,a,h=>by
  cases a with
  |nil=>cases h
  |cons u a=>simp only[tR,NU,TG]at h;obtain⟨b,f,e⟩:=OK c d h.2;refine⟨b,?_,e⟩;rw[f,tR,NU,(Tm d c x).2 u h.1]
theorem y8:∀a,(XS a).map (SV.v ρ)=(a.map λid=>iM (ρ id).b 0).map θ
 |[]=>rfl
 |id::a=>by show θ _::(XS a).map _=_;rw[y8 a];rfl
theorem Ao{c:Type}:∀{a b:δ c},a.map θ=b.map θ->a=b
 |[],[],_=>rfl
 |[],_::_,h=>by cases h
 |_::_,[],h=>by cases h
 |x::a,y::b,h=>by simp at h;rw[h.1,Ao h.2]
variable{o:Α}
theorem IT(hE:Env C md w0 S0 GS){S2:St}(h:JS C a.toList S o S2)(B:Rel C w0 S0 ρ S F w)(Q:Exit->Act->ο->Prop)(l:δ Α)
  (T:∀D F2 G,Rel C w0 S0 D S2 F2 G->Nx S ρ S2 D->(∀t,o.dst≠θ t->F2 t=F t)->(∀d,o.guard=ι->o.dst=θ d->mF o.op=μ->∃w3,(ς (aW md F) o).run C.P w=.ok (.value (F2 d)) w3)->W C.P md a Q l F2 G):W C.P md a Q (o::l) F w:=by
 have L:=hE.n;obtain⟨p,op,Z,Ο,Ν,gd⟩:=o;have N:YK C a.toList S ⟨p,op,Z,Ο,Ν,gd⟩ μ->W C.P md a Q (⟨p,op,Z,Ο,Ν,ι⟩::l) F w->W C.P md a Q (⟨p,op,Z,Ο,Ν,gd⟩::l) F w:=by
  intro A V;cases A with
  |none h=>have h:gd=ι:=h;subst h;exact V
  |yes q dg h z r E=>have h:gd=θ q:=h;subst h;obtain⟨g,b⟩:=q;exact JY dg (Pl z) (by rw[<-L];exact r) (B.fr dg (.bool b) (by rw[E];rfl)) V
 cases h with
 |op A ro h ha u hm=>refine N A (gv hE.e L B h ha hm u a Q l λD F2 G z r E h4=>T D F2 G z r E λd j M hp=> ?_);have j:gd=ι:=j;subst j;exact h4 d M hp
 |mv A x d b hx u hb=>
  have u:p=θ d:=u;subst u;obtain⟨z,r⟩:=Tm B L x;have R:aW md F x=.bool b:=r _ (tv_v hb ρ);refine N A ?_;have s:Rel C w0 S0 ρ (S.set d (.c' (.b' b))) (dP F d (.bool b)) w:=qa B Τ (λi hi=>by cases hi);have H:(ς (aW md F) (⟨θ d,op,Z,Ο,Ν,ι⟩:Α)).run C.P w=.ok (.value (.bool b)) w:=by
   cases op<;>first|cases hx|skip
   ·rw[<-R];rfl
   ·rw[<-R];rfl
  refine gC Τ Τ H (T ρ _ w s ⟨⟨Τ,Τ,Le.refl⟩,Le.refl,λ_ _ h=>h⟩ SP λd2 j M _=>⟨w,?_⟩);have j:gd=ι:=j;subst j;cases M;rw[qh];exact H
 |skip A d u=>
  have u:p=θ d:=u;subst u;have s:Rel C w0 S0 ρ (S.set d .n') (dP F d undef) w:=qa B Τ trivial;have V:=T ρ _ w s ⟨⟨Τ,Τ,Le.refl⟩,Le.refl,λ_ _ h=>h⟩ SP (λd2 j _ _=>by cases A<;>(rename_i h _ _ _;rw[h]at j;cases j));cases A with
  |no q dg h z r E=>have h:gd=θ q:=h;subst h;obtain⟨g,b⟩:=q;exact tf dg (Pl z) (by rw[<-L];exact r) (B.fr dg (.bool (!b)) (by rw[E];rfl)) V
  |un q dg h z r E=>have h:gd=θ q:=h;subst h;obtain⟨g,b⟩:=q;exact te dg (Pl z) (by rw[<-L];exact r) (B.fr dg undef (by rw[E];rfl)) V
 |call A _ h=>
  obtain⟨Y,f,k,O,c,m,ss,y,K,hf,a5,hc,hr,a4,hy,rfl⟩:=h;have K:op=.call Y:=K;subst K;obtain⟨callee,fR,ts⟩:=Y;have hf:callee=.value f:=hf;subst hf;refine N A ?_;obtain⟨X,hF⟩:=hE.x k c hc;obtain⟨us,z,r⟩:=ph B hE.g hF hr a4 hy;rw[Rp,y8]at z;obtain⟨u2,E,h4⟩:=OK L B z;have h5:=Ao h4;have U:aW md F f=.func (.func k) #[] (O.map λid=>iM (ρ id).b 0).toArray:=(nX B L a5).2;have ha: #[]++fR.map (aW md F)++(O.map λid=>iM (ρ id).b 0).toArray=us.toArray:=by rw[E,<-h5];apply Array.toList_inj.1;simp
  cases p with
  |none=>refine fp k _ us _ X U ha r λv G J=> ?_;obtain⟨I,J⟩:=J;obtain⟨h6,h7⟩:=J ι;exact T I F G h6 h7 (λ_ _=>rfl) (λd _ u=>by cases u)
  |some d=>refine vC k _ us _ X U ha r λv G J=> ?_;obtain⟨I,J⟩:=J;obtain⟨h6,h7⟩:=J (θ d);exact T I _ G h6 h7 SP (λd2 _ _ hp=>by cases hp)
theorem zF{l:δ Α}:g∈Gn (o::l)↔o.dst=θ g\/g∈Gn l:=by
 simp only[Gn];cases a:o.dst with
 |none=>simp
 |some d=>simp;exact or_congr_left ⟨λh=>h.symm,λh=>h.symm⟩
theorem Du{t:Nat}:∀{l:δ χ},t∈Ai l↔Operand.tmp t∈l
 |[]=>by simp[Ai]
 |x::l=>by cases x<;>simp[Ai,Du]
def RanL(C:Cx)(md:Md)(a:δ Α)(e:Nat)(F:Nat->ξ):Prop:=∀(i d:Nat) o,e<=i->O3 a i=μ->a[i]? =θ o->o.dst=θ d->∃c b,(ς (aW md F) o).run C.P c=.ok (.value (F d)) b
theorem M0{op:Op}(h:mF op=μ):∀cs b,op≠.select cs b:=λcs b e=>by subst e;cases h
theorem X6{F2:Nat->ξ}{x:χ}(h:∀t,x=.tmp t->F2 t=F t):aW md F2 x=aW md F x:=by
 cases x with
 |tmp t=>simp only[aW,h t rfl]
 |_=>rfl
theorem Zu(R:Env C md w0 S0 GS){a:Array Α}{ρ':Ty}{B:St->ε ρ'.T}{r:ρ'.T}{Q:Exit->Act->ο->Prop}:∀l i S ρ F w,l=a.toList.drop i->VN C a.toList l i S B=θ r->Rel C w0 S0 ρ S F w->
  (∀S2 e F2 u,B S2=θ r->Rel C w0 S0 e S2 F2 u->Nx S ρ S2 e->(∀t,t∉Gn l->F2 t=F t)->RanL C md a.toList i F2->Q .normal (fr md F2) u)->W C.P md a Q l F w
 |[],i,S,ρ,F,w,y,h,K,D=>jO (D S ρ F w h K Nx.refl (λ_ _=>rfl) (λj d o hj _ n _=>by have:a.toList.drop i=[]:=y.symm;rw[List.drop_eq_nil_iff]at this;have:=(aF.1 n).1;omega))
 |o::l,i,S,ρ,F,w,y,h,K,D=>by
  obtain⟨S2,h1,h2⟩:=DN (show UK C a.toList i S o (λS2=>VN C a.toList l (qW i) S2 B)=θ r from h);have m:a.toList[i]? =θ o:=by have:=bA (λl=>l[0]?) y;simpa using this.symm
  have p:l=a.toList.drop (i+1):=by have:=bA List.tail y;simpa using this
  refine IT R h1 K Q l λe F2 u J hN O hp=>Zu R l (i+1) S2 e F2 u p h2 J λS3 A V Y h3 I L f k=> ?_;refine D S3 A V Y h3 I (hN.trans L) (λt g=> ?_) (λj d Z hj b n z=> ?_)
  ·rw[zF]at g;rw[f t (λc=>g (.inr c)),O t (λc=>g (.inl c))]
  ·by_cases E:j=i
   ·subst E;rw[m]at n;cases n
    unfold O3 at b;rw[gG,m]at b;simp only[z]at b;have N:=gX b;have M:=gX N.2;have s:=M.2;have G:o.guard=ι:=by
     cases hg:o.guard with
     |none=>rfl
     |some q=>rw[hg]at N;cases N.1
    rw[nE,<-p]at s;cases v:lG d (Gn l)with
    |true=>rw[v]at s;cases s
    |false=>
     rw[v]at s;have h7:=sT.1 s;obtain⟨X,h8⟩:=hp d G z M.1;have H:V d=F2 d:=f d λc=>by rw[Xl.2 c]at v;cases v
     refine⟨w,X,?_⟩;rw[H,execOp_congr o (M0 M.1) (ρ':=aW md F) λx hx=> ?_]
     ·exact h8
     ·refine X6 λt g=> ?_;subst g;have U:=h7 t (Du.2 aD9);rw[f t (λc=>U (fB _ c)),O t (λc=>U (by rw[z]at c;cases c;exact gQ))]
   ·exact k j d Z aA0 b n z
theorem VB(m:Env C md w0 S0 GS):ch C md w0 S0 g a ν:=by intro ρ' S x r ρ F w Q h l y;have k:=Zu m a.toList 0 S ρ F w aA2 h l λu b v e t s q p n=>y u b v e t s q p λi d o c f j=>n i d o (cH _) c f j;exact MZ k
end
open Go.Wk
open Go.Ce (Tr)
open Go.Op renaming operands → lM
open Nat renaming beq → cY
section
variable{C:Cx}{ev YV:χ->SV}
theorem sR{sz:Nat->ε (Nat×Nat)}:∀{a:δ (Nat×χ)}{l:δ SC},(∀p∈a,ev p.2=YV p.2)->Hn sz ev a l=Hn sz YV a l
 |[],l,h=>rfl
 |p::a,l,h=>by
  simp only[Hn];rw[h p gQ];split
  ·split
   ·rw[sR λq b=>h q (fB _ b)]
   ·rfl
  ·rfl
variable{l:δ χ}
theorem map_congr(h:∀x∈l,ev x=YV x):l.map ev=l.map YV:=er h
variable{H:δ Ob}
theorem ah{b:Builtin}{a:δ Nat}(h:∀x∈l,ev x=YV x):NI C ev H b l a=NI C YV H b l a:=by
 match l with
 |[]=>cases b<;>rfl
 |[x]=>
  have e:=h x aA2;cases b<;>simp only[NI]
  ·match a with
   |[]=>rfl
   |[t]=>simp only[e]
   |_::_::_=>rfl
 |[x,y]=>have e:=h x aA2;have c:=h y aA2;cases b<;>first|(rcases a with _|⟨t,_|⟨t2,_|⟨t3,a⟩⟩⟩<;>simp only[NI,e,c];done)|simp only[NI,e,c]
 |_::_::_::_=>cases b<;>rfl
theorem Vf{op:Op}(h:∀x∈op.operands,ev x=YV x):iC C ev H op=iC C YV H op:=by
 cases op<;>first|rfl|skip
 case move x=>simp only[iC,h x aB4]
 case assign x=>simp only[iC,h x aB4]
 case pick c a b=>simp only[iC,h c aB4,h a aB4,h b aB4]
 case binOp b t x y t'=>simp only[iC,h x aB4,h y aB4]
 case unOp u t x=>cases u<;>first|rfl|simp only[iC,h x aB4]
 case convert s t x=>simp only[iC,h x aB4]
 case index t x g=>simp only[iC,h x aB4,h g aB4]
 case slice t x r o q=>
  cases q with
  |some m=>rfl
  |none=>
   have e:=h x aB4;cases r with
   |none=>cases o with
    |none=>simp only[iC,Ii,e]
    |some j=>simp only[iC,Ii,e,h j aB4]
   |some i=>cases o with
    |none=>simp only[iC,Ii,e,h i aB4]
    |some j=>simp only[iC,Ii,e,h i aB4,h j aB4]
 case extract x i=>simp only[iC,h x aB4]
 case field t x f=>simp only[iC,h x aB4]
 case box e x=>simp only[iC,h x aB4]
 case load t x=>simp only[iC,h x aB4]
 case store t x y=>simp only[iC,h x aB4,h y aB4]
 case fieldAddr t x f=>simp only[iC,h x aB4]
 case indexAddr t x g=>simp only[iC,h x aB4,h g aB4]
 case nilCheck x=>simp only[iC,h x aB4]
 case makeSlice t x y=>simp only[iC,h x aB4,h y aB4]
 case build t d=>
  have e:∀p∈d.toList,ev p.2=YV p.2:=λp k=>h p.2 (by simp only[lM,List.mem_toArray,dW];exact⟨p,k,Τ⟩);simp only[iC,Jq];split
  ·rw[sR e]
  ·rfl
 case buildSlice t n d=>
  have e:∀p∈d.toList,ev p.2=YV p.2:=λp k=>h p.2 (by simp only[lM,List.mem_toArray,dW];exact⟨p,k,Τ⟩);simp only[iC,auw];split
  ·split
   ·rw[sR e]
   ·rfl
  ·rfl
 case makeFunc f a b=>
  have e:b.toList.map ev=b.toList.map YV:=map_congr λx hx=>h x (by simp only[lM,yR];exact .inr aD9);simp only[iC,Zw,e]
 case call c=>
  obtain⟨callee,fR,l⟩:=c;cases callee<;>first|rfl|skip
  rename_i b;show NI C ev H b fR.toList l.toList=NI C YV H b fR.toList l.toList;exact ah λx hx=>h x (by simp only[lM,Call.operands,yR];exact .inr aD9)
end
def ry(H H2:δ Ob)(a:δ Nat):Prop:=∀id∈a,∀o,fC H id=θ o->fC H2 id=θ o
section
variable{C:Cx}{ev:χ->SV}{H H2:δ Ob}
variable{a:Ro}
theorem Ha{r:Rv}(h:Mj H r=θ a):a.H=H/\a.m=[]/\Mj H2 r=θ ⟨a.g,a.v,H2,[]⟩:=by obtain⟨g,v,c,rfl⟩:=JO h;rw[c];exact⟨Τ,Τ,Τ⟩
theorem mA{r:ε SV}(h:mO H r=θ a):a.H=H/\a.m=[]/\mO H2 r=θ ⟨a.g,a.v,H2,[]⟩:=by obtain⟨v,c,rfl⟩:=be h;rw[c];exact⟨Τ,Τ,Τ⟩
variable{b:Ty}{t m:Nat}{l:δ b.T}
theorem Zr{j:Int}{n:Nat}{c:η}(h:rT H b l j t m n c=θ a):a.H=H/\a.m=[]/\rT H2 b l j t m n c=θ ⟨a.g,a.v,H2,[]⟩:=by
 unfold rT at h⊢;split at h
 ·rename_i v d;have h:=dF h;cases h.2;simp only[h.1,aM,and_self]
 ·cases h
variable{x:SC}
theorem load_H(h:kI C H t x=θ a)(p:ry H H2 (Xc (.c' x))):a.H=H/\a.m=[]/\kI C H2 t x=θ ⟨a.g,a.v,H2,[]⟩:=by
 unfold kI at h⊢;split at h
 ·rename_i n c g y;cases o:cY n 0 with
  |true=>rw[o]at h;cases h
  |false=>
   rw[o]at h;split at h
   ·rename_i id off;split at h
    ·rename_i e cs f;rw[p id aE8 _ f];exact mA h
    ·cases h
   ·rename_i id j i off;have key:=p id aE8;split at h
    ·rename_i e b t' l f;rw[key _ f];exact Zr h
    ·rename_i t' l f;rw[key _ f];simp only;cases d:rT H t' l j i off n c with
     |some r=>rw[d]at h;cases h;obtain⟨w,u,s⟩:=Zr d;rw[s];exact⟨w,u,Τ⟩
     |none=>
      rw[d]at h;have e:rT H2 t' l j i off n c=ι:=by
       unfold rT at d⊢;split
       ·rename_i v q;rw[q]at d;cases k:(bif DB i j t' then t'.flat else ν)with
        |true=>rw[k]at d;cases d
        |false=>rfl
       ·rfl
      rw[e];have h:Kn H t' l j off n c=θ a:=h;unfold Kn at h⊢;split at h
      ·have h:=dF h;simp only[h.1];exact mA h.2
      ·cases h
    ·rename_i m l f;rw[key _ f];exact Zr h
    ·cases h
   ·cases h
 ·cases h
theorem lenX_H(h:WC H t=θ m)(b:∀o,fC H t=θ o->fC H2 t=θ o):WC H2 t=θ m:=by
 unfold WC at h⊢;split at h
 ·rename_i a;rw[b _ a];exact h
 ·rename_i a;rw[b _ a];exact h
 ·rename_i a;rw[b _ a];exact h
 ·cases h
theorem ixa_H{b:SC}(h:vq C H t x b=θ a)(k:ry H H2 (Xc (.c' x))):a.H=H/\a.m=[]/\vq C H2 t x b=θ ⟨a.g,a.v,H2,[]⟩:=by
 unfold vq at h⊢;split at h
 ·rename_i j o;split at h
  ·rename_i e l;split at h
   ·rename_i f g;split at h
    ·rename_i id;split at h
     ·rename_i m i;cases h;rw[lenX_H i (k id aE8)];exact⟨Τ,Τ,Τ⟩
     ·cases h
    ·cases h;exact⟨Τ,Τ,Τ⟩
    ·cases h
   ·cases h
  ·rename_i l;split at h
   ·rename_i q n;split at h
    ·rename_i f g;split at h
     ·have h:=dF h;cases h.2;simp only[h.1,aM,and_self]
     ·have h:=dF h;have d:=dF h.2;have c:=dF d.2;cases c.2;simp only[h.1,d.1,c.1,aM,and_self]
     ·cases h
    ·cases h
   ·cases h
 ·cases h
theorem cont_H(h:wE H b x=θ l)(t:ry H H2 (Xc (.c' x))):wE H2 b x=θ l:=by
 unfold wE at h⊢;split at h
 ·exact h
 ·rename_i id;have key:=t id aE8;cases a:fC H id with
  |none=>rw[a]at h;cases h
  |some o=>rw[a]at h;rw[key o a];exact h
 ·rename_i id m;have key:=t id aE8;split at h
  ·rename_i e cs a;rw[key _ a];exact h
  ·cases h
 ·cases h
theorem isSl_f(h:(!GN C t)=μ):UE C t=ι:=by
 unfold GN at h;unfold UE;split at h
 ·cases h
 ·rfl
theorem conS_H(d:(!GN C m)=μ)(h:BH C H t m x=θ a)(i:ry H H2 (Xc (.c' x))):a.H=H/\a.m=[]/\BH C H2 t m x=θ ⟨a.g,a.v,H2,[]⟩:=by
 have s:=isSl_f d;unfold BH at h⊢;split at h
 ·rename_i e j;have h:=dF h;have c:=dF h.2;have b:=c.2;simp only[h.1,c.1];split at b
  ·rename_i l f;cases b;rw[cont_H f i];exact⟨Τ,Τ,Τ⟩
  ·cases b
 ·cases x with
  |s' l=>simp only[s]at h⊢;exact Ha h
  |_=>exact Ha h
theorem lenC_H{r:δ PD×SV}(h:AE C H t x=θ r)(b:ry H H2 (Xc (.c' x))):AE C H2 t x=θ r:=by
 unfold AE at h⊢;split at h
 ·exact h
 ·split at h
  ·rename_i e c;split at h
   ·rename_i id _;cases a:fC H id with
    |none=>rw[a]at h;cases h
    |some o=>rw[a]at h;rw[b id aE8 o a];exact h
   ·exact h
   ·exact h
   ·cases h
  ·cases h
theorem Wn{x:χ}{id:Nat}(hid:id∈Xc (ev x)):∀{l:δ χ},x∈l->id∈HF ev l
 |y::l,h=>by
  rcases aQ.1 h with rfl|h
  ·exact Gi _ hid
  ·exact YO _ (Wn hid h)
theorem Jm{op:Op}{ro:Ro}(l:Dp C op=μ)(h:iC C ev H op=θ ro)(o:ry H H2 (Wm ev op)):ro.H=H/\ro.m=[]/\iC C ev H2 op=θ ⟨ro.g,ro.v,H2,[]⟩:=by
 cases op<;>first|cases l|skip
 case move x=>exact mA h
 case assign x=>exact mA h
 case pick c a b=>
  obtain⟨x,k,j⟩:=lI (show gM (ev c) (λx=>match x with
   |.b' t=>mO H (match(bif t then ev a else ev b)with
    |.u'=>ι
    |v=>θ v)
   |_=>ι)=θ ro from h)
  split at j
  ·rename_i t;have:=mA (H2:=H2) j;simp only[iC,k,gM];exact this
  ·cases j
 case binOp b t x y t'=>exact Ha h
 case unOp u t x=>cases u<;>first|cases h|exact Ha h
 case convert s t x=>
  obtain⟨c,k,j⟩:=lI (show gM (ev x) (BH C H s t)=θ ro from h);have:=conS_H (H2:=H2) l j (by rw[<-k];exact o);simp only[iC,k,gM];exact this
 case index t x r=>
  simp only[iC]at h⊢;cases p:wG C t with
  |true=>rw[p]at h;exact Ha h
  |false=>
   rw[p]at h;simp only[aG]at h⊢;split at h
   ·exact Ha h
   ·cases h
 case slice t x E F w=>
  cases w with
  |some m=>cases h
  |none=>have l:wG C t=μ:=l;simp only[iC,l,aM]at h⊢;exact Ha h
 case extract x i=>
  simp only[iC]at h⊢;split at h
  ·split at h
   ·cases h;exact⟨Τ,Τ,Τ⟩
   ·cases h
  ·cases h
 case field t x f=>
  simp only[iC]at h⊢;split at h
  ·split at h
   ·exact mA h
   ·cases h
  ·cases h
 case build t D=>exact mA h
 case fieldAddr t x f=>
  obtain⟨c,k,j⟩:=lI (show gM (ev x) (λa=>mO H (bku C t f a))=θ ro from h);have:=mA (H2:=H2) j;simp only[iC,k,gM];exact this
 case load t x=>
  obtain⟨c,k,j⟩:=lI (show gM (ev x) (λa=>kI C H t a)=θ ro from h);have:=load_H (H2:=H2) j (by rw[<-k];exact o);simp only[iC,k,gM];exact this
 case indexAddr t x r=>
  obtain⟨c,k,j⟩:=lI (show gM (ev x) (λa=>gM (ev r) λi=>vq C H t a i)=θ ro from h);obtain⟨d,q,B⟩:=lI j;have:=ixa_H (H2:=H2) B (by rw[<-k];exact o);simp only[iC,k,q,gM];exact this
 case makeFunc f a b=>exact mA h
 case nilCheck x=>
  obtain⟨c,k,j⟩:=lI (show gM (ev x) (λa=>mO H (FA a))=θ ro from h);have:=mA (H2:=H2) j;simp only[iC,k,gM];exact this
 case call c=>
  obtain⟨callee,fR,n⟩:=c;cases callee<;>first|cases l|skip
  rename_i b;have key:∀(fR:δ χ) (n:δ Nat),ry H H2 (HF ev fR)->NI C ev H b fR n=θ ro->ro.H=H/\ro.m=[]/\NI C ev H2 b fR n=θ ⟨ro.g,ro.v,H2,[]⟩:=by
   clear h o;intro fR n o h;have A:∀x y,b≠.append->fR=[x,y]->ro.H=H/\ro.m=[]/\NI C ev H2 b fR n=θ ⟨ro.g,ro.v,H2,[]⟩:=by intro x y p e;subst e;cases b<;>first|exact absurd Τ p|exact Ha h
   rcases fR with _|⟨x,_|⟨y,_|⟨z,fR⟩⟩⟩
   ·cases b<;>cases h
   ·cases b<;>first|cases l|skip
    ·rcases n with _|⟨t,_|⟨t2,n⟩⟩
     ·cases h
     ·obtain⟨g,v,k,rfl⟩:=JO (show Mj H (gM (ev x) (AE C H t))=θ ro from h);obtain⟨c,j,q⟩:=lI k;refine⟨Τ,Τ,?_⟩;show Mj H2 (gM (ev x) (AE C H2 t))=_;rw[j];show Mj H2 (AE C H2 t c)=_;rw[lenC_H q (λid hid=>o id (Wn (x:=x) (by rw[j];exact hid) gQ))];rfl
     ·cases h
    ·cases h
    ·cases h
   ·exact A x y (λe=>by subst e;cases l) rfl
   ·cases b<;>cases h
  exact key _ _ o h
end
open Go.Wk
open Go.Ce (Tr)
open Go.Op renaming operands → lM
open Nat renaming beq → cY, blt → fI
section
variable{C:Cx}{ev:χ->SV}{H:δ Ob}
variable{a:Ob}{k:Nat}
theorem ai{x:Ob}(h:H[k]? =θ a):(H++[x])[k]? =θ a:=by rw[aJ (aF.1 h).1];exact h
theorem dn{a:Type}{l:δ a}{j:Nat}{y:a}(h:k≠j):(jC l k y)[j]? =l[j]? :=by rw[yF,aA (λb=>h b.1.symm)]
theorem kd{op:Op}{ro:Ro}(h:iC C ev H op=θ ro)(r:∀q∈ro.m,q.1≠k)(hid:H[k]? =θ a):ro.H[k]? =θ a:=by
 cases G:Dp C op with
 |true=>have:=(Jm (H2:=H) G h (λ_ _ _ h=>h)).1;rw[this];exact hid
 |false=>
  cases op<;>first|exact absurd (show μ=ν from G) aA2|cases h|skip
  case convert s t x=>
   obtain⟨c,E,d⟩:=lI (show gM (ev x) (BH C H s t)=θ ro from h);unfold BH at d;split at d
   ·have p:=(dF (dF d).2).2;split at p
    ·cases p;exact hid
    ·cases p
   ·split at d
    ·split at d
     ·have p:=(dF (dF d).2).2;cases p;exact ai hid
     ·obtain⟨g,v,_,rfl⟩:=JO d;exact hid
    ·obtain⟨g,v,_,rfl⟩:=JO d;exact hid
  case slice t x F J Q=>
   have A:wG C t=ν:=G;cases Q with
   |some m=>cases h
   |none=>
    have h:(bif wG C t then Mj H (gM (ev x) λw=>Ii ev F λi=>Ii ev J λj=>Z8 w i j)else gM (ev x) λw=>Ii ev F λi=>Ii ev J λj=>Ih C H t w i j)=θ ro:=h;rw[A]at h;obtain⟨c,E,d⟩:=lI (show gM (ev x) (λw=>Ii ev F λi=>Ii ev J λj=>Ih C H t w i j)=θ ro from h);have key:∀i j,Ih C H t c i j=θ ro->ro.H[k]? =θ a:=λi j I=>by obtain⟨z,O,T,l,_,_,_,_,_,K⟩:=Dv I;rcases K with⟨b,a0,_,_,_,rfl⟩|⟨b,a0,_,_,_,rfl⟩<;>exact ai hid
    rcases YZ d with⟨f,u⟩|⟨o,b,f,u,R⟩
    ·rcases YZ u with⟨M,D⟩|⟨a,S,M,D,L⟩
     ·exact key _ _ D
     ·exact key _ _ L
    ·rcases YZ R with⟨M,D⟩|⟨a,S,M,D,L⟩
     ·exact key _ _ D
     ·exact key _ _ L
  case alloc e=>
   simp only[iC]at h;split at h
   ·cases h;exact ai hid
   ·cases h
  case box e x=>
   simp only[iC]at h;split at h
   ·cases h;exact ai hid
   ·cases h
  case buildSlice t n W=>
   simp only[iC,auw]at h;split at h
   ·split at h
    ·have p:=(dF (dF h).2).2;split at p
     ·cases p;exact ai hid
     ·cases p
    ·cases h
   ·cases h
  case store t x y=>
   obtain⟨c,E,d⟩:=lI (show gM (ev x) (λw=>Jp C H t w (ev y))=θ ro from h);unfold Jp at d;split at d
   ·rename_i n U _ _;have d:=(dF d).2;split at d
    ·split at d
     ·split at d
      ·cases d;rw[dn (r _ gQ)];exact hid
      ·cases d
     ·cases d
    ·rename_i z j V off;cases N:cY n 0 with
     |true=>rw[N]at d;cases d
     |false=>
      rw[N]at d;simp only[aG]at d;split at d
      ·split at d
       ·have p:=(dF d).2;cases p;rw[dn (r _ gQ)];exact hid
       ·cases d
      ·split at d
       ·split at d
        ·have p:=(dF d).2;cases p;rw[dn (r _ gQ)];exact hid
        ·cases d
       ·cases d
      ·cases d
    ·cases d
   ·cases d
  case makeSlice t x y=>
   obtain⟨w,E,d⟩:=lI (h);obtain⟨c,p,f⟩:=lI d;unfold Dw at f;split at f
   ·have u:=(dF f).2;split at u
    ·cases u;exact ai hid
    ·cases u
   ·cases f
  case call c=>
   obtain⟨callee,fR,P⟩:=c;cases callee<;>first|cases h|skip
   rename_i b;have h:NI C ev H b fR.toList P.toList=θ ro:=h;unfold NI at h;split at h
   ·obtain⟨g,v,_,rfl⟩:=JO h;exact hid
   ·rename_i x y t t2 Z O Y;cases B:cY t t2 with
    |true=>
     rw[B]at h;obtain⟨w,E,d⟩:=lI h;obtain⟨c,p,f⟩:=lI d;unfold rW at f;split at f
     ·split at f
      ·split at f
       ·cases f;exact ai hid
       ·cases f
      ·split at f
       ·cases f;exact ai aF2
       ·cases f
      ·split at f
       ·cases f;exact ai aF2
       ·cases f
      ·cases f
     ·cases f
    |false=>
     rw[B]at h;obtain⟨w,E,d⟩:=lI h;obtain⟨c,p,f⟩:=lI d;obtain⟨X,O,_,_,_,_,K⟩:=Fs f;rcases K with⟨_,rfl⟩|⟨z,l,_,_,rfl⟩
     ·exact ai hid
     ·exact ai aF2
   ·obtain⟨g,v,_,rfl⟩:=JO h;exact hid
   ·cases h
end
variable{H:δ Ob}{o:Ob}{a:Nat}
theorem Cg{obs:δ Ob}(h:H[a]? =θ o):(H++obs)[a]? =θ o:=by rw[aJ (aF.1 h).1];exact h
theorem L8{ss:δ Src}:∀{r:δ Rk}{y:(gU r).T}{l:δ SA}{H:δ Ob},a∉kH ss (Rk.ids r)->H[a]? =θ o->(fV (Jv ss) (l,H) r y).2[a]? =θ o:=by
 have one:∀q v l (H:δ Ob),a∉kH ss (Rk.ids [q])->H[a]? =θ o->(q.put (Jv ss) (l,H) v).2[a]? =θ o:=by
  intro q v l H b g;cases q with
  |r' x=>exact Cg g
  |o' j e x=>exact Cg (by rw[dn (λe=>b (by show a∈[Jv ss j];rw[e];exact aH.2 Τ))];exact g)
  |w' j x=>
   show(qD H _ x v)[a]? =θ o;unfold qD;split
   ·rw[dn (λe=>b (by show a∈[Jv ss j];rw[e];exact aH.2 Τ))];exact g
   ·exact g
 intro r;induction r with
 |nil=>intro y l H _ g;exact g
 |cons q r f=>
  intro y l H b g;cases r with
  |nil=>exact one q y l H b g
  |cons d r=>
   have c:a∉kH ss (Rk.ids [q])/\a∉kH ss (Rk.ids (d::r)):=by
    cases q with
    |r' x=>exact⟨(λh=>by cases h),b⟩
    |o' i e x=>exact⟨λh=>b (aQ.2 (.inl (aH.1 h))),λh=>b (fB _ h)⟩
    |w' i x=>exact⟨λh=>b (aQ.2 (.inl (aH.1 h))),λh=>b (fB _ h)⟩
   exact f c.2 (one q y.1 l H c.1 g)
theorem JW{l:δ Nat}(h:a∈l):∃q∈Xg H l,q.1=a:=⟨_,bjf h,Τ⟩
theorem Qc{H:δ Ob}:∀{l:δ Nat}{id:Nat},id∈l->∃q∈BM H l,q.1=id
 |x::l,id,h=>by
  rcases aQ.1 h with rfl|h
  ·exact⟨_,gQ,Τ⟩
  ·obtain⟨q,b,a⟩:=Qc h;exact⟨q,fB _ b,a⟩
section
variable{C:Cx}{Ξ:δ Α}{S S1:St}{o:Α}
theorem Vx:∀(t:Ty) (s n c) x,t.no=0->(t.lay s n x).1=(t.lay s c x).1:=by
 intro t;induction t with
 |w' t d=>intro s n c x h;exact d s n c x h
 |pr a b g f=>
  intro s n c x h;have j:a.no=0:=by have:a.no+b.no=0:=h;omega
  have i:b.no=0:=by have:a.no+b.no=0:=h;omega
  show(a.lay s n x.1).1++(b.lay s _ x.2).1=(a.lay s c x.1).1++(b.lay s _ x.2).1;rw[g s n c x.1 j,f s _ _ x.2 i]
 |f' k t d=>intro s n c x h;show [SC.f' k _]=[SC.f' k _];rw[d s n c x h]
 |l' e b t d=>intro s n c x h;cases h
 |y'=>intro s n c x h;cases h
 |r' t d=>intro s n c x h;cases h
 |p' e t d=>intro s n c x h;cases h
 |z'=>intro s n c x h;cases h
 |_=>intro s n c x h;rfl
variable{e:η}{H:δ Ob}
theorem jl{H2:δ Ob}:∀(t:Ty) s l,t.no=0->t.rd e H2 s l=t.rd e H s l/\∀x r ss,t.rd e H s l=θ (x,r,ss)->ss=[]:=by
 intro t;induction t with
 |w' t d=>intro s l h;exact d s l h
 |pr a b i g=>
  intro s l h;have y:a.no=0:=by have:a.no+b.no=0:=h;omega
  have w:b.no=0:=by have:a.no+b.no=0:=h;omega
  obtain⟨o,n⟩:=i s l y;simp only[Ty.rd];rw[o];cases u:a.rd e H s l with
  |none=>exact⟨Τ,λx r ss h=>by cases h⟩
  |some q=>
   obtain⟨x,f,D⟩:=q;obtain⟨A,z⟩:=g s f w;simp only;rw[A];cases m:b.rd e H s f with
   |none=>exact⟨Τ,λx r ss h=>by cases h⟩
   |some E=>refine⟨Τ,λx r ss h=> ?_⟩;cases h;rw[n _ _ _ u,z _ _ _ m];rfl
 |sm a b _ _=>intro s l h;exact⟨Τ,λx r ss h=>by cases h⟩
 |l' F b t d=>intro s l h;cases h
 |y'=>intro s l h;cases h
 |r' t d=>intro s l h;cases h
 |p' F t d=>intro s l h;cases h
 |z'=>intro s l h;cases h
 |u'=>intro s l h;exact⟨Τ,λx r ss h=>by cases h;rfl⟩
 |o' j=>
  intro s l h;refine⟨Τ,λx r ss h=> ?_⟩;simp only[Ty.rd]at h;split at h
  ·have:=dF h;cases this.2;rfl
  ·cases h
 |f' k t d=>
  intro s l h;simp only[Ty.rd];split
  ·rename_i k' p f;obtain⟨o,n⟩:=d s _ h;rw[o];refine⟨Τ,λx r ss h=> ?_⟩;have h:=(dF h).2;split at h
   ·rename_i B C m;cases h;have:=dF m;exact n _ _ _ this.2
   ·cases h
  ·exact⟨Τ,λx r ss h=>by cases h⟩
 |_=>intro s l h;refine⟨Τ,λx r ss h=> ?_⟩;obtain⟨c,_,_,v⟩:=nN h;exact v
variable{v:SV}
theorem EN{H2:δ Ob}{x:Ty}(h:x.no=0):VC e H2 x v=VC e H x v/\∀y ss,VC e H x v=θ (y,ss)->ss=[]:=by
 have key:∀l,Th (x.rd e H2 0 l)=Th (x.rd e H 0 l)/\∀y ss,Th (x.rd e H 0 l)=θ (y,ss)->ss=[]:=by
  intro l;obtain⟨d,b⟩:=jl x 0 l h;rw[d];refine⟨Τ,λy ss h=> ?_⟩;unfold Th at h;split at h
  ·rename_i a;cases h;exact b _ _ _ a
  ·cases h
 cases v with
 |c' c=>simp only[VC];cases x.tz<;>cases x.agg<;>simp<;>first|exact key _|exact⟨Τ,λy ss h=>by cases h⟩|exact⟨trivial,λy ss h=>by cases h⟩
 |a' l=>simp only[VC];cases x.tz<;>cases x.agg<;>simp<;>first|exact key _|exact⟨Τ,λy ss h=>by cases h⟩|exact⟨trivial,λy ss h=>by cases h⟩
 |_=>exact⟨Τ,λy ss h=>by cases h⟩
theorem Mg{H H2:δ Ob}:∀l vs,Bt l=μ->QA H2 l vs=QA H l vs/\∀y ss,QA H l vs=θ (y,ss)->ss=[]
 |[],vs,h=>by
  cases vs with
  |nil=>exact⟨Τ,λy ss h=>by cases h;rfl⟩
  |cons v vs=>exact⟨Τ,λy ss h=>by cases h⟩
 |[x],vs,h=>by
  have h:=gX (h);have hx:=gR h.1
  match vs with
  |[]=>exact⟨Τ,λy ss h=>by cases h⟩
  |[v]=>exact EN hx
  |_::_::_=>exact⟨Τ,λy ss h=>by cases h⟩
 |x::y::l,vs,h=>by
  have h:=gX (h);have hx:=gR h.1
  match vs with
  |[]=>exact⟨Τ,λy ss h=>by cases h⟩
  |v::vs=>
   obtain⟨f,e⟩:=EN hx;obtain⟨d,c⟩:=Mg _ vs h.2;simp only[QA];rw[f];cases b:VC μ H x v with
   |none=>exact⟨Τ,λy ss h=>by cases h⟩
   |some q=>
    rw[d];cases a:QA H _ vs with
    |none=>exact⟨Τ,λy ss h=>by cases h⟩
    |some g=>refine⟨Τ,λy ss h=> ?_⟩;cases h;rw[e _ _ b,c _ _ a];rfl
theorem Vy:∀l H x,Bt l=μ->(jB H l x).2=H
 |[],H,x,h=>rfl
 |[t],H,x,h=>by have h:=gX (show(bif cY t.no 0 then Bt []else ν)=μ from h);show H++(t.lay 0 (γ H) x).2=H;rw[qR ((Ty.eA t 0 (γ H) x).trans (gR h.1)),gH]
 |t::y::l,H,x,h=>by have h:=gX (show(bif cY t.no 0 then Bt (y::l)else ν)=μ from h);show(jB (H++(t.lay 0 (γ H) x.1).2) (y::l) x.2).2=H;rw[qR ((Ty.eA t 0 (γ H) x.1).trans (gR h.1)),gH];exact Vy _ H x.2 h.2
theorem pA{k:Rk}{l:δ Rk}(h:wC (k::l)=μ):∃x,k=.r' x/\x.no=0/\wC l=μ:=by
 cases k with
 |r' x=>have h:=gX (h);exact⟨x,Τ,gR h.1,h.2⟩
 |_=>cases h
theorem Dq{a:Nat->Nat}:∀r y l H,wC r=μ->(fV a (l,H) r y).2=H/\∀H2,(fV a (l,H2) r y).1=(fV a (l,H) r y).1
 |[],y,l,H,h=>⟨Τ,λ_=>rfl⟩
 |[k],y,l,H,h=>by
  obtain⟨x,rfl,hx,_⟩:=pA h;have e:∀n,(x.lay 0 n y).2=[]:=λn=>qR ((Ty.eA x 0 n y).trans hx);refine⟨?_,λH2=> ?_⟩
  ·show H++(x.lay 0 (γ H) y).2=H;rw[e,gH]
  ·show l++[x.sa (x.lay 0 (γ H2) y).1]=l++[x.sa (x.lay 0 (γ H) y).1];rw[Vx x 0 (γ H2) (γ H) y hx]
 |k::b::r,y,l,H,h=>by
  obtain⟨x,rfl,hx,d⟩:=pA h;have e:∀n,(x.lay 0 n y.1).2=[]:=λn=>qR ((Ty.eA x 0 n y.1).trans hx);have c:∀H,fV a (l,H) (.r' x::b::r) y=fV a (l++[x.sa (x.lay 0 0 y.1).1],H) (b::r) y.2:=λH=>by show fV a (l++[x.sa (x.lay 0 (γ H) y.1).1],H++(x.lay 0 (γ H) y.1).2) (b::r) y.2=_;rw[e,gH,Vx x 0 (γ H) 0 y.1 hx]
  rw[c];obtain⟨g,f⟩:=Dq _ y.2 _ H d;refine⟨g,λH2=> ?_⟩;rw[c];exact f H2
theorem GU:∀r,wC r=μ->Rk.ids r=[]
 |[],h=>rfl
 |k::r,h=>by obtain⟨x,rfl,_,a⟩:=pA h;exact GU r a
theorem Ur{H H2:δ Ob}{ss:δ Src}:∀r,wC r=μ->Lt H2 ss r=Lt H ss r
 |[],h=>rfl
 |k::r,h=>by obtain⟨x,rfl,_,a⟩:=pA h;simp only[Lt];rw[Ur r a]
theorem Wp:∀{l:δ yO}{c:yO},c∈l->X1 l=μ->Bt c.a=μ/\wC c.r=μ
 |x::l,c,b,h=>by
  have h:=gX (h);have d:=gX h.2;rcases aQ.1 b with rfl|b
  ·exact⟨h.1,d.1⟩
  ·exact Wp b d.2
variable{c:yO}{d:ε Nat}{b:δ Src}{a:(fU c.a).T}{y:(gU c.r).T}
theorem tA{t:Nat}:(kP c S d a b y).at t=if d=θ t then lD (fV (Jv b) ([],kill S.H (kM (Rk.ids c.r) (jB [] c.a a).2 0 b)) c.r y).1 else S.at t:=by have e:kP c S d a b y=St.xA _ d _:=Τ;rw[e,uS];rfl
theorem BT{S:St}:(S.xA d v).H=S.H/\(S.xA d v).m=S.m/\(S.xA d v).nb=S.nb/\(S.xA d v).al=S.al:=by cases d<;>exact⟨Τ,Τ,Τ,Τ⟩
theorem XW:(kP c S d a b y).H=(fV (Jv b) ([],kill S.H (kM (Rk.ids c.r) (jB [] c.a a).2 0 b)) c.r y).2/\(kP c S d a b y).m=kQ c S a b++S.m/\(kP c S d a b y).nb=S.nb/\(kP c S d a b y).al=S.al:=by exact⟨BT.1,BT.2.1,BT.2.2.1,BT.2.2.2⟩
theorem bft{d:ε Nat}{y:(gU c.r).T}(g:Bt c.a=μ)(b:wC c.r=μ):(kP c S d a [] y).H=S.H/\(kP c S d a [] y).m=S.m/\kQ c S a []=[]/\∀S2:St,lD (fV (Jv []) ([],kill S2.H (kM (Rk.ids c.r) (jB [] c.a a).2 0 [])) c.r y).1=lD (fV (Jv []) ([],kill S.H (kM (Rk.ids c.r) (jB [] c.a a).2 0 [])) c.r y).1:=by
 have e:kM (Rk.ids c.r) (jB [] c.a a).2 0 []=[]:=by rw[Vy c.a [] a g];rfl
 have f:kQ c S a []=[]:=by unfold kQ;rw[e,GU c.r b];rfl
 refine⟨?_,?_,f,λS2=> ?_⟩
 ·rw[XW.1,e];exact(Dq c.r y [] S.H b).1
 ·rw[XW.2.1,f];rfl
 ·rw[e];show lD (fV _ ([],S2.H) c.r y).1=lD (fV (Jv []) ([],S.H) c.r y).1;rw[(Dq c.r y [] S.H b).2 S2.H]
theorem O2{ev:χ->SV}{op:Op}{ro:Ro}(h:iC C ev H op=θ ro)(a:qt C op=μ):Dp C op=μ:=by
 unfold qt at a;cases b:Dp C op with
 |true=>rfl
 |false=>
  rw[b]at a;split at a
  ·rename_i c;split at a
   ·rename_i k d;simp only[iC,d]at h;cases h
   ·cases a
  ·cases a
theorem Qe(h:wy C S o S1)(e:qt C o.op=μ):∃b f k d c a y,o.op=.call b/\b.callee=.value f/\S.ev C f=.c' (.f' k d)/\c∈C.X k/\QA S.H c.a (b.args.toList.map (S.ev C)++XS d)=θ (a,[])/\mG c S a []=μ/\(c.f a).ok y/\S1=kP c S o.dst a [] y/\Bt c.a=μ/\wC c.r=μ:=by
 obtain⟨b,f,k,d,c,a,w,y,g,p,n,u,t,l,x,q⟩:=h.ex;unfold qt at e;rw[g]at e;have j:Dp C (.call b)=ν:=by
  show(match b.callee with
   |.builtin .len=>μ
   |.builtin .min=>μ
   |.builtin .max=>μ
   |_=>ν)=ν
  rw[p]
 rw[j]at e;simp only[p]at e;split at e
 ·rename_i s m;cases m;have i:S.ev C (.func s)=.c' (.f' s []):=Τ;cases n;obtain⟨v,z⟩:=Wp u e;obtain rfl:=(Mg (H:=S.H) (H2:=S.H) c.a _ v).2 a w t;exact⟨b,_,_,_,c,a,y,g,p,i,u,t,l,x,q,v,z⟩
 ·cases e
theorem bu(h:JS C Ξ S o S1):(∀t,o.dst≠θ t->S1.at t=S.at t)/\S1.nb=S.nb/\S1.al=S.al:=by
 cases h with
 |op j ro h r i p=>refine⟨λt g=> ?_,BT.2.2.1,BT.2.2.2⟩;rw[uS,aA g];rfl
 |mv j x d b hx i q=>exact⟨λt g=>by rw[kT,aA (λe=>g (by rw[i,e]))],Τ,Τ⟩
 |skip j d i=>exact⟨λt g=>by rw[kT,aA (λe=>g (by rw[i,e]))],Τ,Τ⟩
 |call j _ h=>obtain⟨m,f,k,l,c,a,n,y,_,_,_,_,_,_,_,rfl⟩:=h;exact⟨λt g=>by rw[tA,aA g],XW.2.2.1,XW.2.2.2⟩
theorem Xn(h:JS C Ξ S o S1)(g:qt C o.op=μ):S1.H=S.H/\S1.m=S.m:=by
 cases h with
 |op e ro h s i q=>have:=Jm (O2 h g) h (λ_ _ _ h=>h);refine⟨BT.1.trans this.1,BT.2.1.trans ?_⟩;rw[this.2.1];rfl
 |mv e x d b hx i r=>exact⟨Τ,Τ⟩
 |skip e d i=>exact⟨Τ,Τ⟩
 |call e _ h=>obtain⟨p,f,k,n,c,a,y,_,_,_,_,_,_,_,rfl,l,j⟩:=Qe h g;exact⟨(bft l j).1,(bft l j).2.1⟩
theorem TB(h:JS C Ξ S o S1):∃p,S1.m=p++S.m/\∀id e,(∀q∈p,q.1≠id)->fC S.H id=θ e->fC S1.H id=θ e:=by
 cases h with
 |op j ro h z r v=>refine⟨ro.m,BT.2.1,λid e g hid=> ?_⟩;rw[gG]at hid⊢;rw[BT.1];exact kd h g hid
 |mv j x d b hx r w=>exact⟨[],Τ,λid e _ h=>h⟩
 |skip j d r=>exact⟨[],Τ,λid e _ h=>h⟩
 |call j _ h=>
  obtain⟨u,f,k,t,c,a,s,y,_,_,_,_,_,_,_,rfl⟩:=h;refine⟨kQ c S a s,XW.2.1,λid e g hid=> ?_⟩;rw[gG]at hid⊢;rw[XW.1];refine L8 (λi=> ?_) ?_
  ·obtain⟨q,n,l⟩:=Qc i;exact g q (YO _ n) l
  ·rw[SS,aA (λi=> ?_)]
   ·exact hid
   ·obtain⟨q,n,l⟩:=JW i;exact g q (Gi _ n) l
theorem Dx{S S2:St}(a:S2.nb=S.nb)(b:S2.al=S.al):∀l,S2.Hd l=S.Hd l
 |[]=>rfl
 |x::l=>by show(bif S2.ok x then S2.Hd l else ν)=(bif S.ok x then S.Hd l else ν);rw[Dx a b l];unfold St.ok;rw[a,b]
theorem bs(h:JS C Ξ S o S1){S2:St}(ho:∀t,Operand.tmp t∈o.op.operands->S2.at t=S.at t)(a0:∀t∈Wh Ξ o,S2.at t=S.at t)(l:S2.nb=S.nb)(n:S2.al=S.al)
  (hq:qt C o.op=μ->ry S.H S2.H (Wm (S.ev C) o.op)) (M:qt C o.op=ν->S2.H=S.H):
  ∃K,JS C Ξ S2 o K/\(∀t,K.at t=if o.dst=θ t then S1.at t else S2.at t)/\K.nb=S.nb/\K.al=S.al/\(qt C o.op=μ->K.H=S2.H/\K.m=S2.m)/\(qt C o.op=ν->K.H=S1.H/\∀R,S1.m=R++S.m->K.m=R++S2.m):=by
 have s:∀x∈o.op.operands,S2.ev C x=S.ev C x:=by
  intro x hx;cases x with
  |tmp t=>show(bif fI t C.nn then S2.at t else .u')=(bif fI t C.nn then S.at t else .u');rw[ho t hx]
  |_=>rfl
 have z:∀b,YK C Ξ S o b->YK C Ξ S2 o b:=by
  intro b D;have gs:∀q dg,o.guard=θ q->HD Ξ q.1=θ dg->S2.at dg=S.at dg:=by intro q dg A G;refine a0 dg ?_;unfold Wh;rw[A];simp only[G,rz]
  cases D with
  |none h=>exact .none h
  |yes q dg h A G U=>exact .yes q dg h A G aF3
  |no q dg h A G U=>exact .no q dg h A G aF3
  |un q dg h A G U=>exact .un q dg h A G aF3
 have X:= @Jm C;cases h with
 |op D ro h ha I hm=>
  cases i:qt C o.op with
  |true=>
   have A:=Jm (O2 h i) h (hq i);have G:iC C (S2.ev C) S2.H o.op=θ ⟨ro.g,ro.v,S2.H,[]⟩:=by rw[Vf s];exact A.2.2
   refine⟨_,.op (z _ D) _ G ha I Τ,λt=> ?_,BT.2.2.1.trans l,BT.2.2.2.trans n,λ_=>⟨BT.1,BT.2.1⟩,λe=>by cases e⟩;rw[uS,uS];split<;>rfl
  |false=>
   have J:=M i;have G:iC C (S2.ev C) S2.H o.op=θ ro:=by rw[Vf s,J];exact h
   refine⟨_,.op (z _ D) ro G ha I (by rw[Dx l n];exact hm),λt=> ?_,BT.2.2.1.trans l,BT.2.2.2.trans n,(λe=>by cases e),λ_=>⟨by rw[BT.1,BT.1],λR j=> ?_⟩⟩
   ·rw[uS,uS];split<;>rfl
   ·rw[BT.2.1]at j⊢;have:=List.append_cancel_right j;show ro.m++S2.m=_;rw[this]
 |mv D x d b hx I hb=>
  have W:x∈o.op.operands:=by
   obtain⟨a4,op,ty,Ο,Ν,gd⟩:=o;cases op<;>first|cases hx|skip
   ·simp[lM]
   ·simp[lM]
  have i:qt C o.op=μ:=by
   obtain⟨a4,op,ty,Ο,Ν,gd⟩:=o;cases op<;>first|cases hx|skip
   ·rfl
   ·rfl
  refine⟨_,.mv (z _ D) x d b hx I (by rw[s x W];exact hb),λt=> ?_,l,n,λ_=>⟨Τ,Τ⟩,λe=>by rw[i]at e;cases e⟩;rw[kT,kT,I];by_cases e:t=d
  ·subst e;simp
  ·have e2:¬(θ d)=θ t:=λM=>e (aP M).symm;rw[aA e,aA e2]
 |skip D d I=>
  have a2:∀t,(S2.set d .n').at t=if o.dst=θ t then(S.set d .n').at t else S2.at t:=by
   intro t;rw[kT,kT,I];by_cases e:t=d
   ·subst e;simp
   ·have e2:¬(θ d)=θ t:=λM=>e (aP M).symm;rw[aA e,aA e2]
  exact⟨_,.skip (z _ D) d I,a2,l,n,λ_=>⟨Τ,Τ⟩,λi=>⟨M i,λR j=>by have j:=j;have:R=[]:=List.append_left_eq_self.1 j.symm;rw[this];rfl⟩⟩
 |call D _ h=>
  cases i:qt C o.op with
  |true=>
   obtain⟨u,f,k,L,c,a,y,p,T,N,hc,Y,w,V,rfl,F,E⟩:=Qe h i;have O:f∈o.op.operands:=by rw[p];simp[lM,Call.operands,T]
   have P:u.args.toList.map _=u.args.toList.map _:=map_congr λx hx=>s x (by rw[p];simp only[lM,Call.operands,yR];exact .inr aD9);have e0:∀Z:St,kQ c Z a []=[]:=λZ=>(bft (S:=Z) (d:=ι) (y:=y) F E).2.2.1;have B:mG c S2 a []=μ:=by unfold mG at w⊢;rw[e0,Ur c.r E];rw[e0]at w;exact w
   refine⟨_,.call (z _ D) _ ⟨u,f,k,L,c,a,[],y,p,T,by rw[s f O];exact N,hc,by rw[P,(Mg c.a _ F).1];exact Y,B,V,Τ⟩,λt=> ?_,XW.2.2.1.trans l,XW.2.2.2.trans n,λ_=>⟨(bft F E).1,(bft F E).2.1⟩,(λe=>by cases e)⟩;rw[tA,tA];by_cases e:o.dst=θ t
   ·rw[aB e,aB e,aB e];exact(bft (S:=S) (d:=ι) F E).2.2.2 S2
   ·rw[aA e,aA e]
  |false=>
  have J:=M i;obtain⟨u,f,k,L,c,a,Q,y,p,T,N,hc,Y,w,V,rfl⟩:=h;have O:f∈o.op.operands:=by rw[p];simp[lM,Call.operands,T]
  have P:u.args.toList.map _=u.args.toList.map _:=map_congr λx hx=>s x (by rw[p];simp only[lM,Call.operands,yR];exact .inr aD9)
  have B:mG c S2 a Q=μ:=by
   unfold mG at w⊢;rw[Dx l n,J];have e:kQ c S2 a Q=kQ c S a Q:=by unfold kQ;rw[J]
   rw[e];exact w
  refine⟨_,.call (z _ D) _ ⟨u,f,k,L,c,a,Q,y,p,T,by rw[s f O];exact N,hc,by rw[P,J];exact Y,B,V,Τ⟩,λt=> ?_,XW.2.2.1.trans l,XW.2.2.2.trans n,(λe=>by cases e),λ_=>⟨?_,λR j=> ?_⟩⟩
  ·rw[tA,tA,J];split<;>rfl
  ·rw[XW.1,XW.1,J]
  ·rw[XW.2.1]at j⊢;have:=List.append_cancel_right j;have e:kQ c S2 a Q=kQ c S a Q:=by unfold kQ;rw[J]
   rw[e,this]
end
open Go.Wk
open Go.Ce (Tr)
open Go.Op renaming operands → lM
open Nat renaming beq → cY, succ → qW
theorem IP:∀l A,(∃B,gO l A=A++B)/\∀i o,l[i]? =θ o->(gO l A)[γ A+i]? =θ (Qr ((gO l A).take (γ A+i)) o.after.toList)
 |[],A=>⟨⟨[],by simp[gO]⟩,λi o h=>by simp at h⟩
 |o::l,A=>by
  obtain⟨⟨B,b⟩,c⟩:=IP l (A++[Qr A o.after.toList]);have e:gO (o::l) A=gO l (A++[Qr A o.after.toList]):=Τ;refine⟨⟨[Qr A o.after.toList]++B,by rw[e,b,jI]⟩,λi a h=> ?_⟩;cases i with
  |zero=>have h:o=a:=aA7;subst h;rw[e,b];simp
  |succ i=>have:=c i a aA7;rw[cE,eG,Dc,Ia 1 i]at this;exact this
theorem Kw{j:Nat}:∀{l r:δ Nat},j∈TU l r↔j∈l\/j∈r
 |[],r=>by simp[TU]
 |x::l,r=>by
  unfold TU;cases h:lG x r with
  |true=>have hx:=Xl.1 h;rw[aM,Kw,aQ];exact⟨λh=>h.elim (λh=>.inl (.inr h)) .inr,λh=>h.elim (λh=>h.elim (λe=>.inr (e▸hx)) .inl) .inr⟩
  |false=>rw[aG,Kw,aQ,aQ];exact⟨λh=>h.elim (λh=>.inl (.inr h)) (λh=>h.elim (λe=>.inl (.inl e)) .inr),λh=>h.elim (λh=>h.elim (λe=>.inr (.inl e)) .inl) (λh=>.inr (.inr h))⟩
theorem IQ{A:δ (δ Nat)}{j:Nat}:∀{l:δ Edge},j∈Qr A l↔∃e∈l,Region.binds .any e=μ/\(j=e.on\/j∈Qh A e.on)
 |[]=>by simp[Qr]
 |e::l=>by
  have a:=IQ (A:=A) (j:=j) (l:=l);simp only[Qr];cases b:Region.binds .any e with
  |true=>simp only[aM,Kw,aQ,a,exists_eq_or_imp,b,true_and];exact Iff.rfl
  |false=>simp only[aG,a,aQ,exists_eq_or_imp,b,pP,false_and,false_or]
theorem nU:∀{l:δ Α}{i:Nat},Qk l i=μ->∀j o,l[j]? =θ o->∀e∈o.after,Region.binds .any e=μ->e.on<i+j
 |[],i,_,j,o,a=>by simp at a
 |x::l,i,h,j,o,a=>by
  have h:=gX (h);intro e b c;cases j with
  |zero=>have a:x=o:=aC0;subst a;have:=aT.1 h.1 e aC2;rw[c]at this;simpa [iQ] using this
  |succ j=>have:=nU h.2 j o aC0 e b c;omega
theorem Qs{A:δ (δ Nat)}{k i:Nat}(h:i<k):Qh (A.take k) i=Qh A i:=by unfold Qh;rw[gG,gG,bQ,aB h]
section
variable{l:δ Α}
variable{i:Nat}
theorem SX(g:Qk l 0=μ){o:Α}(f:l[i]? =θ o){j:Nat}:j∈Qh (gO l []) i↔∃e∈o.after,Region.binds .any e=μ/\(j=e.on\/j∈Qh (gO l []) e.on):=by
 have h:=(IP l []).2 i o f;rw[iH,Kh]at h;have e:Qh (gO l []) i=Qr ((gO l []).take i) o.after.toList:=by unfold Qh;rw[gG,h]
 rw[e,IQ];constructor
 ·rintro⟨e,c,b,d⟩;have a:e∈o.after:=aC8;have:=nU g i o f e a b;rw[Qs aA0]at d;exact⟨e,a,b,d⟩
 ·rintro⟨e,c,b,d⟩;have:=nU g i o f e c b;refine⟨e,aC8,b,?_⟩;rw[Qs aA0];exact d
theorem NF(h:l[i]? =ι):Qh (gO l []) i=[]:=by
 have key:∀l A,γ (gO l A)=γ A+γ l:=by
  intro l;induction l with
  |nil=>intro A;rfl
  |cons o l a=>intro A;rw[show gO (o::l) A=gO l _ from rfl,a];simp;omega
 unfold Qh;have c:=List.getElem?_eq_none_iff.1 h;have b:=key l [];rw[gG,bO (by simp at b;omega)]
theorem ND(d:Qk l 0=μ):∀i j,j∈Qh (gO l []) i->j<i:=by
 intro i;induction i using Nat.strongRecOn with
 |_ i f=>
  intro j b;cases a:l[i]? with
  |none=>rw[NF a]at b;cases b
  |some o=>
   obtain⟨e,g,h,c⟩:=(SX d a).1 b;have k:=nU d i o a e g h;rcases c with rfl|c
   ·omega
   ·have:=f e.on aA0 j c;omega
theorem Qq{Ξ:Array Α}{listed:Array η}(w:l=Ξ.toList.take i)(s:Qk l 0=μ)(g:HeadInv .any Ξ i listed):∀k o,l[k]? =θ o->(∀e∈o.after,Region.binds .any e=μ->listed.getD e.on ν=μ)->∀j∈Qh (gO l []) k,listed.getD j ν=μ:=by
 intro k;induction k using Nat.strongRecOn with
 |_ k v=>
  intro o m d j x;obtain⟨e,r,u,q⟩:=(SX s m).1 x;have A:=nU s k o m e r u;have t:=d e r u;rcases q with rfl|q
  ·exact t
  ·have z:=(aF.1 m).1;have c:e.on<γ l:=by omega
   obtain⟨f,b⟩:∃f,l[e.on]? =θ f:=⟨_,aN c⟩
   have h:Ξ[e.on]? =θ f:=by
    have a:=b;rw[w,bQ]at a;split at a
    ·simpa using a
    ·cases a
   exact v e.on aA0 _ b (λy n p=>g.closed e.on _ h t y n p) j q
end
theorem Ve{A:δ (δ Nat)}{i:Nat}{rd:δ Nat}:∀{l:δ Α}{a:Nat},Zv A i rd l a=μ->∀j (o:Α) (d:Nat),l[j]? =θ o->o.dst=θ d->d∈rd->i=a+j\/EZ A i (a+j)=μ
 |[],a,_,j,o,d,b=>by simp at b
 |x::l,a,h,j,o,d,b=>by
  have h:=gX (h);intro f e;cases j with
  |zero=>
   have b:x=o:=aC2;subst b;have c:=h.1;rw[f]at c;simp only[Xl.2 e]at c;cases g:cY i a with
   |true=>exact .inl (gR g)
   |false=>rw[g]at c;exact .inr c
  |succ j=>have:=Ve h.2 j o d aC2 f e;rw[show qW a+j=a+(j+1)by omega]at this;exact this
theorem Mu{Ξ:δ Α}{A:δ (δ Nat)}{all:δ Α}:∀{l:δ Α}{a:Nat},Jo Ξ A all l a=μ->∀i o,l[i]? =θ o->Zv A (a+i) (Ai o.op.operands.toList++Wh Ξ o) all 0=μ
 |[],a,_,i,o,b=>by simp at b
 |x::l,a,h,i,o,b=>by
  have h:=gX (h);cases i with
  |zero=>have b:x=o:=aC2;subst b;exact h.1
  |succ i=>have:=Mu h.2 i o aC2;rw[show qW a+i=a+(i+1)by omega]at this;exact this
theorem Vn{A:δ (δ Nat)}{i:Nat}{q:η×δ Nat}:∀{l:δ (η×δ Nat)}{a:Nat},Zz A i q l a=μ->∀j p,l[j]? =θ p->i≠a+j->EZ A i (a+j)=ν->p.1=μ->q.1=ν/\∀x∈q.2,x∉p.2
 |[],a,_,j,p,b=>by simp at b
 |x::l,a,h,j,p,b=>by
  have h:=gX (h);intro g d f;cases j with
  |zero=>
   have b:x=p:=aC2;subst b;have c:=h.1;have k:cY i a=ν:=by rw[beqN];simp;omega
   rw[Ru]at d;rw[k,d,f]at c;cases e:q.1 with
   |true=>rw[e]at c;cases c
   |false=>rw[e]at c;exact⟨Τ,sT.1 c⟩
  |succ j=>refine Vn h.2 j p aC2 aA0 ?_ f;rw[show qW a+j=a+(j+1)by omega];exact d
theorem FG{A:δ (δ Nat)}{all:δ (η×δ Nat)}:∀{l:δ (η×δ Nat)}{a:Nat},QQ A all l a=μ->∀i q,l[i]? =θ q->Zz A (a+i) q all 0=μ
 |[],a,_,i,q,b=>by simp at b
 |x::l,a,h,i,q,b=>by
  have h:=gX (h);cases i with
  |zero=>have b:x=q:=aC2;subst b;exact h.1
  |succ i=>have:=FG h.2 i q aC2;rw[show qW a+i=a+(i+1)by omega]at this;exact this
theorem Vd{C:Cx}{Ξ:δ Α}{ρ':Ty}{d:St->δ (η×δ Nat)->ε ρ'.T}{r:ρ'.T}:∀(l:δ Α) (i:Nat) (S:St) (c:δ (η×δ Nat)),kc C Ξ l i S c d=θ r->
  ∃(T:Nat->St) (es:δ (η×δ Nat)),T 0=S/\(∀(j:Nat) (o:Α),l[j]? =θ o->JS C Ξ (T j) o (T (j+1))/\es[j]? =θ (entry C (T j) (T (j+1)) o))/\d (T (γ l)) (c++es)=θ r
 |[],i,S,c,h=>⟨λ_=>S,[],Τ,λj o a=>by simp at a,by rw[gH];exact h⟩
 |o::l,i,S,c,h=>by
  obtain⟨b,n,m⟩:=DN (show UK C Ξ i S o (λb=>kc C Ξ l (qW i) b (c++[entry C S b o]) d)=θ r from h);obtain⟨T,es,k,g,f⟩:=Vd l (qW i) b _ m;refine⟨λj=>match j with
   |0=>S
   |j+1=>T j,entry C S b o::es,Τ,λj e a=> ?_,by rw[jI]at f;exact f⟩
  cases j with
  |zero=>have a:o=e:=aC0;subst a;show JS C Ξ S o (T 0)/\θ (entry C S b o)=θ (entry C S (T 0) o);rw[k];exact⟨n,Τ⟩
  |succ j=>exact g j e aC0
theorem AD:∀l:δ Rg,ld l=γ l
 |[]=>rfl
 |_::l=>by show qW _=_;rw[AD l];rfl
theorem HE:∀{a m:δ Rg}{q:Rg},q∈a->q.1∈oc (γ a) (a++m)
 |x::a,m,q,h=>by
  rcases aQ.1 h with rfl|h
  ·exact gQ
  ·exact fB _ (HE h)
section
variable{C:Cx}{md:Md}{w0:ο}{S0:δ Nat}{GS:Cy}
structure Way (C:Cx) (Ξ:List Α) (l:List Α) (T:Nat->St) (es:List (Bool×List Nat)):Prop where
 st:∀(j:Nat) (o:Α),l[j]? =θ o->JS C Ξ (T j) o (T (j+1))/\es[j]? =θ (entry C (T j) (T (j+1)) o)
 nd:∀(i j:Nat) (o o2:Α) (t:Nat),l[i]? =θ o->l[j]? =θ o2->o.dst=θ t->o2.dst=θ t->i=j
variable{Ξ l:δ Α}{T:Nat->St}{es:δ (η×δ Nat)}
theorem Way.at(h:Way C Ξ l T es)(t:Nat):∀i,i<=γ l->(∀j (o:Α),l[j]? =θ o->o.dst=θ t->(T i).at t=if j<i then(T (j+1)).at t else(T 0).at t)/\((∀(j:Nat) o,l[j]? =θ o->o.dst≠θ t)->(T i).at t=(T 0).at t)
 |0,_=>⟨λj o _ _=>by simp,λ_=>rfl⟩
 |i+1,q=>by
  obtain⟨p,n⟩:=h.at t i aA0;have a:l[i]? =θ _:=aN aA0;have b:=(bu (h.st i _ a).1).1;refine⟨λj o k m=> ?_,λg=> ?_⟩
  ·by_cases d:j=i
   ·subst d;rw[aB aA0]
   ·have f:(l[i]' aA0).dst≠θ t:=λe=>d (h.nd j i _ _ t k a m e);rw[b t f,p j o k m];by_cases c:j<i
    ·rw[aB c,aB aA0]
    ·rw[aA c,aA aA0]
  ·rw[b t (g i _ a)];exact n g
theorem Way.nb(h:Way C Ξ l T es):∀i,i<=γ l->(T i).nb=(T 0).nb/\(T i).al=(T 0).al
 |0,_=>⟨Τ,Τ⟩
 |i+1,f=>by have a:l[i]? =θ _:=aN aA0;obtain⟨_,e,d⟩:=bu (h.st i _ a).1;obtain⟨c,b⟩:=h.nb i aA0;exact⟨e.trans c,d.trans b⟩
theorem Way.still(h:Way C Ξ l T es):∀d i,i+d<=γ l->(∀j o,i<=j->j<i+d->l[j]? =θ o->qt C o.op=μ)->(T (i+d)).H=(T i).H/\(T (i+d)).m=(T i).m
 |0,i,_,_=>⟨Τ,Τ⟩
 |d+1,i,k,c=>by obtain⟨b,e⟩:=h.still d i aA0 (λj o b e=>c j o b aA0);have a:l[i+d]? =θ _:=aN aA0;obtain⟨g,f⟩:=Xn (h.st _ _ a).1 (c _ _ aA0 aA0 a);exact⟨g.trans b,f.trans e⟩
theorem Way.AM(h:Way C Ξ l T es){id:Nat}{n:Ob}:∀(d i:Nat),i+d<=γ l->(∀(j:Nat) (o:Α) (p:η×δ Nat),i<=j->j<i+d->l[j]? =θ o->es[j]? =θ p->p.1=μ->id∉p.2)->fC (T i).H id=θ n->fC (T (i+d)).H id=θ n
 |0,i,_,_,r=>r
 |d+1,i,w,g,r=>by
  have k:=h.AM d i aA0 (λj o p k s=>g j o p k aA0) r;have c:l[i+d]? =θ (l[i+d]' aA0):=aN aA0;obtain⟨s,v⟩:=h.st (i+d) _ c;have b:=g (i+d) _ _ aA0 aA0 c v;unfold entry at b;cases a:qt C (l[i+d]' aA0).op with
  |true=>show fC (T (i+d+1)).H id=_;rw[(Xn s a).1];exact k
  |false=>rw[a]at b;have b:=b Τ;obtain⟨f,u,t⟩:=TB s;refine t id n (λq g e=>b ?_) k;rw[AD,AD,u,cE];show id∈oc (Nat.sub (γ f+γ (T (i+d)).m) (γ (T (i+d)).m)) (f++(T (i+d)).m);rw[show Nat.sub (γ f+γ (T (i+d)).m) (γ (T (i+d)).m)=γ f from Nat.add_sub_cancel _ _,<-e];exact HE g
theorem yw{ρ:Nat->Ad}{S S2:St}{F:Nat->ξ}{w:ο}(h:Rel C w0 S0 ρ S F w)(b:∀t,S2.at t=S.at t)(a:S2.H=S.H):Rel C w0 S0 ρ S2 F w:=by
 refine⟨?_,λt v c=>h.fr t v (by rw[<-b];exact c),λt=>by rw[b,a];exact h.fo t,?_,?_⟩
 ·rw[a];exact h.gl
 ·rw[a];exact h.ho
 ·rw[a];exact h.mem
variable{n:Nat}
theorem W2{v:SV}{id:Nat}(h:v.ok n)(hid:id∈Xc v):id<n:=by unfold Xc at hid;split at hid;all_goals first|(cases hid;done)|(have e:=aH.1 hid;subst e;exact h _ (aH.2 Τ))
theorem XA{a:χ->SV}{op:Op}(h:n∈Wm a op):∃x∈op.operands,n∈Xc (a x):=by
 have key:∀l:δ χ,n∈HF a l->∃x∈l,n∈Xc (a x):=by
  intro l;induction l with
  |nil=>intro h;cases h
  |cons x l e=>
   intro h;rcases aV.1 (h)with h|h
   ·exact⟨x,gQ,h⟩
   ·obtain⟨y,d,b⟩:=e h;exact⟨y,fB _ d,b⟩
 cases op<;>first|(cases h;done)|skip
 case load t x=>exact⟨x,by simp[lM],h⟩
 case indexAddr t x f=>exact⟨x,by simp[lM],h⟩
 case convert s t x=>exact⟨x,by simp[lM],h⟩
 case call c=>
  obtain⟨x,d,b⟩:=key _ h;refine⟨x,?_,b⟩;simp only[lM,Call.operands,yR];exact .inr aD5
theorem min_mem:∀{U:δ Nat},U≠[]->∃i∈U,∀j∈U,i<=j
 |[x],_=>⟨x,gQ,λj a=>by rw[aH.1 a];exact dK _⟩
 |x::y::U,_=>by
  obtain⟨i,c,b⟩:=min_mem (U:=y::U) aA2;by_cases h:x<=i
  ·exact⟨x,gQ,λj a=>(aQ.1 a).elim (λe=>by rw[e];exact dK _) λa=>qT h (b j a)⟩
  ·exact⟨i,fB _ c,λj a=>(aQ.1 a).elim (λe=>by rw[e];omega) (b j)⟩
theorem Vq{a:Type}:∀(l:δ a) k,SK l k=l.take k
 |[],k=>by simp[SK]
 |x::l,0=>rfl
 |x::l,k+1=>by simp[SK,Vq l k]
theorem Ho{Ξ:Array Α}:∀{k j:Nat},Y9 Ξ k=θ j->Fy Ξ j=μ
 |0,j,h=>by have h:=dF h;cases h.2;exact h.1
 |k+1,j,h=>by
  have h:=dF h;have a:=h.2;split at a
  ·rename_i i b;cases a;exact Ho b
  ·cases a;exact h.1
theorem B2:∀{l:δ Α},(Gn l).Nodup->∀(i j:Nat) (o b) (t:Nat),l[i]? =θ o->l[j]? =θ b->o.dst=θ t->b.dst=θ t->i=j
 |[],_,i,j,o,b,t,a=>by simp at a
 |x::l,h,i,j,o,b,t,a=>by
  intro f g c;have m:∀(i:Nat) (o:Α),l[i]? =θ o->o.dst=θ t->t∈Gn l:=by
   intro i o a g;have p:∀{l:δ Α},o∈l->t∈Gn l:=by
    intro l;induction l with
    |nil=>intro h;cases h
    |cons y l n=>
     intro h;rw[zF];rcases aQ.1 h with rfl|h
     ·exact .inl g
     ·exact .inr (n h)
   exact p (aI a)
  have k:(Gn l).Nodup/\(x.dst=θ t->t∉Gn l):=by
   simp only[Gn]at h;cases hx:x.dst with
   |none=>rw[hx]at h;exact⟨h,λe=>by cases e⟩
   |some d=>rw[hx]at h;simp at h;exact⟨h.2,λe=>by cases e;exact h.1⟩
  cases i with
  |zero=>
   have a:x=o:=aC0;subst a;cases j with
   |zero=>rfl
   |succ j=>exact absurd (m j b aE3 c) (k.2 g)
  |succ i=>
   cases j with
   |zero=>have f:x=b:=aE3;subst f;exact absurd (m i o aC0 g) (k.2 c)
   |succ j=>have:=B2 k.1 i j o b t aC0 aE3 g c;omega
end
open Go.Wk
open Go.Ce (Tr)
open List renaming replicate → jZ
open Nat renaming blt → fI
open _root_.Array renaming replicate → JE
section
variable{C:Cx}{md:Md}{w0:ο}{S0:δ Nat}{GS:Cy}
variable{Ξ:Array Α}{l:δ Α}{T:Nat->St}{es:δ (η×δ Nat)}{k:Nat}
structure Mid (C:Cx) (l:List Α) (T:Nat->St) (listed:Array Bool) (X:St):Prop where
 at1:∀(t j:Nat) (o:Α),l[j]? =θ o->o.dst=θ t->X.at t=if listed.getD j ν=μ then(T (j+1)).at t else(T 0).at t
 at2:∀t,(∀(j:Nat) (o:Α),l[j]? =θ o->o.dst≠θ t)->X.at t=(T 0).at t
 nb:X.nb=(T 0).nb
 al:X.al=(T 0).al
 hv:∃h,h<=γ l/\X.H=(T h).H/\X.m=(T h).m/\∀(j:Nat) (o:Α),l[j]? =θ o->qt C o.op=ν->(listed.getD j ν=μ↔j<h)
variable{a:Nat->Ad}
theorem XI(hE:Env C md w0 S0 GS)(b9:md=⟨md.n,[],ι⟩)(hl:l=Ξ.toList.take k)(hk:k<=Ξ.size)(g3:Fy Ξ k=μ)(d4:Region.seqB .any Ξ (Ξ.size-k) k (jZ k μ++jZ (Ξ.size-k) ν).toArray=μ)
  (hb:Qk l 0=μ) (g5:Jo Ξ.toList (gO l []) l l 0=μ) (Y:Way C Ξ.toList l T es) (e0:QQ (gO l []) es es 0=μ) {Q:Exit->Act->ο->Prop}  {F0:Nat->ξ}
  (e9:∀X ρ F w,Rel C w0 S0 ρ X F w->Nx (T 0) a X ρ->(∀t,X.at t=(T (γ l)).at t)->X.H=(T (γ l)).H->X.nb=(T (γ l)).nb->X.al=(T (γ l)).al->X.m=(T (γ l)).m->(∀t,t∉Gn l->F t=F0 t)->W C.P md Ξ Q (Ξ.toList.drop k) F w):
  ∀f (U:δ Nat) listed X ρ F w,γ U=f->U.Nodup->(∀i,i∈U↔i<k/\listed.getD i ν=ν)->HeadInv .any Ξ k listed->Mid C l T listed X->Rel C w0 S0 ρ X F w->Nx (T 0) a X ρ->(∀t,t∉Gn l->F t=F0 t)->
   zG C.P .any Ξ Q (λ_ _ _=>True) k (λm w=>wpList C.P Ξ Q (Ξ.toList.drop k) m w) f listed (fr md F) w:=by
 have k0:γ l=k:=by rw[hl,iI,Array.length_toList];exact TF hk
 have a2:∀i,i<k->∃o,l[i]? =θ o/\Ξ[i]? =θ o:=by
  intro i hi;have e5:i<Ξ.size:=NV hi hk;refine⟨Ξ[i],?_,gA e5⟩;have e:l[i]? =Ξ.toList[i]? :=by rw[hl,bQ,aB hi]
  rw[e,Array.getElem?_toList];exact gA e5
 have i9:∀{F:Nat->ξ} {w:ο},W C.P md Ξ Q (Ξ.toList.drop k) F w->wpList C.P Ξ Q (Ξ.toList.drop k) (fr md F) w:=by intro F w h;unfold W WR at h;rw[b9]at h;rw[b9];exact h
 intro f;induction f with
 |zero=>
  intro U listed X ρ F w hU b7 R g Z hR hN hF;have j0:U=[]:=qR hU;have I:∀i,i<k->listed.getD i ν=μ:=by
   intro i hi;cases hg:listed.getD i ν with
   |true=>rfl
   |false=>have:=(R i).2 ⟨hi,hg⟩;rw[j0]at this;cases this
  have c1:listed=(jZ k μ++jZ (Ξ.size-k) ν).toArray:=by
   apply ep
   ·rw[g.size];simp;omega
   ·intro i r s;rw[g.size]at r;by_cases v:i<k
    ·have:=I i v;have e:listed.getD i ν=listed[i]:=by simp[Array.getD,g.size,r]
     rw[e]at this;rw[this];simp[v]
    ·have:=g.tail i aA0 r;have e:listed.getD i μ=listed[i]:=by simp[Array.getD,g.size,r]
     rw[e]at this;rw[this];simp[List.getElem_append,v]
  refine⟨by rw[c1];exact d4,i9 ?_⟩
  obtain⟨h,r,s,h3,h4⟩:=Z.hv;have b4:=Y.still (γ l-h) h aA0 (λj o k9 k8 b=>by
   cases z:qt C o.op with
   |true=>rfl
   |false=>have S:=(aF.1 b).1;have:=(h4 j o b z).1 (I j aA0);omega)
  rw[show h+(γ l-h)=γ l by omega]at b4;have d8:=Y.nb (γ l) (dK _);refine e9 X ρ F w hR hN (λt=> ?_) (s.trans b4.1.symm) (Z.nb.trans d8.1.symm) (Z.al.trans d8.2.symm) (h3.trans b4.2.symm) hF;obtain⟨h5,h6⟩:=Y.at t (γ l) (dK _);by_cases hw:∃(j:Nat) (o:Α),l[j]? =θ o/\o.dst=θ t
  ·obtain⟨j,o,b,N⟩:=hw;have S:=(aF.1 b).1;rw[Z.at1 t j o b N,h5 j o b N,aB (I j aA0),aB S]
  ·have hn:∀(j:Nat) (o:Α),l[j]? =θ o->o.dst≠θ t:=λj o b N=>hw ⟨j,o,b,N⟩;rw[Z.at2 t hn,h6 hn]
 |succ f ih=>
  intro U listed X ρ F w hU b7 R g Z hR hN hF;have f2:U≠[]:=λe=>by rw[e]at hU;cases hU
  obtain⟨i0,i1,d9⟩:=min_mem f2;have L:=(R i0).1 i1;refine⟨λhe=> ?_,λi hi=> ?_⟩
  ·
   obtain⟨o,O,a6⟩:=a2 i0 L.1
   have:i0∈Ζ .any Ξ listed:=by
    refine mem_ready.2 ⟨getD_in (by rw[g.size];omega) L.2,o,a6,λe c2 c4=> ?_⟩;have r:=nU hb i0 o O e c2 c4;cases hg:listed.getD e.on ν with
    |true=>rfl
    |false=>have s:=(R e.on).2 ⟨aA0,hg⟩;have:=d9 e.on s;omega
   rw[he]at this;cases this
  ·obtain⟨g1,o,a6,I⟩:=mem_ready.1 hi;have B:listed.getD i ν=ν:=getD_both g1;have v:i<k:=by
    by_cases v:i<k
    ·exact v
    ·exact absurd hi (rE g3 L.1 listed g (getD_in (by rw[g.size];omega) L.2) i aA0)
   refine⟨v,?_⟩;obtain⟨o',O,a1⟩:=a2 i v;rw[a6]at a1;cases a1;have h0:i∈U:=(R i).2 ⟨v,B⟩;obtain⟨b3,e8⟩:=Y.st i o O;have d3:∀j∈Qh (gO l []) i,listed.getD j ν=μ:=Qq hl hb g i o O I;have f0:∀(j:Nat),j<k->listed.getD j ν=μ->i∉Qh (gO l []) j:=by intro j b c0 E;obtain⟨c,g6,d6⟩:=a2 j b;have:=Qq hl hb g j c g6 (λe he c4=>g.closed j c d6 c0 e he c4) i E;rw[B]at this;cases this
   have e4:∀j∈Qh (gO l []) i,j<i:=λj b=>ND hb i j b
   have a0:∀t,t∈Ai o.op.operands.toList++Wh Ξ.toList o->X.at t=(T i).at t:=by
    intro t ht;obtain⟨h5,h6⟩:=Y.at t i aA0;by_cases hw:∃(j:Nat) (o:Α),l[j]? =θ o/\o.dst=θ t
    ·obtain⟨j,c,b,N⟩:=hw;have S:=(aF.1 b).1;rw[Z.at1 t j c b N,h5 j c b N];have h7:=Mu g5 i o O;rw[Kh]at h7;have h8:=Ve h7 j c t b N ht;rw[Kh]at h8;rcases h8 with rfl|h8
     ·rw[B,aA aA2,aA aA0]
     ·unfold EZ at h8;cases E:lG i (Qh (gO l []) j)with
      |true=>
       have E:=Xl.1 E;have l0:=ND hb j i E
       have:listed.getD j ν=ν:=by
        cases hg:listed.getD j ν with
        |false=>rfl
        |true=>exact absurd E (f0 j aA0 hg)
       rw[this,aA aA2,aA aA0]
      |false=>rw[E]at h8;have e3:=Xl.1 (show lG j (Qh (gO l []) i)=μ from h8);rw[d3 j e3,aB rfl,aB (e4 j e3)]
    ·have hn:∀(j:Nat) (o:Α),l[j]? =θ o->o.dst≠θ t:=λj o b N=>hw ⟨j,o,b,N⟩;rw[Z.at2 t hn,h6 hn]
   have a9:∀t,Operand.tmp t∈o.op.operands->X.at t=(T i).at t:=λt ht=>a0 t (Gi _ (Du.2 (by simpa using ht)));have i3:∀t∈Wh Ξ.toList o,X.at t=(T i).at t:=λt ht=>a0 t (YO _ ht)
   obtain⟨h,i2,a7,e7,V⟩:=Z.hv;have K:=Y.nb i aA0;have a3:∀j c,l[j]? =θ c->qt C c.op=ν->((h<=j/\j<i)\/(i<=j/\j<h))->j≠i->EZ (gO l []) i j=ν:=by
    intro j c b z c3 q;have S:=(aF.1 b).1;unfold EZ;rcases c3 with⟨r,s⟩|⟨r,s⟩
    ·have g7:listed.getD j ν=ν:=by
      cases hg:listed.getD j ν with
      |false=>rfl
      |true=>have:=(V j c b z).1 hg;omega
     have e1:lG i (Qh (gO l []) j)=ν:=by
      cases E:lG i _ with
      |false=>rfl
      |true=>have:=ND hb j i (Xl.1 E);omega
     have e2:lG j (Qh (gO l []) i)=ν:=by
      cases E:lG j _ with
      |false=>rfl
      |true=>have:=d3 j (Xl.1 E);rw[g7]at this;cases this
     rw[e1,e2];rfl
    ·have c0:=(V j c b z).2 s;have e1:lG i (Qh (gO l []) j)=ν:=by
      cases E:lG i _ with
      |false=>rfl
      |true=>exact absurd (Xl.1 E) (f0 j aA0 c0)
     have e2:lG j (Qh (gO l []) i)=ν:=by
      cases E:lG j _ with
      |false=>rfl
      |true=>have:=e4 j (Xl.1 E);omega
     rw[e1,e2];rfl
   have b8:∀j c (p:η×δ Nat),l[j]? =θ c->es[j]? =θ p->p.1=μ->j≠i->EZ (gO l []) i j=ν->(entry C (T i) (T (i+1)) o).1=ν/\∀x∈(entry C (T i) (T (i+1)) o).2,x∉p.2:=by intro j c p b J D q u;have r:=FG e0 i _ e8;rw[Kh]at r;have s:=Vn r j p J aA0 (by rw[Kh];exact u) D;exact s
   have b6:∀(j:Nat) (c:Α) (p:η×δ Nat),l[j]? =θ c->es[j]? =θ p->p.1= !(qt C c.op):=by intro j c p b J;obtain⟨_,r⟩:=Y.st j c b;rw[J]at r;cases r;unfold entry;cases qt C c.op<;>rfl
   have M:qt C o.op=ν->X.H=(T i).H/\X.m=(T i).m:=by
    intro z;have i7:(entry C (T i) (T (i+1)) o).1=μ:=by unfold entry;rw[z];rfl
    have ι:∀j c,l[j]? =θ c->((h<=j/\j<i)\/(i<j/\j<h))->qt C c.op=μ:=by
     intro j c b hc;cases d:qt C c.op with
     |true=>rfl
     |false=>exfalso;have S:=(aF.1 b).1;obtain⟨p,J⟩:∃p,es[j]? =θ p:=⟨_,(Y.st j c b).2⟩;have q:j≠i:=aA0;have u:=a3 j c b d aA0 q;have:=(b8 j c p b J (by rw[b6 j c p b J,d];rfl) q u).1;rw[i7]at this;cases this
    have h9:¬i<h:=λG=>by have:=(V i o O z).2 G;rw[B]at this;cases this
    have:=Y.still (i-h) h aA0 (λj c r s b=>ι j c b (.inl ⟨r,aA0⟩));rw[show h+(i-h)=i by omega]at this;exact⟨a7.trans this.1.symm,e7.trans this.2.symm⟩
   have a5:qt C o.op=μ->ry (T i).H X.H (Wm ((T i).ev C) o.op):=by
    intro z id hid o2 hg;have c2:(entry C (T i) (T (i+1)) o).2=Wm ((T i).ev C) o.op:=by unfold entry;rw[z];rfl
    rw[a7];have f4:∀j c p,((h<=j/\j<i)\/(i<=j/\j<h))->l[j]? =θ c->es[j]? =θ p->p.1=μ->id∉p.2:=by
     intro j c p hc b J D;have d:qt C c.op=ν:=by
      have:=b6 j c p b J;rw[D]at this;cases d:qt C c.op with
      |false=>rfl
      |true=>rw[d]at this;cases this
     have q:j≠i:=λe=>by subst e;rw[O]at b;cases b;rw[z]at d;cases d
     have u:=a3 j c b d hc q;exact(b8 j c p b J D q u).2 id (by rw[c2];exact hid)
    by_cases l1:h<=i
    ·
     have G:id<γ (T h).H:=by
      obtain⟨x,hx,i4⟩:=XA hid;have i6:X.ev C x=(T i).ev C x:=by
       cases x with
       |tmp t=>show(bif fI t C.nn then X.at t else .u')=(bif fI t C.nn then(T i).at t else .u');rw[a9 t hx]
       |_=>rfl
      have d5:=(Tm hR hE.n x).1;rw[i6,a7]at d5;exact W2 d5 i4
     obtain⟨o3,a1⟩:∃o3,fC (T h).H id=θ o3:=by rw[gG];exact⟨_,aN G⟩
     have:=Y.AM (i-h) h aA0 (λj c p r s b J D=>f4 j c p (.inl ⟨r,aA0⟩) b J D) a1;rw[show h+(i-h)=i by omega,hg]at this;rw[a1,this]
    ·have:=Y.AM (h-i) i aA0 (λj c p r s b J D=>f4 j c p (.inr ⟨r,aA0⟩) b J D) hg;rw[show i+(h-i)=h by omega]at this;exact this
   obtain⟨X3,c5,b2,d7,f1,g4,e6⟩:=bs b3 a9 i3 (Z.nb.trans K.1.symm) (Z.al.trans K.2.symm) a5 (λz=>(M z).1);have d1:=g.set hi v;have b5:i<listed.size:=by rw[g.size];omega
   have A:∀j,(listed.setIfInBounds i μ).getD j ν=if j=i then μ else listed.getD j ν:=by
    intro j;simp only[Array.getD_eq_getD_getElem?,Array.getElem?_setIfInBounds];by_cases e:i=j
    ·subst e;simp[b5]
    ·rw[aA e,aA (λh=>e h.symm)]
   have c6:W C.P md Ξ (Exit.then (λa' w'=>True/\zG C.P .any Ξ Q (λ_ _ _=>True) k (λm w=>wpList C.P Ξ Q (Ξ.toList.drop k) m w) f (listed.setIfInBounds i μ) a' w') Q) [o] F w:=by
    refine IT hE c5 hR _ [] λf9 F2 w2 j1 j2 i5 _=>jO ⟨trivial,?_⟩;refine ih _ _ X3 f9 F2 w2 (by rw[List.length_erase_of_mem h0,hU];rfl) (b7.erase i) (λj=> ?_) d1 ?_ j1 (hN.trans j2) (λt ht=> ?_)
    ·rw[b7.mem_erase_iff,R,A];constructor
     ·rintro⟨r,s,h3⟩;rw[aA r];exact⟨s,h3⟩
     ·rintro⟨r,s⟩;by_cases e:j=i
      ·rw[aB e]at s;cases s
      ·rw[aA e]at s;exact⟨e,r,s⟩
    ·refine⟨λt j c b N=> ?_,λt hn=> ?_,d7.trans K.1,f1.trans K.2,?_⟩
     ·rw[b2 t,A];by_cases e:j=i
      ·subst e;rw[O]at b;cases b;rw[aB N,aB rfl,aB rfl]
      ·have g8:¬o.dst=θ t:=λe2=>e (Y.nd j i c o t b O N e2);rw[aA g8,aA e];exact Z.at1 t j c b N
     ·rw[b2 t,aA (hn i o O)];exact Z.at2 t hn
     ·cases z:qt C o.op with
      |true=>
       obtain⟨r,s⟩:=g4 z;refine⟨h,i2,r.trans a7,s.trans e7,λj c b d=> ?_⟩;rw[A];have q:j≠i:=λe=>by subst e;rw[O]at b;cases b;rw[z]at d;cases d
       rw[aA q];exact V j c b d
      |false=>
       obtain⟨r,s⟩:=e6 z;obtain⟨mn,h3,_⟩:=TB b3;refine⟨i+1,aA0,r,?_,λj c b d=> ?_⟩
       ·rw[s mn h3,(M z).2,h3]
       ·rw[A];have S:=(aF.1 b).1;by_cases q:j=i
        ·subst q;simp
        ·rw[aA q,V j c b d];have h9:¬i<h:=λG=>by have:=(V i o O z).2 G;rw[B]at this;cases this
         constructor
         ·intro h4;omega
         ·intro h4;by_cases g9:j<h
          ·exact g9
          ·exfalso;obtain⟨p,J⟩:∃p,es[j]? =θ p:=⟨_,(Y.st j c b).2⟩;have u:=a3 j c b d (.inl ⟨aA0,aA0⟩) q;have:=(b8 j c p b J (by rw[b6 j c p b J,d];rfl) q u).1;unfold entry at this;rw[z]at this;cases this
    ·have g2:o.dst≠θ t:=λe=>ht (by
      have E:∀{l:δ Α},o∈l->t∈Gn l:=by
       intro l;induction l with
       |nil=>intro h;cases h
       |cons y l ih=>
        intro h;rw[zF];rcases aQ.1 h with rfl|h
        ·exact .inl e
        ·exact .inr (ih h)
      exact E (aI O))
     rw[i5 t g2,hF t ht]
   unfold W WR at c6;rw[b9]at c6⊢;refine wpOp_mono ?_ (Mv a6 c6);rintro a' w' ⟨_,s⟩;exact⟨trivial,s⟩
theorem zE{t:Nat}:∀{l:δ Α},t∈Gn l↔∃o∈l,o.dst=θ t
 |[]=>by simp[Gn]
 |x::l=>by rw[zF,zE];simp
theorem nx_as{S X Y:St}{ρ:Nat->Ad}(h:Nx S a X ρ)(e:Y.H=X.H)(b:Y.nb=X.nb)(c:Y.al=X.al)(d:Y.m=X.m):Nx S a Y ρ:=
 ⟨⟨b.trans h.nb,c.trans h.al,by rw[e];exact h.le⟩,by rw[e,d];exact h.lg,λid j f=>by rw[d];exact h.mm id j f⟩
theorem Y8(hE:Env C md w0 S0 GS)(f:md=⟨md.n,[],ι⟩){id:Nat}{Ξ:Array Α}:ch C md w0 S0 id Ξ μ:=by
 intro a8 S κ r I F w Q h y hk;have h:=h;unfold MN at h;have h:=dF h;have hm:=h.1;have h:=h.2;split at h
 ·rename_i k Y;have d:=Ho Y;have u:k<=Ξ.size:=by simp only[Fy,lX,aX]at d;exact d.1.2
  have h:=dF h;have l:=h.1;have h:=dF h.2;have hb:=h.1;have h:=dF h.2;have N:=mZ.1 h.1;have h:=dF h.2;have K:=h.1;obtain⟨T,es,x,J,b⟩:=Vd _ _ _ _ h.2;have b:=dF b;have q:=b.1;have b:=b.2;have s:SK Ξ.toList k=Ξ.toList.take k:=Vq _ _;have hW:Way C Ξ.toList _ T es:=⟨J,B2 N⟩
  have v:∀X c z A,Rel C w0 S0 c X z A->Nx (T 0) I X c->(∀t,X.at t=(T (γ (SK Ξ.toList k))).at t)->X.H=(T (γ (SK Ξ.toList k))).H->X.nb=(T (γ (SK Ξ.toList k))).nb->X.al=(T (γ (SK Ξ.toList k))).al->X.m=(T (γ (SK Ξ.toList k))).m->(∀t,t∉Gn (SK Ξ.toList k)->z t=F t)->W C.P md Ξ Q (Ξ.toList.drop k) z A:=by
   intro X c z A hR hN hZ D O a1 V hF;rw[nE]at b;refine Zu hE _ k _ c z A Τ b (yw hR (λt=>(hZ t).symm) D.symm) λS2 G F3 w3 h1 E h3 h4 h5=> ?_;rw[x]at hN;refine hk S2 G F3 w3 h1 E ((nx_as hN D.symm O.symm a1.symm V.symm).trans h3) (λt B=> ?_) (bb Τ);have e:Ξ.toList=SK Ξ.toList k++Ξ.toList.drop k:=by rw[s,NZ]
   have U:t∉Gn _:=λZ=>B (by obtain⟨o,M,hd⟩:=zE.1 Z;exact zE.2 ⟨o,by rw[e];exact Gi _ M,hd⟩);have R:t∉Gn (Ξ.toList.drop k):=λZ=>B (by obtain⟨o,M,hd⟩:=zE.1 Z;exact zE.2 ⟨o,CJ M,hd⟩);rw[h4 t R,hF t U]
  have g:HeadInv .any Ξ k (JE Ξ.size ν):=
   ⟨aA2,λj oj _ s=>(by rw[getD_replicate_false]at s;cases s),λt _ B=>getD_in (by simpa using B) (getD_replicate_false _ _)⟩
  have a4:Mid C (SK Ξ.toList k) T (JE Ξ.size ν) (T 0):=by
   refine⟨λt j o _ _=> ?_,λt _=>rfl,Τ,Τ,0,cH _,Τ,Τ,λj o _ _=> ?_⟩
   ·rw[getD_replicate_false,aA aA2]
   ·rw[getD_replicate_false];simp
  have p:∀w',Rel C w0 S0 I _ F w'->zG C.P .any Ξ Q _ k _ k _ _ w':=λw' hR=>
   XI hE f s u d l hb K hW q v k _ _ _ _ _ _ List.length_range List.nodup_range (λi=>by rw[getD_replicate_false];simp) g a4 hR Nx.refl (λ_ _=>rfl)
  unfold Go.Wk.C CC;rw[f];refine wp_region_any hm ?_;have a2:Rel C w0 S0 I (T 0) F {w with drawn:=w.drawn+1}:=by rw[x];refine⟨y.gl,y.fr,y.fo,y.ho,?_⟩;obtain⟨L,D,hM⟩:=y.mem;exact⟨L,D.RW,hM⟩
  have h1:=p _ a2;have E:=Zk u (λa w h=>h) k _ _ _ h1;rw[show k+(Ξ.size-k)=Ξ.size by omega,f]at E;exact E
 ·cases h
end
open Go.Wk
open Go.Ce (Tr)
theorem ji{C:Cx}{md:Md}{w0:ο}{S0:δ Nat}{k:Cy}(i:Env C md w0 S0 k)(h:md=⟨md.n,[],ι⟩):∀c:Code,pL C md w0 S0 c:=by
 intro c;induction c with
 |region id j d=>cases d with
  |false=>exact VB i
  |true=>exact Y8 i h
 |seq a b f e=>exact⟨f,e⟩
 |cond c a b f e=>exact⟨f,e⟩
 |block id a g=>exact g
 |loop a g=>exact g
 |scope a g=>exact g
 |_=>trivial
theorem AT{a:Type}{f:SC->ε a}{l r:δ SC}{x:a}{ss:δ Src}(h:hd1 f l=θ (x,r,ss)):γ l=1+γ r:=by obtain⟨c,rfl,_,_⟩:=nN h;rw[cM,Ia]
theorem rd_cn(any:η)(H:δ Ob):∀(t:Ty) s l x r ss,t.rd any H s l=θ (x,r,ss)->γ l=t.cn+γ r:=by
 intro t;induction t with
 |w' t c=>intro s l x r ss h;exact c s l x r ss h
 |pr a b f d=>
  intro s l x r ss h;simp only[Ty.rd]at h;split at h
  ·rename_i m g o q;split at h
   ·rename_i i u n p;cases h;have w:=f s l m g o q;have v:=d s g i _ n p;show γ l=a.cn+b.cn+γ r;omega
   ·cases h
  ·cases h
 |i' k=>intro s l x r ss h;exact AT h
 |c'=>intro s l x r ss h;exact AT h
 |s'=>intro s l x r ss h;exact AT h
 |b'=>intro s l x r ss h;exact AT h
 |u'=>intro s l x r ss h;cases h;exact(Kh _).symm
 |sm a b _ _=>intro s l x r ss h;cases h
 |l' e b t c=>
  intro s l x r ss h;simp only[Ty.rd]at h;split at h
  ·cases h;rw[Ia];rfl
  ·split at h
   ·have h:=(dF (dF h).2).2;split at h
    ·cases h;rw[Ia];rfl
    ·cases h
   ·cases h
  ·split at h
   ·have h:=(dF (dF (dF h).2).2).2;split at h
    ·cases h;rw[Ia];rfl
    ·cases h
   ·cases h
  ·cases h
 |y'=>
  intro s l x r ss h;simp only[Ty.rd]at h;split at h
  ·split at h
   ·cases h;rw[Ia];rfl
   ·cases h
  ·cases h
 |r' t c=>
  intro s l x r ss h;simp only[Ty.rd]at h;split at h
  ·cases h;rw[Ia];rfl
  ·split at h
   ·cases h;rw[Ia];rfl
   ·cases h
  ·split at h
   ·split at h
    ·cases h;rw[Ia];rfl
    ·cases h
   ·cases h
  ·cases h
 |p' e t c=>
  intro s l x r ss h;simp only[Ty.rd]at h;split at h
  ·split at h
   ·have h:=(dF (dF h).2).2;split at h
    ·cases h;rw[Ia];rfl
    ·cases h
   ·cases h
  ·cases h
 |z'=>
  intro s l x r ss h;simp only[Ty.rd]at h;split at h
  ·have h:=(dF h).2;cases h;rw[Ia];rfl
  ·have h:=(dF (dF h).2).2;cases h;rw[Ia];rfl
  ·have h:=(dF h).2;split at h
   ·cases h;rw[Ia];rfl
   ·cases h
  ·cases h
 |o' j=>
  intro s l x r ss h;simp only[Ty.rd]at h;split at h
  ·have h:=(dF h).2;cases h;rw[Ia];rfl
  ·cases h
 |f' k t c=>
  intro s l x r ss h;simp only[Ty.rd]at h;split at h
  ·have h:=(dF h).2;split at h
   ·cases h;rw[Ia];rfl
   ·cases h
  ·cases h
theorem Uy:∀{l vs:δ SC},γ vs=γ l->uU l 0 vs=θ vs
 |[],[],_=>rfl
 |[],_::_,h=>by cases h
 |_::_,[],h=>by cases h
 |x::l,v::vs,h=>by simp only[uU,Uy aA7]
theorem Vo{a:Type}:∀(l:δ a),Aq l (γ l)=θ l
 |[]=>rfl
 |x::l=>by simp only[cM,Aq,Vo l]
def KR(n0:Nat)(H0 H1:δ Ob)(E:δ Nat)(al:δ Rg):Rk->Prop
 |.r' _=>True
 |.o' id _ x=>id<n0/\(∀j,j<x.cn->eO id j al=μ)/\∃b a,H1[id]? =θ (.bl b a)
 |.w' id _=>id<n0/\eO id 0 al=μ/\id∉E/\wF H0[id]? =μ
section
variable{n0:Nat}{H2 H0 H1:δ Ob}{ρ cW ρ3:Nat->Ad}{F2:Nat->ξ}{E:δ Nat}{al:δ Rg}{Fm:Tr SV}{done:δ Src}
variable{q:Rk}{v:q.ty.T}
theorem PI.tj(h:PI n0 H2 ρ cW ρ3 F2 E H0 al Fm H1 done)(f:NO cW H2)(c:NQ H2)(d:γ H0<=n0)(m:Up n0 cW ρ3){vs i:δ SV}{k:δ Src}(a:q.rd H2 vs=θ (v,k,i))(n:KR n0 H0 H1 E al q)
  (g:∀j s,k[j]? =θ s->ρ3 (γ H1+j)=s.ad cW) (l:δ SA):PI n0 H2 ρ cW ρ3 F2 E H0 al Fm (q.put (λj=>j) (l,H1) v).2 (done++k)/\
   ∃C:δ ξ,vs.map (SV.v cW)=C.map θ++i.map (SV.v cW)/\(q.put (λj=>j) (l,H1) v).1.map (SA.v ρ3)=l.map (SA.v ρ3)++C:=by
 cases q with
 |r' x=>
  cases vs with
  |nil=>cases a
  |cons v0 vs=>
   simp only[Rk.rd]at a;split at a
   ·rename_i y D b;cases a;have F:=Ze c b;obtain⟨⟨u,r,_,B⟩,p⟩:=F.to cW ρ3 (γ H1) g;have I:γ k=γ (x.lay 0 (γ H1) v).2:=by rw[F.no];exact(Ty.eA x 0 (γ H1) v).symm
    refine⟨h.app f c d I g p (pw x 0 (γ H1) v),[u],by rw[tR,r];rfl,?_⟩;show(l++[x.sa (x.lay 0 (γ H1) v).1]).map _=_;rw[Rp,eu,B]
   ·cases a
 |o' id e x=>
  simp only[Rk.rd]at a;split at a
  ·rename_i y D b;cases a;obtain⟨r,B,J,L,p⟩:=n;unfold rdO at b;split at b
   ·rename_i O cs A;have b:=dF b;have z:=gR b.1;subst z;have o:=rd_cn ν H2 x id cs _ _ _ (uM b.2);rw[iH,Ru]at o;have t:rdB H2 id 0 x=θ (v,k):=by unfold rdB;rw[A];simp only[nE,NT];rw[<-o,Vo];exact b.2
    have G:=h.tl f c d m t r (λj _ M=>B j aA0) g;rw[gG]at A;obtain⟨K,H,N,_⟩:=h.ba id _ r p;rw[A]at H;cases H;have w:L9 H1 id 0 x v=jC H1 id (.bl J (x.lay id (γ H1) v).1)++(x.lay id (γ H1) v).2:=by unfold L9;rw[gG,p];simp only[Zh];rw[Uy ((Ty.AG x id (γ H1) v).trans aA0)]
    rw[w]at G;exact⟨G,[],Τ,by rw[gH];rfl⟩
   ·cases b
  ·cases a
 |w' id x=>
  simp only[Rk.rd]at a;split at a
  ·rename_i y D b;cases a;exact⟨h.ti f c d m b n.1 n.2.1 n.2.2.1 n.2.2.2,[],Τ,by rw[gH];rfl⟩
  ·cases a
variable{a:Nat}
theorem jw{l:δ SA}{H1:δ Ob}{o:Ob}(h:a∉Rk.ids [q])(b:H1[a]? =θ o):(q.put (λj=>j) (l,H1) v).2[a]? =θ o:=by
 cases q with
 |r' x=>exact Cg b
 |o' j e x=>exact Cg (by rw[dn (λe=>h (by rw[<-e];exact aH.2 Τ))];exact b)
 |w' j x=>
  show(qD H1 j x v)[a]? =θ o;unfold qD;split
  ·rw[dn (λe=>h (by rw[<-e];exact aH.2 Τ))];exact b
  ·exact b
variable{r:δ Rk}
theorem Pb:Rk.ids (q::r)=Rk.ids [q]++Rk.ids r:=by cases q<;>rfl
theorem uI(h:q∈r)(hid:a∈Rk.ids [q]):a∈Rk.ids r:=by
 induction r with
 |nil=>cases h
 |cons x r b=>
  rw[Pb];rcases aQ.1 h with rfl|h
  ·exact Gi _ hid
  ·exact YO _ (b h)
theorem PI.E5(f:NO cW H2)(g:NQ H2)(d:γ H0<=n0)(c:Up n0 cW ρ3):∀r H1 done y ss vs l,PI n0 H2 ρ cW ρ3 F2 E H0 al Fm H1 done->rdR H2 r vs=θ (y,ss)->(Rk.ids r).Nodup->
  (∀q∈r,KR n0 H0 H1 E al q)->(∀j s,ss[j]? =θ s->ρ3 (γ H1+j)=s.ad cW)->PI n0 H2 ρ cW ρ3 F2 E H0 al Fm (fV (λj=>j) (l,H1) r y).2 (done++ss)/\
   ∃i:δ ξ,vs.map (SV.v cW)=i.map θ/\(fV (λj=>j) (l,H1) r y).1.map (SA.v ρ3)=l.map (SA.v ρ3)++i
 |[],H1,done,y,ss,vs,l,h,a,_,_,_=>by
  cases vs with
  |nil=>cases a;exact⟨by rw[gH];exact h,[],Τ,by rw[gH];rfl⟩
  |cons _ _=>cases a
 |[q],H1,done,y,ss,vs,l,h,a,_,p,b=>by
  simp only[rdR]at a;split at a
  ·rename_i x G hx;cases a;obtain⟨u,i,C,B⟩:=h.tj f g d c hx (p q gQ) b l;exact⟨u,i,by rw[C,iS,gH],B⟩
  ·cases a
 |q::U::r,H1,done,y,ss,vs,l,h,a,o,p,b=>by
  simp only[rdR]at a;split at a
  ·rename_i x G w hx;split at a
   ·rename_i z L M;cases a
    obtain⟨u,i,C,B⟩:=h.tj f g d c hx (p q gQ) (λj s t=>b j s (by rw[aJ (aF.1 t).1];exact t)) l;have T:=u.len;have V:=h.len;rw[cE]at T;rw[Pb]at o;obtain⟨I,n,m⟩:=List.nodup_append.1 o;obtain⟨K,A,R,Q⟩:=PI.E5 f g d c _ _ _ z L w (q.put _ _ x).1 u M n (λH k=>by
     have J:=p H (fB _ k);cases H with
     |r' x=>trivial
     |o' id e x=>obtain⟨P,O,S,F,D⟩:=J;refine⟨P,O,S,F,jw (λN=> ?_) D⟩;exact m _ N _ (uI k (aH.2 Τ)) Τ
     |w' id x=>exact J) (λj s t=>by
     rw[show(q.put _ _ x).2.length+j=γ H1+(γ G+j)by omega];exact b _ s (by rw[aO aA0,<-t];congr 1;omega))
    rw[jI]at K;exact⟨K,i++A,by rw[C,R,Rp],by show(fV _ _ _ z).1.map _=_;rw[Q,B,jI]⟩
   ·cases a
  ·cases a
end
theorem B9{m:Nat}:∀{x:Ty}{v:x.T},Ew x=μ->∃o,fq m x v=θ o:=by intro x;cases x<;>intro v h<;>first|exact⟨_,Τ⟩|cases h
theorem VE:∀r y l (a b),γ a=γ b->(∀id,fN a id=fN b id)->(∀id,id∉Rk.ids r->a[id]? =b[id]?)->(∀q∈r,∀id x,q=.w' id x->Ew x=μ)->
  fV (λj=>j) (l,a) r y=fV (λj=>j) (l,b) r y:=by
 have n:∀{a b:δ Ob} {id:Nat} {o:Ob},γ a=γ b->(∀id,fN a id=fN b id)->∀k,fN (jC a id o) k=fN (jC b id o) k:=by
  intro a b id o c f k;rw[YY,YY,yF,yF,c];split
  ·rfl
  ·rw[<-YY,<-YY];exact f k
 have s:∀{a b B:δ Ob},γ a=γ b->(∀id,fN a id=fN b id)->∀k,fN (a++B) k=fN (b++B) k:=by
  intro a b B c f k;rw[YY,YY];by_cases C:k<γ a
  ·rw[aJ C,aJ aA0,<-YY,<-YY];exact f k
  ·rw[aO aA0,aO aA0,c]
 have p:∀{a b B:δ Ob} {k:Nat},γ a=γ b->a[k]? =b[k]? ->(a++B)[k]? =(b++B)[k]? :=by
  intro a b B k c g;by_cases C:k<γ a
  ·rw[aJ C,aJ aA0];exact g
  ·rw[aO aA0,aO aA0,c]
 have one:∀q v l (a b) (N:δ Nat),γ a=γ b->(∀id,fN a id=fN b id)->(∀id,id∉Rk.ids [q]->id∉N->a[id]? =b[id]?)->(∀id x,q=.w' id x->Ew x=μ)->
   (q.put (λj=>j) (l,a) v).1=(q.put (λj=>j) (l,b) v).1/\γ (q.put (λj=>j) (l,a) v).2=γ (q.put (λj=>j) (l,b) v).2/\(∀id,fN (q.put (λj=>j) (l,a) v).2 id=fN (q.put (λj=>j) (l,b) v).2 id)/\∀id,id∉N->(q.put (λj=>j) (l,a) v).2[id]? =(q.put (λj=>j) (l,b) v).2[id]? :=by
  intro q v l a b N c f g u;cases q with
  |r' x=>show l++[x.sa (x.lay 0 (γ a) v).1]=l++[x.sa (x.lay 0 (γ b) v).1]/\γ (a++(x.lay 0 (γ a) v).2)=γ (b++(x.lay 0 (γ b) v).2)/\(∀id,fN (a++(x.lay 0 (γ a) v).2) id=fN (b++(x.lay 0 (γ b) v).2) id)/\∀id,id∉N->(a++(x.lay 0 (γ a) v).2)[id]? =(b++(x.lay 0 (γ b) v).2)[id]?;rw[c];exact⟨Τ,by simp[c],s c f,λid hid=>p c (g id (λh=>by cases h) hid)⟩
  |o' i e x=>
   show l=l/\γ (jC a i _++(x.lay i (γ a) v).2)=γ (jC b i _++(x.lay i (γ b) v).2)/\(∀id,fN (jC a i _++(x.lay i (γ a) v).2) id=fN (jC b i (.bl e (x.lay i (γ b) v).1)++(x.lay i (γ b) v).2) id)/\∀id,id∉N->(jC a i (.bl e (x.lay i (γ a) v).1)++(x.lay i (γ a) v).2)[id]? =(jC b i (.bl e (x.lay i (γ b) v).1)++(x.lay i (γ b) v).2)[id]?;rw[c];have t:∀o:Ob,γ (jC a i o)=γ (jC b i o):=λo=>by rw[NB,NB,c]
   refine⟨Τ,by simp[t],s (t _) (n c f),λid hid=>p (t _) ?_⟩;rw[yF,yF,c];by_cases m:id=i
   ·subst m;by_cases d:id<γ b
    ·rw[aB ⟨rfl,d⟩,aB ⟨rfl,d⟩]
    ·rw[aA (λh=>d h.2),aA (λh=>d h.2),bO aA0,bO aA0]
   ·rw[aA (λh=>m h.1),aA (λh=>m h.1)];exact g id (λh=>m (aH.1 h)) hid
  |w' i x=>
   show l=l/\γ (qD a i x v)=γ (qD b i x v)/\(∀id,fN (qD a i x v) id=fN (qD b i x v) id)/\∀id,id∉N->(qD a i x v)[id]? =(qD b i x v)[id]?;have hx:=u i x Τ;unfold qD;rw[f i];split
   ·rename_i o G;refine⟨Τ,by rw[NB,NB,c],n c f,λid hid=> ?_⟩;rw[yF,yF,c];by_cases m:id=i
    ·subst m;by_cases d:id<γ b
     ·rw[aB ⟨rfl,d⟩,aB ⟨rfl,d⟩]
     ·rw[aA (λh=>d h.2),aA (λh=>d h.2),bO aA0,bO aA0]
    ·rw[aA (λh=>m h.1),aA (λh=>m h.1)];exact g id (λh=>m (aH.1 h)) hid
   ·rename_i A;obtain⟨o,G⟩:=B9 hx;have w:=A.symm.trans G;cases w
 intro r;induction r with
 |nil=>intro y l a b c f g _;have e:=cS λk=>g k (λh=>by cases h);rw[e]
 |cons q r J=>
  intro y l a b c f g u;cases r with
  |nil=>obtain⟨E,z,H,D⟩:=one q y l a b [] c f (λid h _=>g id h) (u q gQ);have e:=cS λk=>D k (λh=>by cases h);exact Prod.ext E e
  |cons F r=>
   obtain⟨E,z,H,D⟩:=one q y.1 l a b _ c f (λid h z=>g id (by rw[Pb];exact λK=>(aV.1 K).elim h z)) (u q gQ);have:=J y.2 (q.put (λj=>j) (l,a) y.1).1 (q.put _ _ y.1).2 (q.put _ _ y.1).2 z H D (λI L=>u I (fB _ L));show fV _ _ (F::r) y.2=fV _ _ (F::r) y.2;have O:q.put (λj=>j) (l,a) y.1=((q.put (λj=>j) (l,a) y.1).1,(q.put (λj=>j) (l,a) y.1).2):=Τ;have M:q.put (λj=>j) (l,b) y.1=((q.put (λj=>j) (l,a) y.1).1,(q.put (λj=>j) (l,b) y.1).2):=by rw[E]
   rw[O,M];exact this
open Go.Wk
open Go.Ce (Tr)
open Nat renaming one_pos → Jf
theorem QX:∀a b x,VT a=μ->∃obs,(jB b a x).2=b++obs/\γ (jB b a x).1=γ a/\(∀v∈(jB b a x).1,v.ok (γ b+γ obs))/\∀(j e:Nat) cs,obs[j]? =θ (.bl e cs)->∀c∈cs,c.ok (γ b+γ obs)
 |[],b,x,h=>⟨[],by simp[jB],Τ,λv n=>by simp[jB]at n,λj e cs d=>by simp at d⟩
 |[t],b,x,h=>by
  have k:t.tz=ν:=by
   simp only[VT]at h;cases i:t.tz with
   |true=>rw[i]at h;cases h
   |false=>rfl
  refine⟨(t.lay 0 (γ b) x).2,Τ,Τ,λv f=> ?_,pw t 0 (γ b) x⟩;rw[aH.1 (f)];exact Ty.Gu (bjo t 0 (γ b) x k)
 |t::t2::a,b,x,h=>by
  have k:t.tz=ν/\VT (t2::a)=μ:=by
   have h:(bif t.tz then ν else VT _)=μ:=h;cases i:t.tz with
   |true=>rw[i]at h;cases h
   |false=>rw[i]at h;exact⟨Τ,h⟩
  obtain⟨obs,r,q,p,o⟩:=QX _ _ x.2 k.2;have g:γ (b++(t.lay 0 (γ b) x.1).2)=γ b+γ (t.lay 0 (γ b) x.1).2:=cE;refine⟨(t.lay 0 (γ b) x.1).2++obs,by rw[<-jI];exact r,by show(_::(jB _ _ x.2).1).length=_;rw[cM,q];rfl,λv f=> ?_,λj e cs d c m=> ?_⟩
  ·rw[cE,<-Dc,<-g];rcases aQ.1 (f)with rfl|f
   ·exact SV.cT (Ty.Gu (bjo t 0 (γ b) x.1 k.1)) aA0
   ·exact p v f
  ·rw[cE,<-Dc,<-g];by_cases l:j<γ (t.lay 0 (γ b) x.1).2
   ·rw[aJ l]at d;exact SC.cT (pw t 0 (γ b) x.1 j e cs d c m) aA0
   ·rw[aO aA0]at d;exact o _ e cs d c m
def noA:δ Ty->Nat
 |[]=>0
 |t::a=>t.no+noA a
theorem QY:∀a b x,γ (jB b a x).2=γ b+noA a
 |[],b,x=>rfl
 |[t],b,x=>by show(b++(t.lay 0 (γ b) x).2).length=_;rw[cE];have:=Ty.eA t 0 (γ b) x;show _=γ b+(t.no+0);omega
 |t::t2::a,b,x=>by show(jB _ _ x.2).2.length=_;rw[QY _,cE,Ty.eA];show _=γ b+(t.no+noA _);omega
theorem DJ:∀vs F (i t),Tf (rG F i vs) t=if i<=t/\t<i+γ vs then vs.getD (t-i) .u' else Tf F t
 |[],F,i,t=>by rw[aA aA2];rfl
 |v::vs,F,i,t=>by
  show Tf (rG _ _ vs) t=_;rw[DJ vs,Jw,cM];by_cases b:t=i
  ·subst b;rw[aA aA0,aB rfl,aB aA0,Nat.sub_self];rfl
  ·by_cases a:i+1<=t/\t<i+1+γ vs
   ·rw[aB a,aB aA0,show t-i=(t-(i+1))+1 by omega];rfl
   ·rw[aA a,aA b,aA aA0]
theorem Qu{r:δ Rk}{g:δ Ob}{id j:Nat}:∀{l:δ Ob}{i:Nat},eO id j (To r g l i)=μ->∃o,i<=id/\l[id-i]? =θ o/\((wF (θ o)=μ/\j=0)\/(wF (θ o)=ν/\id∈Rk.ids r/\j<(sZ g id).2.2))
 |[],i,h=>by simp[To,eO]at h
 |o::l,i,h=>by
  rcases Hv.1 h with h|h
  ·cases d:wF _ with
   |true=>rw[d]at h;obtain⟨q,a,c,f,b⟩:=wK.1 h;have a:=aH.1 a;subst a;subst c;exact⟨o,dK _,aA2,.inl ⟨d,by have b:j<1:=b;omega⟩⟩
   |false=>
    rw[d]at h;cases e:lG i _ with
    |false=>rw[e]at h;simp[eO]at h
    |true=>rw[e]at h;obtain⟨q,a,c,f,b⟩:=wK.1 h;have a:=aH.1 a;subst a;have c:i=id:=c;subst c;exact⟨o,dK _,aA2,.inr ⟨d,Xl.1 e,b⟩⟩
  ·obtain⟨k,c,f,b⟩:=Qu h;refine⟨k,aA0,?_,b⟩;rw[show id-i=(id-(i+1))+1 by omega];exact f
theorem vh{H:δ Ob}:∀{r:δ Rk},QM H r=μ->∀q∈r,match q with
  |.r' _=>True
  |.o' id e x=>∃cs,H[id]? =θ (.bl e cs)/\γ cs=x.cn
  |.w' id x=>wF H[id]? =μ/\Ew x=μ
 |d::r,h,q,b=>by
  have h:=gX (h);rcases aQ.1 b with rfl|b
  ·cases q with
   |r' x=>trivial
   |o' id e x=>
    have a:=h.1;simp only[gG]at a;split at a
    ·rename_i f cs c;have a:=gX a;rw[gR a.1]at c;exact⟨cs,c,gR a.2⟩
    ·cases a
   |w' id x=>have a:=gX h.1;rw[gG]at a;exact a
  ·exact vh h.2 q b
def da:δ Rk->δ Rg
 |[]=>[]
 |k::l=>match k with
  |.r' _=>da l
  |.o' id _ x=>(id,0,x.cn)::da l
  |.w' id _=>(id,0,1)::da l
theorem Dm:∀{r:δ Rk}{q:Rg},q∈da r->(∃id e x,Rk.o' id e x∈r/\q=(id,0,x.cn))\/∃id x,Rk.w' id x∈r/\q=(id,0,1)
 |k::r,q,h=>by
  cases k with
  |r' x=>
   rcases Dm (show q∈da r from h)with⟨id,e,x,b,a⟩|⟨id,x,b,a⟩
   ·exact .inl ⟨id,e,x,fB _ b,a⟩
   ·exact .inr ⟨id,x,fB _ b,a⟩
  |o' i e x=>
   rcases aQ.1 (h)with rfl|h
   ·exact .inl ⟨i,e,x,gQ,Τ⟩
   ·rcases Dm h with⟨id,e,x,b,a⟩|⟨id,x,b,a⟩
    ·exact .inl ⟨id,e,x,fB _ b,a⟩
    ·exact .inr ⟨id,x,fB _ b,a⟩
  |w' i x=>
   rcases aQ.1 (h)with rfl|h
   ·exact .inr ⟨i,x,gQ,Τ⟩
   ·rcases Dm h with⟨id,e,x,b,a⟩|⟨id,x,b,a⟩
    ·exact .inl ⟨id,e,x,fB _ b,a⟩
    ·exact .inr ⟨id,x,fB _ b,a⟩
theorem DU{id e:Nat}{x:Ty}:∀{r:δ Rk},Rk.o' id e x∈r->(id,0,x.cn)∈da r
 |k::r,h=>by
  rcases aQ.1 h with rfl|a
  ·exact gQ
  ·cases k with
   |r' _=>exact(show _∈da r from DU a)
   |o' _ _ _=>exact fB _ (DU a)
   |w' _ _=>exact fB _ (DU a)
theorem DT{id:Nat}{x:Ty}:∀{r:δ Rk},Rk.w' id x∈r->(id,0,1)∈da r
 |k::r,h=>by
  rcases aQ.1 h with rfl|a
  ·exact gQ
  ·cases k with
   |r' _=>exact(show _∈da r from DT a)
   |o' _ _ _=>exact fB _ (DT a)
   |w' _ _=>exact fB _ (DT a)
theorem Oz{id:Nat}:∀{r:δ Rk},id∈Rk.ids r->(∃e x,Rk.o' id e x∈r)\/∃x,Rk.w' id x∈r
 |k::r,h=>by
  cases k with
  |r' x=>
   rcases Oz (show id∈Rk.ids r from h)with⟨e,x,a⟩|⟨x,a⟩
   ·exact .inl ⟨e,x,fB _ a⟩
   ·exact .inr ⟨x,fB _ a⟩
  |o' i e x=>
   rcases aQ.1 (h)with rfl|h
   ·exact .inl ⟨e,x,gQ⟩
   ·rcases Oz h with⟨e,x,a⟩|⟨x,a⟩
    ·exact .inl ⟨e,x,fB _ a⟩
    ·exact .inr ⟨x,fB _ a⟩
  |w' i x=>
   rcases aQ.1 (h)with rfl|h
   ·exact .inr ⟨x,gQ⟩
   ·rcases Oz h with⟨e,x,a⟩|⟨x,a⟩
    ·exact .inl ⟨e,x,fB _ a⟩
    ·exact .inr ⟨x,fB _ a⟩
section
variable{C:Cx}{md:Md}{w0 w:ο}{S0:δ Nat}{GS:Cy}{ρ cu:Nat->Ad}{Se:St}{Fe:Nat->ξ}{a:δ Ty}{r:δ Rk}{H gs:δ Ob}
theorem end_ok(c2:md=⟨md.n,[],ι⟩)(hn:C.nn=md.n)(hS:Rel C w0 S0 cu Se Fe w)(U:NO ρ H)(b3:∀(id e:Nat) cs,H[id]? =θ (.bl e cs)->∀c∈cs,c.ok (γ H))(a8:(Rk.ids r).Nodup)(d:QM H r=μ)
  (I:Le (γ (H++gs)) (To r H H 0) ρ (H++gs) cu Se.H) {rs:δ ResultVar} {y:(gU r).T} (h:VA C (γ (H++gs)) (To r H H 0) rs r Se=θ y):
  ∃D L2 us,Up (γ H) ρ D/\Hp w0 S0 L2 w/\Mt w0 S0 D (fV (λj=>j) ([],kill H (It (Rk.ids r) H 0)) r y).2 L2/\(fV (λj=>j) ([],kill H (It (Rk.ids r) H 0)) r y).1.map (SA.v D)=us/\
   (rs.map (Go.Oe.iB C Se)).map (SV.v cu)=us.map θ:=by
 unfold VA at h;split at h
 ·rename_i x ss hr;have h:=dF h;have P:=gX (h.1);have b:=dF h.2;have X:=sT.1 b.1;cases b.2;let E:=It (Rk.ids r) H 0;let R:=da r
  let ρ3:Nat->Ad:=λid=>if id<γ H then cu id else match ss[id-γ H]? with
   |some s=>s.ad cu
   |none=>cu id
  have l:Up (γ H) cu ρ3:=λid hi=>by simp only[ρ3,hi,eW]
  have A:Up (γ H) ρ cu:=λid hi=>I.up id aD3;have N:=A.trans l (dK _);have Z:∀j s,ss[j]? =θ s->ρ3 (γ H+j)=s.ad cu:=by intro j s hj;have a:¬γ H+j<γ H:=aA0;have b:γ H+j-γ H=j:=aA0;simp only[ρ3,a,tL,b,hj]
  have f:∀id,id∈E↔∃o,H[id]? =θ o/\wF (θ o)=μ/\id∉Rk.ids r:=by intro id;show id∈It _ H 0↔_;rw[Bw];simp
  have M:∀q∈R,(∃e cs,H[q.1]? =θ (.bl e cs)/\q.2.2<=γ cs)\/(wF H[q.1]? =μ/\q.2=(0,1)):=by
   intro q k;rcases Dm k with⟨id,e,x,a,rfl⟩|⟨id,x,a,rfl⟩
   ·obtain⟨cs,g,B⟩:=vh d _ a;exact .inl ⟨e,cs,g,by rw[B];exact dK _⟩
   ·exact .inr ⟨(vh d _ a).1,Τ⟩
  have a1:∀id∈E,wF H[id]? =μ\/∃e cs,H[id]? =θ (.bl e cs):=by intro id hid;obtain⟨o,a,b,_⟩:=(f id).1 hid;exact .inl (by rw[a];exact b)
  have Y:∀id j,eO id j (To r H H 0)=μ->eO id j (R++Xg H E)=μ:=by
   intro id j J;obtain⟨o,_,a,b⟩:=Qu J;rw[iP]at a;rcases b with⟨b,rfl⟩|⟨b,g,B⟩
   ·by_cases m:id∈Rk.ids r
    ·rcases Oz m with⟨e,x,p⟩|⟨x,p⟩
     ·obtain⟨cs,z,_⟩:=vh d _ p;rw[a]at z;cases z;cases b
     ·exact Hv.2 (.inl (wK.2 ⟨_,DT p,Τ,dK _,Jf⟩))
    ·exact Hv.2 (.inr (bcd ((f id).2 ⟨o,a,b,m⟩)))
   ·rcases Oz g with⟨e,x,p⟩|⟨x,p⟩
    ·obtain⟨cs,z,h7⟩:=vh d _ p;refine Hv.2 (.inl (wK.2 ⟨_,DU p,Τ,cH _,?_⟩));unfold sZ at B;rw[gG,z]at B;show j<x.cn;rw[<-h7];exact B
    ·have:=(vh d _ p).1;rw[a,b]at this;cases this
  have V:Le (γ H) (R++Xg H E) ρ H cu Se.H:=by refine⟨by have:=I.len;rw[cE]at this;omega,A,λid o hi m=> ?_⟩;have:=I.kp id o aD3 (by rw[aJ hi];exact m);exact this.mono λj J=>Y id j J
  have h0:=PI.vn (F2:=Fe) (Fm:=(Tr.e:Tr SV)) (ρ3:=ρ3) U b3 M a1 V N (λt u hu=>by
   have e:Tf (Tr.e:Tr SV) t=.u':=aF1;rw[e]at hu;cases hu) (λt=>by
   have e:Tf Tr.e t=.u':=aF1;rw[e];trivial)
  have G:γ (kill (Xe H R) E)=γ H:=by rw[bkx,bjz]
  have b5:∀q∈r,KR (γ H) H (kill (Xe H R) E) E (R++Xg H E) q:=by
   intro q k;have m:=vh d q k;cases q with
   |r' x=>trivial
   |o' id e x=>
    obtain⟨cs,g,B⟩:=m;refine⟨(aF.1 g).1,λj hj=>Hv.2 (.inl (wK.2 ⟨_,DU k,Τ,cH _,hj⟩)),?_⟩;obtain⟨o2,p,K,rfl,_⟩:=bco g;have b0:id∉E:=λhE=>by obtain⟨o,z,h7,_⟩:=(f id).1 hE;rw[g]at z;cases z;cases h7
    exact⟨e,K,by rw[SS,aA b0];exact p⟩
   |w' id x=>
    have m:wF H[id]? =μ/\Ew x=μ:=m;have S:id<γ H:=by
     cases g:H[id]? with
     |none=>rw[g]at m;cases m.1
     |some _=>exact(aF.1 g).1
    refine⟨S,Hv.2 (.inl (wK.2 ⟨_,DT k,Τ,dK _,Jf⟩)),λhE=> ?_,m.1⟩;obtain⟨o,_,_,z⟩:=(f id).1 hE;exact z (uI k (aH.2 Τ))
  obtain⟨hP,us,a6,O⟩:=PI.E5 (zX hS) (zY hS) (dK _) l r _ [] y ss _ [] h0 hr a8 b5 (by rw[G];exact Z);rw[Ic]at hP;obtain⟨L,hH,hM⟩:=hS.mem;obtain⟨L3,b6,a0⟩:=hP.mem hH hM l Z (mZ.1 P.1) (λid hid S=>by
   have J:=Aj P.2 (by show id<γ (H++gs);rw[cE];omega) (bcd hid);obtain⟨o,_,a,b⟩:=Qu J;rw[iP]at a;have Q:=X id hid;rcases b with⟨b,_⟩|⟨_,g,_⟩
   ·exact(f id).2 ⟨o,a,b,Q⟩
   ·exact absurd g Q)
  have F:fV (λj=>j) ([],kill (Xe H R) E) r y=fV (λj=>j) ([],kill H E) r y:=by
   have b1:∀id,fN (kill (Xe H R) E) id=fN (kill H E) id:=by
    intro id;rw[YY,YY,SS,SS];cases W:H[id]? with
    |none=>rw[Hj W]
    |some o=>
     obtain⟨o2,a,b⟩:=bco W;rw[a];split
     ·exact b.len
     ·exact b.len
   refine VE r y [] _ _ (by rw[bkx,bjz,bkx]) b1 (λid hid=> ?_) (λq k id x e=> ?_)
   ·rw[SS,SS];cases W:H[id]? with
    |none=>rw[Hj W]
    |some o=>
     have a9:∀j,eO id j R=ν:=by
      intro j;cases J:eO id j R with
      |false=>rfl
      |true=>
       exfalso;obtain⟨q,k,a,_⟩:=wK.1 J;rcases Dm k with⟨i,e,x,g,rfl⟩|⟨i,x,g,rfl⟩
       ·have a:=a;subst a;exact hid (uI g (aH.2 Τ))
       ·have a:=a;subst a;exact hid (uI g (aH.2 Τ))
     have a7:∀q∈R,q.1≠id:=by
      intro q k e;rcases Dm k with⟨i,e2,x,g,rfl⟩|⟨i,x,g,rfl⟩
      ·have e:=e;subst e;exact hid (uI g (aH.2 Τ))
      ·have e:=e;subst e;exact hid (uI g (aH.2 Τ))
     obtain⟨o2,a,b⟩:=bco W;have e:o2=o:=by
      cases o with
      |bl e cs=>
       obtain⟨K,rfl,g,B⟩:=b;have:K=cs:=cS λj=>by rw[B,a9 j,aA aA2]
       rw[this]
      |_=>
       rcases b with⟨b,_⟩|⟨_,q,k,g⟩
       ·exact b
       ·exact absurd g (a7 q k)
     rw[a,e]
   ·have:=vh d q k;rw[e]at this;exact this.2
  rw[F]at a0 O;refine⟨ρ3,L3,us,N,b6,a0,by rw[O];rfl,a6⟩
 ·cases h
end
open Go.Wk
open Go.Ce (Tr)
open List renaming length → aL, replicate → jZ
open Nat renaming beq → cY, blt → fI
section
variable{C:Cx}{md:Md}{w0 w:ο}{S0:δ Nat}{GS:Cy}{ρ:Nat->Ad}{S:St}{F:Nat->ξ}
variable{u:ξ}
theorem LN{t : ω}{a : χ}{p : Γ}(hx : aW md F a = .pointer (θ p))(h : (ς (aW md F) (⟨θ 0, .load t a, 0, "", #[], ι⟩)).run C.P w = .ok (.value u) w) : (loadVar t p).run C.P w = .ok u w := by
 simp only[ς,hx,Instr.loadAt,Instr.sureAddr,Sem.run_bind,Sem.run_pure,Result.andThen_ok]at h;cases b:(loadVar t p).run C.P w with
 |ok v w'=>rw[b]at h;simp at h;rw[h.1,h.2]
 |halt x w'=>rw[b]at h;cases h
theorem UZ(j:C.nn=md.n)(g:Rel C w0 S0 ρ S F w){rv:ResultVar}(h:(Go.Oe.iB C S rv).v ρ=θ u):(Go.Wk.iB (fr md F).tmps rv).run C.P w=.ok u w:=by
 cases rv with
 |tmp t=>have:=(Tm g j (.tmp t)).2 u h;have e:(bif fI t md.n then F t else undef)=u:=this;unfold Go.Wk.iB;simp only[oY,e,Sem.run_pure]
 |cell a t=>
  have h:((match S.ev C (.tmp a)with
   |.c' x=>match kI C S.H t x with
    |some ⟨[],v,_,_⟩=>v
    |_=>.u'
   |_=>.u'):SV).v ρ=θ u:=h
  split at h
  ·rename_i x hx;have d:=hx;obtain⟨s,c⟩:=nX g j d;split at h
   ·rename_i v H m b;obtain⟨⟨_,r,k,q⟩,_⟩:=QS g c b trivial;rw[h]at k;cases k
    have o := q 0 0 "" #[];have f:∃p,x.v ρ=.pointer (θ p):=by
     unfold kI at b;split at b
     ·rename_i n y _ _;cases i:cY n 0 with
      |true=>rw[i]at b;cases b
      |false=>rw[i]at b;cases x<;>first|exact⟨_,Τ⟩|cases b
     ·cases b
    obtain⟨p,f⟩:=f;rw[f]at c;have l:=LN c o;have e:(bif fI a md.n then F a else undef)=.pointer _:=c;unfold Go.Wk.iB;simp only[oY,e];exact l
   ·cases h
  ·cases h
end
def VO:δ ξ->ξ
 |[u]=>u
 |a=>.tuple a.toArray
variable{P:Β}{k:Nat}{w:ο}{a:Func}
theorem Mb{F:Nat->ξ}(l:δ ResultVar)(vs:δ ξ)(e:a.results=l.toArray)(g:aL l=aL vs)
  (d:∀(i:Nat) x v,l[i]? =θ x->vs[i]? =θ v->(Go.Wk.iB (fr ⟨k,[],ι⟩ F).tmps x).run P w=.ok v w) (v:ξ) (c:VO vs=v):
  (results a (fr ⟨k,[],ι⟩ F).tmps).run P w=.ok v w:=by
 have f:=Lq _ l vs g d;unfold results;rw[e];change Sem.run P (do let vs<-l.toArray.mapM (Go.Wk.iB (fr _ F).tmps);pure (if h:vs.size=1 then vs[0]else .tuple vs)) w=_;simp;rw[f];subst c;cases vs with
 |nil=>simp[VO]
 |cons u b=>cases b with
  |nil=>simp[VO]
  |cons u' b=>simp[VO]
theorem K2{ρ:Nat->Ad}:∀l,(lD l).v ρ=θ (VO (l.map (SA.v ρ)))
 |[]=>rfl
 |[x]=>SA.gm ρ x
 |_::_::_=>rfl
variable{s:Cy}
theorem fun_ok{C:Cx}{code:Code}{gl:δ (Nat×Ob)}{rs:δ ResultVar}{sc:Sc}{G:δ Ty}{r:δ Rk}{f:(fU G).T->Gv (gU r).T}(hf:C.P.funcs[k]? =θ a)(hb:a.body=θ code)(hn:a.ntmps=C.nn)(hr:a.results=rs.toArray)
  (F:∀x y,(f x).ok y->denF C (gl.map (·.2)) code rs sc G r x=θ y) (c9:aL G<=C.nn) (hE:EOk C) (hX:∀k,∀c∈C.X k,Enters C.P k/\Tq C.P s k c) (c7:∀q∈gl,q∈s.gs/\∃t l,q.2=.ro t l)
  (hG:∀g id,C.G g=θ id->∃i q,id=noA G+i/\gl[i]? =θ q/\q.1=g):Tq C.P s k ⟨G,r,f⟩:=by
 intro w S ρ L us x y b8 d1 d0 K hy;let H:δ Ob:=(jB [] G x).2;have f6:lH _ x=H:=Τ;let gs:δ Ob:=gl.map (·.2);have hd:=F x y hy;have hd:=hd;have hd:=dF hd;have hc:=gX hd.1;have b7:=gX hc.2;have c5:=hc.1;have c6:=mZ.1 b7.1;have b1:=b7.2;have F:=hd.2;obtain⟨a8,b2,A,Y,M⟩:=QX G [] x c5;rw[Ic]at b2;have N:H=a8:=b2;have Z:aL H=noA G:=by have:=QY G [] x;rw[iH,Kh]at this;exact this
 have a2:γ ([]:δ Ob)+aL a8=aL H:=by rw[N];simp
 rw[a2]at Y M;have hm:Mt w S ρ H L:=d0;have R:∀(i:Nat) (q:Nat×Ob),gl[i]? =θ q->∃t l,q.2=.ro t l/\Rd w (θ ⟨q.1,0,ι⟩) (l.flatMap t.enc)/\q.1∉S:=by intro i q hq;obtain⟨g,o⟩:=q;obtain⟨d,t,l,b⟩:=c7 _ (aI hq);have b:o=.ro t l:=b;subst b;have:=s.rd b8 d;exact⟨t,l,Τ,this.1,this.2⟩
 let m:Nat->Ad:=λid=>if id<aL H then ρ id else match gl[id-aL H]? with
  |some q=>⟨ι,θ ⟨q.1,0,ι⟩,q.2.len,ν,q.2.len⟩
  |none=>ρ id
 have T:Up (γ H) ρ m:=λid E=>by simp only[m,E,eW]
 have b6:∀(i:Nat) (q:Nat×Ob),gl[i]? =θ q->m (aL H+i)=⟨ι,θ ⟨q.1,0,ι⟩,q.2.len,ν,q.2.len⟩:=by intro i q hq;have e1:¬γ H+i<aL H:=aA0;have e2:aL H+i-aL H=i:=aA0;simp only[m,e1,tL,e2,hq]
 have c2:(jB [] G x).1.map (SV.v m)=us.map θ:=by have K:(jB [] G x).1.map (SV.v ρ)=us.map θ:=K;rw[<-K];refine er λv hv=>SV.up T (Y v hv)
 have b3:aL us=aL G:=by have:=bA aL K;simp at this;rw[<-this];exact A
 let S1:St:=⟨rG Tr.e 0 (jB [] G x).1,H++gs,γ (H++gs),To r H H 0,[]⟩;have b4:γ (H++gs)=aL H+aL gl:=by simp[gs]
 have b0:Rel C w S m S1 (NA us) w:=by
  have hZ:∀t,S1.at t=if t<aL G then(jB [] G x).1.getD t .u' else .u':=by intro t;rw[St.at_eq];show Tf (rG Tr.e 0 (jB [] G x).1) t=_;rw[DJ,A];have e:Tf (Tr.e:Tr SV) t=.u':=aF1;rw[e];simp
  refine⟨λg id hg=> ?_,λt u Q=> ?_,λt=> ?_,λid e cs h c c8=> ?_,⟨L++jZ (γ gl) dL,?_,?_,?_⟩⟩
  ·obtain⟨i,q,d,b,rfl⟩:=hG g id hg;have E:=(aF.1 b).1;rw[<-Z]at d;subst d;exact⟨by show γ H+i<γ (H++gs);omega,by rw[b6 i q b]⟩
  ·rw[hZ]at Q;split at Q
   ·rename_i W;have d:(jB [] G x).1[t]? =θ ((jB [] G x).1[t]' aE0):=aN aE0;have b:=bA (λl=>l[t]?) c2;simp only[bD,d]at b;have B:us[t]? =θ (us[t]' aA0):=aN aA0;rw[B]at b;rw[bH,d]at Q;have O:=aP b;rw[show((θ ((jB [] G x).1[t]' aE0)).getD SV.u')=(jB [] G x).1[t]' aE0 from Τ,O]at Q;unfold NA;rw[bH,B];exact aP Q
   ·cases Q
  ·rw[hZ];split
   ·rename_i W;have d:(jB [] G x).1[t]? =θ ((jB [] G x).1[t]' aE0):=aN aE0;rw[bH,d];exact SV.cT (Y _ (aI d)) (by show γ H<=γ (H++gs);omega)
   ·trivial
  ·have h:(H++gs)[id]? =θ (.bl e cs):=h;by_cases E:id<aL H
   ·rw[aJ E,N]at h;exact SC.cT (M id e cs h c c8) (by show γ H<=γ (H++gs);omega)
   ·rw[aO aA0]at h;exfalso;obtain⟨q,d,b⟩:=map_some h;obtain⟨t,l,B,_⟩:=R _ q d;rw[B]at b;cases b
  ·have key:∀n,Hp w S (L++jZ n dL) w:=by
    intro n;induction n with
    |zero=>rw[List.replicate_zero,gH];exact d1
    |succ n ih=>have:=Go.Oe.Hp.rot (uJ ih);rw[jI]at this;rw[List.replicate_succ'];exact this
   exact key _
  ·show(L++_).length=γ (H++gs);rw[cE,List.length_replicate,b4,hm.1]
  ·intro id o h;have h:=h;by_cases E:id<aL H
   ·rw[aJ E]at h;obtain⟨d,r1,b,B⟩:=hm.2 id o h;refine⟨by rw[T id E];exact d,r1,by rw[aJ (by rw[hm.1];exact E)];exact b,B.up T E λe cs he=> ?_⟩;rw[he,N]at h;exact M id e cs h
   ·rw[aO aA0]at h;obtain⟨q,d,b⟩:=map_some h;obtain⟨t,l,B,O,h5⟩:=R _ q d;have a0:=b6 _ q d;rw[show γ H+(id-aL H)=id by omega]at a0;rw[B]at b;subst b;have b5:=(aF.1 d).1;refine⟨by rw[a0,B],dL,?_,Τ,?_⟩
    ·rw[aO (by rw[hm.1];omega),qC,aB (by rw[hm.1];exact b5)]
    ·rw[a0];exact⟨O,λ_ p hp=>by cases hp;exact h5,by rw[B];exact dK _⟩
 let md:Md:=⟨C.nn,[],ι⟩;have b9:Env C md w S s:=⟨hE,Τ,b8,hX⟩
 have a9:=XN (τ:=gU r) (res:=VA C (γ (H++gs)) (To r H H 0) rs r) (md:=md) (w0:=w) (S0:=S) (C:=C) Τ ⟨_,Τ⟩ (zg Τ) code (ji b9 Τ code);have c0:∀U D F2 I,VA C (γ (H++gs)) (To r H H 0) rs r U=θ y->Rel C w S D U F2 I->Le S1.nb S1.al m S1.H D U.H->
   ∃J v,aL rs=aL J/\(∀(i:Nat) (x:ResultVar) (u:ξ),rs[i]? =θ x->J[i]? =θ u->(Go.Wk.iB (fr md F2).tmps x).run C.P I=.ok u I)/\VO J=v/\
    ∃j V,Up (γ H) ρ j/\Hp w S V I/\Mt w S j (lC _ x y).2 V/\(lD (lC _ x y).1).v j=θ v:=by
  intro U D F2 I d b B;obtain⟨j,V,J,O,h5,h6,h7,h8⟩:=end_ok (md:=md) (H:=H) (gs:=gs) (ρ:=m) Τ Τ b (λid o h=>by have E:=(aF.1 h).1;rw[T id E];exact hm.lns id o h) (λid e cs h=>by rw[N]at h;exact M id e cs h) c6 b1 B d;refine⟨J,_,by simpa using bA aL h8,λi rv u E Q=> ?_,Τ,j,V,T.trans O (dK _),h5,h6,?_⟩
  ·have h9:=bA (λl=>l[i]?) h8;simp only[bD,E,Q]at h9;exact UZ Τ b (aP h9)
  ·rw[<-h7];exact K2 _
 refine enter hf hb hn (by rw[b3];exact c9) ?_;refine a9 sc S1 _ θ _ y m _ w _ F b0 (λe U D F2 I he a1 hN e8 d3=> ?_) (λz U D F2 I hz c4 a1 hL=> ?_)
 ·cases e with
  |nm=>obtain⟨J,v,d,b,B,j,V,O⟩:=c0 U D F2 I he a1 hN.le;exact⟨Τ,v,Mb rs J hr d b v B,v,Τ,j,V,O⟩
  |xt i=>cases he
 ·cases c4;obtain⟨J,v,d,b,B,j,V,O⟩:=c0 U D F2 I hz a1 hL.le;exact⟨Τ,v,Mb rs J hr d b v B,v,Τ,j,V,O⟩
open Go.Wk
open Go.Ce (Tr)
open List renaming replicate → jZ
open Nat renaming beq → cY, one_pos → Jf, succ → qW
structure KF (P:Β) (GS:Cy) where
 k:Nat
 c:yO
 en:Enters P k
 ok:Tq P GS k c
def Vu{P:Β}{a:Cy}:δ (KF P a)->Nat->δ yO
 |[],_=>[]
 |q::l,k=>bif cY k q.k then q.c::Vu l k else Vu l k
theorem Nd{P:Β}{b:Cy}:∀(l:δ (KF P b)) (k:Nat),∀c∈Vu l k,Enters P k/\Tq P b k c
 |[],k,c,h=>by cases h
 |q::l,k,c,h=>by
  unfold Vu at h;cases a:cY k q.k with
  |false=>rw[a]at h;exact Nd l k c h
  |true=>
   rw[a]at h;rcases aQ.1 (show c∈q.c::Vu l k from h)with rfl|h
   ·rw[gR a];exact⟨q.en,q.ok⟩
   ·exact Nd l k c h
def ny:δ (Nat×Ob)->Nat->Nat->ε Nat
 |[],_,_=>ι
 |q::l,n,g=>bif cY g q.1 then θ n else ny l (qW n) g
theorem RM:∀(l:δ (Nat×Ob)) (n g id:Nat),ny l n g=θ id->∃i q,id=n+i/\l[i]? =θ q/\q.1=g
 |[],n,g,id,h=>by cases h
 |q::l,n,g,id,h=>by
  unfold ny at h;cases a:cY g q.1 with
  |false=>rw[a]at h;obtain⟨i,b,e,d,c⟩:=RM l (qW n) g id h;exact⟨i+1,b,aA0,d,c⟩
  |true=>rw[a]at h;cases h;exact⟨0,q,Τ,Τ,(gR a).symm⟩
structure Sea where
 P:Β
 GS:Cy
 E:Nat->Option (Nat×Nat×Ty)
 hE:∀t e b τ,E t=θ (e,b,τ)->P.underlying t=θ (.slice e)/\TI P e τ.sz b/\τ.flat=μ/\0<b
 gt:∀q∈GS.gs,∃t l,q.2=.ro t l
abbrev Sea.K(T:Sea):Type:=KF T.P T.GS
abbrev Sea.cx(T:Sea)(fu n:Nat)(l:δ T.K)(a:δ Ty):Cx:=⟨T.P,Vu l,T.E,ny T.GS.gs (noA a),n,fu⟩
def Sea.fn(T : Sea)(fu k : Nat){fn : Func}(e : T.P.funcs[k]? = θ fn){code : Code}(f : fn.body = θ code)(nm : (fn.name == "runtime.NumGoroutine") = ν)(l : δ T.K)(a : δ Ty)(r : δ Rk)(g : (fU a).T -> ε (gU r).T)(sc : Sc)
  (c:Nat.ble (γ a) fn.ntmps=μ) (b:∀x,denF (T.cx fu fn.ntmps l a) (T.GS.gs.map (·.2)) code fn.results.toList sc a r x=g x):T.K:=
 ⟨k,⟨a,r,λx=>.one (g x)⟩,⟨fn,code,e,f,nm⟩,
  fun_ok (C:=T.cx fu fn.ntmps l a) (gl:=T.GS.gs) e f Τ (rs:=fn.results.toList) aA2 (sc:=sc) (λx y i=>(b x).trans i) (CP c) T.hE (Nd l) (λq d=>⟨d,T.gt q d⟩) (λg id h=>RM _ _ _ _ h)⟩
variable{c:yO}
theorem SQ(V:(fU c.a).T->δ ξ)(R:(gU c.r).T->ξ)(h:∀w S x y,s.p w S->(c.f x).ok y->CR P k (V x) w λv j=>v=R y/\Hp w [] [] j)(C:∀x,lH c x=[]:=by intros;rfl)(z:∀ρ x,(jB [] c.a x).1.map (SV.v ρ)=(V x).map θ:=by intros;rfl)(l:∀x y,(lC c x y).2=[]:=by intros;rfl)(A:∀ρ x y,(lD (lC c x y).1).v ρ=θ (R y):=by intros;rfl):Tq P s k c:=by intro w S ρ L m x y D i g d n;rw[z]at d;have e:V x=m:=(Rf (λa b h=>aP h)).1 d;subst e;have B:L=[]:=qR (by rw[g.1,C];rfl);subst B;refine Calls.mono (h w S x y D n) ?_;rintro E j ⟨v,u,rfl,q⟩;refine⟨_,u,ρ,[],λ_ _=>rfl,i.call q,?_,A ρ x y⟩;rw[l];exact⟨Τ,λid o t=>by simp at t⟩
theorem W5{t:Ty}(X:(fU c.a).T->δ t.T)(V:(fU c.a).T->δ ξ)(R:(gU c.r).T->ξ)(h:∀w S x y a n cap,s.p w S->(c.f x).ok y->n=γ (X x)->Rd w a ((X x).flatMap t.enc)->n<=cap->CR P k (π a n cap::V x) w λv l=>v=R y/\Hp w [] [] l)(C:∀x,lH c x=[.ro t (X x)]:=by intros;rfl)(A:∀(ρ:Nat->Ad) x,(jB [] c.a x).1.map (SV.v ρ)=(π (ρ 0).a (ρ 0).ln (ρ 0).cap::V x).map θ:=by intros;rfl)(u:∀x y,(lC c x y).2=[.ro t (X x)]:=by intros;rfl)(B:∀ρ x y,(lD (lC c x y).1).v ρ=θ (R y):=by intros;rfl):Tq P s k c:=by intro w S ρ L F x y D j d g q;rw[A]at g;have e:=(Rf (λa b h=>aP h)).1 g;subst e;rw[C]at d;obtain⟨E,r,H,G,m⟩:=d.2 0 _ Τ;have i:(ρ 0).ln=γ (X x):=E.symm;refine Calls.mono (h w S x y _ _ _ D q i m.1 (by rw[i];exact m.2.2)) ?_;rintro I l ⟨v,z,rfl,o⟩;refine⟨_,z,ρ,L,λ_ _=>rfl,j.call o,?_,B ρ x y⟩;rw[u];exact d
theorem od{e b:Nat}{t:Ty}(Y:(gU c.r).T->δ t.T)(V:(fU c.a).T->δ ξ)(h:∀w S x y,s.p w S->(c.f x).ok y->CR P k (V x) w λv l=>∃o a cap,v=.slice a (γ (Y y)) cap/\Hp w [] [bM t.enc e t.sz o a cap (Y y)] l)(q:∀x,lH c x=[]:=by intros;rfl)(C:∀(ρ:Nat->Ad) x,(jB [] c.a x).1.map (SV.v ρ)=(V x).map θ:=by intros;rfl)(A:∀x y,(lC c x y).2=[.rw e b t (Y y)]:=by intros;rfl)(D:∀(ρ:Nat->Ad) x y,(lD (lC c x y).1).v ρ=θ (.slice (ρ 0).a (ρ 0).ln (ρ 0).cap):=by intros;rfl):Tq P s k c:=by
 intro w S ρ L G x y F j g d u;rw[C]at d;have e:=(Rf (λa b h=>aP h)).1 d;subst e;have E:L=[]:=qR (by rw[g.1,q];rfl);subst E;refine Calls.mono (h w S x y F u) ?_;rintro H l ⟨v,B,o,a,cap,rfl,z⟩;refine⟨_,B,λid=>⟨o,a,cap,ν,γ (Y y)⟩,_,(λi n=>by rw[q]at n;cases n),j.lU z,?_,D _ x y⟩;rw[A];refine⟨Τ,λid ob m=> ?_⟩;cases id with
 |zero=>cases m;exact⟨Τ,_,Τ,Τ⟩
 |succ id=>simp at m
theorem uN{e b:Nat}{t:Ty}(X:(fU c.a).T->δ t.T)(Y:(gU c.r).T->δ t.T)(h:∀w S x y a n cap,s.p w S->(c.f x).ok y->n=γ (X x)->Rd w a ((X x).flatMap t.enc)->n<=cap->CR P k [π a n cap] w λv u=>∃o a cap,v=.slice a (γ (Y y)) cap/\Hp w [] [bM t.enc e t.sz o a cap (Y y)] u)(A:∀x,lH c x=[.ro t (X x)]:=by intros;rfl)(I:∀(ρ:Nat->Ad) x,(jB [] c.a x).1.map (SV.v ρ)=[π (ρ 0).a (ρ 0).ln (ρ 0).cap].map θ:=by intros;rfl)(F:∀x y,(lC c x y).2=[.ro t (X x),.rw e b t (Y y)]:=by intros;rfl)(J:∀(ρ:Nat->Ad) x y,(lD (lC c x y).1).v ρ=θ (.slice (ρ 1).a (ρ 1).ln (ρ 1).cap):=by intros;rfl):Tq P s k c:=by
 intro w S ρ L O x y K q g j D;rw[I]at j;have e:=(Rf (λa b h=>aP h)).1 j;subst e;rw[A]at g;obtain⟨B,r,N,M,C⟩:=g.2 0 _ Τ;have l:(ρ 0).ln=γ (X x):=B.symm;refine Calls.mono (h w S x y _ _ _ K D l C.1 (by rw[l];exact C.2.2)) ?_;rintro Q u ⟨v,H,o,a,cap,rfl,E⟩;have G:=(q.lU E).perm (cw (l₁:=[_]) (l₂:=L));have m:γ L=1:=g.1;refine⟨_,H,λid=>if id=0 then ρ 0 else⟨o,a,cap,ν,γ (Y y)⟩,_,λi z=> ?_,G,?_,J _ x y⟩
 ·rw[A]at z;have:i=0:=Nat.lt_one_iff.1 z;subst this;rfl
 rw[F];refine⟨by simp[m],λid ob d=> ?_⟩
 match id,d with
 |0,d=>cases d;exact⟨B,r,by rw[aJ aA0];exact N,M,C⟩
 |1,d=>cases d;exact⟨Τ,_,by rw[aO aA0,m];rfl,Τ⟩
 |id+2,d=>simp at d
theorem MF{e b q:Nat}{t:Ty}{G:δ t.T->ε (δ t.T)}(h:Tq P s k ⟨[.l' e b t,.f' q .u'],[.w' 0 (.l' e b t)],λx=>.one (G x.1)⟩){o:ε Nat}{a:ε Γ}{cap:Nat}{l r:δ t.T}{S:δ Nat}
  (y:G l=θ r) (C:s.p w S) (A:Hp w S [bM t.enc e t.sz o a cap l] w):CR P k [π a (γ l) cap,Θ (.func q) #[] #[]] w λv w'=>v=.tuple #[]/\γ r=γ l/\Hp w S [bM t.enc e t.sz o a cap r] w':=by
 refine Calls.mono (h w S (λ_=>⟨o,a,cap,ν,γ l⟩) _ [π a (γ l) cap,Θ (.func q) #[] #[]] (l,()) r C A ?_ Τ y) ?_
 ·show Mt w S _ [.rw e b t l] _;refine⟨Τ,λid ob n=> ?_⟩;cases id with
  |zero=>cases n;exact⟨Τ,_,Τ,Τ⟩
  |succ id=>simp at n
 ·rintro I H ⟨v,z,c,m,i,F,d,E⟩
  have i:c 0=⟨o,a,cap,ν,γ l⟩:=i 0 Jf;have d:Mt w S c [.rw e b t r] m:=d;obtain⟨g,u,f,j⟩:=d.2 0 _ Τ;have g:γ r=(c 0).ln:=g;have j:u=bM t.enc e t.sz (c 0).o (c 0).a (c 0).cap r:=j;subst j;rw[i]at g f;have B:m=[bM t.enc e t.sz o a cap r]:=by
   have D:=d.1
   match m,D,f with
   |[x],_,f=>cases f;rfl
  subst B;exact⟨v,z,(aP E).symm,g,F⟩
theorem SM(h:Tq P s k c)(V:(fU c.a).T->δ ξ)(R:(gU c.r).T->ξ){x:(fU c.a).T}{y:(gU c.r).T}(t:s.p w [])(j:(c.f x).ok y)(g:∀x,lH c x=[]:=by intros;rfl)(n:∀ρ x,(jB [] c.a x).1.map (SV.v ρ)=(V x).map θ:=by intros;rfl)(q:∀ρ x y,(lD (lC c x y).1).v ρ=θ (R y):=by intros;rfl):CR P k (V x) w λv b=>v=R y/\Hp w [] [] b:=by
 refine Calls.mono (h w [] (λ_=>⟨ι,ι,0,ν,0⟩) [] (V x) x y t (Hp.refl w) ?_ (n _ x) j) ?_
 ·rw[g];exact⟨Τ,λid o l=>by simp at l⟩
 ·rintro e b ⟨v,m,i,z,_,u,_,d⟩;rw[q]at d;exact⟨v,m,(aP d).symm,u.nil⟩
def wo:δ (ε Γ×Nat×Nat)->Nat->Ad
 |[],_=>⟨ι,ι,0,ν,0⟩
 |p::A,id=>match id with
  |0=>⟨ι,p.1,p.2.2,ν,p.2.1⟩
  |id+1=>wo A id
def roP(w:ο):δ (ε Γ×Nat×Nat)->δ Ob->Prop
 |p::A,.ro t l::H=>(p.2.1=γ l/\Rd w p.1 (l.flatMap t.enc)/\p.2.1<=p.2.2)/\roP w A H
 |[],[]=>True
 |_,_=>False
theorem H6{w:ο}:∀(A:δ (ε Γ×Nat×Nat)) (H:δ Ob),roP w A H->∀(id:Nat) (o:Ob),H[id]? =θ o->∃t l,o=.ro t l/\γ l=(wo A id).ln/\Xp w [] (wo A id) t l
 |[],[],_,id,o,a=>by simp at a
 |p::A,.ro t l::H,h,0,o,a=>by cases a;exact⟨t,l,Τ,h.1.1.symm,h.1.2.1,λ_ _ _ b=>(nomatch b),show γ l<=p.2.2 from h.1.1▸h.1.2.2⟩
 |p::A,.ro t l::H,h,id+1,o,a=>H6 A H h.2 id o a
theorem Po(h:Tq P s k c)(A:δ (ε Γ×Nat×Nat))(V:δ ξ){x:(fU c.a).T}{y:(gU c.r).T}(z:s.p w [])(q:(c.f x).ok y)(B:roP w A (lH c x))(u:(jB [] c.a x).1.map (SV.v (wo A))=V.map θ):CR P k V w λv g=>∃ρ L,Hp w [] L g/\Mt w [] ρ (lC c x y).2 L/\(lD (lC c x y).1).v ρ=θ v:=by
 refine Calls.mono (h w [] (wo A) (jZ (γ (lH c x)) dL) V x y z ?_ ⟨List.length_replicate,λid o i=> ?_⟩ u q) ?_
 ·generalize(lH c x).length=n;induction n with
  |zero=>exact Hp.refl w
  |succ n m=>exact uJ m
 ·obtain⟨t,l,rfl,E,d⟩:=H6 A _ B id o i;exact⟨E,dL,by rw[qC,aB (aF.1 i).1],Τ,d⟩
 ·rintro e g ⟨v,j,b,F,_,d,D,C⟩;exact⟨v,j,b,F,d,D,C⟩
theorem HJ(h:Tq P s k c)(A:δ (ε Γ×Nat×Nat))(V:δ ξ)(R:ξ){x:(fU c.a).T}{y:(gU c.r).T}(n:s.p w [])(i:(c.f x).ok y)(o:roP w A (lH c x))(l:(jB [] c.a x).1.map (SV.v (wo A))=V.map θ:=by rfl)(m:∀ρ,(lD (lC c x y).1).v ρ=θ R:=by intros;rfl):CR P k V w λv b=>v=R/\Hp w [] [] b:=by refine Calls.mono (Po h A V n i o l) ?_;rintro e b ⟨v,j,ρ,L,q,_,d⟩;rw[m]at d;exact⟨v,j,(aP d).symm,q.nil⟩
theorem W4(h:Tq P s k c)(A:δ (ε Γ×Nat×Nat))(V:δ ξ)(e b:Nat)(t:Ty)(l:δ t.T)(R:ε Γ->Nat->Nat->ξ){x:(fU c.a).T}{y:(gU c.r).T}(z:s.p w [])(j:(c.f x).ok y)(B:roP w A (lH c x))(i:(jB [] c.a x).1.map (SV.v (wo A))=V.map θ:=by rfl)(m:(lC c x y).2[γ A]? =θ (.rw e b t l):=by rfl)(u:∀ρ:Nat->Ad,(lD (lC c x y).1).v ρ=θ (R (ρ (γ A)).a (ρ (γ A)).ln (ρ (γ A)).cap):=by intros;rfl):CR P k V w λv d=>∃o a cap,v=R a (γ l) cap/\Hp w [] [bM t.enc e t.sz o a cap l] d:=by refine Calls.mono (Po h A V z j B i) ?_;rintro G d ⟨v,n,ρ,L,D,C,g⟩;obtain⟨F,q,E,rfl⟩:=C.2 _ _ m;rw[u ρ,<-show γ l=_ from F]at g;exact⟨v,n,_,_,_,(aP g).symm,D.sub (List.singleton_sublist.2 (aI E))⟩
theorem W3(h:Tq P s k c)(A:δ (ε Γ×Nat×Nat))(V:δ ξ)(e b:Nat)(t:Ty)(l:δ t.T)(m O:Nat)(t2:Ty)(g:δ t2.T)(R:ε Γ->Nat->Nat->ε Γ->Nat->Nat->ξ){x:(fU c.a).T}{y:(gU c.r).T}(J:s.p w [])(E:(c.f x).ok y)(K:roP w A (lH c x))(H:(jB [] c.a x).1.map (SV.v (wo A))=V.map θ:=by rfl)(F:(lC c x y).2[γ A]? =θ (.rw e b t l):=by rfl)(j:(lC c x y).2[γ A+1]? =θ (.rw m O t2 g):=by rfl)(I:∀ρ:Nat->Ad,(lD (lC c x y).1).v ρ=θ (R (ρ (γ A)).a (ρ (γ A)).ln (ρ (γ A)).cap (ρ (γ A+1)).a (ρ (γ A+1)).ln (ρ (γ A+1)).cap):=by intros;rfl):CR P k V w λv n=>∃o a cap D B d,v=R a (γ l) cap B (γ g) d/\Hp w [] [bM t.enc e t.sz o a cap l,bM t2.enc m t2.sz D B d g] n:=by refine Calls.mono (Po h A V J E K H) ?_;rintro m n ⟨v,G,ρ,L,M,u,C⟩;obtain⟨N,q,z,rfl⟩:=u.2 _ _ F;obtain⟨f1,q,f2,rfl⟩:=u.2 _ _ j;rw[I ρ,<-show γ l=_ from N,<-show γ g=_ from f1]at C;refine⟨v,G,(ρ (γ A)).o,_,_,(ρ (γ A+1)).o,_,_,(aP C).symm,M.sub (fH ?_ (List.drop_sublist (γ A) L))⟩;rw[zbF (aF.1 z).1,(aF.1 z).2];exact List.Sublist.cons_cons _ (List.singleton_sublist.2 (aI (i:=0) (by rw[bV];exact f2)))
end Go.Oe
set_option maxRecDepth 20000
set_option maxHeartbeats 1000000
namespace Go.Wk
open Go.Px
open Int renaming toNat → bL
open List renaming drop → cC
open Sum renaming elim → dA
def agt(fu:Nat)(a:Int):ε η:=
 (((if 0<=a then θ (decide (a<55296))else θ ν)).bind λb=>(bif b then θ μ else(((if 57343<a then θ (decide (a<=1114111))else θ ν)).bind λc=>(bif c then θ μ else θ ν))))
def agu(fu:Nat)(s:aC)(b:Nat->ε (Unit⊕Int))(a:Nat):ε (Unit⊕Int):=
 (if a<γ s then(if((Utf8.decode ⟨List.toArray s⟩ a).1)=(65533:Int)then θ (.inr a)else(b (a+(Utf8.decode ⟨List.toArray s⟩ a).2)))else θ (.inl ()))
def ahl(fu:Nat)(s:aC):Nat->Nat->ε (Unit⊕Int):=λb a=>bE (λg v=>agu fu s (λa=>g a) v) b a
variable{a:Nat}{c:aC}{b d:Nat}
theorem aoc:ahl a c (b+1) d=agu a c (ahl a c b) d:=rfl
def apq(fu:Nat)(s:aC)(b:Int)(c:Int)(d:Int->ε Int)(a:Int):ε Int:=
 (if a<(γ ((ψ b).data.toList))then(gd (bJ (c-a))<|(gd (0<=(c-a)/\(c-a)<γ s)<|(gd (bJ (((γ ((ψ b).data.toList))-1)-a))<|(gd (0<=(((γ ((ψ b).data.toList))-1)-a)/\(((γ ((ψ b).data.toList))-1)-a)<(γ ((ψ b).data.toList)))<|(if(Κ s (c-a))=(Κ ((ψ b).data.toList) (((γ ((ψ b).data.toList))-1)-a))then(gd (bJ (a+1))<|(d (a+1)))else ι)))))else(gd (bJ (c-((γ ((ψ b).data.toList))-1)))<|some (c-((γ ((ψ b).data.toList))-1))))
def ako(fu:Nat)(s:aC)(d:Int)(c:Int):Nat->Int->ε Int:=λb a=>bE (λg v=>apq fu s d c (λa=>g a) v) b a
variable{e:Int}
theorem bjd{f:Int}{d:Int}:ako a c e f (b+1) d=apq a c e f (ako a c e f b) d:=rfl
def ajl(fu:Nat)(s:aC)(a:Int)(d:ε Int):ε Int:=
 (if((γ ((ψ a).data.toList))-1)<(γ s:Int)then(((gd (0<=((γ ((ψ a).data.toList))-(1:Int))/\((γ ((ψ a).data.toList))-1)<(γ s:Int))<|(gd (0<=((γ ((ψ a).data.toList))-(1:Int))/\((γ ((ψ a).data.toList))-1)<(γ ((ψ a).data.toList):Int))<|(if(Κ s ((γ ((ψ a).data.toList))-1))=(Κ ((ψ a).data.toList) ((γ ((ψ a).data.toList))-1))then θ (.inl ((γ ((ψ a).data.toList))-1))else(gd (bJ (((γ ((ψ a).data.toList))-1)+1))<|(gd (0<=(((γ ((ψ a).data.toList))-1)+(1:Int))/\(((γ ((ψ a).data.toList))-1)+1)<=(γ s:Int))<|(gd (0<=((γ ((ψ a).data.toList))-(1:Int))/\((γ ((ψ a).data.toList))-1)<(γ ((ψ a).data.toList):Int))<|(if(dM (·==(Κ ((ψ a).data.toList) ((γ ((ψ a).data.toList))-1))) (cC (bL (((γ ((ψ a).data.toList))-1)+1)) s))<0 then θ (.inr (-1))else(gd (bJ ((dM (·==(Κ ((ψ a).data.toList) ((γ ((ψ a).data.toList))-1))) (cC (bL (((γ ((ψ a).data.toList))-1)+1)) s))+1))<|(gd (bJ (((γ ((ψ a).data.toList))-1)+((dM (·==(Κ ((ψ a).data.toList) ((γ ((ψ a).data.toList))-1))) (cC (bL (((γ ((ψ a).data.toList))-1)+1)) s))+1)))<|some (.inl (((γ ((ψ a).data.toList))-1)+((dM (·==(Κ ((ψ a).data.toList) ((γ ((ψ a).data.toList))-1))) (cC (bL (((γ ((ψ a).data.toList))-1)+1)) s))+1))))))))))))).bind λc=>dA (λb=>(ako fu s a b fu 1)) (λq=>θ q) c)else θ (-1))
def ahk(fu:Nat)(s:aC)(b:Int):Nat->ε Int:=λa=>bE (λg v=>ajl fu s b (g ())) a ()
theorem axt:ahk a c e (b+1)=ajl a c e (ahk a c e b):=rfl
def wi(fu:Nat)(s:aC)(a:Int):ε Int:=
 (((if 0<=a then θ (decide (a<128))else θ ν)).bind λb=>(bif b then θ (dM (·==(YP a)) s)else(if a=65533 then(((ahl fu s fu 0)).bind λd=>dA (λe=>θ (-1)) (λq=>θ q) d)else((agt fu a).bind λc=>(bif (!c)then θ (-1)else(gd (bJ ((γ ((ψ a).data.toList))-1))<|(ahk fu s a fu)))))))
def ahj(fu:Nat)(a:Int):ε η:=
 θ (decide (8<a))
def afk(fu:Nat)(s:aC)(d:aC)(c:Nat->ε (Unit⊕Int))(a:Nat):ε (Unit⊕Int):=
 (if a<γ s then((wi fu d ((Utf8.decode ⟨List.toArray s⟩ a).1)).bind λb=>(if 0<=b then θ (.inr a)else(c (a+(Utf8.decode ⟨List.toArray s⟩ a).2))))else θ (.inl ()))
def aig(fu:Nat)(s:aC)(c:aC):Nat->Nat->ε (Unit⊕Int):=λb a=>bE (λg v=>afk fu s c (λa=>g a) v) b a
theorem ajm{f:aC}:aig a c f (b+1) d=afk a c f (aig a c f b) d:=rfl
def atm(fu:Nat)(s:aC)(a:aC):ε Int:=
 (if a=[]then θ (-1)else(if γ a=(1:Int)then(gd (0<=(0:Int)/\0<(γ a:Int))<|(((if 128<=((Κ a (0:Int)).toNat:Int)then θ 65533 else θ ((Κ a (0:Int)).toNat:Int))).bind λb=>((wi fu s b).bind λe=>θ e)))else((((ahj fu (γ s)).bind λd=>(bif d then ι else θ ()))).bind λg=>(((aig fu s a fu 0)).bind λc=>dA (λf=>θ (-1)) (λq=>θ q) c))))
end Go.Wk
namespace Go.Px
open Go.Wk
theorem get_at(l:δ ζ)(k:Nat)(h:k<γ l):(⟨l.toArray⟩:ByteArray).get! k=Κ l k:=by show l.toArray[k]! =_;simp[Κ,h]
theorem Wt(l:δ ζ)(k:Nat)(h:k<γ l)(a:(Κ l k).toNat<128):Utf8.decode ⟨l.toArray⟩ k=((Κ l k).toNat,1):=by unfold Utf8.decode;simp only[Nat.add_zero,get_at l k h];rw[aB aA0]
theorem Z3(l:δ ζ)(k:Nat)(h:k<γ l)(t:¬(Κ l k).toNat<128):
  128<=(Utf8.decode ⟨l.toArray⟩ k).1/\1<=(Utf8.decode ⟨l.toArray⟩ k).2/\k+(Utf8.decode ⟨l.toArray⟩ k).2<=γ l/\
  ∀j:Nat,k<=j->j<k+(Utf8.decode ⟨l.toArray⟩ k).2->128<=(Κ l j).toNat:=by
 have n:(⟨l.toArray⟩:ByteArray).size=γ l:=Τ;have a:∀c:Nat,128<=c->128<=(c,1).1/\1<=(c,1).2/\k+(c,1).2<=γ l/\∀j:Nat,k<=j->j<k+(c,1).2->128<=(Κ l j).toNat:=
  λc r=>⟨r,qB _,by simp;omega,λj b e=>by
   have:j=k:=by simp at e;omega
   subst this;omega⟩
 have cont:∀i:Nat,(decide (k+i<γ l)&&((⟨l.toArray⟩:ByteArray).get! (k+i)).toNat/64==2)=μ->k+i<γ l/\128<=(Κ l (k+i:Nat)).toNat:=by intro i o;simp at o;rw[get_at l _ o.1]at o;omega
 have d:128<=Utf8.runeError:=aA1;have f:128<=(Κ l k).toNat:=aA0;unfold Utf8.decode;simp only[Nat.add_zero,get_at l k h,n];rw[aA aA0];split
 ·rename_i b;simp at b;have m:=cont 1 (by simpa using b.2);split
  ·rename_i e;refine⟨aE4,aA2,by simp;omega,λj q g=> ?_⟩;have:j=k\/j=k+1:=by simp at g;omega
   rcases this with rfl|rfl
   ·exact f
   ·exact m.2
  ·exact a _ d
 split
 ·rename_i b;simp at b;have m:=cont 1 (by simpa using b.1.2);have p:=cont 2 (by simpa using b.2);split
  ·rename_i e;simp at e;refine⟨by have:=e.1;simp at this⊢;omega,aA2,by simp;omega,λj q g=> ?_⟩;have:j=k\/j=k+1\/j=k+2:=by simp at g;omega
   rcases this with rfl|rfl|rfl
   ·exact f
   ·exact m.2
   ·exact p.2
  ·exact a _ d
 split
 ·rename_i b;simp at b;have m:=cont 1 (by simpa using b.1.1.2);have p:=cont 2 (by simpa using b.1.2);have s:=cont 3 (by simpa using b.2);split
  ·rename_i e;simp at e;refine⟨by have:=e.1;simp at this⊢;omega,aA2,by simp;omega,λj q g=> ?_⟩;have:j=k\/j=k+1\/j=k+2\/j=k+3:=by simp at g;omega
   rcases this with rfl|rfl|rfl|rfl
   ·exact f
   ·exact m.2
   ·exact p.2
   ·exact s.2
  ·exact a _ d
 ·exact a _ d
def Tj(r:Int):δ ζ:=(ψ r).data.toList
theorem XG(r:Int)(h:128<=r):2<=γ (Tj r)/\γ (Tj r)<=4/\128<=(Κ (Tj r) (γ (Tj r)-1)).toNat:=by
 have a:∀n:Nat,128<=(UInt8.ofNat (128+n%64)).toNat:=by intro n;rw[iN];omega
 unfold Tj ψ;have b:128<=(if Utf8.valid r=μ then r.toNat else Utf8.runeError):=by
  split
  ·omega
  ·decide
 generalize(if Utf8.valid r=μ then r.toNat else Utf8.runeError)=c at b;rw[aA aA0];split
 ·exact⟨aA2,aA2,a c⟩
 split
 ·exact⟨aA2,aA2,a c⟩
 ·exact⟨aA2,aA2,a c⟩
end Go.Px
namespace Go.Wk
open Go.Px
open Int renaming toNat → bL
open List renaming drop → cC
open Sum renaming elim → dA
def auc(fu:Nat)(a:ζ):ε η:=
 (((((if 97<=a then θ (decide (a<=122))else θ ν)).bind λc=>(bif c then(bif c then θ (.inr μ)else θ (.inl ()))else(((if 65<=a then θ (decide (a<=90))else θ ν)).bind λb=>(bif b then(bif b then θ (.inr μ)else θ (.inl ()))else(if 48<=a then(if a<=57 then θ (.inr μ)else θ (.inl ()))else θ (.inl ()))))))).bind λd=>dA (λe=>(if a=45 then(if a=45 then θ μ else θ ν)else(if a=46 then(if a=46 then θ μ else θ ν)else(if a=33 then(if a=33 then θ μ else θ ν)else(if a=37 then(if a=37 then θ μ else θ ν)else(if a=42 then(if a=42 then θ μ else θ ν)else(if a=95 then(if a=95 then θ μ else θ ν)else(if a=43 then(if a=43 then θ μ else θ ν)else(if a=39 then(if a=39 then θ μ else θ ν)else(if a=126 then(if a=126 then θ μ else θ ν)else(if a=96 then θ μ else θ ν))))))))))) (λq=>θ q) d)
def aep(fu:Nat)(s:aC)(d:Int->ε Int)(a:Int):ε Int:=
 (((if a<γ s then(gd (0<=a/\a<γ s)<|((auc fu (Κ s a)).bind λc=>θ c))else θ ν)).bind λb=>(bif b then(gd (bJ (a+1))<|(d (a+1)))else θ a))
def aew(fu:Nat)(s:aC):Nat->Int->ε Int:=λb a=>bE (λg v=>aep fu s (λa=>g a) v) b a
variable{a:Nat}{d:aC}{b:Nat}{c:Int}
theorem alw:aew a d (b+1) c=aep a d (aew a d b) c:=rfl
def agb(fu:Nat)(s:aC)(b:Int):ε Int:=
 (((aew fu s fu (min (max b 0) (γ s)))).bind λa=>θ a)
def ra(fu:Nat)(s:aC)(b:Int):ε Int:=
 ((agb fu s b).bind λa=>θ a)
def ZB(fu:Nat)(s:aC):ε η:=
 (((if s=[]then θ ν else((ra fu s 0).bind λb=>θ (decide (b=γ s))))).bind λa=>θ a)
def aqj(fu:Nat)(s:aC):ε η:=
 ((((ZB fu s).bind λb=>(bif b then θ (decide (γ s<=(70:Int)))else θ ν))).bind λa=>θ a)
def aia(fu:Nat)(s:aC)(a:aC):ε η:=
 (((if γ a<=(γ s:Int)then(gd (bJ (γ s-γ a))<|(gd (0<=(γ s-(γ a:Int))/\(γ s-γ a)<=(γ s:Int))<|some (decide ((cC (bL (γ s-γ a)) s)=a))))else θ ν)).bind λb=>θ b)
def agk(fu:Nat)(s:aC)(b:aC):ε η:=
 ((aia fu s b).bind λa=>θ a)
def eh(fu:Nat)(a:ζ):ε η:=
 (((if a=32 then θ μ else θ (decide (a=9)))).bind λb=>θ b)
def adb(fu:Nat)(s:aC)(d:Int->ε Int)(a:Int):ε Int:=
 (((if a<γ s then(gd (0<=a/\a<γ s)<|((eh fu (Κ s a)).bind λc=>θ c))else θ ν)).bind λb=>(bif b then(gd (bJ (a+1))<|(d (a+1)))else θ a))
def aex(fu:Nat)(s:aC):Nat->Int->ε Int:=λb a=>bE (λg v=>adb fu s (λa=>g a) v) b a
theorem agl:aex a d (b+1) c=adb a d (aex a d b) c:=rfl
def ajz(fu:Nat)(s:aC)(b:Int):ε Int:=
 (((aex fu s fu (min (max b 0) (γ s)))).bind λa=>θ a)
def qw(fu:Nat)(s:aC)(b:Int):ε Int:=
 ((ajz fu s b).bind λa=>θ a)
open Go.Lib renaming hasPrefix → jF, index → cO, join → cK, trimPrefix → eH
open List renaming drop → cC, set → jH, take → eN
def aib(fu:Nat)(s:aC)(a:aC):ε η:=
 (((if γ a<=(γ s:Int)then(gd (0<=(γ a:Int)/\γ a<=(γ s:Int))<|some (decide ((eN (bL (γ a)) s)=a)))else θ ν)).bind λv6=>θ v6)
def arl(fu:Nat)(s:aC)(b:aC):ε η:=
 ((aib fu s b).bind λa=>θ a)
def afg(fu:Nat)(a:aC)(c:aC)(e:Int->ε ((Int×Int×η)×η))(b:Int):ε ((Int×Int×η)×η):=
 (gd (0<=(min b (γ a))/\(min b (γ a))<=γ a)<|(gd (γ (cC (bL (min b (γ a))) a)<=1000000000)<|(if(cO (cC (bL (min b (γ a))) a) (([45,45])++c))<0 then θ ((0,0,ν),ν)else(gd (bJ (b+(cO (cC (bL (min b (γ a))) a) (([45,45])++c))))<|(((if 0<(b+(cO (cC (bL (min b (γ a))) a) (([45,45])++c)))then(gd (0<=(b+(cO (cC (bL (min b (γ a))) a) (([45,45])++c)))/\(b+(cO (cC (bL (min b (γ a))) a) (([45,45])++c)))<=γ a)<|((agk fu (eN (bL (b+(cO (cC (bL (min b (γ a))) a) (([45,45])++c)))) a) ([13,10])).bind λh=>θ (!h)))else θ ν)).bind λg=>(bif g then(gd (bJ ((b+(cO (cC (bL (min b (γ a))) a) (([45,45])++c)))+1))<|(e ((b+(cO (cC (bL (min b (γ a))) a) (([45,45])++c)))+1)))else(gd (bJ ((b+(cO (cC (bL (min b (γ a))) a) (([45,45])++c)))+(γ (([45,45])++c))))<|(gd (0<=((b+(cO (cC (bL (min b (γ a))) a) (([45,45])++c)))+(γ (([45,45])++c)))/\((b+(cO (cC (bL (min b (γ a))) a) (([45,45])++c)))+(γ (([45,45])++c)))<=γ a)<|((qw fu (eH (cC (bL ((b+(cO (cC (bL (min b (γ a))) a) (([45,45])++c)))+(γ (([45,45])++c)))) a) ([45,45])) 0).bind λd=>(gd (0<=d/\d<=(γ (eH (cC (bL ((b+(cO (cC (bL (min b (γ a))) a) (([45,45])++c)))+(γ (([45,45])++c)))) a) ([45,45]))))<|(if(cC (bL d) (eH (cC (bL ((b+(cO (cC (bL (min b (γ a))) a) (([45,45])++c)))+(γ (([45,45])++c)))) a) ([45,45])))=[]then θ ((b+(cO (cC (bL (min b (γ a))) a) (([45,45])++c)),γ a,(jF (cC (bL ((b+(cO (cC (bL (min b (γ a))) a) (([45,45])++c)))+(γ (([45,45])++c)))) a) ([45,45]))),μ)else((arl fu (cC (bL d) (eH (cC (bL ((b+(cO (cC (bL (min b (γ a))) a) (([45,45])++c)))+(γ (([45,45])++c)))) a) ([45,45]))) ([13,10])).bind λf=>(bif f then(gd (bJ (γ a-(γ (cC (bL d) (eH (cC (bL ((b+(cO (cC (bL (min b (γ a))) a) (([45,45])++c)))+(γ (([45,45])++c)))) a) ([45,45]))))))<|(gd (bJ ((γ a-(γ (cC (bL d) (eH (cC (bL ((b+(cO (cC (bL (min b (γ a))) a) (([45,45])++c)))+(γ (([45,45])++c)))) a) ([45,45])))))+2))<|some ((b+(cO (cC (bL (min b (γ a))) a) (([45,45])++c)),(γ a-(γ (cC (bL d) (eH (cC (bL ((b+(cO (cC (bL (min b (γ a))) a) (([45,45])++c)))+(γ (([45,45])++c)))) a) ([45,45])))))+2,(jF (cC (bL ((b+(cO (cC (bL (min b (γ a))) a) (([45,45])++c)))+(γ (([45,45])++c)))) a) ([45,45]))),μ)))else(gd (bJ ((b+(cO (cC (bL (min b (γ a))) a) (([45,45])++c)))+1))<|(e ((b+(cO (cC (bL (min b (γ a))) a) (([45,45])++c)))+1))))))))))))))))
def afq(fu:Nat)(d:aC)(c:aC):Nat->Int->ε ((Int×Int×η)×η):=λb a=>bE (λg v=>afg fu d c (λa=>g a) v) b a
variable{g:aC}
theorem aui:afq a d g (b+1) c=afg a d g (afq a d g b) c:=rfl
def aes(fu:Nat)(c:aC)(b:Int)(a:aC):ε ((Int×Int×η)×η):=
 (gd (γ ([45,45]:aC)+γ a<=9223372036854775807)<|(afq fu c a fu b))
def ahv(fu:Nat)(a:ζ):ε η:=
 (((if a<32 then(if a=9 then θ (decide (a=127))else θ μ)else θ (decide (a=127)))).bind λv6=>θ v6)
def aub(fu:Nat)(s:aC)(b:Int->ε (Unit⊕(Int×η)))(a:Int):ε (Unit⊕(Int×η)):=
 (if a<γ s then(gd (0<=a/\a<γ s)<|((ahv fu (Κ s a)).bind λc=>(bif (!c)then(gd (bJ (a+1))<|(b (a+1)))else(gd (0<=a/\a<γ s)<|(if(Κ s a)=13 then(gd (bJ (a+1))<|(if(a+1)=γ s then θ (.inr (0,ν))else(gd (bJ (a+1))<|(gd (0<=(a+1)/\(a+1)<γ s)<|(if(Κ s (a+1))=10 then(gd (bJ (a+1))<|(gd (bJ ((a+1)+1))<|(b ((a+1)+1))))else θ (.inr (a,μ)))))))else θ (.inr (a,μ)))))))else θ (.inl ()))
def ain(fu:Nat)(s:aC):Nat->Int->ε (Unit⊕(Int×η)):=λb a=>bE (λg v=>aub fu s (λa=>g a) v) b a
theorem bhb:ain a d (b+1) c=aub a d (ain a d b) c:=rfl
def aru(fu:Nat)(s:aC):ε (Int×η):=
 (((ain fu s fu 0)).bind λa=>dA (λb=>θ (0,ν)) (λq=>θ q) a)
def asm(fu:Nat)(s:aC):ε aC:=
 θ s
def rf(fu:Nat)(g:Int)(c:aC)(d:δ aC)(a:eR):ε (Nat×(δ aC)×eR):=
 (((((if c=[]then θ μ else(gd (0<=(0:Int)/\0<(γ c:Int))<|((eh fu (Κ c 0)).bind λi=>θ (!i))))).bind λh=>(bif h then(((if 0<(γ a:Int)then(gd (bJ (γ a-1))<|(gd (γ d<=1000000000/\γ (cK d [32])<=100000000000)<|(gd (0<=(γ a-(1:Int))/\(γ a-1)<(γ a:Int))<|(gd (0<=(γ a-(1:Int))/\(γ a-1)<(γ a:Int))<|some (jH a (bL (γ a-1)) ((el a (γ a-1)).1,cK d [32]))))))else θ a)).bind λf=>(gd ((γ f+γ ([(g,[])]:eR))*24<=140737488355328)<|(gd (0<=(0:Int)/\0<=(γ d:Int))<|some (eN (bL 0) d,f++([(g,[])]:eR)))))else θ (d,a)))).bind λe=>(gd (γ c<=1000000000)<|gd (γ ([32,9]:aC)<=1000/\([32,9]:aC).all (λb=>decide (b.toNat<128))=μ)<|(if(Lib.trimS c ([32,9]))=[]then θ (0,e.1,e.2)else(gd ((γ e.1+γ ([Lib.trimS c ([32,9])]:δ aC))*16<=140737488355328)<|some (0,e.1++([Lib.trimS c ([32,9])]:δ aC),e.2)))))
def rr(fu:Nat)(b:aC)(g:Int->(δ aC)->eR->ε ((δ aC)×eR×Nat))(a:Int)(f:δ aC)(e:eR):ε ((δ aC)×eR×Nat):=
 (if a<γ b then(gd (0<=a/\a<=γ b)<|(gd (γ (cC (bL a) b)<=1000000000)<|(if(cO (cC (bL a) b) ([13,10]))<0 then(gd (0<=a/\a<=γ b)<|((rf fu a (cC (bL a) b) f e).bind λd=>(if d.1=0 then θ (d.2.1,d.2.2,0)else θ (d.2.1,d.2.2,d.1))))else(gd (bJ (a+(cO (cC (bL a) b) ([13,10]))))<|(gd (0<=a/\a<=(a+(cO (cC (bL a) b) ([13,10])))/\(a+(cO (cC (bL a) b) ([13,10])))<=γ b)<|((rf fu a (sub b a (a+(cO (cC (bL a) b) ([13,10])))) f e).bind λc=>(if c.1=0 then(gd (bJ ((cO (cC (bL a) b) ([13,10]))+2))<|(gd (bJ (a+((cO (cC (bL a) b) ([13,10]))+2)))<|(g (a+((cO (cC (bL a) b) ([13,10]))+2)) c.2.1 c.2.2)))else θ (c.2.1,c.2.2,c.1))))))))else θ (f,e,0))
def rq(fu:Nat)(e:aC):Nat->Int->(δ aC)->eR->ε ((δ aC)×eR×Nat):=λd c b a=>bE (λg v=>rr fu e (λc b a=>g (c,b,a)) v.1 v.2.1 v.2.2) d (c,b,a)
variable{e:δ aC}
theorem aba{i:eR}:rq a d (b+1) c e i=rr a d (rq a d b) c e i:=rfl
def acs(fu:Nat)(c:δ aC)(b:eR)(a:aC):ε ((δ aC)×eR×Nat):=
 (rq fu a fu 0 c b)
def aoh(fu:Nat)(s:aC):ε (eR×Int×ζ):=
 (if s=[]then θ ([],0,0)else(gd (0<=(0:Int)/\0<(γ s:Int))<|((eh fu (Κ s 0)).bind λc=>(bif c then θ ([],0,5)else((aru fu s).bind λb=>(bif b.2 then θ ([],b.1,5)else((agk fu s ([13,10])).bind λe=>(bif (!e)then θ ([],γ s,6)else((asm fu s).bind λd=>((acs fu [] [] d).bind λa=>(if a.2.2=0 then(gd (bJ (γ a.2.1-1))<|(gd (γ a.1<=1000000000/\γ (cK a.1 [32])<=100000000000)<|(gd (0<=(γ a.2.1-(1:Int))/\(γ a.2.1-1)<(γ a.2.1:Int))<|(gd (0<=(γ a.2.1-(1:Int))/\(γ a.2.1-1)<(γ a.2.1:Int))<|some (jH a.2.1 (bL (γ a.2.1-1)) ((el a.2.1 (γ a.2.1-1)).1,cK a.1 [32]),0,0)))))else ι)))))))))))
def aju(fu:Nat)(a:ζ):ε ζ:=
 (((if 65<=a then θ (decide (a<=90))else θ ν)).bind λb=>(bif b then θ (a+32)else θ a))
open List renaming set → jH
def awm(fu:Nat)(a:ζ):ε aC:=
 (if a=98 then θ ([82,101,102,101,114,114,101,100,45,66,121])else(if a=99 then θ ([67,111,110,116,101,110,116,45,84,121,112,101])else(if a=101 then θ ([67,111,110,116,101,110,116,45,69,110,99,111,100,105,110,103])else(if a=102 then θ ([70,114,111,109])else(if a=105 then θ ([67,97,108,108,45,73,68])else(if a=107 then θ ([83,117,112,112,111,114,116,101,100])else(if a=108 then θ ([67,111,110,116,101,110,116,45,76,101,110,103,116,104])else(if a=109 then θ ([67,111,110,116,97,99,116])else(if a=111 then θ ([69,118,101,110,116])else(if a=114 then θ ([82,101,102,101,114,45,84,111])else(if a=115 then θ ([83,117,98,106,101,99,116])else(if a=116 then θ ([84,111])else(if a=117 then θ ([65,108,108,111,119,45,69,118,101,110,116,115])else(if a=118 then θ ([86,105,97])else(if a=120 then θ ([83,101,115,115,105,111,110,45,69,120,112,105,114,101,115])else θ [])))))))))))))))
def adg(fu:Nat)(s:aC)(d:aC->Int->ε aC)(b:aC)(a:Int):ε aC:=
 (if a<γ s then(gd (0<=a/\a<γ b)<|(gd (0<=a/\a<γ b)<|((aju fu (Κ b a)).bind λc=>(gd (0<=a/\a<γ b)<|(gd (0<=a/\a<γ b)<|(gd (bJ (a+1))<|(d (jH b (bL a) c) (a+1))))))))else θ b)
def adl(fu:Nat)(s:aC):Nat->aC->Int->ε aC:=λc b a=>bE (λg v=>adg fu s (λb a=>g (b,a)) v.1 v.2) c (b,a)
theorem ais:adl a d (b+1) g c=adg a d (adl a d b) g c:=rfl
def adc(fu:Nat)(s:aC):ε aC:=
 (((adl fu s fu s 0)).bind λa=>θ a)
def ann(fu:Nat)(a:ζ):ε ζ:=
 (((if 97<=a then θ (decide (a<=122))else θ ν)).bind λb=>(bif b then θ (a-32)else θ a))
def ayn(fu:Nat)(c:ζ)(d:η):ε (ζ×η):=
 (bif d then((ann fu c).bind λb=>θ (b,(decide (b=45))))else((aju fu c).bind λa=>θ (a,(decide (a=45)))))
def adr(fu:Nat)(s:aC)(e:aC->Int->η->ε (aC×η))(b:aC)(a:Int)(d:η):ε (aC×η):=
 (if a<γ s then(gd (0<=a/\a<γ b)<|(gd (0<=a/\a<γ b)<|((ayn fu (Κ b a) d).bind λc=>(gd (0<=a/\a<γ b)<|(gd (0<=a/\a<γ b)<|(gd (bJ (a+1))<|(e (jH b (bL a) c.1) (a+1) c.2)))))))else θ (b,d))
def aea(fu:Nat)(s:aC):Nat->aC->Int->η->ε (aC×η):=λd c b a=>bE (λg v=>adr fu s (λc b a=>g (c,b,a)) v.1 v.2.1 v.2.2) d (c,b,a)
theorem ajv{i:η}:aea a d (b+1) g c i=adr a d (aea a d b) g c i:=rfl
def adm(fu:Nat)(s:aC)(b:η):ε (aC×η):=
 (((aea fu s fu s 0 b)).bind λa=>θ (a.1,a.2))
def vH(fu:Nat)(d:aC)(c:Int->ε (Unit⊕(aC×ζ)))(a:Int):ε (Unit⊕(aC×ζ)):=
 (if a<7 then(gd (0<=a/\a<γ bo)<|((adc fu (el bo a)).bind λb=>(if b=d then θ (.inr (el bo a,0))else(gd (bJ (a+1))<|(c (a+1))))))else θ (.inl ()))
def ajw(fu:Nat)(c:aC):Nat->Int->ε (Unit⊕(aC×ζ)):=λb a=>bE (λg v=>vH fu c (λa=>g a) v) b a
def asv(fu:Nat)(a:aC):ε (aC×ζ):=
 ((((ZB fu a).bind λi=>(bif (!i)then θ μ else θ (decide (64<(γ a:Int)))))).bind λh=>(bif h then θ ([],5)else(((if γ a=(1:Int)then(gd (0<=(0:Int)/\0<(γ a:Int))<|((aju fu (Κ a 0)).bind λg=>((awm fu g).bind λb=>(if b=[]then θ (.inl ())else θ (.inr (b,0))))))else θ (.inl ()))).bind λf=>dA (λk=>((adc fu a).bind λe=>(((ajw fu e fu 0)).bind λd=>dA (λj=>((adm fu a μ).bind λc=>θ (c.1,0))) (λq=>θ q) d))) (λq=>θ q) f)))
def aox(fu:Nat)(c:aC)(b:Int->ε (Unit⊕Int))(a:Int):ε (Unit⊕Int):=
 (if a<31 then(gd (0<=a/\a<31)<|(gd (0<=a/\a<γ vD)<|(if((el vD a).1)=c then(gd (0<=a/\a<31)<|(gd (0<=a/\a<γ vD)<|some (.inr ((el vD a).2))))else(gd (bJ (a+1))<|(b (a+1))))))else θ (.inl ()))
def arx(fu:Nat)(c:aC):Nat->Int->ε (Unit⊕Int):=λb a=>bE (λg v=>aox fu c (λa=>g a) v) b a
theorem bds:arx a d (b+1) c=aox a d (arx a d b) c:=rfl
def wa(fu:Nat)(b:aC):ε Int:=
 (((arx fu b fu 0)).bind λa=>dA (λc=>θ 0) (λq=>θ q) a)
def arw(fu:Nat)(a:aC):ε η:=
 (((if a=([67,111,110,116,97,99,116])then(if a=([67,111,110,116,97,99,116])then θ (.inr μ)else θ (.inl ()))else(if a=([80,97,116,104])then(if a=([80,97,116,104])then θ (.inr μ)else θ (.inl ()))else(if a=([82,101,99,111,114,100,45,82,111,117,116,101])then(if a=([82,101,99,111,114,100,45,82,111,117,116,101])then θ (.inr μ)else θ (.inl ()))else(if a=([82,111,117,116,101])then(if a=([82,111,117,116,101])then θ (.inr μ)else θ (.inl ()))else(if a=([83,101,114,118,105,99,101,45,82,111,117,116,101])then θ (.inr μ)else θ (.inl ()))))))).bind λd=>dA (λe=>((wa fu a).bind λb=>(((if b=2 then θ μ else θ (decide (b=7)))).bind λc=>θ c))) (λq=>θ q) d)
def ZA(fu:Nat)(s:aC):ε aC:=
 (gd (γ s<=1000000000)<|gd (γ ([32,9]:aC)<=1000/\([32,9]:aC).all (λb=>decide (b.toNat<128))=μ)<|some (Lib.trimS s ([32,9])))
def eo(fu:Nat)(a:(aC×Int)):ε (aC×Int):=
 ((qw fu a.1 a.2).bind λb=>θ (a.1,b))
open Go.Lib renaming indexAny → Cz, join → cK
open List renaming drop → cC, set → jH
def wk(fu:Nat)(a:(aC×Int)):ε η:=
 θ (decide (γ a.1<=a.2))
def Iu(fu:Nat)(a:(aC×Int))(d:ζ):ε η:=
 ((((wk fu a).bind λc=>(bif (!c)then(gd (0<=a.2/\a.2<γ a.1)<|some (decide ((Κ a.1 a.2)=d)))else θ ν))).bind λb=>θ b)
def aov(fu:Nat)(a:ζ):ε η:=
 (((if 32<=a then θ (decide (a<=126))else θ ν)).bind λb=>θ b)
def akh(fu:Nat)(s:aC)(c:(δ ζ)->Int->ε (((δ ζ)×Int)⊕(aC×Int×ζ)))(b:δ ζ)(a:Int):ε (((δ ζ)×Int)⊕(aC×Int×ζ)):=
 (if a<γ s then(gd (0<=a/\a<γ s)<|(if(Κ s a)=34 then θ (.inl (b,a))else(if(Κ s a)=92 then(gd (bJ (a+1))<|(if(a+1)=γ s then θ (.inr ([],γ s,6))else(gd (bJ (a+1))<|(gd (0<=(a+1)/\(a+1)<γ s)<|((aov fu (Κ s (a+1))).bind λe=>(bif (!e)then θ (.inr ([],a,5))else(gd (bJ (a+1))<|(gd (0<=(a+1)/\(a+1)<γ s)<|(gd ((γ b+γ ([Κ s (a+1)]))*1<=140737488355328)<|(gd (bJ ((a+1)+1))<|(c (b++([Κ s (a+1)])) ((a+1)+1))))))))))))else((ahv fu (Κ s a)).bind λd=>(bif d then θ (.inr ([],a,5))else(gd (0<=a/\a<γ s)<|(gd ((γ b+γ ([Κ s a]))*1<=140737488355328)<|(gd (bJ (a+1))<|(c (b++([Κ s a])) (a+1))))))))))else θ (.inl (b,a)))
def arv(fu:Nat)(s:aC):Nat->(δ ζ)->Int->ε (((δ ζ)×Int)⊕(aC×Int×ζ)):=λc b a=>bE (λg v=>akh fu s (λb a=>g (b,a)) v.1 v.2) c (b,a)
variable{f:δ ζ}
theorem ave:arv a d (b+1) f c=akh a d (arv a d b) f c:=rfl
def aqc(fu:Nat)(s:aC)(a:Int):ε (aC×Int×ζ):=
 (((if a<0 then θ μ else θ (decide (γ s<a)))).bind λc=>(bif c then θ ([],0,2)else(((if a=γ s then θ μ else(gd (0<=a/\a<γ s)<|some (!decide ((Κ s a)=34))))).bind λe=>(bif e then θ ([],a,5)else(gd (bJ (a+1))<|(((arv fu s fu [] (a+1))).bind λd=>dA (λb=>(if(γ s:Int)<=b.2 then θ ([],γ s,6)else(gd (bJ (b.2+1))<|some (b.1,b.2+1,0)))) (λq=>θ q) d))))))
def ahs(fu:Nat)(d:(aC×Int))(b:AQ):ε (Int×ζ×(aC×Int)×AQ):=
 ((aqc fu d.1 d.2).bind λa=>(if a.2.2=0 then((eo fu (d.1,a.2.1)).bind λc=>((Iu fu c 60).bind λe=>(bif (!e)then θ (c.2,5,c,(a.1,b.2.1,b.2.2))else θ (0,0,c,(a.1,b.2.1,b.2.2)))))else θ (a.2.1,a.2.2,d,b)))
def afw(fu:Nat)(a:(aC×Int)):ε (aC×(aC×Int)):=
 ((ra fu a.1 a.2).bind λb=>(gd (0<=a.2/\a.2<=b/\b<=γ a.1)<|some (sub a.1 a.2 b,(a.1,b))))
def afo(fu:Nat)(h:AQ)(g:(δ aC)->aC->Int->ε (((δ aC)×aC×Int)⊕(Int×ζ×(aC×Int)×AQ)))(d:δ aC)(c:aC)(b:Int):ε (((δ aC)×aC×Int)⊕(Int×ζ×(aC×Int)×AQ)):=
 ((Iu fu (c,b) 60).bind λf=>(bif (!f)then((afw fu (c,b)).bind λa=>(if a.1=[]then θ (.inr (a.2.2,5,a.2,h))else(gd ((γ d+[a.1].length)*16<=140737488355328)<|((eo fu a.2).bind λe=>(g (d++[a.1]) e.1 e.2)))))else θ (.inl (d,c,b))))
def aft(fu:Nat)(e:AQ):Nat->(δ aC)->aC->Int->ε (((δ aC)×aC×Int)⊕(Int×ζ×(aC×Int)×AQ)):=λd c b a=>bE (λg v=>afo fu e (λc b a=>g (c,b,a)) v.1 v.2.1 v.2.2) d (c,b,a)
theorem aom{i:AQ}:aft a i (b+1) e d c=afo a i (aft a i b) e d c:=rfl
def aee(fu:Nat)(c:(aC×Int))(b:AQ):ε (Int×ζ×(aC×Int)×AQ):=
 (((aft fu b fu [] c.1 c.2)).bind λd=>dA (λa=>(gd (γ a.1<=1000000000/\γ (cK a.1 [32])<=100000000000)<|some (0,0,a.2,(cK a.1 [32],b.2.1,b.2.2)))) (λq=>θ q) d)
def BZ(fu:Nat)(c:aC)(a:Int)(d:aC):ε Int:=
 (gd (0<=a/\a<=γ c)<|(gd (γ (cC (bL a) c)<=1000000000/\γ d<=1000/\d.all (λb=>decide (b.toNat<128))=μ)<|(if 0<=(Cz (cC (bL a) c) d)then(gd (bJ (a+(Cz (cC (bL a) c) d)))<|some (a+(Cz (cC (bL a) c) d)))else θ (γ c))))
def aoz(fu:Nat)(s:aC)(c:aC->Int->ε aC)(b:aC)(a:Int):ε aC:=
 (if a<γ s then(gd (0<=a/\a<γ b)<|(gd (0<=a/\a<γ b)<|(((if 65<=(Κ b a)then θ (decide ((Κ b a)<=90))else θ ν)).bind λd=>(bif d then(gd (0<=a/\a<γ b)<|(gd (0<=a/\a<γ b)<|(gd (bJ (a+1))<|(c (jH b (bL a) ((Κ b a)+32)) (a+1)))))else(gd (bJ (a+1))<|(c b (a+1)))))))else θ b)
def asa(fu:Nat)(s:aC):Nat->aC->Int->ε aC:=λc b a=>bE (λg v=>aoz fu s (λb a=>g (b,a)) v.1 v.2) c (b,a)
theorem bdt:asa a d (b+1) g c=aoz a d (asa a d b) g c:=rfl
def YF(fu:Nat)(s:aC):ε aC:=
 (((asa fu s fu s 0)).bind λa=>θ a)
def amm(fu:Nat)(a:ζ):ε η:=
 (((if 97<=a then(if a<=122 then θ μ else(if 65<=a then θ (decide (a<=90))else θ ν))else(if 65<=a then θ (decide (a<=90))else θ ν))).bind λb=>θ b)
open Go.Lib renaming cut → eF, join → cK, trimLeftS → Gh
open List renaming set → jH, take → eN
def ZC(fu:Nat)(a:ζ):ε η:=
 (((if 48<=a then θ (decide (a<=57))else θ ν)).bind λb=>θ b)
def aql(fu:Nat)(b:ζ)(a:Int):ε η:=
 ((((amm fu b).bind λf=>(bif f then θ μ else((ZC fu b).bind λe=>(bif e then θ μ else θ (decide (0<=(dM (·==b) ([45,95,46,33,126,42,39,40,41]))))))))).bind λd=>(bif d then θ μ else(((if 0<=a then(if a<=2 then(gd (0<=a/\a<3)<|(gd (0<=a/\a<γ dv)<|some (decide (0<=(dM (·==b) (el dv a))))))else θ ν)else θ ν)).bind λc=>θ c)))
def wh(fu:Nat)(a:ζ):ε (ζ×η):=
 ((ZC fu a).bind λb=>(bif b then θ (a-48,μ)else(((if 97<=a then θ (decide (a<=102))else θ ν)).bind λd=>(bif d then θ ((a-97)+10,μ)else(((if 65<=a then θ (decide (a<=70))else θ ν)).bind λc=>(bif c then θ ((a-65)+10,μ)else θ (0,ν)))))))
def ans(fu:Nat)(s:aC)(a:Int):ε (ζ×η):=
 (((gd (bJ (a+2))<|(if γ s<=(a+2)then θ μ else(gd (0<=a/\a<γ s)<|some (!decide ((Κ s a)=37)))))).bind λd=>(bif d then θ (0,ν)else(gd (bJ (a+1))<|(gd (0<=(a+1)/\(a+1)<γ s)<|((wh fu (Κ s (a+1))).bind λc=>(gd (bJ (a+2))<|(gd (0<=(a+2)/\(a+2)<γ s)<|((wh fu (Κ s (a+2))).bind λb=>(((bif c.2 then θ b.2 else θ ν)).bind λe=>θ ((UI c.1 4)|||b.1,e))))))))))
def awv(fu:Nat)(a:ζ):ε η:=
 (((if a<32 then(if a=9 then θ (decide (a=127))else θ μ)else θ (decide (a=127)))).bind λv6=>θ v6)
def afh(fu:Nat)(c:(aC×Int))(b:Int)(i:Int)(e:Int->ε (Unit⊕(Int×η)))(a:Int):ε (Unit⊕(Int×η)):=
 (if a<b then(gd (0<=a/\a<γ c.1)<|((aql fu (Κ c.1 a) i).bind λh=>(bif h then(gd (bJ (a+1))<|(e (a+1)))else(gd (0<=b/\b<=γ c.1)<|((ans fu (eN (bL b) c.1) a).bind λd=>(((bif (!d.2)then θ μ else((awv fu d.1).bind λg=>θ g))).bind λf=>(bif f then θ (.inr (a,μ))else(gd (bJ (a+2))<|(gd (bJ ((a+2)+1))<|(e ((a+2)+1)))))))))))else θ (.inl ()))
def aie(fu:Nat)(e:(aC×Int))(d:Int)(c:Int):Nat->Int->ε (Unit⊕(Int×η)):=λb a=>bE (λg v=>afh fu e d c (λa=>g a) v) b a
variable{h:Int}
theorem akr{d:(aC×Int)}{e:Int}:aie a d c h (b+1) e=afh a d c h (aie a d c h b) e:=rfl
def afv(fu:Nat)(a:(aC×Int))(d:Int)(c:Int):ε (Int×η):=
 (((aie fu a d c fu a.2)).bind λb=>dA (λe=>θ (0,ν)) (λq=>θ q) b)
def ahu(fu:Nat)(s:aC)(d:(δ ζ)->Int->ε ((δ ζ)⊕(aC×Int×ζ)))(b:δ ζ)(a:Int):ε ((δ ζ)⊕(aC×Int×ζ)):=
 (if a<γ s then(gd (0<=a/\a<γ s)<|(if(Κ s a)=37 then((ans fu s a).bind λc=>(bif (!c.2)then θ (.inr ([],a,5))else(gd ((γ b+[c.1].length)*1<=140737488355328)<|(gd (bJ (a+2))<|(gd (bJ ((a+2)+1))<|(d (b++[c.1]) ((a+2)+1)))))))else(gd (0<=a/\a<γ s)<|(gd ((γ b+γ ([Κ s a]))*1<=140737488355328)<|(gd (bJ (a+1))<|(d (b++([Κ s a])) (a+1)))))))else θ (.inl b))
def aij(fu:Nat)(s:aC):Nat->(δ ζ)->Int->ε ((δ ζ)⊕(aC×Int×ζ)):=λc b a=>bE (λg v=>ahu fu s (λb a=>g (b,a)) v.1 v.2) c (b,a)
theorem aqo:aij a d (b+1) f c=ahu a d (aij a d b) f c:=rfl
def bbu(fu:Nat)(s:aC):ε (aC×Int×ζ):=
 (@gd _ (0<=(γ s:Int)/\1*(γ s:Int)<=281474976710656) (dMk 1 (γ s))<|(((aij fu s fu [] 0)).bind λb=>dA (λ(a:δ ζ)=>θ (a,0,0)) (λq=>θ q) b))
def ald(fu:Nat)(s:aC):ε aC:=
 ((bbu fu s).bind λa=>θ a.1)
def agz(fu:Nat)(c:δ aC)(b:Int)(e:Int->ε (Unit⊕((δ aC)×η)))(a:Int):ε (Unit⊕((δ aC)×η)):=
 (if a<(γ (el c b))then(gd (0<=a/\a<(γ (el c b)))<|((wh fu (Κ (el c b) a)).bind λd=>(bif (!d.2)then θ (.inr ([],ν))else(gd (bJ (a+1))<|(e (a+1))))))else θ (.inl ()))
def akq(fu:Nat)(d:δ aC)(c:Int):Nat->Int->ε (Unit⊕((δ aC)×η)):=λb a=>bE (λg v=>agz fu d c (λa=>g a) v) b a
theorem aoj:akq a e c (b+1) h=agz a e c (akq a e c b) h:=rfl
def ajx(fu:Nat)(s:aC)(i:(δ aC)->Int->ε ((δ aC)⊕((δ aC)×η)))(c:δ aC)(a:Int):ε ((δ aC)⊕((δ aC)×η)):=
 (if a<(γ (cJ 58 s))then(((gd (0<=a/\a<γ c)<|(gd (0<=a/\a<γ c)<|(((if(γ (el c a))<(1:Int)then θ μ else θ (decide (4<(γ (el c a):Int))))).bind λh=>(bif h then θ (.inr ([],ν))else(((akq fu c a fu 0)).bind λg=>dA (λj=>((YF fu (el c a)).bind λd=>(gd (γ d<=1000000000)<|gd (γ ([48]:aC)<=1000/\([48]:aC).all (λb=>decide (b.toNat<128))=μ)<|(if(Gh d [48])=[]then(gd (0<=a/\a<γ c)<|(gd (0<=a/\a<γ c)<|some (.inl (jH c (bL a) [48]))))else(gd (0<=a/\a<γ c)<|(gd (0<=a/\a<γ c)<|some (.inl (jH c (bL a) (Gh d [48]))))))))) (λq=>θ (.inr q)) g)))))).bind λf=>dA (λe=>(gd (bJ (a+1))<|(i e (a+1)))) (λq=>θ (.inr q)) f)else θ (.inl c))
def afn(fu:Nat)(s:aC):Nat->(δ aC)->Int->ε ((δ aC)⊕((δ aC)×η)):=λc b a=>bE (λg v=>ajx fu s (λb a=>g (b,a)) v.1 v.2) c (b,a)
theorem aya:afn a d (b+1) e c=ajx a d (afn a d b) e c:=rfl
def agm(fu:Nat)(s:aC):ε ((δ aC)×η):=
 (gd (γ s<=1000000000)<|(((afn fu s fu (cJ 58 s) 0)).bind λb=>dA (λa=>θ (a,μ)) (λq=>θ q) b))
def ayp(fu:Nat)(s:aC):ε (aC×η):=
 (if 39<(γ s:Int)then θ ([],ν)else(gd (γ s<=1000000000)<|(bif (!((eF s ([58,58])).2.2))then((agm fu s).bind λc=>(((gd (γ c.1<=1000000000/\γ (cK c.1 [58])<=100000000000)<|(bif c.2 then θ (cK c.1 [58],(decide (γ c.1=(8:Int))))else θ (cK c.1 [58],ν)))).bind λ(f:(aC×η))=>θ (f.1,f.2)))else(((if((eF s ([58,58])).1)=[]then θ ([],μ)else((agm fu ((eF s ([58,58])).1)).bind λe=>θ (e.1,e.2)))).bind λa=>(((if((eF s ([58,58])).2.1)=[]then θ ([],μ)else((agm fu ((eF s ([58,58])).2.1)).bind λd=>θ (d.1,d.2)))).bind λb=>(((bif (!a.2)then θ μ else(bif (!b.2)then θ μ else(gd (bJ (γ a.1+γ b.1))<|some (decide (7<(γ a.1+(γ b.1:Int)))))))).bind λg=>(bif g then θ ([],ν)else(gd (γ a.1<=1000000000/\γ (cK a.1 [58])<=100000000000)<|(gd (γ (cK a.1 [58])+γ ([58,58]:aC)<=9223372036854775807)<|(gd (γ b.1<=1000000000/\γ (cK b.1 [58])<=100000000000)<|(gd (γ ((cK a.1 [58])++([58,58]))+γ (cK b.1 [58])<=9223372036854775807)<|some (((cK a.1 [58])++([58,58]:aC))++(cK b.1 [58]),μ))))))))))))
end Go.Wk
