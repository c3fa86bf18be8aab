/-
  The law RoutingArrives holds (part 3 of 9).
-/
import Derived.Test.YtiefafeoagcedaaGreatDoorYa2
import Derived.Orders
import GoSem.Core.Utf8
open Bool renaming false → ν, true → μ
open Go renaming Addr → Ζ, Oper → Ι, Operand → Β, Program → Θ, TypeId → Ε, Value → ς, World → φ, execOp → χ
open Go.Utf8 renaming encode → Γ
open Go.Value renaming func → Λ, slice → ξ
open List renaming length → γ, set → Ξ
open Option renaming none → ι, some → θ
set_option linter.unusedVariables false
set_option linter.unusedSimpArgs false
namespace Go.Oe
open Go.Wk
open Go.Ce (Tr)
open Nat renaming beq → cT, one_pos → Ib, succ → qN
def EOk(C:Cx):Prop:=∀t e b a,C.E t=θ (e,b,a)->C.P.underlying t=θ (.slice e)/\TI C.P e a.sz b/\a.flat=μ/\0<b
section
variable{C:Cx}{md:Md}{w0 w:φ}{S0:δ Nat}{ρ:Nat->Ad}{S:St}{F:Nat->ς}
variable{x:Β}{t:Ε}{c:SC}{g:δ PD}{v:SV}
theorem len_ok(i:Rel C w0 S0 ρ S F w)(hx:aU md F x=c.v ρ)(j:c.ok (γ S.H))(h:Ya C S.H t c=θ (g,v)):vB C md ρ S F w (.call ⟨.builtin .len,#[x],#[t]⟩) v:=by
 unfold Ya at h;split at h
 ·rename_i l;have h:=dD h;cases h.2;exact eW Τ Τ λd ty pos Ψ=>xq l (Cw h.1) hx
 ·split at h
  ·rename_i e b;split at h
   ·rename_i id _;split at h
    ·rename_i o f;cases h;rw[gA]at f;refine eW Τ Τ λd ty pos Ψ=> ?_;rw[zI i id o f];exact Jj (ρ id).a (ρ id).ln (ρ id).cap e (qu b) hx
    ·cases h
   ·cases h;exact eW Τ Τ λd ty pos Ψ=>Jj _ _ _ e (qu b) hx
   ·cases h;exact eW Τ Τ λd ty pos Ψ=>Jj _ _ _ e (qu b) hx
   ·cases h
  ·cases h
theorem rm(o:Rel C w0 S0 ρ S F w){id m:Nat}(h:UC S.H id=θ m)(n:0<m):(ρ id).ln=m/\(ρ id).a≠ι:=by
 obtain⟨L,p,j⟩:=o.mem;unfold UC at h;split at h
 ·rename_i e b t l c;have h:=dD h;cases h.2;rw[gA]at c;obtain⟨d,r,f,i⟩:=j.2 id _ c;subst i;refine⟨d.symm,(p.cP id f).some_ ?_⟩;rw[(Ty.vX h.1).flat];exact ko n (Ty.Cc h.1)
 ·rename_i t l c;have h:=dD h;cases h.2;rw[gA]at c;obtain⟨d,r,f,_,g,_⟩:=j.2 id _ c;refine⟨d.symm,g.some_ ?_⟩;rw[(Ty.vX h.1).flat];exact ko n (Ty.Cc h.1)
 ·rename_i k l c;cases h;rw[gA]at c;obtain⟨d,r,f,i⟩:=j.2 id _ c;subst i;exact⟨by rw[<-d];exact(zJ o id k l c).symm,(p.eQ id f).some_ (by simpa using n)⟩
 ·cases h
variable{s:Β}
theorem Ym(E:Rel C w0 S0 ρ S F w){a:SC}{ro:Ro}(hx:aU md F x=c.v ρ)(o:c.ok (γ S.H))(k:aU md F s=a.v ρ)(h:zu C S.H t c a=θ ro)(n:Hx ro.g):vB C md ρ S F w (.indexAddr t x s) ro.v/\ro.H=S.H/\ro.m=[]:=by
 unfold zu at h;split at h
 ·rename_i j D;obtain⟨q,A⟩:=wD D ρ;rw[A]at k;split at h
  ·rename_i e u;split at h
   ·rename_i f dR;split at h
    ·rename_i id;split at h
     ·rename_i m B;cases h;have K:=n.1;obtain⟨L,p⟩:=rm E B aA0;exact⟨⟨o,_,Τ,λd ty pos Ψ=>YJ (ρ id).a (ρ id).ln (ρ id).cap e f q j (qu u) (Tj dR w) hx k aA0 p⟩,Τ,Τ⟩
     ·cases h
    ·rename_i id m;cases h;refine⟨⟨o,_,Τ,λd ty pos Ψ=> ?_⟩,Τ,Τ⟩;have:=YJ (P:=C.P) (w:=w) (d:=d) (ty:=ty) (pos:=pos) (Ψ:=Ψ) _ m m e f q j (qu u) (Tj dR w) hx k n.1 aA2;rw[this];show _=Result.ok (Next.value (iM (ρ id).b _)) w;unfold ea iM;simp[AM]
    ·cases h
   ·cases h
  ·split at h
   ·rename_i l i;split at h
    ·rename_i f dR;split at h
     ·rename_i id off;have h:=dD h;cases h.2;refine⟨⟨o,_,Τ,λd ty pos Ψ=> ?_⟩,Τ,Τ⟩;have:=Rm (P:=C.P) (w:=w) (d:=d) (ty:=ty) (pos:=pos) (Ψ:=Ψ) _ l.1 l.2 f q j (oAr i) (Tj dR w) hx k n.1 (Rx h.1);rw[this];show _=Result.ok (Next.value (iM (ρ id).b _)) w;unfold ea iM;simp[AM]
     ·rename_i id J z r;have h:=dD h;have p:=dD h.2;have y:=dD p.2;cases y.2;refine⟨⟨o,_,Τ,λd ty pos Ψ=> ?_⟩,Τ,Τ⟩;have I:=gO p.1;have G:=gO y.1;subst I;subst G;have:=Rm (P:=C.P) (w:=w) (d:=d) (ty:=ty) (pos:=pos) (Ψ:=Ψ) _ l.1 l.2 f q j (oAr i) (Tj dR w) (by rw[hx];rfl) k n.1 (Rx h.1);rw[this];show Result.ok (Next.value (.pointer (θ ((ea (ρ id).a 0).add _)))) w=Result.ok (Next.value (.pointer (θ (ea (ρ id).a (j.toNat*f+0))))) w;rw[KL,Ps,Rt]
     ·cases h
    ·cases h
   ·cases h
 ·cases h
theorem Iw(s:Rel C w0 S0 ρ S F w){t:Ty}{l:δ t.T}(h:vZ S.H t c=θ l):∃a cap,c.v ρ=.slice a (γ l) cap/\Rd w a (l.flatMap t.enc):=by
 obtain⟨L,k,j⟩:=s.mem;unfold vZ at h;split at h
 ·cases h;exact⟨ι,0,Τ,Rd.nil _ _⟩
 ·rename_i id;rw[gA]at h;unfold Gd at h;split at h
  ·rename_i e b t2 n d;split at h
   ·rename_i i;obtain rfl:=Ty.jI i;cases h;obtain⟨f,r,g,q⟩:=j.2 id _ d;subst q;exact⟨(ρ id).a,(ρ id).cap,by show ξ _ (ρ id).ln _=_;rw[<-f];rfl,k.cP id g⟩
   ·cases h
  ·rename_i t2 n d;split at h
   ·rename_i i;obtain rfl:=Ty.jI i;cases h;obtain⟨f,r,g,_,o,p,_⟩:=j.2 id _ d;exact⟨(ρ id).a,(ρ id).cap,by show ξ _ (ρ id).ln _=_;rw[<-f];rfl,o.dj k p⟩
   ·cases h
  ·rename_i m n d;unfold strOf at h;split at h
   ·rename_i i;obtain rfl:=Ty.jI i;cases h;obtain⟨f,r,g,q⟩:=j.2 id _ d;subst q;have z:=zJ s id m n d;exact⟨(ρ id).a,(ρ id).cap,by show ξ _ (ρ id).ln _=_;rw[<-f,<-z];rfl,Rd.eE (k.eQ id g)⟩
   ·cases h
  ·cases h
 ·rename_i id m;split at h
  ·rename_i e cs d;rw[gA]at d;obtain⟨_,r,g,A,rfl,u⟩:=j.2 id _ d;obtain⟨f,_,y⟩:=ll h;refine⟨θ _,m,by rw[f];rfl,?_⟩;have x:=u.all (rA h);rw[<-y ρ,<-x];exact k.gP id g
  ·cases h
 ·cases h
theorem ZY(i:Rel C w0 S0 ρ S F w){s e:Ε}{l:aC}(hx:aU md F x=c.v ρ)(f:SB C t=θ e)(b:wB C s=μ)(g:JU C e=μ)(h:vZ S.H .c' c=θ l):vB C md ρ S F w (.convert t s x) (.c' (.s' l)):=by obtain⟨a,cap,k,j⟩:=Iw i h;rw[k]at hx;exact eW Τ Τ λd ty pos Ψ=>Vw l a (γ l) cap e (Rd.bytes j) Τ (qu f) (Cw b) (oU8 g) hx
theorem mm_ok{b:Builtin}{f:Array Ε}{y:SC}(hx:aU md F x=c.v ρ)(e:aU md F s=y.v ρ)(h:mmC b c y=θ (g,v)):vB C md ρ S F w (.call ⟨.builtin b,#[x,s],f⟩) v:=by
 unfold mmC at h;split at h
 ·rename_i k u i a;have h:=dD h;cases h.2;rw[<-lT h.1]at e;exact eW Τ Τ λd ty pos Ψ=>x_min k u a hx e
 ·rename_i k u i a;have h:=dD h;cases h.2;rw[<-lT h.1]at e;exact eW Τ Τ λd ty pos Ψ=>xp k u a hx e
 ·cases h
theorem nil_ok(hx:aU md F x=c.v ρ)(a:c.ok (γ S.H))(h:DF c=θ v):vB C md ρ S F w (.nilCheck x) v:=by
 unfold DF at h;split at h
 ·rename_i id off;cases h;exact⟨a,_,Τ,λd ty pos Ψ=>by simp[χ,hx];rfl⟩
 ·rename_i id j e off;cases h;exact⟨a,_,Τ,λd ty pos Ψ=>by simp[χ,hx];rfl⟩
 ·rename_i k b;cases h;exact⟨a,_,Τ,λd ty pos Ψ=>by simp[χ,hx];rfl⟩
 ·cases h
theorem QB{c:Β->SV}{n:Nat}:∀{l:δ Β}{a:δ Nat},(∀x∈l,(c x).ok n/\∀u,(c x).v ρ=θ u->aU md F x=u)->uy (l.map c)=θ a->l.map (aU md F)=a.map (λid=>iM (ρ id).b 0)/\∀id∈a,id<n
 |[],a,_,h=>by cases h;exact⟨Τ,λ_ h=>by cases h⟩
 |x::l,a,hx,h=>by
  have h:(match c x with
   |.c' (.p' id off)=>bif cT off 0 then(match uy _ with
    |some q=>θ _
    |none=>ι)else ι
   |_=>ι)=θ a:=h
  split at h
  ·rename_i id off m;have h:=dD h;have e:=h.2;split at e
   ·rename_i q o;cases e;obtain⟨r,p⟩:=QB (λy k=>hx y (gN _ k)) o;obtain⟨j,g⟩:=hx x iK;rw[m]at j g;have f:=g _ Τ;rw[gO h.1]at f;refine⟨by rw[qO,r,f];rfl,λi d=> ?_⟩;rcases aQ.1 d with rfl|d
    ·exact j i (aF.2 Τ)
    ·exact p i d
   ·cases e
  ·cases h
theorem tu(m:Rel C w0 S0 ρ S F w)(j:C.nn=md.n){f:Fn}{a b:Array Β}(h:Xw (S.ev C) f a.toList b.toList=θ v):vB C md ρ S F w (.makeFunc f a b) v:=by
 unfold Xw at h;split at h
 ·rename_i k;split at h
  ·rename_i g;split at h
   ·rename_i c e;cases h;obtain⟨p,o⟩:=QB (ρ:=ρ) (md:=md) (F:=F) (n:=γ S.H) (λx _=>Rl m j x) e;have g:a= #[]:=Array.toList_inj.1 g;subst g;have l:b.map _=(c.map λid=>iM (ρ id).b 0).toArray:=Array.toList_inj.1 (by rw[Array.toList_map,p]);refine⟨λi e=>o i e,_,Τ,λd ty pos Ψ=> ?_⟩;simp[χ,Instr.makeFunc,l,SC.v]
   ·cases h
  ·cases h
 ·cases h
theorem qo(f:Rel C w0 S0 ρ S F w)(e:C.nn=md.n){b:Β}{t:η}(j:S.ev C x=.c' (.b' t))(g:(bif t then S.ev C s else S.ev C b)=v)(i:v≠.u'):vB C md ρ S F w (.pick x s b) v:=by
 have k:=(nQ f e j).2;have key:v.ok (γ S.H)/\∀u,v.v ρ=θ u->(bif t then aU md F s else aU md F b)=u:=by
  cases t with
  |true=>have:=Rl f e s;rw[show S.ev C s=v from g]at this;exact this
  |false=>have:=Rl f e b;rw[show S.ev C b=v from g]at this;exact this
 obtain⟨u,h⟩:∃u,v.v ρ=θ u:=by cases v<;>first|exact⟨_,Τ⟩|exact absurd Τ i
 exact⟨key.1,u,h,λd ty pos Ψ=>YF t u k (key.2 u h)⟩
variable{d:Nat}{ty:Ε}{pos:String}{Ψ:Array Edge}
variable{L:δ cL}
theorem uH(h:Hp w0 S0 L w):Hp w0 S0 (dJ::L) w:=by
 refine⟨h.os,h.tape,h.output,h.size,h.below,λr a=> ?_,List.Pairwise.cons (λr _ b c=>by cases c) h.sep⟩;rcases aQ.1 a with rfl|a
 ·exact⟨trivial,λb c=>by cases c⟩
 ·exact h.res r a
theorem set_perm{a:Type}:∀{L:δ a}{id:Nat} r,id<γ L->(L.set id r).Perm (r::L.eraseIdx id)
 |x::L,0,r,_=>List.Perm.refl _
 |x::L,id+1,r,h=>by exact(List.Perm.cons x (set_perm r aA8)).trans (List.Perm.swap r x _)
variable{e:Nat}{r:cL}
theorem dh(hid:e<γ L)(h:Hp w0 S0 (L.set e r) w):Hp w0 S0 (r::L.set e dJ) w:=by have b:=h.perm (set_perm r hid);have a:=(uH b).perm (List.Perm.swap r dJ _);exact a.perm ((set_perm dJ hid).symm.cons r)
variable{H:δ Ob}{o:Ob}
theorem mt_upd{d:Ob}(b:Mt w0 S0 ρ H L)(g:H[e]? =θ d)(k:RO w0 S0 ρ e o r)(l:o.len=d.len):Mt w0 S0 ρ (jA H e o) (L.set e r):=by
 have a:=(aE.1 g).1;refine⟨by simp[b.1,LA],λi j c=> ?_⟩;rw[xU]at c;split at c
 ·rename_i f;cases c;rw[f.1];exact⟨by rw[l];exact(b.2 e d g).1,r,by rw[dK];simp[b.1,a],k⟩
 ·rename_i f;obtain⟨p,h,n,m⟩:=b.2 i j c;refine⟨p,h,?_,m⟩;rw[dK,aA (λq=>f ⟨q.symm,a⟩)];exact n
variable{k:φ}{s:Nat}{c:ε Nat}
theorem Xf{b:Nat}{τ:Ty}{l:δ τ.T}{a:Ob}{a':ε Ζ}{cap':Nat}{m:δ Rg}(x:Rel C w0 S0 ρ S F w)(v:Mt w0 S0 ρ S.H L)(n:S.H[e]? =θ a)(G:Hp w0 S0 (L.set e (bN τ.enc s τ.sz c a' cap' l)) k)(B:S.Fp m=μ)
  (D:∀A:δ Rg,(∀j,eM e j m=μ->eM e j A=μ)->kT A e ρ ρ (θ (.dd a.len)) a):
  Rel C w0 S0 (Gf ρ (γ S.H) ⟨c,a',cap',ν,γ l⟩) (St.set ⟨S.F,jA S.H e (.dd a.len)++[.rw s b τ l],S.nb,S.al,m++S.m⟩ d (.c' (.l' (γ S.H)))) (cY F d (.slice a' (γ l) cap')) k/\
  Nx S ρ (St.set ⟨S.F,jA S.H e (.dd a.len)++[.rw s b τ l],S.nb,S.al,m++S.m⟩ d (.c' (.l' (γ S.H)))) (Gf ρ (γ S.H) ⟨c,a',cap',ν,γ l⟩):=by
 have p:e<γ L:=by rw[v.1];exact(aE.1 n).1
 have h:=dh p G;have I:γ (jA S.H e (.dd a.len))=γ S.H:=LA;let f:St:=⟨S.F,jA S.H e (.dd a.len),S.nb,S.al,m++S.m⟩;have g:Rel C w0 S0 ρ f F k:=Ih (o:=.dd a.len) (r:=dJ) x v n h.tail trivial Τ (λ_ _ J=>by cases J) rfl rfl;have u:Mt w0 S0 ρ f.H (L.set e dJ):=mt_upd v n trivial Τ;have t:Nx S ρ f ρ:=Xx (o:=.dd a.len) (m:=m) x n B D Τ Τ Τ Τ;have q:=I;have z:Rel C w0 S0 (Gf ρ (γ f.H) ⟨c,a',cap',ν,γ l⟩) ⟨S.F,jA S.H e (.dd a.len)++[.rw s b τ l],S.nb,S.al,m++S.m⟩ F k:=zH (o:=.rw s b τ l) g u h (by show _=_;rw[nS]) Τ (λ_ _ J=>by cases J) rfl rfl;have y:Nx f ρ ⟨S.F,jA S.H e _++[.rw s b τ l],S.nb,S.al,m++S.m⟩ (Gf ρ (γ f.H) ⟨c,a',cap',ν,γ l⟩):=Lo (o:=.rw s b τ l) (m:=[]) g Τ Τ Τ Τ;rw[q]at z y;refine⟨vm z aC7 (λi E=> ?_),?_⟩
 ·have:i=γ S.H:=aF.1 E;subst this;rw[cR,I];simp
 ·have:=t.trans y;exact⟨⟨this.nb,this.al,this.le⟩,this.lg,this.mm⟩
theorem Kw{b:Nat}{τ:Ty}{l:δ τ.T}{a':ε Ζ}(f:Rel C w0 S0 ρ S F w)(j:Mt w0 S0 ρ S.H L)(p:Hp w0 S0 (bN τ.enc e τ.sz c a' s l::L) k):
  Rel C w0 S0 (Gf ρ (γ S.H) ⟨c,a',s,ν,γ l⟩) (St.set ⟨S.F,S.H++[.rw e b τ l],S.nb,S.al,[]++S.m⟩ d (.c' (.l' (γ S.H)))) (cY F d (.slice a' (γ l) s)) k/\
  Nx S ρ (St.set ⟨S.F,S.H++[.rw e b τ l],S.nb,S.al,[]++S.m⟩ d (.c' (.l' (γ S.H)))) (Gf ρ (γ S.H) ⟨c,a',s,ν,γ l⟩):=by
 have n:Rel C w0 S0 (Gf ρ (γ S.H) ⟨c,a',s,ν,γ l⟩) ⟨S.F,S.H++[.rw e b τ l],S.nb,S.al,[]++S.m⟩ F k:=zH (o:=.rw e b τ l) f j p (by show _=_;rw[nS]) Τ (λ_ _ h=>by cases h) rfl rfl;have a:Nx S ρ ⟨S.F,S.H++[.rw e b τ l],S.nb,S.al,[]++S.m⟩ (Gf ρ (γ S.H) ⟨c,a',s,ν,γ l⟩):=Lo (o:=.rw e b τ l) (m:=[]) f Τ Τ Τ Τ;refine⟨vm n aC7 (λi g=> ?_),⟨⟨a.nb,a.al,a.le⟩,a.lg,a.mm⟩⟩;have:i=γ S.H:=aF.1 g;subst this;simp
variable{t:Ε}{x y:Β}{f g:SC}{a:Ro}
theorem step_append(hE:EOk C)(K:Rel C w0 S0 ρ S F w)(hn:C.nn=md.n)(hx:aU md F x=f.v ρ)(M:aU md F y=g.v ρ)(h:rN C S.H t f g=θ a)(hg:Hx a.g)(hm:S.Fp a.m=μ):
  Step C md w0 S0 ρ S F w ⟨θ d,.call ⟨.builtin .append,#[x,y],#[t,t]⟩,ty,pos,Ψ,ι⟩ (St.set ⟨S.F,a.H,S.nb,S.al,a.m++S.m⟩ d a.v):=by
 intro b5 Q b1 hk;have np:∀d2:Nat,(θ d)=θ d2->lU (.call ⟨.builtin .append,#[x,y],#[t,t]⟩)=μ->∀F2:Nat->ς,∃w3,(χ (aU md F) (⟨θ d,.call ⟨.builtin .append,#[x,y],#[t,t]⟩,ty,pos,Ψ,ι⟩:Ι)).run C.P w=.ok (.value (F2 d2)) w3:=λd2 _ h=>by cases h
 obtain⟨L,hH,V⟩:=K.mem;unfold rN at h;split at h
 ·rename_i e b B b0;obtain⟨ht,hT,I,J⟩:=hE _ _ _ _ b0;split at h
  ·split at h
   ·rename_i N p;cases h;obtain⟨X,W,k,U⟩:=Iw K p;rw[k]at M;refine GF (Hp.lK hH B.enc e B.sz ι) 0 ι ι X 0 W e B.sz b [] N (Ty.vX I) Τ ht hT (Ty.Cc I) J hx M U hg.1 λo' a' E w' u=> ?_;obtain⟨s,A⟩:=Kw K V u;exact hk _ _ w' s A QI λd2 T O=>np d2 T O _
   ·cases h
  ·rename_i id;split at h
   ·rename_i l N z p;cases h
    obtain⟨X,W,k,U⟩:=Iw K p;rw[k]at M;have c:S.H[id]? =θ (.rw e b B l):=by
     unfold yc at z;simp only at z;split at z
     ·rename_i q hq;have i:=dD z;have u:=dD i.2;have s:=uA hq u.2;rw[gA,gO i.1,gO u.1]at s;exact s
     ·cases z
    obtain⟨i,r,Y,he⟩:=V.2 id _ c;subst he;have i:γ l=(ρ id).ln:=i;have G:aU md F x=.slice (ρ id).a (γ l) (ρ id).cap:=by rw[hx,i];rfl
    refine GF hH id (ρ id).o (ρ id).a X (ρ id).cap W e B.sz b l N (Ty.vX I) Y ht hT (Ty.Cc I) J G M U hg.1 λo' a' E w' u=> ?_;obtain⟨s,A⟩:=Xf K V c u hm (λal hc=>.inl (hc 0 (wE.2 ⟨_,aF.2 Τ,Τ,dC _,Ib⟩)));exact hk _ _ w' s A QI λd2 T O=>np d2 T O _
   ·cases h
  ·rename_i id m;split at h
   ·rename_i l c2 b4 N z p;cases h
    obtain⟨X,W,k,U⟩:=Iw K p;rw[k]at M;have c:∃cs,S.H[id]? =θ (.bl e cs)/\m<=1048576/\pC B m cs=θ l:=by
     simp only[Ty.rd]at z;split at z
     ·rename_i e2 cs hb;rw[gA]at hb;have i:=dD z;have u:=dD i.2;have s:=dD u.2;have A:=s.2;split at A
      ·rename_i y Z;cases A;rw[gO i.1]at hb;exact⟨cs,hb,Rx s.1,Z⟩
      ·cases A
     ·cases z
    obtain⟨cs,c,b7,D⟩:=c;obtain⟨_,r,Y,vs,rfl,R⟩:=V.2 id _ c;obtain⟨i,_,s⟩:=ll D;have A:=R.all (rA D);have a8:=hH.Ol id B.sz m l Y (Ty.vX I) (by rw[A,s ρ]) i aE3;have a1:=(aE.1 Y).1;have G:aU md F x=.slice (θ ⟨(ρ id).b,0,ι⟩) (γ l) m:=by rw[hx,i];rfl
    refine GF a8 id _ _ X m W e B.sz b l N (Ty.vX I) (bE a1) ht hT (Ty.Cc I) J G M U hg.1 λo' a' E w' u=> ?_;rw[LH]at u;have a2:blL (fC S.H id)=qN (γ cs):=by rw[gA,c];rfl
    obtain⟨h5,h6⟩:=Xf K V c u hm (λal hc=>.inl λj hj=>hc j (wE.2 ⟨_,aF.2 Τ,Τ,eJ _,by show j<blL _;rw[a2];omega⟩));exact hk _ _ w' h5 h6 QI λd2 T O=>np d2 T O _
   ·cases h
  ·cases h
 ·cases h
theorem NU{τ:Ty}{l:δ τ.T}{a':ε Ζ}{cap':Nat}(b:Rel C w0 S0 ρ S F w)(g:Mt w0 S0 ρ S.H L)(h:Hp w0 S0 L w)(c:Vu w0 S0 ⟨ι,a',cap',ν,γ l⟩ τ l):
  Rel C w0 S0 (Gf ρ (γ S.H) ⟨ι,a',cap',ν,γ l⟩) (St.set ⟨S.F,S.H++[.ro τ l],S.nb,S.al,[]++S.m⟩ d (.c' (.l' (γ S.H)))) (cY F d (.slice a' (γ l) cap')) w/\
  Nx S ρ (St.set ⟨S.F,S.H++[.ro τ l],S.nb,S.al,[]++S.m⟩ d (.c' (.l' (γ S.H)))) (Gf ρ (γ S.H) ⟨ι,a',cap',ν,γ l⟩):=by
 have j:Rel C w0 S0 _ ⟨S.F,S.H++[.ro τ l],S.nb,S.al,[]++S.m⟩ F w:=zH (o:=.ro τ l) b g (uH h) ⟨Τ,by rw[nS];exact c⟩ Τ (λ_ _ f=>by cases f) rfl rfl;have a:Nx S ρ ⟨S.F,S.H++[.ro τ l],S.nb,S.al,[]++S.m⟩ (Gf ρ (γ S.H) ⟨ι,a',cap',ν,γ l⟩):=Lo (o:=.ro τ l) (m:=[]) b Τ Τ Τ Τ;refine⟨vm j aC7 (λi e=> ?_),⟨⟨a.nb,a.al,a.le⟩,a.lg,a.mm⟩⟩;have:i=γ S.H:=aF.1 e;subst this;simp
theorem Cs{d g:ε SC}(h:Gp C H e f d g=θ a):∃(id x:Nat) (τ:Ty) (l:δ τ.T),f=.l' id/\H[id]? =θ (.ro τ l)/\C.P.underlying e=θ (.slice x)/\Sn C x=θ τ.sz/\τ.flat=μ/\
  ((∃b j,d=ι/\g=θ b/\QK b=θ j/\a=⟨[⟨0<=j/\j<=(γ l:Int),inferInstance⟩],.c' (.l' (γ H)),H++[.ro τ (l.take j.toNat)],[]⟩)\/
   ∃b j,d=θ b/\g=ι/\QK b=θ j/\a=⟨[⟨0<=j/\j<=(γ l:Int),inferInstance⟩],.c' (.l' (γ H)),H++[.ro τ (l.drop j.toNat)],[]⟩):=by
 unfold Gp at h;split at h
 ·rename_i id;split at h
  ·rename_i τ l c;rw[gA]at c;split at h
   ·rename_i x t;have t:C.P.underlying e=θ (.slice x):=by
     unfold SB at t;split at t
     ·rename_i i;cases t;exact i
     ·cases t
    split at h
    ·rename_i sz dR;have h:=dD h;have k:=gO h.1;subst k;have h:=dD h.2;refine⟨_,x,τ,l,Τ,c,t,dR,h.1,?_⟩;have h:=h.2;split at h
     ·rename_i b;split at h
      ·rename_i j m;cases h;exact .inl ⟨_,j,Τ,Τ,m,Τ⟩
      ·cases h
     ·rename_i b;split at h
      ·rename_i j m;cases h;exact .inr ⟨_,j,Τ,Τ,m,Τ⟩
      ·cases h
     ·cases h
    ·cases h
   ·cases h
  ·cases h
 ·cases h
theorem od (B : Rel C w0 S0 ρ S F w) (V : C.nn = md.n)   {M N : ε Β}  (R : wB C t = ν) (h : iF C (S.ev C) S.H (.slice t x M N ι) = θ a) (hg : Hx a.g) :
    Step C md w0 S0 ρ S F w ⟨θ d,.slice t x M N ι,ty,pos,Ψ,ι⟩ (St.set ⟨S.F,a.H,S.nb,S.al,a.m ++ S.m⟩ d a.v) := by
  have h : (bif wB C t then La S.H _ else gH _ λm => Gq _ M λi => Gq _ N λj => Gp C S.H t m i j) = θ a := h;rw[R] at h;obtain ⟨c,h1,h2⟩ := lC (h);have hx := (nQ B V h1).2;obtain ⟨L,hH,hM⟩ := B.mem;have key : ∀ (i j),Gp C S.H t c i j = θ a -> (M = ι /\ i = ι \/ ∃ o b,M = θ o /\ i = θ b /\ aU md F o = b.v ρ) -> (N = ι /\ j = ι \/ ∃ o b,N = θ o /\ j = θ b /\ aU md F o = b.v ρ) ->
      Step C md w0 S0 ρ S F w ⟨θ d,.slice t x M N ι,ty,pos,Ψ,ι⟩ (St.set ⟨S.F,a.H,S.nb,S.al,a.m ++ S.m⟩ d a.v) := by
    intro i j a6 W Y;obtain ⟨id,e,τ,l,rfl,a7,hu,dR,hf,hc⟩ := Cs a6;obtain ⟨X,r,hr,b8,T,D,A⟩ := hM.2 id _ a7;have X : γ l = (ρ id).ln := X;rcases hc with ⟨b,k,rfl,rfl,hk,rfl⟩ | ⟨b,k,rfl,rfl,hk,rfl⟩
    · rcases W with ⟨rfl,_⟩ | ⟨o,K,_,z,_⟩
      rotate_left
      · cases z
      rcases Y with ⟨_,z⟩ | ⟨o,K,rfl,z,ho⟩
      · cases z
      cases z;obtain ⟨kk,G⟩ := wD hk ρ;have hb := hg.1;have f : ∀ d2 : Nat,(χ (aU md F) (⟨θ d2,.slice t x ι (θ o) ι,ty,pos,Ψ,ι⟩ : Ι)).run C.P w = .ok (.value (.slice (ρ id).a k.toNat (ρ id).cap)) w := λd2 => Vx (d := d2) (ρ id).a (ρ id).ln (ρ id).cap e τ.sz kk k hu (Tj dR w) hx (ho.trans G) l X.symm hb (by rw[<- X]; exact A);have s : γ (l.take k.toNat) = k.toNat := by rw[iW]; omega
      have hR : Vu w0 S0 ⟨ι,(ρ id).a,(ρ id).cap,ν,γ (l.take k.toNat)⟩ τ (l.take k.toNat) := by
       refine ⟨?_,λE => D (λe0 => E ?_),?_⟩
       · intro j v hv;have e1 : (l.flatMap τ.enc)[j]? = θ v := by rw[<- HN k.toNat l,GZ,aI (aE.1 hv).1]; exact hv
         exact T j v e1
       · rw[<- HN k.toNat l,GZ] at e0;exact (LV.1 e0).1
       · show γ (l.take k.toNat) <= (ρ id).cap;omega
      obtain ⟨Z,y⟩ := NU (d := d) (τ := τ) (l := l.take k.toNat) (a' := (ρ id).a) (cap' := (ρ id).cap) B hM hH hR;intro a3 Q O u;rw[s] at Z y;refine dY Τ Τ (f d) (u _ _ w Z y QI λd2 hd _ => ⟨w,?_⟩);cases hd;rw[vu]; exact f d
    · rcases Y with ⟨rfl,_⟩ | ⟨o,K,_,z,_⟩
      rotate_left
      · cases z
      rcases W with ⟨_,z⟩ | ⟨o,K,rfl,z,ho⟩
      · cases z
      cases z;obtain ⟨kk,G⟩ := wD hk ρ;have hb := hg.1;have f : ∀ d2 : Nat,(χ (aU md F) (⟨θ d2,.slice t x (θ o) ι ι,ty,pos,Ψ,ι⟩ : Ι)).run C.P w = .ok (.value (.slice (kB (ρ id).a (ρ id).cap k.toNat τ.sz) ((ρ id).ln - k.toNat) ((ρ id).cap - k.toNat))) w := λd2 => bha (d := d2) (ρ id).a (ρ id).ln (ρ id).cap e τ.sz kk k hu (Tj dR w) hx (ho.trans G) l X.symm hb;have s : γ (l.drop k.toNat) = (ρ id).ln - k.toNat := by rw[fY]; omega
      have hR : Vu w0 S0 ⟨ι,kB (ρ id).a (ρ id).cap k.toNat τ.sz,(ρ id).cap - k.toNat,ν,γ (l.drop k.toNat)⟩ τ (l.drop k.toNat) := by
       refine ⟨Rd.vY (Ty.vX hf) _ _ A T,λE p hp => ?_,?_⟩
       · have U : l.flatMap τ.enc ≠ [] := λe0 => E (by rw[<- HN k.toNat l,GZ] at e0;exact (LV.1 e0).2);unfold kB at hp;split at hp
         · exact D U p hp
         · obtain ⟨q,hq,rfl⟩ := cH.1 hp;have := D U q hq;rw[bgp]; exact this
       · show γ (l.drop k.toNat) <= (ρ id).cap - k.toNat;omega
      obtain ⟨Z,y⟩ := NU (τ := τ) (l := l.drop k.toNat) (a' := kB (ρ id).a (ρ id).cap k.toNat τ.sz) (cap' := (ρ id).cap - k.toNat) B hM hH hR;intro a3 Q O u;rw[s] at Z y;refine dY Τ Τ (f d) (u _ _ w Z y QI λd2 hd _ => ⟨w,?_⟩);cases hd;rw[vu]; exact f d
  rcases XK h2 with ⟨y,h5⟩ | ⟨o,b,y,h5,h6⟩
  · rcases XK h5 with ⟨J,I⟩ | ⟨o2,K,J,I,h9⟩
    · exact key _ _ I (.inl ⟨y,Τ⟩) (.inl ⟨J,Τ⟩)
    · exact key _ _ h9 (.inl ⟨y,Τ⟩) (.inr ⟨o2,K,J,Τ,(nQ B V I).2⟩)
  · rcases XK h6 with ⟨J,I⟩ | ⟨o2,K,J,I,h9⟩
    · exact key _ _ I (.inr ⟨o,b,y,Τ,(nQ B V h5).2⟩) (.inl ⟨J,Τ⟩)
    · exact key _ _ h9 (.inr ⟨o,b,y,Τ,(nQ B V h5).2⟩) (.inr ⟨o2,K,J,Τ,(nQ B V I).2⟩)
theorem Eo(h:Wp C H e s f g=θ a):∃p x,g=.s' p/\wB C s=μ/\C.E e=θ (x,1,.c')/\zU8 C x=μ/\
  ((f=.n'/\a=⟨[⟨(γ ([]:aC)+γ p)*1<=140737488355328,inferInstance⟩],.c' (.l' (γ H)),H++[.rw x 1 .c' ([]++p)],[]⟩)\/
   ∃(id:Nat) (l:aC),f=.l' id/\H[id]? =θ (.rw x 1 .c' l)/\a=⟨[⟨(γ l+γ p)*1<=140737488355328,inferInstance⟩],.c' (.l' (γ H)),jA H id (.dd (γ l))++[.rw x 1 .c' (l++p)],[(id,0,1)]⟩):=by
 unfold Wp at h;split at h
 ·rename_i p;unfold Th at h;have h:=dD h;have t:=h.1;have h:=h.2;split at h
  ·rename_i x b c;have h:=dD h;have n:=gO h.1;subst n;have h:=dD h.2;have k:=h.1;have h:=h.2;refine⟨p,x,Τ,t,c,k,?_⟩;split at h
   ·cases h;exact .inl ⟨Τ,Τ⟩
   ·rename_i id;split at h
    ·rename_i l d;cases h;refine .inr ⟨_,l,Τ,?_,Τ⟩;unfold yc at d;simp only at d;split at d
     ·rename_i q m;have t:=dD d;have j:=dD t.2;have i:=uA m j.2;rw[gA,gO t.1,gO j.1]at i;exact i
     ·cases d
    ·cases h
   ·cases h
  ·cases h
 ·cases h
theorem XY(h:zU8 C e=μ):(C.P.info? e).bind (·.zero)=θ (.int .u8 0):=by
 unfold zU8 at h;split at h
 ·rename_i i b;split at h
  ·rename_i a;rw[b];exact a
  ·cases h
 ·cases h
theorem Ws(hE:EOk C)(u:Rel C w0 S0 ρ S F w)(hn:C.nn=md.n){s:Ε}(hx:aU md F x=f.v ρ)(M:aU md F y=g.v ρ)(h:Wp C S.H t s f g=θ a)(T:Hx a.g)(Z:S.Fp a.m=μ):
  Step C md w0 S0 ρ S F w ⟨θ d,.call ⟨.builtin .append,#[x,y],#[t,s]⟩,ty,pos,Ψ,ι⟩ (St.set ⟨S.F,a.H,S.nb,S.al,a.m++S.m⟩ d a.v):=by
 intro X Q I R;have np:∀d2:Nat,(θ d)=θ d2->lU (.call ⟨.builtin .append,#[x,y],#[t,s]⟩)=μ->∀F2:Nat->ς,∃W,(χ (aU md F) (⟨θ d,.call ⟨.builtin .append,#[x,y],#[t,s]⟩,ty,pos,Ψ,ι⟩:Ι)).run C.P w=.ok (.value (F2 d2)) W:=λd2 _ h=>by cases h
 obtain⟨L,V,z⟩:=u.mem;obtain⟨J,e,rfl,O,A,K,q⟩:=Eo h;obtain⟨N,U,hf,a1⟩:=hE _ _ _ _ A;rcases q with⟨rfl,rfl⟩|⟨id,l,rfl,c,rfl⟩
 ·refine ZJ (Hp.lK V (Ty.c').enc e 1 ι) 0 ι ι 0 e [] J Τ N (Cw O) U (XY K) hx M T.1 λo' a' i w' E=> ?_;obtain⟨D,B⟩:=Kw (τ:=.c') (b:=1) (d:=d) u z E;exact R _ _ w' D B QI λd2 p k=>np d2 p k _
 ·obtain⟨G,r,Y,he⟩:=z.2 id _ c;subst he;have G:γ l=(ρ id).ln:=G;have j:aU md F x=.slice (ρ id).a (γ l) (ρ id).cap:=by rw[hx,G];rfl
  refine ZJ V id (ρ id).o (ρ id).a (ρ id).cap e l J Y N (Cw O) U (XY K) j M T.1 λo' a' i w' E=> ?_;obtain⟨D,B⟩:=Xf (τ:=.c') (b:=1) (d:=d) (m:=[(id,0,1)]) u z c E Z (λal q=>.inl (q 0 (wE.2 ⟨_,aF.2 Τ,Τ,dC _,Ib⟩)));exact R _ _ w' D B QI λd2 p k=>np d2 p k _
theorem RU(N:EOk C)(s:Rel C w0 S0 ρ S F w)(T:C.nn=md.n){c:SC}(r:aU md F y=g.v ρ)(h:Ct C S.H t (isZ x) c g=θ a)(G:Hx a.g):
  Step C md w0 S0 ρ S F w ⟨θ d,.makeSlice t x y,ty,pos,Ψ,ι⟩ (St.set ⟨S.F,a.H,S.nb,S.al,a.m++S.m⟩ d a.v):=by
 intro u Q q D;obtain⟨L,M,K⟩:=s.mem;unfold Ct at h;split at h
 ·rename_i e b p l;obtain⟨A,J,U,k⟩:=N _ _ _ _ l;have h:=dD h;have j:=h.1;have h:=h.2;split at h
  ·rename_i i E;cases h
   obtain⟨z,I⟩:=wD E ρ;rw[I]at r;obtain⟨kl,hx⟩:∃kl,aU md F x=.int kl 0:=by
    unfold isZ at j;split at j
    ·exact⟨_,Τ⟩
    ·cases j
   refine MQ (f:=p.enc) M e p.sz b kl z i A J k hx r G.1 λo c cap w' R=> ?_;obtain⟨P,O⟩:=Kw s K R;exact D _ _ w' P O QI λd2 V B=>by cases B
  ·cases h
 ·cases h
theorem Wr(g:Rel C w0 S0 ρ S F w){s e:Ε}{l:aC}(hx:aU md F x=str l)(n:C.P.underlying t=θ .string)(k:SB C s=θ e)(f:JU C e=μ):
  Step C md w0 S0 ρ S F w ⟨θ d,.convert t s x,ty,pos,Ψ,ι⟩ (St.set ⟨S.F,S.H++[.br (γ l) l],S.nb,S.al,[]++S.m⟩ d (.c' (.l' (γ S.H)))):=by
 intro j Q h p;obtain⟨L,v,u⟩:=g.mem;refine Jo v l e n (qu k) (oU8 f) hx λa cap w' b z=> ?_;have y:Rel C w0 S0 (Gf ρ (γ S.H) ⟨ι,a,cap,ν,γ l⟩) ⟨S.F,S.H++[.br (γ l) l],S.nb,S.al,[]++S.m⟩ F w':=zH (o:=.br (γ l) l) g u z (by show _=_;rw[nS]) Τ (λ_ _ f=>by cases f) rfl rfl;have c:Nx S ρ ⟨S.F,S.H++[.br (γ l) l],S.nb,S.al,[]++S.m⟩ (Gf ρ (γ S.H) ⟨ι,a,cap,ν,γ l⟩):=Lo (o:=.br (γ l) l) (m:=[]) g Τ Τ Τ Τ;refine p _ _ w' (vm y aC7 (λi q=> ?_)) ⟨⟨c.nb,c.al,c.le⟩,c.lg,c.mm⟩ QI λd2 r _=>⟨w',?_⟩
 ·have:i=γ S.H:=aF.1 q;subst this;simp
 ·cases r;rw[vu];exact b
end
open Go.Wk
open Go.Ce (Tr)
open Nat renaming beq → cT
section
variable{C:Cx}{md:Md}{w0 w:φ}{S0:δ Nat}{ρ:Nat->Ad}{S:St}{F:Nat->ς}
variable{ty:Ε}{pos:String}{Ψ:Array Edge}
variable{a:ε Nat}{v:SV}
theorem FN(h:Oa a v=μ)(b:v≠.u'):∃d,a=θ d:=by
 cases a with
 |some d=>exact⟨d,Τ⟩
 |none=>cases v<;>first|exact absurd Τ b|cases h
variable{c:Op}{b:Ro}
theorem Vn(g:Rel C w0 S0 ρ S F w)(h:vB C md ρ S F w c b.v/\b.H=S.H/\b.m=[])(f:Oa a b.v=μ):Step C md w0 S0 ρ S F w ⟨a,c,ty,pos,Ψ,ι⟩ (St.wU ⟨S.F,b.H,S.nb,S.al,b.m++S.m⟩ a b.v):=by obtain⟨l,j,i⟩:=h;obtain⟨d,rfl⟩:=FN f (λe=>by obtain⟨_,u,k,_⟩:=l;rw[e]at k;cases k);rw[j,i];exact T2 g l
theorem zm{S2:Nat->St}(f:Oa a v=μ)(g:v≠.u')(h:∀d,Step C md w0 S0 ρ S F w ⟨θ d,c,ty,pos,Ψ,ι⟩ (S2 d)){b:St}(e:∀d,a=θ d->S2 d=b):Step C md w0 S0 ρ S F w ⟨a,c,ty,pos,Ψ,ι⟩ b:=by obtain⟨d,rfl⟩:=FN f g;rw[<-e d rfl];exact h d
theorem Oq{b:Type}{a:Array b}{l:δ b}(h:a.toList=l):a=l.toArray:=by rw[<-h]
theorem KV(I:EOk C)(j:C.nn=md.n)(i:Rel C w0 S0 ρ S F w){m:Builtin}{eV:Array Β}{D:Array Ε}(h:LG C (S.ev C) S.H m eV.toList D.toList=θ b)(G:Hx b.g)(E:S.Fp b.m=μ)(u:Oa a b.v=μ):
  Step C md w0 S0 ρ S F w ⟨a,.call ⟨.builtin m,eV,D⟩,ty,pos,Ψ,ι⟩ (St.wU ⟨S.F,b.H,S.nb,S.al,b.m++S.m⟩ a b.v):=by
 unfold LG at h;split at h
 ·rename_i x t s z;obtain rfl:=Oq s;obtain rfl:=Oq z;obtain⟨g,v,B,rfl⟩:=HJ h;obtain⟨c,q,p⟩:=lC B;obtain⟨o,f⟩:=nQ i j q;exact Vn i ⟨len_ok i f o p,Τ,Τ⟩ u
 ·rename_i x y t t2 s z;obtain rfl:=Oq s;obtain rfl:=Oq z;cases k:cT t t2 with
  |true=>
   rw[k]at h;have J:=gO k;subst J;obtain⟨r,q,p⟩:=lC h;obtain⟨c,o,f⟩:=lC p;have A:b.v≠.u':=by
    intro e;unfold rN at f;split at f
    ·split at f
     ·split at f
      ·cases f;cases e
      ·cases f
     ·split at f
      ·cases f;cases e
      ·cases f
     ·split at f
      ·cases f;cases e
      ·cases f
     ·cases f
    ·cases f
   exact zm u A (λd=>step_append (d:=d) I i j (nQ i j q).2 (nQ i j o).2 f G E) (λd e=>by rw[e];rfl)
  |false=>
   rw[k]at h;obtain⟨r,q,p⟩:=lC h;obtain⟨c,o,f⟩:=lC p;have A:b.v≠.u':=by intro e;obtain⟨L,z,_,_,_,_,K⟩:=Eo f;rcases K with⟨_,rfl⟩|⟨id,l,_,_,rfl⟩<;>cases e
   exact zm u A (λd=>Ws (d:=d) I i j (nQ i j q).2 (nQ i j o).2 f G E) (λd e=>by rw[e];rfl)
 ·rename_i x y _ s _;obtain rfl:=Oq s;obtain⟨g,v,B,rfl⟩:=HJ h;obtain⟨r,q,p⟩:=lC B;obtain⟨c,o,f⟩:=lC p;exact Vn i ⟨mm_ok (nQ i j q).2 (nQ i j o).2 f,Τ,Τ⟩ u
 ·cases h
theorem oe(hE:EOk C)(r:C.nn=md.n)(p:Rel C w0 S0 ρ S F w){op:Op}(h:iF C (S.ev C) S.H op=θ b)(D:Hx b.g)(hm:S.Fp b.m=μ)(q:Oa a b.v=μ):
  Step C md w0 S0 ρ S F w ⟨a,op,ty,pos,Ψ,ι⟩ (St.wU ⟨S.F,b.H,S.nb,S.al,b.m++S.m⟩ a b.v):=by
 cases op<;>first|cases h|skip
 case move x=>exact Vn p (iz r p (op:=.move x) rfl h D w) q
 case assign x=>exact Vn p (iz r p (op:=.assign x) rfl h D w) q
 case binOp H t x y t'=>exact Vn p (iz r p (op:=.binOp H t x y t') rfl h D w) q
 case unOp u t x=>exact Vn p (iz r p (op:=.unOp u t x) rfl h D w) q
 case index t x Q=>exact Vn p (iz r p (op:=.index t x Q) rfl h D w) q
 case slice t x L M P=>
  cases J:wB C t with
  |true=>exact Vn p (iz r p (op:=.slice t x L M P) Τ (show(bif wB C t then iF C (S.ev C) S.H (.slice t x L M P)else ι)=θ b by rw[J];exact h) D w) q
  |false=>
   cases P with
   |some m=>cases h
   |none=>
    refine zm q (λe=> ?_) (λd=>od (d:=d) p r J h D) (λd e=>by rw[e];rfl);have h:(bif wB C t then La S.H (gH (S.ev C x) λK=>Gq (S.ev C) L λi=>Gq (S.ev C) M λj=>gr K i j)else gH (S.ev C x) λK=>Gq (S.ev C) L λi=>Gq (S.ev C) M λj=>Gp C S.H t K i j)=θ b:=h;rw[J]at h;obtain⟨c,I,E⟩:=lC (show gH (S.ev C x) (λK=>Gq (S.ev C) L λi=>Gq (S.ev C) M λj=>Gp C S.H t K i j)=θ b from h);have key:∀i j,Gp C S.H t c i j=θ b->False:=λi j T=>by obtain⟨id,e2,τ,l,_,_,_,_,_,V⟩:=Cs T;rcases V with⟨H,k,_,_,_,rfl⟩|⟨H,k,_,_,_,rfl⟩<;>cases e
    rcases XK E with⟨B,G⟩|⟨o,H,B,G,Y⟩
    ·rcases XK G with⟨X,N⟩|⟨o2,b2,X,N,W⟩
     ·exact key _ _ N
     ·exact key _ _ W
    ·rcases XK Y with⟨X,N⟩|⟨o2,b2,X,N,W⟩
     ·exact key _ _ N
     ·exact key _ _ W
 case extract x i=>exact Vn p (iz r p (op:=.extract x i) rfl h D w) q
 case field t x f=>exact Vn p (iz r p (op:=.field t x f) rfl h D w) q
 case build t O=>exact Vn p (iz r p (op:=.build t O) rfl h D w) q
 case fieldAddr t x f=>exact Vn p (iz r p (op:=.fieldAddr t x f) rfl h D w) q
 case pick c K H=>
  obtain⟨x,I,E⟩:=lC (show gH (S.ev C c) (λx=>match x with
   |.b' t=>mI S.H (match(bif t then S.ev C K else S.ev C H)with
    |.u'=>ι
    |v=>θ v)
   |_=>ι)=θ b from h)
  split at E
  ·rename_i t;obtain⟨v,A,rfl⟩:=jl E;obtain⟨B,u,G⟩:=Ye (ρ:=ρ) A;exact Vn p ⟨qo p r I B (λe=>by have e:v=.u':=e;subst e;cases G),rfl,rfl⟩ q
  ·cases E
 case convert s t x=>
  obtain⟨c,V,h⟩:=lC (show gH (S.ev C x) (Zc C S.H s t)=θ b from h);have hx:=(nQ p r V).2;unfold Zc at h;split at h
  ·rename_i e U;have A:=dD h;have B:=dD A.2;have G:=B.2;split at G
   ·rename_i l hl;cases G;exact Vn p ⟨ZY p hx U A.1 B.1 hl,Τ,Τ⟩ q
   ·cases G
  ·split at h
   ·rename_i l;split at h
    ·rename_i e U;have A:=dD h;have B:=dD A.2;cases B.2;exact zm q aA2 (λd=>Wr (d:=d) p hx (Cw A.1) U B.1) (λd e=>by rw[e];rfl)
    ·obtain⟨g,v,A,rfl⟩:=HJ h;exact Vn p ⟨Zd hx A D,Τ,Τ⟩ q
   ·obtain⟨g,v,A,rfl⟩:=HJ h;exact Vn p ⟨Zd hx A D,Τ,Τ⟩ q
 case alloc e=>
  have Z:=h;have h:(match zC C e with
   |some z=>θ (Ro.mk [] (.c' (.p' (γ S.H) 0)) (S.H++[.bl e z]) [])
   |none=>ι)=θ b:=h
  split at h
  ·cases h;exact zm q aA2 (λd=>IE (d:=d) p Z) (λd e=>by rw[e];rfl)
  ·cases h
 case box e x=>
  have Z:=h;have h:(match(S.ev C x).cells with
   |some cs=>θ (Ro.mk [] (.c' (.p' (γ S.H) 0)) (S.H++[.bl e cs]) [])
   |none=>ι)=θ b:=h
  split at h
  ·cases h;exact zm q aA2 (λd=>T3 (d:=d) p r Z) (λd e=>by rw[e];rfl)
  ·cases h
 case buildSlice t n O=>
  have R:b.v≠.u':=by
   intro e;have h:asu C (S.ev C) S.H t n O.toList=θ b:=h;unfold asu at h;split at h
   ·split at h
    ·have I:=dD h;have E:=dD I.2;have A:=E.2;split at A
     ·cases A;cases e
     ·cases A
    ·cases h
   ·cases h
  exact zm q R (λd=>Gk (d:=d) p r h) (λd e=>by rw[e];rfl)
 case load t x=>
  obtain⟨c,I,E⟩:=lC (show gH (S.ev C x) (λK=>kK C S.H t K)=θ b from h);exact Vn p (OK p (nQ p r I).2 E D) q
 case store t x y=>
  obtain⟨I,E⟩:=ID (ty:=ty) (pos:=pos) (Ψ:=Ψ) p r h D hm;rw[E]at q⊢;cases a with
  |none=>exact I
  |some d=>cases q
 case indexAddr t x Q=>
  obtain⟨K,I,E⟩:=lC (show gH (S.ev C x) (λK=>gH (S.ev C Q) λi=>zu C S.H t K i)=θ b from h);obtain⟨c,A,B⟩:=lC E;obtain⟨G,Y⟩:=nQ p r I;exact Vn p (Ym p Y G (nQ p r A).2 B D) q
 case makeSlice t x y=>
  obtain⟨K,I,E⟩:=lC (show gH (S.ev C x) (λK=>gH (S.ev C y) λi=>Ct C S.H t (isZ x) K i)=θ b from h);obtain⟨c,A,B⟩:=lC E;have R:b.v≠.u':=by
   intro e;unfold Ct at B;split at B
   ·have G:=(dD B).2;split at G
    ·cases G;cases e
    ·cases G
   ·cases B
  exact zm q R (λd=>RU (d:=d) hE p r (nQ p r A).2 B D) (λd e=>by rw[e];rfl)
 case makeFunc f K H=>
  obtain⟨v,I,rfl⟩:=jl h;exact Vn p ⟨tu p r I,Τ,Τ⟩ q
 case nilCheck x=>
  obtain⟨c,I,E⟩:=lC (show gH (S.ev C x) (λK=>mI S.H (DF K))=θ b from h);obtain⟨v,A,rfl⟩:=jl E;obtain⟨B,G⟩:=nQ p r I;exact Vn p ⟨nil_ok G B A,Τ,Τ⟩ q
 case call c=>
  obtain⟨a0,eV,ts⟩:=c;cases a0<;>first|cases h|skip
  exact KV hE r p h D hm q
end
open Go.Wk
open Go.Ce (Tr)
open Nat renaming one_pos → Ib
def Eqv(ρ b:Nat->Ad):Ob->Ob->Prop
 |.bl e cs,d=>∃a,d=.bl e a/\cs.map (SC.v ρ)=a.map (SC.v b)/\∀(j:Nat) (c f),cs[j]? =θ c->a[j]? =θ f->c.kn=f.kn
 |o,d=>d=o
structure LR (ρ cS:Nat->Ad) (a b:List SC×List Ob):Prop where
 c:a.1.map (SC.v ρ)=b.1.map (SC.v cS)
 p:(oH a.1).map (λid=>(ρ id).b)=(oH b.1).map (λid=>(cS id).b)
 o:∀(j:Nat) (o:Ob),a.2[j]? =θ o->∃o2,b.2[j]? =θ o2/\Eqv ρ cS o o2
variable{t:Ty}{s:Nat}
theorem bs{n b d:Nat}{x:t.T}{j:Nat}{c a:SC}(h:(t.lay s n x).1[j]? =θ c)(e:(t.lay b d x).1[j]? =θ a):c.kn=a.kn:=by rw[(Ty.Dd t s n x c (aL h)).1,(Ty.Dd t b d x a (aL e)).1]
theorem OM:∀(t:Ty) (s n i g) x (ρ d),(t.tz=μ->(ρ s).b=(d i).b)->(∀j,j<t.no->ρ (n+j)=d (g+j))->LR ρ d (t.lay s n x) (t.lay i g x):=by
 intro t;induction t with
 |w' t y=>intro s n i g x ρ d r m;exact y s n i g x ρ d r m
 |pr a b A z=>
  intro s n i g x ρ d r m;have u:=A s n i g x.1 ρ d (λh=>r (by simp[Ty.tz,h])) (λj B=>m j (by show j<a.no+b.no;omega));have w:=z s (n+a.no) i (g+a.no) x.2 ρ d (λh=>r (by simp[Ty.tz,h])) (λj B=>by have:=m (a.no+j) (by show a.no+j<a.no+b.no;omega);rw[Cb,Cb];exact this);refine⟨?_,?_,λj o f=> ?_⟩
  ·show((a.lay s n x.1).1++(b.lay s _ x.2).1).map _=((a.lay i g x.1).1++(b.lay i _ x.2).1).map _;rw[Ru,Ru,u.c,w.c]
  ·show(oH ((a.lay s n x.1).1++(b.lay s _ x.2).1)).map _=(oH ((a.lay i g x.1).1++(b.lay i (g+a.no) x.2).1)).map _;rw[zQ,zQ,Ru,Ru,u.p,w.p]
  ·have f:((a.lay s n x.1).2++(b.lay s _ x.2).2)[j]? =θ o:=f;show∃C,((a.lay i g x.1).2++(b.lay i (g+a.no) x.2).2)[j]? =θ C/\_;have E:=a.eD s n x.1;have D:=a.eD i g x.1;by_cases B:j<a.no
   ·rw[aI aA0]at f⊢;exact u.o j o f
   ·rw[aM aA0]at f⊢;rw[E]at f;rw[D];exact w.o _ o f
 |l' e b t y=>
  intro s n i g x ρ d r m;have q:=m 0 Ib;rw[Rt]at q;refine⟨by simp[Ty.lay,SC.v,q],Τ,λj o f=>⟨o,f,?_⟩⟩;cases j with
  |zero=>have:Ob.rw e b t x=o:=aP f;subst this;rfl
  |succ j=>simp[Ty.lay]at f
 |y'=>
  intro s n i g x ρ d r m;have q:=m 0 Ib;rw[Rt]at q;refine⟨by simp[Ty.lay,SC.v,q],Τ,λj o f=>⟨o,f,?_⟩⟩;cases j with
  |zero=>have:Ob.br (γ x) x=o:=aP f;subst this;rfl
  |succ j=>simp[Ty.lay]at f
 |r' t y=>
  intro s n i g x ρ d r m;have q:=m 0 Ib;rw[Rt]at q;refine⟨by simp[Ty.lay,SC.v,q],Τ,λj o f=>⟨o,f,?_⟩⟩;cases j with
  |zero=>have:Ob.ro t x=o:=aP f;subst this;rfl
  |succ j=>simp[Ty.lay]at f
 |p' e t y=>
  intro s n i g x ρ d r m;have q:=m 0 (Nat.succ_pos _);rw[Rt,Rt]at q;have u:=y n (n+1) g (g+1) x ρ d (λ_=>by rw[q]) (λj B=>by have:=m (j+1) (by show j+1<t.no+1;omega);rw[Pm,Pm g];exact this);refine⟨by simp[Ty.lay,SC.v,q],by simp[Ty.lay,oH,q],λj o f=> ?_⟩;cases j with
  |zero=>have:Ob.bl e (t.lay n _ x).1=o:=aP f;subst this;exact⟨_,Τ,_,Τ,u.c,λj c F h w=>bs h w⟩
  |succ j=>exact u.o j o f
 |z'=>
  intro s n i g x ρ d r m;have q:=m 0 Ib;rw[Rt]at q;refine⟨by simp[Ty.lay,SC.v,q,r rfl],Τ,λj o f=>⟨o,f,?_⟩⟩;cases j with
  |zero=>have:Ob.dd 0=o:=aP f;subst this;rfl
  |succ j=>simp[Ty.lay]at f
 |f' k t y=>
  intro s n i g x ρ d r m;have u:=y s n i g x ρ d r m;refine⟨?_,Τ,u.o⟩;have:=u.p;have w:∀(ρ:Nat->Ad) (l:δ Nat),(l.map λid=>iM (ρ id).b 0)=(l.map λid=>(ρ id).b).map (λb=>iM b 0):=λρ l=>by rw[tP];rfl
  show [Λ _ #[] ((oH (t.lay s n x).1).map λid=>iM (ρ id).b 0).toArray]=[Λ _ #[] ((oH (t.lay i g x).1).map λid=>iM (d id).b 0).toArray];rw[w,w,this]
 |sm a b _ _=>intro s n i g x ρ d r m;exact⟨Τ,Τ,λj o f=>by simp[Ty.lay]at f⟩
 |_=>intro s n i g x ρ d r m;exact⟨Τ,Τ,λj o f=>by simp[Ty.lay]at f⟩
theorem bq:∀(t:Ty) (s n) x,t.nb=μ->∀(j:Nat) e l,(t.lay s n x).2[j]? ≠θ (.ro e l):=by
 intro t;induction t with
 |w' t d=>intro s n x h;exact d s n x h
 |pr a b i g=>
  intro s n x h j e l c;have h:=gY h;have c:((a.lay s n x.1).2++(b.lay s _ x.2).2)[j]? =θ _:=c;by_cases m:j<γ (a.lay s n x.1).2
  ·rw[aI m]at c;exact i _ _ _ h.1 _ _ _ c
  ·rw[aM aA0]at c;exact g _ _ _ h.2 _ _ _ c
 |p' e t d=>
  intro s n x h j f l c;cases j with
  |zero=>cases aP c
  |succ j=>exact d _ _ _ h j f l c
 |f' k t d=>intro s n x h;exact d s n x h
 |r' t d=>intro s n x h;cases h
 |l' e b t d=>
  intro s n x h j f l c;cases j with
  |zero=>cases aP c
  |succ j=>simp[Ty.lay]at c
 |y'=>
  intro s n x h j f l c;cases j with
  |zero=>cases aP c
  |succ j=>simp[Ty.lay]at c
 |z'=>
  intro s n x h j f l c;cases j with
  |zero=>cases aP c
  |succ j=>simp[Ty.lay]at c
 |_=>intro s n x h j e l c;simp[Ty.lay]at c
theorem Y1{H:δ Ob}(A:LN H):∀(l:δ Ty) (vs:δ SV) (a:(fK l).T) (ss:δ Src) (d:δ Ob),NW H l vs=θ (a,ss)->
  ∃obs,(iT d l a).2=d++obs/\γ obs=γ ss/\(∀v∈(iT d l a).1,v.ok (γ d+γ obs))/\(∀(j e:Nat) (cs:δ SC),obs[j]? =θ (.bl e cs)->∀c∈cs,c.ok (γ d+γ obs))/\
   ∀(ρ f:Nat->Ad),(∀(j:Nat) (s:Src),ss[j]? =θ s->f (γ d+j)=s.ad ρ)->
    (∃r:δ ς,vs.map (SV.v ρ)=r.map θ/\(iT d l a).1.map (SV.v f)=r.map θ)/\∀(j:Nat) (s:Src) (o:Ob),ss[j]? =θ s->obs[j]? =θ o->WS μ ρ H f s o
 |[],vs,a,ss,d,h=>by
  cases vs with
  |cons v vs=>cases h
  |nil=>cases h;exact⟨[],by simp[iT],Τ,λv k=>by simp[iT]at k,λj e cs g=>by simp at g,λρ f _=>⟨⟨[],Τ,Τ⟩,λj s o g=>by simp at g⟩⟩
 |[x],vs,a,ss,d,h=>by
  simp only[NW]at h;split at h
  ·rename_i v;have k:=Xi A h;refine⟨(x.lay 0 (γ d) a).2,Τ,by rw[k.no,Ty.eD],λv q=> ?_,λj e cs g=>vi x 0 (γ d) a j e cs g,λρ f m=> ?_⟩
   ·rw[aF.1 (show v∈[x.sv (x.lay 0 (γ d) a).1]from q)];exact Ty.Fj (bfw x 0 (γ d) a k.tz)
   ·obtain⟨⟨u,F,C,_⟩,B⟩:=k.to ρ f (γ d) m;exact⟨⟨[u],by simp[F],by simp[iT,C]⟩,B⟩
  ·cases h
 |x::y::l,vs,a,ss,d,h=>by
  simp only[NW]at h;split at h
  ·rename_i v vs;split at h
   ·rename_i i G hx;split at h
    ·rename_i b J K;cases h;have k:=Xi A hx;have z:γ (x.lay 0 (γ d) i).2=γ G:=by rw[k.no,Ty.eD]
     obtain⟨obs,F,C,B,Q,P⟩:=Y1 A (y::l) vs b J (d++(x.lay 0 (γ d) i).2) K;have p:γ (d++(x.lay 0 (γ d) i).2)=γ d+γ (x.lay 0 (γ d) i).2:=cR;refine⟨(x.lay 0 (γ d) i).2++obs,by rw[<-nW];exact F,by simp[z,C],λv q=> ?_,λj e cs g c I=> ?_,λρ f m=> ?_⟩
     ·rw[cR,<-Cb,<-p];rcases aQ.1 (show v∈x.sv (x.lay 0 (γ d) i).1::(iT (d++(x.lay 0 (γ d) i).2) (y::l) b).1 from q)with rfl|q
      ·exact SV.cQ (Ty.Fj (bfw x 0 (γ d) i k.tz)) aA0
      ·exact B v q
     ·rw[cR,<-Cb,<-p];by_cases n:j<γ (x.lay 0 (γ d) i).2
      ·rw[aI n]at g;exact SC.cQ (vi x 0 (γ d) i j e cs g c I) aA0
      ·rw[aM aA0]at g;exact Q _ e cs g c I
     ·obtain⟨⟨u,O,N,_⟩,M⟩:=k.to ρ f (γ d) (λj s g=>m j s (by rw[aI (aE.1 g).1];exact g));obtain⟨⟨r,L,E⟩,D⟩:=P ρ f (λj s g=>by rw[p,z,Cb];exact m _ s (by rw[aM aA0,<-g];congr 1;omega));refine⟨⟨u::r,by simp[O,L],?_⟩,λj s o t w=> ?_⟩
      ·show(x.sv (x.lay 0 (γ d) i).1::(iT (d++(x.lay 0 (γ d) i).2) (y::l) b).1).map _=_;rw[qO,N,E];rfl
      ·by_cases n:j<γ G
       ·rw[aI n]at t;rw[aI aA0]at w;exact M j s o t w
       ·rw[aM aA0]at t;rw[aM aA0,z]at w;exact D _ s o t w
    ·cases h
   ·cases h
  ·cases h
def iN(c:wH)(x:(fK c.a).T):δ Ob:=(iT [] c.a x).2
def Hi(outs:δ Nat):δ Ob->Nat->δ Nat
 |[],_=>[]
 |o::a,j=>(bif wA (θ o)then(bif lB j outs then []else [j])else [])++Hi outs a (j+1)
structure Br where
 gs:List (Nat×Ob)
 p:φ->List Nat->Prop
 st:∀{w0 w:φ} {S0 S1:List Nat} {L:List cL},Hp w0 S0 L w->p w0 S0->(∀b∈S1,w0.heap.size<=b\/b∈S0)->p w S1
 rd:∀{w:φ} {S:List Nat} {g:Nat} {t:Ty} {l:List t.T},p w S->(g,.ro t l)∈gs->Rd w (θ ⟨g,0,ι⟩) (l.flatMap t.enc)/\g∉S
def Gw(G:Br)(w:φ)(S:δ Nat):Prop:=G.p w S
variable{a:Type}
def Gv.ok:Gv a->a->Prop
 |.one o,y=>o=θ y
 |.gs l z,y=>Hx l/\z=y
theorem Nr{ρ:Type}{x:ε ρ}{r:ρ}:∀{l:δ PD},gdL l x=θ r->Hx l/\x=θ r
 |[],h=>⟨trivial,h⟩
 |⟨p,e⟩::l,h=>by obtain⟨d,c⟩:=ee h;obtain⟨b,a⟩:=Nr c;exact⟨⟨d,b⟩,a⟩
theorem Gv.vr{ρ:Type}{g:Gv a}{k:a->ε ρ}{r:ρ}(h:g.bd k=θ r):∃y,g.ok y/\k y=θ r:=by
 cases g with
 |one o=>obtain⟨y,b,c⟩:=Bf (h);exact⟨y,b,c⟩
 |gs l z=>obtain⟨b,c⟩:=Nr (h);exact⟨z,⟨b,Τ⟩,c⟩
def jV(c:wH)(x:(fK c.a).T)(y:(fS c.r).T):δ SA×δ Ob:=fT (λj=>j) ([],kill (iN c x) (Hi (Rk.ids c.r) (iN c x) 0)) c.r y
def Qd(P:Θ)(i:Br)(k:Nat)(c:wH):Prop:=∀w S d L e x y,Gw i w S->Hp w S L w->Mt w S d (iN c x) L->
 (iT [] c.a x).1.map (SV.v d)=e.map θ->(c.f x).ok y->CR P k e w λv h=>∃b g,Up (γ (iN c x)) d b/\Hp w S g h/\Mt w S b (jV c x y).2 g/\(kH (jV c x y).1).v b=θ v
theorem Bc{outs:δ Nat}:∀{obs:δ Ob}{i j:Nat},j∈Hi outs obs i↔∃o,i<=j/\obs[j-i]? =θ o/\wA (θ o)=μ/\j∉outs
 |[],i,j=>by simp[Hi]
 |o::obs,i,j=>by
  have l:=Bc (outs:=outs) (obs:=obs) (i:=i+1) (j:=j);simp only[Hi,aZ,l];constructor
  ·rintro(h|⟨c,n,b,d⟩)
   ·cases f:wA _ with
    |false=>rw[f]at h;cases h
    |true=>
     rw[f]at h;cases a:lB i outs with
     |true=>rw[a]at h;cases h
     |false=>rw[a]at h;simp at h;subst h;exact⟨o,dC _,aA2,f,λm=>by rw[Vl.2 m]at a;cases a⟩
   ·refine⟨c,aA0,?_,d⟩;rw[show j-i=(j-(i+1))+1 by omega];exact b
  ·rintro⟨c,n,b,d,k⟩;by_cases g:i=j
   ·subst g;have e:o=c:=by simpa using b
    subst e;have a:lB i outs=ν:=by
     cases a:lB i outs with
     |false=>rfl
     |true=>exact absurd (Vl.1 a) k
    rw[d,a];simp
   ·right;refine⟨c,aA0,?_,d,k⟩;rw[show j-i=(j-(i+1))+1 by omega]at b;exact b
theorem Ei{outs:δ Nat}:∀{obs:δ Ob}{ss:δ Src}{i id:Nat},id∈kL outs obs i ss↔∃j o s,i<=j/\obs[j-i]? =θ o/\ss[j-i]? =θ s/\wA (θ o)=μ/\j∉outs/\id∈s.own
 |[],ss,i,id=>by simp[kL]
 |o::obs,[],i,id=>by simp[kL]
 |o::obs,s::ss,i,id=>by
  have p:=Ei (outs:=outs) (obs:=obs) (ss:=ss) (i:=i+1) (id:=id);simp only[kL,aZ,p];constructor
  ·rintro(h|⟨j,f,d,r,c,b,g⟩)
   ·cases k:wA _ with
    |false=>rw[k]at h;cases h
    |true=>
     rw[k]at h;cases a:lB i outs with
     |true=>rw[a]at h;cases h
     |false=>rw[a]at h;exact⟨i,o,s,dC _,aA2,aA2,k,(λq=>by rw[Vl.2 q]at a;cases a),h⟩
   ·refine⟨j,f,d,aA0,?_,?_,g⟩
    ·rw[show j-i=(j-(i+1))+1 by omega];exact c
    ·rw[show j-i=(j-(i+1))+1 by omega];exact b
  ·rintro⟨j,f,d,r,c,b,g,n,m⟩;by_cases l:i=j
   ·subst l;left;have e:o=f:=aC6;have t:s=d:=aC2
    subst e;subst t;have a:lB i outs=ν:=by
     cases a:lB i outs with
     |false=>rfl
     |true=>exact absurd (Vl.1 a) n
    rw[g,a];exact m
   ·right;refine⟨j,f,d,aA0,?_,?_,g,n,m⟩
    ·rw[show j-i=(j-(i+1))+1 by omega]at c;exact c
    ·rw[show j-i=(j-(i+1))+1 by omega]at b;exact b
open Nat renaming beq → cT, one_pos → Ib
structure PR (n nc:Nat) (H:List Ob) (ρ cS ρ3:Nat->Ad) (ss:List Src) (rg:List Rg) (Hc Hk:List Ob) (lc lk:List SA) (k:Nat):Prop where
 ec:γ Hc=nc+k
 ek:γ Hk=n+k
 nw:∀(i:Nat) (o:Ob),i<k->Hc[nc+i]? =θ o->(∃o3,Hk[n+i]? =θ o3/\Eqv cS ρ3 o o3)/\∀(t:Ty) (l:List t.T),o≠.ro t l
 ow:∀(j id:Nat) (o:Ob),ss[j]? =θ (.o' id μ)->Hc[j]? =θ o->(∃o3,Hk[id]? =θ o3/\Eqv cS ρ3 o o3)/\∀(t:Ty) (l:List t.T),o≠.ro t l
 ok:∀(j id m:Nat),ss[j]? =θ (.k' id m μ)->Hk[id]? =θ (.dd 0)
 ot:∀id,id<n->id∉gQ ss->Hk[id]? =H[id]?
 ho:∀(id e:Nat) (cs:List SC),Hk[id]? =θ (.bl e cs)->∀c∈cs,c.ok (n+k)
 kp:∀(id:Nat) (o:Ob),H[id]? =θ o->kT rg id ρ ρ3 Hk[id]? o
 vl:lc.map (SA.v cS)=lk.map (SA.v ρ3)
 vo:∀v∈lk,v.ok (n+k)
theorem Eqv.len{ρ cS:Nat->Ad}{o a:Ob}(h:Eqv ρ cS o a):a.len=o.len:=by
 cases o with
 |bl e cs=>obtain⟨b,rfl,_⟩:=h;rfl
 |_=>have h:=h;rw[h]
theorem sa_rel{ρ cS:Nat->Ad}{a b:δ SC}(h:a.map (SC.v ρ)=b.map (SC.v cS)):(t.sa a).v ρ=(t.sa b).v cS:=by
 unfold Ty.sa;cases t.agg with
 |true=>simp only[aO,SA.v,h]
 |false=>
  simp
  match a,b,h with
  |[],[],_=>rfl
  |[t],[y],h=>simpa [SA.v] using h
  |t::y::a,u::v::b,h=>simp only[SA.v,h]
  |[],_::_,h=>simp at h
  |_::_,[],h=>simp at h
  |[_],_::_::_,h=>simp at h
  |_::_::_,[_],h=>simp at h
theorem RE:∀{x:Ty}{v:x.T}{o:Ob},nk s x v=θ o->(∀t l,o≠.ro t l)/\∀e cs,o≠.bl e cs:=by intro x;cases x<;>intro v o h<;>first|(cases h;exact⟨(λt l e=>by cases e),(λe cs a=>by cases a)⟩)|cases h
theorem yl{b:Src}(h:b.ow=θ s):b=.o' s μ\/∃m,b=.k' s m μ:=by
 cases b with
 |o' i w=>cases w<;>simp[Src.ow]at h;subst h;exact .inl Τ
 |n'=>simp[Src.ow]at h
 |k' i m w=>cases w<;>simp[Src.ow]at h;subst h;exact .inr ⟨m,Τ⟩
 |z' t=>simp[Src.ow]at h
section
variable{n nc:Nat}{H:δ Ob}{ρ cS ρ3:Nat->Ad}{ss:δ Src}{rg:δ Rg}{Hc Hk:δ Ob}{lc lk:δ SA}{k:Nat}
theorem PR.app(h:PR n nc H ρ cS ρ3 ss rg Hc Hk lc lk k)(E:γ ss<=nc)(hid:∀(j:Nat) s i,ss[j]? =θ s->s.ow=θ i->i<n)(F:γ H=n){a b:δ SC×δ Ob}(u:LR cS ρ3 a b)(C:γ a.2=γ b.2)
  (q:∀(j:Nat) t l,a.2[j]? ≠θ (.ro t l)) (p:∀(j e:Nat) cs,b.2[j]? =θ (.bl e cs)->∀c∈cs,c.ok (n+(k+γ b.2))):
  PR n nc H ρ cS ρ3 ss rg (Hc++a.2) (Hk++b.2) lc lk (k+γ b.2):=by
 have z:=h.ec;have y:=h.ek;refine⟨by simp[z,C,Cb],by simp[y,Cb],λi o g d=> ?_,λj id o f d=> ?_,λj id m f=> ?_,λid g B=> ?_,λid e cs d c w=> ?_,λid o d=> ?_,h.vl,λv A=> ?_⟩
 ·by_cases r:i<k
  ·rw[aI aA0]at d⊢;exact h.nw i o r d
  ·rw[aM aA0,z,show nc+i-(nc+k)=i-k by omega]at d;rw[aM aA0,y,show n+i-(n+k)=i-k by omega];exact⟨u.o _ o d,λt l e=>q _ t l (by rw[d,e])⟩
 ·have D:=(aE.1 f).1;have:=hid j _ id f Τ;rw[aI aA0]at d⊢;exact h.ow j id o f d
 ·have:=hid j _ id f Τ;rw[aI aA0];exact h.ok j id m f
 ·rw[aI aA0];exact h.ot id g B
 ·by_cases g:id<γ Hk
  ·rw[aI g]at d;exact SC.cQ (h.ho id e cs d c w) aA0
  ·rw[aM aA0]at d;exact p _ e cs d c w
 ·have:=(aE.1 d).1;rw[aI aA0];exact h.kp id o d
 ·have:=h.vo v A;cases v with
  |c' x=>exact SC.cQ this aA0
  |a' l=>exact λx hx=>SC.cQ (this x hx) aA0
theorem PR.cY(h:PR n nc H ρ cS ρ3 ss rg Hc Hk lc lk k)(B:(gQ ss).Nodup)(hid:∀(j:Nat) s i,ss[j]? =θ s->s.ow=θ i->i<n){j id:Nat}{o o3:Ob}(r:ss[j]? =θ (.o' id μ))(E:Eqv cS ρ3 o o3)(y:∀t l,o≠.ro t l)(z:∀A,H[id]? =θ A->kT rg id ρ ρ3 (θ o3) A)(I:γ ss<=nc)
  (x:∀e cs,o3=.bl e cs->∀c∈cs,c.ok (n+k)):PR n nc H ρ cS ρ3 ss rg (jA Hc j o) (jA Hk id o3) lc lk k:=by
 have G:=h.ec;have F:=h.ek;have J:=hid j _ id r Τ;have D:=(aE.1 r).1;refine⟨by rw[LA,G],by rw[LA,F],λi p u d=> ?_,λw a p b d=> ?_,λw a m b=> ?_,λa u v=> ?_,λa e cs d c C=> ?_,λa p d=> ?_,h.vl,h.vo⟩
 ·rw[xU,aA aA0]at d;rw[xU,aA aA0];exact h.nw i p u d
 ·by_cases q:w=j
  ·subst q;rw[r]at b;cases b;rw[xU,aB ⟨rfl,aA0⟩]at d;cases d;rw[xU,aB ⟨rfl,aA0⟩];exact⟨⟨o3,Τ,E⟩,y⟩
  ·have f:a≠id:=λe=>q (Ll B b (by rw[e];rfl) r Τ);rw[xU,aA (λg=>q g.1)]at d;rw[xU,aA (λg=>f g.1)];exact h.ow w a p b d
 ·have f:a≠id:=λe=>by have:=Ll B b (by rw[e];rfl) r Τ;subst this;rw[r]at b;cases b
  rw[xU,aA (λg=>f g.1)];exact h.ok w a m b
 ·have f:a≠id:=λe=>v (by rw[e];exact rM r Τ);rw[xU,aA (λg=>f g.1)];exact h.ot a u v
 ·rw[xU]at d;split at d
  ·cases d;exact x e cs Τ c C
  ·exact h.ho a e cs d c C
 ·rw[xU];split
  ·rename_i g;rw[g.1]at d⊢;exact z p d
  ·exact h.kp a p d
theorem PR.steps(hn:(gQ ss).Nodup)(R:γ ss<=nc)(hid:∀(j:Nat) s i,ss[j]? =θ s->s.ow=θ i->i<n)(hH:γ H=n)(b6:γ ss=nc)
  (O:∀i,ρ3 (n+i)=cS (nc+i)) (a3:∀j id,ss[j]? =θ (.o' id μ)->ρ3 id=cS j):∀r y (Hc Hk) (lc lk) k,PR n nc H ρ cS ρ3 ss rg Hc Hk lc lk k->Kp H ss r=μ->(∀id∈kJ ss (Rk.ids r),∀q,q=sS H id->∀j,j<q.2.2->eM id j rg=μ)->
  ∃F,PR n nc H ρ cS ρ3 ss rg (fT (λj=>j) (lc,Hc) r y).2 (fT (Is ss) (lk,Hk) r y).2 (fT (λj=>j) (lc,Hc) r y).1 (fT (Is ss) (lk,Hk) r y).1 F:=by
 have one:∀q v (Hc Hk) (lc lk) k,PR n nc H ρ cS ρ3 ss rg Hc Hk lc lk k->Kp H ss [q]=μ->(∀id∈kJ ss (Rk.ids [q]),∀q,q=sS H id->∀j,j<q.2.2->eM id j rg=μ)->
   ∃F,PR n nc H ρ cS ρ3 ss rg (q.put (λj=>j) (lc,Hc) v).2 (q.put (Is ss) (lk,Hk) v).2 (q.put (λj=>j) (lc,Hc) v).1 (q.put (Is ss) (lk,Hk) v).1 F:=by
  intro q v Hc Hk lc lk k h a b;have h1:=h.ec;have z:=h.ek;simp only[Kp]at a;have a:=(gY a).1;cases q with
  |r' x=>
   have a:(bif x.tz then ν else x.nb)=μ:=a;cases A:x.tz with
   |true=>rw[A]at a;cases a
   |false=>
    rw[A]at a;have a:=a;have m:=OM x 0 (γ Hc) 0 (γ Hk) v cS ρ3 (λe=>by rw[A]at e;cases e) (λj _=>by rw[h1,z,Cb,Cb];exact(O _).symm);have g:=h.app R hid hH m ((Ty.eD x 0 (γ Hc) v).trans (Ty.eD x 0 (γ Hk) v).symm) (bq x 0 (γ Hc) v a) (λj e cs L=>by have:=vi x 0 (γ Hk) v j e cs L;rw[z,Cb]at this;rw[z];exact this);refine⟨_,g.ec,g.ek,g.nw,g.ow,g.ok,g.ot,g.ho,g.kp,?_,λu G=> ?_⟩
    ·show(lc++[x.sa (x.lay 0 (γ Hc) v).1]).map _=(lk++[x.sa (x.lay 0 (γ Hk) v).1]).map _;rw[Ru,Ru,h.vl,mi,mi,sa_rel m.c]
    ·rcases aZ.1 (G)with G|G
     ·exact g.vo u G
     ·rw[aF.1 G];have:=Ty.sa_ok (x:=x) (bfw x 0 (γ Hk) v A);rw[<-Cb,<-z];exact this
  |o' j e x=>
   have a:(bif x.nb then(match fC ss j with
    |some (.o' id w)=>bif w then(match fC H id with
     |some (.bl S cs)=>bif cT S e then cT (γ cs) x.cn else ν
     |_=>ν)else ν
    |_=>ν)else ν)=μ:=a
   have a:=gY a;have W:=a.1;have a:=a.2;split at a
   ·rename_i id w f;have a:=gY a;have V:=a.1;subst V;have a:=a.2;split at a
    ·rename_i S c0 hb;have a:=gY a;rw[gA]at f hb;have a1:=gO a.1;have a4:=gO a.2;subst a1;have N:=hid j _ id f Τ;have X:=(aE.1 f).1;have p:Is ss j=id:=by unfold Is;rw[gA,f]
     have m:=OM x j (γ Hc) id (γ Hk) v cS ρ3 (λ_=>by rw[a3 j id f]) (λj _=>by rw[h1,z,Cb,Cb];exact(O _).symm);have K:∀c∈(x.lay id (γ Hk) v).1,c.ok (n+(k+γ (x.lay id (γ Hk) v).2)):=λc Q i a0=>by
      rcases(Ty.Dd x id (γ Hk) v c Q).2 i a0 with h3|h3
      ·omega
      ·omega
     have g:=h.app R hid hH m ((Ty.eD x j (γ Hc) v).trans (Ty.eD x id (γ Hk) v).symm) (bq x j (γ Hc) v W) (λj e cs L=>by have:=vi x id (γ Hk) v j e cs L;rw[z,Cb]at this;rw[z];exact this);have J:=g.cY (o:=.bl S (x.lay j (γ Hc) v).1) (o3:=.bl S (x.lay id (γ Hk) v).1) hn hid f ⟨_,Τ,m.c,λj c c2 h z=>bs h z⟩ (λt l e=>by cases e) (λU E=> ?_) R (λe cs he c Q=>by cases he;exact K c Q)
     ·refine⟨k+γ (x.lay id (γ Hk) v).2,?_⟩;have e1:∀{Z B:δ Ob} {i:Nat} {o:Ob},i<γ Z->jA (Z++B) i o=jA Z i o++B:=λhl=>by rw[oL,oL,kr _ _ hl]
      rw[e1 aA0,e1 aA0]at J;show PR n nc H ρ cS ρ3 ss rg _ (jA Hk _ _++(x.lay _ (γ Hk) v).2) lc lk _;rw[p];exact J
     ·rw[hb]at E;cases E;refine .inr ⟨_,Τ,(Ty.Yd x id (γ Hk) v).trans a4.symm,λjj c Q=>.inl ?_⟩;have Y:=(aE.1 Q).1;refine b id ?_ _ Τ jj ?_
      ·show id∈[Is ss j];rw[p];exact aF.2 Τ
      ·unfold sS;rw[gA,hb];exact Y
    ·cases a
   ·cases a
  |w' j x=>
   have a:(match fC ss j with
    |some (.o' id w)=>bif w then wA _ else ν
    |_=>ν)=μ:=a
   split at a
   ·rename_i id w f;have a:=gY a;have V:=a.1;subst V;have d:=a.2;rw[gA]at f d;have N:=hid j _ id f Τ;have X:=(aE.1 f).1;have p:Is ss j=id:=by unfold Is;rw[gA,f]
    have P:Hc[j]? =θ _:=aN aA0;obtain⟨⟨o3,h3,h4⟩,_⟩:=h.ow j id _ f P;have M:fL Hk id=fL Hc j:=by rw[mV h3,mV P,h4.len]
    refine⟨k,?_⟩;show PR n nc H ρ cS ρ3 ss rg (pX Hc j x v) (pX Hk (Is ss j) x v) lc lk k;rw[p];unfold pX;rw[M];split
    ·rename_i o L;have D:(∀(t:Ty) (l:δ t.T),o≠.ro t l)/\Eqv cS ρ3 o o/\∀(e:Nat) (cs:δ SC),o≠.bl e cs:=by
      obtain⟨h5,h6⟩:=RE L;refine⟨h5,?_,h6⟩;cases o with
      |bl e cs=>exact absurd Τ (h6 e cs)
      |_=>rfl
     refine h.cY hn hid f D.2.1 D.1 (λU E=> ?_) R (λe cs he=>absurd he (D.2.2 e cs));have a5:eM id 0 rg=μ:=by
      refine b id ?_ _ Τ 0 ?_
      ·show id∈[Is ss j];rw[p];exact aF.2 Τ
      ·unfold sS;rw[gA,E];rw[E]at d;cases U<;>first|exact Ib|cases d
     rw[E]at d;cases U<;>first|exact .inl a5|cases d
    ·exact h
   ·cases a
 intro r;induction r with
 |nil=>intro y Hc Hk lc lk k h _ _;exact⟨k,h⟩
 |cons q r ih=>
  intro y Hc Hk lc lk k h a b;cases r with
  |nil=>exact one q y Hc Hk lc lk k h a b
  |cons q2 r=>
   have I:=gY (a);have C:∀id,id∈kJ ss (Rk.ids [q])\/id∈kJ ss (Rk.ids (q2::r))->id∈kJ ss (Rk.ids (q::q2::r)):=by
    intro id hid;cases q with
    |r' x=>
     rcases hid with hid|hid
     ·cases hid
     ·exact hid
    |o' i e x=>
     rcases hid with hid|hid
     ·exact aQ.2 (.inl (aF.1 hid))
     ·exact gN _ hid
    |w' i x=>
     rcases hid with hid|hid
     ·exact aQ.2 (.inl (aF.1 hid))
     ·exact gN _ hid
   obtain⟨F,z⟩:=one q y.1 Hc Hk lc lk k h (by have:=I.1;simp only[Kp];rw[this];rfl) (λid N=>b id (C id (.inl N)));exact ih y.2 _ _ _ _ F z I.2 (λid N=>b id (C id (.inr N)))
end
open Go.Wk
open Go.Ce (Tr)
open Go.Value renaming ownBlock → Gi
open List renaming length → aR, range → Ic
theorem map_some{b a:Type}{f:b->a}{l:δ b}{j:Nat}{r:a}(h:(l.map f)[j]? =θ r):∃x,l[j]? =θ x/\f x=r:=by
 rw[aW]at h;cases c:l[j]? with
 |none=>rw[c]at h;cases h
 |some x=>rw[c]at h;exact⟨x,Τ,aP h⟩
variable{w b:φ}{S:δ Nat}{L:δ cL}{j c:Nat}{r:cL}
theorem an(p:Hp w S L b){t:Nat}{g:cL}(h:L[j]? =θ r)(q:L[c]? =θ g)(l:r.own=θ t)(a:g.own=θ t):j=c:=by
 obtain⟨d,n⟩:=aE.1 h;obtain⟨i,m⟩:=aE.1 q;have k:=dH.1 p.sep;rcases Nat.lt_trichotomy j c with e|o|f
 ·exact absurd (by rw[m];exact a) (k j c d i e t (by rw[n];exact l))
 ·exact o
 ·exact absurd (by rw[n];exact l) (k c j i d f t (by rw[m];exact a))
variable{a n:Nat->Ad}{H:δ Ob}{s:Src}{o:Ob}
theorem yi(h:WS μ a H n s o)(b:∀t l,o≠.ro t l):WS ν a H n s o:=by
 cases o with
 |ro t l=>exact absurd Τ (b t l)
 |_=>exact h
theorem BJ(c:LM a H)(d:LN H)(h:WS μ a H n s o):o.len=(s.ad a).ln:=by
 cases o with
 |ro t l=>
  rcases h with⟨id,rfl,f⟩|⟨rfl,rfl⟩|⟨_,id,m,e,cs,rfl,f,b⟩
  ·obtain⟨ob,b,g⟩:=Vj (λm x hx=>d id m x hx) (f);have:=c id ob b;show γ l=(a id).ln;rw[<-g];exact this
  ·rfl
  ·exact(ll b).1
 |_=>exact NB c d (yi h (λt l e=>by cases e))
theorem ro_any{S1:δ Nat}(h:RO w S a j o r)(ρ:∀t l,o≠.ro t l):RO b S1 a j o r:=by
 cases o with
 |ro t l=>exact absurd Τ (ρ t l)
 |_=>exact h
theorem og{S1:δ Nat}(ρ:Hp w S L b)(D:Mt w S a H L)(W:∀a0∈S1,w.heap.size<=a0\/a0∈S)(E:∀id∈s.bor,∀r a0,L[id]? =θ r->r.own=θ a0->a0∉S1)(h:WS μ a H n s o)(R:n j=s.ad a):
  ∃r,RO b S1 n j o r/\r.holds b/\∀a0,r.own=θ a0->∃i Q,s.ow=θ i/\L[i]? =θ Q/\Q.own=θ a0:=by
 cases o with
 |ro t l=>
  refine⟨dJ,⟨Τ,?_⟩,trivial,λa0 u=>by cases u⟩;rw[R];rcases h with⟨id,rfl,k⟩|⟨rfl,rfl⟩|⟨_,id,m,e,cs,rfl,k,J⟩
  ·have k:=k;have E:=E id (by simp[Src.bor]);show Vu b S1 (a id) t l;unfold Gd at k;split at k
   ·rename_i e a0 t2 x u;split at k
    ·rename_i q;obtain rfl:=Ty.jI q;cases k;obtain⟨_,r,c,N⟩:=D.2 id _ u;subst N;refine⟨ρ.cP id c,λd p f=> ?_,ρ.bZ id c⟩;have M:x≠[]:=λe=>by rw[e]at d;exact d Τ
     obtain⟨z,_⟩:=ρ.res _ (aL c);rcases z with⟨_,y,_⟩|⟨g,P,Z,y,_⟩
     ·exact absurd y M
     ·rw[f]at y;cases y;exact E _ _ c Z
    ·cases k
   ·rename_i t2 x u;split at k
    ·rename_i q;obtain rfl:=Ty.jI q;cases k;obtain⟨_,r,c,_,B,d,C⟩:=D.2 id _ u;refine⟨B.dj ρ d,λG p f O=> ?_,C⟩;have K:=d G p f;rcases W _ O with A|A
     ·obtain⟨v,U⟩:∃v,(x.flatMap t2.enc)[0]? =θ v:=by
       cases q:x.flatMap t2.enc with
       |nil=>exact absurd q G
       |cons v T=>exact⟨v,Τ⟩
      obtain⟨X,I,F⟩:=B 0 v U;rw[f]at I;cases I;have:=Bd F;rw[bgp]at this;omega
     ·exact K A
    ·cases k
   ·rename_i m x u;unfold strOf at k;split at k
    ·rename_i q;obtain rfl:=Ty.jI q;cases k;obtain⟨_,r,c,N⟩:=D.2 id _ u;subst N;obtain⟨⟨F,g,cap,P,e,Y,z,Z,y,_⟩,_⟩:=ρ.res _ (aL c);simp only[Value.slice.injEq]at z;refine⟨Rd.eE (ρ.eQ id c),λG p f=> ?_,?_⟩
     ·rw[z.1]at f;cases f;exact E _ g c (by simp[jX,Gi,z.1])
     ·show γ x<=(a id).cap;rw[F,z.2.2];exact y
    ·cases k
   ·cases k
  ·exact⟨Rd.nil _ _,λh=>absurd Τ h,eJ _⟩
  ·obtain⟨_,r,c,T,rfl,V⟩:=D.2 id _ k;obtain⟨A,_,I⟩:=ll J;have F:=V.all (rA J);refine⟨?_,λG p f=> ?_,by rw[A];exact dC _⟩
   ·rw[<-I a,<-F];exact ρ.gP id c
   ·cases f;exact E id (by simp[Src.bor]) _ _ c Τ
 |_=>obtain⟨r,k,J,A⟩:=T8 ρ D (yi h (λt l e=>by cases e)) R;exact⟨r,ro_any k (λt l e=>by cases e),J,A⟩
theorem yW(h:WS μ a H n s o)(d:s.ow=θ j):
  (s=.o' j μ/\((∃e cs ρ,o=.bl e cs/\H[j]? =θ (.bl e ρ)/\ρ.map (SC.v a)=cs.map (SC.v n)/\(∀c∈ρ,c.kn=μ)/\∀c∈cs,c.kn=μ)\/(∃e b t l,o=.rw e b t l/\H[j]? =θ (.rw e b t l))\/∃p l m,o=.br p l/\p=aR l/\H[j]? =θ (.br m l)))\/
  ∃m e b t l cs,s=.k' j m μ/\o=.rw e b t l/\H[j]? =θ (.bl e cs):=by
 cases o with
 |bl e cs=>obtain⟨i,ρ,rfl,f⟩:=h;cases d;exact .inl ⟨Τ,.inl ⟨e,cs,ρ,Τ,f⟩⟩
 |rw e b t l=>
  rcases h with⟨i,rfl,f⟩|⟨rfl,_⟩|⟨i,m,cs,rfl,f,_⟩
  ·cases d;exact .inl ⟨Τ,.inr (.inl ⟨e,b,t,l,Τ,f⟩)⟩
  ·cases d
  ·cases d;exact .inr ⟨m,e,b,t,l,cs,Τ,Τ,f⟩
 |ro t l=>rcases h with⟨i,rfl,_⟩|⟨rfl,_⟩|⟨_,i,m,e,cs,rfl,_⟩<;>cases d
 |br p l=>obtain⟨f,i,m,rfl,g⟩:=h;cases d;exact .inl ⟨Τ,.inr (.inr ⟨p,l,m,Τ,f,g⟩)⟩
 |dd p=>rcases h with⟨_,⟨t,rfl⟩|⟨k,rfl,_⟩⟩<;>cases d
theorem fa{S0:δ Nat}{o3:Ob}(h:Eqv a n o o3)(f:n c=a j)(u:∀t l,o≠.ro t l)(C:RO w S a j o r):RO b S0 n c o3 r:=by
 cases o with
 |bl e cs=>
  obtain⟨m,rfl,q,A⟩:=h;obtain⟨s,rfl,z,y⟩:=C;have x:aR cs=aR m:=by simpa using bM aR q
  refine⟨s,by rw[f],by rw[z,x],λi B g d=> ?_⟩;have v:=(aE.1 g).1;have k:cs[i]? =θ _:=aN aA0;rw[y i _ k (by rw[A i _ B k g];exact d)];have p:=bM (λl=>l[i]?) q;simp only[aW,k,g]at p;exact p
 |rw e E t l=>subst h;show r=_;rw[f];exact C
 |ro t l=>exact absurd Τ (u t l)
 |br D l=>subst h;show r=_;rw[f];exact C
 |dd D=>subst h;trivial
theorem iu{ss:δ Src}(h:ss[j]? =θ s)(b:c∈s.bor):c∈vd ss:=by
 induction ss generalizing j with
 |nil=>simp at h
 |cons x ss a=>
  cases j with
  |zero=>have e:x=s:=aA8;subst e;exact XU _ b
  |succ j=>exact XV _ (a aA8)
def rOf(L:δ cL):ε Nat->cL
 |some id=>(L[id]?).getD dJ
 |none=>dJ
variable{l:δ SA}
theorem X4{b:δ SA}{v:ς}(h:l.map (SA.v a)=b.map (SA.v n))(c:(kH l).v a=θ v):(kH b).v n=θ v:=by
 match l,b,h with
 |[],[],_=>exact c
 |[x],[y],h=>have h:x.v a=y.v n:=aA8;show y.sv.v n=θ v;rw[SA.oc,<-h,<-SA.oc];exact c
 |x::y::l,u::z::b,h=>show θ _=θ v;rw[<-h];exact c
 |[],_::_,h=>simp at h
 |_::_,[],h=>simp at h
 |[_],_::_::_,h=>simp at h
 |_::_::_,[_],h=>simp at h
theorem pz(h:∀v∈l,v.ok j):(kH l).ok j:=by
 match l,h with
 |[],_=>exact λx hx=>by cases hx
 |[x],h=>exact SA.Fj (h x iK)
 |x::y::l,h=>exact λz a=>h z a
section
variable{C:Cx}{md:Md}{w0 w:φ}{S0:δ Nat}{ρ:Nat->Ad}{S:St}{F:Nat->ς}{GS:Br}
theorem gw_now{L:δ cL}{S1:δ Nat}(d:Gw GS w0 S0)(c:Hp w0 S0 L w)(a:∀b∈S1,w0.heap.size<=b\/b∈S0):Gw GS w S1:=GS.st c d a
theorem uz(hS:Rel C w0 S0 ρ S F w)(hG:Gw GS w0 S0){c:wH}{k:Nat}(hF:Qd C.P GS k c){vs:δ SV}{a:(fK c.a).T}{ss:δ Src}{y:(fS c.r).T}(h:NW S.H c.a vs=θ (a,ss))(V:lX c S a ss=μ)(hy:(c.f a).ok y):
  ∃us,vs.map (SV.v ρ)=us.map θ/\CR C.P k us w λv w2=>∃ρ3,∀d:ε Nat,Rel C w0 S0 ρ3 (kO c S d a ss y) (match d with
   |some d=>cY F d v
   |none=>F) w2/\Nx S ρ (kO c S d a ss y) ρ3:=by
 obtain⟨L,hH,hM⟩:=hS.mem;have iD:=zI hS;have d3:=zJ hS;unfold lX at V;have V:=gY V;have c0:=mU.1 V.1;have V:=gY V.2;have i2:=sN.1 V.1;have V:=gY V.2;have g1:=V.1;have g5:=V.2;obtain⟨K,h1,h2,h3,h4,h5⟩:=Y1 d3 c.a vs a ss [] h;rw[yL]at h1
 let b4:Nat->Ad:=λj=>match ss[j]? with
  |some s=>s.ad ρ
  |none=>⟨ι,ι,0,ν,0⟩
 have b1:∀(j:Nat) (s:Src),ss[j]? =θ s->b4 j=s.ad ρ:=λj s p=>by simp only[b4,p]
 obtain⟨⟨us,h6,h7⟩,h8⟩:=h5 ρ b4 (λj s p=>by rw[tU,Ps];exact b1 j s p);refine⟨us,h6,?_⟩;have l0:=hM.1;let L1:δ cL:=ss.map λs=>rOf L s.ow;let Lr:δ cL:=(Ic (γ S.H)).map λid=>bif lB id (gQ ss)then dJ else(L[id]?).getD dJ;have l9:γ L1=aR ss:=by simp[L1]
 have n2:γ Lr=γ S.H:=by simp[Lr]
 have d5:∀(j:Nat) (r:cL) (b:Nat),L1[j]? =θ r->r.own=θ b->∃s id W,ss[j]? =θ s/\s.ow=θ id/\L[id]? =θ W/\W.own=θ b/\r=W:=by
  intro j r b p O;obtain⟨s,E,A⟩:=map_some p;subst A;cases M:s.ow with
  |none=>rw[M]at O;cases O
  |some id=>
   cases hl:L[id]? with
   |none=>
    have e:rOf L s.ow=dJ:=by rw[M];show(L[id]?).getD dJ=_;rw[hl];rfl
    rw[e]at O;cases O
   |some W=>
    have e:rOf L (θ id)=W:=by show(L[id]?).getD dJ=_;rw[hl];rfl
    rw[M]at O;exact⟨s,id,W,E,M,hl,by rw[<-e];exact O,e⟩
 have e6:Hp w0 S0 (L1++Lr) w:=by
  refine Go.Oe.Hp.pick (ss.map Src.ow++(Ic (γ S.H)).map λid=>bif lB id (gQ ss)then ι else θ id) hH (λj r p=> ?_) (λj k i p hk=> ?_)
  ·by_cases G:j<aR ss
   ·rw[aI aA0]at p;refine⟨?_,λb O=> ?_⟩
    ·obtain⟨s,E,A⟩:=map_some p;subst A;cases M:s.ow with
     |none=>trivial
     |some id=>
      show cL.holds ((L[id]?).getD dJ) w;cases hl:L[id]? with
      |none=>trivial
      |some W=>exact(hH.res _ (aL hl)).1
    ·obtain⟨s,id,W,E,A,J,D,rfl⟩:=d5 j r b p O;refine⟨id,r,?_,J,D⟩;rw[aI (by simpa using G),aW,E];exact bM θ A
   ·rw[aM aA0,l9]at p;have p:((Ic (γ S.H)).map _)[j-aR ss]? =θ r:=p;rw[aW]at p;by_cases X:j-aR ss<γ S.H
    ·rw[bX X]at p;have p:(bif lB (j-aR ss) (gQ ss)then dJ else(L[j-aR ss]?).getD dJ)=r:=aP p;have e8:L[j-aR ss]? =θ (L[j-aR ss]' aA0):=aN aA0;cases hm:lB (j-aR ss) (gQ ss)with
     |true=>rw[hm]at p;rw[<-p];exact⟨trivial,λb O=>by cases O⟩
     |false=>rw[hm,e8]at p;have p:L[j-aR ss]=r:=p;rw[<-p];refine⟨(hH.res _ (aL e8)).1,λb O=>⟨j-aR ss,_,?_,e8,O⟩⟩;rw[aM aA3,Gj,aW,bX X];simp only[LW,hm,aJ]
    ·rw[bG (by simpa using GO X)]at p;cases p
  ·have key:∀j,(ss.map Src.ow++(Ic (γ S.H)).map λid=>bif lB id (gQ ss)then ι else θ id)[j]? =θ (θ i)->(j<aR ss/\∃s,ss[j]? =θ s/\s.ow=θ i)\/(aR ss<=j/\j-aR ss=i/\i∉gQ ss):=by
    intro j p;by_cases G:j<aR ss
    ·rw[aI (by simpa using G),aW]at p;cases R:ss[j]? with
     |none=>rw[R]at p;cases p
     |some s=>rw[R]at p;exact .inl ⟨G,s,Τ,aP p⟩
    ·rw[aM (by simpa using GO G),Gj,aW]at p;by_cases X:j-aR ss<γ S.H
     ·rw[bX X]at p;have p:(bif lB (j-aR ss) (gQ ss)then ι else θ (j-aR ss))=θ i:=aP p;cases hm:lB (j-aR ss) (gQ ss)with
      |true=>rw[hm]at p;cases p
      |false=>rw[hm]at p;have p:j-aR ss=i:=aP p;refine .inr ⟨aA0,p,λhc=> ?_⟩;rw[<-p]at hc;rw[Vl.2 hc]at hm;cases hm
     ·rw[bG (by simpa using GO X)]at p;cases p
   rcases key j p with⟨E,s,A,J⟩|⟨E,A,J⟩<;>rcases key k hk with⟨D,s2,I,N⟩|⟨D,I,N⟩
   ·exact Ll c0 A J I N
   ·exact absurd (rM A J) N
   ·exact absurd (rM I N) J
   ·omega
 have hX:∀b∈eR L1,w0.heap.size<=b\/b∈S0:=by intro b O;obtain⟨r,hr,e⟩:=bhm O;exact((e6.res r (aZ.2 (.inl hr))).2 b e).2
 have hB:∀id∈vd ss,∀(r:cL) (b:Nat),L[id]? =θ r->r.own=θ b->b∉eR L1:=by intro id hid r b hr O hm;obtain⟨r2,k4,e⟩:=bhm hm;obtain⟨j,p⟩:=jK.1 k4;obtain⟨s,m6,W,E,A,J,D,_⟩:=d5 j r2 b p e;have:=an hH hr J O D;subst this;exact i2 id hid (rM E A)
 have i3:=e6.hand;have a9:iN c a=K:=h1;have hp:∀j,j<aR K->∃r,(∀o,K[j]? =θ o->RO w (eR L1) b4 j o r)/\r.holds w/\∀b,r.own=θ b->∃W,L1[j]? =θ W/\W.own=θ b:=by intro j p;have M:=aN p;have R:ss[j]? =θ (ss[j]' aA0):=aN aA0;obtain⟨r,E,A,J⟩:=og (S1:=eR L1) hH hM hX (λid hid=>hB id (iu R hid)) (h8 j _ _ R M) (b1 j _ R);refine⟨r,λo D=>by rw[M]at D;cases D;exact E,A,λb O=> ?_⟩;obtain⟨i,W,D,I,N⟩:=J b O;refine⟨W,?_,N⟩;show(ss.map _)[j]? =_;rw[aW,R,LW,D];show θ ((L[i]?).getD dJ)=_;rw[I];rfl
 obtain⟨Lc,l1,g2⟩:=Iq (γ K) hp;have k7:Hp w (eR L1) Lc w:=by
  refine Go.Oe.Hp.pick ((Ic (γ K)).map θ) i3 (λj r p=> ?_) (λj k i p hk=> ?_)
  ·obtain⟨_,E,A⟩:=g2 j r p;refine⟨E,λb O=> ?_⟩;obtain⟨W,J,D⟩:=A b O;have G:=(aE.1 p).1;exact⟨j,W,by rw[aW,bX aA0];rfl,J,D⟩
  ·have key:∀j,((Ic (γ K)).map θ)[j]? =θ (θ i)->j=i:=by
    intro j p;rw[aW]at p;by_cases G:j<aR K
    ·rw[bX G]at p;simpa using p
    ·rw[bG (by simpa using GO G)]at p;cases p
   rw[key j p,key k hk]
 have k8:Mt w (eR L1) b4 (iN c a) Lc:=by rw[a9];refine⟨l1,λj o M=> ?_⟩;have G:=(aE.1 M).1;have R:ss[j]? =θ (ss[j]' aA0):=aN aA0;have hl:Lc[j]? =θ (Lc[j]' aA0):=aN aA0;refine⟨?_,_,hl,(g2 j _ hl).1 o M⟩;rw[b1 j _ R];exact BJ iD d3 (h8 j _ _ R M)
 refine(hF w (eR L1) b4 Lc us a y (gw_now hG hH hX) k7 k8 h7 hy).mono λv w2=> ?_;rintro⟨b8,L2,f9,e5,d1,hv⟩;have c4:=e6.cM e5;have g7:aR ss=aR K:=h2.symm;let ρ3:Nat->Ad:=λid=>if id<γ S.H then ρ id else b8 (aR K+(id-γ S.H));have Q:Up (γ S.H) ρ ρ3:=λid hi=>by simp only[ρ3,hi,gZ]
 have l3:∀i,ρ3 (γ S.H+i)=b8 (aR K+i):=λi=>by have e1:¬γ S.H+i<γ S.H:=aA0;have e2:γ S.H+i-γ S.H=i:=aA0;simp only[ρ3,e1,GL,e2]
 have b2:∀(j:Nat) (s:Src) (i:Nat),ss[j]? =θ s->s.ow=θ i->i<γ S.H:=by intro j s i p hi;have a6:=(aE.1 p).1;have a5:=h8 j s _ p (aN aA0);rcases yW a5 hi with⟨_,⟨e,cs,d4,_,E,_⟩|⟨e,b,t,l,_,E⟩|⟨n,l,m,_,_,E⟩⟩|⟨m,e,b,t,l,cs,_,_,E⟩<;>exact(aE.1 E).1
 have d2:∀(j id:Nat),ss[j]? =θ (.o' id μ)->ρ3 id=b8 j:=by intro j id p;have a6:=(aE.1 p).1;have hi:=b2 j _ id p Τ;rw[Q id hi,f9 j (by rw[a9];omega),b1 j _ p];rfl
 let EC:=Hi (Rk.ids c.r) (iN c a) 0;let EK:=kL (Rk.ids c.r) (iT [] c.a a).2 0 ss;have i5:EK=kL (Rk.ids c.r) K 0 ss:=by show kL _ (iN c a) 0 ss=_;rw[a9]
 have i6:EC=Hi (Rk.ids c.r) K 0:=by show Hi _ (iN c a) 0=_;rw[a9]
 have b0:∀(j id:Nat) (s:Src),ss[j]? =θ s->s.ow=θ id->(id∈EK↔j∈EC):=by
  intro j id s p R;have a6:=(aE.1 p).1;rw[i5,i6,Ei,Bc];constructor
  ·rintro⟨j2,o,s2,_,E,A,J,D,I⟩
   rw[iQ]at E A;have c9:s2.ow=θ id:=by
    rw[wY]at I;cases M:s2.ow with
    |none=>rw[M]at I;simp at I
    |some i=>rw[M]at I;simp at I;rw[I]
   have:=Ll c0 p R A c9;subst this;exact⟨o,eJ _,by rw[iQ];exact E,J,D⟩
  ·rintro⟨o,_,E,A,J⟩;rw[iQ]at E;exact⟨j,o,s,eJ _,by rw[iQ];exact E,by rw[iQ];exact p,A,J,by rw[wY,R];simp⟩
 let rg:δ Rg:=kP c S a ss;have c7:∀{id j:Nat},eM id j (Vh S.H EK)=μ->eM id j rg=μ:=λh=>Ge.2 (.inl h)
 have a3:∀id,id∈EK->(wA S.H[id]? =μ\/∃e cs,S.H[id]? =θ (.bl e cs))/\id∈gQ ss:=by
  intro id hid;rw[i5,Ei]at hid;obtain⟨j,o,s,_,E,A,J,D,I⟩:=hid;rw[iQ]at E A;have c9:s.ow=θ id:=by
   rw[wY]at I;cases M:s.ow with
   |none=>rw[M]at I;simp at I
   |some i=>rw[M]at I;simp at I;rw[I]
  refine⟨?_,rM A c9⟩;rcases yW (h8 j s o A E) c9 with⟨_,⟨e,cs,d4,rfl,_⟩|⟨e,b,t,l,_,N⟩|⟨n,l,m,_,_,N⟩⟩|⟨m,e,b,t,l,cs,_,_,N⟩
  ·cases J
  ·left;rw[N];rfl
  ·left;rw[N];rfl
  ·exact .inr ⟨_,_,N⟩
 have h0:PR (γ S.H) (γ K) S.H ρ b8 ρ3 ss rg (kill (iN c a) EC) (kill S.H EK) [] [] 0:=by
  refine⟨by rw[bhp,a9];rfl,by rw[bhp];rfl,λi o hi=>by omega,λj id o p M=> ?_,λj id m p=> ?_,λid hi hn=> ?_,λid e cs M cc hc=> ?_,λid o M=> ?_,Τ,λv hv=>by cases hv⟩
  ·have a6:=(aE.1 p).1;have hi:=b2 j _ id p Τ;have Y:K[j]? =θ (K[j]' aA0):=aN aA0;have a5:=h8 j _ _ p Y;have hid:=aN hi;have g8:S.H[id].len=(K[j]' aA0).len:=by rw[iD id _ hid,BJ iD d3 a5];rfl
   rw[QM,a9,Y]at M;rw[QM,hid];by_cases hE:j∈EC
   ·rw[aB hE]at M;rw[aB ((b0 j id _ p rfl).2 hE)];cases M;refine⟨⟨_,Τ,?_⟩,λt l e=>by cases e⟩;show Ob.dd _=Ob.dd _;rw[g8]
   ·rw[aA hE]at M;rw[aA (λhh=>hE ((b0 j id _ p rfl).1 hh))];have M:=aP M;rw[M]at a5 Y;rcases yW a5 Τ with⟨_,⟨e,cs,d4,rfl,E,A,J,D⟩|⟨e,b,t,l,rfl,E⟩|⟨n,l,m,rfl,E,A⟩⟩|⟨m,e,b,t,l,cs,he,_⟩
    ·refine⟨⟨_,Τ,d4,by rw[hid]at E;exact aP E,?_,λjj c1 c2 I N=>by rw[D c1 (aL I),J c2 (aL N)]⟩,λt l e=>by cases e⟩;rw[Wz Q (λx hx=>hS.ho id e d4 E x hx),A];refine Wz f9 λx hx=> ?_;have:=h4 j e cs Y x hx;rw[a9];simpa using this
    ·refine⟨⟨_,Τ,?_⟩,λt l e=>by cases e⟩;rw[hid]at E;exact aP E
    ·refine⟨⟨_,Τ,?_⟩,λt l e=>by cases e⟩;have J:=d3 id m l A;rw[hid]at A;show S.H[id]=Ob.br n l;rw[aP A,E,J]
    ·cases he
  ·have a6:=(aE.1 p).1;have hi:=b2 j _ id p Τ;have Y:K[j]? =θ (K[j]' aA0):=aN aA0;have a5:=h8 j _ _ p Y;obtain⟨g0,e0,o5,l5⟩:wA (θ (K[j]' aA0))=μ/\∃e cs,S.H[id]? =θ (.bl e cs):=by
    rcases yW a5 Τ with⟨he,_⟩|⟨m,e,b,t,l,cs,_,he,E⟩
    ·cases he
    ·rw[he];exact⟨Τ,e,cs,E⟩
   have g4:j∉Rk.ids c.r:=by
    intro hm;have key:∀r:δ Rk,Kp S.H ss r=μ->j∈Rk.ids r->False:=by
     intro r;induction r with
     |nil=>intro _ h;cases h
     |cons q r ih=>
      intro hq a7;have hq:=gY (show(bif _ then Kp S.H ss r else ν)=μ from hq);cases q with
      |r' x=>exact ih hq.2 a7
      |o' i e x=>
       rcases aQ.1 (show j∈i::Rk.ids r from a7)with rfl|a7
       ·have E:=(gY hq.1).2;rw[gA,p]at E;cases E
       ·exact ih hq.2 a7
      |w' i x=>
       rcases aQ.1 (show j∈i::Rk.ids r from a7)with rfl|a7
       ·have E:=hq.1;simp only[gA,p]at E;cases E
       ·exact ih hq.2 a7
    exact key c.r g1 hm
   have hE:j∈EC:=by rw[i6,Bc];exact⟨_,eJ _,by rw[iQ];exact Y,g0,g4⟩
   rw[QM,aB ((b0 j id _ p rfl).2 hE),l5];rfl
  ·rw[QM,aA (λhE=>hn (a3 id hE).2)]
  ·rw[QM]at M;split at M
   ·cases hg:S.H[id]? with
    |none=>rw[hg]at M;cases M
    |some o=>rw[hg]at M;cases M
   ·exact hS.ho id e cs M cc hc
  ·rw[QM];by_cases hE:id∈EK
   ·rw[aB hE,M];have:=(a3 id hE).1;cases o with
    |bl e cs=>exact .inl λj p=>c7 (Jm M hE p)
    |rw e b t l=>exact .inl (c7 (azk hE))
    |br m l=>exact .inl (c7 (azk hE))
    |ro t l=>rcases this with E|⟨_,_,E⟩<;>rw[M]at E<;>cases E
    |dd n=>rcases this with E|⟨_,_,E⟩<;>rw[M]at E<;>cases E
   ·rw[aA hE,M];cases o with
    |bl e cs=>exact .inr ⟨cs,Τ,Τ,λj cc p=>.inr ⟨cc,p,λhk=>⟨hk,SC.up Q (hS.ho id e cs M cc (aL p))⟩⟩⟩
    |rw e b t l=>exact .inr Τ
    |br m l=>exact .inr Τ
    |ro t l=>rfl
    |dd n=>rfl
 obtain⟨k2,hP⟩:=PR.steps c0 aA0 b2 Τ g7 l3 d2 c.r y _ _ [] [] 0 h0 g1 (λid hid q hq j p=>by
  subst hq;refine Ge.2 (.inr ?_);have key:∀l:δ Nat,id∈l->eM id j (Zi S.H l)=μ:=by
   intro l;induction l with
   |nil=>intro h;cases h
   |cons x l ih=>
    intro h;rcases aQ.1 h with rfl|h
    ·exact wE.2 ⟨_,iK,Τ,eJ _,p⟩
    ·obtain⟨q,E,A⟩:=wE.1 (ih h);exact wE.2 ⟨q,gN _ E,A⟩
  exact key _ hid)
 let U:=(fT (Is ss) ([],kill S.H EK) c.r y).2;let Hc:=(jV c a y).2;have m0:γ Hc=aR K+k2:=hP.ec;have i4:γ U=γ S.H+k2:=hP.ek;have n3:γ L2=aR K+k2:=by rw[d1.1];exact m0
 let b9:Nat->ε Nat:=λid=>(Ic (γ ss)).find? λj=>decide ((ss[j]?).bind Src.ow=θ id)
 have d7:∀id j,b9 id=θ j->∃s,ss[j]? =θ s/\s.ow=θ id:=by
  intro id j p;have:=List.find?_some p;have E:(ss[j]?).bind Src.ow=θ id:=cC this;cases R:ss[j]? with
  |none=>rw[R]at E;cases E
  |some s=>rw[R]at E;exact⟨s,Τ,E⟩
 have i1:∀id,b9 id=ι->id∉gQ ss:=by
  intro id p hm;have key:∀l:δ Src,id∈gQ l->∃(j:Nat) (s:Src),l[j]? =θ s/\s.ow=θ id:=by
   intro l;induction l with
   |nil=>intro h;cases h
   |cons x l ih=>
    intro h;rcases aZ.1 (show id∈x.own++gQ l from h)with h|h
    ·refine⟨0,x,Τ,?_⟩;rw[wY]at h;cases M:x.ow with
     |none=>rw[M]at h;simp at h
     |some i=>rw[M]at h;simp at h;rw[h]
    ·obtain⟨j,s,h1,h2⟩:=ih h;exact⟨j+1,s,by simpa using h1,h2⟩
  obtain⟨j,s,E,A⟩:=key ss hm;have G:=(aE.1 E).1;have:=List.find?_eq_none.1 p j (by simpa using G);rw[E]at this;simp[A]at this
 let src:Nat->ε Nat:=λid=>if id<γ S.H then(match b9 id with
  |some j=>(match U[id]? with
   |some o=>bif EI o then ι else θ j
   |none=>ι)
  |none=>θ (γ L2+id))else θ (aR K+(id-γ S.H))
 have k6:∀id,id<γ U->∃r,(∀o,U[id]? =θ o->o.len=(ρ3 id).ln/\RO w0 S0 ρ3 id o r)/\r.holds w2/\∀b,r.own=θ b->∃i W,src id=θ i/\(L2++Lr)[i]? =θ W/\W.own=θ b:=by
  intro id hid;have M:=aN hid;by_cases G:id<γ S.H
  ·cases p:b9 id with
   |some j=>
    obtain⟨s,E,A⟩:=d7 id j p;have a6:=(aE.1 E).1;cases hd:EI U[id]with
    |true=>
     refine⟨dJ,λo J=>⟨?_,?_⟩,trivial,λb O=>by cases O⟩
     ·rw[M]at J;cases J;rcases yl A with rfl|⟨m,rfl⟩
      ·have a1:Hc[j]? =θ (Hc[j]' aA0):=aN aA0;obtain⟨⟨o3,D,I⟩,_⟩:=hP.ow j id _ E a1;have D:U[id]? =θ o3:=D;rw[M]at D;have D:=aP D;rw[D,I.len,d1.lns j _ a1,d2 j id E]
      ·have D:U[id]? =θ (.dd 0):=hP.ok j id m E;have Y:K[j]? =θ (K[j]' aA0):=aN aA0;rcases yW (h8 j _ _ E Y) Τ with⟨he,_⟩|⟨m,e,b,t,l,cs,_,_,I⟩
       ·cases he
       ·rw[M]at D;rw[aP D,Q id G];have N:=iD id _ I;exact N
     ·rw[M]at J;cases J;cases hx:U[id]<;>rw[hx]at hd<;>first|trivial|cases hd
    |false=>
     rcases yl A with rfl|⟨m,rfl⟩
     ·have a1:Hc[j]? =θ (Hc[j]' aA0):=aN aA0;obtain⟨⟨o3,D,I⟩,e7⟩:=hP.ow j id _ E a1;have D:U[id]? =θ o3:=D;obtain⟨N,r,Z,c6⟩:=d1.2 j _ a1;have he:U[id]=o3:=by rw[M]at D;exact aP D
      refine⟨r,λo a2=> ?_,?_,λb O=>⟨j,r,?_,?_,O⟩⟩
      ·rw[D]at a2;cases a2;exact⟨by rw[I.len,N,d2 j id E],fa I (d2 j id E) e7 c6⟩
      ·exact(e5.res r (aL Z)).1
      ·simp only[src,G,gZ,p,M,hd,aJ]
      ·rw[aI (aE.1 Z).1];exact Z
     ·have J:U[id]? =θ (.dd 0):=hP.ok j id m E;rw[M]at J;rw[aP J]at hd;cases hd
   |none=>
    have g6:=i1 id p;have e4:U[id]? =S.H[id]? :=hP.ot id G g6;obtain⟨N,r,Z,c6⟩:=hM.2 id _ (aN G);have k9:Lr[id]? =θ r:=by
     show((Ic (γ S.H)).map _)[id]? =_
     rw[aW,bX G];have hm:lB id (gQ ss)=ν:=by
      cases hm:lB id (gQ ss)with
      |false=>rfl
      |true=>exact absurd (Vl.1 hm) g6
     simp only[LW,hm,aJ,Z,Option.getD_some]
    have d6:(L2++Lr)[γ L2+id]? =θ r:=by rw[aM aA0,mh];exact k9
    refine⟨r,λo a2=> ?_,(c4.res r (aL d6)).1,λb O=>⟨γ L2+id,r,?_,d6,O⟩⟩
    ·rw[e4,aN G]at a2;cases a2;exact⟨by rw[Q id G];exact N,c6.up Q G λe cs he=>hS.ho id e cs (by rw[aN G,he])⟩
    ·simp only[src,G,gZ,p]
  ·have hi:id-γ S.H<k2:=by omega
   have a1:Hc[aR K+(id-γ S.H)]? =θ (Hc[aR K+(id-γ S.H)]' aA0):=aN aA0;obtain⟨⟨o3,D,I⟩,e7⟩:=hP.nw (id-γ S.H) _ hi a1;have D:U[γ S.H+(id-γ S.H)]? =θ o3:=D;rw[show γ S.H+(id-γ S.H)=id by omega]at D;have f7:ρ3 id=b8 (aR K+(id-γ S.H)):=by simp only[ρ3,G,GL]
   obtain⟨N,r,Z,c6⟩:=d1.2 _ _ a1;refine⟨r,λo a2=> ?_,(e5.res r (aL Z)).1,λb O=>⟨aR K+(id-γ S.H),r,?_,?_,O⟩⟩
   ·rw[D]at a2;cases a2;exact⟨by rw[I.len,N,f7],fa I f7 e7 c6⟩
   ·simp only[src,G,GL]
   ·rw[aI (aE.1 Z).1];exact Z
 obtain⟨L3,l2,g3⟩:=Iq (γ U) k6;have m1:Hp w0 S0 L3 w2:=by
  refine Go.Oe.Hp.pick ((Ic (γ U)).map src) c4 (λid r p=> ?_) (λx z i hx hz=> ?_)
  ·obtain⟨_,E,A⟩:=g3 id r p;refine⟨E,λb O=> ?_⟩;obtain⟨i,W,J,D⟩:=A b O;have G:=(aE.1 p).1;exact⟨i,W,by rw[aW,bX aA0];exact bM θ J,D⟩
  ·have key:∀x,((Ic (γ U)).map src)[x]? =θ (θ i)->x<γ U/\src x=θ i:=by intro x hx;obtain⟨q,E,A⟩:=map_some hx;have G:=(aE.1 E).1;rw[List.length_range]at G;rw[bX G]at E;have e:=aP E;subst e;exact⟨G,A⟩
   have cl:∀x,x<γ U->src x=θ i->(∃s:Src,i<aR ss/\ss[i]? =θ s/\s.ow=θ x)\/i=γ L2+x\/(¬x<γ S.H/\i=aR K+(x-γ S.H)):=by
    intro x hx R;by_cases G:x<γ S.H
    ·simp only[src,G]at R;cases p:b9 x with
     |none=>rw[p]at R;exact .inr (.inl (aP R).symm)
     |some j=>
      rw[p]at R;obtain⟨s,E,A⟩:=d7 x j p;have a6:=(aE.1 E).1;rw[aN hx]at R;simp only at R;cases hd:EI U[x]with
      |true=>rw[hd]at R;cases R
      |false=>rw[hd]at R;have e:j=i:=aP R;subst e;exact .inl ⟨s,a6,E,A⟩
    ·simp only[src,G]at R;exact .inr (.inr ⟨G,(aP R).symm⟩)
   obtain⟨k3,k1⟩:=key x hx;obtain⟨k0,j9⟩:=key z hz;rcases cl x k3 k1 with⟨s,E,A,J⟩|E|⟨E,A⟩<;>rcases cl z k0 j9 with⟨s2,D,I,N⟩|D|⟨D,I⟩
   ·rw[A]at I;cases I;rw[J]at N;exact aP N
   all_goals omega
 have l7:Mt w0 S0 ρ3 U L3:=by refine⟨l2,λid o M=> ?_⟩;have G:=(aE.1 M).1;have hl:L3[id]? =θ (L3[id]' aA0):=aN aA0;have:=(g3 id _ hl).1 o M;exact⟨this.1,_,hl,this.2⟩
 let B:St:=⟨S.F,U,S.nb,S.al,rg++S.m⟩
 have i7:Rel C w0 S0 ρ3 B F w2:=by
  refine⟨λg id hg=> ?_,λt u hu=> ?_,λt=> ?_,λid e cs M c hc=> ?_,⟨L3,m1,l7⟩⟩
  ·obtain⟨E,A⟩:=hS.gl g id hg;exact⟨by show id<γ U;omega,by rw[Q id E];exact A⟩
  ·have hu:(S.at t).v ρ3=θ u:=hu;rw[SV.up Q (hS.fo t)]at hu;exact hS.fr t u hu
  ·exact SV.cQ (hS.fo t) (by show γ S.H<=γ U;omega)
  ·show c.ok (γ U);rw[i4];exact hP.ho id e cs M c hc
 have b5:Nx S ρ B ρ3:=by
  have g9:∀nb al,(∀id j,id<nb->eM id j rg=μ->eM id j al=μ)->Le nb al ρ S.H ρ3 B.H:=λnb al l6=>
   ⟨by show γ S.H<=γ U;omega,Q,λid o hi M=>(hP.kp id o M).mono λj hc=>l6 id j hi hc⟩
  exact⟨⟨Τ,Τ,g9 _ _ λid j hi hc=>zS g5 hi hc⟩,g9 _ _ λid j _ hc=>Ge.2 (.inl hc),λid j hc=>Ge.2 (.inr hc)⟩
 refine⟨ρ3,λd=> ?_⟩;have l4:kO c S d a ss y=B.wU d (kH (fT (Is ss) ([],kill S.H EK) c.r y).1):=Τ;rw[l4];cases d with
 |none=>exact⟨i7,b5⟩
 |some d=>refine⟨vm i7 (X4 hP.vl hv) (pz λv hv=> ?_),⟨⟨b5.nb,b5.al,b5.le⟩,b5.lg,b5.mm⟩⟩;show v.ok (γ U);rw[i4];exact hP.vo v hv
end
open Go.Wk
open Go.Ce (Tr)
open Nat renaming blt → iJ, succ → qN
structure Env (C:Cx) (md:Md) (w0:φ) (S0:List Nat) (GS:Br):Prop where
 e:EOk C
 n:C.nn=md.n
 g:Gw GS w0 S0
 x:∀k,∀c∈C.X k,Enters C.P k/\Qd C.P GS k c
inductive WU (C:Cx) (Ω:List Ι) (S:St) (o:Ι):Bool->Prop
 |none (h:o.guard=ι):WU C Ω S o μ
 |yes (q:Nat×Bool) (dg:Nat) (h:o.guard=θ q) (h1:EX Ω q.1=θ dg) (h2:iJ dg C.nn=μ) (h3:S.at dg=.c' (.b' q.2)):WU C Ω S o μ
 |no (q:Nat×Bool) (dg:Nat) (h:o.guard=θ q) (h1:EX Ω q.1=θ dg) (h2:iJ dg C.nn=μ) (h3:S.at dg=.c' (.b' (!q.2))):WU C Ω S o ν
 |un (q:Nat×Bool) (dg:Nat) (h:o.guard=θ q) (h1:EX Ω q.1=θ dg) (h2:iJ dg C.nn=μ) (h3:S.at dg=.n'):WU C Ω S o ν
inductive Tv:SV->Bool->Prop
 |b (x:Bool):Tv (.c' (.b' x)) x
 |d (p:Prop) (h:Decidable p):Tv (.c' (.d' p h)) (@decide p h)
 |e (p:Prop) (h:Decidable p):Tv (.c' (.e' p h)) (!@decide p h)
variable{v:SV}
theorem tv_v{b:η}(h:Tv v b)(ρ:Nat->Ad):v.v ρ=θ (.bool b):=by cases h<;>rfl
theorem brB_tv{T:Type}{y n:ε T}{r:T}(h:ir v y n=θ r):∃b,Tv v b/\(b=μ->y=θ r)/\(b=ν->n=θ r):=by
 unfold ir at h;split at h
 ·rename_i x;exact⟨x,.b x,λe=>by subst e;exact h,λe=>by subst e;exact h⟩
 ·rename_i p a;refine⟨_,.d p a,λe=> ?_,λe=> ?_⟩
  ·rw[aB (cC e)]at h;exact h
  ·rw[aA (fG e)]at h;exact h
 ·rename_i p a;refine⟨_,.e p a,λe=> ?_,λe=> ?_⟩
  ·have:¬p:=by simpa using e
   rw[aA this]at h;exact h
  ·have:p:=by simpa using e
   rw[aB this]at h;exact h
 ·cases h
structure CallT (C:Cx) (S:St) (o:Ι) (S2:St):Prop where
 ex:∃(cal:Call) (f:Β) (k:Nat) (ids:List Nat) (c:wH) (a:(fK c.a).T) (ss:List Src) (y:(fS c.r).T),o.op=.call cal/\cal.callee=.value f/\S.ev C f=.c' (.f' k ids)/\c∈C.X k/\
  NW S.H c.a (cal.args.toList.map (S.ev C)++VT ids)=θ (a,ss)/\lX c S a ss=μ/\(c.f a).ok y/\S2=kO c S o.dst a ss y
inductive HK (C:Cx) (Ω:List Ι) (S:St) (o:Ι):St->Prop
 |op (hg:WU C Ω S o μ) (ro:Ro) (h:iF C (S.ev C) S.H o.op=θ ro) (ha:Hx ro.g) (hd:Oa o.dst ro.v=μ) (hm:S.Fp ro.m=μ):HK C Ω S o (St.wU ⟨S.F,ro.H,S.nb,S.al,ro.m++S.m⟩ o.dst ro.v)
 |mv (hg:WU C Ω S o μ) (x:Β) (d:Nat) (b:Bool) (hx:cu o.op=θ x) (hd:o.dst=θ d) (hb:Tv (S.ev C x) b):HK C Ω S o (S.set d (.c' (.b' b)))
 |skip (hg:WU C Ω S o ν) (d:Nat) (hd:o.dst=θ d):HK C Ω S o (S.set d .n')
 |call (hg:WU C Ω S o μ) (S2:St) (h:CallT C S o S2):HK C Ω S o S2
section
variable{C:Cx}{ρ':Ty}
theorem Ok{S:St}{d:ε Nat}{vs:δ SV}{g:St->ε ρ'.T}{r:ρ'.T}:∀{l:δ wH},kQ S d vs g l=θ r->∃c∈l,∃a ss y,NW S.H c.a vs=θ (a,ss)/\lX c S a ss=μ/\(c.f a).ok y/\g (kO c S d a ss y)=θ r
 |[],h=>by cases h
 |c::l,h=>by
  simp only[kQ]at h;split at h
  ·rename_i a ss i;have h:=dD h;obtain⟨y,e,b⟩:=Gv.vr h.2;exact⟨c,iK,a,ss,y,i,h.1,e,b⟩
  ·obtain⟨j,e,b⟩:=Ok h;exact⟨j,gN _ e,b⟩
theorem eo{v:SV}{q:Nat×δ Nat}(h:fnV v=θ q):v=.c' (.f' q.1 q.2):=by
 unfold fnV at h;split at h
 ·cases h;rfl
 ·cases h
variable{d:δ Ι}{S:St}{o:Ι}{q:St->ε ρ'.T}{r:ρ'.T}
theorem BT(s:WU C d S o μ)(h:pd C S o.dst o.op q=θ r):∃S2,HK C d S o S2/\q S2=θ r:=by
 unfold pd at h;split at h
 ·rename_i g v H m b;split at h
  ·rename_i S2 i;have i:=dD i;have e:=dD i.2;cases e.2;obtain⟨n,l⟩:=Nr h;exact⟨_,.op s _ b n i.1 e.1,l⟩
  ·cases h
 ·split at h
  ·rename_i p b;split at h
   ·rename_i f w;split at h
    ·rename_i k j u;obtain⟨c,n,a,t,y,l,A,z,x⟩:=Ok h;exact⟨_,.call s _ ⟨p,f,k,j,c,a,t,y,b,w,eo u,n,l,A,z,Τ⟩,x⟩
    ·cases h
   ·cases h
  ·cases h
variable{i:Nat}
theorem BS(c:WU C d S o μ)(h:pc C d i S o q=θ r):∃S2,HK C d S o S2/\q S2=θ r:=by
 unfold pc at h;cases f:isG d i with
 |false=>rw[f]at h;exact BT c h
 |true=>
  rw[f]at h;split at h
  ·rename_i x hx;split at h
   ·rename_i e g;obtain⟨b,l,k,j⟩:=brB_tv h;refine⟨_,.mv c x e b hx g l,?_⟩;cases b with
    |true=>exact k Τ
    |false=>exact j Τ
   ·cases h
  ·exact BT c h
theorem BR(h:SM C d i S o q=θ r):∃S2,HK C d S o S2/\q S2=θ r:=by
 unfold SM at h;split at h
 ·rename_i m;exact BS (.none m) h
 ·rename_i l j;split at h
  ·rename_i dg c;have h:=dD h;have a:=h.2;split at a
   ·rename_i x hx;cases f:beqB x l.2 with
    |true=>
     rw[f]at a;have e:x=l.2:=by cases x<;>cases b:l.2<;>rw[b]at f<;>first|rfl|cases f
     rw[e]at hx;exact BS (.yes l dg j c h.1 hx) a
    |false=>
     rw[f]at a;have e:x= !l.2:=by cases x<;>cases b:l.2<;>rw[b]at f<;>first|rfl|cases f
     rw[e]at hx;split at a
     ·rename_i g k;exact⟨_,.skip (.no l dg j c h.1 hx) g k,a⟩
     ·cases a
   ·rename_i hx;split at a
    ·rename_i g k;exact⟨_,.skip (.un l dg j c h.1 hx) g k,a⟩
    ·cases a
   ·cases a
  ·cases h
end
section
variable{C:Cx}{md:Md}{w0 w:φ}{S0:δ Nat}{ρ:Nat->Ad}{S:St}{F:Nat->ς}{GS:Br}
variable{a:Array Ι}{g:Nat}
theorem Nq{dg:Nat}(h:EX a.toList g=θ dg):(a[g]?).bind (·.dst)=θ dg:=by
 unfold EX at h;rw[gA]at h;cases b:a[g]? with
 |none=>rw[show a.toList[g]? =ι by simpa using b]at h;cases h
 |some o=>rw[show a.toList[g]? =θ o by simpa using b]at h;exact h
theorem MU(c:C.nn=md.n)(d:Rel C w0 S0 ρ S F w):∀{l:δ Β}{r:δ (ε ς)}{a:δ ς},(l.map (S.ev C)).map (SV.v ρ)++r=a.map θ->∃b,a=l.map (aU md F)++b/\r=b.map θ
 |[],r,a,h=>⟨a,Τ,h⟩
 |x::l,r,a,h=>by
  cases a with
  |nil=>cases h
  |cons u a=>simp only[qO,AP,eA]at h;obtain⟨b,f,e⟩:=MU c d h.2;refine⟨b,?_,e⟩;rw[f,qO,AP,(Rl d c x).2 u h.1]
theorem ie:∀a,(VT a).map (SV.v ρ)=(a.map λid=>iM (ρ id).b 0).map θ
 |[]=>rfl
 |id::a=>by show θ _::(VT a).map _=_;rw[ie a];rfl
theorem zU{c:Type}:∀{a b:δ c},a.map θ=b.map θ->a=b
 |[],[],_=>rfl
 |[],_::_,h=>by cases h
 |_::_,[],h=>by cases h
 |x::a,y::b,h=>by simp at h;rw[h.1,zU h.2]
variable{o:Ι}
theorem GG(hE:Env C md w0 S0 GS){S2:St}(h:HK C a.toList S o S2)(B:Rel C w0 S0 ρ S F w)(Q:Exit->Act->φ->Prop)(l:δ Ι)
  (T:∀D F2 G,Rel C w0 S0 D S2 F2 G->Nx S ρ S2 D->(∀t,o.dst≠θ t->F2 t=F t)->(∀d,o.guard=ι->o.dst=θ d->lU o.op=μ->∃w3,(χ (aU md F) o).run C.P w=.ok (.value (F2 d)) w3)->W C.P md a Q l F2 G):W C.P md a Q (o::l) F w:=by
 have L:=hE.n;obtain⟨p,op,Z,pos,Ψ,gd⟩:=o;have N:WU C a.toList S ⟨p,op,Z,pos,Ψ,gd⟩ μ->W C.P md a Q (⟨p,op,Z,pos,Ψ,ι⟩::l) F w->W C.P md a Q (⟨p,op,Z,pos,Ψ,gd⟩::l) F w:=by
  intro A V;cases A with
  |none h=>have h:gd=ι:=h;subst h;exact V
  |yes q dg h z r E=>have h:gd=θ q:=h;subst h;obtain⟨g,b⟩:=q;exact HY dg (Nq z) (by rw[<-L];exact r) (B.fr dg (.bool b) (by rw[E];rfl)) V
 cases h with
 |op A ro h ha u hm=>refine N A (oe hE.e L B h ha hm u a Q l λD F2 G z r E h4=>T D F2 G z r E λd j M hp=> ?_);have j:gd=ι:=j;subst j;exact h4 d M hp
 |mv A x d b hx u hb=>
  have u:p=θ d:=u;subst u;obtain⟨z,r⟩:=Rl B L x;have R:aU md F x=.bool b:=r _ (tv_v hb ρ);refine N A ?_;have s:Rel C w0 S0 ρ (S.set d (.c' (.b' b))) (cY F d (.bool b)) w:=vm B Τ (λi hi=>by cases hi);have H:(χ (aU md F) (⟨θ d,op,Z,pos,Ψ,ι⟩:Ι)).run C.P w=.ok (.value (.bool b)) w:=by
   cases op<;>first|cases hx|skip
   ·rw[<-R];rfl
   ·rw[<-R];rfl
  refine dY Τ Τ H (T ρ _ w s ⟨⟨Τ,Τ,Le.refl⟩,Le.refl,λ_ _ h=>h⟩ QI λd2 j M _=>⟨w,?_⟩);have j:gd=ι:=j;subst j;cases M;rw[vu];exact H
 |skip A d u=>
  have u:p=θ d:=u;subst u;have s:Rel C w0 S0 ρ (S.set d .n') (cY F d undef) w:=vm B Τ trivial;have V:=T ρ _ w s ⟨⟨Τ,Τ,Le.refl⟩,Le.refl,λ_ _ h=>h⟩ QI (λd2 j _ _=>by cases A<;>(rename_i h _ _ _;rw[h]at j;cases j));cases A with
  |no q dg h z r E=>have h:gd=θ q:=h;subst h;obtain⟨g,b⟩:=q;exact ya dg (Nq z) (by rw[<-L];exact r) (B.fr dg (.bool (!b)) (by rw[E];rfl)) V
  |un q dg h z r E=>have h:gd=θ q:=h;subst h;obtain⟨g,b⟩:=q;exact xz dg (Nq z) (by rw[<-L];exact r) (B.fr dg undef (by rw[E];rfl)) V
 |call A _ h=>
  obtain⟨Y,f,k,O,c,m,ss,y,K,hf,a5,hc,hr,a4,hy,rfl⟩:=h;have K:op=.call Y:=K;subst K;obtain⟨callee,eV,ts⟩:=Y;have hf:callee=.value f:=hf;subst hf;refine N A ?_;obtain⟨X,hF⟩:=hE.x k c hc;obtain⟨us,z,r⟩:=uz B hE.g hF hr a4 hy;rw[Ru,ie]at z;obtain⟨u2,E,h4⟩:=MU L B z;have h5:=zU h4;have U:aU md F f=.func (.func k) #[] (O.map λid=>iM (ρ id).b 0).toArray:=(nQ B L a5).2;have ha: #[]++eV.map (aU md F)++(O.map λid=>iM (ρ id).b 0).toArray=us.toArray:=by rw[E,<-h5];apply Array.toList_inj.1;simp
  cases p with
  |none=>refine nh k _ us _ X U ha r λv G J=> ?_;obtain⟨I,J⟩:=J;obtain⟨h6,h7⟩:=J ι;exact T I F G h6 h7 (λ_ _=>rfl) (λd _ u=>by cases u)
  |some d=>refine kS k _ us _ X U ha r λv G J=> ?_;obtain⟨I,J⟩:=J;obtain⟨h6,h7⟩:=J (θ d);exact T I _ G h6 h7 QI (λd2 _ _ hp=>by cases hp)
theorem yP{l:δ Ι}:g∈Fh (o::l)↔o.dst=θ g\/g∈Fh l:=by
 simp only[Fh];cases a:o.dst with
 |none=>simp
 |some d=>simp;exact or_congr_left ⟨λh=>h.symm,λh=>h.symm⟩
theorem Cr{t:Nat}:∀{l:δ Β},t∈zR l↔Operand.tmp t∈l
 |[]=>by simp[zR]
 |x::l=>by cases x<;>simp[zR,Cr]
def RanL(C:Cx)(md:Md)(a:δ Ι)(e:Nat)(F:Nat->ς):Prop:=∀(i d:Nat) o,e<=i->au a i=μ->a[i]? =θ o->o.dst=θ d->∃c b,(χ (aU md F) o).run C.P c=.ok (.value (F d)) b
theorem Z0{op:Op}(h:lU op=μ):∀cs b,op≠.select cs b:=λcs b e=>by subst e;cases h
theorem ez{F2:Nat->ς}{x:Β}(h:∀t,x=.tmp t->F2 t=F t):aU md F2 x=aU md F x:=by
 cases x with
 |tmp t=>simp only[aU,h t rfl]
 |_=>rfl
theorem Xu(R:Env C md w0 S0 GS){a:Array Ι}{ρ':Ty}{B:St->ε ρ'.T}{r:ρ'.T}{Q:Exit->Act->φ->Prop}:∀l i S ρ F w,l=a.toList.drop i->TO C a.toList l i S B=θ r->Rel C w0 S0 ρ S F w->
  (∀S2 e F2 u,B S2=θ r->Rel C w0 S0 e S2 F2 u->Nx S ρ S2 e->(∀t,t∉Fh l->F2 t=F t)->RanL C md a.toList i F2->Q .normal (fr md F2) u)->W C.P md a Q l F w
 |[],i,S,ρ,F,w,y,h,K,D=>nO (D S ρ F w h K Nx.refl (λ_ _=>rfl) (λj d o hj _ n _=>by have:a.toList.drop i=[]:=y.symm;rw[List.drop_eq_nil_iff]at this;have:=(aE.1 n).1;omega))
 |o::l,i,S,ρ,F,w,y,h,K,D=>by
  obtain⟨S2,h1,h2⟩:=BR (show SM C a.toList i S o (λS2=>TO C a.toList l (qN i) S2 B)=θ r from h);have m:a.toList[i]? =θ o:=by have:=bM (λl=>l[0]?) y;simpa using this.symm
  have p:l=a.toList.drop (i+1):=by have:=bM List.tail y;simpa using this
  refine GG R h1 K Q l λe F2 u J hN O hp=>Xu R l (i+1) S2 e F2 u p h2 J λS3 A V Y h3 I L f k=> ?_;refine D S3 A V Y h3 I (hN.trans L) (λt g=> ?_) (λj d Z hj b n z=> ?_)
  ·rw[yP]at g;rw[f t (λc=>g (.inr c)),O t (λc=>g (.inl c))]
  ·by_cases E:j=i
   ·subst E;rw[m]at n;cases n
    unfold au at b;rw[gA,m]at b;simp only[z]at b;have N:=gY b;have M:=gY N.2;have s:=M.2;have G:o.guard=ι:=by
     cases hg:o.guard with
     |none=>rfl
     |some q=>rw[hg]at N;cases N.1
    rw[mW,<-p]at s;cases v:lB d (Fh l)with
    |true=>rw[v]at s;cases s
    |false=>
     rw[v]at s;have h7:=sN.1 s;obtain⟨X,h8⟩:=hp d G z M.1;have H:V d=F2 d:=f d λc=>by rw[Vl.2 c]at v;cases v
     refine⟨w,X,?_⟩;rw[H,execOp_congr o (Z0 M.1) (ρ':=aU md F) λx hx=> ?_]
     ·exact h8
     ·refine ez λt g=> ?_;subst g;have U:=h7 t (Cr.2 aD7);rw[f t (λc=>U (gN _ c)),O t (λc=>U (by rw[z]at c;cases c;exact iK))]
   ·exact k j d Z aA0 b n z
theorem TB(m:Env C md w0 S0 GS):ke C md w0 S0 g a ν:=by intro ρ' S x r ρ F w Q h l y;have k:=Xu m a.toList 0 S ρ F w aA2 h l λu b v e t s q p n=>y u b v e t s q p λi d o c f j=>n i d o (eJ _) c f j;exact pM k
end
open Go.Wk
open Go.Ce (Tr)
open Go.Op renaming operands → lG
open Nat renaming beq → cT
section
variable{C:Cx}{ev XD:Β->SV}
theorem sL{sz:Nat->ε (Nat×Nat)}:∀{a:δ (Nat×Β)}{l:δ SC},(∀p∈a,ev p.2=XD p.2)->Fy sz ev a l=Fy sz XD a l
 |[],l,h=>rfl
 |p::a,l,h=>by
  simp only[Fy];rw[h p iK];split
  ·split
   ·rw[sL λq b=>h q (gN _ b)]
   ·rfl
  ·rfl
variable{l:δ Β}
theorem map_congr(h:∀x∈l,ev x=XD x):l.map ev=l.map XD:=xj h
variable{H:δ Ob}
theorem iv{b:Builtin}{a:δ Nat}(h:∀x∈l,ev x=XD x):LG C ev H b l a=LG C XD H b l a:=by
 match l with
 |[]=>cases b<;>rfl
 |[x]=>
  have e:=h x aA2;cases b<;>simp only[LG]
  ·match a with
   |[]=>rfl
   |[t]=>simp only[e]
   |_::_::_=>rfl
 |[x,y]=>have e:=h x aA2;have c:=h y aA2;cases b<;>first|(rcases a with _|⟨t,_|⟨t2,_|⟨t3,a⟩⟩⟩<;>simp only[LG,e,c];done)|simp only[LG,e,c]
 |_::_::_::_=>cases b<;>rfl
theorem Tg{op:Op}(h:∀x∈op.operands,ev x=XD x):iF C ev H op=iF C XD H op:=by
 cases op<;>first|rfl|skip
 case move x=>simp only[iF,h x aB1]
 case assign x=>simp only[iF,h x aB1]
 case pick c a b=>simp only[iF,h c aB1,h a aB1,h b aB1]
 case binOp b t x y t'=>simp only[iF,h x aB1,h y aB1]
 case unOp u t x=>cases u<;>first|rfl|simp only[iF,h x aB1]
 case convert s t x=>simp only[iF,h x aB1]
 case index t x g=>simp only[iF,h x aB1,h g aB1]
 case slice t x r o q=>
  cases q with
  |some m=>rfl
  |none=>
   have e:=h x aB1;cases r with
   |none=>cases o with
    |none=>simp only[iF,Gq,e]
    |some j=>simp only[iF,Gq,e,h j aB1]
   |some i=>cases o with
    |none=>simp only[iF,Gq,e,h i aB1]
    |some j=>simp only[iF,Gq,e,h i aB1,h j aB1]
 case extract x i=>simp only[iF,h x aB1]
 case field t x f=>simp only[iF,h x aB1]
 case box e x=>simp only[iF,h x aB1]
 case load t x=>simp only[iF,h x aB1]
 case store t x y=>simp only[iF,h x aB1,h y aB1]
 case fieldAddr t x f=>simp only[iF,h x aB1]
 case indexAddr t x g=>simp only[iF,h x aB1,h g aB1]
 case nilCheck x=>simp only[iF,h x aB1]
 case makeSlice t x y=>simp only[iF,h x aB1,h y aB1]
 case build t d=>
  have e:∀p∈d.toList,ev p.2=XD p.2:=λp k=>h p.2 (by simp only[lG,List.mem_toArray,gD];exact⟨p,k,Τ⟩);simp only[iF,Im];split
  ·rw[sL e]
  ·rfl
 case buildSlice t n d=>
  have e:∀p∈d.toList,ev p.2=XD p.2:=λp k=>h p.2 (by simp only[lG,List.mem_toArray,gD];exact⟨p,k,Τ⟩);simp only[iF,asu];split
  ·split
   ·rw[sL e]
   ·rfl
  ·rfl
 case makeFunc f a b=>
  have e:b.toList.map ev=b.toList.map XD:=map_congr λx hx=>h x (by simp only[lG,yH];exact .inr aD7);simp only[iF,Xw,e]
 case call c=>
  obtain⟨callee,eV,l⟩:=c;cases callee<;>first|rfl|skip
  rename_i b;show LG C ev H b eV.toList l.toList=LG C XD H b eV.toList l.toList;exact iv λx hx=>h x (by simp only[lG,Call.operands,yH];exact .inr aD7)
end
def xh(H H2:δ Ob)(a:δ Nat):Prop:=∀id∈a,∀o,fC H id=θ o->fC H2 id=θ o
section
variable{C:Cx}{ev:Β->SV}{H H2:δ Ob}
variable{a:Ro}
theorem Fo{r:Rv}(h:La H r=θ a):a.H=H/\a.m=[]/\La H2 r=θ ⟨a.g,a.v,H2,[]⟩:=by obtain⟨g,v,c,rfl⟩:=HJ h;rw[c];exact⟨Τ,Τ,Τ⟩
theorem lQ{r:ε SV}(h:mI H r=θ a):a.H=H/\a.m=[]/\mI H2 r=θ ⟨a.g,a.v,H2,[]⟩:=by obtain⟨v,c,rfl⟩:=jl h;rw[c];exact⟨Τ,Τ,Τ⟩
variable{b:Ty}{t m:Nat}{l:δ b.T}
theorem Xs{j:Int}{n:Nat}{c:η}(h:rH H b l j t m n c=θ a):a.H=H/\a.m=[]/\rH H2 b l j t m n c=θ ⟨a.g,a.v,H2,[]⟩:=by
 unfold rH at h⊢;split at h
 ·rename_i v d;have h:=dD h;cases h.2;simp only[h.1,aO,and_self]
 ·cases h
variable{x:SC}
theorem load_H(h:kK C H t x=θ a)(p:xh H H2 (Vd (.c' x))):a.H=H/\a.m=[]/\kK C H2 t x=θ ⟨a.g,a.v,H2,[]⟩:=by
 unfold kK at h⊢;split at h
 ·rename_i n c g y;cases o:cT n 0 with
  |true=>rw[o]at h;cases h
  |false=>
   rw[o]at h;split at h
   ·rename_i id off;split at h
    ·rename_i e cs f;rw[p id aE7 _ f];exact lQ h
    ·cases h
   ·rename_i id j i off;have key:=p id aE7;split at h
    ·rename_i e b t' l f;rw[key _ f];exact Xs h
    ·rename_i t' l f;rw[key _ f];simp only;cases d:rH H t' l j i off n c with
     |some r=>rw[d]at h;cases h;obtain⟨w,u,s⟩:=Xs d;rw[s];exact⟨w,u,Τ⟩
     |none=>
      rw[d]at h;have e:rH H2 t' l j i off n c=ι:=by
       unfold rH at d⊢;split
       ·rename_i v q;rw[q]at d;cases k:(bif BE i j t' then t'.flat else ν)with
        |true=>rw[k]at d;cases d
        |false=>rfl
       ·rfl
      rw[e];have h:Jn H t' l j off n c=θ a:=h;unfold Jn at h⊢;split at h
      ·have h:=dD h;simp only[h.1];exact lQ h.2
      ·cases h
    ·rename_i m l f;rw[key _ f];exact Xs h
    ·cases h
   ·cases h
 ·cases h
theorem lenX_H(h:UC H t=θ m)(b:∀o,fC H t=θ o->fC H2 t=θ o):UC H2 t=θ m:=by
 unfold UC at h⊢;split at h
 ·rename_i a;rw[b _ a];exact h
 ·rename_i a;rw[b _ a];exact h
 ·rename_i a;rw[b _ a];exact h
 ·cases h
theorem ixa_H{g:SC}(h:zu C H t x g=θ a)(i:xh H H2 (Vd (.c' x))):a.H=H/\a.m=[]/\zu C H2 t x g=θ ⟨a.g,a.v,H2,[]⟩:=by
 unfold zu at h⊢;split at h
 ·rename_i j n;split at h
  ·rename_i e k;split at h
   ·rename_i d dR;split at h
    ·rename_i id;split at h
     ·rename_i m f;cases h;rw[lenX_H f (i id aE7)];exact⟨Τ,Τ,Τ⟩
     ·cases h
    ·cases h;exact⟨Τ,Τ,Τ⟩
    ·cases h
   ·cases h
  ·rename_i k;split at h
   ·rename_i q l;split at h
    ·rename_i d dR;split at h
     ·have h:=dD h;cases h.2;simp only[h.1,aO,and_self]
     ·have h:=dD h;have c:=dD h.2;have b:=dD c.2;cases b.2;simp only[h.1,c.1,b.1,aO,and_self]
     ·cases h
    ·cases h
   ·cases h
 ·cases h
theorem cont_H(h:vZ H b x=θ l)(t:xh H H2 (Vd (.c' x))):vZ H2 b x=θ l:=by
 unfold vZ at h⊢;split at h
 ·exact h
 ·rename_i id;have key:=t id aE7;cases a:fC H id with
  |none=>rw[a]at h;cases h
  |some o=>rw[a]at h;rw[key o a];exact h
 ·rename_i id m;have key:=t id aE7;split at h
  ·rename_i e cs a;rw[key _ a];exact h
  ·cases h
 ·cases h
theorem isSl_f(h:(!EG C t)=μ):SB C t=ι:=by
 unfold EG at h;unfold SB;split at h
 ·cases h
 ·rfl
theorem conS_H(d:(!EG C m)=μ)(h:Zc C H t m x=θ a)(i:xh H H2 (Vd (.c' x))):a.H=H/\a.m=[]/\Zc C H2 t m x=θ ⟨a.g,a.v,H2,[]⟩:=by
 have s:=isSl_f d;unfold Zc at h⊢;split at h
 ·rename_i e j;have h:=dD h;have c:=dD h.2;have b:=c.2;simp only[h.1,c.1];split at b
  ·rename_i l f;cases b;rw[cont_H f i];exact⟨Τ,Τ,Τ⟩
  ·cases b
 ·cases x with
  |s' l=>simp only[s]at h⊢;exact Fo h
  |_=>exact Fo h
theorem lenC_H{r:δ PD×SV}(h:Ya C H t x=θ r)(b:xh H H2 (Vd (.c' x))):Ya C H2 t x=θ r:=by
 unfold Ya at h⊢;split at h
 ·exact h
 ·split at h
  ·rename_i e c;split at h
   ·rename_i id _;cases a:fC H id with
    |none=>rw[a]at h;cases h
    |some o=>rw[a]at h;rw[b id aE7 o a];exact h
   ·exact h
   ·exact h
   ·cases h
  ·cases h
theorem Uo{x:Β}{id:Nat}(hid:id∈Vd (ev x)):∀{l:δ Β},x∈l->id∈EZ ev l
 |y::l,h=>by
  rcases aQ.1 h with rfl|h
  ·exact XU _ hid
  ·exact XV _ (Uo hid h)
theorem Ii{op:Op}{ro:Ro}(l:Cm C op=μ)(h:iF C ev H op=θ ro)(o:xh H H2 (Un ev op)):ro.H=H/\ro.m=[]/\iF C ev H2 op=θ ⟨ro.g,ro.v,H2,[]⟩:=by
 cases op<;>first|cases l|skip
 case move x=>exact lQ h
 case assign x=>exact lQ h
 case pick c a b=>
  obtain⟨x,k,j⟩:=lC (show gH (ev c) (λx=>match x with
   |.b' t=>mI H (match(bif t then ev a else ev b)with
    |.u'=>ι
    |v=>θ v)
   |_=>ι)=θ ro from h)
  split at j
  ·rename_i t;have:=lQ (H2:=H2) j;simp only[iF,k,gH];exact this
  ·cases j
 case binOp b t x y t'=>exact Fo h
 case unOp u t x=>cases u<;>first|cases h|exact Fo h
 case convert s t x=>
  obtain⟨c,k,j⟩:=lC (show gH (ev x) (Zc C H s t)=θ ro from h);have:=conS_H (H2:=H2) l j (by rw[<-k];exact o);simp only[iF,k,gH];exact this
 case index t x r=>
  simp only[iF]at h⊢;cases p:wB C t with
  |true=>rw[p]at h;exact Fo h
  |false=>
   rw[p]at h;simp only[aJ]at h⊢;split at h
   ·exact Fo h
   ·cases h
 case slice t x E F w=>
  cases w with
  |some m=>cases h
  |none=>have l:wB C t=μ:=l;simp only[iF,l,aO]at h⊢;exact Fo h
 case extract x i=>
  simp only[iF]at h⊢;split at h
  ·split at h
   ·cases h;exact⟨Τ,Τ,Τ⟩
   ·cases h
  ·cases h
 case field t x f=>
  simp only[iF]at h⊢;split at h
  ·split at h
   ·exact lQ h
   ·cases h
  ·cases h
 case build t D=>exact lQ h
 case fieldAddr t x f=>
  obtain⟨c,k,j⟩:=lC (show gH (ev x) (λa=>mI H (bhl C t f a))=θ ro from h);have:=lQ (H2:=H2) j;simp only[iF,k,gH];exact this
 case load t x=>
  obtain⟨c,k,j⟩:=lC (show gH (ev x) (λa=>kK C H t a)=θ ro from h);have:=load_H (H2:=H2) j (by rw[<-k];exact o);simp only[iF,k,gH];exact this
 case indexAddr t x r=>
  obtain⟨c,k,j⟩:=lC (show gH (ev x) (λa=>gH (ev r) λi=>zu C H t a i)=θ ro from h);obtain⟨d,q,B⟩:=lC j;have:=ixa_H (H2:=H2) B (by rw[<-k];exact o);simp only[iF,k,q,gH];exact this
 case makeFunc f a b=>exact lQ h
 case nilCheck x=>
  obtain⟨c,k,j⟩:=lC (show gH (ev x) (λa=>mI H (DF a))=θ ro from h);have:=lQ (H2:=H2) j;simp only[iF,k,gH];exact this
 case call c=>
  obtain⟨callee,eV,n⟩:=c;cases callee<;>first|cases l|skip
  rename_i b;have key:∀(eV:δ Β) (n:δ Nat),xh H H2 (EZ ev eV)->LG C ev H b eV n=θ ro->ro.H=H/\ro.m=[]/\LG C ev H2 b eV n=θ ⟨ro.g,ro.v,H2,[]⟩:=by
   clear h o;intro eV n o h;have A:∀x y,b≠.append->eV=[x,y]->ro.H=H/\ro.m=[]/\LG C ev H2 b eV n=θ ⟨ro.g,ro.v,H2,[]⟩:=by intro x y p e;subst e;cases b<;>first|exact absurd Τ p|exact Fo h
   rcases eV with _|⟨x,_|⟨y,_|⟨z,eV⟩⟩⟩
   ·cases b<;>cases h
   ·cases b<;>first|cases l|skip
    ·rcases n with _|⟨t,_|⟨t2,n⟩⟩
     ·cases h
     ·obtain⟨g,v,k,rfl⟩:=HJ (show La H (gH (ev x) (Ya C H t))=θ ro from h);obtain⟨c,j,q⟩:=lC k;refine⟨Τ,Τ,?_⟩;show La H2 (gH (ev x) (Ya C H2 t))=_;rw[j];show La H2 (Ya C H2 t c)=_;rw[lenC_H q (λid hid=>o id (Uo (x:=x) (by rw[j];exact hid) iK))];rfl
     ·cases h
    ·cases h
    ·cases h
   ·exact A x y (λe=>by subst e;cases l) rfl
   ·cases b<;>cases h
  exact key _ _ o h
end
open Go.Wk
open Go.Ce (Tr)
open Go.Op renaming operands → lG
open Nat renaming beq → cT, blt → iJ
section
variable{C:Cx}{ev:Β->SV}{H:δ Ob}
variable{a:Ob}{k:Nat}
theorem iw{x:Ob}(h:H[k]? =θ a):(H++[x])[k]? =θ a:=by rw[aI (aE.1 h).1];exact h
theorem ld{a:Type}{l:δ a}{j:Nat}{y:a}(h:k≠j):(jA l k y)[j]? =l[j]? :=by rw[xU,aA (λb=>h b.1.symm)]
theorem qs{op:Op}{ro:Ro}(h:iF C ev H op=θ ro)(r:∀q∈ro.m,q.1≠k)(hid:H[k]? =θ a):ro.H[k]? =θ a:=by
 cases G:Cm C op with
 |true=>have:=(Ii (H2:=H) G h (λ_ _ _ h=>h)).1;rw[this];exact hid
 |false=>
  cases op<;>first|exact absurd (show μ=ν from G) aA2|cases h|skip
  case convert s t x=>
   obtain⟨c,E,d⟩:=lC (show gH (ev x) (Zc C H s t)=θ ro from h);unfold Zc at d;split at d
   ·have p:=(dD (dD d).2).2;split at p
    ·cases p;exact hid
    ·cases p
   ·split at d
    ·split at d
     ·have p:=(dD (dD d).2).2;cases p;exact iw hid
     ·obtain⟨g,v,_,rfl⟩:=HJ d;exact hid
    ·obtain⟨g,v,_,rfl⟩:=HJ d;exact hid
  case slice t x F J Q=>
   have A:wB C t=ν:=G;cases Q with
   |some m=>cases h
   |none=>
    have h:(bif wB C t then La H (gH (ev x) λw=>Gq ev F λi=>Gq ev J λj=>gr w i j)else gH (ev x) λw=>Gq ev F λi=>Gq ev J λj=>Gp C H t w i j)=θ ro:=h;rw[A]at h;obtain⟨c,E,d⟩:=lC (show gH (ev x) (λw=>Gq ev F λi=>Gq ev J λj=>Gp C H t w i j)=θ ro from h);have key:∀i j,Gp C H t c i j=θ ro->ro.H[k]? =θ a:=λi j I=>by obtain⟨z,O,T,l,_,_,_,_,_,K⟩:=Cs I;rcases K with⟨b,a0,_,_,_,rfl⟩|⟨b,a0,_,_,_,rfl⟩<;>exact iw hid
    rcases XK d with⟨f,u⟩|⟨o,b,f,u,R⟩
    ·rcases XK u with⟨M,D⟩|⟨a,S,M,D,L⟩
     ·exact key _ _ D
     ·exact key _ _ L
    ·rcases XK R with⟨M,D⟩|⟨a,S,M,D,L⟩
     ·exact key _ _ D
     ·exact key _ _ L
  case alloc e=>
   simp only[iF]at h;split at h
   ·cases h;exact iw hid
   ·cases h
  case box e x=>
   simp only[iF]at h;split at h
   ·cases h;exact iw hid
   ·cases h
  case buildSlice t n W=>
   simp only[iF,asu]at h;split at h
   ·split at h
    ·have p:=(dD (dD h).2).2;split at p
     ·cases p;exact iw hid
     ·cases p
    ·cases h
   ·cases h
  case store t x y=>
   obtain⟨c,E,d⟩:=lC (show gH (ev x) (λw=>Il C H t w (ev y))=θ ro from h);unfold Il at d;split at d
   ·rename_i n U _ _;have d:=(dD d).2;split at d
    ·split at d
     ·split at d
      ·cases d;rw[ld (r _ iK)];exact hid
      ·cases d
     ·cases d
    ·rename_i z j V off;cases N:cT n 0 with
     |true=>rw[N]at d;cases d
     |false=>
      rw[N]at d;simp only[aJ]at d;split at d
      ·split at d
       ·have p:=(dD d).2;cases p;rw[ld (r _ iK)];exact hid
       ·cases d
      ·split at d
       ·split at d
        ·have p:=(dD d).2;cases p;rw[ld (r _ iK)];exact hid
        ·cases d
       ·cases d
      ·cases d
    ·cases d
   ·cases d
  case makeSlice t x y=>
   obtain⟨w,E,d⟩:=lC (h);obtain⟨c,p,f⟩:=lC d;unfold Ct at f;split at f
   ·have u:=(dD f).2;split at u
    ·cases u;exact iw hid
    ·cases u
   ·cases f
  case call c=>
   obtain⟨callee,eV,P⟩:=c;cases callee<;>first|cases h|skip
   rename_i b;have h:LG C ev H b eV.toList P.toList=θ ro:=h;unfold LG at h;split at h
   ·obtain⟨g,v,_,rfl⟩:=HJ h;exact hid
   ·rename_i x y t t2 Z O Y;cases B:cT t t2 with
    |true=>
     rw[B]at h;obtain⟨w,E,d⟩:=lC h;obtain⟨c,p,f⟩:=lC d;unfold rN at f;split at f
     ·split at f
      ·split at f
       ·cases f;exact iw hid
       ·cases f
      ·split at f
       ·cases f;exact iw aF1
       ·cases f
      ·split at f
       ·cases f;exact iw aF1
       ·cases f
      ·cases f
     ·cases f
    |false=>
     rw[B]at h;obtain⟨w,E,d⟩:=lC h;obtain⟨c,p,f⟩:=lC d;obtain⟨X,O,_,_,_,_,K⟩:=Eo f;rcases K with⟨_,rfl⟩|⟨z,l,_,_,rfl⟩
     ·exact iw hid
     ·exact iw aF1
   ·obtain⟨g,v,_,rfl⟩:=HJ h;exact hid
   ·cases h
end
variable{H:δ Ob}{o:Ob}{a:Nat}
theorem Bg{obs:δ Ob}(h:H[a]? =θ o):(H++obs)[a]? =θ o:=by rw[aI (aE.1 h).1];exact h
theorem Y8{ss:δ Src}:∀{r:δ Rk}{y:(fS r).T}{l:δ SA}{H:δ Ob},a∉kJ ss (Rk.ids r)->H[a]? =θ o->(fT (Is ss) (l,H) r y).2[a]? =θ o:=by
 have one:∀q v l (H:δ Ob),a∉kJ ss (Rk.ids [q])->H[a]? =θ o->(q.put (Is ss) (l,H) v).2[a]? =θ o:=by
  intro q v l H b g;cases q with
  |r' x=>exact Bg g
  |o' j e x=>exact Bg (by rw[ld (λe=>b (by show a∈[Is ss j];rw[e];exact aF.2 Τ))];exact g)
  |w' j x=>
   show(pX H _ x v)[a]? =θ o;unfold pX;split
   ·rw[ld (λe=>b (by show a∈[Is ss j];rw[e];exact aF.2 Τ))];exact g
   ·exact g
 intro r;induction r with
 |nil=>intro y l H _ g;exact g
 |cons q r f=>
  intro y l H b g;cases r with
  |nil=>exact one q y l H b g
  |cons d r=>
   have c:a∉kJ ss (Rk.ids [q])/\a∉kJ ss (Rk.ids (d::r)):=by
    cases q with
    |r' x=>exact⟨(λh=>by cases h),b⟩
    |o' i e x=>exact⟨λh=>b (aQ.2 (.inl (aF.1 h))),λh=>b (gN _ h)⟩
    |w' i x=>exact⟨λh=>b (aQ.2 (.inl (aF.1 h))),λh=>b (gN _ h)⟩
   exact f c.2 (one q y.1 l H c.1 g)
theorem HS{l:δ Nat}(h:a∈l):∃q∈Vh H l,q.1=a:=⟨_,bfr h,Τ⟩
theorem Oi{H:δ Ob}:∀{l:δ Nat}{id:Nat},id∈l->∃q∈Zi H l,q.1=id
 |x::l,id,h=>by
  rcases aQ.1 h with rfl|h
  ·exact⟨_,iK,Τ⟩
  ·obtain⟨q,b,a⟩:=Oi h;exact⟨q,gN _ b,a⟩
section
variable{C:Cx}{Ω:δ Ι}{S S1:St}{o:Ι}
theorem Tw:∀(t:Ty) (s n c) x,t.no=0->(t.lay s n x).1=(t.lay s c x).1:=by
 intro t;induction t with
 |w' t d=>intro s n c x h;exact d s n c x h
 |pr a b g f=>
  intro s n c x h;have j:a.no=0:=by have:a.no+b.no=0:=h;omega
  have i:b.no=0:=by have:a.no+b.no=0:=h;omega
  show(a.lay s n x.1).1++(b.lay s _ x.2).1=(a.lay s c x.1).1++(b.lay s _ x.2).1;rw[g s n c x.1 j,f s _ _ x.2 i]
 |f' k t d=>intro s n c x h;show [SC.f' k _]=[SC.f' k _];rw[d s n c x h]
 |l' e b t d=>intro s n c x h;cases h
 |y'=>intro s n c x h;cases h
 |r' t d=>intro s n c x h;cases h
 |p' e t d=>intro s n c x h;cases h
 |z'=>intro s n c x h;cases h
 |_=>intro s n c x h;rfl
variable{e:η}{H:δ Ob}
theorem qd{H2:δ Ob}:∀(t:Ty) s l,t.no=0->t.rd e H2 s l=t.rd e H s l/\∀x r ss,t.rd e H s l=θ (x,r,ss)->ss=[]:=by
 intro t;induction t with
 |w' t d=>intro s l h;exact d s l h
 |pr a b i g=>
  intro s l h;have y:a.no=0:=by have:a.no+b.no=0:=h;omega
  have w:b.no=0:=by have:a.no+b.no=0:=h;omega
  obtain⟨o,n⟩:=i s l y;simp only[Ty.rd];rw[o];cases u:a.rd e H s l with
  |none=>exact⟨Τ,λx r ss h=>by cases h⟩
  |some q=>
   obtain⟨x,f,D⟩:=q;obtain⟨A,z⟩:=g s f w;simp only;rw[A];cases m:b.rd e H s f with
   |none=>exact⟨Τ,λx r ss h=>by cases h⟩
   |some E=>refine⟨Τ,λx r ss h=> ?_⟩;cases h;rw[n _ _ _ u,z _ _ _ m];rfl
 |sm a b _ _=>intro s l h;exact⟨Τ,λx r ss h=>by cases h⟩
 |l' F b t d=>intro s l h;cases h
 |y'=>intro s l h;cases h
 |r' t d=>intro s l h;cases h
 |p' F t d=>intro s l h;cases h
 |z'=>intro s l h;cases h
 |u'=>intro s l h;exact⟨Τ,λx r ss h=>by cases h;rfl⟩
 |o' j=>
  intro s l h;refine⟨Τ,λx r ss h=> ?_⟩;simp only[Ty.rd]at h;split at h
  ·have:=dD h;cases this.2;rfl
  ·cases h
 |f' k t d=>
  intro s l h;simp only[Ty.rd];split
  ·rename_i k' p f;obtain⟨o,n⟩:=d s _ h;rw[o];refine⟨Τ,λx r ss h=> ?_⟩;have h:=(dD h).2;split at h
   ·rename_i B C m;cases h;have:=dD m;exact n _ _ _ this.2
   ·cases h
  ·exact⟨Τ,λx r ss h=>by cases h⟩
 |_=>intro s l h;refine⟨Τ,λx r ss h=> ?_⟩;obtain⟨c,_,_,v⟩:=nF h;exact v
variable{v:SV}
theorem CV{H2:δ Ob}{x:Ty}(h:x.no=0):TC e H2 x v=TC e H x v/\∀y ss,TC e H x v=θ (y,ss)->ss=[]:=by
 have key:∀l,Rf (x.rd e H2 0 l)=Rf (x.rd e H 0 l)/\∀y ss,Rf (x.rd e H 0 l)=θ (y,ss)->ss=[]:=by
  intro l;obtain⟨d,b⟩:=qd x 0 l h;rw[d];refine⟨Τ,λy ss h=> ?_⟩;unfold Rf at h;split at h
  ·rename_i a;cases h;exact b _ _ _ a
  ·cases h
 cases v with
 |c' c=>simp only[TC];cases x.tz<;>cases x.agg<;>simp<;>first|exact key _|exact⟨Τ,λy ss h=>by cases h⟩|exact⟨trivial,λy ss h=>by cases h⟩
 |a' l=>simp only[TC];cases x.tz<;>cases x.agg<;>simp<;>first|exact key _|exact⟨Τ,λy ss h=>by cases h⟩|exact⟨trivial,λy ss h=>by cases h⟩
 |_=>exact⟨Τ,λy ss h=>by cases h⟩
theorem Ky{H H2:δ Ob}:∀l vs,Ba l=μ->NW H2 l vs=NW H l vs/\∀y ss,NW H l vs=θ (y,ss)->ss=[]
 |[],vs,h=>by
  cases vs with
  |nil=>exact⟨Τ,λy ss h=>by cases h;rfl⟩
  |cons v vs=>exact⟨Τ,λy ss h=>by cases h⟩
 |[x],vs,h=>by
  have h:=gY (h);have hx:=gO h.1
  match vs with
  |[]=>exact⟨Τ,λy ss h=>by cases h⟩
  |[v]=>exact CV hx
  |_::_::_=>exact⟨Τ,λy ss h=>by cases h⟩
 |x::y::l,vs,h=>by
  have h:=gY (h);have hx:=gO h.1
  match vs with
  |[]=>exact⟨Τ,λy ss h=>by cases h⟩
  |v::vs=>
   obtain⟨f,e⟩:=CV hx;obtain⟨d,c⟩:=Ky _ vs h.2;simp only[NW];rw[f];cases b:TC μ H x v with
   |none=>exact⟨Τ,λy ss h=>by cases h⟩
   |some q=>
    rw[d];cases a:NW H _ vs with
    |none=>exact⟨Τ,λy ss h=>by cases h⟩
    |some g=>refine⟨Τ,λy ss h=> ?_⟩;cases h;rw[e _ _ b,c _ _ a];rfl
theorem Tx:∀l H x,Ba l=μ->(iT H l x).2=H
 |[],H,x,h=>rfl
 |[t],H,x,h=>by have h:=gY (show(bif cT t.no 0 then Ba []else ν)=μ from h);show H++(t.lay 0 (γ H) x).2=H;rw[Gh ((Ty.eD t 0 (γ H) x).trans (gO h.1)),gV]
 |t::y::l,H,x,h=>by have h:=gY (show(bif cT t.no 0 then Ba (y::l)else ν)=μ from h);show(iT (H++(t.lay 0 (γ H) x.1).2) (y::l) x.2).2=H;rw[Gh ((Ty.eD t 0 (γ H) x.1).trans (gO h.1)),gV];exact Tx _ H x.2 h.2
theorem oP{k:Rk}{l:δ Rk}(h:vW (k::l)=μ):∃x,k=.r' x/\x.no=0/\vW l=μ:=by
 cases k with
 |r' x=>have h:=gY (h);exact⟨x,Τ,gO h.1,h.2⟩
 |_=>cases h
theorem Cn{a:Nat->Nat}:∀r y l H,vW r=μ->(fT a (l,H) r y).2=H/\∀H2,(fT a (l,H2) r y).1=(fT a (l,H) r y).1
 |[],y,l,H,h=>⟨Τ,λ_=>rfl⟩
 |[k],y,l,H,h=>by
  obtain⟨x,rfl,hx,_⟩:=oP h;have e:∀n,(x.lay 0 n y).2=[]:=λn=>Gh ((Ty.eD x 0 n y).trans hx);refine⟨?_,λH2=> ?_⟩
  ·show H++(x.lay 0 (γ H) y).2=H;rw[e,gV]
  ·show l++[x.sa (x.lay 0 (γ H2) y).1]=l++[x.sa (x.lay 0 (γ H) y).1];rw[Tw x 0 (γ H2) (γ H) y hx]
 |k::b::r,y,l,H,h=>by
  obtain⟨x,rfl,hx,d⟩:=oP h;have e:∀n,(x.lay 0 n y.1).2=[]:=λn=>Gh ((Ty.eD x 0 n y.1).trans hx);have c:∀H,fT a (l,H) (.r' x::b::r) y=fT a (l++[x.sa (x.lay 0 0 y.1).1],H) (b::r) y.2:=λH=>by show fT a (l++[x.sa (x.lay 0 (γ H) y.1).1],H++(x.lay 0 (γ H) y.1).2) (b::r) y.2=_;rw[e,gV,Tw x 0 (γ H) 0 y.1 hx]
  rw[c];obtain⟨g,f⟩:=Cn _ y.2 _ H d;refine⟨g,λH2=> ?_⟩;rw[c];exact f H2
theorem EO:∀r,vW r=μ->Rk.ids r=[]
 |[],h=>rfl
 |k::r,h=>by obtain⟨x,rfl,_,a⟩:=oP h;exact EO r a
theorem Sx{H H2:δ Ob}{ss:δ Src}:∀r,vW r=μ->Kp H2 ss r=Kp H ss r
 |[],h=>rfl
 |k::r,h=>by obtain⟨x,rfl,_,a⟩:=oP h;simp only[Kp];rw[Sx r a]
theorem Ur:∀{l:δ wH}{c:wH},c∈l->eu l=μ->Ba c.a=μ/\vW c.r=μ
 |x::l,c,b,h=>by
  have h:=gY (h);have d:=gY h.2;rcases aQ.1 b with rfl|b
  ·exact⟨h.1,d.1⟩
  ·exact Ur b d.2
variable{c:wH}{d:ε Nat}{b:δ Src}{a:(fK c.a).T}{y:(fS c.r).T}
theorem sT{t:Nat}:(kO c S d a b y).at t=if d=θ t then kH (fT (Is b) ([],kill S.H (kL (Rk.ids c.r) (iT [] c.a a).2 0 b)) c.r y).1 else S.at t:=by have e:kO c S d a b y=St.wU _ d _:=Τ;rw[e,uQ];rfl
theorem Zm{S:St}:(S.wU d v).H=S.H/\(S.wU d v).m=S.m/\(S.wU d v).nb=S.nb/\(S.wU d v).al=S.al:=by cases d<;>exact⟨Τ,Τ,Τ,Τ⟩
theorem VZ:(kO c S d a b y).H=(fT (Is b) ([],kill S.H (kL (Rk.ids c.r) (iT [] c.a a).2 0 b)) c.r y).2/\(kO c S d a b y).m=kP c S a b++S.m/\(kO c S d a b y).nb=S.nb/\(kO c S d a b y).al=S.al:=by exact⟨Zm.1,Zm.2.1,Zm.2.2.1,Zm.2.2.2⟩
theorem bct{d:ε Nat}{y:(fS c.r).T}(g:Ba c.a=μ)(b:vW c.r=μ):(kO c S d a [] y).H=S.H/\(kO c S d a [] y).m=S.m/\kP c S a []=[]/\∀S2:St,kH (fT (Is []) ([],kill S2.H (kL (Rk.ids c.r) (iT [] c.a a).2 0 [])) c.r y).1=kH (fT (Is []) ([],kill S.H (kL (Rk.ids c.r) (iT [] c.a a).2 0 [])) c.r y).1:=by
 have e:kL (Rk.ids c.r) (iT [] c.a a).2 0 []=[]:=by rw[Tx c.a [] a g];rfl
 have f:kP c S a []=[]:=by unfold kP;rw[e,EO c.r b];rfl
 refine⟨?_,?_,f,λS2=> ?_⟩
 ·rw[VZ.1,e];exact(Cn c.r y [] S.H b).1
 ·rw[VZ.2.1,f];rfl
 ·rw[e];show kH (fT _ ([],S2.H) c.r y).1=kH (fT (Is []) ([],S.H) c.r y).1;rw[(Cn c.r y [] S.H b).2 S2.H]
theorem ar{ev:Β->SV}{op:Op}{ro:Ro}(h:iF C ev H op=θ ro)(a:qt C op=μ):Cm C op=μ:=by
 unfold qt at a;cases b:Cm C op with
 |true=>rfl
 |false=>
  rw[b]at a;split at a
  ·rename_i c;split at a
   ·rename_i k d;simp only[iF,d]at h;cases h
   ·cases a
  ·cases a
theorem Oj(h:CallT C S o S1)(e:qt C o.op=μ):∃b f k d c a y,o.op=.call b/\b.callee=.value f/\S.ev C f=.c' (.f' k d)/\c∈C.X k/\NW S.H c.a (b.args.toList.map (S.ev C)++VT d)=θ (a,[])/\lX c S a []=μ/\(c.f a).ok y/\S1=kO c S o.dst a [] y/\Ba c.a=μ/\vW c.r=μ:=by
 obtain⟨b,f,k,d,c,a,w,y,g,p,n,u,t,l,x,q⟩:=h.ex;unfold qt at e;rw[g]at e;have j:Cm C (.call b)=ν:=by
  show(match b.callee with
   |.builtin .len=>μ
   |.builtin .min=>μ
   |.builtin .max=>μ
   |_=>ν)=ν
  rw[p]
 rw[j]at e;simp only[p]at e;split at e
 ·rename_i s m;cases m;have i:S.ev C (.func s)=.c' (.f' s []):=Τ;cases n;obtain⟨v,z⟩:=Ur u e;obtain rfl:=(Ky (H:=S.H) (H2:=S.H) c.a _ v).2 a w t;exact⟨b,_,_,_,c,a,y,g,p,i,u,t,l,x,q,v,z⟩
 ·cases e
theorem jy(h:HK C Ω S o S1):(∀t,o.dst≠θ t->S1.at t=S.at t)/\S1.nb=S.nb/\S1.al=S.al:=by
 cases h with
 |op j ro h r i p=>refine⟨λt g=> ?_,Zm.2.2.1,Zm.2.2.2⟩;rw[uQ,aA g];rfl
 |mv j x d b hx i q=>exact⟨λt g=>by rw[kR,aA (λe=>g (by rw[i,e]))],Τ,Τ⟩
 |skip j d i=>exact⟨λt g=>by rw[kR,aA (λe=>g (by rw[i,e]))],Τ,Τ⟩
 |call j _ h=>obtain⟨m,f,k,l,c,a,n,y,_,_,_,_,_,_,_,rfl⟩:=h;exact⟨λt g=>by rw[sT,aA g],VZ.2.2.1,VZ.2.2.2⟩
theorem Vo(h:HK C Ω S o S1)(g:qt C o.op=μ):S1.H=S.H/\S1.m=S.m:=by
 cases h with
 |op e ro h s i q=>have:=Ii (ar h g) h (λ_ _ _ h=>h);refine⟨Zm.1.trans this.1,Zm.2.1.trans ?_⟩;rw[this.2.1];rfl
 |mv e x d b hx i r=>exact⟨Τ,Τ⟩
 |skip e d i=>exact⟨Τ,Τ⟩
 |call e _ h=>obtain⟨p,f,k,n,c,a,y,_,_,_,_,_,_,_,rfl,l,j⟩:=Oj h g;exact⟨(bct l j).1,(bct l j).2.1⟩
theorem QQ(h:HK C Ω S o S1):∃p,S1.m=p++S.m/\∀id e,(∀q∈p,q.1≠id)->fC S.H id=θ e->fC S1.H id=θ e:=by
 cases h with
 |op j ro h z r v=>refine⟨ro.m,Zm.2.1,λid e g hid=> ?_⟩;rw[gA]at hid⊢;rw[Zm.1];exact qs h g hid
 |mv j x d b hx r w=>exact⟨[],Τ,λid e _ h=>h⟩
 |skip j d r=>exact⟨[],Τ,λid e _ h=>h⟩
 |call j _ h=>
  obtain⟨u,f,k,t,c,a,s,y,_,_,_,_,_,_,_,rfl⟩:=h;refine⟨kP c S a s,VZ.2.1,λid e g hid=> ?_⟩;rw[gA]at hid⊢;rw[VZ.1];refine Y8 (λi=> ?_) ?_
  ·obtain⟨q,n,l⟩:=Oi i;exact g q (XV _ n) l
  ·rw[QM,aA (λi=> ?_)]
   ·exact hid
   ·obtain⟨q,n,l⟩:=HS i;exact g q (XU _ n) l
theorem Cu{S S2:St}(a:S2.nb=S.nb)(b:S2.al=S.al):∀l,S2.Fp l=S.Fp l
 |[]=>rfl
 |x::l=>by show(bif S2.ok x then S2.Fp l else ν)=(bif S.ok x then S.Fp l else ν);rw[Cu a b l];unfold St.ok;rw[a,b]
theorem jx(h:HK C Ω S o S1){S2:St}(ho:∀t,Operand.tmp t∈o.op.operands->S2.at t=S.at t)(a0:∀t∈Ui Ω o,S2.at t=S.at t)(l:S2.nb=S.nb)(n:S2.al=S.al)
  (hq:qt C o.op=μ->xh S.H S2.H (Un (S.ev C) o.op)) (M:qt C o.op=ν->S2.H=S.H):
  ∃K,HK C Ω S2 o K/\(∀t,K.at t=if o.dst=θ t then S1.at t else S2.at t)/\K.nb=S.nb/\K.al=S.al/\(qt C o.op=μ->K.H=S2.H/\K.m=S2.m)/\(qt C o.op=ν->K.H=S1.H/\∀R,S1.m=R++S.m->K.m=R++S2.m):=by
 have s:∀x∈o.op.operands,S2.ev C x=S.ev C x:=by
  intro x hx;cases x with
  |tmp t=>show(bif iJ t C.nn then S2.at t else .u')=(bif iJ t C.nn then S.at t else .u');rw[ho t hx]
  |_=>rfl
 have z:∀b,WU C Ω S o b->WU C Ω S2 o b:=by
  intro b D;have gs:∀q dg,o.guard=θ q->EX Ω q.1=θ dg->S2.at dg=S.at dg:=by intro q dg A G;refine a0 dg ?_;unfold Ui;rw[A];simp only[G,aF]
  cases D with
  |none h=>exact .none h
  |yes q dg h A G U=>exact .yes q dg h A G aF3
  |no q dg h A G U=>exact .no q dg h A G aF3
  |un q dg h A G U=>exact .un q dg h A G aF3
 have X:= @Ii C;cases h with
 |op D ro h ha I hm=>
  cases i:qt C o.op with
  |true=>
   have A:=Ii (ar h i) h (hq i);have G:iF C (S2.ev C) S2.H o.op=θ ⟨ro.g,ro.v,S2.H,[]⟩:=by rw[Tg s];exact A.2.2
   refine⟨_,.op (z _ D) _ G ha I Τ,λt=> ?_,Zm.2.2.1.trans l,Zm.2.2.2.trans n,λ_=>⟨Zm.1,Zm.2.1⟩,λe=>by cases e⟩;rw[uQ,uQ];split<;>rfl
  |false=>
   have J:=M i;have G:iF C (S2.ev C) S2.H o.op=θ ro:=by rw[Tg s,J];exact h
   refine⟨_,.op (z _ D) ro G ha I (by rw[Cu l n];exact hm),λt=> ?_,Zm.2.2.1.trans l,Zm.2.2.2.trans n,(λe=>by cases e),λ_=>⟨by rw[Zm.1,Zm.1],λR j=> ?_⟩⟩
   ·rw[uQ,uQ];split<;>rfl
   ·rw[Zm.2.1]at j⊢;have:=List.append_cancel_right j;show ro.m++S2.m=_;rw[this]
 |mv D x d b hx I hb=>
  have W:x∈o.op.operands:=by
   obtain⟨a4,op,ty,pos,Ψ,gd⟩:=o;cases op<;>first|cases hx|skip
   ·simp[lG]
   ·simp[lG]
  have i:qt C o.op=μ:=by
   obtain⟨a4,op,ty,pos,Ψ,gd⟩:=o;cases op<;>first|cases hx|skip
   ·rfl
   ·rfl
  refine⟨_,.mv (z _ D) x d b hx I (by rw[s x W];exact hb),λt=> ?_,l,n,λ_=>⟨Τ,Τ⟩,λe=>by rw[i]at e;cases e⟩;rw[kR,kR,I];by_cases e:t=d
  ·subst e;simp
  ·have e2:¬(θ d)=θ t:=λM=>e (aP M).symm;rw[aA e,aA e2]
 |skip D d I=>
  have a2:∀t,(S2.set d .n').at t=if o.dst=θ t then(S.set d .n').at t else S2.at t:=by
   intro t;rw[kR,kR,I];by_cases e:t=d
   ·subst e;simp
   ·have e2:¬(θ d)=θ t:=λM=>e (aP M).symm;rw[aA e,aA e2]
  exact⟨_,.skip (z _ D) d I,a2,l,n,λ_=>⟨Τ,Τ⟩,λi=>⟨M i,λR j=>by have j:=j;have:R=[]:=List.append_left_eq_self.1 j.symm;rw[this];rfl⟩⟩
 |call D _ h=>
  cases i:qt C o.op with
  |true=>
   obtain⟨u,f,k,L,c,a,y,p,T,N,hc,Y,w,V,rfl,F,E⟩:=Oj h i;have O:f∈o.op.operands:=by rw[p];simp[lG,Call.operands,T]
   have P:u.args.toList.map _=u.args.toList.map _:=map_congr λx hx=>s x (by rw[p];simp only[lG,Call.operands,yH];exact .inr aD7);have e0:∀Z:St,kP c Z a []=[]:=λZ=>(bct (S:=Z) (d:=ι) (y:=y) F E).2.2.1;have B:lX c S2 a []=μ:=by unfold lX at w⊢;rw[e0,Sx c.r E];rw[e0]at w;exact w
   refine⟨_,.call (z _ D) _ ⟨u,f,k,L,c,a,[],y,p,T,by rw[s f O];exact N,hc,by rw[P,(Ky c.a _ F).1];exact Y,B,V,Τ⟩,λt=> ?_,VZ.2.2.1.trans l,VZ.2.2.2.trans n,λ_=>⟨(bct F E).1,(bct F E).2.1⟩,(λe=>by cases e)⟩;rw[sT,sT];by_cases e:o.dst=θ t
   ·rw[aB e,aB e,aB e];exact(bct (S:=S) (d:=ι) F E).2.2.2 S2
   ·rw[aA e,aA e]
  |false=>
  have J:=M i;obtain⟨u,f,k,L,c,a,Q,y,p,T,N,hc,Y,w,V,rfl⟩:=h;have O:f∈o.op.operands:=by rw[p];simp[lG,Call.operands,T]
  have P:u.args.toList.map _=u.args.toList.map _:=map_congr λx hx=>s x (by rw[p];simp only[lG,Call.operands,yH];exact .inr aD7)
  have B:lX c S2 a Q=μ:=by
   unfold lX at w⊢;rw[Cu l n,J];have e:kP c S2 a Q=kP c S a Q:=by unfold kP;rw[J]
   rw[e];exact w
  refine⟨_,.call (z _ D) _ ⟨u,f,k,L,c,a,Q,y,p,T,by rw[s f O];exact N,hc,by rw[P,J];exact Y,B,V,Τ⟩,λt=> ?_,VZ.2.2.1.trans l,VZ.2.2.2.trans n,(λe=>by cases e),λ_=>⟨?_,λR j=> ?_⟩⟩
  ·rw[sT,sT,J];split<;>rfl
  ·rw[VZ.1,VZ.1,J]
  ·rw[VZ.2.1]at j⊢;have:=List.append_cancel_right j;have e:kP c S2 a Q=kP c S a Q:=by unfold kP;rw[J]
   rw[e,this]
end
open Go.Wk
open Go.Ce (Tr)
open Go.Op renaming operands → lG
open Nat renaming beq → cT, succ → qN
theorem GC:∀l A,(∃B,gK l A=A++B)/\∀i o,l[i]? =θ o->(gK l A)[γ A+i]? =θ (Ow ((gK l A).take (γ A+i)) o.after.toList)
 |[],A=>⟨⟨[],by simp[gK]⟩,λi o h=>by simp at h⟩
 |o::l,A=>by
  obtain⟨⟨B,b⟩,c⟩:=GC l (A++[Ow A o.after.toList]);have e:gK (o::l) A=gK l (A++[Ow A o.after.toList]):=Τ;refine⟨⟨[Ow A o.after.toList]++B,by rw[e,b,nW]⟩,λi a h=> ?_⟩;cases i with
  |zero=>have h:o=a:=aA8;subst h;rw[e,b];simp
  |succ i=>have:=c i a aA8;rw[cR,fE,Cb,Ie 1 i]at this;exact this
theorem Jw{j:Nat}:∀{l r:δ Nat},j∈RN l r↔j∈l\/j∈r
 |[],r=>by simp[RN]
 |x::l,r=>by
  unfold RN;cases h:lB x r with
  |true=>have hx:=Vl.1 h;rw[aO,Jw,aQ];exact⟨λh=>h.elim (λh=>.inl (.inr h)) .inr,λh=>h.elim (λh=>h.elim (λe=>.inr (e▸hx)) .inl) .inr⟩
  |false=>rw[aJ,Jw,aQ,aQ];exact⟨λh=>h.elim (λh=>.inl (.inr h)) (λh=>h.elim (λe=>.inl (.inl e)) .inr),λh=>h.elim (λh=>h.elim (λe=>.inr (.inl e)) .inl) (λh=>.inr (.inr h))⟩
theorem GD{A:δ (δ Nat)}{j:Nat}:∀{l:δ Edge},j∈Ow A l↔∃e∈l,Region.binds .any e=μ/\(j=e.on\/j∈Om A e.on)
 |[]=>by simp[Ow]
 |e::l=>by
  have a:=GD (A:=A) (j:=j) (l:=l);simp only[Ow];cases b:Region.binds .any e with
  |true=>simp only[aO,Jw,aQ,a,exists_eq_or_imp,b,true_and];exact Iff.rfl
  |false=>simp only[aJ,a,aQ,exists_eq_or_imp,b,Bool.false_eq_true,false_and,false_or]
theorem nN:∀{l:δ Ι}{i:Nat},Oo l i=μ->∀j o,l[j]? =θ o->∀e∈o.after,Region.binds .any e=μ->e.on<i+j
 |[],i,_,j,o,a=>by simp at a
 |x::l,i,h,j,o,a=>by
  have h:=gY (h);intro e b c;cases j with
  |zero=>have a:x=o:=aC1;subst a;have:=aT.1 h.1 e aC2;rw[c]at this;simpa [oZ] using this
  |succ j=>have:=nN h.2 j o aC1 e b c;omega
theorem Ox{A:δ (δ Nat)}{k i:Nat}(h:i<k):Om (A.take k) i=Om A i:=by unfold Om;rw[gA,gA,bO,aB h]
section
variable{l:δ Ι}
variable{i:Nat}
theorem QO(g:Oo l 0=μ){o:Ι}(f:l[i]? =θ o){j:Nat}:j∈Om (gK l []) i↔∃e∈o.after,Region.binds .any e=μ/\(j=e.on\/j∈Om (gK l []) e.on):=by
 have h:=(GC l []).2 i o f;rw[tU,Ps]at h;have e:Om (gK l []) i=Ow ((gK l []).take i) o.after.toList:=by unfold Om;rw[gA,h]
 rw[e,GD];constructor
 ·rintro⟨e,c,b,d⟩;have a:e∈o.after:=aC6;have:=nN g i o f e a b;rw[Ox aA0]at d;exact⟨e,a,b,d⟩
 ·rintro⟨e,c,b,d⟩;have:=nN g i o f e c b;refine⟨e,aC6,b,?_⟩;rw[Ox aA0];exact d
theorem LD(h:l[i]? =ι):Om (gK l []) i=[]:=by
 have key:∀l A,γ (gK l A)=γ A+γ l:=by
  intro l;induction l with
  |nil=>intro A;rfl
  |cons o l a=>intro A;rw[show gK (o::l) A=gK l _ from rfl,a];simp;omega
 unfold Om;have c:=List.getElem?_eq_none_iff.1 h;have b:=key l [];rw[gA,bG (by simp at b;omega)]
theorem LC(d:Oo l 0=μ):∀i j,j∈Om (gK l []) i->j<i:=by
 intro i;induction i using Nat.strongRecOn with
 |_ i f=>
  intro j b;cases a:l[i]? with
  |none=>rw[LD a]at b;cases b
  |some o=>
   obtain⟨e,g,h,c⟩:=(QO d a).1 b;have k:=nN d i o a e g h;rcases c with rfl|c
   ·omega
   ·have:=f e.on aA0 j c;omega
theorem Ov{Ω:Array Ι}{listed:Array η}(w:l=Ω.toList.take i)(s:Oo l 0=μ)(g:HeadInv .any Ω i listed):∀k o,l[k]? =θ o->(∀e∈o.after,Region.binds .any e=μ->listed.getD e.on ν=μ)->∀j∈Om (gK l []) k,listed.getD j ν=μ:=by
 intro k;induction k using Nat.strongRecOn with
 |_ k v=>
  intro o m d j x;obtain⟨e,r,u,q⟩:=(QO s m).1 x;have A:=nN s k o m e r u;have t:=d e r u;rcases q with rfl|q
  ·exact t
  ·have z:=(aE.1 m).1;have c:e.on<γ l:=by omega
   obtain⟨f,b⟩:∃f,l[e.on]? =θ f:=⟨_,aN c⟩
   have h:Ω[e.on]? =θ f:=by
    have a:=b;rw[w,bO]at a;split at a
    ·simpa using a
    ·cases a
   exact v e.on aA0 _ b (λy n p=>g.closed e.on _ h t y n p) j q
end
theorem Tf{A:δ (δ Nat)}{i:Nat}{rd:δ Nat}:∀{l:δ Ι}{a:Nat},Xv A i rd l a=μ->∀j (o:Ι) (d:Nat),l[j]? =θ o->o.dst=θ d->d∈rd->i=a+j\/DE A i (a+j)=μ
 |[],a,_,j,o,d,b=>by simp at b
 |x::l,a,h,j,o,d,b=>by
  have h:=gY (h);intro f e;cases j with
  |zero=>
   have b:x=o:=aC2;subst b;have c:=h.1;rw[f]at c;simp only[Vl.2 e]at c;cases g:cT i a with
   |true=>exact .inl (gO g)
   |false=>rw[g]at c;exact .inr c
  |succ j=>have:=Tf h.2 j o d aC2 f e;rw[show qN a+j=a+(j+1)by omega]at this;exact this
theorem Lm{Ω:δ Ι}{A:δ (δ Nat)}{all:δ Ι}:∀{l:δ Ι}{a:Nat},Ik Ω A all l a=μ->∀i o,l[i]? =θ o->Xv A (a+i) (zR o.op.operands.toList++Ui Ω o) all 0=μ
 |[],a,_,i,o,b=>by simp at b
 |x::l,a,h,i,o,b=>by
  have h:=gY (h);cases i with
  |zero=>have b:x=o:=aC2;subst b;exact h.1
  |succ i=>have:=Lm h.2 i o aC2;rw[show qN a+i=a+(i+1)by omega]at this;exact this
theorem Tl{A:δ (δ Nat)}{i:Nat}{q:η×δ Nat}:∀{l:δ (η×δ Nat)}{a:Nat},Xy A i q l a=μ->∀j p,l[j]? =θ p->i≠a+j->DE A i (a+j)=ν->p.1=μ->q.1=ν/\∀x∈q.2,x∉p.2
 |[],a,_,j,p,b=>by simp at b
 |x::l,a,h,j,p,b=>by
  have h:=gY (h);intro g d f;cases j with
  |zero=>
   have b:x=p:=aC2;subst b;have c:=h.1;have k:cT i a=ν:=by rw[beqN];simp;omega
   rw[Rt]at d;rw[k,d,f]at c;cases e:q.1 with
   |true=>rw[e]at c;cases c
   |false=>rw[e]at c;exact⟨Τ,sN.1 c⟩
  |succ j=>refine Tl h.2 j p aC2 aA0 ?_ f;rw[show qN a+j=a+(j+1)by omega];exact d
theorem DH{A:δ (δ Nat)}{all:δ (η×δ Nat)}:∀{l:δ (η×δ Nat)}{a:Nat},OH A all l a=μ->∀i q,l[i]? =θ q->Xy A (a+i) q all 0=μ
 |[],a,_,i,q,b=>by simp at b
 |x::l,a,h,i,q,b=>by
  have h:=gY (h);cases i with
  |zero=>have b:x=q:=aC2;subst b;exact h.1
  |succ i=>have:=DH h.2 i q aC2;rw[show qN a+i=a+(i+1)by omega]at this;exact this
theorem Te{C:Cx}{Ω:δ Ι}{ρ':Ty}{d:St->δ (η×δ Nat)->ε ρ'.T}{r:ρ'.T}:∀(l:δ Ι) (i:Nat) (S:St) (c:δ (η×δ Nat)),qq C Ω l i S c d=θ r->
  ∃(T:Nat->St) (es:δ (η×δ Nat)),T 0=S/\(∀(j:Nat) (o:Ι),l[j]? =θ o->HK C Ω (T j) o (T (j+1))/\es[j]? =θ (entry C (T j) (T (j+1)) o))/\d (T (γ l)) (c++es)=θ r
 |[],i,S,c,h=>⟨λ_=>S,[],Τ,λj o a=>by simp at a,by rw[gV];exact h⟩
 |o::l,i,S,c,h=>by
  obtain⟨b,n,m⟩:=BR (show SM C Ω i S o (λb=>qq C Ω l (qN i) b (c++[entry C S b o]) d)=θ r from h);obtain⟨T,es,k,g,f⟩:=Te l (qN i) b _ m;refine⟨λj=>match j with
   |0=>S
   |j+1=>T j,entry C S b o::es,Τ,λj e a=> ?_,by rw[nW]at f;exact f⟩
  cases j with
  |zero=>have a:o=e:=aC1;subst a;show HK C Ω S o (T 0)/\θ (entry C S b o)=θ (entry C S (T 0) o);rw[k];exact⟨n,Τ⟩
  |succ j=>exact g j e aC1
theorem Xz:∀l:δ Rg,rn l=γ l
 |[]=>rfl
 |_::l=>by show qN _=_;rw[Xz l];rfl
theorem EY:∀{a m:δ Rg}{q:Rg},q∈a->q.1∈tx (γ a) (a++m)
 |x::a,m,q,h=>by
  rcases aQ.1 h with rfl|h
  ·exact iK
  ·exact gN _ (EY h)
section
variable{C:Cx}{md:Md}{w0:φ}{S0:δ Nat}{GS:Br}
structure Way (C:Cx) (Ω:List Ι) (l:List Ι) (T:Nat->St) (es:List (Bool×List Nat)):Prop where
 st:∀(j:Nat) (o:Ι),l[j]? =θ o->HK C Ω (T j) o (T (j+1))/\es[j]? =θ (entry C (T j) (T (j+1)) o)
 nd:∀(i j:Nat) (o o2:Ι) (t:Nat),l[i]? =θ o->l[j]? =θ o2->o.dst=θ t->o2.dst=θ t->i=j
variable{Ω l:δ Ι}{T:Nat->St}{es:δ (η×δ Nat)}
theorem Way.at(h:Way C Ω l T es)(t:Nat):∀i,i<=γ l->(∀j (o:Ι),l[j]? =θ o->o.dst=θ t->(T i).at t=if j<i then(T (j+1)).at t else(T 0).at t)/\((∀(j:Nat) o,l[j]? =θ o->o.dst≠θ t)->(T i).at t=(T 0).at t)
 |0,_=>⟨λj o _ _=>by simp,λ_=>rfl⟩
 |i+1,q=>by
  obtain⟨p,n⟩:=h.at t i aA0;have a:l[i]? =θ _:=aN aA0;have b:=(jy (h.st i _ a).1).1;refine⟨λj o k m=> ?_,λg=> ?_⟩
  ·by_cases d:j=i
   ·subst d;rw[aB aA0]
   ·have f:(l[i]' aA0).dst≠θ t:=λe=>d (h.nd j i _ _ t k a m e);rw[b t f,p j o k m];by_cases c:j<i
    ·rw[aB c,aB aA0]
    ·rw[aA c,aA aA0]
  ·rw[b t (g i _ a)];exact n g
theorem Way.nb(h:Way C Ω l T es):∀i,i<=γ l->(T i).nb=(T 0).nb/\(T i).al=(T 0).al
 |0,_=>⟨Τ,Τ⟩
 |i+1,f=>by have a:l[i]? =θ _:=aN aA0;obtain⟨_,e,d⟩:=jy (h.st i _ a).1;obtain⟨c,b⟩:=h.nb i aA0;exact⟨e.trans c,d.trans b⟩
theorem Way.still(h:Way C Ω l T es):∀d i,i+d<=γ l->(∀j o,i<=j->j<i+d->l[j]? =θ o->qt C o.op=μ)->(T (i+d)).H=(T i).H/\(T (i+d)).m=(T i).m
 |0,i,_,_=>⟨Τ,Τ⟩
 |d+1,i,k,c=>by obtain⟨b,e⟩:=h.still d i aA0 (λj o b e=>c j o b aA0);have a:l[i+d]? =θ _:=aN aA0;obtain⟨g,f⟩:=Vo (h.st _ _ a).1 (c _ _ aA0 aA0 a);exact⟨g.trans b,f.trans e⟩
theorem Way.JR(h:Way C Ω l T es){id:Nat}{n:Ob}:∀(d i:Nat),i+d<=γ l->(∀(j:Nat) (o:Ι) (p:η×δ Nat),i<=j->j<i+d->l[j]? =θ o->es[j]? =θ p->p.1=μ->id∉p.2)->fC (T i).H id=θ n->fC (T (i+d)).H id=θ n
 |0,i,_,_,r=>r
 |d+1,i,w,g,r=>by
  have k:=h.JR d i aA0 (λj o p k s=>g j o p k aA0) r;have c:l[i+d]? =θ (l[i+d]' aA0):=aN aA0;obtain⟨s,v⟩:=h.st (i+d) _ c;have b:=g (i+d) _ _ aA0 aA0 c v;unfold entry at b;cases a:qt C (l[i+d]' aA0).op with
  |true=>show fC (T (i+d+1)).H id=_;rw[(Vo s a).1];exact k
  |false=>rw[a]at b;have b:=b Τ;obtain⟨f,u,t⟩:=QQ s;refine t id n (λq g e=>b ?_) k;rw[Xz,Xz,u,cR];show id∈tx (Nat.sub (γ f+γ (T (i+d)).m) (γ (T (i+d)).m)) (f++(T (i+d)).m);rw[show Nat.sub (γ f+γ (T (i+d)).m) (γ (T (i+d)).m)=γ f from Nat.add_sub_cancel _ _,<-e];exact EY g
theorem rel_at{ρ:Nat->Ad}{S S2:St}{F:Nat->ς}{w:φ}(h:Rel C w0 S0 ρ S F w)(b:∀t,S2.at t=S.at t)(a:S2.H=S.H):Rel C w0 S0 ρ S2 F w:=by
 refine⟨?_,λt v c=>h.fr t v (by rw[<-b];exact c),λt=>by rw[b,a];exact h.fo t,?_,?_⟩
 ·rw[a];exact h.gl
 ·rw[a];exact h.ho
 ·rw[a];exact h.mem
variable{n:Nat}
theorem eh{v:SV}{id:Nat}(h:v.ok n)(hid:id∈Vd v):id<n:=by unfold Vd at hid;split at hid;all_goals first|(cases hid;done)|(have e:=aF.1 hid;subst e;exact h _ (aF.2 Τ))
theorem VD{a:Β->SV}{op:Op}(h:n∈Un a op):∃x∈op.operands,n∈Vd (a x):=by
 have key:∀l:δ Β,n∈EZ a l->∃x∈l,n∈Vd (a x):=by
  intro l;induction l with
  |nil=>intro h;cases h
  |cons x l e=>
   intro h;rcases aZ.1 (h)with h|h
   ·exact⟨x,iK,h⟩
   ·obtain⟨y,d,b⟩:=e h;exact⟨y,gN _ d,b⟩
 cases op<;>first|(cases h;done)|skip
 case load t x=>exact⟨x,by simp[lG],h⟩
 case indexAddr t x f=>exact⟨x,by simp[lG],h⟩
 case convert s t x=>exact⟨x,by simp[lG],h⟩
 case call c=>
  obtain⟨x,d,b⟩:=key _ h;refine⟨x,?_,b⟩;simp only[lG,Call.operands,yH];exact .inr aD5
theorem min_mem:∀{U:δ Nat},U≠[]->∃i∈U,∀j∈U,i<=j
 |[x],_=>⟨x,iK,λj a=>by rw[aF.1 a];exact dC _⟩
 |x::y::U,_=>by
  obtain⟨i,c,b⟩:=min_mem (U:=y::U) aA2;by_cases h:x<=i
  ·exact⟨x,iK,λj a=>(aQ.1 a).elim (λe=>by rw[e];exact dC _) λa=>jZ h (b j a)⟩
  ·exact⟨i,gN _ c,λj a=>(aQ.1 a).elim (λe=>by rw[e];omega) (b j)⟩
theorem To{a:Type}:∀(l:δ a) k,QE l k=l.take k
 |[],k=>by simp[QE]
 |x::l,0=>rfl
 |x::l,k+1=>by simp[QE,To l k]
theorem Ga{Ω:Array Ι}:∀{k j:Nat},gf Ω k=θ j->HE Ω j=μ
 |0,j,h=>by have h:=dD h;cases h.2;exact h.1
 |k+1,j,h=>by
  have h:=dD h;have a:=h.2;split at a
  ·rename_i i b;cases a;exact Ga b
  ·cases a;exact h.1
theorem YZ:∀{l:δ Ι},(Fh l).Nodup->∀(i j:Nat) (o b) (t:Nat),l[i]? =θ o->l[j]? =θ b->o.dst=θ t->b.dst=θ t->i=j
 |[],_,i,j,o,b,t,a=>by simp at a
 |x::l,h,i,j,o,b,t,a=>by
  intro f g c;have m:∀(i:Nat) (o:Ι),l[i]? =θ o->o.dst=θ t->t∈Fh l:=by
   intro i o a g;have p:∀{l:δ Ι},o∈l->t∈Fh l:=by
    intro l;induction l with
    |nil=>intro h;cases h
    |cons y l n=>
     intro h;rw[yP];rcases aQ.1 h with rfl|h
     ·exact .inl g
     ·exact .inr (n h)
   exact p (aL a)
  have k:(Fh l).Nodup/\(x.dst=θ t->t∉Fh l):=by
   simp only[Fh]at h;cases hx:x.dst with
   |none=>rw[hx]at h;exact⟨h,λe=>by cases e⟩
   |some d=>rw[hx]at h;simp at h;exact⟨h.2,λe=>by cases e;exact h.1⟩
  cases i with
  |zero=>
   have a:x=o:=aC1;subst a;cases j with
   |zero=>rfl
   |succ j=>exact absurd (m j b aE0 c) (k.2 g)
  |succ i=>
   cases j with
   |zero=>have f:x=b:=aE0;subst f;exact absurd (m i o aC1 g) (k.2 c)
   |succ j=>have:=YZ k.1 i j o b t aC1 aE0 g c;omega
end
open Go.Wk
open Go.Ce (Tr)
open List renaming replicate → jM
open Nat renaming blt → iJ
section
variable{C:Cx}{md:Md}{w0:φ}{S0:δ Nat}{GS:Br}
variable{Ω:Array Ι}{l:δ Ι}{T:Nat->St}{es:δ (η×δ Nat)}{k:Nat}
structure Mid (C:Cx) (l:List Ι) (T:Nat->St) (listed:Array Bool) (X:St):Prop where
 at1:∀(t j:Nat) (o:Ι),l[j]? =θ o->o.dst=θ t->X.at t=if listed.getD j ν=μ then(T (j+1)).at t else(T 0).at t
 at2:∀t,(∀(j:Nat) (o:Ι),l[j]? =θ o->o.dst≠θ t)->X.at t=(T 0).at t
 nb:X.nb=(T 0).nb
 al:X.al=(T 0).al
 hv:∃h,h<=γ l/\X.H=(T h).H/\X.m=(T h).m/\∀(j:Nat) (o:Ι),l[j]? =θ o->qt C o.op=ν->(listed.getD j ν=μ↔j<h)
variable{a:Nat->Ad}
theorem VJ(hE:Env C md w0 S0 GS)(b9:md=⟨md.n,[],ι⟩)(hl:l=Ω.toList.take k)(hk:k<=Ω.size)(g3:HE Ω k=μ)(d4:Region.seqB .any Ω (Ω.size-k) k (jM k μ++jM (Ω.size-k) ν).toArray=μ)
  (hb:Oo l 0=μ) (g5:Ik Ω.toList (gK l []) l l 0=μ) (Y:Way C Ω.toList l T es) (e0:OH (gK l []) es es 0=μ) {Q:Exit->Act->φ->Prop}  {F0:Nat->ς}
  (e9:∀X ρ F w,Rel C w0 S0 ρ X F w->Nx (T 0) a X ρ->(∀t,X.at t=(T (γ l)).at t)->X.H=(T (γ l)).H->X.nb=(T (γ l)).nb->X.al=(T (γ l)).al->X.m=(T (γ l)).m->(∀t,t∉Fh l->F t=F0 t)->W C.P md Ω Q (Ω.toList.drop k) F w):
  ∀f (U:δ Nat) listed X ρ F w,γ U=f->U.Nodup->(∀i,i∈U↔i<k/\listed.getD i ν=ν)->HeadInv .any Ω k listed->Mid C l T listed X->Rel C w0 S0 ρ X F w->Nx (T 0) a X ρ->(∀t,t∉Fh l->F t=F0 t)->
   yQ C.P .any Ω Q (λ_ _ _=>True) k (λm w=>wpList C.P Ω Q (Ω.toList.drop k) m w) f listed (fr md F) w:=by
 have k0:γ l=k:=by rw[hl,iW,Array.length_toList];exact XX hk
 have a2:∀i,i<k->∃o,l[i]? =θ o/\Ω[i]? =θ o:=by
  intro i hi;have e5:i<Ω.size:=WY hi hk;refine⟨Ω[i],?_,fV e5⟩;have e:l[i]? =Ω.toList[i]? :=by rw[hl,bO,aB hi]
  rw[e,Array.getElem?_toList];exact fV e5
 have i9:∀{F:Nat->ς} {w:φ},W C.P md Ω Q (Ω.toList.drop k) F w->wpList C.P Ω Q (Ω.toList.drop k) (fr md F) w:=by intro F w h;unfold W WR at h;rw[b9]at h;rw[b9];exact h
 intro f;induction f with
 |zero=>
  intro U listed X ρ F w hU b7 R g Z hR hN hF;have j0:U=[]:=Gh hU;have I:∀i,i<k->listed.getD i ν=μ:=by
   intro i hi;cases hg:listed.getD i ν with
   |true=>rfl
   |false=>have:=(R i).2 ⟨hi,hg⟩;rw[j0]at this;cases this
  have c1:listed=(jM k μ++jM (Ω.size-k) ν).toArray:=by
   apply mf
   ·rw[g.size];simp;omega
   ·intro i r s;rw[g.size]at r;by_cases v:i<k
    ·have:=I i v;have e:listed.getD i ν=listed[i]:=by simp[Array.getD,g.size,r]
     rw[e]at this;rw[this];simp[v]
    ·have:=g.tail i aA0 r;have e:listed.getD i μ=listed[i]:=by simp[Array.getD,g.size,r]
     rw[e]at this;rw[this];simp[List.getElem_append,v]
  refine⟨by rw[c1];exact d4,i9 ?_⟩
  obtain⟨h,r,s,h3,h4⟩:=Z.hv;have b4:=Y.still (γ l-h) h aA0 (λj o k9 k8 b=>by
   cases z:qt C o.op with
   |true=>rfl
   |false=>have S:=(aE.1 b).1;have:=(h4 j o b z).1 (I j aA0);omega)
  rw[show h+(γ l-h)=γ l by omega]at b4;have d8:=Y.nb (γ l) (dC _);refine e9 X ρ F w hR hN (λt=> ?_) (s.trans b4.1.symm) (Z.nb.trans d8.1.symm) (Z.al.trans d8.2.symm) (h3.trans b4.2.symm) hF;obtain⟨h5,h6⟩:=Y.at t (γ l) (dC _);by_cases hw:∃(j:Nat) (o:Ι),l[j]? =θ o/\o.dst=θ t
  ·obtain⟨j,o,b,N⟩:=hw;have S:=(aE.1 b).1;rw[Z.at1 t j o b N,h5 j o b N,aB (I j aA0),aB S]
  ·have hn:∀(j:Nat) (o:Ι),l[j]? =θ o->o.dst≠θ t:=λj o b N=>hw ⟨j,o,b,N⟩;rw[Z.at2 t hn,h6 hn]
 |succ f ih=>
  intro U listed X ρ F w hU b7 R g Z hR hN hF;have f2:U≠[]:=λe=>by rw[e]at hU;cases hU
  obtain⟨i0,i1,d9⟩:=min_mem f2;have L:=(R i0).1 i1;refine⟨λhe=> ?_,λi hi=> ?_⟩
  ·
   obtain⟨o,O,a6⟩:=a2 i0 L.1
   have:i0∈Region.ready .any Ω listed:=by
    refine mem_ready.2 ⟨getD_in (by rw[g.size];omega) L.2,o,a6,λe c2 c4=> ?_⟩;have r:=nN hb i0 o O e c2 c4;cases hg:listed.getD e.on ν with
    |true=>rfl
    |false=>have s:=(R e.on).2 ⟨aA0,hg⟩;have:=d9 e.on s;omega
   rw[he]at this;cases this
  ·obtain⟨g1,o,a6,I⟩:=mem_ready.1 hi;have B:listed.getD i ν=ν:=getD_both g1;have v:i<k:=by
    by_cases v:i<k
    ·exact v
    ·exact absurd hi (Fk g3 L.1 listed g (getD_in (by rw[g.size];omega) L.2) i aA0)
   refine⟨v,?_⟩;obtain⟨o',O,a1⟩:=a2 i v;rw[a6]at a1;cases a1;have h0:i∈U:=(R i).2 ⟨v,B⟩;obtain⟨b3,e8⟩:=Y.st i o O;have d3:∀j∈Om (gK l []) i,listed.getD j ν=μ:=Ov hl hb g i o O I;have f0:∀(j:Nat),j<k->listed.getD j ν=μ->i∉Om (gK l []) j:=by intro j b c0 E;obtain⟨c,g6,d6⟩:=a2 j b;have:=Ov hl hb g j c g6 (λe he c4=>g.closed j c d6 c0 e he c4) i E;rw[B]at this;cases this
   have e4:∀j∈Om (gK l []) i,j<i:=λj b=>LC hb i j b
   have a0:∀t,t∈zR o.op.operands.toList++Ui Ω.toList o->X.at t=(T i).at t:=by
    intro t ht;obtain⟨h5,h6⟩:=Y.at t i aA0;by_cases hw:∃(j:Nat) (o:Ι),l[j]? =θ o/\o.dst=θ t
    ·obtain⟨j,c,b,N⟩:=hw;have S:=(aE.1 b).1;rw[Z.at1 t j c b N,h5 j c b N];have h7:=Lm g5 i o O;rw[Ps]at h7;have h8:=Tf h7 j c t b N ht;rw[Ps]at h8;rcases h8 with rfl|h8
     ·rw[B,aA aA2,aA aA0]
     ·unfold DE at h8;cases E:lB i (Om (gK l []) j)with
      |true=>
       have E:=Vl.1 E;have l0:=LC hb j i E
       have:listed.getD j ν=ν:=by
        cases hg:listed.getD j ν with
        |false=>rfl
        |true=>exact absurd E (f0 j aA0 hg)
       rw[this,aA aA2,aA aA0]
      |false=>rw[E]at h8;have e3:=Vl.1 (show lB j (Om (gK l []) i)=μ from h8);rw[d3 j e3,aB rfl,aB (e4 j e3)]
    ·have hn:∀(j:Nat) (o:Ι),l[j]? =θ o->o.dst≠θ t:=λj o b N=>hw ⟨j,o,b,N⟩;rw[Z.at2 t hn,h6 hn]
   have a9:∀t,Operand.tmp t∈o.op.operands->X.at t=(T i).at t:=λt ht=>a0 t (XU _ (Cr.2 (by simpa using ht)));have i3:∀t∈Ui Ω.toList o,X.at t=(T i).at t:=λt ht=>a0 t (XV _ ht)
   obtain⟨h,i2,a7,e7,V⟩:=Z.hv;have K:=Y.nb i aA0;have a3:∀j c,l[j]? =θ c->qt C c.op=ν->((h<=j/\j<i)\/(i<=j/\j<h))->j≠i->DE (gK l []) i j=ν:=by
    intro j c b z c3 q;have S:=(aE.1 b).1;unfold DE;rcases c3 with⟨r,s⟩|⟨r,s⟩
    ·have g7:listed.getD j ν=ν:=by
      cases hg:listed.getD j ν with
      |false=>rfl
      |true=>have:=(V j c b z).1 hg;omega
     have e1:lB i (Om (gK l []) j)=ν:=by
      cases E:lB i _ with
      |false=>rfl
      |true=>have:=LC hb j i (Vl.1 E);omega
     have e2:lB j (Om (gK l []) i)=ν:=by
      cases E:lB j _ with
      |false=>rfl
      |true=>have:=d3 j (Vl.1 E);rw[g7]at this;cases this
     rw[e1,e2];rfl
    ·have c0:=(V j c b z).2 s;have e1:lB i (Om (gK l []) j)=ν:=by
      cases E:lB i _ with
      |false=>rfl
      |true=>exact absurd (Vl.1 E) (f0 j aA0 c0)
     have e2:lB j (Om (gK l []) i)=ν:=by
      cases E:lB j _ with
      |false=>rfl
      |true=>have:=e4 j (Vl.1 E);omega
     rw[e1,e2];rfl
   have b8:∀j c (p:η×δ Nat),l[j]? =θ c->es[j]? =θ p->p.1=μ->j≠i->DE (gK l []) i j=ν->(entry C (T i) (T (i+1)) o).1=ν/\∀x∈(entry C (T i) (T (i+1)) o).2,x∉p.2:=by intro j c p b J D q u;have r:=DH e0 i _ e8;rw[Ps]at r;have s:=Tl r j p J aA0 (by rw[Ps];exact u) D;exact s
   have b6:∀(j:Nat) (c:Ι) (p:η×δ Nat),l[j]? =θ c->es[j]? =θ p->p.1= !(qt C c.op):=by intro j c p b J;obtain⟨_,r⟩:=Y.st j c b;rw[J]at r;cases r;unfold entry;cases qt C c.op<;>rfl
   have M:qt C o.op=ν->X.H=(T i).H/\X.m=(T i).m:=by
    intro z;have i7:(entry C (T i) (T (i+1)) o).1=μ:=by unfold entry;rw[z];rfl
    have ι:∀j c,l[j]? =θ c->((h<=j/\j<i)\/(i<j/\j<h))->qt C c.op=μ:=by
     intro j c b hc;cases d:qt C c.op with
     |true=>rfl
     |false=>exfalso;have S:=(aE.1 b).1;obtain⟨p,J⟩:∃p,es[j]? =θ p:=⟨_,(Y.st j c b).2⟩;have q:j≠i:=aA0;have u:=a3 j c b d aA0 q;have:=(b8 j c p b J (by rw[b6 j c p b J,d];rfl) q u).1;rw[i7]at this;cases this
    have h9:¬i<h:=λG=>by have:=(V i o O z).2 G;rw[B]at this;cases this
    have:=Y.still (i-h) h aA0 (λj c r s b=>ι j c b (.inl ⟨r,aA0⟩));rw[show h+(i-h)=i by omega]at this;exact⟨a7.trans this.1.symm,e7.trans this.2.symm⟩
   have a5:qt C o.op=μ->xh (T i).H X.H (Un ((T i).ev C) o.op):=by
    intro z id hid o2 hg;have c2:(entry C (T i) (T (i+1)) o).2=Un ((T i).ev C) o.op:=by unfold entry;rw[z];rfl
    rw[a7];have f4:∀j c p,((h<=j/\j<i)\/(i<=j/\j<h))->l[j]? =θ c->es[j]? =θ p->p.1=μ->id∉p.2:=by
     intro j c p hc b J D;have d:qt C c.op=ν:=by
      have:=b6 j c p b J;rw[D]at this;cases d:qt C c.op with
      |false=>rfl
      |true=>rw[d]at this;cases this
     have q:j≠i:=λe=>by subst e;rw[O]at b;cases b;rw[z]at d;cases d
     have u:=a3 j c b d hc q;exact(b8 j c p b J D q u).2 id (by rw[c2];exact hid)
    by_cases l1:h<=i
    ·
     have G:id<γ (T h).H:=by
      obtain⟨x,hx,i4⟩:=VD hid;have i6:X.ev C x=(T i).ev C x:=by
       cases x with
       |tmp t=>show(bif iJ t C.nn then X.at t else .u')=(bif iJ t C.nn then(T i).at t else .u');rw[a9 t hx]
       |_=>rfl
      have d5:=(Rl hR hE.n x).1;rw[i6,a7]at d5;exact eh d5 i4
     obtain⟨o3,a1⟩:∃o3,fC (T h).H id=θ o3:=by rw[gA];exact⟨_,aN G⟩
     have:=Y.JR (i-h) h aA0 (λj c p r s b J D=>f4 j c p (.inl ⟨r,aA0⟩) b J D) a1;rw[show h+(i-h)=i by omega,hg]at this;rw[a1,this]
    ·have:=Y.JR (h-i) i aA0 (λj c p r s b J D=>f4 j c p (.inr ⟨r,aA0⟩) b J D) hg;rw[show i+(h-i)=h by omega]at this;exact this
   obtain⟨X3,c5,b2,d7,f1,g4,e6⟩:=jx b3 a9 i3 (Z.nb.trans K.1.symm) (Z.al.trans K.2.symm) a5 (λz=>(M z).1);have d1:=g.set hi v;have b5:i<listed.size:=by rw[g.size];omega
   have A:∀j,(listed.setIfInBounds i μ).getD j ν=if j=i then μ else listed.getD j ν:=by
    intro j;simp only[Array.getD_eq_getD_getElem?,Array.getElem?_setIfInBounds];by_cases e:i=j
    ·subst e;simp[b5]
    ·rw[aA e,aA (λh=>e h.symm)]
   have c6:W C.P md Ω (Exit.then (λa' w'=>True/\yQ C.P .any Ω Q (λ_ _ _=>True) k (λm w=>wpList C.P Ω Q (Ω.toList.drop k) m w) f (listed.setIfInBounds i μ) a' w') Q) [o] F w:=by
    refine GG hE c5 hR _ [] λf9 F2 w2 j1 j2 i5 _=>nO ⟨trivial,?_⟩;refine ih _ _ X3 f9 F2 w2 (by rw[List.length_erase_of_mem h0,hU];rfl) (b7.erase i) (λj=> ?_) d1 ?_ j1 (hN.trans j2) (λt ht=> ?_)
    ·rw[b7.mem_erase_iff,R,A];constructor
     ·rintro⟨r,s,h3⟩;rw[aA r];exact⟨s,h3⟩
     ·rintro⟨r,s⟩;by_cases e:j=i
      ·rw[aB e]at s;cases s
      ·rw[aA e]at s;exact⟨e,r,s⟩
    ·refine⟨λt j c b N=> ?_,λt hn=> ?_,d7.trans K.1,f1.trans K.2,?_⟩
     ·rw[b2 t,A];by_cases e:j=i
      ·subst e;rw[O]at b;cases b;rw[aB N,aB rfl,aB rfl]
      ·have g8:¬o.dst=θ t:=λe2=>e (Y.nd j i c o t b O N e2);rw[aA g8,aA e];exact Z.at1 t j c b N
     ·rw[b2 t,aA (hn i o O)];exact Z.at2 t hn
     ·cases z:qt C o.op with
      |true=>
       obtain⟨r,s⟩:=g4 z;refine⟨h,i2,r.trans a7,s.trans e7,λj c b d=> ?_⟩;rw[A];have q:j≠i:=λe=>by subst e;rw[O]at b;cases b;rw[z]at d;cases d
       rw[aA q];exact V j c b d
      |false=>
       obtain⟨r,s⟩:=e6 z;obtain⟨mn,h3,_⟩:=QQ b3;refine⟨i+1,aA0,r,?_,λj c b d=> ?_⟩
       ·rw[s mn h3,(M z).2,h3]
       ·rw[A];have S:=(aE.1 b).1;by_cases q:j=i
        ·subst q;simp
        ·rw[aA q,V j c b d];have h9:¬i<h:=λG=>by have:=(V i o O z).2 G;rw[B]at this;cases this
         constructor
         ·intro h4;omega
         ·intro h4;by_cases g9:j<h
          ·exact g9
          ·exfalso;obtain⟨p,J⟩:∃p,es[j]? =θ p:=⟨_,(Y.st j c b).2⟩;have u:=a3 j c b d (.inl ⟨aA0,aA0⟩) q;have:=(b8 j c p b J (by rw[b6 j c p b J,d];rfl) q u).1;unfold entry at this;rw[z]at this;cases this
    ·have g2:o.dst≠θ t:=λe=>ht (by
      have E:∀{l:δ Ι},o∈l->t∈Fh l:=by
       intro l;induction l with
       |nil=>intro h;cases h
       |cons y l ih=>
        intro h;rw[yP];rcases aQ.1 h with rfl|h
        ·exact .inl e
        ·exact .inr (ih h)
      exact E (aL O))
     rw[i5 t g2,hF t ht]
   unfold W WR at c6;rw[b9]at c6⊢;refine wpOp_mono ?_ (Ln a6 c6);rintro a' w' ⟨_,s⟩;exact⟨trivial,s⟩
theorem yO{t:Nat}:∀{l:δ Ι},t∈Fh l↔∃o∈l,o.dst=θ t
 |[]=>by simp[Fh]
 |x::l=>by rw[yP,yO];simp
theorem nx_as{S X Y:St}{ρ:Nat->Ad}(h:Nx S a X ρ)(e:Y.H=X.H)(b:Y.nb=X.nb)(c:Y.al=X.al)(d:Y.m=X.m):Nx S a Y ρ:=
 ⟨⟨b.trans h.nb,c.trans h.al,by rw[e];exact h.le⟩,by rw[e,d];exact h.lg,λid j f=>by rw[d];exact h.mm id j f⟩
theorem gb(hE:Env C md w0 S0 GS)(f:md=⟨md.n,[],ι⟩){id:Nat}{Ω:Array Ι}:ke C md w0 S0 id Ω μ:=by
 intro a8 S κ r I F w Q h y hk;have h:=h;unfold KM at h;have h:=dD h;have hm:=h.1;have h:=h.2;split at h
 ·rename_i k Y;have d:=Ga Y;have u:k<=Ω.size:=by simp only[HE,Bv,bL]at d;exact d.1.2
  have h:=dD h;have l:=h.1;have h:=dD h.2;have hb:=h.1;have h:=dD h.2;have N:=mU.1 h.1;have h:=dD h.2;have K:=h.1;obtain⟨T,es,x,J,b⟩:=Te _ _ _ _ h.2;have b:=dD b;have q:=b.1;have b:=b.2;have s:QE Ω.toList k=Ω.toList.take k:=To _ _;have hW:Way C Ω.toList _ T es:=⟨J,YZ N⟩
  have v:∀X c z A,Rel C w0 S0 c X z A->Nx (T 0) I X c->(∀t,X.at t=(T (γ (QE Ω.toList k))).at t)->X.H=(T (γ (QE Ω.toList k))).H->X.nb=(T (γ (QE Ω.toList k))).nb->X.al=(T (γ (QE Ω.toList k))).al->X.m=(T (γ (QE Ω.toList k))).m->(∀t,t∉Fh (QE Ω.toList k)->z t=F t)->W C.P md Ω Q (Ω.toList.drop k) z A:=by
   intro X c z A hR hN iL D O a1 V hF;rw[mW]at b;refine Xu hE _ k _ c z A Τ b (rel_at hR (λt=>(iL t).symm) D.symm) λS2 G F3 w3 h1 E h3 h4 h5=> ?_;rw[x]at hN;refine hk S2 G F3 w3 h1 E ((nx_as hN D.symm O.symm a1.symm V.symm).trans h3) (λt B=> ?_) (jh Τ);have e:Ω.toList=QE Ω.toList k++Ω.toList.drop k:=by rw[s,HN]
   have U:t∉Fh _:=λZ=>B (by obtain⟨o,M,hd⟩:=yO.1 Z;exact yO.2 ⟨o,by rw[e];exact XU _ M,hd⟩);have R:t∉Fh (Ω.toList.drop k):=λZ=>B (by obtain⟨o,M,hd⟩:=yO.1 Z;exact yO.2 ⟨o,kV M,hd⟩);rw[h4 t R,hF t U]
  have g:HeadInv .any Ω k (Array.replicate Ω.size ν):=
   ⟨aA2,λj oj _ s=>(by rw[getD_replicate_false]at s;cases s),λt _ B=>getD_in (by simpa using B) (getD_replicate_false _ _)⟩
  have a4:Mid C (QE Ω.toList k) T (Array.replicate Ω.size ν) (T 0):=by
   refine⟨λt j o _ _=> ?_,λt _=>rfl,Τ,Τ,0,eJ _,Τ,Τ,λj o _ _=> ?_⟩
   ·rw[getD_replicate_false,aA aA2]
   ·rw[getD_replicate_false];simp
  have p:∀w',Rel C w0 S0 I _ F w'->yQ C.P .any Ω Q _ k _ k _ _ w':=λw' hR=>
   VJ hE f s u d l hb K hW q v k _ _ _ _ _ _ List.length_range List.nodup_range (λi=>by rw[getD_replicate_false];simp) g a4 hR Nx.refl (λ_ _=>rfl)
  unfold Go.Wk.C CC;rw[f];refine wp_region_any hm ?_;have a2:Rel C w0 S0 I (T 0) F {w with drawn:=w.drawn+1}:=by rw[x];refine⟨y.gl,y.fr,y.fo,y.ho,?_⟩;obtain⟨L,D,hM⟩:=y.mem;exact⟨L,D.PS,hM⟩
  have h1:=p _ a2;have E:=Xn u (λa w h=>h) k _ _ _ h1;rw[show k+(Ω.size-k)=Ω.size by omega,f]at E;exact E
 ·cases h
end
open Go.Wk
open Go.Ce (Tr)
theorem qa{C:Cx}{md:Md}{w0:φ}{S0:δ Nat}{k:Br}(i:Env C md w0 S0 k)(h:md=⟨md.n,[],ι⟩):∀c:Code,oT C md w0 S0 c:=by
 intro c;induction c with
 |region id j d=>cases d with
  |false=>exact TB i
  |true=>exact gb i h
 |seq a b f e=>exact⟨f,e⟩
 |cond c a b f e=>exact⟨f,e⟩
 |block id a g=>exact g
 |loop a g=>exact g
 |scope a g=>exact g
 |_=>trivial
theorem Yp{a:Type}{f:SC->ε a}{l r:δ SC}{x:a}{ss:δ Src}(h:la f l=θ (x,r,ss)):γ l=1+γ r:=by obtain⟨c,rfl,_,_⟩:=nF h;rw[dT,Ie]
theorem rd_cn(any:η)(H:δ Ob):∀(t:Ty) s l x r ss,t.rd any H s l=θ (x,r,ss)->γ l=t.cn+γ r:=by
 intro t;induction t with
 |w' t c=>intro s l x r ss h;exact c s l x r ss h
 |pr a b f d=>
  intro s l x r ss h;simp only[Ty.rd]at h;split at h
  ·rename_i m g o q;split at h
   ·rename_i i u n p;cases h;have w:=f s l m g o q;have v:=d s g i _ n p;show γ l=a.cn+b.cn+γ r;omega
   ·cases h
  ·cases h
 |i' k=>intro s l x r ss h;exact Yp h
 |c'=>intro s l x r ss h;exact Yp h
 |s'=>intro s l x r ss h;exact Yp h
 |b'=>intro s l x r ss h;exact Yp h
 |u'=>intro s l x r ss h;cases h;exact(Ps _).symm
 |sm a b _ _=>intro s l x r ss h;cases h
 |l' e b t c=>
  intro s l x r ss h;simp only[Ty.rd]at h;split at h
  ·cases h;rw[Ie];rfl
  ·split at h
   ·have h:=(dD (dD h).2).2;split at h
    ·cases h;rw[Ie];rfl
    ·cases h
   ·cases h
  ·split at h
   ·have h:=(dD (dD (dD h).2).2).2;split at h
    ·cases h;rw[Ie];rfl
    ·cases h
   ·cases h
  ·cases h
 |y'=>
  intro s l x r ss h;simp only[Ty.rd]at h;split at h
  ·split at h
   ·cases h;rw[Ie];rfl
   ·cases h
  ·cases h
 |r' t c=>
  intro s l x r ss h;simp only[Ty.rd]at h;split at h
  ·cases h;rw[Ie];rfl
  ·split at h
   ·cases h;rw[Ie];rfl
   ·cases h
  ·split at h
   ·split at h
    ·cases h;rw[Ie];rfl
    ·cases h
   ·cases h
  ·cases h
 |p' e t c=>
  intro s l x r ss h;simp only[Ty.rd]at h;split at h
  ·split at h
   ·have h:=(dD (dD h).2).2;split at h
    ·cases h;rw[Ie];rfl
    ·cases h
   ·cases h
  ·cases h
 |z'=>
  intro s l x r ss h;simp only[Ty.rd]at h;split at h
  ·have h:=(dD h).2;cases h;rw[Ie];rfl
  ·have h:=(dD (dD h).2).2;cases h;rw[Ie];rfl
  ·have h:=(dD h).2;split at h
   ·cases h;rw[Ie];rfl
   ·cases h
  ·cases h
 |o' j=>
  intro s l x r ss h;simp only[Ty.rd]at h;split at h
  ·have h:=(dD h).2;cases h;rw[Ie];rfl
  ·cases h
 |f' k t c=>
  intro s l x r ss h;simp only[Ty.rd]at h;split at h
  ·have h:=(dD h).2;split at h
   ·cases h;rw[Ie];rfl
   ·cases h
  ·cases h
theorem Tc:∀{l vs:δ SC},γ vs=γ l->uU l 0 vs=θ vs
 |[],[],_=>rfl
 |[],_::_,h=>by cases h
 |_::_,[],h=>by cases h
 |x::l,v::vs,h=>by simp only[uU,Tc aA8]
theorem Tn{a:Type}:∀(l:δ a),zV l (γ l)=θ l
 |[]=>rfl
 |x::l=>by simp only[dT,zV,Tn l]
def KR(n0:Nat)(H0 H1:δ Ob)(E:δ Nat)(al:δ Rg):Rk->Prop
 |.r' _=>True
 |.o' id _ x=>id<n0/\(∀j,j<x.cn->eM id j al=μ)/\∃b a,H1[id]? =θ (.bl b a)
 |.w' id _=>id<n0/\eM id 0 al=μ/\id∉E/\wA H0[id]? =μ
section
variable{n0:Nat}{H2 H0 H1:δ Ob}{ρ cS ρ3:Nat->Ad}{F2:Nat->ς}{E:δ Nat}{al:δ Rg}{Fm:Tr SV}{done:δ Src}
variable{q:Rk}{v:q.ty.T}
theorem PI.yg(h:PI n0 H2 ρ cS ρ3 F2 E H0 al Fm H1 done)(iD:LM cS H2)(c:LN H2)(d:γ H0<=n0)(k:Up n0 cS ρ3){vs g:δ SV}{i:δ Src}(a:q.rd H2 vs=θ (v,i,g))(m:KR n0 H0 H1 E al q)
  (f:∀j s,i[j]? =θ s->ρ3 (γ H1+j)=s.ad cS) (l:δ SA):PI n0 H2 ρ cS ρ3 F2 E H0 al Fm (q.put (λj=>j) (l,H1) v).2 (done++i)/\
   ∃B:δ ς,vs.map (SV.v cS)=B.map θ++g.map (SV.v cS)/\(q.put (λj=>j) (l,H1) v).1.map (SA.v ρ3)=l.map (SA.v ρ3)++B:=by
 cases q with
 |r' x=>
  cases vs with
  |nil=>cases a
  |cons v0 vs=>
   simp only[Rk.rd]at a;split at a
   ·rename_i y C b;cases a;have D:=Xi c b;obtain⟨⟨u,p,_,A⟩,o⟩:=D.to cS ρ3 (γ H1) f;have H:γ i=γ (x.lay 0 (γ H1) v).2:=by rw[D.no];exact(Ty.eD x 0 (γ H1) v).symm
    refine⟨h.app iD c d H f o (vi x 0 (γ H1) v),[u],by rw[qO,p];rfl,?_⟩;show(l++[x.sa (x.lay 0 (γ H1) v).1]).map _=_;rw[Ru,mi,A]
   ·cases a
 |o' id e x=>
  simp only[Rk.rd]at a;split at a
  ·rename_i y C b;cases a;obtain⟨p,A,I,K,o⟩:=m;unfold rdO at b;split at b
   ·rename_i N cs z;have b:=dD b;have w:=gO b.1;subst w;have n:=rd_cn ν H2 x id cs _ _ _ (uJ b.2);rw[tU,Rt]at n;have r:rdB H2 id 0 x=θ (v,i):=by unfold rdB;rw[z];simp only[mW,WZ];rw[<-n,Tn];exact b.2
    have F:=h.yh iD c d k r p (λj _ L=>A j aA0) f;rw[gA]at z;obtain⟨J,G,M,_⟩:=h.ba id _ p o;rw[z]at G;cases G;have t:Y9 H1 id 0 x v=jA H1 id (.bl I (x.lay id (γ H1) v).1)++(x.lay id (γ H1) v).2:=by unfold Y9;rw[gA,o];simp only[Xl];rw[Tc ((Ty.Yd x id (γ H1) v).trans aA0)]
    rw[t]at F;exact⟨F,[],Τ,by rw[gV];rfl⟩
   ·cases b
  ·cases a
 |w' id x=>
  simp only[Rk.rd]at a;split at a
  ·rename_i y C b;cases a;exact⟨h.yf iD c d k b m.1 m.2.1 m.2.2.1 m.2.2.2,[],Τ,by rw[gV];rfl⟩
  ·cases a
variable{a:Nat}
theorem qh{l:δ SA}{H1:δ Ob}{o:Ob}(h:a∉Rk.ids [q])(b:H1[a]? =θ o):(q.put (λj=>j) (l,H1) v).2[a]? =θ o:=by
 cases q with
 |r' x=>exact Bg b
 |o' j e x=>exact Bg (by rw[ld (λe=>h (by rw[<-e];exact aF.2 Τ))];exact b)
 |w' j x=>
  show(pX H1 j x v)[a]? =θ o;unfold pX;split
  ·rw[ld (λe=>h (by rw[<-e];exact aF.2 Τ))];exact b
  ·exact b
variable{r:δ Rk}
theorem Nl:Rk.ids (q::r)=Rk.ids [q]++Rk.ids r:=by cases q<;>rfl
theorem uG(h:q∈r)(hid:a∈Rk.ids [q]):a∈Rk.ids r:=by
 induction r with
 |nil=>cases h
 |cons x r b=>
  rw[Nl];rcases aQ.1 h with rfl|h
  ·exact XU _ hid
  ·exact XV _ (b h)
theorem PI.T1(iD:LM cS H2)(f:LN H2)(d:γ H0<=n0)(c:Up n0 cS ρ3):∀r H1 done y ss vs l,PI n0 H2 ρ cS ρ3 F2 E H0 al Fm H1 done->rdR H2 r vs=θ (y,ss)->(Rk.ids r).Nodup->
  (∀q∈r,KR n0 H0 H1 E al q)->(∀j s,ss[j]? =θ s->ρ3 (γ H1+j)=s.ad cS)->PI n0 H2 ρ cS ρ3 F2 E H0 al Fm (fT (λj=>j) (l,H1) r y).2 (done++ss)/\
   ∃g:δ ς,vs.map (SV.v cS)=g.map θ/\(fT (λj=>j) (l,H1) r y).1.map (SA.v ρ3)=l.map (SA.v ρ3)++g
 |[],H1,done,y,ss,vs,l,h,a,_,_,_=>by
  cases vs with
  |nil=>cases a;exact⟨by rw[gV];exact h,[],Τ,by rw[gV];rfl⟩
  |cons _ _=>cases a
 |[q],H1,done,y,ss,vs,l,h,a,_,o,b=>by
  simp only[rdR]at a;split at a
  ·rename_i x F hx;cases a;obtain⟨t,g,B,A⟩:=h.yg iD f d c hx (o q iK) b l;exact⟨t,g,by rw[B,gE,gV],A⟩
  ·cases a
 |q::T::r,H1,done,y,ss,vs,l,h,a,n,o,b=>by
  simp only[rdR]at a;split at a
  ·rename_i x F u hx;split at a
   ·rename_i z K L;cases a
    obtain⟨t,g,B,A⟩:=h.yg iD f d c hx (o q iK) (λj s p=>b j s (by rw[aI (aE.1 p).1];exact p)) l;have S:=t.len;have U:=h.len;rw[cR]at S;rw[Nl]at n;obtain⟨H,m,k⟩:=List.nodup_append.1 n;obtain⟨J,w,Q,P⟩:=PI.T1 iD f d c _ _ _ z K u (q.put _ _ x).1 t L m (λG i=>by
     have I:=o G (gN _ i);cases G with
     |r' x=>trivial
     |o' id e x=>obtain⟨O,N,R,D,C⟩:=I;refine⟨O,N,R,D,qh (λM=> ?_) C⟩;exact k _ M _ (uG i (aF.2 Τ)) Τ
     |w' id x=>exact I) (λj s p=>by
     rw[show(q.put _ _ x).2.length+j=γ H1+(γ F+j)by omega];exact b _ s (by rw[aM aA0,<-p];congr 1;omega))
    rw[nW]at J;exact⟨J,g++w,by rw[B,Q,Ru],by show(fT _ _ _ z).1.map _=_;rw[P,A,nW]⟩
   ·cases a
  ·cases a
end
theorem ZK{m:Nat}:∀{x:Ty}{v:x.T},Ea x=μ->∃o,nk m x v=θ o:=by intro x;cases x<;>intro v h<;>first|exact⟨_,Τ⟩|cases h
theorem TD:∀r y l (a b),γ a=γ b->(∀id,fL a id=fL b id)->(∀id,id∉Rk.ids r->a[id]? =b[id]?)->(∀q∈r,∀id x,q=.w' id x->Ea x=μ)->
  fT (λj=>j) (l,a) r y=fT (λj=>j) (l,b) r y:=by
 have n:∀{a b:δ Ob} {id:Nat} {o:Ob},γ a=γ b->(∀id,fL a id=fL b id)->∀k,fL (jA a id o) k=fL (jA b id o) k:=by
  intro a b id o c f k;rw[XH,XH,xU,xU,c];split
  ·rfl
  ·rw[<-XH,<-XH];exact f k
 have s:∀{a b B:δ Ob},γ a=γ b->(∀id,fL a id=fL b id)->∀k,fL (a++B) k=fL (b++B) k:=by
  intro a b B c f k;rw[XH,XH];by_cases C:k<γ a
  ·rw[aI C,aI aA0,<-XH,<-XH];exact f k
  ·rw[aM aA0,aM aA0,c]
 have p:∀{a b B:δ Ob} {k:Nat},γ a=γ b->a[k]? =b[k]? ->(a++B)[k]? =(b++B)[k]? :=by
  intro a b B k c g;by_cases C:k<γ a
  ·rw[aI C,aI aA0];exact g
  ·rw[aM aA0,aM aA0,c]
 have one:∀q v l (a b) (N:δ Nat),γ a=γ b->(∀id,fL a id=fL b id)->(∀id,id∉Rk.ids [q]->id∉N->a[id]? =b[id]?)->(∀id x,q=.w' id x->Ea x=μ)->
   (q.put (λj=>j) (l,a) v).1=(q.put (λj=>j) (l,b) v).1/\γ (q.put (λj=>j) (l,a) v).2=γ (q.put (λj=>j) (l,b) v).2/\(∀id,fL (q.put (λj=>j) (l,a) v).2 id=fL (q.put (λj=>j) (l,b) v).2 id)/\∀id,id∉N->(q.put (λj=>j) (l,a) v).2[id]? =(q.put (λj=>j) (l,b) v).2[id]? :=by
  intro q v l a b N c f g u;cases q with
  |r' x=>show l++[x.sa (x.lay 0 (γ a) v).1]=l++[x.sa (x.lay 0 (γ b) v).1]/\γ (a++(x.lay 0 (γ a) v).2)=γ (b++(x.lay 0 (γ b) v).2)/\(∀id,fL (a++(x.lay 0 (γ a) v).2) id=fL (b++(x.lay 0 (γ b) v).2) id)/\∀id,id∉N->(a++(x.lay 0 (γ a) v).2)[id]? =(b++(x.lay 0 (γ b) v).2)[id]?;rw[c];exact⟨Τ,by simp[c],s c f,λid hid=>p c (g id (λh=>by cases h) hid)⟩
  |o' i e x=>
   show l=l/\γ (jA a i _++(x.lay i (γ a) v).2)=γ (jA b i _++(x.lay i (γ b) v).2)/\(∀id,fL (jA a i _++(x.lay i (γ a) v).2) id=fL (jA b i (.bl e (x.lay i (γ b) v).1)++(x.lay i (γ b) v).2) id)/\∀id,id∉N->(jA a i (.bl e (x.lay i (γ a) v).1)++(x.lay i (γ a) v).2)[id]? =(jA b i (.bl e (x.lay i (γ b) v).1)++(x.lay i (γ b) v).2)[id]?;rw[c];have t:∀o:Ob,γ (jA a i o)=γ (jA b i o):=λo=>by rw[LA,LA,c]
   refine⟨Τ,by simp[t],s (t _) (n c f),λid hid=>p (t _) ?_⟩;rw[xU,xU,c];by_cases m:id=i
   ·subst m;by_cases d:id<γ b
    ·rw[aB ⟨rfl,d⟩,aB ⟨rfl,d⟩]
    ·rw[aA (λh=>d h.2),aA (λh=>d h.2),bG aA0,bG aA0]
   ·rw[aA (λh=>m h.1),aA (λh=>m h.1)];exact g id (λh=>m (aF.1 h)) hid
  |w' i x=>
   show l=l/\γ (pX a i x v)=γ (pX b i x v)/\(∀id,fL (pX a i x v) id=fL (pX b i x v) id)/\∀id,id∉N->(pX a i x v)[id]? =(pX b i x v)[id]?;have hx:=u i x Τ;unfold pX;rw[f i];split
   ·rename_i o G;refine⟨Τ,by rw[LA,LA,c],n c f,λid hid=> ?_⟩;rw[xU,xU,c];by_cases m:id=i
    ·subst m;by_cases d:id<γ b
     ·rw[aB ⟨rfl,d⟩,aB ⟨rfl,d⟩]
     ·rw[aA (λh=>d h.2),aA (λh=>d h.2),bG aA0,bG aA0]
    ·rw[aA (λh=>m h.1),aA (λh=>m h.1)];exact g id (λh=>m (aF.1 h)) hid
   ·rename_i A;obtain⟨o,G⟩:=ZK hx;have w:=A.symm.trans G;cases w
 intro r;induction r with
 |nil=>intro y l a b c f g _;have e:=cI λk=>g k (λh=>by cases h);rw[e]
 |cons q r J=>
  intro y l a b c f g u;cases r with
  |nil=>obtain⟨E,z,H,D⟩:=one q y l a b [] c f (λid h _=>g id h) (u q iK);have e:=cI λk=>D k (λh=>by cases h);exact Prod.ext E e
  |cons F r=>
   obtain⟨E,z,H,D⟩:=one q y.1 l a b _ c f (λid h z=>g id (by rw[Nl];exact λK=>(aZ.1 K).elim h z)) (u q iK);have:=J y.2 (q.put (λj=>j) (l,a) y.1).1 (q.put _ _ y.1).2 (q.put _ _ y.1).2 z H D (λI L=>u I (gN _ L));show fT _ _ (F::r) y.2=fT _ _ (F::r) y.2;have O:q.put (λj=>j) (l,a) y.1=((q.put (λj=>j) (l,a) y.1).1,(q.put (λj=>j) (l,a) y.1).2):=Τ;have M:q.put (λj=>j) (l,b) y.1=((q.put (λj=>j) (l,a) y.1).1,(q.put (λj=>j) (l,b) y.1).2):=by rw[E]
   rw[O,M];exact this
open Go.Wk
open Go.Ce (Tr)
open Nat renaming one_pos → Ib
theorem ON:∀a b x,TW a=μ->∃obs,(iT b a x).2=b++obs/\γ (iT b a x).1=γ a/\(∀v∈(iT b a x).1,v.ok (γ b+γ obs))/\∀(j e:Nat) cs,obs[j]? =θ (.bl e cs)->∀c∈cs,c.ok (γ b+γ obs)
 |[],b,x,h=>⟨[],by simp[iT],Τ,λv n=>by simp[iT]at n,λj e cs d=>by simp at d⟩
 |[t],b,x,h=>by
  have k:t.tz=ν:=by
   simp only[TW]at h;cases i:t.tz with
   |true=>rw[i]at h;cases h
   |false=>rfl
  refine⟨(t.lay 0 (γ b) x).2,Τ,Τ,λv f=> ?_,vi t 0 (γ b) x⟩;rw[aF.1 (f)];exact Ty.Fj (bfw t 0 (γ b) x k)
 |t::t2::a,b,x,h=>by
  have k:t.tz=ν/\TW (t2::a)=μ:=by
   have h:(bif t.tz then ν else TW _)=μ:=h;cases i:t.tz with
   |true=>rw[i]at h;cases h
   |false=>rw[i]at h;exact⟨Τ,h⟩
  obtain⟨obs,r,q,p,o⟩:=ON _ _ x.2 k.2;have g:γ (b++(t.lay 0 (γ b) x.1).2)=γ b+γ (t.lay 0 (γ b) x.1).2:=cR;refine⟨(t.lay 0 (γ b) x.1).2++obs,by rw[<-nW];exact r,by show(_::(iT _ _ x.2).1).length=_;rw[dT,q];rfl,λv f=> ?_,λj e cs d c m=> ?_⟩
  ·rw[cR,<-Cb,<-g];rcases aQ.1 (f)with rfl|f
   ·exact SV.cQ (Ty.Fj (bfw t 0 (γ b) x.1 k.1)) aA0
   ·exact p v f
  ·rw[cR,<-Cb,<-g];by_cases l:j<γ (t.lay 0 (γ b) x.1).2
   ·rw[aI l]at d;exact SC.cQ (vi t 0 (γ b) x.1 j e cs d c m) aA0
   ·rw[aM aA0]at d;exact o _ e cs d c m
def noA:δ Ty->Nat
 |[]=>0
 |t::a=>t.no+noA a
theorem OO:∀a b x,γ (iT b a x).2=γ b+noA a
 |[],b,x=>rfl
 |[t],b,x=>by show(b++(t.lay 0 (γ b) x).2).length=_;rw[cR];have:=Ty.eD t 0 (γ b) x;show _=γ b+(t.no+0);omega
 |t::t2::a,b,x=>by show(iT _ _ x.2).2.length=_;rw[OO _,cR,Ty.eD];show _=γ b+(t.no+noA _);omega
theorem BP:∀vs F (i t),Re (SH F i vs) t=if i<=t/\t<i+γ vs then vs.getD (t-i) .u' else Re F t
 |[],F,i,t=>by rw[aA aA2];rfl
 |v::vs,F,i,t=>by
  show Re (SH _ _ vs) t=_;rw[BP vs,It,dT];by_cases b:t=i
  ·subst b;rw[aA aA0,aB rfl,aB aA0,Hy];rfl
  ·by_cases a:i+1<=t/\t<i+1+γ vs
   ·rw[aB a,aB aA0,show t-i=(t-(i+1))+1 by omega];rfl
   ·rw[aA a,aA b,aA aA0]
theorem Oz{r:δ Rk}{g:δ Ob}{id j:Nat}:∀{l:δ Ob}{i:Nat},eM id j (Rq r g l i)=μ->∃o,i<=id/\l[id-i]? =θ o/\((wA (θ o)=μ/\j=0)\/(wA (θ o)=ν/\id∈Rk.ids r/\j<(sS g id).2.2))
 |[],i,h=>by simp[Rq,eM]at h
 |o::l,i,h=>by
  rcases Ge.1 h with h|h
  ·cases d:wA _ with
   |true=>rw[d]at h;obtain⟨q,a,c,f,b⟩:=wE.1 h;have a:=aF.1 a;subst a;subst c;exact⟨o,dC _,aA2,.inl ⟨d,by have b:j<1:=b;omega⟩⟩
   |false=>
    rw[d]at h;cases e:lB i _ with
    |false=>rw[e]at h;simp[eM]at h
    |true=>rw[e]at h;obtain⟨q,a,c,f,b⟩:=wE.1 h;have a:=aF.1 a;subst a;have c:i=id:=c;subst c;exact⟨o,dC _,aA2,.inr ⟨d,Vl.1 e,b⟩⟩
  ·obtain⟨k,c,f,b⟩:=Oz h;refine⟨k,aA0,?_,b⟩;rw[show id-i=(id-(i+1))+1 by omega];exact f
theorem zk{H:δ Ob}:∀{r:δ Rk},OE H r=μ->∀q∈r,match q with
  |.r' _=>True
  |.o' id e x=>∃cs,H[id]? =θ (.bl e cs)/\γ cs=x.cn
  |.w' id x=>wA H[id]? =μ/\Ea x=μ
 |d::r,h,q,b=>by
  have h:=gY (h);rcases aQ.1 b with rfl|b
  ·cases q with
   |r' x=>trivial
   |o' id e x=>
    have a:=h.1;simp only[gA]at a;split at a
    ·rename_i f cs c;have a:=gY a;rw[gO a.1]at c;exact⟨cs,c,gO a.2⟩
    ·cases a
   |w' id x=>have a:=gY h.1;rw[gA]at a;exact a
  ·exact zk h.2 q b
def kx:δ Rk->δ Rg
 |[]=>[]
 |k::l=>match k with
  |.r' _=>kx l
  |.o' id _ x=>(id,0,x.cn)::kx l
  |.w' id _=>(id,0,1)::kx l
theorem Ci:∀{r:δ Rk}{q:Rg},q∈kx r->(∃id e x,Rk.o' id e x∈r/\q=(id,0,x.cn))\/∃id x,Rk.w' id x∈r/\q=(id,0,1)
 |k::r,q,h=>by
  cases k with
  |r' x=>
   rcases Ci (show q∈kx r from h)with⟨id,e,x,b,a⟩|⟨id,x,b,a⟩
   ·exact .inl ⟨id,e,x,gN _ b,a⟩
   ·exact .inr ⟨id,x,gN _ b,a⟩
  |o' i e x=>
   rcases aQ.1 (h)with rfl|h
   ·exact .inl ⟨i,e,x,iK,Τ⟩
   ·rcases Ci h with⟨id,e,x,b,a⟩|⟨id,x,b,a⟩
    ·exact .inl ⟨id,e,x,gN _ b,a⟩
    ·exact .inr ⟨id,x,gN _ b,a⟩
  |w' i x=>
   rcases aQ.1 (h)with rfl|h
   ·exact .inr ⟨i,x,iK,Τ⟩
   ·rcases Ci h with⟨id,e,x,b,a⟩|⟨id,x,b,a⟩
    ·exact .inl ⟨id,e,x,gN _ b,a⟩
    ·exact .inr ⟨id,x,gN _ b,a⟩
theorem BW{id e:Nat}{x:Ty}:∀{r:δ Rk},Rk.o' id e x∈r->(id,0,x.cn)∈kx r
 |k::r,h=>by
  rcases aQ.1 h with rfl|a
  ·exact iK
  ·cases k with
   |r' _=>exact(show _∈kx r from BW a)
   |o' _ _ _=>exact gN _ (BW a)
   |w' _ _=>exact gN _ (BW a)
theorem BV{id:Nat}{x:Ty}:∀{r:δ Rk},Rk.w' id x∈r->(id,0,1)∈kx r
 |k::r,h=>by
  rcases aQ.1 h with rfl|a
  ·exact iK
  ·cases k with
   |r' _=>exact(show _∈kx r from BV a)
   |o' _ _ _=>exact gN _ (BV a)
   |w' _ _=>exact gN _ (BV a)
theorem Nk{id:Nat}:∀{r:δ Rk},id∈Rk.ids r->(∃e x,Rk.o' id e x∈r)\/∃x,Rk.w' id x∈r
 |k::r,h=>by
  cases k with
  |r' x=>
   rcases Nk (show id∈Rk.ids r from h)with⟨e,x,a⟩|⟨x,a⟩
   ·exact .inl ⟨e,x,gN _ a⟩
   ·exact .inr ⟨x,gN _ a⟩
  |o' i e x=>
   rcases aQ.1 (h)with rfl|h
   ·exact .inl ⟨e,x,iK⟩
   ·rcases Nk h with⟨e,x,a⟩|⟨x,a⟩
    ·exact .inl ⟨e,x,gN _ a⟩
    ·exact .inr ⟨x,gN _ a⟩
  |w' i x=>
   rcases aQ.1 (h)with rfl|h
   ·exact .inr ⟨x,iK⟩
   ·rcases Nk h with⟨e,x,a⟩|⟨x,a⟩
    ·exact .inl ⟨e,x,gN _ a⟩
    ·exact .inr ⟨x,gN _ a⟩
section
variable{C:Cx}{md:Md}{w0 w:φ}{S0:δ Nat}{GS:Br}{ρ ku:Nat->Ad}{Se:St}{Fe:Nat->ς}{a:δ Ty}{r:δ Rk}{H gs:δ Ob}
theorem end_ok(c2:md=⟨md.n,[],ι⟩)(hn:C.nn=md.n)(hS:Rel C w0 S0 ku Se Fe w)(U:LM ρ H)(b3:∀(id e:Nat) cs,H[id]? =θ (.bl e cs)->∀c∈cs,c.ok (γ H))(a8:(Rk.ids r).Nodup)(d:OE H r=μ)
  (I:Le (γ (H++gs)) (Rq r H H 0) ρ (H++gs) ku Se.H) {rs:δ ResultVar} {y:(fS r).T} (h:TA C (γ (H++gs)) (Rq r H H 0) rs r Se=θ y):
  ∃D L2 us,Up (γ H) ρ D/\Hp w0 S0 L2 w/\Mt w0 S0 D (fT (λj=>j) ([],kill H (Hi (Rk.ids r) H 0)) r y).2 L2/\(fT (λj=>j) ([],kill H (Hi (Rk.ids r) H 0)) r y).1.map (SA.v D)=us/\
   (rs.map (Go.Oe.iE C Se)).map (SV.v ku)=us.map θ:=by
 unfold TA at h;split at h
 ·rename_i x ss hr;have h:=dD h;have P:=gY (h.1);have b:=dD h.2;have X:=sN.1 b.1;cases b.2;let E:=Hi (Rk.ids r) H 0;let R:=kx r
  let ρ3:Nat->Ad:=λid=>if id<γ H then ku id else match ss[id-γ H]? with
   |some s=>s.ad ku
   |none=>ku id
  have l:Up (γ H) ku ρ3:=λid hi=>by simp only[ρ3,hi,gZ]
  have A:Up (γ H) ρ ku:=λid hi=>I.up id (by rw[cR];omega);have N:=A.trans l (dC _);have Z:∀j s,ss[j]? =θ s->ρ3 (γ H+j)=s.ad ku:=by intro j s hj;have a:¬γ H+j<γ H:=aA0;have b:γ H+j-γ H=j:=aA0;simp only[ρ3,a,GL,b,hj]
  have f:∀id,id∈E↔∃o,H[id]? =θ o/\wA (θ o)=μ/\id∉Rk.ids r:=by intro id;show id∈Hi _ H 0↔_;rw[Bc];simp
  have M:∀q∈R,(∃e cs,H[q.1]? =θ (.bl e cs)/\q.2.2<=γ cs)\/(wA H[q.1]? =μ/\q.2=(0,1)):=by
   intro q k;rcases Ci k with⟨id,e,x,a,rfl⟩|⟨id,x,a,rfl⟩
   ·obtain⟨cs,g,B⟩:=zk d _ a;exact .inl ⟨e,cs,g,by rw[B];exact dC _⟩
   ·exact .inr ⟨(zk d _ a).1,Τ⟩
  have a1:∀id∈E,wA H[id]? =μ\/∃e cs,H[id]? =θ (.bl e cs):=by intro id hid;obtain⟨o,a,b,_⟩:=(f id).1 hid;exact .inl (by rw[a];exact b)
  have Y:∀id j,eM id j (Rq r H H 0)=μ->eM id j (R++Vh H E)=μ:=by
   intro id j J;obtain⟨o,_,a,b⟩:=Oz J;rw[iQ]at a;rcases b with⟨b,rfl⟩|⟨b,g,B⟩
   ·by_cases m:id∈Rk.ids r
    ·rcases Nk m with⟨e,x,p⟩|⟨x,p⟩
     ·obtain⟨cs,z,_⟩:=zk d _ p;rw[a]at z;cases z;cases b
     ·exact Ge.2 (.inl (wE.2 ⟨_,BV p,Τ,dC _,Ib⟩))
    ·exact Ge.2 (.inr (azk ((f id).2 ⟨o,a,b,m⟩)))
   ·rcases Nk g with⟨e,x,p⟩|⟨x,p⟩
    ·obtain⟨cs,z,h7⟩:=zk d _ p;refine Ge.2 (.inl (wE.2 ⟨_,BW p,Τ,eJ _,?_⟩));unfold sS at B;rw[gA,z]at B;show j<x.cn;rw[<-h7];exact B
    ·have:=(zk d _ p).1;rw[a,b]at this;cases this
  have V:Le (γ H) (R++Vh H E) ρ H ku Se.H:=by refine⟨by have:=I.len;rw[cR]at this;omega,A,λid o hi m=> ?_⟩;have:=I.kp id o (by rw[cR];omega) (by rw[aI hi];exact m);exact this.mono λj J=>Y id j J
  have h0:=PI.zo (F2:=Fe) (Fm:=(Tr.e:Tr SV)) (ρ3:=ρ3) U b3 M a1 V N (λt u hu=>by
   have e:Re (Tr.e:Tr SV) t=.u':=aF0;rw[e]at hu;cases hu) (λt=>by
   have e:Re Tr.e t=.u':=aF0;rw[e];trivial)
  have G:γ (kill (Vg H R) E)=γ H:=by rw[bhp,bgl]
  have b5:∀q∈r,KR (γ H) H (kill (Vg H R) E) E (R++Vh H E) q:=by
   intro q k;have m:=zk d q k;cases q with
   |r' x=>trivial
   |o' id e x=>
    obtain⟨cs,g,B⟩:=m;refine⟨(aE.1 g).1,λj hj=>Ge.2 (.inl (wE.2 ⟨_,BW k,Τ,eJ _,hj⟩)),?_⟩;obtain⟨o2,p,K,rfl,_⟩:=eV g;have b0:id∉E:=λhE=>by obtain⟨o,z,h7,_⟩:=(f id).1 hE;rw[g]at z;cases z;cases h7
    exact⟨e,K,by rw[QM,aA b0];exact p⟩
   |w' id x=>
    have m:wA H[id]? =μ/\Ea x=μ:=m;have S:id<γ H:=by
     cases g:H[id]? with
     |none=>rw[g]at m;cases m.1
     |some _=>exact(aE.1 g).1
    refine⟨S,Ge.2 (.inl (wE.2 ⟨_,BV k,Τ,dC _,Ib⟩)),λhE=> ?_,m.1⟩;obtain⟨o,_,_,z⟩:=(f id).1 hE;exact z (uG k (aF.2 Τ))
  obtain⟨hP,us,a6,O⟩:=PI.T1 (zI hS) (zJ hS) (dC _) l r _ [] y ss _ [] h0 hr a8 b5 (by rw[G];exact Z);rw[yL]at hP;obtain⟨L,hH,hM⟩:=hS.mem;obtain⟨L3,b6,a0⟩:=hP.mem hH hM l Z (mU.1 P.1) (λid hid S=>by
   have J:=zS P.2 (by show id<γ (H++gs);rw[cR];omega) (azk hid);obtain⟨o,_,a,b⟩:=Oz J;rw[iQ]at a;have Q:=X id hid;rcases b with⟨b,_⟩|⟨_,g,_⟩
   ·exact(f id).2 ⟨o,a,b,Q⟩
   ·exact absurd g Q)
  have F:fT (λj=>j) ([],kill (Vg H R) E) r y=fT (λj=>j) ([],kill H E) r y:=by
   have b1:∀id,fL (kill (Vg H R) E) id=fL (kill H E) id:=by
    intro id;rw[XH,XH,QM,QM];cases W:H[id]? with
    |none=>rw[Fw W]
    |some o=>
     obtain⟨o2,a,b⟩:=eV W;rw[a];split
     ·exact b.len
     ·exact b.len
   refine TD r y [] _ _ (by rw[bhp,bgl,bhp]) b1 (λid hid=> ?_) (λq k id x e=> ?_)
   ·rw[QM,QM];cases W:H[id]? with
    |none=>rw[Fw W]
    |some o=>
     have a9:∀j,eM id j R=ν:=by
      intro j;cases J:eM id j R with
      |false=>rfl
      |true=>
       exfalso;obtain⟨q,k,a,_⟩:=wE.1 J;rcases Ci k with⟨i,e,x,g,rfl⟩|⟨i,x,g,rfl⟩
       ·have a:=a;subst a;exact hid (uG g (aF.2 Τ))
       ·have a:=a;subst a;exact hid (uG g (aF.2 Τ))
     have a7:∀q∈R,q.1≠id:=by
      intro q k e;rcases Ci k with⟨i,e2,x,g,rfl⟩|⟨i,x,g,rfl⟩
      ·have e:=e;subst e;exact hid (uG g (aF.2 Τ))
      ·have e:=e;subst e;exact hid (uG g (aF.2 Τ))
     obtain⟨o2,a,b⟩:=eV W;have e:o2=o:=by
      cases o with
      |bl e cs=>
       obtain⟨K,rfl,g,B⟩:=b;have:K=cs:=cI λj=>by rw[B,a9 j,aA aA2]
       rw[this]
      |_=>
       rcases b with⟨b,_⟩|⟨_,q,k,g⟩
       ·exact b
       ·exact absurd g (a7 q k)
     rw[a,e]
   ·have:=zk d q k;rw[e]at this;exact this.2
  rw[F]at a0 O;refine⟨ρ3,L3,us,N,b6,a0,by rw[O];rfl,a6⟩
 ·cases h
end
open Go.Wk
open Go.Ce (Tr)
open List renaming length → aR, replicate → jM
open Nat renaming beq → cT, blt → iJ
section
variable{C:Cx}{md:Md}{w0 w:φ}{S0:δ Nat}{GS:Br}{ρ:Nat->Ad}{S:St}{F:Nat->ς}
variable{u:ς}
theorem JM{t : Ε}{a : Β}{p : Ζ}(hx : aU md F a = .pointer (θ p))(h : (χ (aU md F) (⟨θ 0, .load t a, 0, "", #[], ι⟩)).run C.P w = .ok (.value u) w) : (loadVar t p).run C.P w = .ok u w := by
 simp only[χ,hx,Instr.loadAt,Instr.sureAddr,Sem.run_bind,Sem.run_pure,Result.andThen_ok]at h;cases b:(loadVar t p).run C.P w with
 |ok v w'=>rw[b]at h;simp at h;rw[h.1,h.2]
 |halt x w'=>rw[b]at h;cases h
theorem SZ(j:C.nn=md.n)(g:Rel C w0 S0 ρ S F w){rv:ResultVar}(h:(Go.Oe.iE C S rv).v ρ=θ u):(Go.Wk.iE (fr md F).tmps rv).run C.P w=.ok u w:=by
 cases rv with
 |tmp t=>have:=(Rl g j (.tmp t)).2 u h;have e:(bif iJ t md.n then F t else undef)=u:=this;unfold Go.Wk.iE;simp only[Ee,e,Sem.run_pure]
 |cell a t=>
  have h:((match S.ev C (.tmp a)with
   |.c' x=>match kK C S.H t x with
    |some ⟨[],v,_,_⟩=>v
    |_=>.u'
   |_=>.u'):SV).v ρ=θ u:=h
  split at h
  ·rename_i x hx;have d:=hx;obtain⟨s,c⟩:=nQ g j d;split at h
   ·rename_i v H m b;obtain⟨⟨_,r,k,q⟩,_⟩:=OK g c b trivial;rw[h]at k;cases k
    have o := q 0 0 "" #[];have f:∃p,x.v ρ=.pointer (θ p):=by
     unfold kK at b;split at b
     ·rename_i n y _ _;cases i:cT n 0 with
      |true=>rw[i]at b;cases b
      |false=>rw[i]at b;cases x<;>first|exact⟨_,Τ⟩|cases b
     ·cases b
    obtain⟨p,f⟩:=f;rw[f]at c;have l:=JM c o;have e:(bif iJ a md.n then F a else undef)=.pointer _:=c;unfold Go.Wk.iE;simp only[Ee,e];exact l
   ·cases h
  ·cases h
end
def TP:δ ς->ς
 |[u]=>u
 |a=>.tuple a.toArray
variable{P:Θ}{k:Nat}{w:φ}{b:Func}
theorem Kv{F:Nat->ς}(l:δ ResultVar)(vs:δ ς)(e:b.results=l.toArray)(g:aR l=aR vs)
  (d:∀(i:Nat) x v,l[i]? =θ x->vs[i]? =θ v->(Go.Wk.iE (fr ⟨k,[],ι⟩ F).tmps x).run P w=.ok v w) (v:ς) (a:TP vs=v):
  (results b (fr ⟨k,[],ι⟩ F).tmps).run P w=.ok v w:=by
 have f:=Kl _ l vs g d;unfold results;rw[e];change Sem.run P (do let vs<-l.toArray.mapM (Go.Wk.iE (fr _ F).tmps);pure (if h:vs.size=1 then vs[0]else .tuple vs)) w=_;simp;rw[f];subst a;cases vs with
 |nil=>simp[TP]
 |cons u c=>cases c with
  |nil=>simp[TP]
  |cons u' c=>simp[TP]
variable{a:Nat->Ad}
theorem X5:∀l,(kH l).v a=θ (TP (l.map (SA.v a)))
 |[]=>rfl
 |[x]=>SA.oc a x
 |_::_::_=>rfl
variable{s:Br}
theorem fun_ok{C:Cx}{code:Code}{gl:δ (Nat×Ob)}{rs:δ ResultVar}{sc:Sc}{a:δ Ty}{r:δ Rk}{f:(fK a).T->Gv (fS r).T}(hf:C.P.funcs[k]? =θ b)(hb:b.body=θ code)(hn:b.ntmps=C.nn)(hr:b.results=rs.toArray)
  (F:∀x y,(f x).ok y->denF C (gl.map (·.2)) code rs sc a r x=θ y) (c9:aR a<=C.nn) (hE:EOk C) (hX:∀k,∀c∈C.X k,Enters C.P k/\Qd C.P s k c) (c7:∀q∈gl,q∈s.gs/\∃t l,q.2=.ro t l)
  (hG:∀g id,C.G g=θ id->∃i q,id=noA a+i/\gl[i]? =θ q/\q.1=g):Qd C.P s k ⟨a,r,f⟩:=by
 intro w S ρ L us x y b8 d1 d0 K hy;let H:δ Ob:=(iT [] a x).2;have f6:iN _ x=H:=Τ;let gs:δ Ob:=gl.map (·.2);have hd:=F x y hy;have hd:=hd;have hd:=dD hd;have hc:=gY hd.1;have b7:=gY hc.2;have c5:=hc.1;have c6:=mU.1 b7.1;have b1:=b7.2;have F:=hd.2;obtain⟨a8,b2,A,Y,M⟩:=ON a [] x c5;rw[yL]at b2;have N:H=a8:=b2;have Z:aR H=noA a:=by have:=OO a [] x;rw[tU,Ps]at this;exact this
 have a2:γ ([]:δ Ob)+aR a8=aR H:=by rw[N];simp
 rw[a2]at Y M;have hm:Mt w S ρ H L:=d0;have R:∀(i:Nat) (q:Nat×Ob),gl[i]? =θ q->∃t l,q.2=.ro t l/\Rd w (θ ⟨q.1,0,ι⟩) (l.flatMap t.enc)/\q.1∉S:=by intro i q hq;obtain⟨g,o⟩:=q;obtain⟨d,t,l,T⟩:=c7 _ (aL hq);have T:o=.ro t l:=T;subst T;have:=s.rd b8 d;exact⟨t,l,Τ,this.1,this.2⟩
 let m:Nat->Ad:=λid=>if id<aR H then ρ id else match gl[id-aR H]? with
  |some q=>⟨ι,θ ⟨q.1,0,ι⟩,q.2.len,ν,q.2.len⟩
  |none=>ρ id
 have G:Up (γ H) ρ m:=λid E=>by simp only[m,E,gZ]
 have b6:∀(i:Nat) (q:Nat×Ob),gl[i]? =θ q->m (aR H+i)=⟨ι,θ ⟨q.1,0,ι⟩,q.2.len,ν,q.2.len⟩:=by intro i q hq;have e1:¬γ H+i<aR H:=aA0;have e2:aR H+i-aR H=i:=aA0;simp only[m,e1,GL,e2,hq]
 have c2:(iT [] a x).1.map (SV.v m)=us.map θ:=by have K:(iT [] a x).1.map (SV.v ρ)=us.map θ:=K;rw[<-K];refine xj λv hv=>SV.up G (Y v hv)
 have b3:aR us=aR a:=by have:=bM aR K;simp at this;rw[<-this];exact A
 let S1:St:=⟨SH Tr.e 0 (iT [] a x).1,H++gs,γ (H++gs),Rq r H H 0,[]⟩;have b4:γ (H++gs)=aR H+aR gl:=by simp[gs]
 have b0:Rel C w S m S1 (KX us) w:=by
  have iL:∀t,S1.at t=if t<aR a then(iT [] a x).1.getD t .u' else .u':=by intro t;rw[St.at_eq];show Re (SH Tr.e 0 (iT [] a x).1) t=_;rw[BP,A];have e:Re (Tr.e:Tr SV) t=.u':=aF0;rw[e];simp
  refine⟨λg id hg=> ?_,λt u Q=> ?_,λt=> ?_,λid e cs h c c8=> ?_,⟨L++jM (γ gl) dJ,?_,?_,?_⟩⟩
  ·obtain⟨i,q,d,T,rfl⟩:=hG g id hg;have E:=(aE.1 T).1;rw[<-Z]at d;subst d;exact⟨by show γ H+i<γ (H++gs);omega,by rw[b6 i q T]⟩
  ·rw[iL]at Q;split at Q
   ·rename_i W;have d:(iT [] a x).1[t]? =θ ((iT [] a x).1[t]' aD8):=aN aD8;have T:=bM (λl=>l[t]?) c2;simp only[aW,d]at T;have B:us[t]? =θ (us[t]' aA0):=aN aA0;rw[B]at T;rw[bF,d]at Q;have O:=aP T;rw[show((θ ((iT [] a x).1[t]' aD8)).getD SV.u')=(iT [] a x).1[t]' aD8 from Τ,O]at Q;unfold KX;rw[bF,B];exact aP Q
   ·cases Q
  ·rw[iL];split
   ·rename_i W;have d:(iT [] a x).1[t]? =θ ((iT [] a x).1[t]' aD8):=aN aD8;rw[bF,d];exact SV.cQ (Y _ (aL d)) (by show γ H<=γ (H++gs);omega)
   ·trivial
  ·have h:(H++gs)[id]? =θ (.bl e cs):=h;by_cases E:id<aR H
   ·rw[aI E,N]at h;exact SC.cQ (M id e cs h c c8) (by show γ H<=γ (H++gs);omega)
   ·rw[aM aA0]at h;exfalso;obtain⟨q,d,T⟩:=map_some h;obtain⟨t,l,B,_⟩:=R _ q d;rw[B]at T;cases T
  ·have key:∀n,Hp w S (L++jM n dJ) w:=by
    intro n;induction n with
    |zero=>rw[List.replicate_zero,gV];exact d1
    |succ n ih=>have:=Go.Oe.Hp.rot (uH ih);rw[nW]at this;rw[List.replicate_succ'];exact this
   exact key _
  ·show(L++_).length=γ (H++gs);rw[cR,List.length_replicate,b4,hm.1]
  ·intro id o h;have h:=h;by_cases E:id<aR H
   ·rw[aI E]at h;obtain⟨d,r1,T,B⟩:=hm.2 id o h;refine⟨by rw[G id E];exact d,r1,by rw[aI (by rw[hm.1];exact E)];exact T,B.up G E λe cs he=> ?_⟩;rw[he,N]at h;exact M id e cs h
   ·rw[aM aA0]at h;obtain⟨q,d,T⟩:=map_some h;obtain⟨t,l,B,O,h5⟩:=R _ q d;have a0:=b6 _ q d;rw[show γ H+(id-aR H)=id by omega]at a0;rw[B]at T;subst T;have b5:=(aE.1 d).1;refine⟨by rw[a0,B],dJ,?_,Τ,?_⟩
    ·rw[aM (by rw[hm.1];omega),List.getElem?_replicate,aB (by rw[hm.1];exact b5)]
    ·rw[a0];exact⟨O,λ_ p hp=>by cases hp;exact h5,by rw[B];exact dC _⟩
 let md:Md:=⟨C.nn,[],ι⟩;have b9:Env C md w S s:=⟨hE,Τ,b8,hX⟩
 have a9:=VO (τ:=fS r) (res:=TA C (γ (H++gs)) (Rq r H H 0) rs r) (md:=md) (w0:=w) (S0:=S) (C:=C) Τ ⟨_,Τ⟩ (pureOk Τ) code (qa b9 Τ code);have c0:∀U D F2 I,TA C (γ (H++gs)) (Rq r H H 0) rs r U=θ y->Rel C w S D U F2 I->Le S1.nb S1.al m S1.H D U.H->
   ∃J v,aR rs=aR J/\(∀(i:Nat) (x:ResultVar) (u:ς),rs[i]? =θ x->J[i]? =θ u->(Go.Wk.iE (fr md F2).tmps x).run C.P I=.ok u I)/\TP J=v/\
    ∃j V,Up (γ H) ρ j/\Hp w S V I/\Mt w S j (jV _ x y).2 V/\(kH (jV _ x y).1).v j=θ v:=by
  intro U D F2 I d T B;obtain⟨j,V,J,O,h5,h6,h7,h8⟩:=end_ok (md:=md) (H:=H) (gs:=gs) (ρ:=m) Τ Τ T (λid o h=>by have E:=(aE.1 h).1;rw[G id E];exact hm.lns id o h) (λid e cs h=>by rw[N]at h;exact M id e cs h) c6 b1 B d;refine⟨J,_,by simpa using bM aR h8,λi rv u E Q=> ?_,Τ,j,V,G.trans O (dC _),h5,h6,?_⟩
  ·have h9:=bM (λl=>l[i]?) h8;simp only[aW,E,Q]at h9;exact SZ Τ T (aP h9)
  ·rw[<-h7];exact X5 _
 refine enter hf hb hn (by rw[b3];exact c9) ?_;refine a9 sc S1 _ θ _ y m _ w _ F b0 (λe U D F2 I he a1 hN e8 d3=> ?_) (λz U D F2 I hz c4 a1 hL=> ?_)
 ·cases e with
  |nm=>obtain⟨J,v,d,T,B,j,V,O⟩:=c0 U D F2 I he a1 hN.le;exact⟨Τ,v,Kv rs J hr d T v B,v,Τ,j,V,O⟩
  |xt i=>cases he
 ·cases c4;obtain⟨J,v,d,T,B,j,V,O⟩:=c0 U D F2 I hz a1 hL.le;exact⟨Τ,v,Kv rs J hr d T v B,v,Τ,j,V,O⟩
open Go.Wk
open Go.Ce (Tr)
open List renaming replicate → jM
open Nat renaming beq → cT, one_pos → Ib, succ → qN
structure KF (P:Θ) (GS:Br) where
 k:Nat
 c:wH
 en:Enters P k
 ok:Qd P GS k c
def Tq{P:Θ}{a:Br}:δ (KF P a)->Nat->δ wH
 |[],_=>[]
 |q::l,k=>bif cT k q.k then q.c::Tq l k else Tq l k
theorem Lw{P:Θ}{b:Br}:∀(l:δ (KF P b)) (k:Nat),∀c∈Tq l k,Enters P k/\Qd P b k c
 |[],k,c,h=>by cases h
 |q::l,k,c,h=>by
  unfold Tq at h;cases a:cT k q.k with
  |false=>rw[a]at h;exact Lw l k c h
  |true=>
   rw[a]at h;rcases aQ.1 (show c∈q.c::Tq l k from h)with rfl|h
   ·rw[gO a];exact⟨q.en,q.ok⟩
   ·exact Lw l k c h
def tt:δ (Nat×Ob)->Nat->Nat->ε Nat
 |[],_,_=>ι
 |q::l,n,g=>bif cT g q.1 then θ n else tt l (qN n) g
theorem OZ:∀(l:δ (Nat×Ob)) (n g id:Nat),tt l n g=θ id->∃i q,id=n+i/\l[i]? =θ q/\q.1=g
 |[],n,g,id,h=>by cases h
 |q::l,n,g,id,h=>by
  unfold tt at h;cases a:cT g q.1 with
  |false=>rw[a]at h;obtain⟨i,b,e,d,c⟩:=OZ l (qN n) g id h;exact⟨i+1,b,aA0,d,c⟩
  |true=>rw[a]at h;cases h;exact⟨0,q,Τ,Τ,(gO a).symm⟩
structure Sea where
 P:Θ
 GS:Br
 E:Nat->Option (Nat×Nat×Ty)
 hE:∀t e b τ,E t=θ (e,b,τ)->P.underlying t=θ (.slice e)/\TI P e τ.sz b/\τ.flat=μ/\0<b
 gt:∀q∈GS.gs,∃t l,q.2=.ro t l
abbrev Sea.K(T:Sea):Type:=KF T.P T.GS
abbrev Sea.cx(T:Sea)(fu n:Nat)(l:δ T.K)(a:δ Ty):Cx:=⟨T.P,Tq l,T.E,tt T.GS.gs (noA a),n,fu⟩
def Sea.fn(T : Sea)(fu k : Nat){fn : Func}(e : T.P.funcs[k]? = θ fn){code : Code}(f : fn.body = θ code)(nm : (fn.name == "runtime.NumGoroutine") = ν)(l : δ T.K)(a : δ Ty)(r : δ Rk)(g : (fK a).T -> ε (fS r).T)(sc : Sc)
  (c:Nat.ble (γ a) fn.ntmps=μ) (b:∀x,denF (T.cx fu fn.ntmps l a) (T.GS.gs.map (·.2)) code fn.results.toList sc a r x=g x):T.K:=
 ⟨k,⟨a,r,λx=>.one (g x)⟩,⟨fn,code,e,f,nm⟩,
  fun_ok (C:=T.cx fu fn.ntmps l a) (gl:=T.GS.gs) e f Τ (rs:=fn.results.toList) aA2 (sc:=sc) (λx y i=>(b x).trans i) (Rx c) T.hE (Lw l) (λq d=>⟨d,T.gt q d⟩) (λg id h=>OZ _ _ _ _ h)⟩
variable{c:wH}
theorem KY(V:(fK c.a).T->δ ς)(R:(fS c.r).T->ς)(h:∀w S x y,s.p w S->(c.f x).ok y->CR P k (V x) w λv j=>v=R y/\Hp w [] [] j)(C:∀x,iN c x=[]:=by intros;rfl)(z:∀ρ x,(iT [] c.a x).1.map (SV.v ρ)=(V x).map θ:=by intros;rfl)(l:∀x y,(jV c x y).2=[]:=by intros;rfl)(A:∀ρ x y,(kH (jV c x y).1).v ρ=θ (R y):=by intros;rfl):Qd P s k c:=by intro w S ρ L m x y D i g d n;rw[z]at d;have e:V x=m:=(pA (λa b h=>aP h)).1 d;subst e;have B:L=[]:=Gh (by rw[g.1,C];rfl);subst B;refine Calls.mono (h w S x y D n) ?_;rintro E j ⟨v,u,rfl,q⟩;refine⟨_,u,ρ,[],λ_ _=>rfl,i.call q,?_,A ρ x y⟩;rw[l];exact⟨Τ,λid o t=>by simp at t⟩
theorem ei{t:Ty}(X:(fK c.a).T->δ t.T)(V:(fK c.a).T->δ ς)(R:(fS c.r).T->ς)(h:∀w S x y a n cap,s.p w S->(c.f x).ok y->n=γ (X x)->Rd w a ((X x).flatMap t.enc)->n<=cap->CR P k (ξ a n cap::V x) w λv j=>v=R y/\Hp w [] [] j)(B:∀x,iN c x=[.ro t (X x)]:=by intros;rfl)(z:∀(ρ:Nat->Ad) x,(iT [] c.a x).1.map (SV.v ρ)=(ξ (ρ 0).a (ρ 0).ln (ρ 0).cap::V x).map θ:=by intros;rfl)(m:∀x y,(jV c x y).2=[.ro t (X x)]:=by intros;rfl)(A:∀ρ x y,(kH (jV c x y).1).v ρ=θ (R y):=by intros;rfl):Qd P s k c:=by intro w S ρ L E x y C i d g o;rw[z]at g;have e:=(pA (λa b h=>aP h)).1 g;subst e;rw[B]at d;obtain⟨D,r,G,F,l⟩:=d.2 0 _ Τ;have iD:(ρ 0).ln=γ (X x):=D.symm;refine Calls.mono (h w S x y _ _ _ C o iD l.1 (by rw[iD];exact l.2.2)) ?_;rintro H j ⟨v,u,rfl,q⟩;refine⟨_,u,ρ,L,λ_ _=>rfl,i.call q,?_,A ρ x y⟩;rw[m];exact d
theorem ua{e b:Nat}{t:Ty}(Y:(fS c.r).T->δ t.T)(V:(fK c.a).T->δ ς)(h:∀w S x y,s.p w S->(c.f x).ok y->CR P k (V x) w λv l=>∃o a cap,v=.slice a (γ (Y y)) cap/\Hp w [] [bN t.enc e t.sz o a cap (Y y)] l)(q:∀x,iN c x=[]:=by intros;rfl)(C:∀(ρ:Nat->Ad) x,(iT [] c.a x).1.map (SV.v ρ)=(V x).map θ:=by intros;rfl)(A:∀x y,(jV c x y).2=[.rw e b t (Y y)]:=by intros;rfl)(D:∀(ρ:Nat->Ad) x y,(kH (jV c x y).1).v ρ=θ (.slice (ρ 0).a (ρ 0).ln (ρ 0).cap):=by intros;rfl):Qd P s k c:=by
 intro w S ρ L G x y F j g d u;rw[C]at d;have e:=(pA (λa b h=>aP h)).1 d;subst e;have E:L=[]:=Gh (by rw[g.1,q];rfl);subst E;refine Calls.mono (h w S x y F u) ?_;rintro H l ⟨v,B,o,a,cap,rfl,z⟩;refine⟨_,B,λid=>⟨o,a,cap,ν,γ (Y y)⟩,_,(λi n=>by rw[q]at n;cases n),j.kQ z,?_,D _ x y⟩;rw[A];refine⟨Τ,λid ob m=> ?_⟩;cases id with
 |zero=>cases m;exact⟨Τ,_,Τ,Τ⟩
 |succ id=>simp at m
theorem nG{e b:Nat}{t:Ty}(X:(fK c.a).T->δ t.T)(Y:(fS c.r).T->δ t.T)(h:∀w S x y a n cap,s.p w S->(c.f x).ok y->n=γ (X x)->Rd w a ((X x).flatMap t.enc)->n<=cap->CR P k [ξ a n cap] w λv B=>∃o a cap,v=.slice a (γ (Y y)) cap/\Hp w [] [bN t.enc e t.sz o a cap (Y y)] B)(z:∀x,iN c x=[.ro t (X x)]:=by intros;rfl)(H:∀(ρ:Nat->Ad) x,(iT [] c.a x).1.map (SV.v ρ)=[ξ (ρ 0).a (ρ 0).ln (ρ 0).cap].map θ:=by intros;rfl)(E:∀x y,(jV c x y).2=[.ro t (X x),.rw e b t (Y y)]:=by intros;rfl)(I:∀(ρ:Nat->Ad) x y,(kH (jV c x y).1).v ρ=θ (.slice (ρ 1).a (ρ 1).ln (ρ 1).cap):=by intros;rfl):Qd P s k c:=by
 intro w S ρ L N x y J m g j C;rw[H]at j;have e:=(pA (λa b h=>aP h)).1 j;subst e;rw[z]at g;obtain⟨A,r,M,K,q⟩:=g.2 0 _ Τ;have iD:(ρ 0).ln=γ (X x):=A.symm;refine Calls.mono (h w S x y _ _ _ J C iD q.1 (by rw[iD];exact q.2.2)) ?_;rintro O B ⟨v,G,o,a,cap,rfl,D⟩;have F:=(m.kQ D).perm (wK (l₁:=[_]) (l₂:=L));have l:γ L=1:=g.1;refine⟨_,G,λid=>if id=0 then ρ 0 else⟨o,a,cap,ν,γ (Y y)⟩,_,λi u=> ?_,F,?_,I _ x y⟩
 ·rw[z]at u;have:i=0:=Nat.lt_one_iff.1 u;subst this;rfl
 rw[E];refine⟨by simp[l],λid ob d=> ?_⟩
 match id,d with
 |0,d=>cases d;exact⟨A,r,by rw[aI aA0];exact M,K,q⟩
 |1,d=>cases d;exact⟨Τ,_,by rw[aM aA0,l];rfl,Τ⟩
 |id+2,d=>simp at d
variable{S:δ Nat}
theorem KD{e b q:Nat}{t:Ty}{G:δ t.T->ε (δ t.T)}(h:Qd P s k ⟨[.l' e b t,.f' q .u'],[.w' 0 (.l' e b t)],λx=>.one (G x.1)⟩){o:ε Nat}{a:ε Ζ}{cap:Nat}{l r:δ t.T}
  (y:G l=θ r) (C:s.p w S) (A:Hp w S [bN t.enc e t.sz o a cap l] w):CR P k [ξ a (γ l) cap,Λ (.func q) #[] #[]] w λv w'=>v=.tuple #[]/\γ r=γ l/\Hp w S [bN t.enc e t.sz o a cap r] w':=by
 refine Calls.mono (h w S (λ_=>⟨o,a,cap,ν,γ l⟩) _ [ξ a (γ l) cap,Λ (.func q) #[] #[]] (l,()) r C A ?_ Τ y) ?_
 ·show Mt w S _ [.rw e b t l] _;refine⟨Τ,λid ob n=> ?_⟩;cases id with
  |zero=>cases n;exact⟨Τ,_,Τ,Τ⟩
  |succ id=>simp at n
 ·rintro I H ⟨v,z,c,m,i,F,d,E⟩
  have i:c 0=⟨o,a,cap,ν,γ l⟩:=i 0 Ib;have d:Mt w S c [.rw e b t r] m:=d;obtain⟨g,u,f,j⟩:=d.2 0 _ Τ;have g:γ r=(c 0).ln:=g;have j:u=bN t.enc e t.sz (c 0).o (c 0).a (c 0).cap r:=j;subst j;rw[i]at g f;have B:m=[bN t.enc e t.sz o a cap r]:=by
   have D:=d.1
   match m,D,f with
   |[x],_,f=>cases f;rfl
  subst B;exact⟨v,z,(aP E).symm,g,F⟩
theorem WA(h:Qd P s k c)(V:(fK c.a).T->δ ς)(R:(fS c.r).T->ς){x:(fK c.a).T}{y:(fS c.r).T}(t:s.p w [])(j:(c.f x).ok y)(g:∀x,iN c x=[]:=by intros;rfl)(n:∀ρ x,(iT [] c.a x).1.map (SV.v ρ)=(V x).map θ:=by intros;rfl)(q:∀ρ x y,(kH (jV c x y).1).v ρ=θ (R y):=by intros;rfl):CR P k (V x) w λv b=>v=R y/\Hp w [] [] b:=by
 refine Calls.mono (h w [] (λ_=>⟨ι,ι,0,ν,0⟩) [] (V x) x y t (Hp.refl w) ?_ (n _ x) j) ?_
 ·rw[g];exact⟨Τ,λid o l=>by simp at l⟩
 ·rintro e b ⟨v,m,i,z,_,u,_,d⟩;rw[q]at d;exact⟨v,m,(aP d).symm,u.nil⟩
def adL:δ (ε Ζ×Nat×Nat)->Nat->Ad
 |[],_=>⟨ι,ι,0,ν,0⟩
 |p::A,id=>match id with
  |0=>⟨ι,p.1,p.2.2,ν,p.2.1⟩
  |id+1=>adL A id
def roP(w:φ):δ (ε Ζ×Nat×Nat)->δ Ob->Prop
 |p::A,.ro t l::H=>(p.2.1=γ l/\Rd w p.1 (l.flatMap t.enc)/\p.2.1<=p.2.2)/\roP w A H
 |[],[]=>True
 |_,_=>False
theorem V6{w:φ}:∀(A:δ (ε Ζ×Nat×Nat)) (H:δ Ob),roP w A H->∀(id:Nat) (o:Ob),H[id]? =θ o->∃t l,o=.ro t l/\γ l=(adL A id).ln/\Vu w [] (adL A id) t l
 |[],[],_,id,o,a=>by simp at a
 |p::A,.ro t l::H,h,0,o,a=>by cases a;exact⟨t,l,Τ,h.1.1.symm,h.1.2.1,λ_ _ _ b=>(nomatch b),show γ l<=p.2.2 from h.1.1▸h.1.2.2⟩
 |p::A,.ro t l::H,h,id+1,o,a=>V6 A H h.2 id o a
theorem Nu(h:Qd P s k c)(A:δ (ε Ζ×Nat×Nat))(V:δ ς){x:(fK c.a).T}{y:(fS c.r).T}(z:s.p w [])(q:(c.f x).ok y)(B:roP w A (iN c x))(u:(iT [] c.a x).1.map (SV.v (adL A))=V.map θ):CR P k V w λv g=>∃ρ L,Hp w [] L g/\Mt w [] ρ (jV c x y).2 L/\(kH (jV c x y).1).v ρ=θ v:=by
 refine Calls.mono (h w [] (adL A) (jM (γ (iN c x)) dJ) V x y z ?_ ⟨List.length_replicate,λid o i=> ?_⟩ u q) ?_
 ·generalize(iN c x).length=n;induction n with
  |zero=>exact Hp.refl w
  |succ n m=>exact uH m
 ·obtain⟨t,l,rfl,E,d⟩:=V6 A _ B id o i;exact⟨E,dJ,by rw[List.getElem?_replicate,aB (aE.1 i).1],Τ,d⟩
 ·rintro e g ⟨v,j,b,F,_,d,D,C⟩;exact⟨v,j,b,F,d,D,C⟩
theorem bhx(h:Qd P s k c)(A:δ (ε Ζ×Nat×Nat))(V:δ ς)(R:ς){x:(fK c.a).T}{y:(fS c.r).T}(n:s.p w [])(i:(c.f x).ok y)(o:roP w A (iN c x))(l:(iT [] c.a x).1.map (SV.v (adL A))=V.map θ:=by rfl)(m:∀ρ,(kH (jV c x y).1).v ρ=θ R:=by intros;rfl):CR P k V w λv b=>v=R/\Hp w [] [] b:=by refine Calls.mono (Nu h A V n i o l) ?_;rintro e b ⟨v,j,ρ,L,q,_,d⟩;rw[m]at d;exact⟨v,j,(aP d).symm,q.nil⟩
theorem FD(h:Qd P s k c)(A:δ (ε Ζ×Nat×Nat))(V:δ ς)(e b:Nat)(t:Ty)(l:δ t.T)(R:ε Ζ->Nat->Nat->ς){x:(fK c.a).T}{y:(fS c.r).T}(z:s.p w [])(j:(c.f x).ok y)(B:roP w A (iN c x))(i:(iT [] c.a x).1.map (SV.v (adL A))=V.map θ:=by rfl)(m:(jV c x y).2[γ A]? =θ (.rw e b t l):=by rfl)(u:∀ρ:Nat->Ad,(kH (jV c x y).1).v ρ=θ (R (ρ (γ A)).a (ρ (γ A)).ln (ρ (γ A)).cap):=by intros;rfl):CR P k V w λv d=>∃o a cap,v=R a (γ l) cap/\Hp w [] [bN t.enc e t.sz o a cap l] d:=by refine Calls.mono (Nu h A V z j B i) ?_;rintro G d ⟨v,n,ρ,L,D,C,g⟩;obtain⟨F,q,E,rfl⟩:=C.2 _ _ m;rw[u ρ,<-show γ l=_ from F]at g;exact⟨v,n,_,_,_,(aP g).symm,D.sub (List.singleton_sublist.2 (aL E))⟩
theorem FC(h:Qd P s k c)(A:δ (ε Ζ×Nat×Nat))(V:δ ς)(e b:Nat)(t:Ty)(l:δ t.T)(m O:Nat)(t2:Ty)(g:δ t2.T)(R:ε Ζ->Nat->Nat->ε Ζ->Nat->Nat->ς){x:(fK c.a).T}{y:(fS c.r).T}(J:s.p w [])(E:(c.f x).ok y)(K:roP w A (iN c x))(H:(iT [] c.a x).1.map (SV.v (adL A))=V.map θ:=by rfl)(F:(jV c x y).2[γ A]? =θ (.rw e b t l):=by rfl)(j:(jV c x y).2[γ A+1]? =θ (.rw m O t2 g):=by rfl)(I:∀ρ:Nat->Ad,(kH (jV c x y).1).v ρ=θ (R (ρ (γ A)).a (ρ (γ A)).ln (ρ (γ A)).cap (ρ (γ A+1)).a (ρ (γ A+1)).ln (ρ (γ A+1)).cap):=by intros;rfl):CR P k V w λv n=>∃o a cap D B d,v=R a (γ l) cap B (γ g) d/\Hp w [] [bN t.enc e t.sz o a cap l,bN t2.enc m t2.sz D B d g] n:=by refine Calls.mono (Nu h A V J E K H) ?_;rintro m n ⟨v,G,ρ,L,M,u,C⟩;obtain⟨N,q,z,rfl⟩:=u.2 _ _ F;obtain⟨f1,q,f2,rfl⟩:=u.2 _ _ j;rw[I ρ,<-show γ l=_ from N,<-show γ g=_ from f1]at C;refine⟨v,G,(ρ (γ A)).o,_,_,(ρ (γ A+1)).o,_,_,(aP C).symm,M.sub (List.Sublist.trans ?_ (List.drop_sublist (γ A) L))⟩;rw[zbC (aE.1 z).1,(aE.1 z).2];exact List.Sublist.cons_cons _ (List.singleton_sublist.2 (aL (i:=0) (by rw[bV];exact f2)))
abbrev RoA(w:φ)(ρ:Nat->Ad)(H:δ Ob):Prop:=∀(id:Nat) (t:Ty) (l:δ t.T),H[id]? =θ (.ro t l)->(ρ id).ln=γ l/\Rd w (ρ id).a (l.flatMap t.enc)/\(ρ id).ln<=(ρ id).cap
theorem mt_ro{H:δ Ob}{L:δ cL}(h:Mt w S a H L):RoA w a H:=λid t l c=>by obtain⟨ρ,r,_,_,b⟩:=h.2 id _ c;have ρ:γ l=(a id).ln:=ρ;exact⟨ρ.symm,b.1,by rw[<-ρ];exact b.2.2⟩
def isRoB:Ob->η
 |.ro _ _=>μ
 |_=>ν
section
variable{P:Θ}{GS:Br}{k:Nat}{c:wH}
theorem KE(n:Nat)(U b0:Nat)(t0:Ty)(Q b1:Nat)(t1:Ty)(C:(fS c.r).T->δ t0.T)(B:(fS c.r).T->δ t1.T)(V:(Nat->Ad)->(fK c.a).T->δ ς)(R:(fS c.r).T->ε Ζ->Nat->Nat->ε Ζ->Nat->Nat->ς)
  (h:∀w S ρ x y,GS.p w S->(c.f x).ok y->RoA w ρ (iN c x)->CR P k (V ρ x) w λv W=>∃E A j D z g,v=R y A (γ (C y)) j z (γ (B y)) g/\Hp w [] [bN t0.enc U t0.sz E A j (C y),bN t1.enc Q t1.sz D z g (B y)] W)
  (m:∀x,γ (iN c x)=n:=by intros;rfl) (hb:∀x,(iN c x).all isRoB=μ:=by intros;rfl) (hV:∀ρ x,(iT [] c.a x).1.map (SV.v ρ)=(V ρ x).map θ:=by intros;rfl) (hr:∀x y,(jV c x y).2=iN c x++[.rw U b0 t0 (C y),.rw Q b1 t1 (B y)]:=by intros;rfl)
  (hR:∀(ρ:Nat->Ad) x y,(kH (jV c x y).1).v ρ=θ (R y (ρ n).a (ρ n).ln (ρ n).cap (ρ (n+1)).a (ρ (n+1)).ln (ρ (n+1)).cap):=by intros;rfl):Qd P GS k c:=by
 intro w S ρ L us x y hG N u F Y;rw[hV]at F;have e:=(pA (λa b h=>aP h)).1 F;subst e;refine Calls.mono (h w S ρ x y hG Y (mt_ro u)) ?_;rintro ev W ⟨v,K,E,A,j,D,z,g,rfl,Z⟩;have hp:=(N.kQ Z).perm (wK (l₁:=[_,_]) (l₂:=L));have M:γ L=n:=u.1.trans (m x);let d:Nat->Ad:=λid=>if id<n then ρ id else if id=n then⟨E,A,j,ν,γ (C y)⟩else⟨D,z,g,ν,γ (B y)⟩
 have t:Up (γ (iN c x)) ρ d:=λi s=>by
  have s:i<n:=by rw[m]at s;exact s
  simp only[d,s,gZ]
 have H:d n=⟨E,A,j,ν,γ (C y)⟩:=by show(if n<n then ρ n else if n=n then _ else _)=_;rw[aA (Nat.lt_irrefl n),aB rfl]
 have G:d (n+1)=⟨D,z,g,ν,γ (B y)⟩:=by show(if n+1<n then ρ (n+1)else if n+1=n then _ else _)=_;rw[aA aA0,aA aA0]
 have X:=hR d x y;rw[H,G]at X;refine⟨_,K,d,_,t,hp,?_,X⟩;rw[hr];refine⟨by simp[M,m],λid ob l=> ?_⟩;by_cases s:id<n
 ·rw[aI (by rw[m];exact s)]at l;obtain⟨g1,q,g2,g3⟩:=u.2 id ob l;have hu:d id=ρ id:=t id (by rw[m];exact s);refine⟨by rw[hu];exact g1,q,by rw[aI aA0];exact g2,?_⟩;have I:=aT.1 (hb x) ob (aL l);exact g3.up t (by rw[m];exact s) λe cs K=>by subst K;cases I
 ·rw[aM (by rw[m];omega),m]at l;have J:=(aE.1 l).1;have:id-n=0\/id-n=1:=by simp at J;omega
  rcases this with O|O
  ·obtain rfl:id=n:=by omega
   rw[O]at l;cases l;exact⟨by rw[H];rfl,_,by rw[aM aA0,M,Hy];rfl,by show bN _ _ _ E A j _=bN t0.enc U t0.sz (d id).o (d id).a (d id).cap (C y);rw[H]⟩
  ·obtain rfl:id=n+1:=by omega
   rw[O]at l;cases l;exact⟨by rw[G];rfl,_,by rw[aM aA0,M,mh];rfl,by show bN _ _ _ D z g _=bN t1.enc Q t1.sz (d (n+1)).o (d (n+1)).a (d (n+1)).cap (B y);rw[G]⟩
end
end Go.Oe
set_option maxRecDepth 20000
set_option maxHeartbeats 1000000
namespace Go.Wk
open Go.Px
open Int renaming toNat → bR
open List renaming drop → dG
open Sum renaming elim → dQ
def agr(fu:Nat)(a:Int):ε η:=
 ((if 0<=a then θ (decide (a<55296))else θ ν).bind λb=>bif b then θ μ else(if 57343<a then θ (decide (a<=1114111))else θ ν).bind λc=>bif c then θ μ else θ ν)
def ags(fu:Nat)(s:aC)(b:Nat->ε (Unit⊕Int))(a:Nat):ε (Unit⊕Int):=
 (if a<γ s then(if((Utf8.decode ⟨List.toArray s⟩ a).1)=(65533:Int)then θ (.inr a)else b (a+(Utf8.decode ⟨List.toArray s⟩ a).2))else θ (.inl ()))
def ahg(fu:Nat)(s:aC):Nat->Nat->ε (Unit⊕Int):=λb a=>bJ (λg v=>ags fu s (λa=>g a) v) b a
variable{a:Nat}{c:aC}{b d:Nat}
theorem anf:ahg a c (b+1) d=ags a c (ahg a c b) d:=rfl
def aoo(fu:Nat)(s:aC)(b:Int)(c:Int)(d:Int->ε Int)(a:Int):ε Int:=
 (if a<(γ ((Γ b).data.toList))then(gd (bK (c-a))<|gd (0<=(c-a)/\(c-a)<γ s)<|gd (bK (((γ ((Γ b).data.toList))-1)-a))<|gd (0<=(((γ ((Γ b).data.toList))-1)-a)/\(((γ ((Γ b).data.toList))-1)-a)<(γ ((Γ b).data.toList)))<|if(Υ s (c-a))=(Υ ((Γ b).data.toList) (((γ ((Γ b).data.toList))-1)-a))then(gd (bK (a+1))<|d (a+1))else ι)else gd (bK (c-((γ ((Γ b).data.toList))-1)))<|some (c-((γ ((Γ b).data.toList))-1)))
def aka(fu:Nat)(s:aC)(d:Int)(c:Int):Nat->Int->ε Int:=λb a=>bJ (λg v=>aoo fu s d c (λa=>g a) v) b a
variable{e:Int}
theorem bfn{f:Int}{d:Int}:aka a c e f (b+1) d=aoo a c e f (aka a c e f b) d:=rfl
def ajd(fu:Nat)(s:aC)(a:Int)(d:ε Int):ε Int:=
 (if((γ ((Γ a).data.toList))-1)<(γ s:Int)then((gd (0<=((γ ((Γ a).data.toList))-(1:Int))/\((γ ((Γ a).data.toList))-1)<(γ s:Int))<|gd (0<=((γ ((Γ a).data.toList))-(1:Int))/\((γ ((Γ a).data.toList))-1)<(γ ((Γ a).data.toList):Int))<|if(Υ s ((γ ((Γ a).data.toList))-1))=(Υ ((Γ a).data.toList) ((γ ((Γ a).data.toList))-1))then θ (.inl ((γ ((Γ a).data.toList))-1))else gd (bK (((γ ((Γ a).data.toList))-1)+1))<|gd (0<=(((γ ((Γ a).data.toList))-1)+(1:Int))/\(((γ ((Γ a).data.toList))-1)+1)<=(γ s:Int))<|gd (0<=((γ ((Γ a).data.toList))-(1:Int))/\((γ ((Γ a).data.toList))-1)<(γ ((Γ a).data.toList):Int))<|if(dN (·==(Υ ((Γ a).data.toList) ((γ ((Γ a).data.toList))-1))) (dG (bR (((γ ((Γ a).data.toList))-1)+1)) s))<0 then θ (.inr (-1))else gd (bK ((dN (·==(Υ ((Γ a).data.toList) ((γ ((Γ a).data.toList))-1))) (dG (bR (((γ ((Γ a).data.toList))-1)+1)) s))+1))<|gd (bK (((γ ((Γ a).data.toList))-1)+((dN (·==(Υ ((Γ a).data.toList) ((γ ((Γ a).data.toList))-1))) (dG (bR (((γ ((Γ a).data.toList))-1)+1)) s))+1)))<|some (.inl (((γ ((Γ a).data.toList))-1)+((dN (·==(Υ ((Γ a).data.toList) ((γ ((Γ a).data.toList))-1))) (dG (bR (((γ ((Γ a).data.toList))-1)+1)) s))+1)))).bind λc=>dQ (λb=>aka fu s a b fu 1) (λq=>θ q) c)else θ (-1))
def ahf(fu:Nat)(s:aC)(b:Int):Nat->ε Int:=λa=>bJ (λg v=>ajd fu s b (g ())) a ()
theorem avl:ahf a c e (b+1)=ajd a c e (ahf a c e b):=rfl
def afb(fu:Nat)(s:aC)(a:Int):ε Int:=
 ((if 0<=a then θ (decide (a<128))else θ ν).bind λb=>bif b then θ (dN (·==(AH a)) s)else if a=65533 then((ahg fu s fu 0).bind λd=>dQ (λe=>θ (-1)) (λq=>θ q) d)else(agr fu a).bind λc=>bif (!c)then θ (-1)else gd (bK ((γ ((Γ a).data.toList))-1))<|ahf fu s a fu)
def ahe(fu:Nat)(a:Int):ε η:=
 θ (decide (8<a))
def afk(fu:Nat)(s:aC)(d:aC)(c:Nat->ε (Unit⊕Int))(a:Nat):ε (Unit⊕Int):=
 (if a<γ s then((afb fu d ((Utf8.decode ⟨List.toArray s⟩ a).1)).bind λb=>if 0<=b then θ (.inr a)else c (a+(Utf8.decode ⟨List.toArray s⟩ a).2))else θ (.inl ()))
def aia(fu:Nat)(s:aC)(c:aC):Nat->Nat->ε (Unit⊕Int):=λb a=>bJ (λg v=>afk fu s c (λa=>g a) v) b a
theorem aje{f:aC}:aia a c f (b+1) d=afk a c f (aia a c f b) d:=rfl
def aro(fu:Nat)(s:aC)(a:aC):ε Int:=
 (if a=[]then θ (-1)else if γ a=(1:Int)then(gd (0<=(0:Int)/\0<(γ a:Int))<|(if 128<=((Υ a 0).toNat:Int)then θ 65533 else θ ((Υ a 0).toNat:Int)).bind λb=>(afb fu s b).bind λe=>θ e)else((ahe fu (γ s)).bind λd=>bif d then ι else θ ()).bind λg=>(aia fu s a fu 0).bind λc=>dQ (λf=>θ (-1)) (λq=>θ q) c)
end Go.Wk
namespace Go.Px
open Go.Wk
theorem get_at(l:δ ζ)(k:Nat)(h:k<γ l):(⟨l.toArray⟩:ByteArray).get! k=Υ l k:=by show l.toArray[k]! =_;simp[Υ,h]
theorem Uv(l:δ ζ)(k:Nat)(h:k<γ l)(a:(Υ l k).toNat<128):Utf8.decode ⟨l.toArray⟩ k=((Υ l k).toNat,1):=by unfold Utf8.decode;simp only[Nat.add_zero,get_at l k h];rw[aB aA0]
theorem gm(l:δ ζ)(k:Nat)(h:k<γ l)(s:¬(Υ l k).toNat<128):
  128<=(Utf8.decode ⟨l.toArray⟩ k).1/\1<=(Utf8.decode ⟨l.toArray⟩ k).2/\k+(Utf8.decode ⟨l.toArray⟩ k).2<=γ l/\
  ∀j:Nat,k<=j->j<k+(Utf8.decode ⟨l.toArray⟩ k).2->128<=(Υ l j).toNat:=by
 have dR:(⟨l.toArray⟩:ByteArray).size=γ l:=Τ;have a:∀c:Nat,128<=c->128<=(c,1).1/\1<=(c,1).2/\k+(c,1).2<=γ l/\∀j:Nat,k<=j->j<k+(c,1).2->128<=(Υ l j).toNat:=
  λc q=>⟨q,pW _,by simp;omega,λj b e=>by
   have:j=k:=by simp at e;omega
   subst this;omega⟩
 have cont:∀i:Nat,(decide (k+i<γ l)&&((⟨l.toArray⟩:ByteArray).get! (k+i)).toNat/64==2)=μ->k+i<γ l/\128<=(Υ l (k+i:Nat)).toNat:=by intro i n;simp at n;rw[get_at l _ n.1]at n;omega
 have d:128<=Utf8.runeError:=aA1;have f:128<=(Υ l k).toNat:=aA0;unfold Utf8.decode;simp only[Nat.add_zero,get_at l k h,dR];rw[aA aA0];split
 ·rename_i b;simp at b;have m:=cont 1 (by simpa using b.2);split
  ·rename_i e;refine⟨aE5,aA2,by simp;omega,λj p g=> ?_⟩;have:j=k\/j=k+1:=by simp at g;omega
   rcases this with rfl|rfl
   ·exact f
   ·exact m.2
  ·exact a _ d
 split
 ·rename_i b;simp at b;have m:=cont 1 (by simpa using b.1.2);have o:=cont 2 (by simpa using b.2);split
  ·rename_i e;simp at e;refine⟨by have:=e.1;simp at this⊢;omega,aA2,by simp;omega,λj p g=> ?_⟩;have:j=k\/j=k+1\/j=k+2:=by simp at g;omega
   rcases this with rfl|rfl|rfl
   ·exact f
   ·exact m.2
   ·exact o.2
  ·exact a _ d
 split
 ·rename_i b;simp at b;have m:=cont 1 (by simpa using b.1.1.2);have o:=cont 2 (by simpa using b.1.2);have r:=cont 3 (by simpa using b.2);split
  ·rename_i e;simp at e;refine⟨by have:=e.1;simp at this⊢;omega,aA2,by simp;omega,λj p g=> ?_⟩;have:j=k\/j=k+1\/j=k+2\/j=k+3:=by simp at g;omega
   rcases this with rfl|rfl|rfl|rfl
   ·exact f
   ·exact m.2
   ·exact o.2
   ·exact r.2
  ·exact a _ d
 ·exact a _ d
def Rh(r:Int):δ ζ:=(Γ r).data.toList
theorem VF(r:Int)(h:128<=r):2<=γ (Rh r)/\γ (Rh r)<=4/\128<=(Υ (Rh r) (γ (Rh r)-1)).toNat:=by
 have a:∀n:Nat,128<=(UInt8.ofNat (128+n%64)).toNat:=by intro n;rw[iP];omega
 unfold Rh Γ;have b:128<=(if Utf8.valid r=μ then r.toNat else Utf8.runeError):=by
  split
  ·omega
  ·decide
 generalize(if Utf8.valid r=μ then r.toNat else Utf8.runeError)=c at b;rw[aA aA0];split
 ·exact⟨aA2,aA2,a c⟩
 split
 ·exact⟨aA2,aA2,a c⟩
 ·exact⟨aA2,aA2,a c⟩
end Go.Px
namespace Go.Wk
open Go.Px
open Go.Lib renaming cut → jF, itoa → iS, join → dP, trimLeftS → Ff
open Int renaming toNat → bR
open Sum renaming elim → dQ
def asd(fu:Nat)(m_0:(aC×aC×Int×aC×(δ (aC×aC))×(δ ζ)))(c:Int->ε (Unit⊕η))(a:Int):ε (Unit⊕η):=
 (if a<γ m_0.2.2.2.2.1 then((gd (0<=a/\a<γ m_0.2.2.2.2.1)<|gd (0<=a/\a<γ m_0.2.2.2.2.1)<|if 80<(γ ((el m_0.2.2.2.2.1 a).1):Int)then θ μ else gd (0<=a/\a<γ m_0.2.2.2.2.1)<|gd (0<=a/\a<γ m_0.2.2.2.2.1)<|some (decide (400<(γ ((el m_0.2.2.2.2.1 a).2):Int)))).bind λb=>bif b then θ (.inr ν)else gd (bK (a+1))<|c (a+1))else θ (.inl ()))
def aih(fu:Nat)(m_0:(aC×aC×Int×aC×(δ (aC×aC))×(δ ζ))):Nat->Int->ε (Unit⊕η):=λb a=>bJ (λg v=>asd fu m_0 (λa=>g a) v) b a
variable{a b:Nat}{c:Int}
theorem bdr{m_0:(aC×aC×Int×aC×(δ (aC×aC))×(δ ζ))}:aih a m_0 (b+1) c=asd a m_0 (aih a m_0 b) c:=rfl
def auk(fu:Nat)(m_0:(aC×aC×Int×aC×(δ (aC×aC))×(δ ζ))):ε η:=
 ((if 40<(γ m_0.2.2.2.2.1:Int)then θ μ else if 300<(γ m_0.2.1:Int)then θ μ else θ (decide (300<(γ m_0.2.2.2.2.2:Int)))).bind λa=>bif a then θ ν else(aih fu m_0 fu 0).bind λb=>dQ (λc=>θ μ) (λq=>θ q) b)
def bds(fu:Nat)(a:aC):ε (aC×aC×Int×aC×(δ (aC×aC))×(δ ζ)):=
 θ (([73,78,86,73,84,69]),([115,105,112,58,98,64,104]),0,[],([(([86,105,97]),([83,73,80,47,50,46,48,47,85,68,80,32,97,59,98,114,97,110,99,104,61,122,57,104,71,52,98,75,120])),(([70,114,111,109]),([60,115,105,112,58,97,64,104,62,59,116,97,103,61,49])),(([84,111]),([60,115,105,112,58,98,64,104,62])),(([67,97,108,108,45,73,68]),[99]),(([67,83,101,113]),([49,32,73,78,86,73,84,69])),(([77,97,120,45,70,111,114,119,97,114,100,115]),a)]),[])
def XP(fu:Nat)(a:ζ):ε η:=
 ((if 48<=a then θ (decide (a<=57))else θ ν).bind λb=>θ b)
def afq(fu:Nat)(a:ζ):ε (ζ×η):=
 ((XP fu a).bind λb=>bif b then θ (a-48,μ)else(if 97<=a then θ (decide (a<=102))else θ ν).bind λd=>bif d then θ ((a-97)+10,μ)else(if 65<=a then θ (decide (a<=70))else θ ν).bind λc=>bif c then θ ((a-65)+10,μ)else θ (0,ν))
def aoe(fu:Nat)(s:aC)(c:aC->Int->ε aC)(b:aC)(a:Int):ε aC:=
 (if a<γ s then(gd (0<=a/\a<γ b)<|gd (0<=a/\a<γ b)<|(if 65<=(Υ b a)then θ (decide ((Υ b a)<=90))else θ ν).bind λd=>bif d then(gd (0<=a/\a<γ b)<|gd (0<=a/\a<γ b)<|gd (bK (a+1))<|c (Ξ b (bR a) ((Υ b a)+32)) (a+1))else gd (bK (a+1))<|c b (a+1))else θ b)
def aqj(fu:Nat)(s:aC):Nat->aC->Int->ε aC:=λc b a=>bJ (λg v=>aoe fu s (λb a=>g (b,a)) v.1 v.2) c (b,a)
variable{e n:aC}
theorem bav:aqj a e (b+1) n c=aoe a e (aqj a e b) n c:=rfl
def WG(fu:Nat)(s:aC):ε aC:=
 ((aqj fu s fu s 0).bind λa=>θ a)
def agx(fu:Nat)(c:δ aC)(b:Int)(e:Int->ε (Unit⊕((δ aC)×η)))(a:Int):ε (Unit⊕((δ aC)×η)):=
 (if a<(γ (el c b))then(gd (0<=a/\a<(γ (el c b)))<|(afq fu (Υ (el c b) a)).bind λd=>bif (!d.2)then θ (.inr ([],ν))else gd (bK (a+1))<|e (a+1))else θ (.inl ()))
def akg(fu:Nat)(d:δ aC)(c:Int):Nat->Int->ε (Unit⊕((δ aC)×η)):=λb a=>bJ (λg v=>agx fu d c (λa=>g a) v) b a
variable{k:δ aC}{d:Int}
theorem ann:akg a k c (b+1) d=agx a k c (akg a k c b) d:=rfl
def ajn(fu:Nat)(s:aC)(i:(δ aC)->Int->ε ((δ aC)⊕((δ aC)×η)))(c:δ aC)(a:Int):ε ((δ aC)⊕((δ aC)×η)):=
 (if a<(γ (cG 58 s))then((gd (0<=a/\a<γ c)<|gd (0<=a/\a<γ c)<|(if(γ (el c a))<(1:Int)then θ μ else θ (decide (4<(γ (el c a):Int)))).bind λh=>bif h then θ (.inr ([],ν))else(akg fu c a fu 0).bind λg=>dQ (λj=>(WG fu (el c a)).bind λd=>gd (γ d<=1000000000)<|gd (γ ([48]:aC)<=1000/\([48]:aC).all (λb=>decide (b.toNat<128))=μ)<|if(Ff d [48])=[]then(gd (0<=a/\a<γ c)<|gd (0<=a/\a<γ c)<|some (.inl (Ξ c (bR a) [48])))else gd (0<=a/\a<γ c)<|gd (0<=a/\a<γ c)<|some (.inl (Ξ c (bR a) (Ff d [48])))) (λq=>θ (.inr q)) g).bind λf=>dQ (λe=>gd (bK (a+1))<|i e (a+1)) (λq=>θ (.inr q)) f)else θ (.inl c))
def afm(fu:Nat)(s:aC):Nat->(δ aC)->Int->ε ((δ aC)⊕((δ aC)×η)):=λc b a=>bJ (λg v=>ajn fu s (λb a=>g (b,a)) v.1 v.2) c (b,a)
theorem avr:afm a e (b+1) k c=ajn a e (afm a e b) k c:=rfl
def agk(fu:Nat)(s:aC):ε ((δ aC)×η):=
 (gd (γ s<=1000000000)<|(afm fu s fu (cG 58 s) 0).bind λb=>dQ (λa=>θ (a,μ)) (λq=>θ q) b)
def awe(fu:Nat)(s:aC):ε (aC×η):=
 (if 39<(γ s:Int)then θ ([],ν)else gd (γ s<=1000000000)<|bif (!((jF s ([58,58])).2.2))then((agk fu s).bind λc=>(gd (γ c.1<=1000000000/\γ (dP c.1 [58])<=100000000000)<|bif c.2 then θ (dP c.1 [58],(decide (γ c.1=(8:Int))))else θ (dP c.1 [58],ν)).bind λ(f:(aC×η))=>θ (f.1,f.2))else(if((jF s ([58,58])).1)=[]then θ ([],μ)else(agk fu ((jF s ([58,58])).1)).bind λe=>θ (e.1,e.2)).bind λa=>(if((jF s ([58,58])).2.1)=[]then θ ([],μ)else(agk fu ((jF s ([58,58])).2.1)).bind λd=>θ (d.1,d.2)).bind λb=>(bif (!a.2)then θ μ else bif (!b.2)then θ μ else gd (bK (γ a.1+γ b.1))<|some (decide (7<(γ a.1+(γ b.1:Int))))).bind λg=>bif g then θ ([],ν)else gd (γ a.1<=1000000000/\γ (dP a.1 [58])<=100000000000)<|gd (γ (dP a.1 [58])+γ ([58,58]:aC)<=9223372036854775807)<|gd (γ b.1<=1000000000/\γ (dP b.1 [58])<=100000000000)<|gd (γ ((dP a.1 [58])++([58,58]))+γ (dP b.1 [58])<=9223372036854775807)<|some (((dP a.1 [58])++([58,58]:aC))++(dP b.1 [58]),μ))
def alo(fu:Nat)(s:aC)(b:Int)(e:Int->Int->ε (Int⊕η))(c:Int)(a:Int):ε (Int⊕η):=
 (if a<(γ (el (cG 46 s) b))then(gd (0<=a/\a<(γ (el (cG 46 s) b)))<|(XP fu (Υ (el (cG 46 s) b) a)).bind λd=>bif (!d)then θ (.inr ν)else gd (bK (10*c))<|gd (0<=a/\a<(γ (el (cG 46 s) b)))<|gd (bK ((10*c)+(((Υ (el (cG 46 s) b) a)-48).toNat)))<|gd (bK (a+1))<|e ((10*c)+(((Υ (el (cG 46 s) b) a)-48).toNat)) (a+1))else θ (.inl c))
def aiw(fu:Nat)(s:aC)(d:Int):Nat->Int->Int->ε (Int⊕η):=λc b a=>bJ (λg v=>alo fu s d (λb a=>g (b,a)) v.1 v.2) c (b,a)
variable{g:Int}
theorem ayw:aiw a e c (b+1) d g=alo a e c (aiw a e c b) d g:=rfl
def alp(fu:Nat)(s:aC)(f:Int->ε (Unit⊕η))(a:Int):ε (Unit⊕η):=
 (if a<(γ (cG 46 s))then((gd (0<=a/\a<(γ (cG 46 s)))<|gd (0<=a/\a<(γ (cG 46 s)))<|(aiw fu s a fu 0 0).bind λe=>dQ (λb=>(if(el (cG 46 s) a)=[]then θ μ else if 255<b then θ μ else gd (bK b)<|some (!decide ((el (cG 46 s) a)=(iS b)))).bind λd=>bif d then θ (.inr ν)else θ (.inl ())) (λq=>θ (.inr q)) e).bind λc=>dQ (λg=>gd (bK (a+1))<|f (a+1)) (λq=>θ (.inr q)) c)else θ (.inl ()))
def aix(fu:Nat)(s:aC):Nat->Int->ε (Unit⊕η):=λb a=>bJ (λg v=>alp fu s (λa=>g a) v) b a
theorem ayx:aix a e (b+1) c=alp a e (aix a e b) c:=rfl
def aup(fu:Nat)(s:aC):ε η:=
 (if 15<(γ s:Int)then θ ν else gd (γ s<=1000000000)<|(aix fu s fu 0).bind λa=>dQ (λb=>θ (decide ((γ (cG 46 s))=(4:Int)))) (λq=>θ q) a)
def arm(fu:Nat)(s:aC)(b:aC)(a:Int):ε (aC×aC×Int):=
 θ (b,s,a)
def arn(fu:Nat)(s:aC)(b:aC):ε (aC×aC×Int):=
 ((arm fu s b 0).bind λa=>θ (a.1,a.2.1,a.2.2))
open Go.Lib renaming index → fO, itoa → iS
open List renaming drop → dG, take → eP
def ama(fu:Nat)(a:ζ):ε η:=
 ((if 97<=a then(if a<=122 then θ μ else if 65<=a then θ (decide (a<=90))else θ ν)else if 65<=a then θ (decide (a<=90))else θ ν).bind λb=>θ b)
def agw(fu:Nat)(b:aC)(i:η)(d:Int->η->ε (Nat×η×η))(a:Int)(c:η):ε (Nat×η×η):=
 (if a<γ b then(gd (0<=a/\a<γ b)<|((ama fu (Υ b a)).bind λh=>bif (!h)then((XP fu (Υ b a)).bind λg=>bif (!g)then θ (!decide ((Υ b a)=45))else θ ν)else θ ν).bind λf=>bif f then θ (1,c,ν)else bif c then(gd (bK (a+1))<|d (a+1) μ)else(XP fu (Υ b a)).bind λe=>gd (bK (a+1))<|d (a+1) (!e))else θ (0,c,i))
def xb(fu:Nat)(e:aC)(d:η):Nat->Int->η->ε (Nat×η×η):=λc b a=>bJ (λg v=>agw fu e d (λb a=>g (b,a)) v.1 v.2) c (b,a)
variable{j m:η}
theorem anm:xb a e j (b+1) c m=agw a e j (xb a e j b) c m:=rfl
def wu(fu:Nat)(a:aC)(b:η)(d:η):ε (Nat×η×η):=
 ((if γ a<(1:Int)then θ μ else if 63<(γ a:Int)then θ μ else gd (0<=(0:Int)/\0<(γ a:Int))<|if(Υ a 0)=45 then θ μ else gd (bK (γ a-1))<|gd (0<=(γ a-(1:Int))/\(γ a-1)<(γ a:Int))<|some (decide ((Υ a (γ a-1))=45))).bind λc=>bif c then θ (1,b,ν)else xb fu a d fu 0 b)
def adz(fu:Nat)(a:aC)(b:ε Unit):ε Unit:=
 (if 0<(γ a:Int)then ι else θ ())
def acl(fu:Nat)(b:aC):Nat->ε Unit:=λa=>bJ (λg v=>adz fu b (g ())) a ()
theorem apj:acl a e (b+1)=adz a e (acl a e b):=rfl
def abp(fu:Nat)(b:aC)(d:Int)(g:η->η->aC->ε ((η×η×aC)⊕(η×η×aC×Nat)))(f:η)(e:η)(a:aC):ε ((η×η×aC)⊕(η×η×aC×Nat)):=
 (gd (γ a<=1000000000)<|if(fO a b)<0 then θ (.inl (f,e,a))else gd (bK ((fO a b)+d))<|gd (0<=((fO a b)+d)/\((fO a b)+d)<=γ a)<|(wu fu (eP (bR ((fO a b)+d)) a) f e).bind λc=>if c.1=0 then(gd (bK ((fO a b)+γ b))<|gd (0<=((fO a b)+γ b)/\((fO a b)+γ b)<=γ a)<|g c.2.1 c.2.2 (dG (bR ((fO a b)+γ b)) a))else θ (.inr (c.2.1,c.2.2,a,c.1)))
def abr(fu:Nat)(f:aC)(e:Int):Nat->η->η->aC->ε ((η×η×aC)⊕(η×η×aC×Nat)):=λd c b a=>bJ (λg v=>abp fu f e (λc b a=>g (c,b,a)) v.1 v.2.1 v.2.2) d (c,b,a)
theorem adu:abr a e c (b+1) j m n=abp a e c (abr a e c b) j m n:=rfl
def ade(fu:Nat)(f:η)(e:η)(d:aC)(c:aC)(i:Int):ε (η×η×aC×Nat):=
 ((if γ d=(0:Int)then((acl fu c fu).bind λk=>θ (.inr (f,e,c,0)))else θ (.inl ())).bind λh=>dQ (λj=>(abr fu d i fu f e c).bind λg=>dQ (λb=>(wu fu b.2.2 b.1 b.2.1).bind λa=>if a.1=0 then θ (a.2.1,a.2.2,b.2.2,0)else θ (a.2.1,a.2.2,b.2.2,a.1)) (λq=>θ q) g) (λq=>θ q) h)
def apd(fu:Nat)(s:aC):ε η:=
 ((if γ s<(1:Int)then θ μ else θ (decide (255<(γ s:Int)))).bind λc=>bif c then θ ν else(arn fu s [46]).bind λb=>(ade fu ν ν b.1 b.2.1 b.2.2).bind λa=>if a.2.2.2=0 then θ a.1 else if a.2.2.2=1 then θ a.2.1 else ι)
def XO(fu:Nat)(s:aC):ε (aC×η):=
 ((if 2<=(γ s:Int)then(gd (0<=(0:Int)/\0<(γ s:Int))<|if(Υ s 0)=91 then(gd (bK (γ s-1))<|gd (0<=(γ s-(1:Int))/\(γ s-1)<(γ s:Int))<|some (decide ((Υ s (γ s-1))=93)))else θ ν)else θ ν).bind λb=>bif b then(gd (bK (γ s-1))<|gd (0<=(1:Int)/\1<=(γ s-(1:Int))/\(γ s-1)<=(γ s:Int))<|(awe fu (sub s 1 (γ s-1))).bind λa=>bif (!a.2)then θ ([],ν)else gd (γ ([91]:aC)+γ a.1<=9223372036854775807)<|gd (γ ([91]++a.1)+γ ([93]:aC)<=9223372036854775807)<|some ((([91]:aC)++a.1)++([93]:aC),μ))else(aup fu s).bind λe=>bif e then θ (s,μ)else(apd fu s).bind λd=>bif d then((WG fu s).bind λc=>θ (c,μ))else θ ([],ν))
def afp(fu:Nat)(a:aC):ε (aC×Int×η):=
 (gd (γ a<=1000000000)<|if(fP (·==58) a)<0 then θ ([],0,ν)else gd (bK ((fP (·==58) a)+1))<|gd (0<=((fP (·==58) a)+1)/\((fP (·==58) a)+1)<=γ a)<|gd (γ (dG (bR ((fP (·==58) a)+1)) a)<=1000000000)<|(bif (!(lq (dG (bR ((fP (·==58) a)+1)) a)))then θ μ else if(Rn (dG (bR ((fP (·==58) a)+1)) a))<1 then θ μ else if 65535<(Rn (dG (bR ((fP (·==58) a)+1)) a))then θ μ else gd (bK (Rn (dG (bR ((fP (·==58) a)+1)) a)))<|some (!decide ((iS (Rn (dG (bR ((fP (·==58) a)+1)) a)))=(dG (bR ((fP (·==58) a)+1)) a)))).bind λd=>bif d then θ ([],0,ν)else gd (0<=(fP (·==58) a)/\(fP (·==58) a)<=γ a)<|(XO fu (eP (bR (fP (·==58) a)) a)).bind λb=>(bif (!b.2)then θ μ else gd (0<=(fP (·==58) a)/\(fP (·==58) a)<=γ a)<|some (!decide (b.1=(eP (bR (fP (·==58) a)) a)))).bind λc=>bif c then θ ([],0,ν)else θ (b.1,Rn (dG (bR ((fP (·==58) a)+1)) a),μ))
def ape(fu:Nat)(b:ζ)(a:Int):ε η:=
 (((ama fu b).bind λf=>bif f then θ μ else(XP fu b).bind λe=>bif e then θ μ else θ (decide (0<=(dN (·==b) ([45,95,46,33,126,42,39,40,41]))))).bind λd=>bif d then θ μ else(if 0<=a then(if a<=2 then(gd (0<=a/\a<3)<|gd (0<=a/\a<γ lr)<|some (decide (0<=(dN (·==b) (el lr a)))))else θ ν)else θ ν).bind λc=>θ c)
def amy(fu:Nat)(s:aC)(a:Int):ε (ζ×η):=
 ((gd (bK (a+2))<|if γ s<=(a+2)then θ μ else gd (0<=a/\a<γ s)<|some (!decide ((Υ s a)=37))).bind λd=>bif d then θ (0,ν)else gd (bK (a+1))<|gd (0<=(a+1)/\(a+1)<γ s)<|(afq fu (Υ s (a+1))).bind λc=>gd (bK (a+2))<|gd (0<=(a+2)/\(a+2)<γ s)<|(afq fu (Υ s (a+2))).bind λb=>(bif c.2 then θ b.2 else θ ν).bind λe=>θ ((SG c.1 4)|||b.1,e))
def aur(fu:Nat)(a:ζ):ε η:=
 ((if a<32 then(if a=9 then θ (decide (a=127))else θ μ)else θ (decide (a=127))).bind λv6=>θ v6)
def afd(fu:Nat)(c:(aC×Int))(b:Int)(i:Int)(e:Int->ε (Unit⊕(Int×η)))(a:Int):ε (Unit⊕(Int×η)):=
 (if a<b then(gd (0<=a/\a<γ c.1)<|(ape fu (Υ c.1 a) i).bind λh=>bif h then(gd (bK (a+1))<|e (a+1))else gd (0<=b/\b<=γ c.1)<|(amy fu (eP (bR b) c.1) a).bind λd=>(bif (!d.2)then θ μ else(aur fu d.1).bind λg=>θ g).bind λf=>bif f then θ (.inr (a,μ))else gd (bK (a+2))<|gd (bK ((a+2)+1))<|e ((a+2)+1))else θ (.inl ()))
def ahx(fu:Nat)(e:(aC×Int))(d:Int)(c:Int):Nat->Int->ε (Unit⊕(Int×η)):=λb a=>bJ (λg v=>afd fu e d c (λa=>g a) v) b a
variable{i:(aC×Int)}
theorem akh:ahx a i c d (b+1) g=afd a i c d (ahx a i c d b) g:=rfl
def afs(fu:Nat)(a:(aC×Int))(d:Int)(c:Int):ε (Int×η):=
 ((ahx fu a d c fu a.2).bind λb=>dQ (λe=>θ (0,ν)) (λq=>θ q) b)
open Go.Lib renaming indexAny → Bu, trimPrefix → jT
open List renaming drop → dG
def ahn(fu:Nat)(s:aC)(d:(δ ζ)->Int->ε ((δ ζ)⊕(aC×Int×ζ)))(b:δ ζ)(a:Int):ε ((δ ζ)⊕(aC×Int×ζ)):=
 (if a<γ s then(gd (0<=a/\a<γ s)<|if(Υ s a)=37 then((amy fu s a).bind λc=>bif (!c.2)then θ (.inr ([],a,5))else gd ((γ b+[c.1].length)*1<=140737488355328)<|gd (bK (a+2))<|gd (bK ((a+2)+1))<|d (b++[c.1]) ((a+2)+1))else gd (0<=a/\a<γ s)<|gd ((γ b+γ ([Υ s a]))*1<=140737488355328)<|gd (bK (a+1))<|d (b++([Υ s a])) (a+1))else θ (.inl b))
def aic(fu:Nat)(s:aC):Nat->(δ ζ)->Int->ε ((δ ζ)⊕(aC×Int×ζ)):=λc b a=>bJ (λg v=>ahn fu s (λb a=>g (b,a)) v.1 v.2) c (b,a)
variable{h:δ ζ}
theorem aph:aic a e (b+1) h c=ahn a e (aic a e b) h c:=rfl
def ayy(fu:Nat)(s:aC):ε (aC×Int×ζ):=
 (@gd _ (0<=(γ s:Int)/\1*(γ s:Int)<=281474976710656) (dMk 1 (γ s))<|(aic fu s fu [] 0).bind λb=>dQ (λ(a:δ ζ)=>θ (a,0,0)) (λq=>θ q) b)
def aku(fu:Nat)(s:aC):ε aC:=
 ((ayy fu s).bind λa=>θ a.1)
def Zt(fu:Nat)(c:aC)(a:Int)(d:aC):ε Int:=
 (gd (0<=a/\a<=γ c)<|gd (γ (dG (bR a) c)<=1000000000/\γ d<=1000/\d.all (λb=>decide (b.toNat<128))=μ)<|if 0<=(Bu (dG (bR a) c) d)then(gd (bK (a+(Bu (dG (bR a) c) d)))<|some (a+(Bu (dG (bR a) c) d)))else θ (γ c))
def adj(fu:Nat)(a:(aC×Int)):ε η:=
 θ (decide (γ a.1<=a.2))
def Ho(fu:Nat)(a:(aC×Int))(d:ζ):ε η:=
 (((adj fu a).bind λc=>bif (!c)then(gd (0<=a.2/\a.2<γ a.1)<|some (decide ((Υ a.1 a.2)=d)))else θ ν).bind λb=>θ b)
def alm(fu:Nat)(s:aC)(d:Int->Int->ε (Int⊕(Int×ζ)))(b:Int)(a:Int):ε (Int⊕(Int×ζ)):=
 (if a<γ s then((gd (0<=a/\a<γ s)<|if(Υ s a)<48 then θ μ else gd (0<=a/\a<γ s)<|some (decide (57<(Υ s a)))).bind λc=>bif c then θ (.inr (0,5))else gd (bK (10*b))<|gd (0<=a/\a<γ s)<|gd (bK ((10*b)+(((Υ s a)-48).toNat)))<|gd (bK (a+1))<|d ((10*b)+(((Υ s a)-48).toNat)) (a+1))else θ (.inl b))
def amv(fu:Nat)(s:aC):Nat->Int->Int->ε (Int⊕(Int×ζ)):=λc b a=>bJ (λg v=>alm fu s (λb a=>g (b,a)) v.1 v.2) c (b,a)
theorem avd:amv a e (b+1) c d=alm a e (amv a e b) c d:=rfl
def ank(fu:Nat)(s:aC):ε (Int×ζ):=
 ((if γ s<(1:Int)then θ μ else θ (decide (10<(γ s:Int)))).bind λb=>bif b then θ (0,5)else(amv fu s fu 0 0).bind λc=>dQ (λa=>if 2147483647<a then θ (0,3)else θ (a,0)) (λq=>θ q) c)
def alq(fu:Nat)(a:(aC×Int))(b:UQ):ε (Int×ζ×(aC×Int)×UQ):=
 ((gd (0<=a.2/\a.2<=γ a.1)<|if 0<=(dN (·==64) (dG (bR a.2) a.1))then(gd (bK (a.2+(dN (·==64) (dG (bR a.2) a.1))))<|(afs fu a (a.2+(dN (·==64) (dG (bR a.2) a.1))) 0).bind λe=>bif e.2 then(gd (0<=e.1/\e.1<γ a.1)<|if(Υ a.1 e.1)=58 then θ (.inr (e.1,15,a,b))else θ (.inr (e.1,5,a,b)))else if(dN (·==64) (dG (bR a.2) a.1))=0 then θ (.inr (a.2+(dN (·==64) (dG (bR a.2) a.1)),5,a,b))else gd (0<=a.2/\a.2<=(a.2+(dN (·==64) (dG (bR a.2) a.1)))/\(a.2+(dN (·==64) (dG (bR a.2) a.1)))<=γ a.1)<|(aku fu (sub a.1 a.2 (a.2+(dN (·==64) (dG (bR a.2) a.1))))).bind λu=>gd (bK ((a.2+(dN (·==64) (dG (bR a.2) a.1)))+1))<|some (.inl ((a.2+(dN (·==64) (dG (bR a.2) a.1)))+1,u)))else θ (.inl (a.2,b.2.1))).bind λt=>dQ (λd=>(Zt fu a.1 d.1 ([58,59,63])).bind λs=>((Ho fu (a.1,d.1) 91).bind λr=>bif r then((Zt fu a.1 d.1 [93]).bind λj=>gd (bK (j+1))<|some (min (j+1) (γ a.1)))else θ s).bind λc=>gd (0<=d.1/\d.1<=c/\c<=γ a.1)<|(XO fu (sub a.1 d.1 c)).bind λg=>bif (!g.2)then θ (d.1,5,(a.1,d.1),(b.1,d.2,b.2.2.1,b.2.2.2.1,b.2.2.2.2.1,b.2.2.2.2.2))else(Ho fu (a.1,c) 58).bind λp=>bif p then(gd (bK (c+1))<|(Zt fu a.1 (c+1) ([59,63])).bind λh=>gd (0<=(c+1)/\(c+1)<=h/\h<=γ a.1)<|(ank fu (sub a.1 (c+1) h)).bind λf=>((if f.2=0 then(if f.1<1 then θ μ else θ (decide (65535<f.1)))else θ ν).bind λo=>bif o then θ 3 else θ f.2).bind λi=>if i=0 then θ (0,0,(a.1,h),(b.1,d.2,g.1,f.1,b.2.2.2.2.1,b.2.2.2.2.2))else θ (c+1,i,(a.1,c+1),(b.1,d.2,g.1,b.2.2.2.1,b.2.2.2.2.1,b.2.2.2.2.2)))else((adj fu (a.1,c)).bind λn=>bif (!n)then((Ho fu (a.1,c) 59).bind λm=>bif (!m)then((Ho fu (a.1,c) 63).bind λl=>θ (!l))else θ ν)else θ ν).bind λk=>bif k then θ (c,5,(a.1,c),(b.1,d.2,g.1,b.2.2.2.1,b.2.2.2.2.1,b.2.2.2.2.2))else θ (0,0,(a.1,c),(b.1,d.2,g.1,b.2.2.2.1,b.2.2.2.2.1,b.2.2.2.2.2))) (λq=>θ q) t)
def agy(fu:Nat)(b:(aC×Int))(l:UQ)(f:Int)(e:η)(k:(δ ζ)->Int->ε (((δ ζ)×Int)⊕(Int×ζ×(aC×Int)×UQ)))(c:δ ζ)(a:Int):ε (((δ ζ)×Int)⊕(Int×ζ×(aC×Int)×UQ)):=
 (if a<f then((gd (0<=a/\a<γ b.1)<|((if 48<=(Υ b.1 a)then θ (decide ((Υ b.1 a)<=57))else θ ν).bind λd=>bif d then θ d else bif (!e)then(if(Υ b.1 a)=42 then θ μ else θ (decide ((Υ b.1 a)=35)))else θ ν).bind λj=>bif j then(gd ((γ c+γ ([Υ b.1 a]))*1<=140737488355328)<|some (.inl (c++([Υ b.1 a]))))else(if(Υ b.1 a)=45 then θ ν else if(Υ b.1 a)=46 then θ ν else if(Υ b.1 a)=40 then θ ν else θ (!decide ((Υ b.1 a)=41))).bind λi=>bif i then θ (.inr (a,5,(b.1,a),l))else θ (.inl c)).bind λh=>dQ (λg=>gd (bK (a+1))<|k g (a+1)) (λq=>θ (.inr q)) h)else θ (.inl (c,a)))
def ahm(fu:Nat)(h:(aC×Int))(f:UQ)(d:Int)(c:η):Nat->(δ ζ)->Int->ε (((δ ζ)×Int)⊕(Int×ζ×(aC×Int)×UQ)):=λe b a=>bJ (λg v=>agy fu h f d c (λb a=>g (b,a)) v.1 v.2) e (b,a)
theorem aqy{g:UQ}:ahm a i g c j (b+1) h d=agy a i g c j (ahm a i g c j b) h d:=rfl
def aki(fu:Nat)(b:(aC×Int))(a:UQ):ε (Int×ζ×(aC×Int)×UQ):=
 ((Zt fu b.1 b.2 [59]).bind λf=>(Ho fu b 43).bind λd=>(bif d then(gd ((γ ([]:δ ζ)+γ ([(43:ζ)]))*1<=140737488355328)<|gd (bK (b.2+1))<|some ([]++([43]),b.2+1))else θ ([],b.2)).bind λe=>(ahm fu b a f d fu e.1 e.2).bind λg=>dQ (λc=>if(jT c.1 [43])=[]then θ (b.2,5,(b.1,c.2),(a.1,c.1,a.2.2.1,a.2.2.2.1,a.2.2.2.2.1,a.2.2.2.2.2))else if 30<(γ (jT c.1 [43]):Int)then θ (b.2,4,(b.1,c.2),(a.1,c.1,a.2.2.1,a.2.2.2.1,a.2.2.2.2.1,a.2.2.2.2.2))else θ (0,0,(b.1,c.2),(a.1,c.1,a.2.2.1,a.2.2.2.1,a.2.2.2.2.1,a.2.2.2.2.2))) (λq=>θ q) g)
def auq(fu:Nat)(b:PQ)(a:aC):ε η:=
 θ (decide (b.1=a))
def abj(fu:Nat)(s:LQ)(d:aC)(c:Int->ε (Unit⊕Int))(a:Int):ε (Unit⊕Int):=
 (if a<γ s then(gd (0<=a/\a<γ s)<|gd (0<=a/\a<γ s)<|(auq fu ((el s a).1,(el s a).2.1,((el s a).2.2)) d).bind λb=>bif b then θ (.inr a)else gd (bK (a+1))<|c (a+1))else θ (.inl ()))
def acf(fu:Nat)(s:LQ)(c:aC):Nat->Int->ε (Unit⊕Int):=λb a=>bJ (λg v=>abj fu s c (λa=>g a) v) b a
variable{f:LQ}
theorem adh:acf a f e (b+1) c=abj a f e (acf a f e b) c:=rfl
def aeu(fu:Nat)(s:LQ)(b:aC):ε Int:=
 ((acf fu s b fu 0).bind λa=>dQ (λc=>θ (-1)) (λq=>θ q) a)
open Go.Op renaming bytesLess → qK
def aea(fu:Nat)(s:LQ)(b:aC):ε η:=
 ((aeu fu s b).bind λa=>θ (decide (0<=a)))
def apf(fu:Nat)(c:LQ)(b:aC):ε η:=
 ((aea fu c b).bind λa=>θ a)
def arc(fu:Nat)(a:LQ)(c:aC):ε ζ:=
 ((apf fu a c).bind λb=>bif b then θ 7 else if 16<=(γ a:Int)then θ 4 else θ 0)
def aib(fu:Nat)(a:(aC×Int))(g:LQ)(b:Int)(e:Int):ε (LQ×Int×ζ×(aC×Int)):=
 (gd (0<=a.2/\a.2<=b/\b<=γ a.1)<|(if 0<=(dN (·==61) (sub a.1 a.2 b))then(gd (bK (a.2+(dN (·==61) (sub a.1 a.2 b))))<|some (a.2+(dN (·==61) (sub a.1 a.2 b))))else θ b).bind λc=>(afs fu a c e).bind λj=>bif j.2 then θ ([],j.1,5,a)else if c=a.2 then θ ([],a.2,5,a)else gd (0<=a.2/\a.2<=c/\c<=γ a.1)<|(aku fu (sub a.1 a.2 c)).bind λn=>(WG fu n).bind λf=>(if 0<=(dN (·==61) (sub a.1 a.2 b))then(gd (bK (c+1))<|(afs fu (a.1,c+1) b e).bind λi=>bif i.2 then θ (.inr ([],i.1,5,(a.1,c+1)))else(if(c+1)=b then θ (decide (e=1))else θ ν).bind λm=>bif m then θ (.inr ([],b,5,(a.1,c+1)))else gd (0<=(c+1)/\(c+1)<=b/\b<=γ a.1)<|(aku fu (sub a.1 (c+1) b)).bind λl=>θ (.inl (b,l)))else if e=2 then θ (.inr ([],b,5,(a.1,b)))else θ (.inl (b,[]))).bind λk=>dQ (λd=>(arc fu g f).bind λh=>if h=0 then(gd ((γ g+γ ([(f,d.2,(decide (0<=(dN (·==61) (sub a.1 a.2 b)))))]))*40<=140737488355328)<|some (g++([(f,d.2,(decide (0<=(dN (·==61) (sub a.1 a.2 b)))))]),0,0,(a.1,d.1)))else θ ([],a.2,h,(a.1,d.1))) (λq=>θ q) k)
def asj(fu:Nat)(a:aC):ε η:=
 θ (!decide (a=a))
def aod(fu:Nat)(b:aC)(a:aC):ε Int:=
 ((asj fu b).bind λd=>(asj fu a).bind λc=>bif d then(bif c then θ 0 else θ (-1))else bif c then θ 1 else bif (qK b a)then θ (-1)else bif (!(qK b a||b==a))then θ 1 else θ 0)
def asl(fu:Nat)(c:PQ)(b:PQ):ε Int:=
 ((aod fu c.1 b.1).bind λa=>θ a)
def aaz(fu:Nat)(f:Int)(e:LQ->Int->ε LQ)(b:LQ)(a:Int):ε LQ:=
 ((if f<a then(gd (0<=a/\a<γ b)<|gd (0<=a/\a<γ b)<|gd (bK (a-1))<|gd (0<=(a-1)/\(a-1)<γ b)<|gd (0<=(a-1)/\(a-1)<γ b)<|(asl fu ((el b a).1,(el b a).2.1,((el b a).2.2)) ((el b (a-1)).1,(el b (a-1)).2.1,((el b (a-1)).2.2))).bind λd=>θ (decide (d<0)))else θ ν).bind λc=>bif c then(gd (bK (a-1))<|gd (bK (a-1))<|gd (0<=(a-1)/\(a-1)<γ b)<|gd (0<=(a-1)/\(a-1)<γ b)<|gd (0<=a/\a<γ b)<|gd (0<=a/\a<γ b)<|gd (0<=a/\a<γ b)<|gd (0<=a/\a<γ b)<|gd (0<=(a-1)/\(a-1)<(γ (Ξ b (bR a) ((el b (a-1)).1,(el b (a-1)).2.1,((el b (a-1)).2.2)))))<|gd (0<=(a-1)/\(a-1)<(γ (Ξ b (bR a) ((el b (a-1)).1,(el b (a-1)).2.1,((el b (a-1)).2.2)))))<|gd (bK (a-1))<|e (Ξ (Ξ b (bR a) ((el b (a-1)).1,(el b (a-1)).2.1,((el b (a-1)).2.2))) (bR (a-1)) ((el b a).1,(el b a).2.1,((el b a).2.2))) (a-1))else θ b)
def abb(fu:Nat)(d:Int):Nat->LQ->Int->ε LQ:=λc b a=>bJ (λg v=>aaz fu d (λb a=>g (b,a)) v.1 v.2) c (b,a)
theorem ads:abb a c (b+1) f d=aaz a c (abb a c b) f d:=rfl
def aaq(fu:Nat)(e:Int)(b_3:Int)(d:LQ->Int->ε LQ)(b:LQ)(a:Int):ε LQ:=
 (if a<b_3 then((abb fu e fu b a).bind λc=>gd (bK (a+1))<|d c (a+1))else θ b)
def aaj(fu:Nat)(d:Int)(b_3:Int):Nat->LQ->Int->ε LQ:=λc b a=>bJ (λg v=>aaq fu d b_3 (λb a=>g (b,a)) v.1 v.2) c (b,a)
theorem aca:aaj a c d (b+1) f g=aaq a c d (aaj a c d b) f g:=rfl
def aan(fu:Nat)(b:LQ)(a:Int)(b_3:Int):ε LQ:=
 (gd (bK (a+1))<|aaj fu a b_3 fu b (a+1))
def acp(fu:Nat)(f:Int)(e:LQ->Int->Int->ε (LQ×Int))(c:LQ)(b:Int)(a:Int):ε (LQ×Int):=
 (if a<=f then((aan fu c b a).bind λd=>gd (bK (a+20))<|e d a (a+20))else θ (c,b))
def aay(fu:Nat)(e:Int):Nat->LQ->Int->Int->ε (LQ×Int):=λd c b a=>bJ (λg v=>acp fu e (λc b a=>g (c,b,a)) v.1 v.2.1 v.2.2) d (c,b,a)
theorem ala:aay a c (b+1) f d g=acp a c (aay a c b) f d g:=rfl
def aco(fu:Nat)(c:Int)(d:LQ->Int->ε LQ)(b:LQ)(a:Int):ε LQ:=
 (if a<c then ι else θ b)
def aax(fu:Nat)(d:Int):Nat->LQ->Int->ε LQ:=λc b a=>bJ (λg v=>aco fu d (λb a=>g (b,a)) v.1 v.2) c (b,a)
theorem akz:aax a c (b+1) f d=aco a c (aax a c b) f d:=rfl
def acd(fu:Nat)(d:LQ)(a:Int):ε LQ:=
 ((aay fu a fu d 0 20).bind λb=>(aan fu b.1 b.2 a).bind λc=>aax fu a fu c 20)
def abf(fu:Nat)(a:LQ):ε LQ:=
 ((acd fu a (γ a)).bind λb=>θ b)
open List renaming take → eP
def ahr(fu:Nat)(a:LQ):ε LQ:=
 (gd ((0+γ a)*40<=140737488355328)<|(abf fu a).bind λb=>θ b)
def ahp(fu:Nat)(k:(Int×ζ×aC×aC×Int×aC×aC×aC×Int×LQ×LQ))(j:Int->ζ->aC->Int->LQ->ε (Int×ζ×aC×Int×LQ))(i:Int)(e:ζ)(c:aC)(b:Int)(d:LQ):ε (Int×ζ×aC×Int×LQ):=
 ((if e=0 then((Ho fu (c,b) 59).bind λh=>θ h)else θ ν).bind λg=>bif g then(gd (bK (b+1))<|(Zt fu c (b+1) k.2.2.1).bind λf=>(aib fu (c,b+1) d f 1).bind λa=>j a.2.1 a.2.2.1 a.2.2.2.1 a.2.2.2.2 a.1)else θ (i,e,c,b,d))
def aik(fu:Nat)(h:(Int×ζ×aC×aC×Int×aC×aC×aC×Int×LQ×LQ)):Nat->Int->ζ->aC->Int->LQ->ε (Int×ζ×aC×Int×LQ):=λf e d c b a=>bJ (λg v=>ahp fu h (λe d c b a=>g (e,d,c,b,a)) v.1 v.2.1 v.2.2.1 v.2.2.2.1 v.2.2.2.2) f (e,d,c,b,a)
variable{l:ζ}
theorem ana{g:(Int×ζ×aC×aC×Int×aC×aC×aC×Int×LQ×LQ)}:aik a g (b+1) c l e d f=ahp a g (aik a g b) c l e d f:=rfl
def aho(fu:Nat)(j:Int->ζ->aC->Int->LQ->ε (Int×ζ×aC×Int×LQ))(i:Int)(e:ζ)(c:aC)(b:Int)(d:LQ):ε (Int×ζ×aC×Int×LQ):=
 ((if e=0 then((adj fu (c,b)).bind λh=>θ (!h))else θ ν).bind λg=>bif g then(gd (bK (b+1))<|(Zt fu c (b+1) [38]).bind λf=>(aib fu (c,b+1) d f 2).bind λa=>j a.2.1 a.2.2.1 a.2.2.2.1 a.2.2.2.2 a.1)else θ (i,e,c,b,d))
def aij(fu:Nat):Nat->Int->ζ->aC->Int->LQ->ε (Int×ζ×aC×Int×LQ):=λf e d c b a=>bJ (λg v=>aho fu (λe d c b a=>g (e,d,c,b,a)) v.1 v.2.1 v.2.2.1 v.2.2.2.1 v.2.2.2.2) f (e,d,c,b,a)
theorem amz:aij a (b+1) c l e d f=aho a (aij a b) c l e d f:=rfl
def aiz(fu:Nat)(s:aC):ε (UQ×Int×ζ):=
 (if 1024<(γ s:Int)then θ (([],[],[],0,[],[]),1024,4)else if(dN (·==58) s)<0 then θ (([],[],[],0,[],[]),γ s,5)else gd (bK ((dN (·==58) s)+1))<|gd (0<=(dN (·==58) s)/\(dN (·==58) s)<=γ s)<|(WG fu (eP (bR (dN (·==58) s)) s)).bind λd=>((if d=([115,105,112])then θ (decide (d=([115,105,112])))else θ (decide (d=([115,105,112,115])))).bind λi=>bif i then((alq fu (s,(dN (·==58) s)+1) (d,[],[],0,[],[])).bind λc=>θ (c.1,c.2.1,([59,63]),c.2.2.1.1,c.2.2.1.2,c.2.2.2.1,c.2.2.2.2.1,c.2.2.2.2.2.1,c.2.2.2.2.2.2.1,c.2.2.2.2.2.2.2.1,c.2.2.2.2.2.2.2.2))else if d=([116,101,108])then((aki fu (s,(dN (·==58) s)+1) (d,[],[],0,[],[])).bind λb=>θ (b.1,b.2.1,[59],b.2.2.1.1,b.2.2.1.2,b.2.2.2.1,b.2.2.2.2.1,b.2.2.2.2.2.1,b.2.2.2.2.2.2.1,b.2.2.2.2.2.2.2.1,b.2.2.2.2.2.2.2.2))else θ (0,15,([59,63]),s,(dN (·==58) s)+1,d,[],[],0,[],[])).bind λ(a:(Int×ζ×aC×aC×Int×aC×aC×aC×Int×LQ×LQ))=>(aik fu a fu a.1 a.2.1 a.2.2.2.1 a.2.2.2.2.1 a.2.2.2.2.2.2.2.2.2.1).bind λe=>(aij fu fu e.1 e.2.1 e.2.2.1 e.2.2.2.1 a.2.2.2.2.2.2.2.2.2.2).bind λf=>if f.2.1=0 then((ahr fu e.2.2.2.2).bind λh=>(ahr fu f.2.2.2.2).bind λg=>θ ((a.2.2.2.2.2.1,a.2.2.2.2.2.2.1,a.2.2.2.2.2.2.2.1,a.2.2.2.2.2.2.2.2.1,h,g),0,0))else θ (([],[],[],0,[],[]),f.1,f.2.1))
def aif(fu:Nat)(m_0:(aC×aC×Int×aC×(δ (aC×aC))×(δ ζ))):ε η:=
 ((if m_0.2.2.1=0 then θ (!decide (m_0.1=[]))else θ ν).bind λa=>θ a)
def vC(fu:Nat)(b:aC)(e:Int->ε Unit)(a:Int):ε Unit:=
 (if a<γ b then(gd (0<=a/\a<γ b)<|(if 97<=(Υ b a)then(if(Υ b a)<=122 then θ μ else if 65<=(Υ b a)then θ (decide ((Υ b a)<=90))else θ ν)else if 65<=(Υ b a)then θ (decide ((Υ b a)<=90))else θ ν).bind λd=>(bif (!d)then(if(Υ b a)<48 then θ (!decide ((Υ b a)=45))else if 57<(Υ b a)then θ (!decide ((Υ b a)=45))else θ ν)else θ ν).bind λc=>bif c then ι else gd (bK (a+1))<|e (a+1))else θ ())
def xX(fu:Nat)(c:aC):Nat->Int->ε Unit:=λb a=>bJ (λg v=>vC fu c (λa=>g a) v) b a
def tA(fu:Nat)(a:aC):ε η:=
 ((xX fu a fu 0).bind λb=>θ (!decide (a=[])))
def asc(fu:Nat)(a:ζ):ε η:=
 (((if 97<=a then θ (decide (a<=122))else θ ν).bind λc=>bif c then(bif c then θ (.inr μ)else θ (.inl ()))else(if 65<=a then θ (decide (a<=90))else θ ν).bind λb=>bif b then(bif b then θ (.inr μ)else θ (.inl ()))else if 48<=a then(if a<=57 then θ (.inr μ)else θ (.inl ()))else θ (.inl ())).bind λd=>dQ (λe=>if a=45 then(if a=45 then θ μ else θ ν)else if a=46 then(if a=46 then θ μ else θ ν)else if a=33 then(if a=33 then θ μ else θ ν)else if a=37 then(if a=37 then θ μ else θ ν)else if a=42 then(if a=42 then θ μ else θ ν)else if a=95 then(if a=95 then θ μ else θ ν)else if a=43 then(if a=43 then θ μ else θ ν)else if a=39 then(if a=39 then θ μ else θ ν)else if a=126 then(if a=126 then θ μ else θ ν)else if a=96 then θ μ else θ ν) (λq=>θ q) d)
def aej(fu:Nat)(s:aC)(d:Int->ε Int)(a:Int):ε Int:=
 ((if a<γ s then(gd (0<=a/\a<γ s)<|(asc fu (Υ s a)).bind λc=>θ c)else θ ν).bind λb=>bif b then(gd (bK (a+1))<|d (a+1))else θ a)
def aes(fu:Nat)(s:aC):Nat->Int->ε Int:=λb a=>bJ (λg v=>aej fu s (λa=>g a) v) b a
theorem alk:aes a e (b+1) c=aej a e (aes a e b) c:=rfl
def agd(fu:Nat)(s:aC)(b:Int):ε Int:=
 ((aes fu s fu (min (max b 0) (γ s))).bind λa=>θ a)
def ajq(fu:Nat)(s:aC)(b:Int):ε Int:=
 ((agd fu s b).bind λa=>θ a)
def zw(fu:Nat)(s:aC):ε η:=
 ((if s=[]then θ ν else(ajq fu s 0).bind λb=>θ (decide (b=γ s))).bind λa=>θ a)
def ajl(fu:Nat)(a:ζ):ε ζ:=
 ((if 65<=a then θ (decide (a<=90))else θ ν).bind λb=>bif b then θ (a+32)else θ a)
def aul(fu:Nat)(a:ζ):ε aC:=
 (if a=98 then θ ([82,101,102,101,114,114,101,100,45,66,121])else if a=99 then θ ([67,111,110,116,101,110,116,45,84,121,112,101])else if a=101 then θ ([67,111,110,116,101,110,116,45,69,110,99,111,100,105,110,103])else if a=102 then θ ([70,114,111,109])else if a=105 then θ ([67,97,108,108,45,73,68])else if a=107 then θ ([83,117,112,112,111,114,116,101,100])else if a=108 then θ ([67,111,110,116,101,110,116,45,76,101,110,103,116,104])else if a=109 then θ ([67,111,110,116,97,99,116])else if a=111 then θ ([69,118,101,110,116])else if a=114 then θ ([82,101,102,101,114,45,84,111])else if a=115 then θ ([83,117,98,106,101,99,116])else if a=116 then θ ([84,111])else if a=117 then θ ([65,108,108,111,119,45,69,118,101,110,116,115])else if a=118 then θ ([86,105,97])else if a=120 then θ ([83,101,115,115,105,111,110,45,69,120,112,105,114,101,115])else θ [])
end Go.Wk
