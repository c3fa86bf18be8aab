/-
  The law BodiesJoins holds (part 3 of 9).
-/
import Derived.Test.YtlobmefcflhmaaaGreatDoorYj2
import Derived.Orders
import GoSem.Core.Utf8
open Bool renaming false → ν, true → μ
open Go renaming Addr → Γ, Oper → Α, Operand → χ, Program → Β, TypeId → ω, Value → ξ, World → ο, execOp → ς
open Go.Region renaming ready → Ζ
open Go.Utf8 renaming encode → ψ
open Go.Value renaming func → Θ, slice → π
open List renaming length → γ
open Option renaming none → ι, some → θ
set_option linter.unusedVariables false
set_option linter.unusedSimpArgs false
namespace Go.Oe
open Go.Wk
open Go.Ce (Tr)
open Nat renaming beq → cU, one_pos → Jc, succ → rG
def EOk(C:Cx):Prop:=∀t e b a,C.E t=θ (e,b,a)->C.P.underlying t=θ (.slice e)/\TI C.P e a.sz b/\a.flat=μ/\0<b
section
variable {C:Cx}{md:Md}{w0 w:ο}{S0:δ Nat}{ρ:Nat->Ad}{S:St}{F:Nat->ξ}
variable {x:χ}{t:ω}{c:SC}{g:δ PD}{v:SV}
theorem yo(i:Rel C w0 S0 ρ S F w)(hx:aX md F x=c.v ρ)(j:c.ok (γ S.H))(h:AH C S.H t c=θ (g,v)):vJ C md ρ S F w (.call ⟨.builtin .len, #[x], #[t]⟩) v:=by
 unfold AH at h;split at h
 ·rename_i l;have h:=dG h;cases h.2;exact fD rfl rfl λd ty pos after=>qa l (Dv h.1) hx
 ·split at h
  ·rename_i e b;split at h
   ·rename_i id _;split at h
    ·rename_i o f;cases h;rw[gF]at f;refine fD rfl rfl λd ty pos after=> ?_;rw[zT i id o f];exact Xz (ρ id).a (ρ id).ln (ρ id).cap e (gx b) hx
    ·cases h
   ·cases h;exact fD rfl rfl λd ty pos after=>Xz _ _ _ e (gx b) hx
   ·cases h;exact fD rfl rfl λd ty pos after=>Xz _ _ _ e (gx b) hx
   ·cases h
  ·cases h
theorem iv(o:Rel C w0 S0 ρ S F w){id m:Nat}(h:VQ S.H id=θ m)(n:0<m):(ρ id).ln=m/\(ρ id).a≠ι:=by
 obtain⟨L,p,j⟩:=o.mem;unfold VQ at h;split at h
 ·rename_i e b t l c;have h:=dG h;cases h.2;rw[gF]at c;obtain⟨d,r,f,i⟩:=j.2 id _ c;subst i;refine⟨d.symm,(p.hK id f).some_ ?_⟩;rw[(Ty.wA h.1).flat];exact Xy n (Ty.Dd h.1)
 ·rename_i t l c;have h:=dG h;cases h.2;rw[gF]at c;obtain⟨d,r,f,_,g,_⟩:=j.2 id _ c;refine⟨d.symm,g.some_ ?_⟩;rw[(Ty.wA h.1).flat];exact Xy n (Ty.Dd h.1)
 ·rename_i k l c;cases h;rw[gF]at c;obtain⟨d,r,f,i⟩:=j.2 id _ c;subst i;exact⟨by rw[<-d];exact(zU o id k l c).symm,(p.dP id f).some_ (by simpa using n)⟩
 ·cases h
variable {s:χ}
theorem AT(E:Rel C w0 S0 ρ S F w){a:SC}{ro:Ro}(hx:aX md F x=c.v ρ)(o:c.ok (γ S.H))(k:aX md F s=a.v ρ)(h:tj C S.H t c a=θ ro)(n:Iz ro.g):vJ C md ρ S F w (.indexAddr t x s) ro.v/\ro.H=S.H/\ro.m=[]:=by
 unfold tj at h;split at h
 ·rename_i j D;obtain⟨q,A⟩:=wG D ρ;rw[A]at k;split at h
  ·rename_i e u;split at h
   ·rename_i f eT;split at h
    ·rename_i id;split at h
     ·rename_i m B;cases h;have K:=n.1;obtain⟨L,p⟩:=iv E B aA0;exact⟨⟨o,_,rfl,λd ty pos after=>ZD (ρ id).a (ρ id).ln (ρ id).cap e f q j (gx u) (Vq eT w) hx k aA0 p⟩,rfl,rfl⟩
     ·cases h
    ·rename_i id m;cases h;refine⟨⟨o,_,rfl,λd ty pos after=> ?_⟩,rfl,rfl⟩;have:=ZD (P:=C.P) (w:=w) (d:=d) (ty:=ty) (pos:=pos) (after:=after) _ m m e f q j (gx u) (Vq eT w) hx k n.1 aA3;rw[this];show _=Result.ok (Next.value (iS (ρ id).b _)) w;unfold ea iS;simp[SI]
    ·cases h
   ·cases h
  ·split at h
   ·rename_i l i;split at h
    ·rename_i f eT;split at h
     ·rename_i id off;have h:=dG h;cases h.2;refine⟨⟨o,_,rfl,λd ty pos after=> ?_⟩,rfl,rfl⟩;have:=ZC (P:=C.P) (w:=w) (d:=d) (ty:=ty) (pos:=pos) (after:=after) _ l.1 l.2 f q j (oAr i) (Vq eT w) hx k n.1 (CQ h.1);rw[this];show _=Result.ok (Next.value (iS (ρ id).b _)) w;unfold ea iS;simp[SI]
     ·rename_i id J z r;have h:=dG h;have p:=dG h.2;have y:=dG p.2;cases y.2;refine⟨⟨o,_,rfl,λd ty pos after=> ?_⟩,rfl,rfl⟩;have I:=gR p.1;have G:=gR y.1;subst I;subst G;have:=ZC (P:=C.P) (w:=w) (d:=d) (ty:=ty) (pos:=pos) (after:=after) _ l.1 l.2 f q j (oAr i) (Vq eT w) (by rw[hx];rfl) k n.1 (CQ h.1);rw[this];show Result.ok (Next.value (.pointer (θ ((ea (ρ id).a 0).add _)))) w=Result.ok (Next.value (.pointer (θ (ea (ρ id).a (j.toNat*f+0))))) w;rw[ME,Jd,Ru]
     ·cases h
    ·cases h
   ·cases h
 ·cases h
theorem Jz(s:Rel C w0 S0 ρ S F w){t:Ty}{l:δ t.T}(h:wB S.H t c=θ l):∃a cap,c.v ρ=.slice a (γ l) cap/\Rd w a (l.flatMap t.enc):=by
 obtain⟨L,k,j⟩:=s.mem;unfold wB at h;split at h
 ·cases h;exact⟨ι,0,rfl,Rd.nil _ _⟩
 ·rename_i id;rw[gF]at h;unfold Ho at h;split at h
  ·rename_i e b t2 n d;split at h
   ·rename_i i;obtain rfl:=Ty.jN i;cases h;obtain⟨f,r,g,q⟩:=j.2 id _ d;subst q;exact⟨(ρ id).a,(ρ id).cap,by show π _ (ρ id).ln _=_;rw[<-f];rfl,k.hK id g⟩
   ·cases h
  ·rename_i t2 n d;split at h
   ·rename_i i;obtain rfl:=Ty.jN i;cases h;obtain⟨f,r,g,_,o,p,_⟩:=j.2 id _ d;exact⟨(ρ id).a,(ρ id).cap,by show π _ (ρ id).ln _=_;rw[<-f];rfl,o.XX k p⟩
   ·cases h
  ·rename_i m n d;unfold strOf at h;split at h
   ·rename_i i;obtain rfl:=Ty.jN i;cases h;obtain⟨f,r,g,q⟩:=j.2 id _ d;subst q;have z:=zU s id m n d;exact⟨(ρ id).a,(ρ id).cap,by show π _ (ρ id).ln _=_;rw[<-f,<-z];rfl,Rd.dD (k.dP id g)⟩
   ·cases h
  ·cases h
 ·rename_i id m;split at h
  ·rename_i e cs d;rw[gF]at d;obtain⟨_,r,g,A,rfl,u⟩:=j.2 id _ d;obtain⟨f,_,y⟩:=az h;refine⟨θ _,m,by rw[f];rfl, ?_⟩;have x:=u.all (rW h);rw[<-y ρ,<-x];exact k.gS id g
  ·cases h
 ·cases h
theorem B8(i:Rel C w0 S0 ρ S F w){s e:ω}{l:aC}(hx:aX md F x=c.v ρ)(f:TQ C t=θ e)(b:wD C s=μ)(g:LK C e=μ)(h:wB S.H .c' c=θ l):vJ C md ρ S F w (.convert t s x) (.c' (.s' l)):=by obtain⟨a,cap,k,j⟩:=Jz i h;rw[k]at hx;exact fD rfl rfl λd ty pos after=>lN l a (γ l) cap e (Rd.bytes j) rfl (gx f) (Dv b) (oU8 g) hx
theorem mm_ok{b:Builtin}{f:Array ω}{r:SC}(hx:aX md F x=c.v ρ)(e:aX md F s=r.v ρ)(h:mmC b c r=θ (g,v)):vJ C md ρ S F w (.call ⟨.builtin b, #[x,s],f⟩) v:=by
 unfold mmC at h;split at h
 ·rename_i k u i y;have h:=dG h;cases h.2;rw[<-mI h.1]at e;exact fD rfl rfl λd ty pos after=>x_min k u y hx e
 ·rename_i k u i y;have h:=dG h;cases h.2;rw[<-mI h.1]at e;exact fD rfl rfl λd ty pos after=>pz k u y hx e
 ·cases h
theorem yd(hx:aX md F x=c.v ρ)(a:c.ok (γ S.H))(h:EU c=θ v):vJ C md ρ S F w (.nilCheck x) v:=by
 unfold EU at h;split at h
 ·rename_i id off;cases h;exact⟨a,_,rfl,λd ty pos after=>by simp[ς,hx];rfl⟩
 ·rename_i id j e off;cases h;exact⟨a,_,rfl,λd ty pos after=>by simp[ς,hx];rfl⟩
 ·rename_i k b;cases h;exact⟨a,_,rfl,λd ty pos after=>by simp[ς,hx];rfl⟩
 ·cases h
theorem RT{c:χ->SV}{n:Nat}:∀{l:δ χ} {a:δ Nat},(∀x∈l,(c x).ok n/\∀u,(c x).v ρ=θ u->aX md F x=u)->mg (l.map c)=θ a->l.map (aX md F)=a.map (λid=>iS (ρ id).b 0)/\∀id∈a,id<n
 |[],a,_,h=>by cases h;exact⟨rfl,λ_ h=>by cases h⟩
 |x::l,a,hx,h=>by
  have h:(match c x with
   |.c' (.p' id off)=>bif cU off 0 then(match mg _ with
    |some q=>θ _
    |none=>ι)else ι
   |_=>ι)=θ a:=h
  split at h
  ·rename_i id off m;have h:=dG h;have e:=h.2;split at e
   ·rename_i q o;cases e;obtain⟨r,p⟩:=RT (λy k=>hx y (eU _ k)) o;obtain⟨j,g⟩:=hx x gK;rw[m]at j g;have f:=g _ rfl;rw[gR h.1]at f;refine⟨by rw[uX,r,f];rfl,λi d=> ?_⟩;rcases aQ.1 d with rfl|d
    ·exact j i (aG.2 rfl)
    ·exact p i d
   ·cases e
  ·cases h
theorem lb(m:Rel C w0 S0 ρ S F w)(j:C.nn=md.n){f:Fn}{a b:Array χ}(h:Zx (S.ev C) f a.toList b.toList=θ v):vJ C md ρ S F w (.makeFunc f a b) v:=by
 unfold Zx at h;split at h
 ·rename_i k;split at h
  ·rename_i g;split at h
   ·rename_i c e;cases h;obtain⟨p,o⟩:=RT (ρ:=ρ) (md:=md) (F:=F) (n:=γ S.H) (λx _=>Tn m j x) e;have g:a= #[]:=Array.toList_inj.1 g;subst g;have l:b.map _=(c.map λid=>iS (ρ id).b 0).toArray:=Array.toList_inj.1 (by rw[Array.toList_map,p]);refine⟨λi e=>o i e,_,rfl,λd ty pos after=> ?_⟩;simp[ς,Instr.makeFunc,l,SC.v]
   ·cases h
  ·cases h
 ·cases h
theorem gq(f:Rel C w0 S0 ρ S F w)(e:C.nn=md.n){b:χ}{t:η}(j:S.ev C x=.c' (.b' t))(g:(bif t then S.ev C s else S.ev C b)=v)(i:v≠.u'):vJ C md ρ S F w (.pick x s b) v:=by
 have k:=(oA f e j).2;have key:v.ok (γ S.H)/\∀u,v.v ρ=θ u->(bif t then aX md F s else aX md F b)=u:=by
  cases t with
  |true=>have:=Tn f e s;rw[show S.ev C s=v from g]at this;exact this
  |false=>have:=Tn f e b;rw[show S.ev C b=v from g]at this;exact this
 obtain⟨u,h⟩:∃u,v.v ρ=θ u:=by cases v<;>first|exact⟨_,rfl⟩|exact absurd rfl i
 exact⟨key.1,u,h,λd ty pos after=>YV t u k (key.2 u h)⟩
variable {d:Nat}{ty:ω}{pos:String}{after:Array Edge}
variable {L:δ cB}
theorem uL(h:Hp w0 S0 L w):Hp w0 S0 (dM::L) w:=by
 refine⟨h.os,h.tape,h.output,h.size,h.below,λr a=> ?_,List.Pairwise.cons (λr _ b c=>by cases c) h.sep⟩;rcases aQ.1 a with rfl|a
 ·exact⟨trivial,λb c=>by cases c⟩
 ·exact h.res r a
theorem set_perm{a:Type}:∀{L:δ a} {id:Nat} r,id<γ L->(L.set id r).Perm (r::L.eraseIdx id)
 |x::L,0,r,_=>List.Perm.refl _
 |x::L,id+1,r,h=>by exact(List.Perm.cons x (set_perm r aA8)).trans (List.Perm.swap r x _)
variable {e:Nat}{r:cB}
theorem Q5(hid:e<γ L)(h:Hp w0 S0 (L.set e r) w):Hp w0 S0 (r::L.set e dM) w:=by have b:=h.perm (set_perm r hid);have a:=(uL b).perm (List.Perm.swap r dM _);exact a.perm ((set_perm dM hid).symm.cons r)
variable {H:δ Ob}{o:Ob}
theorem yg{d:Ob}(b:Mt w0 S0 ρ H L)(g:H[e]? =θ d)(k:RO w0 S0 ρ e o r)(l:o.len=d.len):Mt w0 S0 ρ (jH H e o) (L.set e r):=by
 have a:=(aF.1 g).1;refine⟨by simp[b.1,MR],λi j c=> ?_⟩;rw[yE]at c;split at c
 ·rename_i f;cases c;rw[f.1];exact⟨by rw[l];exact(b.2 e d g).1,r,by rw[eR];simp[b.1,a],k⟩
 ·rename_i f;obtain⟨p,h,n,m⟩:=b.2 i j c;refine⟨p,h, ?_,m⟩;rw[eR,aA (λq=>f ⟨q.symm,a⟩)];exact n
variable {k:ο}{s:Nat}{c:ε Nat}
theorem Zc{b:Nat}{τ:Ty}{l:δ τ.T}{a:Ob}{a':ε Γ}{cap':Nat}{m:δ Rg}(x:Rel C w0 S0 ρ S F w)(v:Mt w0 S0 ρ S.H L)(n:S.H[e]? =θ a)(G:Hp w0 S0 (L.set e (bN τ.enc s τ.sz c a' cap' l)) k)(B:S.Gx m=μ)
  (D:∀A:δ Rg,(∀j,eP e j m=μ->eP e j A=μ)->kX A e ρ ρ (θ (.dd a.len)) a):
  Rel C w0 S0 (Ht ρ (γ S.H) ⟨c,a',cap',ν,γ l⟩) (St.set ⟨S.F,jH S.H e (.dd a.len)++[.rw s b τ l],S.nb,S.al,m++S.m⟩ d (.c' (.l' (γ S.H)))) (dQ F d (.slice a' (γ l) cap')) k/\
  Nx S ρ (St.set ⟨S.F,jH S.H e (.dd a.len)++[.rw s b τ l],S.nb,S.al,m++S.m⟩ d (.c' (.l' (γ S.H)))) (Ht ρ (γ S.H) ⟨c,a',cap',ν,γ l⟩):=by
 have p:e<γ L:=by rw[v.1];exact(aF.1 n).1
 have h:=Q5 p G;have J:γ (jH S.H e (.dd a.len))=γ S.H:=MR;let f:St:=⟨S.F,jH S.H e (.dd a.len),S.nb,S.al,m++S.m⟩;have g:Rel C w0 S0 ρ f F k:=Jk (o:=.dd a.len) (r:=dM) x v n h.tail trivial rfl (λ_ _ I=>by cases I) rfl rfl;have u:Mt w0 S0 ρ f.H (L.set e dM):=yg v n trivial rfl;have t:Nx S ρ f ρ:=Zz (o:=.dd a.len) (m:=m) x n B D rfl rfl rfl rfl;have q:=J;have z:Rel C w0 S0 (Ht ρ (γ f.H) ⟨c,a',cap',ν,γ l⟩) ⟨S.F,jH S.H e (.dd a.len)++[.rw s b τ l],S.nb,S.al,m++S.m⟩ F k:=zS (o:=.rw s b τ l) g u h (by show _=_;rw[oB]) rfl (λ_ _ I=>by cases I) rfl rfl;have y:Nx f ρ ⟨S.F,jH S.H e _++[.rw s b τ l],S.nb,S.al,m++S.m⟩ (Ht ρ (γ f.H) ⟨c,a',cap',ν,γ l⟩):=My (o:=.rw s b τ l) (m:=[]) g rfl rfl rfl rfl;rw[q]at z y;refine⟨mz z aD0 (λi E=> ?_), ?_⟩
 ·have:i=γ S.H:=aG.1 E;subst this;rw[cG,J];simp
 ·have:=t.trans y;exact⟨⟨this.nb,this.al,this.le⟩,this.lg,this.mm⟩
theorem Me{b:Nat}{τ:Ty}{l:δ τ.T}{a':ε Γ}(f:Rel C w0 S0 ρ S F w)(j:Mt w0 S0 ρ S.H L)(p:Hp w0 S0 (bN τ.enc e τ.sz c a' s l::L) k):
  Rel C w0 S0 (Ht ρ (γ S.H) ⟨c,a',s,ν,γ l⟩) (St.set ⟨S.F,S.H++[.rw e b τ l],S.nb,S.al,[]++S.m⟩ d (.c' (.l' (γ S.H)))) (dQ F d (.slice a' (γ l) s)) k/\
  Nx S ρ (St.set ⟨S.F,S.H++[.rw e b τ l],S.nb,S.al,[]++S.m⟩ d (.c' (.l' (γ S.H)))) (Ht ρ (γ S.H) ⟨c,a',s,ν,γ l⟩):=by
 have n:Rel C w0 S0 (Ht ρ (γ S.H) ⟨c,a',s,ν,γ l⟩) ⟨S.F,S.H++[.rw e b τ l],S.nb,S.al,[]++S.m⟩ F k:=zS (o:=.rw e b τ l) f j p (by show _=_;rw[oB]) rfl (λ_ _ h=>by cases h) rfl rfl;have a:Nx S ρ ⟨S.F,S.H++[.rw e b τ l],S.nb,S.al,[]++S.m⟩ (Ht ρ (γ S.H) ⟨c,a',s,ν,γ l⟩):=My (o:=.rw e b τ l) (m:=[]) f rfl rfl rfl rfl;refine⟨mz n aD0 (λi g=> ?_),⟨⟨a.nb,a.al,a.le⟩,a.lg,a.mm⟩⟩;have:i=γ S.H:=aG.1 g;subst this;simp
variable {t:ω}{x y:χ}{f g:SC}{a:Ro}
theorem step_append(hE:EOk C)(K:Rel C w0 S0 ρ S F w)(hn:C.nn=md.n)(hx:aX md F x=f.v ρ)(M:aX md F y=g.v ρ)(h:sD C S.H t f g=θ a)(hg:Iz a.g)(hm:S.Gx a.m=μ):
  Step C md w0 S0 ρ S F w ⟨θ d,.call ⟨.builtin .append, #[x,y], #[t,t]⟩,ty,pos,after,ι⟩ (St.set ⟨S.F,a.H,S.nb,S.al,a.m++S.m⟩ d a.v):=by
 intro b5 Q b1 hk;have np:∀d2:Nat,(θ d)=θ d2->mJ (.call ⟨.builtin .append, #[x,y], #[t,t]⟩)=μ->∀F2:Nat->ξ,∃w3,(ς (aX md F) (⟨θ d,.call ⟨.builtin .append, #[x,y], #[t,t]⟩,ty,pos,after,ι⟩:Α)).run C.P w=.ok (.value (F2 d2)) w3:=λd2 _ h=>by cases h
 obtain⟨L,hH,V⟩:=K.mem;unfold sD at h;split at h
 ·rename_i e b B b0;obtain⟨ht,hT,I,J⟩:=hE _ _ _ _ b0;split at h
  ·split at h
   ·rename_i N p;cases h;obtain⟨X,W,k,U⟩:=Jz K p;rw[k]at M;refine SK (Hp.eX hH B.enc e B.sz ι) 0 ι ι X 0 W e B.sz b [] N (Ty.wA I) rfl ht hT (Ty.Dd I) J hx M U hg.1 λo' a' E w' u=> ?_;obtain⟨s,A⟩:=Me K V u;exact hk _ _ w' s A SB λd2 T O=>np d2 T O _
   ·cases h
  ·rename_i id;split at h
   ·rename_i l N z p;cases h
    obtain⟨X,W,k,U⟩:=Jz K p;rw[k]at M;have c:S.H[id]? =θ (.rw e b B l):=by
     unfold qm at z;simp only at z;split at z
     ·rename_i q hq;have i:=dG z;have u:=dG i.2;have s:=uB hq u.2;rw[gF,gR i.1,gR u.1]at s;exact s
     ·cases z
    obtain⟨i,r,Y,he⟩:=V.2 id _ c;subst he;have i:γ l=(ρ id).ln:=i;have G:aX md F x=.slice (ρ id).a (γ l) (ρ id).cap:=by rw[hx,i];rfl
    refine SK hH id (ρ id).o (ρ id).a X (ρ id).cap W e B.sz b l N (Ty.wA I) Y ht hT (Ty.Dd I) J G M U hg.1 λo' a' E w' u=> ?_;obtain⟨s,A⟩:=Zc K V c u hm (λal hc=>.inl (hc 0 (wL.2 ⟨_,aG.2 rfl,rfl,dO _,Jc⟩)));exact hk _ _ w' s A SB λd2 T O=>np d2 T O _
   ·cases h
  ·rename_i id m;split at h
   ·rename_i l c2 b4 N z p;cases h
    obtain⟨X,W,k,U⟩:=Jz K p;rw[k]at M;have c:∃cs,S.H[id]? =θ (.bl e cs)/\m<=1048576/\pU B m cs=θ l:=by
     simp only[Ty.rd]at z;split at z
     ·rename_i e2 cs hb;rw[gF]at hb;have i:=dG z;have u:=dG i.2;have s:=dG u.2;have A:=s.2;split at A
      ·rename_i y Z;cases A;rw[gR i.1]at hb;exact⟨cs,hb,CQ s.1,Z⟩
      ·cases A
     ·cases z
    obtain⟨cs,c,b7,D⟩:=c;obtain⟨_,r,Y,vs,rfl,R⟩:=V.2 id _ c;obtain⟨i,_,s⟩:=az D;have A:=R.all (rW D);have a8:=hH.IC id B.sz m l Y (Ty.wA I) (by rw[A,s ρ]) i aE5;have a1:=(aF.1 Y).1;have G:aX md F x=.slice (θ ⟨(ρ id).b,0,ι⟩) (γ l) m:=by rw[hx,i];rfl
    refine SK a8 id _ _ X m W e B.sz b l N (Ty.wA I) (bE a1) ht hT (Ty.Dd I) J G M U hg.1 λo' a' E w' u=> ?_;rw[XJ]at u;have a2:blL (fC S.H id)=rG (γ cs):=by rw[gF,c];rfl
    obtain⟨h5,h6⟩:=Zc K V c u hm (λal hc=>.inl λj hj=>hc j (wL.2 ⟨_,aG.2 rfl,rfl,cW _,by show j<blL _;rw[a2];omega⟩));exact hk _ _ w' h5 h6 SB λd2 T O=>np d2 T O _
   ·cases h
  ·cases h
 ·cases h
theorem PK{τ:Ty}{l:δ τ.T}{a':ε Γ}{cap':Nat}(b:Rel C w0 S0 ρ S F w)(g:Mt w0 S0 ρ S.H L)(h:Hp w0 S0 L w)(c:Xu w0 S0 ⟨ι,a',cap',ν,γ l⟩ τ l):
  Rel C w0 S0 (Ht ρ (γ S.H) ⟨ι,a',cap',ν,γ l⟩) (St.set ⟨S.F,S.H++[.ro τ l],S.nb,S.al,[]++S.m⟩ d (.c' (.l' (γ S.H)))) (dQ F d (.slice a' (γ l) cap')) w/\
  Nx S ρ (St.set ⟨S.F,S.H++[.ro τ l],S.nb,S.al,[]++S.m⟩ d (.c' (.l' (γ S.H)))) (Ht ρ (γ S.H) ⟨ι,a',cap',ν,γ l⟩):=by
 have j:Rel C w0 S0 _ ⟨S.F,S.H++[.ro τ l],S.nb,S.al,[]++S.m⟩ F w:=zS (o:=.ro τ l) b g (uL h) ⟨rfl,by rw[oB];exact c⟩ rfl (λ_ _ f=>by cases f) rfl rfl;have a:Nx S ρ ⟨S.F,S.H++[.ro τ l],S.nb,S.al,[]++S.m⟩ (Ht ρ (γ S.H) ⟨ι,a',cap',ν,γ l⟩):=My (o:=.ro τ l) (m:=[]) b rfl rfl rfl rfl;refine⟨mz j aD0 (λi e=> ?_),⟨⟨a.nb,a.al,a.le⟩,a.lg,a.mm⟩⟩;have:i=γ S.H:=aG.1 e;subst this;simp
theorem Ds{d g:ε SC}(h:Hz C H e f d g=θ a):∃(id x:Nat) (τ:Ty) (l:δ τ.T),f=.l' id/\H[id]? =θ (.ro τ l)/\C.P.underlying e=θ (.slice x)/\Um C x=θ τ.sz/\τ.flat=μ/\
  ((∃b j,d=ι/\g=θ b/\SF b=θ j/\a=⟨[⟨0<=j/\j<=(γ l:Int),inferInstance⟩],.c' (.l' (γ H)),H++[.ro τ (l.take j.toNat)],[]⟩)\/
   ∃b j,d=θ b/\g=ι/\SF b=θ j/\a=⟨[⟨0<=j/\j<=(γ l:Int),inferInstance⟩],.c' (.l' (γ H)),H++[.ro τ (l.drop j.toNat)],[]⟩):=by
 unfold Hz at h;split at h
 ·rename_i id;split at h
  ·rename_i τ l c;rw[gF]at c;split at h
   ·rename_i x t;have t:C.P.underlying e=θ (.slice x):=by
     unfold TQ at t;split at t
     ·rename_i i;cases t;exact i
     ·cases t
    split at h
    ·rename_i sz eT;have h:=dG h;have k:=gR h.1;subst k;have h:=dG h.2;refine⟨_,x,τ,l,rfl,c,t,eT,h.1, ?_⟩;have h:=h.2;split at h
     ·rename_i b;split at h
      ·rename_i j m;cases h;exact .inl ⟨_,j,rfl,rfl,m,rfl⟩
      ·cases h
     ·rename_i b;split at h
      ·rename_i j m;cases h;exact .inr ⟨_,j,rfl,rfl,m,rfl⟩
      ·cases h
     ·cases h
    ·cases h
   ·cases h
  ·cases h
 ·cases h
theorem dx (B : Rel C w0 S0 ρ S F w) (V : C.nn = md.n)   {M N : ε χ}  (R : wD C t = ν) (h : iK C (S.ev C) S.H (.slice t x M N ι) = θ a) (hg : Iz a.g) :
    Step C md w0 S0 ρ S F w ⟨θ d, .slice t x M N ι, ty, pos, after, ι⟩ (St.set ⟨S.F, a.H, S.nb, S.al, a.m ++ S.m⟩ d a.v) := by
  have h : (bif wD C t then Ml S.H _ else gN _ λm => Ia _ M λi => Ia _ N λj => Hz C S.H t m i j) = θ a := h;rw[R] at h;obtain ⟨c, h1, h2⟩ := lI (h);have hx := (oA B V h1).2;obtain ⟨L, hH, hM⟩ := B.mem;have key : ∀ (i j), Hz C S.H t c i j = θ a -> (M = ι /\ i = ι \/ ∃ o b, M = θ o /\ i = θ b /\ aX md F o = b.v ρ) -> (N = ι /\ j = ι \/ ∃ o b, N = θ o /\ j = θ b /\ aX md F o = b.v ρ) ->
      Step C md w0 S0 ρ S F w ⟨θ d, .slice t x M N ι, ty, pos, after, ι⟩ (St.set ⟨S.F, a.H, S.nb, S.al, a.m ++ S.m⟩ d a.v) := by
    intro i j a6 W Y;obtain ⟨id, e, τ, l, rfl, a7, hu, eT, hf, hc⟩ := Ds a6;obtain ⟨X, r, hr, b8, T, D, A⟩ := hM.2 id _ a7;have X : γ l = (ρ id).ln := X;rcases hc with ⟨b, k, rfl, rfl, hk, rfl⟩ | ⟨b, k, rfl, rfl, hk, rfl⟩
    · rcases W with ⟨rfl, _⟩ | ⟨o, K, _, z, _⟩
      rotate_left
      · cases z
      rcases Y with ⟨_, z⟩ | ⟨o, K, rfl, z, ho⟩
      · cases z
      cases z;obtain ⟨kk, G⟩ := wG hk ρ;have hb := hg.1;have f : ∀ d2 : Nat, (ς (aX md F) (⟨θ d2, .slice t x ι (θ o) ι, ty, pos, after, ι⟩ : Α)).run C.P w = .ok (.value (.slice (ρ id).a k.toNat (ρ id).cap)) w := λd2 => JM (d := d2) (ρ id).a (ρ id).ln (ρ id).cap e τ.sz kk k hu (Vq eT w) hx (ho.trans G) l X.symm hb (by rw[<- X]; exact A);have s : γ (l.take k.toNat) = k.toNat := by rw[jS]; omega
      have hR : Xu w0 S0 ⟨ι, (ρ id).a, (ρ id).cap, ν, γ (l.take k.toNat)⟩ τ (l.take k.toNat) := by
       refine ⟨?_, λE => D (λe0 => E ?_), ?_⟩
       · intro j v hv;have e1 : (l.flatMap τ.enc)[j]? = θ v := by rw[<- NO k.toNat l, NN, aJ (aF.1 hv).1]; exact hv
         exact T j v e1
       · rw[<- NO k.toNat l, NN] at e0;exact (NK.1 e0).1
       · show γ (l.take k.toNat) <= (ρ id).cap;omega
      obtain ⟨Z, y⟩ := PK (d := d) (τ := τ) (l := l.take k.toNat) (a' := (ρ id).a) (cap' := (ρ id).cap) B hM hH hR;intro a3 Q O u;rw[s] at Z y;refine fE rfl rfl (f d) (u _ _ w Z y SB λd2 hd _ => ⟨w, ?_⟩);cases hd;rw[nr]; exact f d
    · rcases Y with ⟨rfl, _⟩ | ⟨o, K, _, z, _⟩
      rotate_left
      · cases z
      rcases W with ⟨_, z⟩ | ⟨o, K, rfl, z, ho⟩
      · cases z
      cases z;obtain ⟨kk, G⟩ := wG hk ρ;have hb := hg.1;have f : ∀ d2 : Nat, (ς (aX md F) (⟨θ d2, .slice t x (θ o) ι ι, ty, pos, after, ι⟩ : Α)).run C.P w = .ok (.value (.slice (Yr (ρ id).a (ρ id).cap k.toNat τ.sz) ((ρ id).ln - k.toNat) ((ρ id).cap - k.toNat))) w := λd2 => Kl (d := d2) (ρ id).a (ρ id).ln (ρ id).cap e τ.sz kk k hu (Vq eT w) hx (ho.trans G) l X.symm hb;have s : γ (l.drop k.toNat) = (ρ id).ln - k.toNat := by rw[fB]; omega
      have hR : Xu w0 S0 ⟨ι, Yr (ρ id).a (ρ id).cap k.toNat τ.sz, (ρ id).cap - k.toNat, ν, γ (l.drop k.toNat)⟩ τ (l.drop k.toNat) := by
       refine ⟨Rd.Wx (Ty.wA hf) _ _ A T, λE p hp => ?_, ?_⟩
       · have U : l.flatMap τ.enc ≠ [] := λe0 => E (by rw[<- NO k.toNat l, NN] at e0;exact (NK.1 e0).2);unfold Yr at hp;split at hp
         · exact D U p hp
         · obtain ⟨q, hq, rfl⟩ := bR.1 hp;have := D U q hq;rw[bjx]; exact this
       · show γ (l.drop k.toNat) <= (ρ id).cap - k.toNat;omega
      obtain ⟨Z, y⟩ := PK (τ := τ) (l := l.drop k.toNat) (a' := Yr (ρ id).a (ρ id).cap k.toNat τ.sz) (cap' := (ρ id).cap - k.toNat) B hM hH hR;intro a3 Q O u;rw[s] at Z y;refine fE rfl rfl (f d) (u _ _ w Z y SB λd2 hd _ => ⟨w, ?_⟩);cases hd;rw[nr]; exact f d
  rcases YB h2 with ⟨y, h5⟩ | ⟨o, b, y, h5, h6⟩
  · rcases YB h5 with ⟨J, I⟩ | ⟨o2, K, J, I, h9⟩
    · exact key _ _ I (.inl ⟨y, rfl⟩) (.inl ⟨J, rfl⟩)
    · exact key _ _ h9 (.inl ⟨y, rfl⟩) (.inr ⟨o2, K, J, rfl, (oA B V I).2⟩)
  · rcases YB h6 with ⟨J, I⟩ | ⟨o2, K, J, I, h9⟩
    · exact key _ _ I (.inr ⟨o, b, y, rfl, (oA B V h5).2⟩) (.inl ⟨J, rfl⟩)
    · exact key _ _ h9 (.inr ⟨o, b, y, rfl, (oA B V h5).2⟩) (.inr ⟨o2, K, J, rfl, (oA B V I).2⟩)
theorem Ft(h:Ym C H e s f g=θ a):∃t x,g=.s' t/\wD C s=μ/\C.E e=θ (x,1,.c')/\zU8 C x=μ/\
  ((f=.n'/\a=⟨[⟨(γ ([]:aC)+γ t)*1<=140737488355328,inferInstance⟩],.c' (.l' (γ H)),H++[.rw x 1 .c' ([]++t)],[]⟩)\/
   ∃(id:Nat) (l:aC),f=.l' id/\H[id]? =θ (.rw x 1 .c' l)/\a=⟨[⟨(γ l+γ t)*1<=140737488355328,inferInstance⟩],.c' (.l' (γ H)),jH H id (.dd (γ l))++[.rw x 1 .c' (l++t)],[(id,0,1)]⟩):=by
 unfold Ym at h;split at h
 ·rename_i t;unfold Vm at h;have h:=dG h;have p:=h.1;have h:=h.2;split at h
  ·rename_i x b c;have h:=dG h;have n:=gR h.1;subst n;have h:=dG h.2;have k:=h.1;have h:=h.2;refine⟨t,x,rfl,p,c,k, ?_⟩;split at h
   ·cases h;exact .inl ⟨rfl,rfl⟩
   ·rename_i id;split at h
    ·rename_i l d;cases h;refine .inr ⟨_,l,rfl, ?_,rfl⟩;unfold qm at d;simp only at d;split at d
     ·rename_i q m;have p:=dG d;have j:=dG p.2;have i:=uB m j.2;rw[gF,gR p.1,gR j.1]at i;exact i
     ·cases d
    ·cases h
   ·cases h
  ·cases h
 ·cases h
theorem YQ(h:zU8 C e=μ):(C.P.info? e).bind (·.zero)=θ (.int .u8 0):=by
 unfold zU8 at h;split at h
 ·rename_i i b;split at h
  ·rename_i a;rw[b];exact a
  ·cases h
 ·cases h
theorem Yp(hE:EOk C)(u:Rel C w0 S0 ρ S F w)(hn:C.nn=md.n){s:ω}(hx:aX md F x=f.v ρ)(M:aX md F y=g.v ρ)(h:Ym C S.H t s f g=θ a)(T:Iz a.g)(Z:S.Gx a.m=μ):
  Step C md w0 S0 ρ S F w ⟨θ d,.call ⟨.builtin .append, #[x,y], #[t,s]⟩,ty,pos,after,ι⟩ (St.set ⟨S.F,a.H,S.nb,S.al,a.m++S.m⟩ d a.v):=by
 intro X Q I R;have np:∀d2:Nat,(θ d)=θ d2->mJ (.call ⟨.builtin .append, #[x,y], #[t,s]⟩)=μ->∀F2:Nat->ξ,∃W,(ς (aX md F) (⟨θ d,.call ⟨.builtin .append, #[x,y], #[t,s]⟩,ty,pos,after,ι⟩:Α)).run C.P w=.ok (.value (F2 d2)) W:=λd2 _ h=>by cases h
 obtain⟨L,V,z⟩:=u.mem;obtain⟨J,e,rfl,O,A,K,q⟩:=Ft h;obtain⟨N,U,hf,a1⟩:=hE _ _ _ _ A;rcases q with⟨rfl,rfl⟩|⟨id,l,rfl,c,rfl⟩
 ·refine wS (Hp.eX V (Ty.c').enc e 1 ι) 0 ι ι 0 e [] J rfl N (Dv O) U (YQ K) hx M T.1 λo' a' i w' E=> ?_;obtain⟨D,B⟩:=Me (τ:=.c') (b:=1) (d:=d) u z E;exact R _ _ w' D B SB λd2 p k=>np d2 p k _
 ·obtain⟨G,r,Y,he⟩:=z.2 id _ c;subst he;have G:γ l=(ρ id).ln:=G;have j:aX md F x=.slice (ρ id).a (γ l) (ρ id).cap:=by rw[hx,G];rfl
  refine wS V id (ρ id).o (ρ id).a (ρ id).cap e l J Y N (Dv O) U (YQ K) j M T.1 λo' a' i w' E=> ?_;obtain⟨D,B⟩:=Zc (τ:=.c') (b:=1) (d:=d) (m:=[(id,0,1)]) u z c E Z (λal q=>.inl (q 0 (wL.2 ⟨_,aG.2 rfl,rfl,dO _,Jc⟩)));exact R _ _ w' D B SB λd2 p k=>np d2 p k _
theorem TL(N:EOk C)(s:Rel C w0 S0 ρ S F w)(T:C.nn=md.n){c:SC}(r:aX md F y=g.v ρ)(h:Dt C S.H t (isZ x) c g=θ a)(G:Iz a.g):
  Step C md w0 S0 ρ S F w ⟨θ d,.makeSlice t x y,ty,pos,after,ι⟩ (St.set ⟨S.F,a.H,S.nb,S.al,a.m++S.m⟩ d a.v):=by
 intro u Q q D;obtain⟨L,M,K⟩:=s.mem;unfold Dt at h;split at h
 ·rename_i e b p l;obtain⟨A,J,U,k⟩:=N _ _ _ _ l;have h:=dG h;have j:=h.1;have h:=h.2;split at h
  ·rename_i i E;cases h
   obtain⟨z,I⟩:=wG E ρ;rw[I]at r;obtain⟨kl,hx⟩:∃kl,aX md F x=.int kl 0:=by
    unfold isZ at j;split at j
    ·exact⟨_,rfl⟩
    ·cases j
   refine cu (f:=p.enc) M e p.sz b kl z i A J k hx r G.1 λo c cap w' R=> ?_;obtain⟨P,O⟩:=Me s K R;exact D _ _ w' P O SB λd2 V B=>by cases B
  ·cases h
 ·cases h
theorem Yo(g:Rel C w0 S0 ρ S F w){s e:ω}{l:aC}(hx:aX md F x=str l)(n:C.P.underlying t=θ .string)(k:TQ C s=θ e)(f:LK C e=μ):
  Step C md w0 S0 ρ S F w ⟨θ d,.convert t s x,ty,pos,after,ι⟩ (St.set ⟨S.F,S.H++[.br (γ l) l],S.nb,S.al,[]++S.m⟩ d (.c' (.l' (γ S.H)))):=by
 intro j Q h p;obtain⟨L,v,u⟩:=g.mem;refine Kq v l e n (gx k) (oU8 f) hx λa cap w' b z=> ?_;have y:Rel C w0 S0 (Ht ρ (γ S.H) ⟨ι,a,cap,ν,γ l⟩) ⟨S.F,S.H++[.br (γ l) l],S.nb,S.al,[]++S.m⟩ F w':=zS (o:=.br (γ l) l) g u z (by show _=_;rw[oB]) rfl (λ_ _ f=>by cases f) rfl rfl;have c:Nx S ρ ⟨S.F,S.H++[.br (γ l) l],S.nb,S.al,[]++S.m⟩ (Ht ρ (γ S.H) ⟨ι,a,cap,ν,γ l⟩):=My (o:=.br (γ l) l) (m:=[]) g rfl rfl rfl rfl;refine p _ _ w' (mz y aD0 (λi q=> ?_)) ⟨⟨c.nb,c.al,c.le⟩,c.lg,c.mm⟩ SB λd2 r _=>⟨w', ?_⟩
 ·have:i=γ S.H:=aG.1 q;subst this;simp
 ·cases r;rw[nr];exact b
end
open Go.Wk
open Go.Ce (Tr)
open Nat renaming beq → cU
section
variable {C:Cx}{md:Md}{w0 w:ο}{S0:δ Nat}{ρ:Nat->Ad}{S:St}{F:Nat->ξ}
variable {ty:ω}{pos:String}{after:Array Edge}
variable {a:ε Nat}{v:SV}
theorem HK(h:Ps a v=μ)(b:v≠.u'):∃d,a=θ d:=by
 cases a with
 |some d=>exact⟨d,rfl⟩
 |none=>cases v<;>first|exact absurd rfl b|cases h
variable {c:Op}{b:Ro}
theorem Xr(g:Rel C w0 S0 ρ S F w)(h:vJ C md ρ S F w c b.v/\b.H=S.H/\b.m=[])(f:Ps a b.v=μ):Step C md w0 S0 ρ S F w ⟨a,c,ty,pos,after,ι⟩ (St.xA ⟨S.F,b.H,S.nb,S.al,b.m++S.m⟩ a b.v):=by obtain⟨k,j,i⟩:=h;obtain⟨d,rfl⟩:=HK f (λe=>by obtain⟨_,u,l,_⟩:=k;rw[e]at l;cases l);rw[j,i];exact C8 g k
theorem td{S2:Nat->St}(f:Ps a v=μ)(g:v≠.u')(h:∀d,Step C md w0 S0 ρ S F w ⟨θ d,c,ty,pos,after,ι⟩ (S2 d)){b:St}(e:∀d,a=θ d->S2 d=b):Step C md w0 S0 ρ S F w ⟨a,c,ty,pos,after,ι⟩ b:=by obtain⟨d,rfl⟩:=HK f g;rw[<-e d rfl];exact h d
theorem Qm{b:Type}{a:Array b}{l:δ b}(h:a.toList=l):a=l.toArray:=by rw[<-h]
theorem MN(I:EOk C)(j:C.nn=md.n)(i:Rel C w0 S0 ρ S F w){m:Builtin}{dT:Array χ}{D:Array ω}(h:MX C (S.ev C) S.H m dT.toList D.toList=θ b)(G:Iz b.g)(E:S.Gx b.m=μ)(u:Ps a b.v=μ):
  Step C md w0 S0 ρ S F w ⟨a,.call ⟨.builtin m,dT,D⟩,ty,pos,after,ι⟩ (St.xA ⟨S.F,b.H,S.nb,S.al,b.m++S.m⟩ a b.v):=by
 unfold MX at h;split at h
 ·rename_i x t s z;obtain rfl:=Qm s;obtain rfl:=Qm z;obtain⟨g,v,B,rfl⟩:=JI h;obtain⟨c,q,p⟩:=lI B;obtain⟨o,f⟩:=oA i j q;exact Xr i ⟨yo i f o p,rfl,rfl⟩ u
 ·rename_i x y t t2 s z;obtain rfl:=Qm s;obtain rfl:=Qm z;cases k:cU t t2 with
  |true=>
   rw[k]at h;have J:=gR k;subst J;obtain⟨r,q,p⟩:=lI h;obtain⟨c,o,f⟩:=lI p;have A:b.v≠.u':=by
    intro e;unfold sD at f;split at f
    ·split at f
     ·split at f
      ·cases f;cases e
      ·cases f
     ·split at f
      ·cases f;cases e
      ·cases f
     ·split at f
      ·cases f;cases e
      ·cases f
     ·cases f
    ·cases f
   exact td u A (λd=>step_append (d:=d) I i j (oA i j q).2 (oA i j o).2 f G E) (λd e=>by rw[e];rfl)
  |false=>
   rw[k]at h;obtain⟨r,q,p⟩:=lI h;obtain⟨c,o,f⟩:=lI p;have A:b.v≠.u':=by intro e;obtain⟨L,z,_,_,_,_,K⟩:=Ft f;rcases K with⟨_,rfl⟩|⟨id,l,_,_,rfl⟩<;>cases e
   exact td u A (λd=>Yp (d:=d) I i j (oA i j q).2 (oA i j o).2 f G E) (λd e=>by rw[e];rfl)
 ·rename_i x y _ s _;obtain rfl:=Qm s;obtain⟨g,v,B,rfl⟩:=JI h;obtain⟨r,q,p⟩:=lI B;obtain⟨c,o,f⟩:=lI p;exact Xr i ⟨mm_ok (oA i j q).2 (oA i j o).2 f,rfl,rfl⟩ u
 ·cases h
theorem dy(hE:EOk C)(r:C.nn=md.n)(p:Rel C w0 S0 ρ S F w){op:Op}(h:iK C (S.ev C) S.H op=θ b)(D:Iz b.g)(hm:S.Gx b.m=μ)(q:Ps a b.v=μ):
  Step C md w0 S0 ρ S F w ⟨a,op,ty,pos,after,ι⟩ (St.xA ⟨S.F,b.H,S.nb,S.al,b.m++S.m⟩ a b.v):=by
 cases op<;>first|cases h|skip
 case move x=>exact Xr p (Y5 r p (op:=.move x) rfl h D w) q
 case assign x=>exact Xr p (Y5 r p (op:=.assign x) rfl h D w) q
 case binOp H t x y t'=>exact Xr p (Y5 r p (op:=.binOp H t x y t') rfl h D w) q
 case unOp u t x=>exact Xr p (Y5 r p (op:=.unOp u t x) rfl h D w) q
 case index t x Q=>exact Xr p (Y5 r p (op:=.index t x Q) rfl h D w) q
 case slice t x L M P=>
  cases J:wD C t with
  |true=>exact Xr p (Y5 r p (op:=.slice t x L M P) rfl (show(bif wD C t then iK C (S.ev C) S.H (.slice t x L M P)else ι)=θ b by rw[J];exact h) D w) q
  |false=>
   cases P with
   |some m=>cases h
   |none=>
    refine td q (λe=> ?_) (λd=>dx (d:=d) p r J h D) (λd e=>by rw[e];rfl);have h:(bif wD C t then Ml S.H (gN (S.ev C x) λK=>Ia (S.ev C) L λi=>Ia (S.ev C) M λj=>W5 K i j)else gN (S.ev C x) λK=>Ia (S.ev C) L λi=>Ia (S.ev C) M λj=>Hz C S.H t K i j)=θ b:=h;rw[J]at h;obtain⟨c,I,E⟩:=lI (show gN (S.ev C x) (λK=>Ia (S.ev C) L λi=>Ia (S.ev C) M λj=>Hz C S.H t K i j)=θ b from h);have key:∀i j,Hz C S.H t c i j=θ b->False:=λi j T=>by obtain⟨id,e2,τ,l,_,_,_,_,_,V⟩:=Ds T;rcases V with⟨H,k,_,_,_,rfl⟩|⟨H,k,_,_,_,rfl⟩<;>cases e
    rcases YB E with⟨B,G⟩|⟨o,H,B,G,Y⟩
    ·rcases YB G with⟨X,N⟩|⟨o2,b2,X,N,W⟩
     ·exact key _ _ N
     ·exact key _ _ W
    ·rcases YB Y with⟨X,N⟩|⟨o2,b2,X,N,W⟩
     ·exact key _ _ N
     ·exact key _ _ W
 case extract x i=>exact Xr p (Y5 r p (op:=.extract x i) rfl h D w) q
 case field t x f=>exact Xr p (Y5 r p (op:=.field t x f) rfl h D w) q
 case build t O=>exact Xr p (Y5 r p (op:=.build t O) rfl h D w) q
 case fieldAddr t x f=>exact Xr p (Y5 r p (op:=.fieldAddr t x f) rfl h D w) q
 case pick c K H=>
  obtain⟨x,I,E⟩:=lI (show gN (S.ev C c) (λx=>match x with
   |.b' t=>mR S.H (match(bif t then S.ev C K else S.ev C H)with
    |.u'=>ι
    |v=>θ v)
   |_=>ι)=θ b from h)
  split at E
  ·rename_i t;obtain⟨v,A,rfl⟩:=Z5 E;obtain⟨B,u,G⟩:=AL (ρ:=ρ) A;exact Xr p ⟨gq p r I B (λe=>by have e:v=.u':=e;subst e;cases G),rfl,rfl⟩ q
  ·cases E
 case convert s t x=>
  obtain⟨c,V,h⟩:=lI (show gN (S.ev C x) (BI C S.H s t)=θ b from h);have hx:=(oA p r V).2;unfold BI at h;split at h
  ·rename_i e U;have A:=dG h;have B:=dG A.2;have G:=B.2;split at G
   ·rename_i l hl;cases G;exact Xr p ⟨B8 p hx U A.1 B.1 hl,rfl,rfl⟩ q
   ·cases G
  ·split at h
   ·rename_i l;split at h
    ·rename_i e U;have A:=dG h;have B:=dG A.2;cases B.2;exact td q aA3 (λd=>Yo (d:=d) p hx (Dv A.1) U B.1) (λd e=>by rw[e];rfl)
    ·obtain⟨g,v,A,rfl⟩:=JI h;exact Xr p ⟨BJ hx A D,rfl,rfl⟩ q
   ·obtain⟨g,v,A,rfl⟩:=JI h;exact Xr p ⟨BJ hx A D,rfl,rfl⟩ q
 case alloc e=>
  have Z:=h;have h:(match zC C e with
   |some z=>θ (Ro.mk [] (.c' (.p' (γ S.H) 0)) (S.H++[.bl e z]) [])
   |none=>ι)=θ b:=h
  split at h
  ·cases h;exact td q aA3 (λd=>JX (d:=d) p Z) (λd e=>by rw[e];rfl)
  ·cases h
 case box e x=>
  have Z:=h;have h:(match(S.ev C x).cells with
   |some cs=>θ (Ro.mk [] (.c' (.p' (γ S.H) 0)) (S.H++[.bl e cs]) [])
   |none=>ι)=θ b:=h
  split at h
  ·cases h;exact td q aA3 (λd=>C9 (d:=d) p r Z) (λd e=>by rw[e];rfl)
  ·cases h
 case buildSlice t n O=>
  have R:b.v≠.u':=by
   intro e;have h:ava C (S.ev C) S.H t n O.toList=θ b:=h;unfold ava at h;split at h
   ·split at h
    ·have I:=dG h;have E:=dG I.2;have A:=E.2;split at A
     ·cases A;cases e
     ·cases A
    ·cases h
   ·cases h
  exact td q R (λd=>Hw (d:=d) p r h) (λd e=>by rw[e];rfl)
 case load t x=>
  obtain⟨c,I,E⟩:=lI (show gN (S.ev C x) (λK=>kJ C S.H t K)=θ b from h);exact Xr p (QH p (oA p r I).2 E D) q
 case store t x y=>
  obtain⟨I,E⟩:=JW (ty:=ty) (pos:=pos) (after:=after) p r h D hm;rw[E]at q⊢;cases a with
  |none=>exact I
  |some d=>cases q
 case indexAddr t x Q=>
  obtain⟨K,I,E⟩:=lI (show gN (S.ev C x) (λK=>gN (S.ev C Q) λi=>tj C S.H t K i)=θ b from h);obtain⟨c,A,B⟩:=lI E;obtain⟨G,Y⟩:=oA p r I;exact Xr p (AT p Y G (oA p r A).2 B D) q
 case makeSlice t x y=>
  obtain⟨K,I,E⟩:=lI (show gN (S.ev C x) (λK=>gN (S.ev C y) λi=>Dt C S.H t (isZ x) K i)=θ b from h);obtain⟨c,A,B⟩:=lI E;have R:b.v≠.u':=by
   intro e;unfold Dt at B;split at B
   ·have G:=(dG B).2;split at G
    ·cases G;cases e
    ·cases G
   ·cases B
  exact td q R (λd=>TL (d:=d) hE p r (oA p r A).2 B D) (λd e=>by rw[e];rfl)
 case makeFunc f K H=>
  obtain⟨v,I,rfl⟩:=Z5 h;exact Xr p ⟨lb p r I,rfl,rfl⟩ q
 case nilCheck x=>
  obtain⟨c,I,E⟩:=lI (show gN (S.ev C x) (λK=>mR S.H (EU K))=θ b from h);obtain⟨v,A,rfl⟩:=Z5 E;obtain⟨B,G⟩:=oA p r I;exact Xr p ⟨yd G B A,rfl,rfl⟩ q
 case call c=>
  obtain⟨a0,dT,ts⟩:=c;cases a0<;>first|cases h|skip
  exact MN hE r p h D hm q
end
open Go.Wk
open Go.Ce (Tr)
open Nat renaming one_pos → Jc
def uk(ρ b:Nat->Ad):Ob->Ob->Prop
 |.bl e cs,d=>∃a,d=.bl e a/\cs.map (SC.v ρ)=a.map (SC.v b)/\∀(j:Nat) (c f),cs[j]? =θ c->a[j]? =θ f->c.kn=f.kn
 |o,d=>d=o
structure LR (ρ cS:Nat->Ad) (a b:List SC×List Ob):Prop where
 c:a.1.map (SC.v ρ)=b.1.map (SC.v cS)
 p:(pA a.1).map (λid=>(ρ id).b)=(pA b.1).map (λid=>(cS id).b)
 o:∀(j:Nat) (o:Ob),a.2[j]? =θ o->∃o2,b.2[j]? =θ o2/\uk ρ cS o o2
variable {t:Ty}{s:Nat}
theorem O3{n b d:Nat}{x:t.T}{j:Nat}{c a:SC}(h:(t.lay s n x).1[j]? =θ c)(e:(t.lay b d x).1[j]? =θ a):c.kn=a.kn:=by rw[(Ty.Dz t s n x c (aI h)).1,(Ty.Dz t b d x a (aI e)).1]
theorem QL:∀(t:Ty) (s n i g) x (ρ d),(t.tz=μ->(ρ s).b=(d i).b)->(∀j,j<t.no->ρ (n+j)=d (g+j))->LR ρ d (t.lay s n x) (t.lay i g x):=by
 intro t;induction t with
 |w' t y=>intro s n i g x ρ d r m;exact y s n i g x ρ d r m
 |pr a b A z=>
  intro s n i g x ρ d r m;have u:=A s n i g x.1 ρ d (λh=>r (by simp[Ty.tz,h])) (λj B=>m j (by show j<a.no+b.no;omega));have w:=z s (n+a.no) i (g+a.no) x.2 ρ d (λh=>r (by simp[Ty.tz,h])) (λj B=>by have:=m (a.no+j) (by show a.no+j<a.no+b.no;omega);rw[Ct,Ct];exact this);refine⟨?_, ?_,λj o f=> ?_⟩
  ·show((a.lay s n x.1).1++(b.lay s _ x.2).1).map _=((a.lay i g x.1).1++(b.lay i _ x.2).1).map _;rw[Ry,Ry,u.c,w.c]
  ·show(pA ((a.lay s n x.1).1++(b.lay s _ x.2).1)).map _=(pA ((a.lay i g x.1).1++(b.lay i (g+a.no) x.2).1)).map _;rw[zY,zY,Ry,Ry,u.p,w.p]
  ·have f:((a.lay s n x.1).2++(b.lay s _ x.2).2)[j]? =θ o:=f;show∃C,((a.lay i g x.1).2++(b.lay i (g+a.no) x.2).2)[j]? =θ C/\_;have E:=a.eC s n x.1;have D:=a.eC i g x.1;by_cases B:j<a.no
   ·rw[aJ aA0]at f⊢;exact u.o j o f
   ·rw[aO aA0]at f⊢;rw[E]at f;rw[D];exact w.o _ o f
 |l' e b t y=>
  intro s n i g x ρ d r m;have q:=m 0 Jc;rw[Ru]at q;refine⟨by simp[Ty.lay,SC.v,q],rfl,λj o f=>⟨o,f, ?_⟩⟩;cases j with
  |zero=>have:Ob.rw e b t x=o:=aP f;subst this;rfl
  |succ j=>simp[Ty.lay]at f
 |y'=>
  intro s n i g x ρ d r m;have q:=m 0 Jc;rw[Ru]at q;refine⟨by simp[Ty.lay,SC.v,q],rfl,λj o f=>⟨o,f, ?_⟩⟩;cases j with
  |zero=>have:Ob.br (γ x) x=o:=aP f;subst this;rfl
  |succ j=>simp[Ty.lay]at f
 |r' t y=>
  intro s n i g x ρ d r m;have q:=m 0 Jc;rw[Ru]at q;refine⟨by simp[Ty.lay,SC.v,q],rfl,λj o f=>⟨o,f, ?_⟩⟩;cases j with
  |zero=>have:Ob.ro t x=o:=aP f;subst this;rfl
  |succ j=>simp[Ty.lay]at f
 |p' e t y=>
  intro s n i g x ρ d r m;have q:=m 0 (Nat.succ_pos _);rw[Ru,Ru]at q;have u:=y n (n+1) g (g+1) x ρ d (λ_=>by rw[q]) (λj B=>by have:=m (j+1) (by show j+1<t.no+1;omega);rw[Ra,Ra g];exact this);refine⟨by simp[Ty.lay,SC.v,q],by simp[Ty.lay,pA,q],λj o f=> ?_⟩;cases j with
  |zero=>have:Ob.bl e (t.lay n _ x).1=o:=aP f;subst this;exact⟨_,rfl,_,rfl,u.c,λj c F h w=>O3 h w⟩
  |succ j=>exact u.o j o f
 |z'=>
  intro s n i g x ρ d r m;have q:=m 0 Jc;rw[Ru]at q;refine⟨by simp[Ty.lay,SC.v,q,r rfl],rfl,λj o f=>⟨o,f, ?_⟩⟩;cases j with
  |zero=>have:Ob.dd 0=o:=aP f;subst this;rfl
  |succ j=>simp[Ty.lay]at f
 |f' k t y=>
  intro s n i g x ρ d r m;have u:=y s n i g x ρ d r m;refine⟨?_,rfl,u.o⟩;have:=u.p;have w:∀(ρ:Nat->Ad) (l:δ Nat),(l.map λid=>iS (ρ id).b 0)=(l.map λid=>(ρ id).b).map (λb=>iS b 0):=λρ l=>by rw[lK];rfl
  show [Θ _ #[] ((pA (t.lay s n x).1).map λid=>iS (ρ id).b 0).toArray]=[Θ _ #[] ((pA (t.lay i g x).1).map λid=>iS (d id).b 0).toArray];rw[w,w,this]
 |sm a b _ _=>intro s n i g x ρ d r m;exact⟨rfl,rfl,λj o f=>by simp[Ty.lay]at f⟩
 |_=>intro s n i g x ρ d r m;exact⟨rfl,rfl,λj o f=>by simp[Ty.lay]at f⟩
theorem O2:∀(t:Ty) (s n) x,t.nb=μ->∀(j:Nat) e l,(t.lay s n x).2[j]? ≠θ (.ro e l):=by
 intro t;induction t with
 |w' t d=>intro s n x h;exact d s n x h
 |pr a b i g=>
  intro s n x h j e l c;have h:=gX h;have c:((a.lay s n x.1).2++(b.lay s _ x.2).2)[j]? =θ _:=c;by_cases m:j<γ (a.lay s n x.1).2
  ·rw[aJ m]at c;exact i _ _ _ h.1 _ _ _ c
  ·rw[aO aA0]at c;exact g _ _ _ h.2 _ _ _ c
 |p' e t d=>
  intro s n x h j f l c;cases j with
  |zero=>cases aP c
  |succ j=>exact d _ _ _ h j f l c
 |f' k t d=>intro s n x h;exact d s n x h
 |r' t d=>intro s n x h;cases h
 |l' e b t d=>
  intro s n x h j f l c;cases j with
  |zero=>cases aP c
  |succ j=>simp[Ty.lay]at c
 |y'=>
  intro s n x h j f l c;cases j with
  |zero=>cases aP c
  |succ j=>simp[Ty.lay]at c
 |z'=>
  intro s n x h j f l c;cases j with
  |zero=>cases aP c
  |succ j=>simp[Ty.lay]at c
 |_=>intro s n x h j e l c;simp[Ty.lay]at c
theorem I5{H:δ Ob}(A:NG H):∀(l:δ Ty) (vs:δ SV) (a:(gE l).T) (ss:δ Src) (d:δ Ob),PN H l vs=θ (a,ss)->
  ∃obs,(jK d l a).2=d++obs/\γ obs=γ ss/\(∀v∈(jK d l a).1,v.ok (γ d+γ obs))/\(∀(j e:Nat) (cs:δ SC),obs[j]? =θ (.bl e cs)->∀c∈cs,c.ok (γ d+γ obs))/\
   ∀(ρ f:Nat->Ad),(∀(j:Nat) (s:Src),ss[j]? =θ s->f (γ d+j)=s.ad ρ)->
    (∃r:δ ξ,vs.map (SV.v ρ)=r.map θ/\(jK d l a).1.map (SV.v f)=r.map θ)/\∀(j:Nat) (s:Src) (o:Ob),ss[j]? =θ s->obs[j]? =θ o->XO μ ρ H f s o
 |[],vs,a,ss,d,h=>by
  cases vs with
  |cons v vs=>cases h
  |nil=>cases h;exact⟨[],by simp[jK],rfl,λv k=>by simp[jK]at k,λj e cs g=>by simp at g,λρ f _=>⟨⟨[],rfl,rfl⟩,λj s o g=>by simp at g⟩⟩
 |[x],vs,a,ss,d,h=>by
  simp only[PN]at h;split at h
  ·rename_i v;have k:=Zf A h;refine⟨(x.lay 0 (γ d) a).2,rfl,by rw[k.no,Ty.eC],λv q=> ?_,λj e cs g=>mu x 0 (γ d) a j e cs g,λρ f m=> ?_⟩
   ·rw[aG.1 (show v∈[x.sv (x.lay 0 (γ d) a).1]from q)];exact Ty.Gp (bjj x 0 (γ d) a k.tz)
   ·obtain⟨⟨u,F,C,_⟩,B⟩:=k.to ρ f (γ d) m;exact⟨⟨[u],by simp[F],by simp[jK,C]⟩,B⟩
  ·cases h
 |x::y::l,vs,a,ss,d,h=>by
  simp only[PN]at h;split at h
  ·rename_i v vs;split at h
   ·rename_i i G hx;split at h
    ·rename_i b J K;cases h;have k:=Zf A hx;have z:γ (x.lay 0 (γ d) i).2=γ G:=by rw[k.no,Ty.eC]
     obtain⟨obs,F,C,B,Q,P⟩:=I5 A (y::l) vs b J (d++(x.lay 0 (γ d) i).2) K;have p:γ (d++(x.lay 0 (γ d) i).2)=γ d+γ (x.lay 0 (γ d) i).2:=cG;refine⟨(x.lay 0 (γ d) i).2++obs,by rw[<-gZ];exact F,by simp[z,C],λv q=> ?_,λj e cs g c I=> ?_,λρ f m=> ?_⟩
     ·rw[cG,<-Ct,<-p];rcases aQ.1 (show v∈x.sv (x.lay 0 (γ d) i).1::(jK (d++(x.lay 0 (γ d) i).2) (y::l) b).1 from q)with rfl|q
      ·exact SV.cP (Ty.Gp (bjj x 0 (γ d) i k.tz)) aA0
      ·exact B v q
     ·rw[cG,<-Ct,<-p];by_cases n:j<γ (x.lay 0 (γ d) i).2
      ·rw[aJ n]at g;exact SC.cP (mu x 0 (γ d) i j e cs g c I) aA0
      ·rw[aO aA0]at g;exact Q _ e cs g c I
     ·obtain⟨⟨u,O,N,_⟩,M⟩:=k.to ρ f (γ d) (λj s g=>m j s (by rw[aJ (aF.1 g).1];exact g));obtain⟨⟨r,L,E⟩,D⟩:=P ρ f (λj s g=>by rw[p,z,Ct];exact m _ s (by rw[aO aA0,<-g];congr 1;omega));refine⟨⟨u::r,by simp[O,L], ?_⟩,λj s o t w=> ?_⟩
      ·show(x.sv (x.lay 0 (γ d) i).1::(jK (d++(x.lay 0 (γ d) i).2) (y::l) b).1).map _=_;rw[uX,N,E];rfl
      ·by_cases n:j<γ G
       ·rw[aJ n]at t;rw[aJ aA0]at w;exact M j s o t w
       ·rw[aO aA0]at t;rw[aO aA0,z]at w;exact D _ s o t w
    ·cases h
   ·cases h
  ·cases h
def mM(c:yW)(x:(gE c.a).T):δ Ob:=(jK [] c.a x).2
def Im(outs:δ Nat):δ Ob->Nat->δ Nat
 |[],_=>[]
 |o::a,j=>(bif wC (θ o)then(bif lG j outs then []else [j])else [])++Im outs a (j+1)
structure Gc where
 gs:List (Nat×Ob)
 p:ο->List Nat->Prop
 st:∀{w0 w:ο} {S0 S1:List Nat} {L:List cB},Hp w0 S0 L w->p w0 S0->(∀b∈S1,w0.heap.size<=b\/b∈S0)->p w S1
 rd:∀{w:ο} {S:List Nat} {g:Nat} {t:Ty} {l:List t.T},p w S->(g,.ro t l)∈gs->Rd w (θ ⟨g,0,ι⟩) (l.flatMap t.enc)/\g∉S
def Gw(G:Gc)(w:ο)(S:δ Nat):Prop:=G.p w S
variable {a:Type}
def Gv.ok:Gv a->a->Prop
 |.one o,y=>o=θ y
 |.gs l z,y=>Iz l/\z=y
theorem Pm{ρ:Type}{x:ε ρ}{r:ρ}:∀{l:δ PD},gdL l x=θ r->Iz l/\x=θ r
 |[],h=>⟨trivial,h⟩
 |⟨p,e⟩::l,h=>by obtain⟨d,c⟩:=T2 h;obtain⟨b,a⟩:=Pm c;exact⟨⟨d,b⟩,a⟩
theorem Gv.ny{ρ:Type}{g:Gv a}{k:a->ε ρ}{r:ρ}(h:g.bd k=θ r):∃y,g.ok y/\k y=θ r:=by
 cases g with
 |one o=>obtain⟨y,b,c⟩:=Bw (h);exact⟨y,b,c⟩
 |gs l z=>obtain⟨b,c⟩:=Pm (h);exact⟨z,⟨b,rfl⟩,c⟩
def nA(c:yW)(x:(gE c.a).T)(y:(hC c.r).T):δ SA×δ Ob:=fW (λj=>j) ([],kill (mM c x) (Im (Rk.ids c.r) (mM c x) 0)) c.r y
def Xv(P:Β)(i:Gc)(k:Nat)(c:yW):Prop:=∀w S d L e x y,Gw i w S->Hp w S L w->Mt w S d (mM c x) L->
 (jK [] c.a x).1.map (SV.v d)=e.map θ->(c.f x).ok y->CR P k e w λv h=>∃b g,Up (γ (mM c x)) d b/\Hp w S g h/\Mt w S b (nA c x y).2 g/\(mF (nA c x y).1).v b=θ v
theorem Bq{outs:δ Nat}:∀{obs:δ Ob} {i j:Nat},j∈Im outs obs i↔∃o,i<=j/\obs[j-i]? =θ o/\wC (θ o)=μ/\j∉outs
 |[],i,j=>by simp[Im]
 |o::obs,i,j=>by
  have l:=Bq (outs:=outs) (obs:=obs) (i:=i+1) (j:=j);simp only[Im,aV,l];constructor
  ·rintro(h|⟨c,n,b,d⟩)
   ·cases f:wC _ with
    |false=>rw[f]at h;cases h
    |true=>
     rw[f]at h;cases a:lG i outs with
     |true=>rw[a]at h;cases h
     |false=>rw[a]at h;simp at h;subst h;exact⟨o,dO _,aA3,f,λm=>by rw[Xq.2 m]at a;cases a⟩
   ·refine⟨c,aA0, ?_,d⟩;rw[show j-i=(j-(i+1))+1 by omega];exact b
  ·rintro⟨c,n,b,d,k⟩;by_cases g:i=j
   ·subst g;have e:o=c:=by simpa using b
    subst e;have a:lG i outs=ν:=by
     cases a:lG i outs with
     |false=>rfl
     |true=>exact absurd (Xq.1 a) k
    rw[d,a];simp
   ·right;refine⟨c,aA0, ?_,d,k⟩;rw[show j-i=(j-(i+1))+1 by omega]at b;exact b
theorem Ff{outs:δ Nat}:∀{obs:δ Ob} {ss:δ Src} {i id:Nat},id∈kO outs obs i ss↔∃j o s,i<=j/\obs[j-i]? =θ o/\ss[j-i]? =θ s/\wC (θ o)=μ/\j∉outs/\id∈s.own
 |[],ss,i,id=>by simp[kO]
 |o::obs,[],i,id=>by simp[kO]
 |o::obs,s::ss,i,id=>by
  have p:=Ff (outs:=outs) (obs:=obs) (ss:=ss) (i:=i+1) (id:=id);simp only[kO,aV,p];constructor
  ·rintro(h|⟨j,f,d,r,c,b,g⟩)
   ·cases k:wC _ with
    |false=>rw[k]at h;cases h
    |true=>
     rw[k]at h;cases a:lG i outs with
     |true=>rw[a]at h;cases h
     |false=>rw[a]at h;exact⟨i,o,s,dO _,aA3,aA3,k,(λq=>by rw[Xq.2 q]at a;cases a),h⟩
   ·refine⟨j,f,d,aA0, ?_, ?_,g⟩
    ·rw[show j-i=(j-(i+1))+1 by omega];exact c
    ·rw[show j-i=(j-(i+1))+1 by omega];exact b
  ·rintro⟨j,f,d,r,c,b,g,n,m⟩;by_cases l:i=j
   ·subst l;left;have e:o=f:=aC8;have t:s=d:=aC2
    subst e;subst t;have a:lG i outs=ν:=by
     cases a:lG i outs with
     |false=>rfl
     |true=>exact absurd (Xq.1 a) n
    rw[g,a];exact m
   ·right;refine⟨j,f,d,aA0, ?_, ?_,g,n,m⟩
    ·rw[show j-i=(j-(i+1))+1 by omega]at c;exact c
    ·rw[show j-i=(j-(i+1))+1 by omega]at b;exact b
open Nat renaming beq → cU, one_pos → Jc
structure PR (n nc:Nat) (H:List Ob) (ρ cS ρ3:Nat->Ad) (ss:List Src) (rg:List Rg) (Hc Hk:List Ob) (lc lk:List SA) (k:Nat):Prop where
 ec:γ Hc=nc+k
 ek:γ Hk=n+k
 nw:∀(i:Nat) (o:Ob),i<k->Hc[nc+i]? =θ o->(∃o3,Hk[n+i]? =θ o3/\uk cS ρ3 o o3)/\∀(t:Ty) (l:List t.T),o≠.ro t l
 ow:∀(j id:Nat) (o:Ob),ss[j]? =θ (.o' id μ)->Hc[j]? =θ o->(∃o3,Hk[id]? =θ o3/\uk cS ρ3 o o3)/\∀(t:Ty) (l:List t.T),o≠.ro t l
 ok:∀(j id m:Nat),ss[j]? =θ (.k' id m μ)->Hk[id]? =θ (.dd 0)
 ot:∀id,id<n->id∉gU ss->Hk[id]? =H[id]?
 ho:∀(id e:Nat) (cs:List SC),Hk[id]? =θ (.bl e cs)->∀c∈cs,c.ok (n+k)
 kp:∀(id:Nat) (o:Ob),H[id]? =θ o->kX rg id ρ ρ3 Hk[id]? o
 vl:lc.map (SA.v cS)=lk.map (SA.v ρ3)
 vo:∀v∈lk,v.ok (n+k)
theorem uk.len{ρ cS:Nat->Ad}{o a:Ob}(h:uk ρ cS o a):a.len=o.len:=by
 cases o with
 |bl e cs=>obtain⟨b,rfl,_⟩:=h;rfl
 |_=>have h:=h;rw[h]
theorem wh{ρ cS:Nat->Ad}{a b:δ SC}(h:a.map (SC.v ρ)=b.map (SC.v cS)):(t.sa a).v ρ=(t.sa b).v cS:=by
 unfold Ty.sa;cases t.agg with
 |true=>simp only[aM,SA.v,h]
 |false=>
  simp
  match a,b,h with
  |[],[],_=>rfl
  |[t],[y],h=>simpa [SA.v] using h
  |t::y::a,u::v::b,h=>simp only[SA.v,h]
  |[],_::_,h=>simp at h
  |_::_,[],h=>simp at h
  |[_],_::_::_,h=>simp at h
  |_::_::_,[_],h=>simp at h
theorem TA:∀{x:Ty} {v:x.T} {o:Ob},dc s x v=θ o->(∀t l,o≠.ro t l)/\∀e cs,o≠.bl e cs:=by intro x;cases x<;>intro v o h<;>first|(cases h;exact⟨(λt l e=>by cases e),(λe cs a=>by cases a)⟩)|cases h
theorem qx{b:Src}(h:b.ow=θ s):b=.o' s μ\/∃m,b=.k' s m μ:=by
 cases b with
 |o' i w=>cases w<;>simp[Src.ow]at h;subst h;exact .inl rfl
 |n'=>simp[Src.ow]at h
 |k' i m w=>cases w<;>simp[Src.ow]at h;subst h;exact .inr ⟨m,rfl⟩
 |z' t=>simp[Src.ow]at h
section
variable {n nc:Nat}{H:δ Ob}{ρ cS ρ3:Nat->Ad}{ss:δ Src}{rg:δ Rg}{Hc Hk:δ Ob}{lc lk:δ SA}{k:Nat}
theorem PR.app(h:PR n nc H ρ cS ρ3 ss rg Hc Hk lc lk k)(E:γ ss<=nc)(hid:∀(j:Nat) s i,ss[j]? =θ s->s.ow=θ i->i<n)(F:γ H=n){a b:δ SC×δ Ob}(u:LR cS ρ3 a b)(C:γ a.2=γ b.2)
  (q:∀(j:Nat) t l,a.2[j]? ≠θ (.ro t l)) (p:∀(j e:Nat) cs,b.2[j]? =θ (.bl e cs)->∀c∈cs,c.ok (n+(k+γ b.2))):
  PR n nc H ρ cS ρ3 ss rg (Hc++a.2) (Hk++b.2) lc lk (k+γ b.2):=by
 have z:=h.ec;have y:=h.ek;refine⟨by simp[z,C,Ct],by simp[y,Ct],λi o g d=> ?_,λj id o f d=> ?_,λj id m f=> ?_,λid g B=> ?_,λid e cs d c w=> ?_,λid o d=> ?_,h.vl,λv A=> ?_⟩
 ·by_cases r:i<k
  ·rw[aJ aA0]at d⊢;exact h.nw i o r d
  ·rw[aO aA0,z,show nc+i-(nc+k)=i-k by omega]at d;rw[aO aA0,y,show n+i-(n+k)=i-k by omega];exact⟨u.o _ o d,λt l e=>q _ t l (by rw[d,e])⟩
 ·have D:=(aF.1 f).1;have:=hid j _ id f rfl;rw[aJ aA0]at d⊢;exact h.ow j id o f d
 ·have:=hid j _ id f rfl;rw[aJ aA0];exact h.ok j id m f
 ·rw[aJ aA0];exact h.ot id g B
 ·by_cases g:id<γ Hk
  ·rw[aJ g]at d;exact SC.cP (h.ho id e cs d c w) aA0
  ·rw[aO aA0]at d;exact p _ e cs d c w
 ·have:=(aF.1 d).1;rw[aJ aA0];exact h.kp id o d
 ·have:=h.vo v A;cases v with
  |c' x=>exact SC.cP this aA0
  |a' l=>exact λx hx=>SC.cP (this x hx) aA0
theorem PR.dQ(h:PR n nc H ρ cS ρ3 ss rg Hc Hk lc lk k)(B:(gU ss).Nodup)(hid:∀(j:Nat) s i,ss[j]? =θ s->s.ow=θ i->i<n){j id:Nat}{o o3:Ob}(r:ss[j]? =θ (.o' id μ))(E:uk cS ρ3 o o3)(y:∀t l,o≠.ro t l)(z:∀A,H[id]? =θ A->kX rg id ρ ρ3 (θ o3) A)(I:γ ss<=nc)
  (x:∀e cs,o3=.bl e cs->∀c∈cs,c.ok (n+k)):PR n nc H ρ cS ρ3 ss rg (jH Hc j o) (jH Hk id o3) lc lk k:=by
 have G:=h.ec;have F:=h.ek;have J:=hid j _ id r rfl;have D:=(aF.1 r).1;refine⟨by rw[MR,G],by rw[MR,F],λi p u d=> ?_,λw a p b d=> ?_,λw a m b=> ?_,λa u v=> ?_,λa e cs d c C=> ?_,λa p d=> ?_,h.vl,h.vo⟩
 ·rw[yE,aA aA0]at d;rw[yE,aA aA0];exact h.nw i p u d
 ·by_cases q:w=j
  ·subst q;rw[r]at b;cases b;rw[yE,aB ⟨rfl,aA0⟩]at d;cases d;rw[yE,aB ⟨rfl,aA0⟩];exact⟨⟨o3,rfl,E⟩,y⟩
  ·have f:a≠id:=λe=>q (Mv B b aF6 r rfl);rw[yE,aA (λg=>q g.1)]at d;rw[yE,aA (λg=>f g.1)];exact h.ow w a p b d
 ·have f:a≠id:=λe=>by have:=Mv B b aF6 r rfl;subst this;rw[r]at b;cases b
  rw[yE,aA (λg=>f g.1)];exact h.ok w a m b
 ·have f:a≠id:=λe=>v (by rw[e];exact sC r rfl);rw[yE,aA (λg=>f g.1)];exact h.ot a u v
 ·rw[yE]at d;split at d
  ·cases d;exact x e cs rfl c C
  ·exact h.ho a e cs d c C
 ·rw[yE];split
  ·rename_i g;rw[g.1]at d⊢;exact z p d
  ·exact h.kp a p d
theorem PR.steps(hn:(gU ss).Nodup)(R:γ ss<=nc)(hid:∀(j:Nat) s i,ss[j]? =θ s->s.ow=θ i->i<n)(hH:γ H=n)(b6:γ ss=nc)
  (O:∀i,ρ3 (n+i)=cS (nc+i)) (a3:∀j id,ss[j]? =θ (.o' id μ)->ρ3 id=cS j):∀r y (Hc Hk) (lc lk) k,PR n nc H ρ cS ρ3 ss rg Hc Hk lc lk k->Lu H ss r=μ->(∀id∈kI ss (Rk.ids r),∀q,q=tE H id->∀j,j<q.2.2->eP id j rg=μ)->
  ∃F,PR n nc H ρ cS ρ3 ss rg (fW (λj=>j) (lc,Hc) r y).2 (fW (Jv ss) (lk,Hk) r y).2 (fW (λj=>j) (lc,Hc) r y).1 (fW (Jv ss) (lk,Hk) r y).1 F:=by
 have one:∀q v (Hc Hk) (lc lk) k,PR n nc H ρ cS ρ3 ss rg Hc Hk lc lk k->Lu H ss [q]=μ->(∀id∈kI ss (Rk.ids [q]),∀q,q=tE H id->∀j,j<q.2.2->eP id j rg=μ)->
   ∃F,PR n nc H ρ cS ρ3 ss rg (q.put (λj=>j) (lc,Hc) v).2 (q.put (Jv ss) (lk,Hk) v).2 (q.put (λj=>j) (lc,Hc) v).1 (q.put (Jv ss) (lk,Hk) v).1 F:=by
  intro q v Hc Hk lc lk k h a b;have h1:=h.ec;have z:=h.ek;simp only[Lu]at a;have a:=(gX a).1;cases q with
  |r' x=>
   have a:(bif x.tz then ν else x.nb)=μ:=a;cases A:x.tz with
   |true=>rw[A]at a;cases a
   |false=>
    rw[A]at a;have a:=a;have m:=QL x 0 (γ Hc) 0 (γ Hk) v cS ρ3 (λe=>by rw[A]at e;cases e) (λj _=>by rw[h1,z,Ct,Ct];exact(O _).symm);have g:=h.app R hid hH m ((Ty.eC x 0 (γ Hc) v).trans (Ty.eC x 0 (γ Hk) v).symm) (O2 x 0 (γ Hc) v a) (λj e cs L=>by have:=mu x 0 (γ Hk) v j e cs L;rw[z,Ct]at this;rw[z];exact this);refine⟨_,g.ec,g.ek,g.nw,g.ow,g.ok,g.ot,g.ho,g.kp, ?_,λu G=> ?_⟩
    ·show(lc++[x.sa (x.lay 0 (γ Hc) v).1]).map _=(lk++[x.sa (x.lay 0 (γ Hk) v).1]).map _;rw[Ry,Ry,h.vl,cf,cf,wh m.c]
    ·rcases aV.1 (G)with G|G
     ·exact g.vo u G
     ·rw[aG.1 G];have:=Ty.sa_ok (x:=x) (bjj x 0 (γ Hk) v A);rw[<-Ct,<-z];exact this
  |o' j e x=>
   have a:(bif x.nb then(match fC ss j with
    |some (.o' id w)=>bif w then(match fC H id with
     |some (.bl S cs)=>bif cU S e then cU (γ cs) x.cn else ν
     |_=>ν)else ν
    |_=>ν)else ν)=μ:=a
   have a:=gX a;have W:=a.1;have a:=a.2;split at a
   ·rename_i id w f;have a:=gX a;have V:=a.1;subst V;have a:=a.2;split at a
    ·rename_i S c0 hb;have a:=gX a;rw[gF]at f hb;have a1:=gR a.1;have a4:=gR a.2;subst a1;have N:=hid j _ id f rfl;have X:=(aF.1 f).1;have p:Jv ss j=id:=by unfold Jv;rw[gF,f]
     have m:=QL x j (γ Hc) id (γ Hk) v cS ρ3 (λ_=>by rw[a3 j id f]) (λj _=>by rw[h1,z,Ct,Ct];exact(O _).symm);have K:∀c∈(x.lay id (γ Hk) v).1,c.ok (n+(k+γ (x.lay id (γ Hk) v).2)):=λc Q i a0=>by
      rcases(Ty.Dz x id (γ Hk) v c Q).2 i a0 with h3|h3
      ·omega
      ·omega
     have g:=h.app R hid hH m ((Ty.eC x j (γ Hc) v).trans (Ty.eC x id (γ Hk) v).symm) (O2 x j (γ Hc) v W) (λj e cs L=>by have:=mu x id (γ Hk) v j e cs L;rw[z,Ct]at this;rw[z];exact this);have J:=g.dQ (o:=.bl S (x.lay j (γ Hc) v).1) (o3:=.bl S (x.lay id (γ Hk) v).1) hn hid f ⟨_,rfl,m.c,λj c c2 h z=>O3 h z⟩ (λt l e=>by cases e) (λU E=> ?_) R (λe cs he c Q=>by cases he;exact K c Q)
     ·refine⟨k+γ (x.lay id (γ Hk) v).2, ?_⟩;have e1:∀{Z B:δ Ob} {i:Nat} {o:Ob},i<γ Z->jH (Z++B) i o=jH Z i o++B:=λhl=>by rw[pC,pC,ag _ _ hl]
      rw[e1 aA0,e1 aA0]at J;show PR n nc H ρ cS ρ3 ss rg _ (jH Hk _ _++(x.lay _ (γ Hk) v).2) lc lk _;rw[p];exact J
     ·rw[hb]at E;cases E;refine .inr ⟨_,rfl,(Ty.AK x id (γ Hk) v).trans a4.symm,λjj c Q=>.inl ?_⟩;have Y:=(aF.1 Q).1;refine b id ?_ _ rfl jj ?_
      ·show id∈[Jv ss j];rw[p];exact aG.2 rfl
      ·unfold tE;rw[gF,hb];exact Y
    ·cases a
   ·cases a
  |w' j x=>
   have a:(match fC ss j with
    |some (.o' id w)=>bif w then wC _ else ν
    |_=>ν)=μ:=a
   split at a
   ·rename_i id w f;have a:=gX a;have V:=a.1;subst V;have d:=a.2;rw[gF]at f d;have N:=hid j _ id f rfl;have X:=(aF.1 f).1;have p:Jv ss j=id:=by unfold Jv;rw[gF,f]
    have P:Hc[j]? =θ _:=aN aA0;obtain⟨⟨o3,h3,h4⟩,_⟩:=h.ow j id _ f P;have M:fS Hk id=fS Hc j:=by rw[nH h3,nH P,h4.len]
    refine⟨k, ?_⟩;show PR n nc H ρ cS ρ3 ss rg (qL Hc j x v) (qL Hk (Jv ss j) x v) lc lk k;rw[p];unfold qL;rw[M];split
    ·rename_i o L;have D:(∀(t:Ty) (l:δ t.T),o≠.ro t l)/\uk cS ρ3 o o/\∀(e:Nat) (cs:δ SC),o≠.bl e cs:=by
      obtain⟨h5,h6⟩:=TA L;refine⟨h5, ?_,h6⟩;cases o with
      |bl e cs=>exact absurd rfl (h6 e cs)
      |_=>rfl
     refine h.dQ hn hid f D.2.1 D.1 (λU E=> ?_) R (λe cs he=>absurd he (D.2.2 e cs));have a5:eP id 0 rg=μ:=by
      refine b id ?_ _ rfl 0 ?_
      ·show id∈[Jv ss j];rw[p];exact aG.2 rfl
      ·unfold tE;rw[gF,E];rw[E]at d;cases U<;>first|exact Jc|cases d
     rw[E]at d;cases U<;>first|exact .inl a5|cases d
    ·exact h
   ·cases a
 intro r;induction r with
 |nil=>intro y Hc Hk lc lk k h _ _;exact⟨k,h⟩
 |cons q r ih=>
  intro y Hc Hk lc lk k h a b;cases r with
  |nil=>exact one q y Hc Hk lc lk k h a b
  |cons q2 r=>
   have I:=gX (a);have C:∀id,id∈kI ss (Rk.ids [q])\/id∈kI ss (Rk.ids (q2::r))->id∈kI ss (Rk.ids (q::q2::r)):=by
    intro id hid;cases q with
    |r' x=>
     rcases hid with hid|hid
     ·cases hid
     ·exact hid
    |o' i e x=>
     rcases hid with hid|hid
     ·exact aQ.2 (.inl (aG.1 hid))
     ·exact eU _ hid
    |w' i x=>
     rcases hid with hid|hid
     ·exact aQ.2 (.inl (aG.1 hid))
     ·exact eU _ hid
   obtain⟨F,z⟩:=one q y.1 Hc Hk lc lk k h (by have:=I.1;simp only[Lu];rw[this];rfl) (λid N=>b id (C id (.inl N)));exact ih y.2 _ _ _ _ F z I.2 (λid N=>b id (C id (.inr N)))
end
open Go.Wk
open Go.Ce (Tr)
open Go.Value renaming ownBlock → Cs
open List renaming length → aL
theorem map_some{b a:Type}{f:b->a}{l:δ b}{j:Nat}{r:a}(h:(l.map f)[j]? =θ r):∃x,l[j]? =θ x/\f x=r:=by
 rw[aY]at h;cases c:l[j]? with
 |none=>rw[c]at h;cases h
 |some x=>rw[c]at h;exact⟨x,rfl,aP h⟩
variable {w b:ο}{S:δ Nat}{L:δ cB}{j c:Nat}{r:cB}
theorem L7(p:Hp w S L b){i:Nat}{g:cB}(h:L[j]? =θ r)(q:L[c]? =θ g)(l:r.own=θ i)(a:g.own=θ i):j=c:=by
 obtain⟨d,n⟩:=aF.1 h;obtain⟨t,m⟩:=aF.1 q;have k:=eE.1 p.sep;rcases Nat.lt_trichotomy j c with e|o|f
 ·exact absurd (by rw[m];exact a) (k j c d t e i (by rw[n];exact l))
 ·exact o
 ·exact absurd (by rw[n];exact l) (k c j t d f i (by rw[m];exact a))
variable {a n:Nat->Ad}{H:δ Ob}{s:Src}{o:Ob}
theorem qu(h:XO μ a H n s o)(b:∀t l,o≠.ro t l):XO ν a H n s o:=by
 cases o with
 |ro t l=>exact absurd rfl (b t l)
 |_=>exact h
theorem DA(c:NF a H)(d:NG H)(h:XO μ a H n s o):o.len=(s.ad a).ln:=by
 cases o with
 |ro t l=>
  rcases h with⟨id,rfl,f⟩|⟨rfl,rfl⟩|⟨_,id,m,e,cs,rfl,f,b⟩
  ·obtain⟨ob,b,g⟩:=Xn (λm x hx=>d id m x hx) (f);have:=c id ob b;show γ l=(a id).ln;rw[<-g];exact this
  ·rfl
  ·exact(az b).1
 |_=>exact ON c d (qu h (λt l e=>by cases e))
theorem wo{S1:δ Nat}(h:RO w S a j o r)(ρ:∀t l,o≠.ro t l):RO b S1 a j o r:=by
 cases o with
 |ro t l=>exact absurd rfl (ρ t l)
 |_=>exact h
theorem eb{S1:δ Nat}(a0:Hp w S L b)(D:Mt w S a H L)(W:∀k∈S1,w.heap.size<=k\/k∈S)(E:∀id∈s.bor,∀r k,L[id]? =θ r->r.own=θ k->k∉S1)(h:XO μ a H n s o)(R:n j=s.ad a):
  ∃r,RO b S1 n j o r/\r.holds b/\∀k,r.own=θ k->∃i Q,s.ow=θ i/\L[i]? =θ Q/\Q.own=θ k:=by
 cases o with
 |ro t l=>
  refine⟨dM,⟨rfl, ?_⟩,trivial,λk u=>by cases u⟩;rw[R];rcases h with⟨id,rfl,ρ⟩|⟨rfl,rfl⟩|⟨_,id,m,e,cs,rfl,ρ,J⟩
  ·have ρ:=ρ;have E:=E id (by simp[Src.bor]);show Xu b S1 (a id) t l;unfold Ho at ρ;split at ρ
   ·rename_i e k t2 x u;split at ρ
    ·rename_i q;obtain rfl:=Ty.jN q;cases ρ;obtain⟨_,r,c,N⟩:=D.2 id _ u;subst N;refine⟨a0.hK id c,λd p f=> ?_,a0.Gr id c⟩;have M:x≠[]:=λe=>by rw[e]at d;exact d rfl
     obtain⟨z,_⟩:=a0.res _ (aI c);rcases z with⟨_,y,_⟩|⟨g,P,Z,y,_⟩
     ·exact absurd y M
     ·rw[f]at y;cases y;exact E _ _ c Z
    ·cases ρ
   ·rename_i t2 x u;split at ρ
    ·rename_i q;obtain rfl:=Ty.jN q;cases ρ;obtain⟨_,r,c,_,B,d,C⟩:=D.2 id _ u;refine⟨B.XX a0 d,λG p f O=> ?_,C⟩;have K:=d G p f;rcases W _ O with A|A
     ·obtain⟨v,U⟩:∃v,(x.flatMap t2.enc)[0]? =θ v:=by
       cases q:x.flatMap t2.enc with
       |nil=>exact absurd q G
       |cons v T=>exact⟨v,rfl⟩
      obtain⟨X,I,F⟩:=B 0 v U;rw[f]at I;cases I;have:=Bv F;rw[bjx]at this;omega
     ·exact K A
    ·cases ρ
   ·rename_i m x u;unfold strOf at ρ;split at ρ
    ·rename_i q;obtain rfl:=Ty.jN q;cases ρ;obtain⟨_,r,c,N⟩:=D.2 id _ u;subst N;obtain⟨⟨F,g,cap,P,e,Y,z,Z,y,_⟩,_⟩:=a0.res _ (aI c);simp only[Value.slice.injEq]at z;refine⟨Rd.dD (a0.dP id c),λG p f=> ?_, ?_⟩
     ·rw[z.1]at f;cases f;exact E _ g c (by simp[gW,Cs,z.1])
     ·show γ x<=(a id).cap;rw[F,z.2.2];exact y
    ·cases ρ
   ·cases ρ
  ·exact⟨Rd.nil _ _,λh=>absurd rfl h,cW _⟩
  ·obtain⟨_,r,c,T,rfl,V⟩:=D.2 id _ ρ;obtain⟨A,_,I⟩:=az J;have F:=V.all (rW J);refine⟨?_,λG p f=> ?_,by rw[A];exact dO _⟩
   ·rw[<-I a,<-F];exact a0.gS id c
   ·cases f;exact E id (by simp[Src.bor]) _ _ c rfl
 |_=>obtain⟨r,ρ,J,A⟩:=D5 a0 D (qu h (λt l e=>by cases e)) R;exact⟨r,wo ρ (λt l e=>by cases e),J,A⟩
theorem zK(h:XO μ a H n s o)(d:s.ow=θ j):
  (s=.o' j μ/\((∃e cs g,o=.bl e cs/\H[j]? =θ (.bl e g)/\g.map (SC.v a)=cs.map (SC.v n)/\(∀c∈g,c.kn=μ)/\∀c∈cs,c.kn=μ)\/(∃e b t l,o=.rw e b t l/\H[j]? =θ (.rw e b t l))\/∃ρ l m,o=.br ρ l/\ρ=aL l/\H[j]? =θ (.br m l)))\/
  ∃m e b t l cs,s=.k' j m μ/\o=.rw e b t l/\H[j]? =θ (.bl e cs):=by
 cases o with
 |bl e cs=>obtain⟨i,g,rfl,f⟩:=h;cases d;exact .inl ⟨rfl,.inl ⟨e,cs,g,rfl,f⟩⟩
 |rw e b t l=>
  rcases h with⟨i,rfl,f⟩|⟨rfl,_⟩|⟨i,m,cs,rfl,f,_⟩
  ·cases d;exact .inl ⟨rfl,.inr (.inl ⟨e,b,t,l,rfl,f⟩)⟩
  ·cases d
  ·cases d;exact .inr ⟨m,e,b,t,l,cs,rfl,rfl,f⟩
 |ro t l=>rcases h with⟨i,rfl,_⟩|⟨rfl,_⟩|⟨_,i,m,e,cs,rfl,_⟩<;>cases d
 |br ρ l=>obtain⟨f,i,m,rfl,p⟩:=h;cases d;exact .inl ⟨rfl,.inr (.inr ⟨ρ,l,m,rfl,f,p⟩)⟩
 |dd ρ=>rcases h with⟨_,⟨t,rfl⟩|⟨k,rfl,_⟩⟩<;>cases d
theorem U8{S0:δ Nat}{o3:Ob}(h:uk a n o o3)(f:n c=a j)(u:∀t l,o≠.ro t l)(E:RO w S a j o r):RO b S0 n c o3 r:=by
 cases o with
 |bl e cs=>
  obtain⟨m,rfl,q,A⟩:=h;obtain⟨s,rfl,z,y⟩:=E;have x:aL cs=aL m:=by simpa using bF aL q
  refine⟨s,by rw[f],by rw[z,x],λi B g d=> ?_⟩;have v:=(aF.1 g).1;have k:cs[i]? =θ _:=aN aA0;rw[y i _ k (by rw[A i _ B k g];exact d)];have p:=bF (λl=>l[i]?) q;simp only[aY,k,g]at p;exact p
 |rw e C t l=>subst h;show r=_;rw[f];exact E
 |ro t l=>exact absurd rfl (u t l)
 |br D l=>subst h;show r=_;rw[f];exact E
 |dd D=>subst h;trivial
theorem Y0{ss:δ Src}(h:ss[j]? =θ s)(b:c∈s.bor):c∈mq ss:=by
 induction ss generalizing j with
 |nil=>simp at h
 |cons x ss a=>
  cases j with
  |zero=>have e:x=s:=aA8;subst e;exact Ki _ b
  |succ j=>exact YM _ (a aA8)
def rOf(L:δ cB):ε Nat->cB
 |some id=>(L[id]?).getD dM
 |none=>dM
variable {l:δ SA}
theorem I0{b:δ SA}{v:ξ}(h:l.map (SA.v a)=b.map (SA.v n))(c:(mF l).v a=θ v):(mF b).v n=θ v:=by
 match l,b,h with
 |[],[],_=>exact c
 |[x],[y],h=>have h:x.v a=y.v n:=aA8;show y.sv.v n=θ v;rw[SA.dw,<-h,<-SA.dw];exact c
 |x::y::l,u::z::b,h=>show θ _=θ v;rw[<-h];exact c
 |[],_::_,h=>simp at h
 |_::_,[],h=>simp at h
 |[_],_::_::_,h=>simp at h
 |_::_::_,[_],h=>simp at h
theorem fm(h:∀v∈l,v.ok j):(mF l).ok j:=by
 match l,h with
 |[],_=>exact λx hx=>by cases hx
 |[x],h=>exact SA.Gp (h x gK)
 |x::y::l,h=>exact λz a=>h z a
section
variable {C:Cx}{md:Md}{w0 w:ο}{S0:δ Nat}{ρ:Nat->Ad}{S:St}{F:Nat->ξ}{GS:Gc}
theorem zk{L:δ cB}{S1:δ Nat}(d:Gw GS w0 S0)(c:Hp w0 S0 L w)(a:∀b∈S1,w0.heap.size<=b\/b∈S0):Gw GS w S1:=GS.st c d a
theorem mh(hS:Rel C w0 S0 ρ S F w)(hG:Gw GS w0 S0){c:yW}{k:Nat}(hF:Xv C.P GS k c){vs:δ SV}{a:(gE c.a).T}{ss:δ Src}{y:(hC c.r).T}(h:PN S.H c.a vs=θ (a,ss))(V:mK c S a ss=μ)(hy:(c.f a).ok y):
  ∃us,vs.map (SV.v ρ)=us.map θ/\CR C.P k us w λv w2=>∃ρ3,∀d:ε Nat,Rel C w0 S0 ρ3 (kQ c S d a ss y) (match d with
   |some d=>dQ F d v
   |none=>F) w2/\Nx S ρ (kQ c S d a ss y) ρ3:=by
 obtain⟨L,hH,hM⟩:=hS.mem;have jZ:=zT hS;have d3:=zU hS;unfold mK at V;have V:=gX V;have c0:=nD.1 V.1;have V:=gX V.2;have i2:=sZ.1 V.1;have V:=gX V.2;have g1:=V.1;have g5:=V.2;obtain⟨K,h1,h2,h3,h4,h5⟩:=I5 d3 c.a vs a ss [] h;rw[Rl]at h1
 let b4:Nat->Ad:=λj=>match ss[j]? with
  |some s=>s.ad ρ
  |none=>⟨ι,ι,0,ν,0⟩
 have b1:∀(j:Nat) (s:Src),ss[j]? =θ s->b4 j=s.ad ρ:=λj s p=>by simp only[b4,p]
 obtain⟨⟨us,h6,h7⟩,h8⟩:=h5 ρ b4 (λj s p=>by rw[iP,Jd];exact b1 j s p);refine⟨us,h6, ?_⟩;have l0:=hM.1;let L1:δ cB:=ss.map λs=>rOf L s.ow;let Lr:δ cB:=(List.range (γ S.H)).map λid=>bif lG id (gU ss)then dM else(L[id]?).getD dM;have l9:γ L1=aL ss:=by simp[L1]
 have n2:γ Lr=γ S.H:=by simp[Lr]
 have d5:∀(j:Nat) (r:cB) (b:Nat),L1[j]? =θ r->r.own=θ b->∃s id W,ss[j]? =θ s/\s.ow=θ id/\L[id]? =θ W/\W.own=θ b/\r=W:=by
  intro j r b p O;obtain⟨s,E,A⟩:=map_some p;subst A;cases M:s.ow with
  |none=>rw[M]at O;cases O
  |some id=>
   cases hl:L[id]? with
   |none=>
    have e:rOf L s.ow=dM:=by rw[M];show(L[id]?).getD dM=_;rw[hl];rfl
    rw[e]at O;cases O
   |some W=>
    have e:rOf L (θ id)=W:=by show(L[id]?).getD dM=_;rw[hl];rfl
    rw[M]at O;exact⟨s,id,W,E,M,hl,by rw[<-e];exact O,e⟩
 have e6:Hp w0 S0 (L1++Lr) w:=by
  refine Go.Oe.Hp.pick (ss.map Src.ow++(List.range (γ S.H)).map λid=>bif lG id (gU ss)then ι else θ id) hH (λj r p=> ?_) (λj k i p hk=> ?_)
  ·by_cases G:j<aL ss
   ·rw[aJ aA0]at p;refine⟨?_,λb O=> ?_⟩
    ·obtain⟨s,E,A⟩:=map_some p;subst A;cases M:s.ow with
     |none=>trivial
     |some id=>
      show cB.holds ((L[id]?).getD dM) w;cases hl:L[id]? with
      |none=>trivial
      |some W=>exact(hH.res _ (aI hl)).1
    ·obtain⟨s,id,W,E,A,J,D,rfl⟩:=d5 j r b p O;refine⟨id,r, ?_,J,D⟩;rw[aJ (by simpa using G),aY,E];exact bF θ A
   ·rw[aO aA0,l9]at p;have p:((List.range (γ S.H)).map _)[j-aL ss]? =θ r:=p;rw[aY]at p;by_cases X:j-aL ss<γ S.H
    ·rw[cX X]at p;have p:(bif lG (j-aL ss) (gU ss)then dM else(L[j-aL ss]?).getD dM)=r:=aP p;have e8:L[j-aL ss]? =θ (L[j-aL ss]' aA0):=aN aA0;cases hm:lG (j-aL ss) (gU ss)with
     |true=>rw[hm]at p;rw[<-p];exact⟨trivial,λb O=>by cases O⟩
     |false=>rw[hm,e8]at p;have p:L[j-aL ss]=r:=p;rw[<-p];refine⟨(hH.res _ (aI e8)).1,λb O=>⟨j-aL ss,_, ?_,e8,O⟩⟩;rw[aO aA2,Gf,aY,cX X];simp only[aj,hm,aH]
    ·rw[bO (by simpa using IU X)]at p;cases p
  ·have key:∀j,(ss.map Src.ow++(List.range (γ S.H)).map λid=>bif lG id (gU ss)then ι else θ id)[j]? =θ (θ i)->(j<aL ss/\∃s,ss[j]? =θ s/\s.ow=θ i)\/(aL ss<=j/\j-aL ss=i/\i∉gU ss):=by
    intro j p;by_cases G:j<aL ss
    ·rw[aJ (by simpa using G),aY]at p;cases R:ss[j]? with
     |none=>rw[R]at p;cases p
     |some s=>rw[R]at p;exact .inl ⟨G,s,rfl,aP p⟩
    ·rw[aO (by simpa using IU G),Gf,aY]at p;by_cases X:j-aL ss<γ S.H
     ·rw[cX X]at p;have p:(bif lG (j-aL ss) (gU ss)then ι else θ (j-aL ss))=θ i:=aP p;cases hm:lG (j-aL ss) (gU ss)with
      |true=>rw[hm]at p;cases p
      |false=>rw[hm]at p;have p:j-aL ss=i:=aP p;refine .inr ⟨aA0,p,λhc=> ?_⟩;rw[<-p]at hc;rw[Xq.2 hc]at hm;cases hm
     ·rw[bO (by simpa using IU X)]at p;cases p
   rcases key j p with⟨E,s,A,J⟩|⟨E,A,J⟩<;>rcases key k hk with⟨D,s2,I,N⟩|⟨D,I,N⟩
   ·exact Mv c0 A J I N
   ·exact absurd (sC A J) N
   ·exact absurd (sC I N) J
   ·omega
 have hX:∀b∈eK L1,w0.heap.size<=b\/b∈S0:=by intro b O;obtain⟨r,hr,e⟩:=nF O;exact((e6.res r (aV.2 (.inl hr))).2 b e).2
 have hB:∀id∈mq ss,∀(r:cB) (b:Nat),L[id]? =θ r->r.own=θ b->b∉eK L1:=by intro id hid r b hr O hm;obtain⟨r2,k4,e⟩:=nF hm;obtain⟨j,p⟩:=fO.1 k4;obtain⟨s,m6,W,E,A,J,D,_⟩:=d5 j r2 b p e;have:=L7 hH hr J O D;subst this;exact i2 id hid (sC E A)
 have i3:=e6.hand;have a9:mM c a=K:=h1;have hp:∀j,j<aL K->∃r,(∀o,K[j]? =θ o->RO w (eK L1) b4 j o r)/\r.holds w/\∀b,r.own=θ b->∃W,L1[j]? =θ W/\W.own=θ b:=by intro j p;have M:=aN p;have R:ss[j]? =θ (ss[j]' aA0):=aN aA0;obtain⟨r,E,A,J⟩:=eb (S1:=eK L1) hH hM hX (λid hid=>hB id (Y0 R hid)) (h8 j _ _ R M) (b1 j _ R);refine⟨r,λo D=>by rw[M]at D;cases D;exact E,A,λb O=> ?_⟩;obtain⟨i,W,D,I,N⟩:=J b O;refine⟨W, ?_,N⟩;show(ss.map _)[j]? =_;rw[aY,R,aj,D];show θ ((L[i]?).getD dM)=_;rw[I];rfl
 obtain⟨Lc,l1,g2⟩:=Js (γ K) hp;have k7:Hp w (eK L1) Lc w:=by
  refine Go.Oe.Hp.pick ((List.range (γ K)).map θ) i3 (λj r p=> ?_) (λj k i p hk=> ?_)
  ·obtain⟨_,E,A⟩:=g2 j r p;refine⟨E,λb O=> ?_⟩;obtain⟨W,J,D⟩:=A b O;have G:=(aF.1 p).1;exact⟨j,W,by rw[aY,cX aA0];rfl,J,D⟩
  ·have key:∀j,((List.range (γ K)).map θ)[j]? =θ (θ i)->j=i:=by
    intro j p;rw[aY]at p;by_cases G:j<aL K
    ·rw[cX G]at p;simpa using p
    ·rw[bO (by simpa using IU G)]at p;cases p
   rw[key j p,key k hk]
 have k8:Mt w (eK L1) b4 (mM c a) Lc:=by rw[a9];refine⟨l1,λj o M=> ?_⟩;have G:=(aF.1 M).1;have R:ss[j]? =θ (ss[j]' aA0):=aN aA0;have hl:Lc[j]? =θ (Lc[j]' aA0):=aN aA0;refine⟨?_,_,hl,(g2 j _ hl).1 o M⟩;rw[b1 j _ R];exact DA jZ d3 (h8 j _ _ R M)
 refine(hF w (eK L1) b4 Lc us a y (zk hG hH hX) k7 k8 h7 hy).mono λv w2=> ?_;rintro⟨b8,L2,f9,e5,d1,hv⟩;have c4:=e6.eG e5;have g7:aL ss=aL K:=h2.symm;let ρ3:Nat->Ad:=λid=>if id<γ S.H then ρ id else b8 (aL K+(id-γ S.H));have Q:Up (γ S.H) ρ ρ3:=λid hi=>by simp only[ρ3,hi,gG]
 have l3:∀i,ρ3 (γ S.H+i)=b8 (aL K+i):=λi=>by have e1:¬γ S.H+i<γ S.H:=aA0;have e2:γ S.H+i-γ S.H=i:=aA0;simp only[ρ3,e1,IQ,e2]
 have b2:∀(j:Nat) (s:Src) (i:Nat),ss[j]? =θ s->s.ow=θ i->i<γ S.H:=by intro j s i p hi;have a6:=(aF.1 p).1;have a5:=h8 j s _ p (aN aA0);rcases zK a5 hi with⟨_,⟨e,cs,d4,_,E,_⟩|⟨e,b,t,l,_,E⟩|⟨n,l,m,_,_,E⟩⟩|⟨m,e,b,t,l,cs,_,_,E⟩<;>exact(aF.1 E).1
 have d2:∀(j id:Nat),ss[j]? =θ (.o' id μ)->ρ3 id=b8 j:=by intro j id p;have a6:=(aF.1 p).1;have hi:=b2 j _ id p rfl;rw[Q id hi,f9 j (by rw[a9];omega),b1 j _ p];rfl
 let EC:=Im (Rk.ids c.r) (mM c a) 0;let EK:=kO (Rk.ids c.r) (jK [] c.a a).2 0 ss;have i5:EK=kO (Rk.ids c.r) K 0 ss:=by show kO _ (mM c a) 0 ss=_;rw[a9]
 have i6:EC=Im (Rk.ids c.r) K 0:=by show Im _ (mM c a) 0=_;rw[a9]
 have b0:∀(j id:Nat) (s:Src),ss[j]? =θ s->s.ow=θ id->(id∈EK↔j∈EC):=by
  intro j id s p R;have a6:=(aF.1 p).1;rw[i5,i6,Ff,Bq];constructor
  ·rintro⟨j2,o,s2,_,E,A,J,D,I⟩
   rw[iU]at E A;have c9:s2.ow=θ id:=by
    rw[xF]at I;cases M:s2.ow with
    |none=>rw[M]at I;simp at I
    |some i=>rw[M]at I;simp at I;rw[I]
   have:=Mv c0 p R A c9;subst this;exact⟨o,cW _,by rw[iU];exact E,J,D⟩
  ·rintro⟨o,_,E,A,J⟩;rw[iU]at E;exact⟨j,o,s,cW _,by rw[iU];exact E,by rw[iU];exact p,A,J,by rw[xF,R];simp⟩
 let rg:δ Rg:=kR c S a ss;have c7:∀{id j:Nat},eP id j (Xl S.H EK)=μ->eP id j rg=μ:=λh=>Hq.2 (.inl h)
 have a3:∀id,id∈EK->(wC S.H[id]? =μ\/∃e cs,S.H[id]? =θ (.bl e cs))/\id∈gU ss:=by
  intro id hid;rw[i5,Ff]at hid;obtain⟨j,o,s,_,E,A,J,D,I⟩:=hid;rw[iU]at E A;have c9:s.ow=θ id:=by
   rw[xF]at I;cases M:s.ow with
   |none=>rw[M]at I;simp at I
   |some i=>rw[M]at I;simp at I;rw[I]
  refine⟨?_,sC A c9⟩;rcases zK (h8 j s o A E) c9 with⟨_,⟨e,cs,d4,rfl,_⟩|⟨e,b,t,l,_,N⟩|⟨n,l,m,_,_,N⟩⟩|⟨m,e,b,t,l,cs,_,_,N⟩
  ·cases J
  ·left;rw[N];rfl
  ·left;rw[N];rfl
  ·exact .inr ⟨_,_,N⟩
 have h0:PR (γ S.H) (γ K) S.H ρ b8 ρ3 ss rg (kill (mM c a) EC) (kill S.H EK) [] [] 0:=by
  refine⟨by rw[bkr,a9];rfl,by rw[bkr];rfl,λi o hi=>by omega,λj id o p M=> ?_,λj id m p=> ?_,λid hi hn=> ?_,λid e cs M cc hc=> ?_,λid o M=> ?_,rfl,λv hv=>by cases hv⟩
  ·have a6:=(aF.1 p).1;have hi:=b2 j _ id p rfl;have Y:K[j]? =θ (K[j]' aA0):=aN aA0;have a5:=h8 j _ _ p Y;have hid:=aN hi;have g8:S.H[id].len=(K[j]' aA0).len:=by rw[jZ id _ hid,DA jZ d3 a5];rfl
   rw[SE,a9,Y]at M;rw[SE,hid];by_cases hE:j∈EC
   ·rw[aB hE]at M;rw[aB ((b0 j id _ p rfl).2 hE)];cases M;refine⟨⟨_,rfl, ?_⟩,λt l e=>by cases e⟩;show Ob.dd _=Ob.dd _;rw[g8]
   ·rw[aA hE]at M;rw[aA (λhh=>hE ((b0 j id _ p rfl).1 hh))];have M:=aP M;rw[M]at a5 Y;rcases zK a5 rfl with⟨_,⟨e,cs,d4,rfl,E,A,J,D⟩|⟨e,b,t,l,rfl,E⟩|⟨n,l,m,rfl,E,A⟩⟩|⟨m,e,b,t,l,cs,he,_⟩
    ·refine⟨⟨_,rfl,d4,by rw[hid]at E;exact aP E, ?_,λjj c1 c2 I N=>by rw[D c1 (aI I),J c2 (aI N)]⟩,λt l e=>by cases e⟩;rw[Yx Q (λx hx=>hS.ho id e d4 E x hx),A];refine Yx f9 λx hx=> ?_;have:=h4 j e cs Y x hx;rw[a9];simpa using this
    ·refine⟨⟨_,rfl, ?_⟩,λt l e=>by cases e⟩;rw[hid]at E;exact aP E
    ·refine⟨⟨_,rfl, ?_⟩,λt l e=>by cases e⟩;have J:=d3 id m l A;rw[hid]at A;show S.H[id]=Ob.br n l;rw[aP A,E,J]
    ·cases he
  ·have a6:=(aF.1 p).1;have hi:=b2 j _ id p rfl;have Y:K[j]? =θ (K[j]' aA0):=aN aA0;have a5:=h8 j _ _ p Y;obtain⟨g0,e0,o5,l5⟩:wC (θ (K[j]' aA0))=μ/\∃e cs,S.H[id]? =θ (.bl e cs):=by
    rcases zK a5 rfl with⟨he,_⟩|⟨m,e,b,t,l,cs,_,he,E⟩
    ·cases he
    ·rw[he];exact⟨rfl,e,cs,E⟩
   have g4:j∉Rk.ids c.r:=by
    intro hm;have key:∀r:δ Rk,Lu S.H ss r=μ->j∈Rk.ids r->False:=by
     intro r;induction r with
     |nil=>intro _ h;cases h
     |cons q r ih=>
      intro hq a7;have hq:=gX (show(bif _ then Lu S.H ss r else ν)=μ from hq);cases q with
      |r' x=>exact ih hq.2 a7
      |o' i e x=>
       rcases aQ.1 (show j∈i::Rk.ids r from a7)with rfl|a7
       ·have E:=(gX hq.1).2;rw[gF,p]at E;cases E
       ·exact ih hq.2 a7
      |w' i x=>
       rcases aQ.1 (show j∈i::Rk.ids r from a7)with rfl|a7
       ·have E:=hq.1;simp only[gF,p]at E;cases E
       ·exact ih hq.2 a7
    exact key c.r g1 hm
   have hE:j∈EC:=by rw[i6,Bq];exact⟨_,cW _,by rw[iU];exact Y,g0,g4⟩
   rw[SE,aB ((b0 j id _ p rfl).2 hE),l5];rfl
  ·rw[SE,aA (λhE=>hn (a3 id hE).2)]
  ·rw[SE]at M;split at M
   ·cases hg:S.H[id]? with
    |none=>rw[hg]at M;cases M
    |some o=>rw[hg]at M;cases M
   ·exact hS.ho id e cs M cc hc
  ·rw[SE];by_cases hE:id∈EK
   ·rw[aB hE,M];have:=(a3 id hE).1;cases o with
    |bl e cs=>exact .inl λj p=>c7 (Ko M hE p)
    |rw e b t l=>exact .inl (c7 (bby hE))
    |br m l=>exact .inl (c7 (bby hE))
    |ro t l=>rcases this with E|⟨_,_,E⟩<;>rw[M]at E<;>cases E
    |dd n=>rcases this with E|⟨_,_,E⟩<;>rw[M]at E<;>cases E
   ·rw[aA hE,M];cases o with
    |bl e cs=>exact .inr ⟨cs,rfl,rfl,λj cc p=>.inr ⟨cc,p,λhk=>⟨hk,SC.up Q (hS.ho id e cs M cc (aI p))⟩⟩⟩
    |rw e b t l=>exact .inr rfl
    |br m l=>exact .inr rfl
    |ro t l=>rfl
    |dd n=>rfl
 obtain⟨k2,hP⟩:=PR.steps c0 aA0 b2 rfl g7 l3 d2 c.r y _ _ [] [] 0 h0 g1 (λid hid q hq j p=>by
  subst hq;refine Hq.2 (.inr ?_);have key:∀l:δ Nat,id∈l->eP id j (BN S.H l)=μ:=by
   intro l;induction l with
   |nil=>intro h;cases h
   |cons x l ih=>
    intro h;rcases aQ.1 h with rfl|h
    ·exact wL.2 ⟨_,gK,rfl,cW _,p⟩
    ·obtain⟨q,E,A⟩:=wL.1 (ih h);exact wL.2 ⟨q,eU _ E,A⟩
  exact key _ hid)
 let U:=(fW (Jv ss) ([],kill S.H EK) c.r y).2;let Hc:=(nA c a y).2;have m0:γ Hc=aL K+k2:=hP.ec;have i4:γ U=γ S.H+k2:=hP.ek;have n3:γ L2=aL K+k2:=by rw[d1.1];exact m0
 let b9:Nat->ε Nat:=λid=>(List.range (γ ss)).find? λj=>decide ((ss[j]?).bind Src.ow=θ id)
 have d7:∀id j,b9 id=θ j->∃s,ss[j]? =θ s/\s.ow=θ id:=by
  intro id j p;have:=List.find?_some p;have E:(ss[j]?).bind Src.ow=θ id:=bY this;cases R:ss[j]? with
  |none=>rw[R]at E;cases E
  |some s=>rw[R]at E;exact⟨s,rfl,E⟩
 have i1:∀id,b9 id=ι->id∉gU ss:=by
  intro id p hm;have key:∀l:δ Src,id∈gU l->∃(j:Nat) (s:Src),l[j]? =θ s/\s.ow=θ id:=by
   intro l;induction l with
   |nil=>intro h;cases h
   |cons x l ih=>
    intro h;rcases aV.1 (show id∈x.own++gU l from h)with h|h
    ·refine⟨0,x,rfl, ?_⟩;rw[xF]at h;cases M:x.ow with
     |none=>rw[M]at h;simp at h
     |some i=>rw[M]at h;simp at h;rw[h]
    ·obtain⟨j,s,h1,h2⟩:=ih h;exact⟨j+1,s,by simpa using h1,h2⟩
  obtain⟨j,s,E,A⟩:=key ss hm;have G:=(aF.1 E).1;have:=List.find?_eq_none.1 p j (by simpa using G);rw[E]at this;simp[A]at this
 let src:Nat->ε Nat:=λid=>if id<γ S.H then(match b9 id with
  |some j=>(match U[id]? with
   |some o=>bif GD o then ι else θ j
   |none=>ι)
  |none=>θ (γ L2+id))else θ (aL K+(id-γ S.H))
 have k6:∀id,id<γ U->∃r,(∀o,U[id]? =θ o->o.len=(ρ3 id).ln/\RO w0 S0 ρ3 id o r)/\r.holds w2/\∀b,r.own=θ b->∃i W,src id=θ i/\(L2++Lr)[i]? =θ W/\W.own=θ b:=by
  intro id hid;have M:=aN hid;by_cases G:id<γ S.H
  ·cases p:b9 id with
   |some j=>
    obtain⟨s,E,A⟩:=d7 id j p;have a6:=(aF.1 E).1;cases hd:GD U[id]with
    |true=>
     refine⟨dM,λo J=>⟨?_, ?_⟩,trivial,λb O=>by cases O⟩
     ·rw[M]at J;cases J;rcases qx A with rfl|⟨m,rfl⟩
      ·have a1:Hc[j]? =θ (Hc[j]' aA0):=aN aA0;obtain⟨⟨o3,D,I⟩,_⟩:=hP.ow j id _ E a1;have D:U[id]? =θ o3:=D;rw[M]at D;have D:=aP D;rw[D,I.len,d1.lns j _ a1,d2 j id E]
      ·have D:U[id]? =θ (.dd 0):=hP.ok j id m E;have Y:K[j]? =θ (K[j]' aA0):=aN aA0;rcases zK (h8 j _ _ E Y) rfl with⟨he,_⟩|⟨m,e,b,t,l,cs,_,_,I⟩
       ·cases he
       ·rw[M]at D;rw[aP D,Q id G];have N:=jZ id _ I;exact N
     ·rw[M]at J;cases J;cases hx:U[id]<;>rw[hx]at hd<;>first|trivial|cases hd
    |false=>
     rcases qx A with rfl|⟨m,rfl⟩
     ·have a1:Hc[j]? =θ (Hc[j]' aA0):=aN aA0;obtain⟨⟨o3,D,I⟩,e7⟩:=hP.ow j id _ E a1;have D:U[id]? =θ o3:=D;obtain⟨N,r,Z,c6⟩:=d1.2 j _ a1;have he:U[id]=o3:=by rw[M]at D;exact aP D
      refine⟨r,λo a2=> ?_, ?_,λb O=>⟨j,r, ?_, ?_,O⟩⟩
      ·rw[D]at a2;cases a2;exact⟨by rw[I.len,N,d2 j id E],U8 I (d2 j id E) e7 c6⟩
      ·exact(e5.res r (aI Z)).1
      ·simp only[src,G,gG,p,M,hd,aH]
      ·rw[aJ (aF.1 Z).1];exact Z
     ·have J:U[id]? =θ (.dd 0):=hP.ok j id m E;rw[M]at J;rw[aP J]at hd;cases hd
   |none=>
    have g6:=i1 id p;have e4:U[id]? =S.H[id]? :=hP.ot id G g6;obtain⟨N,r,Z,c6⟩:=hM.2 id _ (aN G);have k9:Lr[id]? =θ r:=by
     show((List.range (γ S.H)).map _)[id]? =_
     rw[aY,cX G];have hm:lG id (gU ss)=ν:=by
      cases hm:lG id (gU ss)with
      |false=>rfl
      |true=>exact absurd (Xq.1 hm) g6
     simp only[aj,hm,aH,Z,IS]
    have d6:(L2++Lr)[γ L2+id]? =θ r:=by rw[aO aA0,zbJ];exact k9
    refine⟨r,λo a2=> ?_,(c4.res r (aI d6)).1,λb O=>⟨γ L2+id,r, ?_,d6,O⟩⟩
    ·rw[e4,aN G]at a2;cases a2;exact⟨by rw[Q id G];exact N,c6.up Q G λe cs he=>hS.ho id e cs (by rw[aN G,he])⟩
    ·simp only[src,G,gG,p]
  ·have hi:id-γ S.H<k2:=by omega
   have a1:Hc[aL K+(id-γ S.H)]? =θ (Hc[aL K+(id-γ S.H)]' aA0):=aN aA0;obtain⟨⟨o3,D,I⟩,e7⟩:=hP.nw (id-γ S.H) _ hi a1;have D:U[γ S.H+(id-γ S.H)]? =θ o3:=D;rw[show γ S.H+(id-γ S.H)=id by omega]at D;have f7:ρ3 id=b8 (aL K+(id-γ S.H)):=by simp only[ρ3,G,IQ]
   obtain⟨N,r,Z,c6⟩:=d1.2 _ _ a1;refine⟨r,λo a2=> ?_,(e5.res r (aI Z)).1,λb O=>⟨aL K+(id-γ S.H),r, ?_, ?_,O⟩⟩
   ·rw[D]at a2;cases a2;exact⟨by rw[I.len,N,f7],U8 I f7 e7 c6⟩
   ·simp only[src,G,IQ]
   ·rw[aJ (aF.1 Z).1];exact Z
 obtain⟨L3,l2,g3⟩:=Js (γ U) k6;have m1:Hp w0 S0 L3 w2:=by
  refine Go.Oe.Hp.pick ((List.range (γ U)).map src) c4 (λid r p=> ?_) (λx z i hx hz=> ?_)
  ·obtain⟨_,E,A⟩:=g3 id r p;refine⟨E,λb O=> ?_⟩;obtain⟨i,W,J,D⟩:=A b O;have G:=(aF.1 p).1;exact⟨i,W,by rw[aY,cX aA0];exact bF θ J,D⟩
  ·have key:∀x,((List.range (γ U)).map src)[x]? =θ (θ i)->x<γ U/\src x=θ i:=by intro x hx;obtain⟨q,E,A⟩:=map_some hx;have G:=(aF.1 E).1;rw[List.length_range]at G;rw[cX G]at E;have e:=aP E;subst e;exact⟨G,A⟩
   have cl:∀x,x<γ U->src x=θ i->(∃s:Src,i<aL ss/\ss[i]? =θ s/\s.ow=θ x)\/i=γ L2+x\/(¬x<γ S.H/\i=aL K+(x-γ S.H)):=by
    intro x hx R;by_cases G:x<γ S.H
    ·simp only[src,G]at R;cases p:b9 x with
     |none=>rw[p]at R;exact .inr (.inl (aP R).symm)
     |some j=>
      rw[p]at R;obtain⟨s,E,A⟩:=d7 x j p;have a6:=(aF.1 E).1;rw[aN hx]at R;simp only at R;cases hd:GD U[x]with
      |true=>rw[hd]at R;cases R
      |false=>rw[hd]at R;have e:j=i:=aP R;subst e;exact .inl ⟨s,a6,E,A⟩
    ·simp only[src,G]at R;exact .inr (.inr ⟨G,(aP R).symm⟩)
   obtain⟨k3,k1⟩:=key x hx;obtain⟨k0,j9⟩:=key z hz;rcases cl x k3 k1 with⟨s,E,A,J⟩|E|⟨E,A⟩<;>rcases cl z k0 j9 with⟨s2,D,I,N⟩|D|⟨D,I⟩
   ·rw[A]at I;cases I;rw[J]at N;exact aP N
   all_goals omega
 have l7:Mt w0 S0 ρ3 U L3:=by refine⟨l2,λid o M=> ?_⟩;have G:=(aF.1 M).1;have hl:L3[id]? =θ (L3[id]' aA0):=aN aA0;have:=(g3 id _ hl).1 o M;exact⟨this.1,_,hl,this.2⟩
 let B:St:=⟨S.F,U,S.nb,S.al,rg++S.m⟩
 have i7:Rel C w0 S0 ρ3 B F w2:=by
  refine⟨λg id hg=> ?_,λt u hu=> ?_,λt=> ?_,λid e cs M c hc=> ?_,⟨L3,m1,l7⟩⟩
  ·obtain⟨E,A⟩:=hS.gl g id hg;exact⟨by show id<γ U;omega,by rw[Q id E];exact A⟩
  ·have hu:(S.at t).v ρ3=θ u:=hu;rw[SV.up Q (hS.fo t)]at hu;exact hS.fr t u hu
  ·exact SV.cP (hS.fo t) (by show γ S.H<=γ U;omega)
  ·show c.ok (γ U);rw[i4];exact hP.ho id e cs M c hc
 have b5:Nx S ρ B ρ3:=by
  have g9:∀nb al,(∀id j,id<nb->eP id j rg=μ->eP id j al=μ)->Le nb al ρ S.H ρ3 B.H:=λnb al l6=>
   ⟨by show γ S.H<=γ U;omega,Q,λid o hi M=>(hP.kp id o M).mono λj hc=>l6 id j hi hc⟩
  exact⟨⟨rfl,rfl,g9 _ _ λid j hi hc=>Af g5 hi hc⟩,g9 _ _ λid j _ hc=>Hq.2 (.inl hc),λid j hc=>Hq.2 (.inr hc)⟩
 refine⟨ρ3,λd=> ?_⟩;have l4:kQ c S d a ss y=B.xA d (mF (fW (Jv ss) ([],kill S.H EK) c.r y).1):=rfl;rw[l4];cases d with
 |none=>exact⟨i7,b5⟩
 |some d=>refine⟨mz i7 (I0 hP.vl hv) (fm λv hv=> ?_),⟨⟨b5.nb,b5.al,b5.le⟩,b5.lg,b5.mm⟩⟩;show v.ok (γ U);rw[i4];exact hP.vo v hv
end
open Go.Wk
open Go.Ce (Tr)
open Nat renaming blt → fL, succ → rG
structure Env (C:Cx) (md:Md) (w0:ο) (S0:List Nat) (GS:Gc):Prop where
 e:EOk C
 n:C.nn=md.n
 g:Gw GS w0 S0
 x:∀k,∀c∈C.X k,Enters C.P k/\Xv C.P GS k c
inductive XQ (C:Cx) (ops:List Α) (S:St) (o:Α):Bool->Prop
 |none (h:o.guard=ι):XQ C ops S o μ
 |yes (q:Nat×Bool) (dg:Nat) (h:o.guard=θ q) (h1:GP ops q.1=θ dg) (h2:fL dg C.nn=μ) (h3:S.at dg=.c' (.b' q.2)):XQ C ops S o μ
 |no (q:Nat×Bool) (dg:Nat) (h:o.guard=θ q) (h1:GP ops q.1=θ dg) (h2:fL dg C.nn=μ) (h3:S.at dg=.c' (.b' (!q.2))):XQ C ops S o ν
 |un (q:Nat×Bool) (dg:Nat) (h:o.guard=θ q) (h1:GP ops q.1=θ dg) (h2:fL dg C.nn=μ) (h3:S.at dg=.n'):XQ C ops S o ν
inductive Tv:SV->Bool->Prop
 |b (x:Bool):Tv (.c' (.b' x)) x
 |d (p:Prop) (h:Decidable p):Tv (.c' (.d' p h)) (@decide p h)
 |e (p:Prop) (h:Decidable p):Tv (.c' (.e' p h)) (!@decide p h)
variable {v:SV}
theorem tv_v{b:η}(h:Tv v b)(ρ:Nat->Ad):v.v ρ=θ (.bool b):=by cases h<;>rfl
theorem brB_tv{T:Type}{y n:ε T}{r:T}(h:X9 v y n=θ r):∃b,Tv v b/\(b=μ->y=θ r)/\(b=ν->n=θ r):=by
 unfold X9 at h;split at h
 ·rename_i x;exact⟨x,.b x,λe=>by subst e;exact h,λe=>by subst e;exact h⟩
 ·rename_i p a;refine⟨_,.d p a,λe=> ?_,λe=> ?_⟩
  ·rw[aB (bY e)]at h;exact h
  ·rw[aA (fH e)]at h;exact h
 ·rename_i p a;refine⟨_,.e p a,λe=> ?_,λe=> ?_⟩
  ·have:¬p:=by simpa using e
   rw[aA this]at h;exact h
  ·have:p:=by simpa using e
   rw[aB this]at h;exact h
 ·cases h
structure um (C:Cx) (S:St) (o:Α) (S2:St):Prop where
 ex:∃(cal:Call) (f:χ) (k:Nat) (ids:List Nat) (c:yW) (a:(gE c.a).T) (ss:List Src) (y:(hC c.r).T),o.op=.call cal/\cal.callee=.value f/\S.ev C f=.c' (.f' k ids)/\c∈C.X k/\
  PN S.H c.a (cal.args.toList.map (S.ev C)++XD ids)=θ (a,ss)/\mK c S a ss=μ/\(c.f a).ok y/\S2=kQ c S o.dst a ss y
inductive JK (C:Cx) (ops:List Α) (S:St) (o:Α):St->Prop
 |op (hg:XQ C ops S o μ) (ro:Ro) (h:iK C (S.ev C) S.H o.op=θ ro) (ha:Iz ro.g) (hd:Ps o.dst ro.v=μ) (hm:S.Gx ro.m=μ):JK C ops S o (St.xA ⟨S.F,ro.H,S.nb,S.al,ro.m++S.m⟩ o.dst ro.v)
 |mv (hg:XQ C ops S o μ) (x:χ) (d:Nat) (b:Bool) (hx:P8 o.op=θ x) (hd:o.dst=θ d) (hb:Tv (S.ev C x) b):JK C ops S o (S.set d (.c' (.b' b)))
 |skip (hg:XQ C ops S o ν) (d:Nat) (hd:o.dst=θ d):JK C ops S o (S.set d .n')
 |call (hg:XQ C ops S o μ) (S2:St) (h:um C S o S2):JK C ops S o S2
section
variable {C:Cx}{ρ':Ty}
theorem Qf{S:St}{d:ε Nat}{vs:δ SV}{g:St->ε ρ'.T}{r:ρ'.T}:∀{l:δ yW},lX S d vs g l=θ r->∃c∈l,∃a ss y,PN S.H c.a vs=θ (a,ss)/\mK c S a ss=μ/\(c.f a).ok y/\g (kQ c S d a ss y)=θ r
 |[],h=>by cases h
 |c::l,h=>by
  simp only[lX]at h;split at h
  ·rename_i a ss i;have h:=dG h;obtain⟨y,e,b⟩:=Gv.ny h.2;exact⟨c,gK,a,ss,y,i,h.1,e,b⟩
  ·obtain⟨j,e,b⟩:=Qf h;exact⟨j,eU _ e,b⟩
theorem U0{v:SV}{q:Nat×δ Nat}(h:fnV v=θ q):v=.c' (.f' q.1 q.2):=by
 unfold fnV at h;split at h
 ·cases h;rfl
 ·cases h
variable {d:δ Α}{S:St}{o:Α}{q:St->ε ρ'.T}{r:ρ'.T}
theorem DK(s:XQ C d S o μ)(h:ei C S o.dst o.op q=θ r):∃S2,JK C d S o S2/\q S2=θ r:=by
 unfold ei at h;split at h
 ·rename_i g v H m b;split at h
  ·rename_i S2 i;have i:=dG i;have e:=dG i.2;cases e.2;obtain⟨n,l⟩:=Pm h;exact⟨_,.op s _ b n i.1 e.1,l⟩
  ·cases h
 ·split at h
  ·rename_i p b;split at h
   ·rename_i f w;split at h
    ·rename_i k j u;obtain⟨c,n,a,t,y,l,A,z,x⟩:=Qf h;exact⟨_,.call s _ ⟨p,f,k,j,c,a,t,y,b,w,U0 u,n,l,A,z,rfl⟩,x⟩
    ·cases h
   ·cases h
  ·cases h
variable {i:Nat}
theorem DJ(c:XQ C d S o μ)(h:eh C d i S o q=θ r):∃S2,JK C d S o S2/\q S2=θ r:=by
 unfold eh at h;cases f:isG d i with
 |false=>rw[f]at h;exact DK c h
 |true=>
  rw[f]at h;split at h
  ·rename_i x hx;split at h
   ·rename_i a g;obtain⟨b,l,k,j⟩:=brB_tv h;refine⟨_,.mv c x a b hx g l, ?_⟩;cases b with
    |true=>exact k rfl
    |false=>exact j rfl
   ·cases h
  ·exact DK c h
theorem DI(h:TY C d i S o q=θ r):∃S2,JK C d S o S2/\q S2=θ r:=by
 unfold TY at h;split at h
 ·rename_i m;exact DJ (.none m) h
 ·rename_i l j;split at h
  ·rename_i dg c;have h:=dG h;have a:=h.2;split at a
   ·rename_i x hx;cases f:beqB x l.2 with
    |true=>
     rw[f]at a;have e:x=l.2:=by cases x<;>cases b:l.2<;>rw[b]at f<;>first|rfl|cases f
     rw[e]at hx;exact DJ (.yes l dg j c h.1 hx) a
    |false=>
     rw[f]at a;have e:x= !l.2:=by cases x<;>cases b:l.2<;>rw[b]at f<;>first|rfl|cases f
     rw[e]at hx;split at a
     ·rename_i g k;exact⟨_,.skip (.no l dg j c h.1 hx) g k,a⟩
     ·cases a
   ·rename_i hx;split at a
    ·rename_i g k;exact⟨_,.skip (.un l dg j c h.1 hx) g k,a⟩
    ·cases a
   ·cases a
  ·cases h
end
section
variable {C:Cx}{md:Md}{w0 w:ο}{S0:δ Nat}{ρ:Nat->Ad}{S:St}{F:Nat->ξ}{GS:Gc}
variable {a:Array Α}{g:Nat}
theorem Pl{dg:Nat}(h:GP a.toList g=θ dg):(a[g]?).bind (·.dst)=θ dg:=by
 unfold GP at h;rw[gF]at h;cases b:a[g]? with
 |none=>rw[show a.toList[g]? =ι by simpa using b]at h;cases h
 |some o=>rw[show a.toList[g]? =θ o by simpa using b]at h;exact h
theorem OE(c:C.nn=md.n)(d:Rel C w0 S0 ρ S F w):∀{l:δ χ} {r:δ (ε ξ)} {a:δ ξ},(l.map (S.ev C)).map (SV.v ρ)++r=a.map θ->∃b,a=l.map (aX md F)++b/\r=b.map θ
 |[],r,a,h=>⟨a,rfl,h⟩
 |x::l,r,a,h=>by
  cases a with
  |nil=>cases h
  |cons u a=>simp only[uX,NM,oH]at h;obtain⟨b,f,e⟩:=OE c d h.2;refine⟨b, ?_,e⟩;rw[f,uX,NM,(Tn d c x).2 u h.1]
theorem X0:∀a,(XD a).map (SV.v ρ)=(a.map λid=>iS (ρ id).b 0).map θ
 |[]=>rfl
 |id::a=>by show θ _::(XD a).map _=_;rw[X0 a];rfl
theorem Ak{c:Type}:∀{a b:δ c},a.map θ=b.map θ->a=b
 |[],[],_=>rfl
 |[],_::_,h=>by cases h
 |_::_,[],h=>by cases h
 |x::a,y::b,h=>by simp at h;rw[h.1,Ak h.2]
variable {o:Α}
theorem IK(hE:Env C md w0 S0 GS){S2:St}(h:JK C a.toList S o S2)(B:Rel C w0 S0 ρ S F w)(Q:Exit->Act->ο->Prop)(l:δ Α)
  (T:∀D F2 G,Rel C w0 S0 D S2 F2 G->Nx S ρ S2 D->(∀t,o.dst≠θ t->F2 t=F t)->(∀d,o.guard=ι->o.dst=θ d->mJ o.op=μ->∃w3,(ς (aX md F) o).run C.P w=.ok (.value (F2 d)) w3)->W C.P md a Q l F2 G):W C.P md a Q (o::l) F w:=by
 have L:=hE.n;obtain⟨p,op,Z,pos,after,gd⟩:=o;have N:XQ C a.toList S ⟨p,op,Z,pos,after,gd⟩ μ->W C.P md a Q (⟨p,op,Z,pos,after,ι⟩::l) F w->W C.P md a Q (⟨p,op,Z,pos,after,gd⟩::l) F w:=by
  intro A V;cases A with
  |none h=>have h:gd=ι:=h;subst h;exact V
  |yes q dg h z r E=>have h:gd=θ q:=h;subst h;obtain⟨g,b⟩:=q;exact JS dg (Pl z) (by rw[<-L];exact r) (B.fr dg (.bool b) (by rw[E];rfl)) V
 cases h with
 |op A ro h ha u hm=>refine N A (dy hE.e L B h ha hm u a Q l λD F2 G z r E h4=>T D F2 G z r E λd j M hp=> ?_);have j:gd=ι:=j;subst j;exact h4 d M hp
 |mv A x d b hx u hb=>
  have u:p=θ d:=u;subst u;obtain⟨z,r⟩:=Tn B L x;have R:aX md F x=.bool b:=r _ (tv_v hb ρ);refine N A ?_;have s:Rel C w0 S0 ρ (S.set d (.c' (.b' b))) (dQ F d (.bool b)) w:=mz B rfl (λi hi=>by cases hi);have H:(ς (aX md F) (⟨θ d,op,Z,pos,after,ι⟩:Α)).run C.P w=.ok (.value (.bool b)) w:=by
   cases op<;>first|cases hx|skip
   ·rw[<-R];rfl
   ·rw[<-R];rfl
  refine fE rfl rfl H (T ρ _ w s ⟨⟨rfl,rfl,Le.refl⟩,Le.refl,λ_ _ h=>h⟩ SB λd2 j M _=>⟨w, ?_⟩);have j:gd=ι:=j;subst j;cases M;rw[nr];exact H
 |skip A d u=>
  have u:p=θ d:=u;subst u;have s:Rel C w0 S0 ρ (S.set d .n') (dQ F d undef) w:=mz B rfl trivial;have V:=T ρ _ w s ⟨⟨rfl,rfl,Le.refl⟩,Le.refl,λ_ _ h=>h⟩ SB (λd2 j _ _=>by cases A<;>(rename_i h _ _ _;rw[h]at j;cases j));cases A with
  |no q dg h z r E=>have h:gd=θ q:=h;subst h;obtain⟨g,b⟩:=q;exact qk dg (Pl z) (by rw[<-L];exact r) (B.fr dg (.bool (!b)) (by rw[E];rfl)) V
  |un q dg h z r E=>have h:gd=θ q:=h;subst h;obtain⟨g,b⟩:=q;exact qj dg (Pl z) (by rw[<-L];exact r) (B.fr dg undef (by rw[E];rfl)) V
 |call A _ h=>
  obtain⟨Y,f,k,O,c,m,ss,y,K,hf,a5,hc,hr,a4,hy,rfl⟩:=h;have K:op=.call Y:=K;subst K;obtain⟨callee,dT,ts⟩:=Y;have hf:callee=.value f:=hf;subst hf;refine N A ?_;obtain⟨X,hF⟩:=hE.x k c hc;obtain⟨us,z,r⟩:=mh B hE.g hF hr a4 hy;rw[Ry,X0]at z;obtain⟨u2,E,h4⟩:=OE L B z;have h5:=Ak h4;have U:aX md F f=.func (.func k) #[] (O.map λid=>iS (ρ id).b 0).toArray:=(oA B L a5).2;have ha: #[]++dT.map (aX md F)++(O.map λid=>iS (ρ id).b 0).toArray=us.toArray:=by rw[E,<-h5];apply Array.toList_inj.1;simp
  cases p with
  |none=>refine db k _ us _ X U ha r λv G J=> ?_;obtain⟨I,J⟩:=J;obtain⟨h6,h7⟩:=J ι;exact T I F G h6 h7 (λ_ _=>rfl) (λd _ u=>by cases u)
  |some d=>refine wK k _ us _ X U ha r λv G J=> ?_;obtain⟨I,J⟩:=J;obtain⟨h6,h7⟩:=J (θ d);exact T I _ G h6 h7 SB (λd2 _ _ hp=>by cases hp)
theorem zA{l:δ Α}:g∈Gi (o::l)↔o.dst=θ g\/g∈Gi l:=by
 simp only[Gi];cases a:o.dst with
 |none=>simp
 |some d=>simp;exact or_congr_left ⟨λh=>h.symm,λh=>h.symm⟩
theorem Dr{t:Nat}:∀{l:δ χ},t∈Ae l↔Operand.tmp t∈l
 |[]=>by simp[Ae]
 |x::l=>by cases x<;>simp[Ae,Dr]
def RanL(C:Cx)(md:Md)(a:δ Α)(e:Nat)(F:Nat->ξ):Prop:=∀(i d:Nat) o,e<=i->M0 a i=μ->a[i]? =θ o->o.dst=θ d->∃c b,(ς (aX md F) o).run C.P c=.ok (.value (F d)) b
theorem J7{op:Op}(h:mJ op=μ):∀cs b,op≠.select cs b:=λcs b e=>by subst e;cases h
theorem U7{F2:Nat->ξ}{x:χ}(h:∀t,x=.tmp t->F2 t=F t):aX md F2 x=aX md F x:=by
 cases x with
 |tmp t=>simp only[aX,h t rfl]
 |_=>rfl
theorem Zv(R:Env C md w0 S0 GS){a:Array Α}{ρ':Ty}{B:St->ε ρ'.T}{r:ρ'.T}{Q:Exit->Act->ο->Prop}:∀l i S ρ F w,l=a.toList.drop i->VA C a.toList l i S B=θ r->Rel C w0 S0 ρ S F w->
  (∀S2 e F2 u,B S2=θ r->Rel C w0 S0 e S2 F2 u->Nx S ρ S2 e->(∀t,t∉Gi l->F2 t=F t)->RanL C md a.toList i F2->Q .normal (fr md F2) u)->W C.P md a Q l F w
 |[],i,S,ρ,F,w,y,h,K,D=>jT (D S ρ F w h K Nx.refl (λ_ _=>rfl) (λj d o hj _ n _=>by have:a.toList.drop i=[]:=y.symm;rw[List.drop_eq_nil_iff]at this;have:=(aF.1 n).1;omega))
 |o::l,i,S,ρ,F,w,y,h,K,D=>by
  obtain⟨S2,h1,h2⟩:=DI (show TY C a.toList i S o (λS2=>VA C a.toList l (rG i) S2 B)=θ r from h);have m:a.toList[i]? =θ o:=by have:=bF (λl=>l[0]?) y;simpa using this.symm
  have p:l=a.toList.drop (i+1):=by have:=bF List.tail y;simpa using this
  refine IK R h1 K Q l λe F2 u J hN O hp=>Zv R l (i+1) S2 e F2 u p h2 J λS3 A V Y h3 I L f k=> ?_;refine D S3 A V Y h3 I (hN.trans L) (λt g=> ?_) (λj d Z hj b n z=> ?_)
  ·rw[zA]at g;rw[f t (λc=>g (.inr c)),O t (λc=>g (.inl c))]
  ·by_cases E:j=i
   ·subst E;rw[m]at n;cases n
    unfold M0 at b;rw[gF,m]at b;simp only[z]at b;have N:=gX b;have M:=gX N.2;have s:=M.2;have G:o.guard=ι:=by
     cases hg:o.guard with
     |none=>rfl
     |some q=>rw[hg]at N;cases N.1
    rw[nI,<-p]at s;cases v:lG d (Gi l)with
    |true=>rw[v]at s;cases s
    |false=>
     rw[v]at s;have h7:=sZ.1 s;obtain⟨X,h8⟩:=hp d G z M.1;have H:V d=F2 d:=f d λc=>by rw[Xq.2 c]at v;cases v
     refine⟨w,X, ?_⟩;rw[H,execOp_congr o (J7 M.1) (ρ':=aX md F) λx hx=> ?_]
     ·exact h8
     ·refine U7 λt g=> ?_;subst g;have U:=h7 t (Dr.2 aD8);rw[f t (λc=>U (eU _ c)),O t (λc=>U (by rw[z]at c;cases c;exact gK))]
   ·exact k j d Z aA0 b n z
theorem UL(m:Env C md w0 S0 GS):aa C md w0 S0 g a ν:=by intro ρ' S x r ρ F w Q h l y;have k:=Zv m a.toList 0 S ρ F w aA3 h l λu b v e t s q p n=>y u b v e t s q p λi d o c f j=>n i d o (cW _) c f j;exact MQ k
end
open Go.Wk
open Go.Ce (Tr)
open Go.Op renaming operands → lM
open Nat renaming beq → cU
section
variable {C:Cx}{ev XY:χ->SV}
theorem sX{sz:Nat->ε (Nat×Nat)}:∀{a:δ (Nat×χ)} {l:δ SC},(∀p∈a,ev p.2=XY p.2)->Hj sz ev a l=Hj sz XY a l
 |[],l,h=>rfl
 |p::a,l,h=>by
  simp only[Hj];rw[h p gK];split
  ·split
   ·rw[sX λq b=>h q (eU _ b)]
   ·rfl
  ·rfl
variable {l:δ χ}
theorem map_congr(h:∀x∈l,ev x=XY x):l.map ev=l.map XY:=bz h
variable {H:δ Ob}
theorem Y1{b:Builtin}{a:δ Nat}(h:∀x∈l,ev x=XY x):MX C ev H b l a=MX C XY H b l a:=by
 match l with
 |[]=>cases b<;>rfl
 |[x]=>
  have e:=h x aA3;cases b<;>simp only[MX]
  ·match a with
   |[]=>rfl
   |[t]=>simp only[e]
   |_::_::_=>rfl
 |[x,y]=>have e:=h x aA3;have c:=h y aA3;cases b<;>first|(rcases a with _|⟨t,_|⟨t2,_|⟨t3,a⟩⟩⟩<;>simp only[MX,e,c];done)|simp only[MX,e,c]
 |_::_::_::_=>cases b<;>rfl
theorem Vl{op:Op}(h:∀x∈op.operands,ev x=XY x):iK C ev H op=iK C XY H op:=by
 cases op<;>first|rfl|skip
 case move x=>simp only[iK,h x aB3]
 case assign x=>simp only[iK,h x aB3]
 case pick c a b=>simp only[iK,h c aB3,h a aB3,h b aB3]
 case binOp b t x y t'=>simp only[iK,h x aB3,h y aB3]
 case unOp u t x=>cases u<;>first|rfl|simp only[iK,h x aB3]
 case convert s t x=>simp only[iK,h x aB3]
 case index t x g=>simp only[iK,h x aB3,h g aB3]
 case slice t x r o q=>
  cases q with
  |some m=>rfl
  |none=>
   have e:=h x aB3;cases r with
   |none=>cases o with
    |none=>simp only[iK,Ia,e]
    |some j=>simp only[iK,Ia,e,h j aB3]
   |some i=>cases o with
    |none=>simp only[iK,Ia,e,h i aB3]
    |some j=>simp only[iK,Ia,e,h i aB3,h j aB3]
 case extract x i=>simp only[iK,h x aB3]
 case field t x f=>simp only[iK,h x aB3]
 case box e x=>simp only[iK,h x aB3]
 case load t x=>simp only[iK,h x aB3]
 case store t x y=>simp only[iK,h x aB3,h y aB3]
 case fieldAddr t x f=>simp only[iK,h x aB3]
 case indexAddr t x g=>simp only[iK,h x aB3,h g aB3]
 case nilCheck x=>simp only[iK,h x aB3]
 case makeSlice t x y=>simp only[iK,h x aB3,h y aB3]
 case build t d=>
  have e:∀p∈d.toList,ev p.2=XY p.2:=λp k=>h p.2 (by simp only[lM,List.mem_toArray,dB];exact⟨p,k,rfl⟩);simp only[iK,Jp];split
  ·rw[sX e]
  ·rfl
 case buildSlice t n d=>
  have e:∀p∈d.toList,ev p.2=XY p.2:=λp k=>h p.2 (by simp only[lM,List.mem_toArray,dB];exact⟨p,k,rfl⟩);simp only[iK,ava];split
  ·split
   ·rw[sX e]
   ·rfl
  ·rfl
 case makeFunc f a b=>
  have e:b.toList.map ev=b.toList.map XY:=map_congr λx hx=>h x (by simp only[lM,yP];exact .inr aD8);simp only[iK,Zx,e]
 case call c=>
  obtain⟨callee,dT,l⟩:=c;cases callee<;>first|rfl|skip
  rename_i b;show MX C ev H b dT.toList l.toList=MX C XY H b dT.toList l.toList;exact Y1 λx hx=>h x (by simp only[lM,Call.operands,yP];exact .inr aD8)
end
def ph(H H2:δ Ob)(a:δ Nat):Prop:=∀id∈a,∀o,fC H id=θ o->fC H2 id=θ o
section
variable {C:Cx}{ev:χ->SV}{H H2:δ Ob}
variable {a:Ro}
theorem Gt{r:Rv}(h:Ml H r=θ a):a.H=H/\a.m=[]/\Ml H2 r=θ ⟨a.g,a.v,H2,[]⟩:=by obtain⟨g,v,c,rfl⟩:=JI h;rw[c];exact⟨rfl,rfl,rfl⟩
theorem mE{r:ε SV}(h:mR H r=θ a):a.H=H/\a.m=[]/\mR H2 r=θ ⟨a.g,a.v,H2,[]⟩:=by obtain⟨v,c,rfl⟩:=Z5 h;rw[c];exact⟨rfl,rfl,rfl⟩
variable {b:Ty}{t m:Nat}{l:δ b.T}
theorem Zs{j:Int}{n:Nat}{c:η}(h:sA H b l j t m n c=θ a):a.H=H/\a.m=[]/\sA H2 b l j t m n c=θ ⟨a.g,a.v,H2,[]⟩:=by
 unfold sA at h⊢;split at h
 ·rename_i v d;have h:=dG h;cases h.2;simp only[h.1,aM,and_self]
 ·cases h
variable {x:SC}
theorem yn(h:kJ C H t x=θ a)(p:ph H H2 (Xh (.c' x))):a.H=H/\a.m=[]/\kJ C H2 t x=θ ⟨a.g,a.v,H2,[]⟩:=by
 unfold kJ at h⊢;split at h
 ·rename_i n c g y;cases o:cU n 0 with
  |true=>rw[o]at h;cases h
  |false=>
   rw[o]at h;split at h
   ·rename_i id off;split at h
    ·rename_i e cs f;rw[p id aE9 _ f];exact mE h
    ·cases h
   ·rename_i id j i off;have key:=p id aE9;split at h
    ·rename_i e b t' l f;rw[key _ f];exact Zs h
    ·rename_i t' l f;rw[key _ f];simp only;cases d:sA H t' l j i off n c with
     |some r=>rw[d]at h;cases h;obtain⟨w,u,s⟩:=Zs d;rw[s];exact⟨w,u,rfl⟩
     |none=>
      rw[d]at h;have e:sA H2 t' l j i off n c=ι:=by
       unfold sA at d⊢;split
       ·rename_i v q;rw[q]at d;cases k:(bif CX i j t' then t'.flat else ν)with
        |true=>rw[k]at d;cases d
        |false=>rfl
       ·rfl
      rw[e];have h:Kp H t' l j off n c=θ a:=h;unfold Kp at h⊢;split at h
      ·have h:=dG h;simp only[h.1];exact mE h.2
      ·cases h
    ·rename_i m l f;rw[key _ f];exact Zs h
    ·cases h
   ·cases h
 ·cases h
theorem yp(h:VQ H t=θ m)(b:∀o,fC H t=θ o->fC H2 t=θ o):VQ H2 t=θ m:=by
 unfold VQ at h⊢;split at h
 ·rename_i a;rw[b _ a];exact h
 ·rename_i a;rw[b _ a];exact h
 ·rename_i a;rw[b _ a];exact h
 ·cases h
theorem ixa_H{g:SC}(h:tj C H t x g=θ a)(i:ph H H2 (Xh (.c' x))):a.H=H/\a.m=[]/\tj C H2 t x g=θ ⟨a.g,a.v,H2,[]⟩:=by
 unfold tj at h⊢;split at h
 ·rename_i j n;split at h
  ·rename_i e k;split at h
   ·rename_i d eT;split at h
    ·rename_i id;split at h
     ·rename_i m f;cases h;rw[yp f (i id aE9)];exact⟨rfl,rfl,rfl⟩
     ·cases h
    ·cases h;exact⟨rfl,rfl,rfl⟩
    ·cases h
   ·cases h
  ·rename_i k;split at h
   ·rename_i q l;split at h
    ·rename_i d eT;split at h
     ·have h:=dG h;cases h.2;simp only[h.1,aM,and_self]
     ·have h:=dG h;have c:=dG h.2;have b:=dG c.2;cases b.2;simp only[h.1,c.1,b.1,aM,and_self]
     ·cases h
    ·cases h
   ·cases h
 ·cases h
theorem cont_H(h:wB H b x=θ l)(t:ph H H2 (Xh (.c' x))):wB H2 b x=θ l:=by
 unfold wB at h⊢;split at h
 ·exact h
 ·rename_i id;have key:=t id aE9;cases a:fC H id with
  |none=>rw[a]at h;cases h
  |some o=>rw[a]at h;rw[key o a];exact h
 ·rename_i id m;have key:=t id aE9;split at h
  ·rename_i e cs a;rw[key _ a];exact h
  ·cases h
 ·cases h
theorem yw(h:(!GB C t)=μ):TQ C t=ι:=by
 unfold GB at h;unfold TQ;split at h
 ·cases h
 ·rfl
theorem conS_H(d:(!GB C m)=μ)(h:BI C H t m x=θ a)(i:ph H H2 (Xh (.c' x))):a.H=H/\a.m=[]/\BI C H2 t m x=θ ⟨a.g,a.v,H2,[]⟩:=by
 have s:=yw d;unfold BI at h⊢;split at h
 ·rename_i e j;have h:=dG h;have c:=dG h.2;have b:=c.2;simp only[h.1,c.1];split at b
  ·rename_i l f;cases b;rw[cont_H f i];exact⟨rfl,rfl,rfl⟩
  ·cases b
 ·cases x with
  |s' l=>simp only[s]at h⊢;exact Gt h
  |_=>exact Gt h
theorem yq{r:δ PD×SV}(h:AH C H t x=θ r)(b:ph H H2 (Xh (.c' x))):AH C H2 t x=θ r:=by
 unfold AH at h⊢;split at h
 ·exact h
 ·split at h
  ·rename_i e c;split at h
   ·rename_i id _;cases a:fC H id with
    |none=>rw[a]at h;cases h
    |some o=>rw[a]at h;rw[b id aE9 o a];exact h
   ·exact h
   ·exact h
   ·cases h
  ·cases h
theorem Wt{x:χ}{id:Nat}(hid:id∈Xh (ev x)):∀{l:δ χ},x∈l->id∈GR ev l
 |y::l,h=>by
  rcases aQ.1 h with rfl|h
  ·exact Ki _ hid
  ·exact YM _ (Wt hid h)
theorem Jl{op:Op}{ro:Ro}(l:Dk C op=μ)(h:iK C ev H op=θ ro)(o:ph H H2 (Ws ev op)):ro.H=H/\ro.m=[]/\iK C ev H2 op=θ ⟨ro.g,ro.v,H2,[]⟩:=by
 cases op<;>first|cases l|skip
 case move x=>exact mE h
 case assign x=>exact mE h
 case pick c a b=>
  obtain⟨x,k,j⟩:=lI (show gN (ev c) (λx=>match x with
   |.b' t=>mR H (match(bif t then ev a else ev b)with
    |.u'=>ι
    |v=>θ v)
   |_=>ι)=θ ro from h)
  split at j
  ·rename_i t;have:=mE (H2:=H2) j;simp only[iK,k,gN];exact this
  ·cases j
 case binOp b t x y t'=>exact Gt h
 case unOp u t x=>cases u<;>first|cases h|exact Gt h
 case convert s t x=>
  obtain⟨c,k,j⟩:=lI (show gN (ev x) (BI C H s t)=θ ro from h);have:=conS_H (H2:=H2) l j (by rw[<-k];exact o);simp only[iK,k,gN];exact this
 case index t x r=>
  simp only[iK]at h⊢;cases p:wD C t with
  |true=>rw[p]at h;exact Gt h
  |false=>
   rw[p]at h;simp only[aH]at h⊢;split at h
   ·exact Gt h
   ·cases h
 case slice t x E F w=>
  cases w with
  |some m=>cases h
  |none=>have l:wD C t=μ:=l;simp only[iK,l,aM]at h⊢;exact Gt h
 case extract x i=>
  simp only[iK]at h⊢;split at h
  ·split at h
   ·cases h;exact⟨rfl,rfl,rfl⟩
   ·cases h
  ·cases h
 case field t x f=>
  simp only[iK]at h⊢;split at h
  ·split at h
   ·exact mE h
   ·cases h
  ·cases h
 case build t D=>exact mE h
 case fieldAddr t x f=>
  obtain⟨c,k,j⟩:=lI (show gN (ev x) (λa=>mR H (bko C t f a))=θ ro from h);have:=mE (H2:=H2) j;simp only[iK,k,gN];exact this
 case load t x=>
  obtain⟨c,k,j⟩:=lI (show gN (ev x) (λa=>kJ C H t a)=θ ro from h);have:=yn (H2:=H2) j (by rw[<-k];exact o);simp only[iK,k,gN];exact this
 case indexAddr t x r=>
  obtain⟨c,k,j⟩:=lI (show gN (ev x) (λa=>gN (ev r) λi=>tj C H t a i)=θ ro from h);obtain⟨d,q,B⟩:=lI j;have:=ixa_H (H2:=H2) B (by rw[<-k];exact o);simp only[iK,k,q,gN];exact this
 case makeFunc f a b=>exact mE h
 case nilCheck x=>
  obtain⟨c,k,j⟩:=lI (show gN (ev x) (λa=>mR H (EU a))=θ ro from h);have:=mE (H2:=H2) j;simp only[iK,k,gN];exact this
 case call c=>
  obtain⟨callee,dT,n⟩:=c;cases callee<;>first|cases l|skip
  rename_i b;have key:∀(dT:δ χ) (n:δ Nat),ph H H2 (GR ev dT)->MX C ev H b dT n=θ ro->ro.H=H/\ro.m=[]/\MX C ev H2 b dT n=θ ⟨ro.g,ro.v,H2,[]⟩:=by
   clear h o;intro dT n o h;have A:∀x y,b≠.append->dT=[x,y]->ro.H=H/\ro.m=[]/\MX C ev H2 b dT n=θ ⟨ro.g,ro.v,H2,[]⟩:=by intro x y p e;subst e;cases b<;>first|exact absurd rfl p|exact Gt h
   rcases dT with _|⟨x,_|⟨y,_|⟨z,dT⟩⟩⟩
   ·cases b<;>cases h
   ·cases b<;>first|cases l|skip
    ·rcases n with _|⟨t,_|⟨t2,n⟩⟩
     ·cases h
     ·obtain⟨g,v,k,rfl⟩:=JI (show Ml H (gN (ev x) (AH C H t))=θ ro from h);obtain⟨c,j,q⟩:=lI k;refine⟨rfl,rfl, ?_⟩;show Ml H2 (gN (ev x) (AH C H2 t))=_;rw[j];show Ml H2 (AH C H2 t c)=_;rw[yq q (λid hid=>o id (Wt (x:=x) (by rw[j];exact hid) gK))];rfl
     ·cases h
    ·cases h
    ·cases h
   ·exact A x y (λe=>by subst e;cases l) rfl
   ·cases b<;>cases h
  exact key _ _ o h
end
open Go.Wk
open Go.Ce (Tr)
open Go.Op renaming operands → lM
open Nat renaming beq → cU, blt → fL
section
variable {C:Cx}{ev:χ->SV}{H:δ Ob}
variable {a:Ob}{k:Nat}
theorem Y2{x:Ob}(h:H[k]? =θ a):(H++[x])[k]? =θ a:=by rw[aJ (aF.1 h).1];exact h
theorem aw{a:Type}{l:δ a}{j:Nat}{y:a}(h:k≠j):(jH l k y)[j]? =l[j]? :=by rw[yE,aA (λb=>h b.1.symm)]
theorem gv{op:Op}{ro:Ro}(h:iK C ev H op=θ ro)(r:∀q∈ro.m,q.1≠k)(hid:H[k]? =θ a):ro.H[k]? =θ a:=by
 cases G:Dk C op with
 |true=>have:=(Jl (H2:=H) G h (λ_ _ _ h=>h)).1;rw[this];exact hid
 |false=>
  cases op<;>first|exact absurd (show μ=ν from G) aA3|cases h|skip
  case convert s t x=>
   obtain⟨c,E,d⟩:=lI (show gN (ev x) (BI C H s t)=θ ro from h);unfold BI at d;split at d
   ·have p:=(dG (dG d).2).2;split at p
    ·cases p;exact hid
    ·cases p
   ·split at d
    ·split at d
     ·have p:=(dG (dG d).2).2;cases p;exact Y2 hid
     ·obtain⟨g,v,_,rfl⟩:=JI d;exact hid
    ·obtain⟨g,v,_,rfl⟩:=JI d;exact hid
  case slice t x F J Q=>
   have A:wD C t=ν:=G;cases Q with
   |some m=>cases h
   |none=>
    have h:(bif wD C t then Ml H (gN (ev x) λw=>Ia ev F λi=>Ia ev J λj=>W5 w i j)else gN (ev x) λw=>Ia ev F λi=>Ia ev J λj=>Hz C H t w i j)=θ ro:=h;rw[A]at h;obtain⟨c,E,d⟩:=lI (show gN (ev x) (λw=>Ia ev F λi=>Ia ev J λj=>Hz C H t w i j)=θ ro from h);have key:∀i j,Hz C H t c i j=θ ro->ro.H[k]? =θ a:=λi j I=>by obtain⟨z,O,T,l,_,_,_,_,_,K⟩:=Ds I;rcases K with⟨b,a0,_,_,_,rfl⟩|⟨b,a0,_,_,_,rfl⟩<;>exact Y2 hid
    rcases YB d with⟨f,u⟩|⟨o,b,f,u,R⟩
    ·rcases YB u with⟨M,D⟩|⟨a,S,M,D,L⟩
     ·exact key _ _ D
     ·exact key _ _ L
    ·rcases YB R with⟨M,D⟩|⟨a,S,M,D,L⟩
     ·exact key _ _ D
     ·exact key _ _ L
  case alloc e=>
   simp only[iK]at h;split at h
   ·cases h;exact Y2 hid
   ·cases h
  case box e x=>
   simp only[iK]at h;split at h
   ·cases h;exact Y2 hid
   ·cases h
  case buildSlice t n W=>
   simp only[iK,ava]at h;split at h
   ·split at h
    ·have p:=(dG (dG h).2).2;split at p
     ·cases p;exact Y2 hid
     ·cases p
    ·cases h
   ·cases h
  case store t x y=>
   obtain⟨c,E,d⟩:=lI (show gN (ev x) (λw=>Jo C H t w (ev y))=θ ro from h);unfold Jo at d;split at d
   ·rename_i n U _ _;have d:=(dG d).2;split at d
    ·split at d
     ·split at d
      ·cases d;rw[aw (r _ gK)];exact hid
      ·cases d
     ·cases d
    ·rename_i z j V off;cases N:cU n 0 with
     |true=>rw[N]at d;cases d
     |false=>
      rw[N]at d;simp only[aH]at d;split at d
      ·split at d
       ·have p:=(dG d).2;cases p;rw[aw (r _ gK)];exact hid
       ·cases d
      ·split at d
       ·split at d
        ·have p:=(dG d).2;cases p;rw[aw (r _ gK)];exact hid
        ·cases d
       ·cases d
      ·cases d
    ·cases d
   ·cases d
  case makeSlice t x y=>
   obtain⟨w,E,d⟩:=lI (h);obtain⟨c,p,f⟩:=lI d;unfold Dt at f;split at f
   ·have u:=(dG f).2;split at u
    ·cases u;exact Y2 hid
    ·cases u
   ·cases f
  case call c=>
   obtain⟨callee,dT,P⟩:=c;cases callee<;>first|cases h|skip
   rename_i b;have h:MX C ev H b dT.toList P.toList=θ ro:=h;unfold MX at h;split at h
   ·obtain⟨g,v,_,rfl⟩:=JI h;exact hid
   ·rename_i x y t t2 Z O Y;cases B:cU t t2 with
    |true=>
     rw[B]at h;obtain⟨w,E,d⟩:=lI h;obtain⟨c,p,f⟩:=lI d;unfold sD at f;split at f
     ·split at f
      ·split at f
       ·cases f;exact Y2 hid
       ·cases f
      ·split at f
       ·cases f;exact Y2 aF3
       ·cases f
      ·split at f
       ·cases f;exact Y2 aF3
       ·cases f
      ·cases f
     ·cases f
    |false=>
     rw[B]at h;obtain⟨w,E,d⟩:=lI h;obtain⟨c,p,f⟩:=lI d;obtain⟨X,O,_,_,_,_,K⟩:=Ft f;rcases K with⟨_,rfl⟩|⟨z,l,_,_,rfl⟩
     ·exact Y2 hid
     ·exact Y2 aF3
   ·obtain⟨g,v,_,rfl⟩:=JI h;exact hid
   ·cases h
end
variable {H:δ Ob}{o:Ob}{a:Nat}
theorem By{obs:δ Ob}(h:H[a]? =θ o):(H++obs)[a]? =θ o:=by rw[aJ (aF.1 h).1];exact h
theorem J5{ss:δ Src}:∀{r:δ Rk} {y:(hC r).T} {l:δ SA} {H:δ Ob},a∉kI ss (Rk.ids r)->H[a]? =θ o->(fW (Jv ss) (l,H) r y).2[a]? =θ o:=by
 have one:∀q v l (H:δ Ob),a∉kI ss (Rk.ids [q])->H[a]? =θ o->(q.put (Jv ss) (l,H) v).2[a]? =θ o:=by
  intro q v l H b g;cases q with
  |r' x=>exact By g
  |o' j e x=>exact By (by rw[aw (λe=>b (by show a∈[Jv ss j];rw[e];exact aG.2 rfl))];exact g)
  |w' j x=>
   show(qL H _ x v)[a]? =θ o;unfold qL;split
   ·rw[aw (λe=>b (by show a∈[Jv ss j];rw[e];exact aG.2 rfl))];exact g
   ·exact g
 intro r;induction r with
 |nil=>intro y l H _ g;exact g
 |cons q r f=>
  intro y l H b g;cases r with
  |nil=>exact one q y l H b g
  |cons d r=>
   have c:a∉kI ss (Rk.ids [q])/\a∉kI ss (Rk.ids (d::r)):=by
    cases q with
    |r' x=>exact⟨(λh=>by cases h),b⟩
    |o' i e x=>exact⟨λh=>b (aQ.2 (.inl (aG.1 h))),λh=>b (eU _ h)⟩
    |w' i x=>exact⟨λh=>b (aQ.2 (.inl (aG.1 h))),λh=>b (eU _ h)⟩
   exact f c.2 (one q y.1 l H c.1 g)
theorem JP{l:δ Nat}(h:a∈l):∃q∈Xl H l,q.1=a:=⟨_,bjc h,rfl⟩
theorem Qc{H:δ Ob}:∀{l:δ Nat} {id:Nat},id∈l->∃q∈BN H l,q.1=id
 |x::l,id,h=>by
  rcases aQ.1 h with rfl|h
  ·exact⟨_,gK,rfl⟩
  ·obtain⟨q,b,a⟩:=Qc h;exact⟨q,eU _ b,a⟩
section
variable {C:Cx}{ops:δ Α}{S S1:St}{o:Α}
theorem We:∀(t:Ty) (s n c) x,t.no=0->(t.lay s n x).1=(t.lay s c x).1:=by
 intro t;induction t with
 |w' t d=>intro s n c x h;exact d s n c x h
 |pr a b g f=>
  intro s n c x h;have j:a.no=0:=by have:a.no+b.no=0:=h;omega
  have i:b.no=0:=by have:a.no+b.no=0:=h;omega
  show(a.lay s n x.1).1++(b.lay s _ x.2).1=(a.lay s c x.1).1++(b.lay s _ x.2).1;rw[g s n c x.1 j,f s _ _ x.2 i]
 |f' k t d=>intro s n c x h;show [SC.f' k _]=[SC.f' k _];rw[d s n c x h]
 |l' e b t d=>intro s n c x h;cases h
 |y'=>intro s n c x h;cases h
 |r' t d=>intro s n c x h;cases h
 |p' e t d=>intro s n c x h;cases h
 |z'=>intro s n c x h;cases h
 |_=>intro s n c x h;rfl
variable {e:η}{H:δ Ob}
theorem ft{H2:δ Ob}:∀(t:Ty) s l,t.no=0->t.rd e H2 s l=t.rd e H s l/\∀x r ss,t.rd e H s l=θ (x,r,ss)->ss=[]:=by
 intro t;induction t with
 |w' t d=>intro s l h;exact d s l h
 |pr a b i g=>
  intro s l h;have y:a.no=0:=by have:a.no+b.no=0:=h;omega
  have w:b.no=0:=by have:a.no+b.no=0:=h;omega
  obtain⟨o,n⟩:=i s l y;simp only[Ty.rd];rw[o];cases u:a.rd e H s l with
  |none=>exact⟨rfl,λx r ss h=>by cases h⟩
  |some q=>
   obtain⟨x,f,D⟩:=q;obtain⟨A,z⟩:=g s f w;simp only;rw[A];cases m:b.rd e H s f with
   |none=>exact⟨rfl,λx r ss h=>by cases h⟩
   |some E=>refine⟨rfl,λx r ss h=> ?_⟩;cases h;rw[n _ _ _ u,z _ _ _ m];rfl
 |sm a b _ _=>intro s l h;exact⟨rfl,λx r ss h=>by cases h⟩
 |l' F b t d=>intro s l h;cases h
 |y'=>intro s l h;cases h
 |r' t d=>intro s l h;cases h
 |p' F t d=>intro s l h;cases h
 |z'=>intro s l h;cases h
 |u'=>intro s l h;exact⟨rfl,λx r ss h=>by cases h;rfl⟩
 |o' j=>
  intro s l h;refine⟨rfl,λx r ss h=> ?_⟩;simp only[Ty.rd]at h;split at h
  ·have:=dG h;cases this.2;rfl
  ·cases h
 |f' k t d=>
  intro s l h;simp only[Ty.rd];split
  ·rename_i k' p f;obtain⟨o,n⟩:=d s _ h;rw[o];refine⟨rfl,λx r ss h=> ?_⟩;have h:=(dG h).2;split at h
   ·rename_i B C m;cases h;have:=dG m;exact n _ _ _ this.2
   ·cases h
  ·exact⟨rfl,λx r ss h=>by cases h⟩
 |_=>intro s l h;refine⟨rfl,λx r ss h=> ?_⟩;obtain⟨c,_,_,v⟩:=nR h;exact v
variable {v:SV}
theorem EF{H2:δ Ob}{x:Ty}(h:x.no=0):UM e H2 x v=UM e H x v/\∀y ss,UM e H x v=θ (y,ss)->ss=[]:=by
 have key:∀l,Tg (x.rd e H2 0 l)=Tg (x.rd e H 0 l)/\∀y ss,Tg (x.rd e H 0 l)=θ (y,ss)->ss=[]:=by
  intro l;obtain⟨d,b⟩:=ft x 0 l h;rw[d];refine⟨rfl,λy ss h=> ?_⟩;unfold Tg at h;split at h
  ·rename_i a;cases h;exact b _ _ _ a
  ·cases h
 cases v with
 |c' c=>simp only[UM];cases x.tz<;>cases x.agg<;>simp<;>first|exact key _|exact⟨rfl,λy ss h=>by cases h⟩|exact⟨trivial,λy ss h=>by cases h⟩
 |a' l=>simp only[UM];cases x.tz<;>cases x.agg<;>simp<;>first|exact key _|exact⟨rfl,λy ss h=>by cases h⟩|exact⟨trivial,λy ss h=>by cases h⟩
 |_=>exact⟨rfl,λy ss h=>by cases h⟩
theorem Mh{H H2:δ Ob}:∀l vs,Bo l=μ->PN H2 l vs=PN H l vs/\∀y ss,PN H l vs=θ (y,ss)->ss=[]
 |[],vs,h=>by
  cases vs with
  |nil=>exact⟨rfl,λy ss h=>by cases h;rfl⟩
  |cons v vs=>exact⟨rfl,λy ss h=>by cases h⟩
 |[x],vs,h=>by
  have h:=gX (h);have hx:=gR h.1
  match vs with
  |[]=>exact⟨rfl,λy ss h=>by cases h⟩
  |[v]=>exact EF hx
  |_::_::_=>exact⟨rfl,λy ss h=>by cases h⟩
 |x::y::l,vs,h=>by
  have h:=gX (h);have hx:=gR h.1
  match vs with
  |[]=>exact⟨rfl,λy ss h=>by cases h⟩
  |v::vs=>
   obtain⟨f,e⟩:=EF hx;obtain⟨d,c⟩:=Mh _ vs h.2;simp only[PN];rw[f];cases b:UM μ H x v with
   |none=>exact⟨rfl,λy ss h=>by cases h⟩
   |some q=>
    rw[d];cases a:PN H _ vs with
    |none=>exact⟨rfl,λy ss h=>by cases h⟩
    |some g=>refine⟨rfl,λy ss h=> ?_⟩;cases h;rw[e _ _ b,c _ _ a];rfl
theorem Wf:∀l H x,Bo l=μ->(jK H l x).2=H
 |[],H,x,h=>rfl
 |[t],H,x,h=>by have h:=gX (show(bif cU t.no 0 then Bo []else ν)=μ from h);show H++(t.lay 0 (γ H) x).2=H;rw[Je ((Ty.eC t 0 (γ H) x).trans (gR h.1)),gD]
 |t::y::l,H,x,h=>by have h:=gX (show(bif cU t.no 0 then Bo (y::l)else ν)=μ from h);show(jK (H++(t.lay 0 (γ H) x.1).2) (y::l) x.2).2=H;rw[Je ((Ty.eC t 0 (γ H) x.1).trans (gR h.1)),gD];exact Wf _ H x.2 h.2
theorem pG{k:Rk}{l:δ Rk}(h:vZ (k::l)=μ):∃x,k=.r' x/\x.no=0/\vZ l=μ:=by
 cases k with
 |r' x=>have h:=gX (h);exact⟨x,rfl,gR h.1,h.2⟩
 |_=>cases h
theorem Dl{a:Nat->Nat}:∀r y l H,vZ r=μ->(fW a (l,H) r y).2=H/\∀H2,(fW a (l,H2) r y).1=(fW a (l,H) r y).1
 |[],y,l,H,h=>⟨rfl,λ_=>rfl⟩
 |[k],y,l,H,h=>by
  obtain⟨x,rfl,hx,_⟩:=pG h;have e:∀n,(x.lay 0 n y).2=[]:=λn=>Je ((Ty.eC x 0 n y).trans hx);refine⟨?_,λH2=> ?_⟩
  ·show H++(x.lay 0 (γ H) y).2=H;rw[e,gD]
  ·show l++[x.sa (x.lay 0 (γ H2) y).1]=l++[x.sa (x.lay 0 (γ H) y).1];rw[We x 0 (γ H2) (γ H) y hx]
 |k::b::r,y,l,H,h=>by
  obtain⟨x,rfl,hx,d⟩:=pG h;have e:∀n,(x.lay 0 n y.1).2=[]:=λn=>Je ((Ty.eC x 0 n y.1).trans hx);have c:∀H,fW a (l,H) (.r' x::b::r) y=fW a (l++[x.sa (x.lay 0 0 y.1).1],H) (b::r) y.2:=λH=>by show fW a (l++[x.sa (x.lay 0 (γ H) y.1).1],H++(x.lay 0 (γ H) y.1).2) (b::r) y.2=_;rw[e,gD,We x 0 (γ H) 0 y.1 hx]
  rw[c];obtain⟨g,f⟩:=Dl _ y.2 _ H d;refine⟨g,λH2=> ?_⟩;rw[c];exact f H2
theorem GH:∀r,vZ r=μ->Rk.ids r=[]
 |[],h=>rfl
 |k::r,h=>by obtain⟨x,rfl,_,a⟩:=pG h;exact GH r a
theorem Uw{H H2:δ Ob}{ss:δ Src}:∀r,vZ r=μ->Lu H2 ss r=Lu H ss r
 |[],h=>rfl
 |k::r,h=>by obtain⟨x,rfl,_,a⟩:=pG h;simp only[Lu];rw[Uw r a]
theorem Wv:∀{l:δ yW} {c:yW},c∈l->U4 l=μ->Bo c.a=μ/\vZ c.r=μ
 |x::l,c,b,h=>by
  have h:=gX (h);have d:=gX h.2;rcases aQ.1 b with rfl|b
  ·exact⟨h.1,d.1⟩
  ·exact Wv b d.2
variable {c:yW}{d:ε Nat}{b:δ Src}{a:(gE c.a).T}{y:(hC c.r).T}
theorem tF{t:Nat}:(kQ c S d a b y).at t=if d=θ t then mF (fW (Jv b) ([],kill S.H (kO (Rk.ids c.r) (jK [] c.a a).2 0 b)) c.r y).1 else S.at t:=by have e:kQ c S d a b y=St.xA _ d _:=rfl;rw[e,uW];rfl
theorem BU{S:St}:(S.xA d v).H=S.H/\(S.xA d v).m=S.m/\(S.xA d v).nb=S.nb/\(S.xA d v).al=S.al:=by cases d<;>exact⟨rfl,rfl,rfl,rfl⟩
theorem XG:(kQ c S d a b y).H=(fW (Jv b) ([],kill S.H (kO (Rk.ids c.r) (jK [] c.a a).2 0 b)) c.r y).2/\(kQ c S d a b y).m=kR c S a b++S.m/\(kQ c S d a b y).nb=S.nb/\(kQ c S d a b y).al=S.al:=by exact⟨BU.1,BU.2.1,BU.2.2.1,BU.2.2.2⟩
theorem bfp{d:ε Nat}{y:(hC c.r).T}(g:Bo c.a=μ)(b:vZ c.r=μ):(kQ c S d a [] y).H=S.H/\(kQ c S d a [] y).m=S.m/\kR c S a []=[]/\∀S2:St,mF (fW (Jv []) ([],kill S2.H (kO (Rk.ids c.r) (jK [] c.a a).2 0 [])) c.r y).1=mF (fW (Jv []) ([],kill S.H (kO (Rk.ids c.r) (jK [] c.a a).2 0 [])) c.r y).1:=by
 have e:kO (Rk.ids c.r) (jK [] c.a a).2 0 []=[]:=by rw[Wf c.a [] a g];rfl
 have f:kR c S a []=[]:=by unfold kR;rw[e,GH c.r b];rfl
 refine⟨?_, ?_,f,λS2=> ?_⟩
 ·rw[XG.1,e];exact(Dl c.r y [] S.H b).1
 ·rw[XG.2.1,f];rfl
 ·rw[e];show mF (fW _ ([],S2.H) c.r y).1=mF (fW (Jv []) ([],S.H) c.r y).1;rw[(Dl c.r y [] S.H b).2 S2.H]
theorem L9{ev:χ->SV}{op:Op}{ro:Ro}(h:iK C ev H op=θ ro)(a:qt C op=μ):Dk C op=μ:=by
 unfold qt at a;cases b:Dk C op with
 |true=>rfl
 |false=>
  rw[b]at a;split at a
  ·rename_i c;split at a
   ·rename_i k d;simp only[iK,d]at h;cases h
   ·cases a
  ·cases a
theorem Qe(h:um C S o S1)(e:qt C o.op=μ):∃b f k d c a y,o.op=.call b/\b.callee=.value f/\S.ev C f=.c' (.f' k d)/\c∈C.X k/\PN S.H c.a (b.args.toList.map (S.ev C)++XD d)=θ (a,[])/\mK c S a []=μ/\(c.f a).ok y/\S1=kQ c S o.dst a [] y/\Bo c.a=μ/\vZ c.r=μ:=by
 obtain⟨b,f,k,d,c,a,w,y,g,p,n,u,t,l,x,q⟩:=h.ex;unfold qt at e;rw[g]at e;have j:Dk C (.call b)=ν:=by
  show(match b.callee with
   |.builtin .len=>μ
   |.builtin .min=>μ
   |.builtin .max=>μ
   |_=>ν)=ν
  rw[p]
 rw[j]at e;simp only[p]at e;split at e
 ·rename_i s m;cases m;have i:S.ev C (.func s)=.c' (.f' s []):=rfl;cases n;obtain⟨v,z⟩:=Wv u e;obtain rfl:=(Mh (H:=S.H) (H2:=S.H) c.a _ v).2 a w t;exact⟨b,_,_,_,c,a,y,g,p,i,u,t,l,x,q,v,z⟩
 ·cases e
theorem y8(h:JK C ops S o S1):(∀t,o.dst≠θ t->S1.at t=S.at t)/\S1.nb=S.nb/\S1.al=S.al:=by
 cases h with
 |op j ro h r i p=>refine⟨λt g=> ?_,BU.2.2.1,BU.2.2.2⟩;rw[uW,aA g];rfl
 |mv j x d b hx i q=>exact⟨λt g=>by rw[kU,aA (λe=>g (by rw[i,e]))],rfl,rfl⟩
 |skip j d i=>exact⟨λt g=>by rw[kU,aA (λe=>g (by rw[i,e]))],rfl,rfl⟩
 |call j _ h=>obtain⟨m,f,k,l,c,a,n,y,_,_,_,_,_,_,_,rfl⟩:=h;exact⟨λt g=>by rw[tF,aA g],XG.2.2.1,XG.2.2.2⟩
theorem Xs(h:JK C ops S o S1)(g:qt C o.op=μ):S1.H=S.H/\S1.m=S.m:=by
 cases h with
 |op e ro h s i q=>have:=Jl (L9 h g) h (λ_ _ _ h=>h);refine⟨BU.1.trans this.1,BU.2.1.trans ?_⟩;rw[this.2.1];rfl
 |mv e x d b hx i r=>exact⟨rfl,rfl⟩
 |skip e d i=>exact⟨rfl,rfl⟩
 |call e _ h=>obtain⟨p,f,k,n,c,a,y,_,_,_,_,_,_,_,rfl,l,j⟩:=Qe h g;exact⟨(bfp l j).1,(bfp l j).2.1⟩
theorem SM(h:JK C ops S o S1):∃p,S1.m=p++S.m/\∀id e,(∀q∈p,q.1≠id)->fC S.H id=θ e->fC S1.H id=θ e:=by
 cases h with
 |op j ro h z r v=>refine⟨ro.m,BU.2.1,λid e g hid=> ?_⟩;rw[gF]at hid⊢;rw[BU.1];exact gv h g hid
 |mv j x d b hx r w=>exact⟨[],rfl,λid e _ h=>h⟩
 |skip j d r=>exact⟨[],rfl,λid e _ h=>h⟩
 |call j _ h=>
  obtain⟨u,f,k,t,c,a,s,y,_,_,_,_,_,_,_,rfl⟩:=h;refine⟨kR c S a s,XG.2.1,λid e g hid=> ?_⟩;rw[gF]at hid⊢;rw[XG.1];refine J5 (λi=> ?_) ?_
  ·obtain⟨q,n,l⟩:=Qc i;exact g q (YM _ n) l
  ·rw[SE,aA (λi=> ?_)]
   ·exact hid
   ·obtain⟨q,n,l⟩:=JP i;exact g q (Ki _ n) l
theorem Du{S S2:St}(a:S2.nb=S.nb)(b:S2.al=S.al):∀l,S2.Gx l=S.Gx l
 |[]=>rfl
 |x::l=>by show(bif S2.ok x then S2.Gx l else ν)=(bif S.ok x then S.Gx l else ν);rw[Du a b l];unfold St.ok;rw[a,b]
theorem y7(h:JK C ops S o S1){S2:St}(ho:∀t,Operand.tmp t∈o.op.operands->S2.at t=S.at t)(a0:∀t∈Wo ops o,S2.at t=S.at t)(l:S2.nb=S.nb)(n:S2.al=S.al)
  (hq:qt C o.op=μ->ph S.H S2.H (Ws (S.ev C) o.op)) (M:qt C o.op=ν->S2.H=S.H):
  ∃K,JK C ops S2 o K/\(∀t,K.at t=if o.dst=θ t then S1.at t else S2.at t)/\K.nb=S.nb/\K.al=S.al/\(qt C o.op=μ->K.H=S2.H/\K.m=S2.m)/\(qt C o.op=ν->K.H=S1.H/\∀R,S1.m=R++S.m->K.m=R++S2.m):=by
 have s:∀x∈o.op.operands,S2.ev C x=S.ev C x:=by
  intro x hx;cases x with
  |tmp t=>show(bif fL t C.nn then S2.at t else .u')=(bif fL t C.nn then S.at t else .u');rw[ho t hx]
  |_=>rfl
 have z:∀b,XQ C ops S o b->XQ C ops S2 o b:=by
  intro b D;have gs:∀q dg,o.guard=θ q->GP ops q.1=θ dg->S2.at dg=S.at dg:=by intro q dg A G;refine a0 dg ?_;unfold Wo;rw[A];simp only[G,aG]
  cases D with
  |none h=>exact .none h
  |yes q dg h A G U=>exact .yes q dg h A G aF4
  |no q dg h A G U=>exact .no q dg h A G aF4
  |un q dg h A G U=>exact .un q dg h A G aF4
 have X:= @Jl C;cases h with
 |op D ro h ha I hm=>
  cases i:qt C o.op with
  |true=>
   have A:=Jl (L9 h i) h (hq i);have G:iK C (S2.ev C) S2.H o.op=θ ⟨ro.g,ro.v,S2.H,[]⟩:=by rw[Vl s];exact A.2.2
   refine⟨_,.op (z _ D) _ G ha I rfl,λt=> ?_,BU.2.2.1.trans l,BU.2.2.2.trans n,λ_=>⟨BU.1,BU.2.1⟩,λe=>by cases e⟩;rw[uW,uW];split<;>rfl
  |false=>
   have J:=M i;have G:iK C (S2.ev C) S2.H o.op=θ ro:=by rw[Vl s,J];exact h
   refine⟨_,.op (z _ D) ro G ha I (by rw[Du l n];exact hm),λt=> ?_,BU.2.2.1.trans l,BU.2.2.2.trans n,(λe=>by cases e),λ_=>⟨by rw[BU.1,BU.1],λR j=> ?_⟩⟩
   ·rw[uW,uW];split<;>rfl
   ·rw[BU.2.1]at j⊢;have:=List.append_cancel_right j;show ro.m++S2.m=_;rw[this]
 |mv D x d b hx I hb=>
  have W:x∈o.op.operands:=by
   obtain⟨a4,op,ty,pos,after,gd⟩:=o;cases op<;>first|cases hx|skip
   ·simp[lM]
   ·simp[lM]
  have i:qt C o.op=μ:=by
   obtain⟨a4,op,ty,pos,after,gd⟩:=o;cases op<;>first|cases hx|skip
   ·rfl
   ·rfl
  refine⟨_,.mv (z _ D) x d b hx I (by rw[s x W];exact hb),λt=> ?_,l,n,λ_=>⟨rfl,rfl⟩,λe=>by rw[i]at e;cases e⟩;rw[kU,kU,I];by_cases e:t=d
  ·subst e;simp
  ·have e2:¬(θ d)=θ t:=λM=>e (aP M).symm;rw[aA e,aA e2]
 |skip D d I=>
  have a2:∀t,(S2.set d .n').at t=if o.dst=θ t then(S.set d .n').at t else S2.at t:=by
   intro t;rw[kU,kU,I];by_cases e:t=d
   ·subst e;simp
   ·have e2:¬(θ d)=θ t:=λM=>e (aP M).symm;rw[aA e,aA e2]
  exact⟨_,.skip (z _ D) d I,a2,l,n,λ_=>⟨rfl,rfl⟩,λi=>⟨M i,λR j=>by have j:=j;have:R=[]:=List.append_left_eq_self.1 j.symm;rw[this];rfl⟩⟩
 |call D _ h=>
  cases i:qt C o.op with
  |true=>
   obtain⟨u,f,k,L,c,a,y,p,T,N,hc,Y,w,V,rfl,F,E⟩:=Qe h i;have O:f∈o.op.operands:=by rw[p];simp[lM,Call.operands,T]
   have P:u.args.toList.map _=u.args.toList.map _:=map_congr λx hx=>s x (by rw[p];simp only[lM,Call.operands,yP];exact .inr aD8);have e0:∀Z:St,kR c Z a []=[]:=λZ=>(bfp (S:=Z) (d:=ι) (y:=y) F E).2.2.1;have B:mK c S2 a []=μ:=by unfold mK at w⊢;rw[e0,Uw c.r E];rw[e0]at w;exact w
   refine⟨_,.call (z _ D) _ ⟨u,f,k,L,c,a,[],y,p,T,by rw[s f O];exact N,hc,by rw[P,(Mh c.a _ F).1];exact Y,B,V,rfl⟩,λt=> ?_,XG.2.2.1.trans l,XG.2.2.2.trans n,λ_=>⟨(bfp F E).1,(bfp F E).2.1⟩,(λe=>by cases e)⟩;rw[tF,tF];by_cases e:o.dst=θ t
   ·rw[aB e,aB e,aB e];exact(bfp (S:=S) (d:=ι) F E).2.2.2 S2
   ·rw[aA e,aA e]
  |false=>
  have J:=M i;obtain⟨u,f,k,L,c,a,Q,y,p,T,N,hc,Y,w,V,rfl⟩:=h;have O:f∈o.op.operands:=by rw[p];simp[lM,Call.operands,T]
  have P:u.args.toList.map _=u.args.toList.map _:=map_congr λx hx=>s x (by rw[p];simp only[lM,Call.operands,yP];exact .inr aD8)
  have B:mK c S2 a Q=μ:=by
   unfold mK at w⊢;rw[Du l n,J];have e:kR c S2 a Q=kR c S a Q:=by unfold kR;rw[J]
   rw[e];exact w
  refine⟨_,.call (z _ D) _ ⟨u,f,k,L,c,a,Q,y,p,T,by rw[s f O];exact N,hc,by rw[P,J];exact Y,B,V,rfl⟩,λt=> ?_,XG.2.2.1.trans l,XG.2.2.2.trans n,(λe=>by cases e),λ_=>⟨?_,λR j=> ?_⟩⟩
  ·rw[tF,tF,J];split<;>rfl
  ·rw[XG.1,XG.1,J]
  ·rw[XG.2.1]at j⊢;have:=List.append_cancel_right j;have e:kR c S2 a Q=kR c S a Q:=by unfold kR;rw[J]
   rw[e,this]
end
open Go.Wk
open Go.Ce (Tr)
open Go.Op renaming operands → lM
open Nat renaming beq → cU, succ → rG
theorem IH:∀l A,(∃B,gO l A=A++B)/\∀i o,l[i]? =θ o->(gO l A)[γ A+i]? =θ (Qp ((gO l A).take (γ A+i)) o.after.toList)
 |[],A=>⟨⟨[],by simp[gO]⟩,λi o h=>by simp at h⟩
 |o::l,A=>by
  obtain⟨⟨B,b⟩,c⟩:=IH l (A++[Qp A o.after.toList]);have e:gO (o::l) A=gO l (A++[Qp A o.after.toList]):=rfl;refine⟨⟨[Qp A o.after.toList]++B,by rw[e,b,gZ]⟩,λi a h=> ?_⟩;cases i with
  |zero=>have h:o=a:=aA8;subst h;rw[e,b];simp
  |succ i=>have:=c i a aA8;rw[cG,eI,Ct,Hv 1 i]at this;exact this
theorem Kx{j:Nat}:∀{l r:δ Nat},j∈TH l r↔j∈l\/j∈r
 |[],r=>by simp[TH]
 |x::l,r=>by
  unfold TH;cases h:lG x r with
  |true=>have hx:=Xq.1 h;rw[aM,Kx,aQ];exact⟨λh=>h.elim (λh=>.inl (.inr h)) .inr,λh=>h.elim (λh=>h.elim (λe=>.inr (e▸hx)) .inl) .inr⟩
  |false=>rw[aH,Kx,aQ,aQ];exact⟨λh=>h.elim (λh=>.inl (.inr h)) (λh=>h.elim (λe=>.inl (.inl e)) .inr),λh=>h.elim (λh=>h.elim (λe=>.inr (.inl e)) .inl) (λh=>.inr (.inr h))⟩
theorem II{A:δ (δ Nat)}{j:Nat}:∀{l:δ Edge},j∈Qp A l↔∃e∈l,Region.binds .any e=μ/\(j=e.on\/j∈Qh A e.on)
 |[]=>by simp[Qp]
 |e::l=>by
  have a:=II (A:=A) (j:=j) (l:=l);simp only[Qp];cases b:Region.binds .any e with
  |true=>simp only[aM,Kx,aQ,a,exists_eq_or_imp,b,true_and];exact Iff.rfl
  |false=>simp only[aH,a,aQ,exists_eq_or_imp,b,Bool.false_eq_true,false_and,false_or]
theorem nW:∀{l:δ Α} {i:Nat},Qj l i=μ->∀j o,l[j]? =θ o->∀e∈o.after,Region.binds .any e=μ->e.on<i+j
 |[],i,_,j,o,a=>by simp at a
 |x::l,i,h,j,o,a=>by
  have h:=gX (h);intro e b c;cases j with
  |zero=>have a:x=o:=aC0;subst a;have:=aT.1 h.1 e aC2;rw[c]at this;simpa [iV] using this
  |succ j=>have:=nW h.2 j o aC0 e b c;omega
theorem Qq{A:δ (δ Nat)}{k i:Nat}(h:i<k):Qh (A.take k) i=Qh A i:=by unfold Qh;rw[gF,gF,bQ,aB h]
section
variable {l:δ Α}
variable {i:Nat}
theorem SH(g:Qj l 0=μ){o:Α}(f:l[i]? =θ o){j:Nat}:j∈Qh (gO l []) i↔∃e∈o.after,Region.binds .any e=μ/\(j=e.on\/j∈Qh (gO l []) e.on):=by
 have h:=(IH l []).2 i o f;rw[iP,Jd]at h;have e:Qh (gO l []) i=Qp ((gO l []).take i) o.after.toList:=by unfold Qh;rw[gF,h]
 rw[e,II];constructor
 ·rintro⟨e,c,b,d⟩;have a:e∈o.after:=aC8;have:=nW g i o f e a b;rw[Qq aA0]at d;exact⟨e,a,b,d⟩
 ·rintro⟨e,c,b,d⟩;have:=nW g i o f e c b;refine⟨e,aC8,b, ?_⟩;rw[Qq aA0];exact d
theorem MV(h:l[i]? =ι):Qh (gO l []) i=[]:=by
 have key:∀l A,γ (gO l A)=γ A+γ l:=by
  intro l;induction l with
  |nil=>intro A;rfl
  |cons o l a=>intro A;rw[show gO (o::l) A=gO l _ from rfl,a];simp;omega
 unfold Qh;have c:=List.getElem?_eq_none_iff.1 h;have b:=key l [];rw[gF,bO (by simp at b;omega)]
theorem MU(d:Qj l 0=μ):∀i j,j∈Qh (gO l []) i->j<i:=by
 intro i;induction i using Nat.strongRecOn with
 |_ i f=>
  intro j b;cases a:l[i]? with
  |none=>rw[MV a]at b;cases b
  |some o=>
   obtain⟨e,g,h,c⟩:=(SH d a).1 b;have k:=nW d i o a e g h;rcases c with rfl|c
   ·omega
   ·have:=f e.on aA0 j c;omega
theorem Qo{ops:Array Α}{listed:Array η}(w:l=ops.toList.take i)(s:Qj l 0=μ)(g:HeadInv .any ops i listed):∀k o,l[k]? =θ o->(∀e∈o.after,Region.binds .any e=μ->listed.getD e.on ν=μ)->∀j∈Qh (gO l []) k,listed.getD j ν=μ:=by
 intro k;induction k using Nat.strongRecOn with
 |_ k v=>
  intro o m d j x;obtain⟨e,r,u,q⟩:=(SH s m).1 x;have A:=nW s k o m e r u;have t:=d e r u;rcases q with rfl|q
  ·exact t
  ·have z:=(aF.1 m).1;have c:e.on<γ l:=by omega
   obtain⟨f,b⟩:∃f,l[e.on]? =θ f:=⟨_,aN c⟩
   have h:ops[e.on]? =θ f:=by
    have a:=b;rw[w,bQ]at a;split at a
    ·simpa using a
    ·cases a
   exact v e.on aA0 _ b (λy n p=>g.closed e.on _ h t y n p) j q
end
theorem Vk{A:δ (δ Nat)}{i:Nat}{rd:δ Nat}:∀{l:δ Α} {a:Nat},Zw A i rd l a=μ->∀j (o:Α) (d:Nat),l[j]? =θ o->o.dst=θ d->d∈rd->i=a+j\/ET A i (a+j)=μ
 |[],a,_,j,o,d,b=>by simp at b
 |x::l,a,h,j,o,d,b=>by
  have h:=gX (h);intro f e;cases j with
  |zero=>
   have b:x=o:=aC2;subst b;have c:=h.1;rw[f]at c;simp only[Xq.2 e]at c;cases g:cU i a with
   |true=>exact .inl (gR g)
   |false=>rw[g]at c;exact .inr c
  |succ j=>have:=Vk h.2 j o d aC2 f e;rw[show rG a+j=a+(j+1)by omega]at this;exact this
theorem Mw{ops:δ Α}{A:δ (δ Nat)}{all:δ Α}:∀{l:δ Α} {a:Nat},Jn ops A all l a=μ->∀i o,l[i]? =θ o->Zw A (a+i) (Ae o.op.operands.toList++Wo ops o) all 0=μ
 |[],a,_,i,o,b=>by simp at b
 |x::l,a,h,i,o,b=>by
  have h:=gX (h);cases i with
  |zero=>have b:x=o:=aC2;subst b;exact h.1
  |succ i=>have:=Mw h.2 i o aC2;rw[show rG a+i=a+(i+1)by omega]at this;exact this
theorem Vx{A:δ (δ Nat)}{i:Nat}{q:η×δ Nat}:∀{l:δ (η×δ Nat)} {a:Nat},AE A i q l a=μ->∀j p,l[j]? =θ p->i≠a+j->ET A i (a+j)=ν->p.1=μ->q.1=ν/\∀x∈q.2,x∉p.2
 |[],a,_,j,p,b=>by simp at b
 |x::l,a,h,j,p,b=>by
  have h:=gX (h);intro g d f;cases j with
  |zero=>
   have b:x=p:=aC2;subst b;have c:=h.1;have k:cU i a=ν:=by rw[beqN];simp;omega
   rw[Ru]at d;rw[k,d,f]at c;cases e:q.1 with
   |true=>rw[e]at c;cases c
   |false=>rw[e]at c;exact⟨rfl,sZ.1 c⟩
  |succ j=>refine Vx h.2 j p aC2 aA0 ?_ f;rw[show rG a+j=a+(j+1)by omega];exact d
theorem EX{A:δ (δ Nat)}{all:δ (η×δ Nat)}:∀{l:δ (η×δ Nat)} {a:Nat},QF A all l a=μ->∀i q,l[i]? =θ q->AE A (a+i) q all 0=μ
 |[],a,_,i,q,b=>by simp at b
 |x::l,a,h,i,q,b=>by
  have h:=gX (h);cases i with
  |zero=>have b:x=q:=aC2;subst b;exact h.1
  |succ i=>have:=EX h.2 i q aC2;rw[show rG a+i=a+(i+1)by omega]at this;exact this
theorem Vj{C:Cx}{ops:δ Α}{ρ':Ty}{d:St->δ (η×δ Nat)->ε ρ'.T}{r:ρ'.T}:∀(l:δ Α) (i:Nat) (S:St) (c:δ (η×δ Nat)),gu C ops l i S c d=θ r->
  ∃(T:Nat->St) (es:δ (η×δ Nat)),T 0=S/\(∀(j:Nat) (o:Α),l[j]? =θ o->JK C ops (T j) o (T (j+1))/\es[j]? =θ (entry C (T j) (T (j+1)) o))/\d (T (γ l)) (c++es)=θ r
 |[],i,S,c,h=>⟨λ_=>S,[],rfl,λj o a=>by simp at a,by rw[gD];exact h⟩
 |o::l,i,S,c,h=>by
  obtain⟨b,n,m⟩:=DI (show TY C ops i S o (λb=>gu C ops l (rG i) b (c++[entry C S b o]) d)=θ r from h);obtain⟨T,es,k,g,f⟩:=Vj l (rG i) b _ m;refine⟨λj=>match j with
   |0=>S
   |j+1=>T j,entry C S b o::es,rfl,λj e a=> ?_,by rw[gZ]at f;exact f⟩
  cases j with
  |zero=>have a:o=e:=aC0;subst a;show JK C ops S o (T 0)/\θ (entry C S b o)=θ (entry C S (T 0) o);rw[k];exact⟨n,rfl⟩
  |succ j=>exact g j e aC0
theorem AG:∀l:δ Rg,iw l=γ l
 |[]=>rfl
 |_::l=>by show rG _=_;rw[AG l];rfl
theorem GQ:∀{a m:δ Rg} {q:Rg},q∈a->q.1∈ld (γ a) (a++m)
 |x::a,m,q,h=>by
  rcases aQ.1 h with rfl|h
  ·exact gK
  ·exact eU _ (GQ h)
section
variable {C:Cx}{md:Md}{w0:ο}{S0:δ Nat}{GS:Gc}
structure Way (C:Cx) (ops:List Α) (l:List Α) (T:Nat->St) (es:List (Bool×List Nat)):Prop where
 st:∀(j:Nat) (o:Α),l[j]? =θ o->JK C ops (T j) o (T (j+1))/\es[j]? =θ (entry C (T j) (T (j+1)) o)
 nd:∀(i j:Nat) (o o2:Α) (t:Nat),l[i]? =θ o->l[j]? =θ o2->o.dst=θ t->o2.dst=θ t->i=j
variable {ops l:δ Α}{T:Nat->St}{es:δ (η×δ Nat)}
theorem Way.at(h:Way C ops l T es)(t:Nat):∀i,i<=γ l->(∀j (o:Α),l[j]? =θ o->o.dst=θ t->(T i).at t=if j<i then(T (j+1)).at t else(T 0).at t)/\((∀(j:Nat) o,l[j]? =θ o->o.dst≠θ t)->(T i).at t=(T 0).at t)
 |0,_=>⟨λj o _ _=>by simp,λ_=>rfl⟩
 |i+1,q=>by
  obtain⟨p,n⟩:=h.at t i aA0;have a:l[i]? =θ _:=aN aA0;have b:=(y8 (h.st i _ a).1).1;refine⟨λj o k m=> ?_,λg=> ?_⟩
  ·by_cases d:j=i
   ·subst d;rw[aB aA0]
   ·have f:(l[i]' aA0).dst≠θ t:=λe=>d (h.nd j i _ _ t k a m e);rw[b t f,p j o k m];by_cases c:j<i
    ·rw[aB c,aB aA0]
    ·rw[aA c,aA aA0]
  ·rw[b t (g i _ a)];exact n g
theorem Way.nb(h:Way C ops l T es):∀i,i<=γ l->(T i).nb=(T 0).nb/\(T i).al=(T 0).al
 |0,_=>⟨rfl,rfl⟩
 |i+1,f=>by have a:l[i]? =θ _:=aN aA0;obtain⟨_,e,d⟩:=y8 (h.st i _ a).1;obtain⟨c,b⟩:=h.nb i aA0;exact⟨e.trans c,d.trans b⟩
theorem Way.still(h:Way C ops l T es):∀d i,i+d<=γ l->(∀j o,i<=j->j<i+d->l[j]? =θ o->qt C o.op=μ)->(T (i+d)).H=(T i).H/\(T (i+d)).m=(T i).m
 |0,i,_,_=>⟨rfl,rfl⟩
 |d+1,i,k,c=>by obtain⟨b,e⟩:=h.still d i aA0 (λj o b e=>c j o b aA0);have a:l[i+d]? =θ _:=aN aA0;obtain⟨g,f⟩:=Xs (h.st _ _ a).1 (c _ _ aA0 aA0 a);exact⟨g.trans b,f.trans e⟩
theorem Way.FT(h:Way C ops l T es){id:Nat}{n:Ob}:∀(d i:Nat),i+d<=γ l->(∀(j:Nat) (o:Α) (p:η×δ Nat),i<=j->j<i+d->l[j]? =θ o->es[j]? =θ p->p.1=μ->id∉p.2)->fC (T i).H id=θ n->fC (T (i+d)).H id=θ n
 |0,i,_,_,r=>r
 |d+1,i,w,g,r=>by
  have k:=h.FT d i aA0 (λj o p k s=>g j o p k aA0) r;have c:l[i+d]? =θ (l[i+d]' aA0):=aN aA0;obtain⟨s,v⟩:=h.st (i+d) _ c;have b:=g (i+d) _ _ aA0 aA0 c v;unfold entry at b;cases a:qt C (l[i+d]' aA0).op with
  |true=>show fC (T (i+d+1)).H id=_;rw[(Xs s a).1];exact k
  |false=>rw[a]at b;have b:=b rfl;obtain⟨f,u,t⟩:=SM s;refine t id n (λq g e=>b ?_) k;rw[AG,AG,u,cG];show id∈ld (Nat.sub (γ f+γ (T (i+d)).m) (γ (T (i+d)).m)) (f++(T (i+d)).m);rw[show Nat.sub (γ f+γ (T (i+d)).m) (γ (T (i+d)).m)=γ f from Nat.add_sub_cancel _ _,<-e];exact GQ g
theorem xa{ρ:Nat->Ad}{S S2:St}{F:Nat->ξ}{w:ο}(h:Rel C w0 S0 ρ S F w)(b:∀t,S2.at t=S.at t)(a:S2.H=S.H):Rel C w0 S0 ρ S2 F w:=by
 refine⟨?_,λt v c=>h.fr t v (by rw[<-b];exact c),λt=>by rw[b,a];exact h.fo t, ?_, ?_⟩
 ·rw[a];exact h.gl
 ·rw[a];exact h.ho
 ·rw[a];exact h.mem
variable {n:Nat}
theorem T7{v:SV}{id:Nat}(h:v.ok n)(hid:id∈Xh v):id<n:=by unfold Xh at hid;split at hid;all_goals first|(cases hid;done)|(have e:=aG.1 hid;subst e;exact h _ (aG.2 rfl))
theorem WO{a:χ->SV}{op:Op}(h:n∈Ws a op):∃x∈op.operands,n∈Xh (a x):=by
 have key:∀l:δ χ,n∈GR a l->∃x∈l,n∈Xh (a x):=by
  intro l;induction l with
  |nil=>intro h;cases h
  |cons x l e=>
   intro h;rcases aV.1 (h)with h|h
   ·exact⟨x,gK,h⟩
   ·obtain⟨y,d,b⟩:=e h;exact⟨y,eU _ d,b⟩
 cases op<;>first|(cases h;done)|skip
 case load t x=>exact⟨x,by simp[lM],h⟩
 case indexAddr t x f=>exact⟨x,by simp[lM],h⟩
 case convert s t x=>exact⟨x,by simp[lM],h⟩
 case call c=>
  obtain⟨x,d,b⟩:=key _ h;refine⟨x, ?_,b⟩;simp only[lM,Call.operands,yP];exact .inr aD3
theorem min_mem:∀{U:δ Nat},U≠[]->∃i∈U,∀j∈U,i<=j
 |[x],_=>⟨x,gK,λj a=>by rw[aG.1 a];exact dO _⟩
 |x::y::U,_=>by
  obtain⟨i,c,b⟩:=min_mem (U:=y::U) aA3;by_cases h:x<=i
  ·exact⟨x,gK,λj a=>(aQ.1 a).elim (λe=>by rw[e];exact dO _) λa=>oF h (b j a)⟩
  ·exact⟨i,eU _ c,λj a=>(aQ.1 a).elim (λe=>by rw[e];omega) (b j)⟩
theorem Vz{a:Type}:∀(l:δ a) k,RW l k=l.take k
 |[],k=>by simp[RW]
 |x::l,0=>rfl
 |x::l,k+1=>by simp[RW,Vz l k]
theorem Hl{ops:Array Α}:∀{k j:Nat},V8 ops k=θ j->Fq ops j=μ
 |0,j,h=>by have h:=dG h;cases h.2;exact h.1
 |k+1,j,h=>by
  have h:=dG h;have a:=h.2;split at a
  ·rename_i i b;cases a;exact Hl b
  ·cases a;exact h.1
theorem ZU:∀{l:δ Α},(Gi l).Nodup->∀(i j:Nat) (o b) (t:Nat),l[i]? =θ o->l[j]? =θ b->o.dst=θ t->b.dst=θ t->i=j
 |[],_,i,j,o,b,t,a=>by simp at a
 |x::l,h,i,j,o,b,t,a=>by
  intro f g c;have m:∀(i:Nat) (o:Α),l[i]? =θ o->o.dst=θ t->t∈Gi l:=by
   intro i o a g;have p:∀{l:δ Α},o∈l->t∈Gi l:=by
    intro l;induction l with
    |nil=>intro h;cases h
    |cons y l n=>
     intro h;rw[zA];rcases aQ.1 h with rfl|h
     ·exact .inl g
     ·exact .inr (n h)
   exact p (aI a)
  have k:(Gi l).Nodup/\(x.dst=θ t->t∉Gi l):=by
   simp only[Gi]at h;cases hx:x.dst with
   |none=>rw[hx]at h;exact⟨h,λe=>by cases e⟩
   |some d=>rw[hx]at h;simp at h;exact⟨h.2,λe=>by cases e;exact h.1⟩
  cases i with
  |zero=>
   have a:x=o:=aC0;subst a;cases j with
   |zero=>rfl
   |succ j=>exact absurd (m j b aD5 c) (k.2 g)
  |succ i=>
   cases j with
   |zero=>have f:x=b:=aD5;subst f;exact absurd (m i o aC0 g) (k.2 c)
   |succ j=>have:=ZU k.1 i j o b t aC0 aD5 g c;omega
end
open Go.Wk
open Go.Ce (Tr)
open List renaming replicate → iZ
open Nat renaming blt → fL
open _root_.Array renaming replicate → IY
section
variable {C:Cx}{md:Md}{w0:ο}{S0:δ Nat}{GS:Gc}
variable {ops:Array Α}{l:δ Α}{T:Nat->St}{es:δ (η×δ Nat)}{k:Nat}
structure Mid (C:Cx) (l:List Α) (T:Nat->St) (listed:Array Bool) (X:St):Prop where
 at1:∀(t j:Nat) (o:Α),l[j]? =θ o->o.dst=θ t->X.at t=if listed.getD j ν=μ then(T (j+1)).at t else(T 0).at t
 at2:∀t,(∀(j:Nat) (o:Α),l[j]? =θ o->o.dst≠θ t)->X.at t=(T 0).at t
 nb:X.nb=(T 0).nb
 al:X.al=(T 0).al
 hv:∃h,h<=γ l/\X.H=(T h).H/\X.m=(T h).m/\∀(j:Nat) (o:Α),l[j]? =θ o->qt C o.op=ν->(listed.getD j ν=μ↔j<h)
variable {a:Nat->Ad}
theorem WU(hE:Env C md w0 S0 GS)(b9:md=⟨md.n,[],ι⟩)(hl:l=ops.toList.take k)(hk:k<=ops.size)(g3:Fq ops k=μ)(d4:Region.seqB .any ops (ops.size-k) k (iZ k μ++iZ (ops.size-k) ν).toArray=μ)
  (hb:Qj l 0=μ) (g5:Jn ops.toList (gO l []) l l 0=μ) (Y:Way C ops.toList l T es) (e0:QF (gO l []) es es 0=μ) {Q:Exit->Act->ο->Prop}  {F0:Nat->ξ}
  (e9:∀X ρ F w,Rel C w0 S0 ρ X F w->Nx (T 0) a X ρ->(∀t,X.at t=(T (γ l)).at t)->X.H=(T (γ l)).H->X.nb=(T (γ l)).nb->X.al=(T (γ l)).al->X.m=(T (γ l)).m->(∀t,t∉Gi l->F t=F0 t)->W C.P md ops Q (ops.toList.drop k) F w):
  ∀f (U:δ Nat) listed X ρ F w,γ U=f->U.Nodup->(∀i,i∈U↔i<k/\listed.getD i ν=ν)->HeadInv .any ops k listed->Mid C l T listed X->Rel C w0 S0 ρ X F w->Nx (T 0) a X ρ->(∀t,t∉Gi l->F t=F0 t)->
   zB C.P .any ops Q (λ_ _ _=>True) k (λm w=>wpList C.P ops Q (ops.toList.drop k) m w) f listed (fr md F) w:=by
 have k0:γ l=k:=by rw[hl,jS,Array.length_toList];exact SR hk
 have a2:∀i,i<k->∃o,l[i]? =θ o/\ops[i]? =θ o:=by
  intro i hi;have e5:i<ops.size:=SS hi hk;refine⟨ops[i], ?_,gB e5⟩;have e:l[i]? =ops.toList[i]? :=by rw[hl,bQ,aB hi]
  rw[e,jQ];exact gB e5
 have i9:∀{F:Nat->ξ} {w:ο},W C.P md ops Q (ops.toList.drop k) F w->wpList C.P ops Q (ops.toList.drop k) (fr md F) w:=by intro F w h;unfold W WR at h;rw[b9]at h;rw[b9];exact h
 intro f;induction f with
 |zero=>
  intro U listed X ρ F w hU b7 R g Z hR hN hF;have j0:U=[]:=Je hU;have I:∀i,i<k->listed.getD i ν=μ:=by
   intro i hi;cases hg:listed.getD i ν with
   |true=>rfl
   |false=>have:=(R i).2 ⟨hi,hg⟩;rw[j0]at this;cases this
  have c1:listed=(iZ k μ++iZ (ops.size-k) ν).toArray:=by
   apply bx
   ·rw[g.size];simp;omega
   ·intro i r s;rw[g.size]at r;by_cases v:i<k
    ·have:=I i v;have e:listed.getD i ν=listed[i]:=by simp[Array.getD,g.size,r]
     rw[e]at this;rw[this];simp[v]
    ·have:=g.tail i aA0 r;have e:listed.getD i μ=listed[i]:=by simp[Array.getD,g.size,r]
     rw[e]at this;rw[this];simp[List.getElem_append,v]
  refine⟨by rw[c1];exact d4,i9 ?_⟩
  obtain⟨h,r,s,h3,h4⟩:=Z.hv;have b4:=Y.still (γ l-h) h aA0 (λj o k9 k8 b=>by
   cases z:qt C o.op with
   |true=>rfl
   |false=>have S:=(aF.1 b).1;have:=(h4 j o b z).1 (I j aA0);omega)
  rw[show h+(γ l-h)=γ l by omega]at b4;have d8:=Y.nb (γ l) (dO _);refine e9 X ρ F w hR hN (λt=> ?_) (s.trans b4.1.symm) (Z.nb.trans d8.1.symm) (Z.al.trans d8.2.symm) (h3.trans b4.2.symm) hF;obtain⟨h5,h6⟩:=Y.at t (γ l) (dO _);by_cases hw:∃(j:Nat) (o:Α),l[j]? =θ o/\o.dst=θ t
  ·obtain⟨j,o,b,N⟩:=hw;have S:=(aF.1 b).1;rw[Z.at1 t j o b N,h5 j o b N,aB (I j aA0),aB S]
  ·have hn:∀(j:Nat) (o:Α),l[j]? =θ o->o.dst≠θ t:=λj o b N=>hw ⟨j,o,b,N⟩;rw[Z.at2 t hn,h6 hn]
 |succ f ih=>
  intro U listed X ρ F w hU b7 R g Z hR hN hF;have f2:U≠[]:=λe=>by rw[e]at hU;cases hU
  obtain⟨i0,i1,d9⟩:=min_mem f2;have L:=(R i0).1 i1;refine⟨λhe=> ?_,λi hi=> ?_⟩
  ·
   obtain⟨o,O,a6⟩:=a2 i0 L.1
   have:i0∈Ζ .any ops listed:=by
    refine mem_ready.2 ⟨getD_in (by rw[g.size];omega) L.2,o,a6,λe c2 c4=> ?_⟩;have r:=nW hb i0 o O e c2 c4;cases hg:listed.getD e.on ν with
    |true=>rfl
    |false=>have s:=(R e.on).2 ⟨aA0,hg⟩;have:=d9 e.on s;omega
   rw[he]at this;cases this
  ·obtain⟨g1,o,a6,I⟩:=mem_ready.1 hi;have B:listed.getD i ν=ν:=getD_both g1;have v:i<k:=by
    by_cases v:i<k
    ·exact v
    ·exact absurd hi (rO g3 L.1 listed g (getD_in (by rw[g.size];omega) L.2) i aA0)
   refine⟨v, ?_⟩;obtain⟨o',O,a1⟩:=a2 i v;rw[a6]at a1;cases a1;have h0:i∈U:=(R i).2 ⟨v,B⟩;obtain⟨b3,e8⟩:=Y.st i o O;have d3:∀j∈Qh (gO l []) i,listed.getD j ν=μ:=Qo hl hb g i o O I;have f0:∀(j:Nat),j<k->listed.getD j ν=μ->i∉Qh (gO l []) j:=by intro j b c0 E;obtain⟨c,g6,d6⟩:=a2 j b;have:=Qo hl hb g j c g6 (λe he c4=>g.closed j c d6 c0 e he c4) i E;rw[B]at this;cases this
   have e4:∀j∈Qh (gO l []) i,j<i:=λj b=>MU hb i j b
   have a0:∀t,t∈Ae o.op.operands.toList++Wo ops.toList o->X.at t=(T i).at t:=by
    intro t ht;obtain⟨h5,h6⟩:=Y.at t i aA0;by_cases hw:∃(j:Nat) (o:Α),l[j]? =θ o/\o.dst=θ t
    ·obtain⟨j,c,b,N⟩:=hw;have S:=(aF.1 b).1;rw[Z.at1 t j c b N,h5 j c b N];have h7:=Mw g5 i o O;rw[Jd]at h7;have h8:=Vk h7 j c t b N ht;rw[Jd]at h8;rcases h8 with rfl|h8
     ·rw[B,aA aA3,aA aA0]
     ·unfold ET at h8;cases E:lG i (Qh (gO l []) j)with
      |true=>
       have E:=Xq.1 E;have l0:=MU hb j i E
       have:listed.getD j ν=ν:=by
        cases hg:listed.getD j ν with
        |false=>rfl
        |true=>exact absurd E (f0 j aA0 hg)
       rw[this,aA aA3,aA aA0]
      |false=>rw[E]at h8;have e3:=Xq.1 (show lG j (Qh (gO l []) i)=μ from h8);rw[d3 j e3,aB rfl,aB (e4 j e3)]
    ·have hn:∀(j:Nat) (o:Α),l[j]? =θ o->o.dst≠θ t:=λj o b N=>hw ⟨j,o,b,N⟩;rw[Z.at2 t hn,h6 hn]
   have a9:∀t,Operand.tmp t∈o.op.operands->X.at t=(T i).at t:=λt ht=>a0 t (Ki _ (Dr.2 (by simpa using ht)));have i3:∀t∈Wo ops.toList o,X.at t=(T i).at t:=λt ht=>a0 t (YM _ ht)
   obtain⟨h,i2,a7,e7,V⟩:=Z.hv;have K:=Y.nb i aA0;have a3:∀j c,l[j]? =θ c->qt C c.op=ν->((h<=j/\j<i)\/(i<=j/\j<h))->j≠i->ET (gO l []) i j=ν:=by
    intro j c b z c3 q;have S:=(aF.1 b).1;unfold ET;rcases c3 with⟨r,s⟩|⟨r,s⟩
    ·have g7:listed.getD j ν=ν:=by
      cases hg:listed.getD j ν with
      |false=>rfl
      |true=>have:=(V j c b z).1 hg;omega
     have e1:lG i (Qh (gO l []) j)=ν:=by
      cases E:lG i _ with
      |false=>rfl
      |true=>have:=MU hb j i (Xq.1 E);omega
     have e2:lG j (Qh (gO l []) i)=ν:=by
      cases E:lG j _ with
      |false=>rfl
      |true=>have:=d3 j (Xq.1 E);rw[g7]at this;cases this
     rw[e1,e2];rfl
    ·have c0:=(V j c b z).2 s;have e1:lG i (Qh (gO l []) j)=ν:=by
      cases E:lG i _ with
      |false=>rfl
      |true=>exact absurd (Xq.1 E) (f0 j aA0 c0)
     have e2:lG j (Qh (gO l []) i)=ν:=by
      cases E:lG j _ with
      |false=>rfl
      |true=>have:=e4 j (Xq.1 E);omega
     rw[e1,e2];rfl
   have b8:∀j c (p:η×δ Nat),l[j]? =θ c->es[j]? =θ p->p.1=μ->j≠i->ET (gO l []) i j=ν->(entry C (T i) (T (i+1)) o).1=ν/\∀x∈(entry C (T i) (T (i+1)) o).2,x∉p.2:=by intro j c p b J D q u;have r:=EX e0 i _ e8;rw[Jd]at r;have s:=Vx r j p J aA0 (by rw[Jd];exact u) D;exact s
   have b6:∀(j:Nat) (c:Α) (p:η×δ Nat),l[j]? =θ c->es[j]? =θ p->p.1= !(qt C c.op):=by intro j c p b J;obtain⟨_,r⟩:=Y.st j c b;rw[J]at r;cases r;unfold entry;cases qt C c.op<;>rfl
   have M:qt C o.op=ν->X.H=(T i).H/\X.m=(T i).m:=by
    intro z;have i7:(entry C (T i) (T (i+1)) o).1=μ:=by unfold entry;rw[z];rfl
    have ι:∀j c,l[j]? =θ c->((h<=j/\j<i)\/(i<j/\j<h))->qt C c.op=μ:=by
     intro j c b hc;cases d:qt C c.op with
     |true=>rfl
     |false=>exfalso;have S:=(aF.1 b).1;obtain⟨p,J⟩:∃p,es[j]? =θ p:=⟨_,(Y.st j c b).2⟩;have q:j≠i:=aA0;have u:=a3 j c b d aA0 q;have:=(b8 j c p b J (by rw[b6 j c p b J,d];rfl) q u).1;rw[i7]at this;cases this
    have h9:¬i<h:=λG=>by have:=(V i o O z).2 G;rw[B]at this;cases this
    have:=Y.still (i-h) h aA0 (λj c r s b=>ι j c b (.inl ⟨r,aA0⟩));rw[show h+(i-h)=i by omega]at this;exact⟨a7.trans this.1.symm,e7.trans this.2.symm⟩
   have a5:qt C o.op=μ->ph (T i).H X.H (Ws ((T i).ev C) o.op):=by
    intro z id hid o2 hg;have c2:(entry C (T i) (T (i+1)) o).2=Ws ((T i).ev C) o.op:=by unfold entry;rw[z];rfl
    rw[a7];have f4:∀j c p,((h<=j/\j<i)\/(i<=j/\j<h))->l[j]? =θ c->es[j]? =θ p->p.1=μ->id∉p.2:=by
     intro j c p hc b J D;have d:qt C c.op=ν:=by
      have:=b6 j c p b J;rw[D]at this;cases d:qt C c.op with
      |false=>rfl
      |true=>rw[d]at this;cases this
     have q:j≠i:=λe=>by subst e;rw[O]at b;cases b;rw[z]at d;cases d
     have u:=a3 j c b d hc q;exact(b8 j c p b J D q u).2 id (by rw[c2];exact hid)
    by_cases l1:h<=i
    ·
     have G:id<γ (T h).H:=by
      obtain⟨x,hx,i4⟩:=WO hid;have i6:X.ev C x=(T i).ev C x:=by
       cases x with
       |tmp t=>show(bif fL t C.nn then X.at t else .u')=(bif fL t C.nn then(T i).at t else .u');rw[a9 t hx]
       |_=>rfl
      have d5:=(Tn hR hE.n x).1;rw[i6,a7]at d5;exact T7 d5 i4
     obtain⟨o3,a1⟩:∃o3,fC (T h).H id=θ o3:=by rw[gF];exact⟨_,aN G⟩
     have:=Y.FT (i-h) h aA0 (λj c p r s b J D=>f4 j c p (.inl ⟨r,aA0⟩) b J D) a1;rw[show h+(i-h)=i by omega,hg]at this;rw[a1,this]
    ·have:=Y.FT (h-i) i aA0 (λj c p r s b J D=>f4 j c p (.inr ⟨r,aA0⟩) b J D) hg;rw[show i+(h-i)=h by omega]at this;exact this
   obtain⟨X3,c5,b2,d7,f1,g4,e6⟩:=y7 b3 a9 i3 (Z.nb.trans K.1.symm) (Z.al.trans K.2.symm) a5 (λz=>(M z).1);have d1:=g.set hi v;have b5:i<listed.size:=by rw[g.size];omega
   have A:∀j,(listed.setIfInBounds i μ).getD j ν=if j=i then μ else listed.getD j ν:=by
    intro j;simp only[Array.getD_eq_getD_getElem?,Array.getElem?_setIfInBounds];by_cases e:i=j
    ·subst e;simp[b5]
    ·rw[aA e,aA (λh=>e h.symm)]
   have c6:W C.P md ops (Exit.then (λa' w'=>True/\zB C.P .any ops Q (λ_ _ _=>True) k (λm w=>wpList C.P ops Q (ops.toList.drop k) m w) f (listed.setIfInBounds i μ) a' w') Q) [o] F w:=by
    refine IK hE c5 hR _ [] λf9 F2 w2 j1 j2 i5 _=>jT ⟨trivial, ?_⟩;refine ih _ _ X3 f9 F2 w2 (by rw[List.length_erase_of_mem h0,hU];rfl) (b7.erase i) (λj=> ?_) d1 ?_ j1 (hN.trans j2) (λt ht=> ?_)
    ·rw[b7.mem_erase_iff,R,A];constructor
     ·rintro⟨r,s,h3⟩;rw[aA r];exact⟨s,h3⟩
     ·rintro⟨r,s⟩;by_cases e:j=i
      ·rw[aB e]at s;cases s
      ·rw[aA e]at s;exact⟨e,r,s⟩
    ·refine⟨λt j c b N=> ?_,λt hn=> ?_,d7.trans K.1,f1.trans K.2, ?_⟩
     ·rw[b2 t,A];by_cases e:j=i
      ·subst e;rw[O]at b;cases b;rw[aB N,aB rfl,aB rfl]
      ·have g8:¬o.dst=θ t:=λe2=>e (Y.nd j i c o t b O N e2);rw[aA g8,aA e];exact Z.at1 t j c b N
     ·rw[b2 t,aA (hn i o O)];exact Z.at2 t hn
     ·cases z:qt C o.op with
      |true=>
       obtain⟨r,s⟩:=g4 z;refine⟨h,i2,r.trans a7,s.trans e7,λj c b d=> ?_⟩;rw[A];have q:j≠i:=λe=>by subst e;rw[O]at b;cases b;rw[z]at d;cases d
       rw[aA q];exact V j c b d
      |false=>
       obtain⟨r,s⟩:=e6 z;obtain⟨mn,h3,_⟩:=SM b3;refine⟨i+1,aA0,r, ?_,λj c b d=> ?_⟩
       ·rw[s mn h3,(M z).2,h3]
       ·rw[A];have S:=(aF.1 b).1;by_cases q:j=i
        ·subst q;simp
        ·rw[aA q,V j c b d];have h9:¬i<h:=λG=>by have:=(V i o O z).2 G;rw[B]at this;cases this
         constructor
         ·intro h4;omega
         ·intro h4;by_cases g9:j<h
          ·exact g9
          ·exfalso;obtain⟨p,J⟩:∃p,es[j]? =θ p:=⟨_,(Y.st j c b).2⟩;have u:=a3 j c b d (.inl ⟨aA0,aA0⟩) q;have:=(b8 j c p b J (by rw[b6 j c p b J,d];rfl) q u).1;unfold entry at this;rw[z]at this;cases this
    ·have g2:o.dst≠θ t:=λe=>ht (by
      have E:∀{l:δ Α},o∈l->t∈Gi l:=by
       intro l;induction l with
       |nil=>intro h;cases h
       |cons y l ih=>
        intro h;rw[zA];rcases aQ.1 h with rfl|h
        ·exact .inl e
        ·exact .inr (ih h)
      exact E (aI O))
     rw[i5 t g2,hF t ht]
   unfold W WR at c6;rw[b9]at c6⊢;refine wpOp_mono ?_ (Mx a6 c6);rintro a' w' ⟨_,s⟩;exact⟨trivial,s⟩
theorem yZ{t:Nat}:∀{l:δ Α},t∈Gi l↔∃o∈l,o.dst=θ t
 |[]=>by simp[Gi]
 |x::l=>by rw[zA,yZ];simp
theorem nx_as{S X Y:St}{ρ:Nat->Ad}(h:Nx S a X ρ)(e:Y.H=X.H)(b:Y.nb=X.nb)(c:Y.al=X.al)(d:Y.m=X.m):Nx S a Y ρ:=
 ⟨⟨b.trans h.nb,c.trans h.al,by rw[e];exact h.le⟩,by rw[e,d];exact h.lg,λid j f=>by rw[d];exact h.mm id j f⟩
theorem V7(hE:Env C md w0 S0 GS)(f:md=⟨md.n,[],ι⟩){id:Nat}{ops:Array Α}:aa C md w0 S0 id ops μ:=by
 intro a8 S κ r I F w Q h y hk;have h:=h;unfold MF at h;have h:=dG h;have hm:=h.1;have h:=h.2;split at h
 ·rename_i k Y;have d:=Hl Y;have u:k<=ops.size:=by simp only[Fq,lA,aW]at d;exact d.1.2
  have h:=dG h;have l:=h.1;have h:=dG h.2;have hb:=h.1;have h:=dG h.2;have N:=nD.1 h.1;have h:=dG h.2;have K:=h.1;obtain⟨T,es,x,J,b⟩:=Vj _ _ _ _ h.2;have b:=dG b;have q:=b.1;have b:=b.2;have s:RW ops.toList k=ops.toList.take k:=Vz _ _;have hW:Way C ops.toList _ T es:=⟨J,ZU N⟩
  have v:∀X c z A,Rel C w0 S0 c X z A->Nx (T 0) I X c->(∀t,X.at t=(T (γ (RW ops.toList k))).at t)->X.H=(T (γ (RW ops.toList k))).H->X.nb=(T (γ (RW ops.toList k))).nb->X.al=(T (γ (RW ops.toList k))).al->X.m=(T (γ (RW ops.toList k))).m->(∀t,t∉Gi (RW ops.toList k)->z t=F t)->W C.P md ops Q (ops.toList.drop k) z A:=by
   intro X c z A hR hN hO D O a1 V hF;rw[nI]at b;refine Zv hE _ k _ c z A rfl b (xa hR (λt=>(hO t).symm) D.symm) λS2 G F3 w3 h1 E h3 h4 h5=> ?_;rw[x]at hN;refine hk S2 G F3 w3 h1 E ((nx_as hN D.symm O.symm a1.symm V.symm).trans h3) (λt B=> ?_) (Z3 rfl);have e:ops.toList=RW ops.toList k++ops.toList.drop k:=by rw[s,NO]
   have U:t∉Gi _:=λZ=>B (by obtain⟨o,M,hd⟩:=yZ.1 Z;exact yZ.2 ⟨o,by rw[e];exact Ki _ M,hd⟩);have R:t∉Gi (ops.toList.drop k):=λZ=>B (by obtain⟨o,M,hd⟩:=yZ.1 Z;exact yZ.2 ⟨o,IZ M,hd⟩);rw[h4 t R,hF t U]
  have g:HeadInv .any ops k (IY ops.size ν):=
   ⟨aA3,λj oj _ s=>(by rw[getD_replicate_false]at s;cases s),λt _ B=>getD_in (by simpa using B) (getD_replicate_false _ _)⟩
  have a4:Mid C (RW ops.toList k) T (IY ops.size ν) (T 0):=by
   refine⟨λt j o _ _=> ?_,λt _=>rfl,rfl,rfl,0,cW _,rfl,rfl,λj o _ _=> ?_⟩
   ·rw[getD_replicate_false,aA aA3]
   ·rw[getD_replicate_false];simp
  have p:∀w',Rel C w0 S0 I _ F w'->zB C.P .any ops Q _ k _ k _ _ w':=λw' hR=>
   WU hE f s u d l hb K hW q v k _ _ _ _ _ _ List.length_range List.nodup_range (λi=>by rw[getD_replicate_false];simp) g a4 hR Nx.refl (λ_ _=>rfl)
  unfold Go.Wk.C CC;rw[f];refine wp_region_any hm ?_;have a2:Rel C w0 S0 I (T 0) F {w with drawn:=w.drawn+1}:=by rw[x];refine⟨y.gl,y.fr,y.fo,y.ho, ?_⟩;obtain⟨L,D,hM⟩:=y.mem;exact⟨L,D.RL,hM⟩
  have h1:=p _ a2;have E:=Zn u (λa w h=>h) k _ _ _ h1;rw[show k+(ops.size-k)=ops.size by omega,f]at E;exact E
 ·cases h
end
open Go.Wk
open Go.Ce (Tr)
theorem fp{C:Cx}{md:Md}{w0:ο}{S0:δ Nat}{k:Gc}(i:Env C md w0 S0 k)(h:md=⟨md.n,[],ι⟩):∀c:Code,pP C md w0 S0 c:=by
 intro c;induction c with
 |region id j d=>cases d with
  |false=>exact UL i
  |true=>exact V7 i h
 |seq a b f e=>exact⟨f,e⟩
 |cond c a b f e=>exact⟨f,e⟩
 |block id a g=>exact g
 |loop a g=>exact g
 |scope a g=>exact g
 |_=>trivial
theorem AW{a:Type}{f:SC->ε a}{l r:δ SC}{x:a}{ss:δ Src}(h:zj f l=θ (x,r,ss)):γ l=1+γ r:=by obtain⟨c,rfl,_,_⟩:=nR h;rw[cN,Hv]
theorem rd_cn(any:η)(H:δ Ob):∀(t:Ty) s l x r ss,t.rd any H s l=θ (x,r,ss)->γ l=t.cn+γ r:=by
 intro t;induction t with
 |w' t c=>intro s l x r ss h;exact c s l x r ss h
 |pr a b f d=>
  intro s l x r ss h;simp only[Ty.rd]at h;split at h
  ·rename_i m g o q;split at h
   ·rename_i i u n p;cases h;have w:=f s l m g o q;have v:=d s g i _ n p;show γ l=a.cn+b.cn+γ r;omega
   ·cases h
  ·cases h
 |i' k=>intro s l x r ss h;exact AW h
 |c'=>intro s l x r ss h;exact AW h
 |s'=>intro s l x r ss h;exact AW h
 |b'=>intro s l x r ss h;exact AW h
 |u'=>intro s l x r ss h;cases h;exact(Jd _).symm
 |sm a b _ _=>intro s l x r ss h;cases h
 |l' e b t c=>
  intro s l x r ss h;simp only[Ty.rd]at h;split at h
  ·cases h;rw[Hv];rfl
  ·split at h
   ·have h:=(dG (dG h).2).2;split at h
    ·cases h;rw[Hv];rfl
    ·cases h
   ·cases h
  ·split at h
   ·have h:=(dG (dG (dG h).2).2).2;split at h
    ·cases h;rw[Hv];rfl
    ·cases h
   ·cases h
  ·cases h
 |y'=>
  intro s l x r ss h;simp only[Ty.rd]at h;split at h
  ·split at h
   ·cases h;rw[Hv];rfl
   ·cases h
  ·cases h
 |r' t c=>
  intro s l x r ss h;simp only[Ty.rd]at h;split at h
  ·cases h;rw[Hv];rfl
  ·split at h
   ·cases h;rw[Hv];rfl
   ·cases h
  ·split at h
   ·split at h
    ·cases h;rw[Hv];rfl
    ·cases h
   ·cases h
  ·cases h
 |p' e t c=>
  intro s l x r ss h;simp only[Ty.rd]at h;split at h
  ·split at h
   ·have h:=(dG (dG h).2).2;split at h
    ·cases h;rw[Hv];rfl
    ·cases h
   ·cases h
  ·cases h
 |z'=>
  intro s l x r ss h;simp only[Ty.rd]at h;split at h
  ·have h:=(dG h).2;cases h;rw[Hv];rfl
  ·have h:=(dG (dG h).2).2;cases h;rw[Hv];rfl
  ·have h:=(dG h).2;split at h
   ·cases h;rw[Hv];rfl
   ·cases h
  ·cases h
 |o' j=>
  intro s l x r ss h;simp only[Ty.rd]at h;split at h
  ·have h:=(dG h).2;cases h;rw[Hv];rfl
  ·cases h
 |f' k t c=>
  intro s l x r ss h;simp only[Ty.rd]at h;split at h
  ·have h:=(dG h).2;split at h
   ·cases h;rw[Hv];rfl
   ·cases h
  ·cases h
theorem Ve:∀{l vs:δ SC},γ vs=γ l->uY l 0 vs=θ vs
 |[],[],_=>rfl
 |[],_::_,h=>by cases h
 |_::_,[],h=>by cases h
 |x::l,v::vs,h=>by simp only[uY,Ve aA8]
theorem Vy{a:Type}:∀(l:δ a),Am l (γ l)=θ l
 |[]=>rfl
 |x::l=>by simp only[cN,Am,Vy l]
def KR(n0:Nat)(H0 H1:δ Ob)(E:δ Nat)(al:δ Rg):Rk->Prop
 |.r' _=>True
 |.o' id _ x=>id<n0/\(∀j,j<x.cn->eP id j al=μ)/\∃b a,H1[id]? =θ (.bl b a)
 |.w' id _=>id<n0/\eP id 0 al=μ/\id∉E/\wC H0[id]? =μ
section
variable {n0:Nat}{H2 H0 H1:δ Ob}{ρ cS ρ3:Nat->Ad}{F2:Nat->ξ}{E:δ Nat}{al:δ Rg}{Fm:Tr SV}{done:δ Src}
variable {q:Rk}{v:q.ty.T}
theorem PI.qq(h:PI n0 H2 ρ cS ρ3 F2 E H0 al Fm H1 done)(jZ:NF cS H2)(c:NG H2)(d:γ H0<=n0)(k:Up n0 cS ρ3){vs g:δ SV}{i:δ Src}(a:q.rd H2 vs=θ (v,i,g))(m:KR n0 H0 H1 E al q)
  (f:∀j s,i[j]? =θ s->ρ3 (γ H1+j)=s.ad cS) (l:δ SA):PI n0 H2 ρ cS ρ3 F2 E H0 al Fm (q.put (λj=>j) (l,H1) v).2 (done++i)/\
   ∃B:δ ξ,vs.map (SV.v cS)=B.map θ++g.map (SV.v cS)/\(q.put (λj=>j) (l,H1) v).1.map (SA.v ρ3)=l.map (SA.v ρ3)++B:=by
 cases q with
 |r' x=>
  cases vs with
  |nil=>cases a
  |cons v0 vs=>
   simp only[Rk.rd]at a;split at a
   ·rename_i y C b;cases a;have D:=Zf c b;obtain⟨⟨u,p,_,A⟩,o⟩:=D.to cS ρ3 (γ H1) f;have H:γ i=γ (x.lay 0 (γ H1) v).2:=by rw[D.no];exact(Ty.eC x 0 (γ H1) v).symm
    refine⟨h.app jZ c d H f o (mu x 0 (γ H1) v),[u],by rw[uX,p];rfl, ?_⟩;show(l++[x.sa (x.lay 0 (γ H1) v).1]).map _=_;rw[Ry,cf,A]
   ·cases a
 |o' id e x=>
  simp only[Rk.rd]at a;split at a
  ·rename_i y C b;cases a;obtain⟨p,A,I,K,o⟩:=m;unfold rdO at b;split at b
   ·rename_i N cs z;have b:=dG b;have w:=gR b.1;subst w;have n:=rd_cn ν H2 x id cs _ _ _ (uO b.2);rw[iP,Ru]at n;have r:rdB H2 id 0 x=θ (v,i):=by unfold rdB;rw[z];simp only[nI,YN];rw[<-n,Vy];exact b.2
    have F:=h.qs jZ c d k r p (λj _ L=>A j aA0) f;rw[gF]at z;obtain⟨J,G,M,_⟩:=h.ba id _ p o;rw[z]at G;cases G;have t:J6 H1 id 0 x v=jH H1 id (.bl I (x.lay id (γ H1) v).1)++(x.lay id (γ H1) v).2:=by unfold J6;rw[gF,o];simp only[Zj];rw[Ve ((Ty.AK x id (γ H1) v).trans aA0)]
    rw[t]at F;exact⟨F,[],rfl,by rw[gD];rfl⟩
   ·cases b
  ·cases a
 |w' id x=>
  simp only[Rk.rd]at a;split at a
  ·rename_i y C b;cases a;exact⟨h.qp jZ c d k b m.1 m.2.1 m.2.2.1 m.2.2.2,[],rfl,by rw[gD];rfl⟩
  ·cases a
variable {a:Nat}
theorem gh{l:δ SA}{H1:δ Ob}{o:Ob}(h:a∉Rk.ids [q])(b:H1[a]? =θ o):(q.put (λj=>j) (l,H1) v).2[a]? =θ o:=by
 cases q with
 |r' x=>exact By b
 |o' j e x=>exact By (by rw[aw (λe=>h (by rw[<-e];exact aG.2 rfl))];exact b)
 |w' j x=>
  show(qL H1 j x v)[a]? =θ o;unfold qL;split
  ·rw[aw (λe=>h (by rw[<-e];exact aG.2 rfl))];exact b
  ·exact b
variable {r:δ Rk}
theorem Pc:Rk.ids (q::r)=Rk.ids [q]++Rk.ids r:=by cases q<;>rfl
theorem uK(h:q∈r)(hid:a∈Rk.ids [q]):a∈Rk.ids r:=by
 induction r with
 |nil=>cases h
 |cons x r b=>
  rw[Pc];rcases aQ.1 h with rfl|h
  ·exact Ki _ hid
  ·exact YM _ (b h)
theorem PI.C7(jZ:NF cS H2)(f:NG H2)(d:γ H0<=n0)(c:Up n0 cS ρ3):∀r H1 done y ss vs l,PI n0 H2 ρ cS ρ3 F2 E H0 al Fm H1 done->rdR H2 r vs=θ (y,ss)->(Rk.ids r).Nodup->
  (∀q∈r,KR n0 H0 H1 E al q)->(∀j s,ss[j]? =θ s->ρ3 (γ H1+j)=s.ad cS)->PI n0 H2 ρ cS ρ3 F2 E H0 al Fm (fW (λj=>j) (l,H1) r y).2 (done++ss)/\
   ∃g:δ ξ,vs.map (SV.v cS)=g.map θ/\(fW (λj=>j) (l,H1) r y).1.map (SA.v ρ3)=l.map (SA.v ρ3)++g
 |[],H1,done,y,ss,vs,l,h,a,_,_,_=>by
  cases vs with
  |nil=>cases a;exact⟨by rw[gD];exact h,[],rfl,by rw[gD];rfl⟩
  |cons _ _=>cases a
 |[q],H1,done,y,ss,vs,l,h,a,_,o,b=>by
  simp only[rdR]at a;split at a
  ·rename_i x F hx;cases a;obtain⟨t,g,B,A⟩:=h.qq jZ f d c hx (o q gK) b l;exact⟨t,g,by rw[B,gH,gD],A⟩
  ·cases a
 |q::T::r,H1,done,y,ss,vs,l,h,a,n,o,b=>by
  simp only[rdR]at a;split at a
  ·rename_i x F u hx;split at a
   ·rename_i z K L;cases a
    obtain⟨t,g,B,A⟩:=h.qq jZ f d c hx (o q gK) (λj s p=>b j s (by rw[aJ (aF.1 p).1];exact p)) l;have S:=t.len;have U:=h.len;rw[cG]at S;rw[Pc]at n;obtain⟨H,m,k⟩:=List.nodup_append.1 n;obtain⟨J,w,Q,P⟩:=PI.C7 jZ f d c _ _ _ z K u (q.put _ _ x).1 t L m (λG i=>by
     have I:=o G (eU _ i);cases G with
     |r' x=>trivial
     |o' id e x=>obtain⟨O,N,R,D,C⟩:=I;refine⟨O,N,R,D,gh (λM=> ?_) C⟩;exact k _ M _ (uK i (aG.2 rfl)) rfl
     |w' id x=>exact I) (λj s p=>by
     rw[show(q.put _ _ x).2.length+j=γ H1+(γ F+j)by omega];exact b _ s (by rw[aO aA0,<-p];congr 1;omega))
    rw[gZ]at J;exact⟨J,g++w,by rw[B,Q,Ry],by show(fW _ _ _ z).1.map _=_;rw[P,A,gZ]⟩
   ·cases a
  ·cases a
end
theorem A1{m:Nat}:∀{x:Ty} {v:x.T},Es x=μ->∃o,dc m x v=θ o:=by intro x;cases x<;>intro v h<;>first|exact⟨_,rfl⟩|cases h
theorem UO:∀r y l (a b),γ a=γ b->(∀id,fS a id=fS b id)->(∀id,id∉Rk.ids r->a[id]? =b[id]?)->(∀q∈r,∀id x,q=.w' id x->Es x=μ)->
  fW (λj=>j) (l,a) r y=fW (λj=>j) (l,b) r y:=by
 have n:∀{a b:δ Ob} {id:Nat} {o:Ob},γ a=γ b->(∀id,fS a id=fS b id)->∀k,fS (jH a id o) k=fS (jH b id o) k:=by
  intro a b id o c f k;rw[YA,YA,yE,yE,c];split
  ·rfl
  ·rw[<-YA,<-YA];exact f k
 have s:∀{a b B:δ Ob},γ a=γ b->(∀id,fS a id=fS b id)->∀k,fS (a++B) k=fS (b++B) k:=by
  intro a b B c f k;rw[YA,YA];by_cases C:k<γ a
  ·rw[aJ C,aJ aA0,<-YA,<-YA];exact f k
  ·rw[aO aA0,aO aA0,c]
 have p:∀{a b B:δ Ob} {k:Nat},γ a=γ b->a[k]? =b[k]? ->(a++B)[k]? =(b++B)[k]? :=by
  intro a b B k c g;by_cases C:k<γ a
  ·rw[aJ C,aJ aA0];exact g
  ·rw[aO aA0,aO aA0,c]
 have one:∀q v l (a b) (N:δ Nat),γ a=γ b->(∀id,fS a id=fS b id)->(∀id,id∉Rk.ids [q]->id∉N->a[id]? =b[id]?)->(∀id x,q=.w' id x->Es x=μ)->
   (q.put (λj=>j) (l,a) v).1=(q.put (λj=>j) (l,b) v).1/\γ (q.put (λj=>j) (l,a) v).2=γ (q.put (λj=>j) (l,b) v).2/\(∀id,fS (q.put (λj=>j) (l,a) v).2 id=fS (q.put (λj=>j) (l,b) v).2 id)/\∀id,id∉N->(q.put (λj=>j) (l,a) v).2[id]? =(q.put (λj=>j) (l,b) v).2[id]? :=by
  intro q v l a b N c f g u;cases q with
  |r' x=>show l++[x.sa (x.lay 0 (γ a) v).1]=l++[x.sa (x.lay 0 (γ b) v).1]/\γ (a++(x.lay 0 (γ a) v).2)=γ (b++(x.lay 0 (γ b) v).2)/\(∀id,fS (a++(x.lay 0 (γ a) v).2) id=fS (b++(x.lay 0 (γ b) v).2) id)/\∀id,id∉N->(a++(x.lay 0 (γ a) v).2)[id]? =(b++(x.lay 0 (γ b) v).2)[id]?;rw[c];exact⟨rfl,by simp[c],s c f,λid hid=>p c (g id (λh=>by cases h) hid)⟩
  |o' i e x=>
   show l=l/\γ (jH a i _++(x.lay i (γ a) v).2)=γ (jH b i _++(x.lay i (γ b) v).2)/\(∀id,fS (jH a i _++(x.lay i (γ a) v).2) id=fS (jH b i (.bl e (x.lay i (γ b) v).1)++(x.lay i (γ b) v).2) id)/\∀id,id∉N->(jH a i (.bl e (x.lay i (γ a) v).1)++(x.lay i (γ a) v).2)[id]? =(jH b i (.bl e (x.lay i (γ b) v).1)++(x.lay i (γ b) v).2)[id]?;rw[c];have t:∀o:Ob,γ (jH a i o)=γ (jH b i o):=λo=>by rw[MR,MR,c]
   refine⟨rfl,by simp[t],s (t _) (n c f),λid hid=>p (t _) ?_⟩;rw[yE,yE,c];by_cases m:id=i
   ·subst m;by_cases d:id<γ b
    ·rw[aB ⟨rfl,d⟩,aB ⟨rfl,d⟩]
    ·rw[aA (λh=>d h.2),aA (λh=>d h.2),bO aA0,bO aA0]
   ·rw[aA (λh=>m h.1),aA (λh=>m h.1)];exact g id (λh=>m (aG.1 h)) hid
  |w' i x=>
   show l=l/\γ (qL a i x v)=γ (qL b i x v)/\(∀id,fS (qL a i x v) id=fS (qL b i x v) id)/\∀id,id∉N->(qL a i x v)[id]? =(qL b i x v)[id]?;have hx:=u i x rfl;unfold qL;rw[f i];split
   ·rename_i o G;refine⟨rfl,by rw[MR,MR,c],n c f,λid hid=> ?_⟩;rw[yE,yE,c];by_cases m:id=i
    ·subst m;by_cases d:id<γ b
     ·rw[aB ⟨rfl,d⟩,aB ⟨rfl,d⟩]
     ·rw[aA (λh=>d h.2),aA (λh=>d h.2),bO aA0,bO aA0]
    ·rw[aA (λh=>m h.1),aA (λh=>m h.1)];exact g id (λh=>m (aG.1 h)) hid
   ·rename_i A;obtain⟨o,G⟩:=A1 hx;have w:=A.symm.trans G;cases w
 intro r;induction r with
 |nil=>intro y l a b c f g _;have e:=cD λk=>g k (λh=>by cases h);rw[e]
 |cons q r J=>
  intro y l a b c f g u;cases r with
  |nil=>obtain⟨E,z,H,D⟩:=one q y l a b [] c f (λid h _=>g id h) (u q gK);have e:=cD λk=>D k (λh=>by cases h);exact Prod.ext E e
  |cons F r=>
   obtain⟨E,z,H,D⟩:=one q y.1 l a b _ c f (λid h z=>g id (by rw[Pc];exact λK=>(aV.1 K).elim h z)) (u q gK);have:=J y.2 (q.put (λj=>j) (l,a) y.1).1 (q.put _ _ y.1).2 (q.put _ _ y.1).2 z H D (λI L=>u I (eU _ L));show fW _ _ (F::r) y.2=fW _ _ (F::r) y.2;have O:q.put (λj=>j) (l,a) y.1=((q.put (λj=>j) (l,a) y.1).1,(q.put (λj=>j) (l,a) y.1).2):=rfl;have M:q.put (λj=>j) (l,b) y.1=((q.put (λj=>j) (l,a) y.1).1,(q.put (λj=>j) (l,b) y.1).2):=by rw[E]
   rw[O,M];exact this
open Go.Wk
open Go.Ce (Tr)
open Nat renaming one_pos → Jc
theorem QM:∀a b x,VG a=μ->∃obs,(jK b a x).2=b++obs/\γ (jK b a x).1=γ a/\(∀v∈(jK b a x).1,v.ok (γ b+γ obs))/\∀(j e:Nat) cs,obs[j]? =θ (.bl e cs)->∀c∈cs,c.ok (γ b+γ obs)
 |[],b,x,h=>⟨[],by simp[jK],rfl,λv n=>by simp[jK]at n,λj e cs d=>by simp at d⟩
 |[t],b,x,h=>by
  have k:t.tz=ν:=by
   simp only[VG]at h;cases i:t.tz with
   |true=>rw[i]at h;cases h
   |false=>rfl
  refine⟨(t.lay 0 (γ b) x).2,rfl,rfl,λv f=> ?_,mu t 0 (γ b) x⟩;rw[aG.1 (f)];exact Ty.Gp (bjj t 0 (γ b) x k)
 |t::t2::a,b,x,h=>by
  have k:t.tz=ν/\VG (t2::a)=μ:=by
   have h:(bif t.tz then ν else VG _)=μ:=h;cases i:t.tz with
   |true=>rw[i]at h;cases h
   |false=>rw[i]at h;exact⟨rfl,h⟩
  obtain⟨obs,r,q,p,o⟩:=QM _ _ x.2 k.2;have g:γ (b++(t.lay 0 (γ b) x.1).2)=γ b+γ (t.lay 0 (γ b) x.1).2:=cG;refine⟨(t.lay 0 (γ b) x.1).2++obs,by rw[<-gZ];exact r,by show(_::(jK _ _ x.2).1).length=_;rw[cN,q];rfl,λv f=> ?_,λj e cs d c m=> ?_⟩
  ·rw[cG,<-Ct,<-g];rcases aQ.1 (f)with rfl|f
   ·exact SV.cP (Ty.Gp (bjj t 0 (γ b) x.1 k.1)) aA0
   ·exact p v f
  ·rw[cG,<-Ct,<-g];by_cases l:j<γ (t.lay 0 (γ b) x.1).2
   ·rw[aJ l]at d;exact SC.cP (mu t 0 (γ b) x.1 j e cs d c m) aA0
   ·rw[aO aA0]at d;exact o _ e cs d c m
def noA:δ Ty->Nat
 |[]=>0
 |t::a=>t.no+noA a
theorem QN:∀a b x,γ (jK b a x).2=γ b+noA a
 |[],b,x=>rfl
 |[t],b,x=>by show(b++(t.lay 0 (γ b) x).2).length=_;rw[cG];have:=Ty.eC t 0 (γ b) x;show _=γ b+(t.no+0);omega
 |t::t2::a,b,x=>by show(jK _ _ x.2).2.length=_;rw[QN _,cG,Ty.eC];show _=γ b+(t.no+noA _);omega
theorem DE:∀vs F (i t),Te (TW F i vs) t=if i<=t/\t<i+γ vs then vs.getD (t-i) .u' else Te F t
 |[],F,i,t=>by rw[aA aA3];rfl
 |v::vs,F,i,t=>by
  show Te (TW _ _ vs) t=_;rw[DE vs,Jx,cN];by_cases b:t=i
  ·subst b;rw[aA aA0,aB rfl,aB aA0,Nat.sub_self];rfl
  ·by_cases a:i+1<=t/\t<i+1+γ vs
   ·rw[aB a,aB aA0,show t-i=(t-(i+1))+1 by omega];rfl
   ·rw[aA a,aA b,aA aA0]
theorem Qs{r:δ Rk}{g:δ Ob}{id j:Nat}:∀{l:δ Ob} {i:Nat},eP id j (Ts r g l i)=μ->∃o,i<=id/\l[id-i]? =θ o/\((wC (θ o)=μ/\j=0)\/(wC (θ o)=ν/\id∈Rk.ids r/\j<(tE g id).2.2))
 |[],i,h=>by simp[Ts,eP]at h
 |o::l,i,h=>by
  rcases Hq.1 h with h|h
  ·cases d:wC _ with
   |true=>rw[d]at h;obtain⟨q,a,c,f,b⟩:=wL.1 h;have a:=aG.1 a;subst a;subst c;exact⟨o,dO _,aA3,.inl ⟨d,by have b:j<1:=b;omega⟩⟩
   |false=>
    rw[d]at h;cases e:lG i _ with
    |false=>rw[e]at h;simp[eP]at h
    |true=>rw[e]at h;obtain⟨q,a,c,f,b⟩:=wL.1 h;have a:=aG.1 a;subst a;have c:i=id:=c;subst c;exact⟨o,dO _,aA3,.inr ⟨d,Xq.1 e,b⟩⟩
  ·obtain⟨k,c,f,b⟩:=Qs h;refine⟨k,aA0, ?_,b⟩;rw[show id-i=(id-(i+1))+1 by omega];exact f
theorem tc{H:δ Ob}:∀{r:δ Rk},QC H r=μ->∀q∈r,match q with
  |.r' _=>True
  |.o' id e x=>∃cs,H[id]? =θ (.bl e cs)/\γ cs=x.cn
  |.w' id x=>wC H[id]? =μ/\Es x=μ
 |d::r,h,q,b=>by
  have h:=gX (h);rcases aQ.1 b with rfl|b
  ·cases q with
   |r' x=>trivial
   |o' id e x=>
    have a:=h.1;simp only[gF]at a;split at a
    ·rename_i f cs c;have a:=gX a;rw[gR a.1]at c;exact⟨cs,c,gR a.2⟩
    ·cases a
   |w' id x=>have a:=gX h.1;rw[gF]at a;exact a
  ·exact tc h.2 q b
def ak:δ Rk->δ Rg
 |[]=>[]
 |k::l=>match k with
  |.r' _=>ak l
  |.o' id _ x=>(id,0,x.cn)::ak l
  |.w' id _=>(id,0,1)::ak l
theorem Dj:∀{r:δ Rk} {q:Rg},q∈ak r->(∃id e x,Rk.o' id e x∈r/\q=(id,0,x.cn))\/∃id x,Rk.w' id x∈r/\q=(id,0,1)
 |k::r,q,h=>by
  cases k with
  |r' x=>
   rcases Dj (show q∈ak r from h)with⟨id,e,x,b,a⟩|⟨id,x,b,a⟩
   ·exact .inl ⟨id,e,x,eU _ b,a⟩
   ·exact .inr ⟨id,x,eU _ b,a⟩
  |o' i e x=>
   rcases aQ.1 (h)with rfl|h
   ·exact .inl ⟨i,e,x,gK,rfl⟩
   ·rcases Dj h with⟨id,e,x,b,a⟩|⟨id,x,b,a⟩
    ·exact .inl ⟨id,e,x,eU _ b,a⟩
    ·exact .inr ⟨id,x,eU _ b,a⟩
  |w' i x=>
   rcases aQ.1 (h)with rfl|h
   ·exact .inr ⟨i,x,gK,rfl⟩
   ·rcases Dj h with⟨id,e,x,b,a⟩|⟨id,x,b,a⟩
    ·exact .inl ⟨id,e,x,eU _ b,a⟩
    ·exact .inr ⟨id,x,eU _ b,a⟩
theorem DN{id e:Nat}{x:Ty}:∀{r:δ Rk},Rk.o' id e x∈r->(id,0,x.cn)∈ak r
 |k::r,h=>by
  rcases aQ.1 h with rfl|a
  ·exact gK
  ·cases k with
   |r' _=>exact(show _∈ak r from DN a)
   |o' _ _ _=>exact eU _ (DN a)
   |w' _ _=>exact eU _ (DN a)
theorem DM{id:Nat}{x:Ty}:∀{r:δ Rk},Rk.w' id x∈r->(id,0,1)∈ak r
 |k::r,h=>by
  rcases aQ.1 h with rfl|a
  ·exact gK
  ·cases k with
   |r' _=>exact(show _∈ak r from DM a)
   |o' _ _ _=>exact eU _ (DM a)
   |w' _ _=>exact eU _ (DM a)
theorem Pb{id:Nat}:∀{r:δ Rk},id∈Rk.ids r->(∃e x,Rk.o' id e x∈r)\/∃x,Rk.w' id x∈r
 |k::r,h=>by
  cases k with
  |r' x=>
   rcases Pb (show id∈Rk.ids r from h)with⟨e,x,a⟩|⟨x,a⟩
   ·exact .inl ⟨e,x,eU _ a⟩
   ·exact .inr ⟨x,eU _ a⟩
  |o' i e x=>
   rcases aQ.1 (h)with rfl|h
   ·exact .inl ⟨e,x,gK⟩
   ·rcases Pb h with⟨e,x,a⟩|⟨x,a⟩
    ·exact .inl ⟨e,x,eU _ a⟩
    ·exact .inr ⟨x,eU _ a⟩
  |w' i x=>
   rcases aQ.1 (h)with rfl|h
   ·exact .inr ⟨x,gK⟩
   ·rcases Pb h with⟨e,x,a⟩|⟨x,a⟩
    ·exact .inl ⟨e,x,eU _ a⟩
    ·exact .inr ⟨x,eU _ a⟩
section
variable {C:Cx}{md:Md}{w0 w:ο}{S0:δ Nat}{GS:Gc}{ρ ah:Nat->Ad}{Se:St}{Fe:Nat->ξ}{a:δ Ty}{r:δ Rk}{H gs:δ Ob}
theorem end_ok(c2:md=⟨md.n,[],ι⟩)(hn:C.nn=md.n)(hS:Rel C w0 S0 ah Se Fe w)(U:NF ρ H)(b3:∀(id e:Nat) cs,H[id]? =θ (.bl e cs)->∀c∈cs,c.ok (γ H))(a8:(Rk.ids r).Nodup)(d:QC H r=μ)
  (I:Le (γ (H++gs)) (Ts r H H 0) ρ (H++gs) ah Se.H) {rs:δ ResultVar} {y:(hC r).T} (h:UK C (γ (H++gs)) (Ts r H H 0) rs r Se=θ y):
  ∃D L2 us,Up (γ H) ρ D/\Hp w0 S0 L2 w/\Mt w0 S0 D (fW (λj=>j) ([],kill H (Im (Rk.ids r) H 0)) r y).2 L2/\(fW (λj=>j) ([],kill H (Im (Rk.ids r) H 0)) r y).1.map (SA.v D)=us/\
   (rs.map (Go.Oe.iJ C Se)).map (SV.v ah)=us.map θ:=by
 unfold UK at h;split at h
 ·rename_i x ss hr;have h:=dG h;have P:=gX (h.1);have b:=dG h.2;have X:=sZ.1 b.1;cases b.2;let E:=Im (Rk.ids r) H 0;let R:=ak r
  let ρ3:Nat->Ad:=λid=>if id<γ H then ah id else match ss[id-γ H]? with
   |some s=>s.ad ah
   |none=>ah id
  have l:Up (γ H) ah ρ3:=λid hi=>by simp only[ρ3,hi,gG]
  have A:Up (γ H) ρ ah:=λid hi=>I.up id aC9;have N:=A.trans l (dO _);have Z:∀j s,ss[j]? =θ s->ρ3 (γ H+j)=s.ad ah:=by intro j s hj;have a:¬γ H+j<γ H:=aA0;have b:γ H+j-γ H=j:=aA0;simp only[ρ3,a,IQ,b,hj]
  have f:∀id,id∈E↔∃o,H[id]? =θ o/\wC (θ o)=μ/\id∉Rk.ids r:=by intro id;show id∈Im _ H 0↔_;rw[Bq];simp
  have M:∀q∈R,(∃e cs,H[q.1]? =θ (.bl e cs)/\q.2.2<=γ cs)\/(wC H[q.1]? =μ/\q.2=(0,1)):=by
   intro q k;rcases Dj k with⟨id,e,x,a,rfl⟩|⟨id,x,a,rfl⟩
   ·obtain⟨cs,g,B⟩:=tc d _ a;exact .inl ⟨e,cs,g,by rw[B];exact dO _⟩
   ·exact .inr ⟨(tc d _ a).1,rfl⟩
  have a1:∀id∈E,wC H[id]? =μ\/∃e cs,H[id]? =θ (.bl e cs):=by intro id hid;obtain⟨o,a,b,_⟩:=(f id).1 hid;exact .inl (by rw[a];exact b)
  have Y:∀id j,eP id j (Ts r H H 0)=μ->eP id j (R++Xl H E)=μ:=by
   intro id j J;obtain⟨o,_,a,b⟩:=Qs J;rw[iU]at a;rcases b with⟨b,rfl⟩|⟨b,g,B⟩
   ·by_cases m:id∈Rk.ids r
    ·rcases Pb m with⟨e,x,p⟩|⟨x,p⟩
     ·obtain⟨cs,z,_⟩:=tc d _ p;rw[a]at z;cases z;cases b
     ·exact Hq.2 (.inl (wL.2 ⟨_,DM p,rfl,dO _,Jc⟩))
    ·exact Hq.2 (.inr (bby ((f id).2 ⟨o,a,b,m⟩)))
   ·rcases Pb g with⟨e,x,p⟩|⟨x,p⟩
    ·obtain⟨cs,z,h7⟩:=tc d _ p;refine Hq.2 (.inl (wL.2 ⟨_,DN p,rfl,cW _, ?_⟩));unfold tE at B;rw[gF,z]at B;show j<x.cn;rw[<-h7];exact B
    ·have:=(tc d _ p).1;rw[a,b]at this;cases this
  have V:Le (γ H) (R++Xl H E) ρ H ah Se.H:=by refine⟨by have:=I.len;rw[cG]at this;omega,A,λid o hi m=> ?_⟩;have:=I.kp id o aC9 (by rw[aJ hi];exact m);exact this.mono λj J=>Y id j J
  have h0:=PI.th (F2:=Fe) (Fm:=(Tr.e:Tr SV)) (ρ3:=ρ3) U b3 M a1 V N (λt u hu=>by
   have e:Te (Tr.e:Tr SV) t=.u':=aF2;rw[e]at hu;cases hu) (λt=>by
   have e:Te Tr.e t=.u':=aF2;rw[e];trivial)
  have G:γ (kill (Xj H R) E)=γ H:=by rw[bkr,bju]
  have b5:∀q∈r,KR (γ H) H (kill (Xj H R) E) E (R++Xl H E) q:=by
   intro q k;have m:=tc d q k;cases q with
   |r' x=>trivial
   |o' id e x=>
    obtain⟨cs,g,B⟩:=m;refine⟨(aF.1 g).1,λj hj=>Hq.2 (.inl (wL.2 ⟨_,DN k,rfl,cW _,hj⟩)), ?_⟩;obtain⟨o2,p,K,rfl,_⟩:=bcl g;have b0:id∉E:=λhE=>by obtain⟨o,z,h7,_⟩:=(f id).1 hE;rw[g]at z;cases z;cases h7
    exact⟨e,K,by rw[SE,aA b0];exact p⟩
   |w' id x=>
    have m:wC H[id]? =μ/\Es x=μ:=m;have S:id<γ H:=by
     cases g:H[id]? with
     |none=>rw[g]at m;cases m.1
     |some _=>exact(aF.1 g).1
    refine⟨S,Hq.2 (.inl (wL.2 ⟨_,DM k,rfl,dO _,Jc⟩)),λhE=> ?_,m.1⟩;obtain⟨o,_,_,z⟩:=(f id).1 hE;exact z (uK k (aG.2 rfl))
  obtain⟨hP,us,a6,O⟩:=PI.C7 (zT hS) (zU hS) (dO _) l r _ [] y ss _ [] h0 hr a8 b5 (by rw[G];exact Z);rw[Rl]at hP;obtain⟨L,hH,hM⟩:=hS.mem;obtain⟨L3,b6,a0⟩:=hP.mem hH hM l Z (nD.1 P.1) (λid hid S=>by
   have J:=Af P.2 (by show id<γ (H++gs);rw[cG];omega) (bby hid);obtain⟨o,_,a,b⟩:=Qs J;rw[iU]at a;have Q:=X id hid;rcases b with⟨b,_⟩|⟨_,g,_⟩
   ·exact(f id).2 ⟨o,a,b,Q⟩
   ·exact absurd g Q)
  have F:fW (λj=>j) ([],kill (Xj H R) E) r y=fW (λj=>j) ([],kill H E) r y:=by
   have b1:∀id,fS (kill (Xj H R) E) id=fS (kill H E) id:=by
    intro id;rw[YA,YA,SE,SE];cases W:H[id]? with
    |none=>rw[Hg W]
    |some o=>
     obtain⟨o2,a,b⟩:=bcl W;rw[a];split
     ·exact b.len
     ·exact b.len
   refine UO r y [] _ _ (by rw[bkr,bju,bkr]) b1 (λid hid=> ?_) (λq k id x e=> ?_)
   ·rw[SE,SE];cases W:H[id]? with
    |none=>rw[Hg W]
    |some o=>
     have a9:∀j,eP id j R=ν:=by
      intro j;cases J:eP id j R with
      |false=>rfl
      |true=>
       exfalso;obtain⟨q,k,a,_⟩:=wL.1 J;rcases Dj k with⟨i,e,x,g,rfl⟩|⟨i,x,g,rfl⟩
       ·have a:=a;subst a;exact hid (uK g (aG.2 rfl))
       ·have a:=a;subst a;exact hid (uK g (aG.2 rfl))
     have a7:∀q∈R,q.1≠id:=by
      intro q k e;rcases Dj k with⟨i,e2,x,g,rfl⟩|⟨i,x,g,rfl⟩
      ·have e:=e;subst e;exact hid (uK g (aG.2 rfl))
      ·have e:=e;subst e;exact hid (uK g (aG.2 rfl))
     obtain⟨o2,a,b⟩:=bcl W;have e:o2=o:=by
      cases o with
      |bl e cs=>
       obtain⟨K,rfl,g,B⟩:=b;have:K=cs:=cD λj=>by rw[B,a9 j,aA aA3]
       rw[this]
      |_=>
       rcases b with⟨b,_⟩|⟨_,q,k,g⟩
       ·exact b
       ·exact absurd g (a7 q k)
     rw[a,e]
   ·have:=tc d q k;rw[e]at this;exact this.2
  rw[F]at a0 O;refine⟨ρ3,L3,us,N,b6,a0,by rw[O];rfl,a6⟩
 ·cases h
end
open Go.Wk
open Go.Ce (Tr)
open List renaming length → aL, replicate → iZ
open Nat renaming beq → cU, blt → fL
section
variable {C:Cx}{md:Md}{w0 w:ο}{S0:δ Nat}{GS:Gc}{ρ:Nat->Ad}{S:St}{F:Nat->ξ}
variable {u:ξ}
theorem LF{t : ω}{a : χ}{p : Γ}(hx : aX md F a = .pointer (θ p))(h : (ς (aX md F) (⟨θ 0, .load t a, 0, "", #[], ι⟩)).run C.P w = .ok (.value u) w) : (loadVar t p).run C.P w = .ok u w := by
 simp only[ς,hx,Instr.loadAt,Instr.sureAddr,Sem.run_bind,Sem.run_pure,Result.andThen_ok]at h;cases b:(loadVar t p).run C.P w with
 |ok v w'=>rw[b]at h;simp at h;rw[h.1,h.2]
 |halt x w'=>rw[b]at h;cases h
theorem UJ(j:C.nn=md.n)(g:Rel C w0 S0 ρ S F w){rv:ResultVar}(h:(Go.Oe.iJ C S rv).v ρ=θ u):(Go.Wk.iJ (fr md F).tmps rv).run C.P w=.ok u w:=by
 cases rv with
 |tmp t=>have:=(Tn g j (.tmp t)).2 u h;have e:(bif fL t md.n then F t else undef)=u:=this;unfold Go.Wk.iJ;simp only[pE,e,Sem.run_pure]
 |cell a t=>
  have h:((match S.ev C (.tmp a)with
   |.c' x=>match kJ C S.H t x with
    |some ⟨[],v,_,_⟩=>v
    |_=>.u'
   |_=>.u'):SV).v ρ=θ u:=h
  split at h
  ·rename_i x hx;have d:=hx;obtain⟨s,c⟩:=oA g j d;split at h
   ·rename_i v H m b;obtain⟨⟨_,r,k,q⟩,_⟩:=QH g c b trivial;rw[h]at k;cases k
    have o := q 0 0 "" #[];have f:∃p,x.v ρ=.pointer (θ p):=by
     unfold kJ at b;split at b
     ·rename_i n y _ _;cases i:cU n 0 with
      |true=>rw[i]at b;cases b
      |false=>rw[i]at b;cases x<;>first|exact⟨_,rfl⟩|cases b
     ·cases b
    obtain⟨p,f⟩:=f;rw[f]at c;have l:=LF c o;have e:(bif fL a md.n then F a else undef)=.pointer _:=c;unfold Go.Wk.iJ;simp only[pE,e];exact l
   ·cases h
  ·cases h
end
def VB:δ ξ->ξ
 |[u]=>u
 |a=>.tuple a.toArray
variable {P:Β}{k:Nat}{w:ο}{a:Func}
theorem Mc{F:Nat->ξ}(l:δ ResultVar)(vs:δ ξ)(e:a.results=l.toArray)(g:aL l=aL vs)
  (d:∀(i:Nat) x v,l[i]? =θ x->vs[i]? =θ v->(Go.Wk.iJ (fr ⟨k,[],ι⟩ F).tmps x).run P w=.ok v w) (v:ξ) (c:VB vs=v):
  (results a (fr ⟨k,[],ι⟩ F).tmps).run P w=.ok v w:=by
 have f:=Ls _ l vs g d;unfold results;rw[e];change Sem.run P (do let vs<-l.toArray.mapM (Go.Wk.iJ (fr _ F).tmps);pure (if h:vs.size=1 then vs[0]else .tuple vs)) w=_;simp;rw[f];subst c;cases vs with
 |nil=>simp[VB]
 |cons u b=>cases b with
  |nil=>simp[VB]
  |cons u' b=>simp[VB]
theorem I1{ρ:Nat->Ad}:∀l,(mF l).v ρ=θ (VB (l.map (SA.v ρ)))
 |[]=>rfl
 |[x]=>SA.dw ρ x
 |_::_::_=>rfl
variable {s:Gc}
theorem zq{C:Cx}{code:Code}{gl:δ (Nat×Ob)}{rs:δ ResultVar}{sc:Sc}{G:δ Ty}{r:δ Rk}{f:(gE G).T->Gv (hC r).T}(hf:C.P.funcs[k]? =θ a)(hb:a.body=θ code)(hn:a.ntmps=C.nn)(hr:a.results=rs.toArray)
  (F:∀x y,(f x).ok y->denF C (gl.map (·.2)) code rs sc G r x=θ y) (c9:aL G<=C.nn) (hE:EOk C) (hX:∀k,∀c∈C.X k,Enters C.P k/\Xv C.P s k c) (c7:∀q∈gl,q∈s.gs/\∃t l,q.2=.ro t l)
  (hG:∀g id,C.G g=θ id->∃i q,id=noA G+i/\gl[i]? =θ q/\q.1=g):Xv C.P s k ⟨G,r,f⟩:=by
 intro w S ρ L us x y b8 d1 d0 K hy;let H:δ Ob:=(jK [] G x).2;have f6:mM _ x=H:=rfl;let gs:δ Ob:=gl.map (·.2);have hd:=F x y hy;have hd:=hd;have hd:=dG hd;have hc:=gX hd.1;have b7:=gX hc.2;have c5:=hc.1;have c6:=nD.1 b7.1;have b1:=b7.2;have F:=hd.2;obtain⟨a8,b2,A,Y,M⟩:=QM G [] x c5;rw[Rl]at b2;have N:H=a8:=b2;have Z:aL H=noA G:=by have:=QN G [] x;rw[iP,Jd]at this;exact this
 have a2:γ ([]:δ Ob)+aL a8=aL H:=by rw[N];simp
 rw[a2]at Y M;have hm:Mt w S ρ H L:=d0;have R:∀(i:Nat) (q:Nat×Ob),gl[i]? =θ q->∃t l,q.2=.ro t l/\Rd w (θ ⟨q.1,0,ι⟩) (l.flatMap t.enc)/\q.1∉S:=by intro i q hq;obtain⟨g,o⟩:=q;obtain⟨d,t,l,b⟩:=c7 _ (aI hq);have b:o=.ro t l:=b;subst b;have:=s.rd b8 d;exact⟨t,l,rfl,this.1,this.2⟩
 let m:Nat->Ad:=λid=>if id<aL H then ρ id else match gl[id-aL H]? with
  |some q=>⟨ι,θ ⟨q.1,0,ι⟩,q.2.len,ν,q.2.len⟩
  |none=>ρ id
 have T:Up (γ H) ρ m:=λid E=>by simp only[m,E,gG]
 have b6:∀(i:Nat) (q:Nat×Ob),gl[i]? =θ q->m (aL H+i)=⟨ι,θ ⟨q.1,0,ι⟩,q.2.len,ν,q.2.len⟩:=by intro i q hq;have e1:¬γ H+i<aL H:=aA0;have e2:aL H+i-aL H=i:=aA0;simp only[m,e1,IQ,e2,hq]
 have c2:(jK [] G x).1.map (SV.v m)=us.map θ:=by have K:(jK [] G x).1.map (SV.v ρ)=us.map θ:=K;rw[<-K];refine bz λv hv=>SV.up T (Y v hv)
 have b3:aL us=aL G:=by have:=bF aL K;simp at this;rw[<-this];exact A
 let S1:St:=⟨TW Tr.e 0 (jK [] G x).1,H++gs,γ (H++gs),Ts r H H 0,[]⟩;have b4:γ (H++gs)=aL H+aL gl:=by simp[gs]
 have b0:Rel C w S m S1 (MS us) w:=by
  have hO:∀t,S1.at t=if t<aL G then(jK [] G x).1.getD t .u' else .u':=by intro t;rw[St.at_eq];show Te (TW Tr.e 0 (jK [] G x).1) t=_;rw[DE,A];have e:Te (Tr.e:Tr SV) t=.u':=aF2;rw[e];simp
  refine⟨λg id hg=> ?_,λt u Q=> ?_,λt=> ?_,λid e cs h c c8=> ?_,⟨L++iZ (γ gl) dM, ?_, ?_, ?_⟩⟩
  ·obtain⟨i,q,d,b,rfl⟩:=hG g id hg;have E:=(aF.1 b).1;rw[<-Z]at d;subst d;exact⟨by show γ H+i<γ (H++gs);omega,by rw[b6 i q b]⟩
  ·rw[hO]at Q;split at Q
   ·rename_i W;have d:(jK [] G x).1[t]? =θ ((jK [] G x).1[t]' aD9):=aN aD9;have b:=bF (λl=>l[t]?) c2;simp only[aY,d]at b;have B:us[t]? =θ (us[t]' aA0):=aN aA0;rw[B]at b;rw[bJ,d]at Q;have O:=aP b;rw[show((θ ((jK [] G x).1[t]' aD9)).getD SV.u')=(jK [] G x).1[t]' aD9 from rfl,O]at Q;unfold MS;rw[bJ,B];exact aP Q
   ·cases Q
  ·rw[hO];split
   ·rename_i W;have d:(jK [] G x).1[t]? =θ ((jK [] G x).1[t]' aD9):=aN aD9;rw[bJ,d];exact SV.cP (Y _ (aI d)) (by show γ H<=γ (H++gs);omega)
   ·trivial
  ·have h:(H++gs)[id]? =θ (.bl e cs):=h;by_cases E:id<aL H
   ·rw[aJ E,N]at h;exact SC.cP (M id e cs h c c8) (by show γ H<=γ (H++gs);omega)
   ·rw[aO aA0]at h;exfalso;obtain⟨q,d,b⟩:=map_some h;obtain⟨t,l,B,_⟩:=R _ q d;rw[B]at b;cases b
  ·have key:∀n,Hp w S (L++iZ n dM) w:=by
    intro n;induction n with
    |zero=>rw[List.replicate_zero,gD];exact d1
    |succ n ih=>have:=Go.Oe.Hp.rot (uL ih);rw[gZ]at this;rw[List.replicate_succ'];exact this
   exact key _
  ·show(L++_).length=γ (H++gs);rw[cG,List.length_replicate,b4,hm.1]
  ·intro id o h;have h:=h;by_cases E:id<aL H
   ·rw[aJ E]at h;obtain⟨d,r1,b,B⟩:=hm.2 id o h;refine⟨by rw[T id E];exact d,r1,by rw[aJ (by rw[hm.1];exact E)];exact b,B.up T E λe cs he=> ?_⟩;rw[he,N]at h;exact M id e cs h
   ·rw[aO aA0]at h;obtain⟨q,d,b⟩:=map_some h;obtain⟨t,l,B,O,h5⟩:=R _ q d;have a0:=b6 _ q d;rw[show γ H+(id-aL H)=id by omega]at a0;rw[B]at b;subst b;have b5:=(aF.1 d).1;refine⟨by rw[a0,B],dM, ?_,rfl, ?_⟩
    ·rw[aO (by rw[hm.1];omega),qH,aB (by rw[hm.1];exact b5)]
    ·rw[a0];exact⟨O,λ_ p hp=>by cases hp;exact h5,by rw[B];exact dO _⟩
 let md:Md:=⟨C.nn,[],ι⟩;have b9:Env C md w S s:=⟨hE,rfl,b8,hX⟩
 have a9:=WZ (τ:=hC r) (res:=UK C (γ (H++gs)) (Ts r H H 0) rs r) (md:=md) (w0:=w) (S0:=S) (C:=C) rfl ⟨_,rfl⟩ (xl rfl) code (fp b9 rfl code);have c0:∀U D F2 I,UK C (γ (H++gs)) (Ts r H H 0) rs r U=θ y->Rel C w S D U F2 I->Le S1.nb S1.al m S1.H D U.H->
   ∃J v,aL rs=aL J/\(∀(i:Nat) (x:ResultVar) (u:ξ),rs[i]? =θ x->J[i]? =θ u->(Go.Wk.iJ (fr md F2).tmps x).run C.P I=.ok u I)/\VB J=v/\
    ∃j V,Up (γ H) ρ j/\Hp w S V I/\Mt w S j (nA _ x y).2 V/\(mF (nA _ x y).1).v j=θ v:=by
  intro U D F2 I d b B;obtain⟨j,V,J,O,h5,h6,h7,h8⟩:=end_ok (md:=md) (H:=H) (gs:=gs) (ρ:=m) rfl rfl b (λid o h=>by have E:=(aF.1 h).1;rw[T id E];exact hm.lns id o h) (λid e cs h=>by rw[N]at h;exact M id e cs h) c6 b1 B d;refine⟨J,_,by simpa using bF aL h8,λi rv u E Q=> ?_,rfl,j,V,T.trans O (dO _),h5,h6, ?_⟩
  ·have h9:=bF (λl=>l[i]?) h8;simp only[aY,E,Q]at h9;exact UJ rfl b (aP h9)
  ·rw[<-h7];exact I1 _
 refine enter hf hb hn (by rw[b3];exact c9) ?_;refine a9 sc S1 _ θ _ y m _ w _ F b0 (λe U D F2 I he a1 hN e8 d3=> ?_) (λz U D F2 I hz c4 a1 hL=> ?_)
 ·cases e with
  |nm=>obtain⟨J,v,d,b,B,j,V,O⟩:=c0 U D F2 I he a1 hN.le;exact⟨rfl,v,Mc rs J hr d b v B,v,rfl,j,V,O⟩
  |xt i=>cases he
 ·cases c4;obtain⟨J,v,d,b,B,j,V,O⟩:=c0 U D F2 I hz a1 hL.le;exact⟨rfl,v,Mc rs J hr d b v B,v,rfl,j,V,O⟩
open Go.Wk
open Go.Ce (Tr)
open List renaming replicate → iZ
open Nat renaming beq → cU, one_pos → Jc, succ → rG
structure KF (P:Β) (GS:Gc) where
 k:Nat
 c:yW
 en:Enters P k
 ok:Xv P GS k c
def Wb{P:Β}{a:Gc}:δ (KF P a)->Nat->δ yW
 |[],_=>[]
 |q::l,k=>bif cU k q.k then q.c::Wb l k else Wb l k
theorem Nf{P:Β}{b:Gc}:∀(l:δ (KF P b)) (k:Nat),∀c∈Wb l k,Enters P k/\Xv P b k c
 |[],k,c,h=>by cases h
 |q::l,k,c,h=>by
  unfold Wb at h;cases a:cU k q.k with
  |false=>rw[a]at h;exact Nf l k c h
  |true=>
   rw[a]at h;rcases aQ.1 (show c∈q.c::Wb l k from h)with rfl|h
   ·rw[gR a];exact⟨q.en,q.ok⟩
   ·exact Nf l k c h
def kz:δ (Nat×Ob)->Nat->Nat->ε Nat
 |[],_,_=>ι
 |q::l,n,g=>bif cU g q.1 then θ n else kz l (rG n) g
theorem RB:∀(l:δ (Nat×Ob)) (n g id:Nat),kz l n g=θ id->∃i q,id=n+i/\l[i]? =θ q/\q.1=g
 |[],n,g,id,h=>by cases h
 |q::l,n,g,id,h=>by
  unfold kz at h;cases a:cU g q.1 with
  |false=>rw[a]at h;obtain⟨i,b,e,d,c⟩:=RB l (rG n) g id h;exact⟨i+1,b,aA0,d,c⟩
  |true=>rw[a]at h;cases h;exact⟨0,q,rfl,rfl,(gR a).symm⟩
structure Sea where
 P:Β
 GS:Gc
 E:Nat->Option (Nat×Nat×Ty)
 hE:∀t e b τ,E t=θ (e,b,τ)->P.underlying t=θ (.slice e)/\TI P e τ.sz b/\τ.flat=μ/\0<b
 gt:∀q∈GS.gs,∃t l,q.2=.ro t l
abbrev Sea.K(T:Sea):Type:=KF T.P T.GS
abbrev Sea.cx(T:Sea)(fu n:Nat)(l:δ T.K)(a:δ Ty):Cx:=⟨T.P,Wb l,T.E,kz T.GS.gs (noA a),n,fu⟩
def Sea.fn(T : Sea)(fu k : Nat){fn : Func}(e : T.P.funcs[k]? = θ fn){code : Code}(f : fn.body = θ code)(nm : (fn.name == "runtime.NumGoroutine") = ν)(l : δ T.K)(a : δ Ty)(r : δ Rk)(g : (gE a).T -> ε (hC r).T)(sc : Sc)
  (c:Nat.ble (γ a) fn.ntmps=μ) (b:∀x,denF (T.cx fu fn.ntmps l a) (T.GS.gs.map (·.2)) code fn.results.toList sc a r x=g x):T.K:=
 ⟨k,⟨a,r,λx=>.one (g x)⟩,⟨fn,code,e,f,nm⟩,
  zq (C:=T.cx fu fn.ntmps l a) (gl:=T.GS.gs) e f rfl (rs:=fn.results.toList) aA3 (sc:=sc) (λx y i=>(b x).trans i) (CQ c) T.hE (Nf l) (λq d=>⟨d,T.gt q d⟩) (λg id h=>RB _ _ _ _ h)⟩
variable {c:yW}
theorem SD(V:(gE c.a).T->δ ξ)(R:(hC c.r).T->ξ)(h:∀w S x y,s.p w S->(c.f x).ok y->CR P k (V x) w λv j=>v=R y/\Hp w [] [] j)(C:∀x,mM c x=[]:=by intros;rfl)(z:∀ρ x,(jK [] c.a x).1.map (SV.v ρ)=(V x).map θ:=by intros;rfl)(l:∀x y,(nA c x y).2=[]:=by intros;rfl)(A:∀ρ x y,(mF (nA c x y).1).v ρ=θ (R y):=by intros;rfl):Xv P s k c:=by intro w S ρ L m x y D i g d n;rw[z]at d;have e:V x=m:=(Rc (λa b h=>aP h)).1 d;subst e;have B:L=[]:=Je (by rw[g.1,C];rfl);subst B;refine Calls.mono (h w S x y D n) ?_;rintro E j ⟨v,u,rfl,q⟩;refine⟨_,u,ρ,[],λ_ _=>rfl,i.call q, ?_,A ρ x y⟩;rw[l];exact⟨rfl,λid o t=>by simp at t⟩
theorem T8{t:Ty}(X:(gE c.a).T->δ t.T)(V:(gE c.a).T->δ ξ)(R:(hC c.r).T->ξ)(h:∀w S x y a n cap,s.p w S->(c.f x).ok y->n=γ (X x)->Rd w a ((X x).flatMap t.enc)->n<=cap->CR P k (π a n cap::V x) w λv j=>v=R y/\Hp w [] [] j)(B:∀x,mM c x=[.ro t (X x)]:=by intros;rfl)(z:∀(ρ:Nat->Ad) x,(jK [] c.a x).1.map (SV.v ρ)=(π (ρ 0).a (ρ 0).ln (ρ 0).cap::V x).map θ:=by intros;rfl)(m:∀x y,(nA c x y).2=[.ro t (X x)]:=by intros;rfl)(A:∀ρ x y,(mF (nA c x y).1).v ρ=θ (R y):=by intros;rfl):Xv P s k c:=by intro w S ρ L E x y C i d g o;rw[z]at g;have e:=(Rc (λa b h=>aP h)).1 g;subst e;rw[B]at d;obtain⟨D,r,G,F,l⟩:=d.2 0 _ rfl;have jZ:(ρ 0).ln=γ (X x):=D.symm;refine Calls.mono (h w S x y _ _ _ C o jZ l.1 (by rw[jZ];exact l.2.2)) ?_;rintro H j ⟨v,u,rfl,q⟩;refine⟨_,u,ρ,L,λ_ _=>rfl,i.call q, ?_,A ρ x y⟩;rw[m];exact d
theorem lf{e b:Nat}{t:Ty}(Y:(hC c.r).T->δ t.T)(V:(gE c.a).T->δ ξ)(h:∀w S x y,s.p w S->(c.f x).ok y->CR P k (V x) w λv l=>∃o a cap,v=.slice a (γ (Y y)) cap/\Hp w [] [bN t.enc e t.sz o a cap (Y y)] l)(q:∀x,mM c x=[]:=by intros;rfl)(C:∀(ρ:Nat->Ad) x,(jK [] c.a x).1.map (SV.v ρ)=(V x).map θ:=by intros;rfl)(A:∀x y,(nA c x y).2=[.rw e b t (Y y)]:=by intros;rfl)(D:∀(ρ:Nat->Ad) x y,(mF (nA c x y).1).v ρ=θ (.slice (ρ 0).a (ρ 0).ln (ρ 0).cap):=by intros;rfl):Xv P s k c:=by
 intro w S ρ L G x y F j g d u;rw[C]at d;have e:=(Rc (λa b h=>aP h)).1 d;subst e;have E:L=[]:=Je (by rw[g.1,q];rfl);subst E;refine Calls.mono (h w S x y F u) ?_;rintro H l ⟨v,B,o,a,cap,rfl,z⟩;refine⟨_,B,λid=>⟨o,a,cap,ν,γ (Y y)⟩,_,(λi n=>by rw[q]at n;cases n),j.lX z, ?_,D _ x y⟩;rw[A];refine⟨rfl,λid ob m=> ?_⟩;cases id with
 |zero=>cases m;exact⟨rfl,_,rfl,rfl⟩
 |succ id=>simp at m
theorem uP{e b:Nat}{t:Ty}(X:(gE c.a).T->δ t.T)(Y:(hC c.r).T->δ t.T)(h:∀w S x y a n cap,s.p w S->(c.f x).ok y->n=γ (X x)->Rd w a ((X x).flatMap t.enc)->n<=cap->CR P k [π a n cap] w λv B=>∃o a cap,v=.slice a (γ (Y y)) cap/\Hp w [] [bN t.enc e t.sz o a cap (Y y)] B)(z:∀x,mM c x=[.ro t (X x)]:=by intros;rfl)(H:∀(ρ:Nat->Ad) x,(jK [] c.a x).1.map (SV.v ρ)=[π (ρ 0).a (ρ 0).ln (ρ 0).cap].map θ:=by intros;rfl)(E:∀x y,(nA c x y).2=[.ro t (X x),.rw e b t (Y y)]:=by intros;rfl)(I:∀(ρ:Nat->Ad) x y,(mF (nA c x y).1).v ρ=θ (.slice (ρ 1).a (ρ 1).ln (ρ 1).cap):=by intros;rfl):Xv P s k c:=by
 intro w S ρ L N x y J m g j C;rw[H]at j;have e:=(Rc (λa b h=>aP h)).1 j;subst e;rw[z]at g;obtain⟨A,r,M,K,q⟩:=g.2 0 _ rfl;have jZ:(ρ 0).ln=γ (X x):=A.symm;refine Calls.mono (h w S x y _ _ _ J C jZ q.1 (by rw[jZ];exact q.2.2)) ?_;rintro O B ⟨v,G,o,a,cap,rfl,D⟩;have F:=(m.lX D).perm (ai (l₁:=[_]) (l₂:=L));have l:γ L=1:=g.1;refine⟨_,G,λid=>if id=0 then ρ 0 else⟨o,a,cap,ν,γ (Y y)⟩,_,λi u=> ?_,F, ?_,I _ x y⟩
 ·rw[z]at u;have:i=0:=Nat.lt_one_iff.1 u;subst this;rfl
 rw[E];refine⟨by simp[l],λid ob d=> ?_⟩
 match id,d with
 |0,d=>cases d;exact⟨A,r,by rw[aJ aA0];exact M,K,q⟩
 |1,d=>cases d;exact⟨rfl,_,by rw[aO aA0,l];rfl,rfl⟩
 |id+2,d=>simp at d
theorem LX{e b q:Nat}{t:Ty}{G:δ t.T->ε (δ t.T)}(h:Xv P s k ⟨[.l' e b t,.f' q .u'],[.w' 0 (.l' e b t)],λx=>.one (G x.1)⟩){o:ε Nat}{a:ε Γ}{cap:Nat}{l r:δ t.T}{S:δ Nat}
  (y:G l=θ r) (C:s.p w S) (A:Hp w S [bN t.enc e t.sz o a cap l] w):CR P k [π a (γ l) cap,Θ (.func q) #[] #[]] w λv w'=>v=.tuple #[]/\γ r=γ l/\Hp w S [bN t.enc e t.sz o a cap r] w':=by
 refine Calls.mono (h w S (λ_=>⟨o,a,cap,ν,γ l⟩) _ [π a (γ l) cap,Θ (.func q) #[] #[]] (l,()) r C A ?_ rfl y) ?_
 ·show Mt w S _ [.rw e b t l] _;refine⟨rfl,λid ob n=> ?_⟩;cases id with
  |zero=>cases n;exact⟨rfl,_,rfl,rfl⟩
  |succ id=>simp at n
 ·rintro I H ⟨v,z,c,m,i,F,d,E⟩
  have i:c 0=⟨o,a,cap,ν,γ l⟩:=i 0 Jc;have d:Mt w S c [.rw e b t r] m:=d;obtain⟨g,u,f,j⟩:=d.2 0 _ rfl;have g:γ r=(c 0).ln:=g;have j:u=bN t.enc e t.sz (c 0).o (c 0).a (c 0).cap r:=j;subst j;rw[i]at g f;have B:m=[bN t.enc e t.sz o a cap r]:=by
   have D:=d.1
   match m,D,f with
   |[x],_,f=>cases f;rfl
  subst B;exact⟨v,z,(aP E).symm,g,F⟩
theorem RX(h:Xv P s k c)(V:(gE c.a).T->δ ξ)(R:(hC c.r).T->ξ){x:(gE c.a).T}{y:(hC c.r).T}(t:s.p w [])(j:(c.f x).ok y)(g:∀x,mM c x=[]:=by intros;rfl)(n:∀ρ x,(jK [] c.a x).1.map (SV.v ρ)=(V x).map θ:=by intros;rfl)(q:∀ρ x y,(mF (nA c x y).1).v ρ=θ (R y):=by intros;rfl):CR P k (V x) w λv b=>v=R y/\Hp w [] [] b:=by
 refine Calls.mono (h w [] (λ_=>⟨ι,ι,0,ν,0⟩) [] (V x) x y t (Hp.refl w) ?_ (n _ x) j) ?_
 ·rw[g];exact⟨rfl,λid o l=>by simp at l⟩
 ·rintro e b ⟨v,m,i,z,_,u,_,d⟩;rw[q]at d;exact⟨v,m,(aP d).symm,u.nil⟩
def adL:δ (ε Γ×Nat×Nat)->Nat->Ad
 |[],_=>⟨ι,ι,0,ν,0⟩
 |p::A,id=>match id with
  |0=>⟨ι,p.1,p.2.2,ν,p.2.1⟩
  |id+1=>adL A id
def roP(w:ο):δ (ε Γ×Nat×Nat)->δ Ob->Prop
 |p::A,.ro t l::H=>(p.2.1=γ l/\Rd w p.1 (l.flatMap t.enc)/\p.2.1<=p.2.2)/\roP w A H
 |[],[]=>True
 |_,_=>False
theorem F5{w:ο}:∀(A:δ (ε Γ×Nat×Nat)) (H:δ Ob),roP w A H->∀(id:Nat) (o:Ob),H[id]? =θ o->∃t l,o=.ro t l/\γ l=(adL A id).ln/\Xu w [] (adL A id) t l
 |[],[],_,id,o,a=>by simp at a
 |p::A,.ro t l::H,h,0,o,a=>by cases a;exact⟨t,l,rfl,h.1.1.symm,h.1.2.1,λ_ _ _ b=>(nomatch b),show γ l<=p.2.2 from h.1.1▸h.1.2.2⟩
 |p::A,.ro t l::H,h,id+1,o,a=>F5 A H h.2 id o a
theorem GW(h:Xv P s k c)(A:δ (ε Γ×Nat×Nat))(V:δ ξ){x:(gE c.a).T}{y:(hC c.r).T}(z:s.p w [])(q:(c.f x).ok y)(B:roP w A (mM c x))(u:(jK [] c.a x).1.map (SV.v (adL A))=V.map θ):CR P k V w λv g=>∃ρ L,Hp w [] L g/\Mt w [] ρ (nA c x y).2 L/\(mF (nA c x y).1).v ρ=θ v:=by
 refine Calls.mono (h w [] (adL A) (iZ (γ (mM c x)) dM) V x y z ?_ ⟨List.length_replicate,λid o i=> ?_⟩ u q) ?_
 ·generalize(mM c x).length=n;induction n with
  |zero=>exact Hp.refl w
  |succ n m=>exact uL m
 ·obtain⟨t,l,rfl,E,d⟩:=F5 A _ B id o i;exact⟨E,dM,by rw[qH,aB (aF.1 i).1],rfl,d⟩
 ·rintro e g ⟨v,j,b,F,_,d,D,C⟩;exact⟨v,j,b,F,d,D,C⟩
theorem GY(h:Xv P s k c)(A:δ (ε Γ×Nat×Nat))(V:δ ξ)(R:ξ){x:(gE c.a).T}{y:(hC c.r).T}(n:s.p w [])(i:(c.f x).ok y)(o:roP w A (mM c x))(l:(jK [] c.a x).1.map (SV.v (adL A))=V.map θ:=by rfl)(m:∀ρ,(mF (nA c x y).1).v ρ=θ R:=by intros;rfl):CR P k V w λv b=>v=R/\Hp w [] [] b:=by refine Calls.mono (GW h A V n i o l) ?_;rintro e b ⟨v,j,ρ,L,q,_,d⟩;rw[m]at d;exact⟨v,j,(aP d).symm,q.nil⟩
theorem GX(h:Xv P s k c)(A:δ (ε Γ×Nat×Nat))(V:δ ξ)(e b:Nat)(t:Ty)(l:δ t.T)(m O:Nat)(t2:Ty)(g:δ t2.T)(R:ε Γ->Nat->Nat->ε Γ->Nat->Nat->ξ){x:(gE c.a).T}{y:(hC c.r).T}(J:s.p w [])(E:(c.f x).ok y)(K:roP w A (mM c x))(H:(jK [] c.a x).1.map (SV.v (adL A))=V.map θ:=by rfl)(F:(nA c x y).2[γ A]? =θ (.rw e b t l):=by rfl)(j:(nA c x y).2[γ A+1]? =θ (.rw m O t2 g):=by rfl)(I:∀ρ:Nat->Ad,(mF (nA c x y).1).v ρ=θ (R (ρ (γ A)).a (ρ (γ A)).ln (ρ (γ A)).cap (ρ (γ A+1)).a (ρ (γ A+1)).ln (ρ (γ A+1)).cap):=by intros;rfl):CR P k V w λv n=>∃o a cap D B d,v=R a (γ l) cap B (γ g) d/\Hp w [] [bN t.enc e t.sz o a cap l,bN t2.enc m t2.sz D B d g] n:=by refine Calls.mono (GW h A V J E K H) ?_;rintro m n ⟨v,G,ρ,L,M,u,C⟩;obtain⟨N,q,z,rfl⟩:=u.2 _ _ F;obtain⟨f1,q,f2,rfl⟩:=u.2 _ _ j;rw[I ρ,<-show γ l=_ from N,<-show γ g=_ from f1]at C;refine⟨v,G,(ρ (γ A)).o,_,_,(ρ (γ A+1)).o,_,_,(aP C).symm,M.sub (List.Sublist.trans ?_ (List.drop_sublist (γ A) L))⟩;rw[zbD (aF.1 z).1,(aF.1 z).2];exact List.Sublist.cons_cons _ (List.singleton_sublist.2 (aI (i:=0) (by rw[bU];exact f2)))
end Go.Oe
set_option maxRecDepth 20000
set_option maxHeartbeats 1000000
namespace Go.Wk
open Go.Px
open Int renaming toNat → bH
open List renaming drop → cC
open Sum renaming elim → dE
def agn(fu:Nat)(a:Int):ε η:=
 (((if 0<=a then θ (decide (a<55296))else θ ν)).bind λb=>(bif b then θ μ else(((if 57343<a then θ (decide (a<=1114111))else θ ν)).bind λc=>(bif c then θ μ else θ ν))))
def ago(fu:Nat)(s_0:aC)(b:Nat->ε (Unit⊕Int))(a:Nat):ε (Unit⊕Int):=
 (if a<γ s_0 then(if((Utf8.decode ⟨List.toArray s_0⟩ a).1)=(65533:Int)then θ (.inr a)else(b (a+(Utf8.decode ⟨List.toArray s_0⟩ a).2)))else θ (.inl ()))
def ahf(fu:Nat)(s_0:aC):Nat->Nat->ε (Unit⊕Int):=λb a=>bD (λg v=>ago fu s_0 (λa=>g a) v) b a
variable {a:Nat}{c:aC}{b d:Nat}
theorem aon:ahf a c (b+1) d=ago a c (ahf a c b) d:=rfl
def apy(fu:Nat)(s_0:aC)(b:Int)(c:Int)(d:Int->ε Int)(a:Int):ε Int:=
 (if a<(γ ((ψ b).data.toList))then(gd (bK (c-a))<|(gd (0<=(c-a)/\(c-a)<γ s_0)<|(gd (bK (((γ ((ψ b).data.toList))-1)-a))<|(gd (0<=(((γ ((ψ b).data.toList))-1)-a)/\(((γ ((ψ b).data.toList))-1)-a)<(γ ((ψ b).data.toList)))<|(if(at_ s_0 (c-a))=(at_ ((ψ b).data.toList) (((γ ((ψ b).data.toList))-1)-a))then(gd (bK (a+1))<|(d (a+1)))else ι)))))else(gd (bK (c-((γ ((ψ b).data.toList))-1)))<|some (c-((γ ((ψ b).data.toList))-1))))
def akl(fu:Nat)(s_0:aC)(d:Int)(c:Int):Nat->Int->ε Int:=λb a=>bD (λg v=>apy fu s_0 d c (λa=>g a) v) b a
variable {e:Int}
theorem biy{f:Int}{d:Int}:akl a c e f (b+1) d=apy a c e f (akl a c e f b) d:=rfl
def ajj(fu:Nat)(s_0:aC)(a:Int)(d:ε Int):ε Int:=
 (if((γ ((ψ a).data.toList))-1)<(γ s_0:Int)then(((gd (0<=((γ ((ψ a).data.toList))-(1:Int))/\((γ ((ψ a).data.toList))-1)<(γ s_0:Int))<|(gd (0<=((γ ((ψ a).data.toList))-(1:Int))/\((γ ((ψ a).data.toList))-1)<(γ ((ψ a).data.toList):Int))<|(if(at_ s_0 ((γ ((ψ a).data.toList))-1))=(at_ ((ψ a).data.toList) ((γ ((ψ a).data.toList))-1))then θ (.inl ((γ ((ψ a).data.toList))-1))else(gd (bK (((γ ((ψ a).data.toList))-1)+1))<|(gd (0<=(((γ ((ψ a).data.toList))-1)+(1:Int))/\(((γ ((ψ a).data.toList))-1)+1)<=(γ s_0:Int))<|(gd (0<=((γ ((ψ a).data.toList))-(1:Int))/\((γ ((ψ a).data.toList))-1)<(γ ((ψ a).data.toList):Int))<|(if(dN (·==(at_ ((ψ a).data.toList) ((γ ((ψ a).data.toList))-1))) (cC (bH (((γ ((ψ a).data.toList))-1)+1)) s_0))<0 then θ (.inr (-1))else(gd (bK ((dN (·==(at_ ((ψ a).data.toList) ((γ ((ψ a).data.toList))-1))) (cC (bH (((γ ((ψ a).data.toList))-1)+1)) s_0))+1))<|(gd (bK (((γ ((ψ a).data.toList))-1)+((dN (·==(at_ ((ψ a).data.toList) ((γ ((ψ a).data.toList))-1))) (cC (bH (((γ ((ψ a).data.toList))-1)+1)) s_0))+1)))<|some (.inl (((γ ((ψ a).data.toList))-1)+((dN (·==(at_ ((ψ a).data.toList) ((γ ((ψ a).data.toList))-1))) (cC (bH (((γ ((ψ a).data.toList))-1)+1)) s_0))+1))))))))))))).bind λc=>dE (λb=>(akl fu s_0 a b fu 1)) (λq=>θ q) c)else θ (-1))
def ahe(fu:Nat)(s_0:aC)(b:Int):Nat->ε Int:=λa=>bD (λg v=>ajj fu s_0 b (g ())) a ()
theorem axm:ahe a c e (b+1)=ajj a c e (ahe a c e b):=rfl
def ue(fu:Nat)(s_0:aC)(a:Int):ε Int:=
 (((if 0<=a then θ (decide (a<128))else θ ν)).bind λb=>(bif b then θ (dN (·==(XU a)) s_0)else(if a=65533 then(((ahf fu s_0 fu 0)).bind λd=>dE (λe=>θ (-1)) (λq=>θ q) d)else((agn fu a).bind λc=>(bif (!c)then θ (-1)else(gd (bK ((γ ((ψ a).data.toList))-1))<|(ahe fu s_0 a fu)))))))
def ahd(fu:Nat)(a:Int):ε η:=
 θ (decide (8<a))
def aff(fu:Nat)(s_0:aC)(d:aC)(c:Nat->ε (Unit⊕Int))(a:Nat):ε (Unit⊕Int):=
 (if a<γ s_0 then((ue fu d ((Utf8.decode ⟨List.toArray s_0⟩ a).1)).bind λb=>(if 0<=b then θ (.inr a)else(c (a+(Utf8.decode ⟨List.toArray s_0⟩ a).2))))else θ (.inl ()))
def aib(fu:Nat)(s_0:aC)(c:aC):Nat->Nat->ε (Unit⊕Int):=λb a=>bD (λg v=>aff fu s_0 c (λa=>g a) v) b a
theorem ajk{f:aC}:aib a c f (b+1) d=aff a c f (aib a c f b) d:=rfl
def atr(fu:Nat)(s_0:aC)(a:aC):ε Int:=
 (if a=[]then θ (-1)else(if γ a=(1:Int)then(gd (0<=(0:Int)/\0<(γ a:Int))<|(((if 128<=((at_ a (0:Int)).toNat:Int)then θ 65533 else θ ((at_ a (0:Int)).toNat:Int))).bind λb=>((ue fu s_0 b).bind λe=>θ e)))else((((ahd fu (γ s_0)).bind λd=>(bif d then ι else θ ()))).bind λg=>(((aib fu s_0 a fu 0)).bind λc=>dE (λf=>θ (-1)) (λq=>θ q) c))))
end Go.Wk
namespace Go.Px
open Go.Wk
theorem get_at(l:δ ζ)(k:Nat)(h:k<γ l):(⟨l.toArray⟩:ByteArray).get! k=at_ l k:=by show l.toArray[k]! =_;simp[at_,h]
theorem Wz(l:δ ζ)(k:Nat)(h:k<γ l)(a:(at_ l k).toNat<128):Utf8.decode ⟨l.toArray⟩ k=((at_ l k).toNat,1):=by unfold Utf8.decode;simp only[Nat.add_zero,get_at l k h];rw[aB aA0]
theorem W2(l:δ ζ)(k:Nat)(h:k<γ l)(s:¬(at_ l k).toNat<128):
  128<=(Utf8.decode ⟨l.toArray⟩ k).1/\1<=(Utf8.decode ⟨l.toArray⟩ k).2/\k+(Utf8.decode ⟨l.toArray⟩ k).2<=γ l/\
  ∀j:Nat,k<=j->j<k+(Utf8.decode ⟨l.toArray⟩ k).2->128<=(at_ l j).toNat:=by
 have eT:(⟨l.toArray⟩:ByteArray).size=γ l:=rfl;have a:∀c:Nat,128<=c->128<=(c,1).1/\1<=(c,1).2/\k+(c,1).2<=γ l/\∀j:Nat,k<=j->j<k+(c,1).2->128<=(at_ l j).toNat:=
  λc q=>⟨q,qG _,by simp;omega,λj b e=>by
   have:j=k:=by simp at e;omega
   subst this;omega⟩
 have cont:∀i:Nat,(decide (k+i<γ l)&&((⟨l.toArray⟩:ByteArray).get! (k+i)).toNat/64==2)=μ->k+i<γ l/\128<=(at_ l (k+i:Nat)).toNat:=by intro i n;simp at n;rw[get_at l _ n.1]at n;omega
 have d:128<=Utf8.runeError:=aA1;have f:128<=(at_ l k).toNat:=aA0;unfold Utf8.decode;simp only[Nat.add_zero,get_at l k h,eT];rw[aA aA0];split
 ·rename_i b;simp at b;have m:=cont 1 (by simpa using b.2);split
  ·rename_i e;refine⟨aE2,aA3,by simp;omega,λj p g=> ?_⟩;have:j=k\/j=k+1:=by simp at g;omega
   rcases this with rfl|rfl
   ·exact f
   ·exact m.2
  ·exact a _ d
 split
 ·rename_i b;simp at b;have m:=cont 1 (by simpa using b.1.2);have o:=cont 2 (by simpa using b.2);split
  ·rename_i e;simp at e;refine⟨by have:=e.1;simp at this⊢;omega,aA3,by simp;omega,λj p g=> ?_⟩;have:j=k\/j=k+1\/j=k+2:=by simp at g;omega
   rcases this with rfl|rfl|rfl
   ·exact f
   ·exact m.2
   ·exact o.2
  ·exact a _ d
 split
 ·rename_i b;simp at b;have m:=cont 1 (by simpa using b.1.1.2);have o:=cont 2 (by simpa using b.1.2);have r:=cont 3 (by simpa using b.2);split
  ·rename_i e;simp at e;refine⟨by have:=e.1;simp at this⊢;omega,aA3,by simp;omega,λj p g=> ?_⟩;have:j=k\/j=k+1\/j=k+2\/j=k+3:=by simp at g;omega
   rcases this with rfl|rfl|rfl|rfl
   ·exact f
   ·exact m.2
   ·exact o.2
   ·exact r.2
  ·exact a _ d
 ·exact a _ d
def Tj(r:Int):δ ζ:=(ψ r).data.toList
theorem WT(r:Int)(h:128<=r):2<=γ (Tj r)/\γ (Tj r)<=4/\128<=(at_ (Tj r) (γ (Tj r)-1)).toNat:=by
 have a:∀n:Nat,128<=(UInt8.ofNat (128+n%64)).toNat:=by intro n;rw[iT];omega
 unfold Tj ψ;have b:128<=(if Utf8.valid r=μ then r.toNat else Utf8.runeError):=by
  split
  ·omega
  ·decide
 generalize(if Utf8.valid r=μ then r.toNat else Utf8.runeError)=c at b;rw[aA aA0];split
 ·exact⟨aA3,aA3,a c⟩
 split
 ·exact⟨aA3,aA3,a c⟩
 ·exact⟨aA3,aA3,a c⟩
end Go.Px
namespace Go.Wk
open Go.Px
open Int renaming toNat → bH
open List renaming drop → cC
open Sum renaming elim → dE
def aso(fu:Nat)(b:fF)(f:Int->Int->ε (Int⊕η))(c:Int)(a:Int):ε (Int⊕η):=
 (((if a<γ b then θ (decide (a<20))else θ ν)).bind λe=>(bif e then(((gd (0<=a/\a<γ b)<|(gd (0<=a/\a<γ b)<|(if 100<(γ ((el b a).1):Int)then θ μ else(gd (0<=a/\a<γ b)<|(gd (0<=a/\a<γ b)<|some (decide (20000<(γ ((el b a).2):Int))))))))).bind λd=>(bif d then θ (.inr ν)else(gd (0<=a/\a<γ b)<|(gd (0<=a/\a<γ b)<|(gd (bK (c+(γ ((el b a).1))))<|(gd (bK (a+1))<|(f (c+(γ ((el b a).1))) (a+1))))))))else θ (.inl c)))
def aql(fu:Nat)(d:fF):Nat->Int->Int->ε (Int⊕η):=λc b a=>bD (λg v=>aso fu d (λb a=>g (b,a)) v.1 v.2) c (b,a)
variable {a b:Nat}{c f:Int}
theorem bcr{d:fF}:aql a d (b+1) c f=aso a d (aql a d b) c f:=rfl
def bgx(fu:Nat)(a:fF):ε η:=
 (((aql fu a fu 0 0)).bind λd=>dE (λc=>(((if γ a<=(20:Int)then θ (decide (c<=200))else θ ν)).bind λb=>θ b)) (λq=>θ q) d)
def auf(fu:Nat)(a:ζ):ε η:=
 (((((if 97<=a then θ (decide (a<=122))else θ ν)).bind λc=>(bif c then(bif c then θ (.inr μ)else θ (.inl ()))else(((if 65<=a then θ (decide (a<=90))else θ ν)).bind λb=>(bif b then(bif b then θ (.inr μ)else θ (.inl ()))else(if 48<=a then(if a<=57 then θ (.inr μ)else θ (.inl ()))else θ (.inl ()))))))).bind λd=>dE (λe=>(if a=45 then(if a=45 then θ μ else θ ν)else(if a=46 then(if a=46 then θ μ else θ ν)else(if a=33 then(if a=33 then θ μ else θ ν)else(if a=37 then(if a=37 then θ μ else θ ν)else(if a=42 then(if a=42 then θ μ else θ ν)else(if a=95 then(if a=95 then θ μ else θ ν)else(if a=43 then(if a=43 then θ μ else θ ν)else(if a=39 then(if a=39 then θ μ else θ ν)else(if a=126 then(if a=126 then θ μ else θ ν)else(if a=96 then θ μ else θ ν))))))))))) (λq=>θ q) d)
def aek(fu:Nat)(s_0:aC)(d:Int->ε Int)(a:Int):ε Int:=
 (((if a<γ s_0 then(gd (0<=a/\a<γ s_0)<|((auf fu (at_ s_0 a)).bind λc=>θ c))else θ ν)).bind λb=>(bif b then(gd (bK (a+1))<|(d (a+1)))else θ a))
def aep(fu:Nat)(s_0:aC):Nat->Int->ε Int:=λb a=>bD (λg v=>aek fu s_0 (λa=>g a) v) b a
variable {d:aC}
theorem alz:aep a d (b+1) c=aek a d (aep a d b) c:=rfl
def afv(fu:Nat)(s_0:aC)(b:Int):ε Int:=
 (((aep fu s_0 fu (min (max b 0) (γ s_0)))).bind λa=>θ a)
def ou(fu:Nat)(s_0:aC)(b:Int):ε Int:=
 ((afv fu s_0 b).bind λa=>θ a)
def YE(fu:Nat)(s_0:aC):ε η:=
 (((if s_0=[]then θ ν else((ou fu s_0 0).bind λb=>θ (decide (b=γ s_0))))).bind λa=>θ a)
def aqq(fu:Nat)(s_0:aC):ε η:=
 ((((YE fu s_0).bind λb=>(bif b then θ (decide (γ s_0<=(70:Int)))else θ ν))).bind λa=>θ a)
def aov(fu:Nat)(s_0:aC)(a:aC):ε η:=
 (((if γ a<=(γ s_0:Int)then(gd (bK (γ s_0-γ a))<|(gd (0<=(γ s_0-(γ a:Int))/\(γ s_0-γ a)<=(γ s_0:Int))<|some (decide ((cC (bH (γ s_0-γ a)) s_0)=a))))else θ ν)).bind λb=>θ b)
def arq(fu:Nat)(s_0:aC)(b:aC):ε η:=
 ((aov fu s_0 b).bind λa=>θ a)
def ud(fu:Nat)(a:ζ):ε η:=
 (((if a=32 then θ μ else θ (decide (a=9)))).bind λb=>θ b)
def acs(fu:Nat)(s_0:aC)(d:Int->ε Int)(a:Int):ε Int:=
 (((if a<γ s_0 then(gd (0<=a/\a<γ s_0)<|((ud fu (at_ s_0 a)).bind λc=>θ c))else θ ν)).bind λb=>(bif b then(gd (bK (a+1))<|(d (a+1)))else θ a))
def aeq(fu:Nat)(s_0:aC):Nat->Int->ε Int:=λb a=>bD (λg v=>acs fu s_0 (λa=>g a) v) b a
theorem age:aeq a d (b+1) c=acs a d (aeq a d b) c:=rfl
def ajy(fu:Nat)(s_0:aC)(b:Int):ε Int:=
 (((aeq fu s_0 fu (min (max b 0) (γ s_0)))).bind λa=>θ a)
open Go.Lib renaming hasPrefix → oI, index → cE, join → cY, trimPrefix → iD
open List renaming drop → cC, set → kZ, take → eZ
def tu(fu:Nat)(s_0:aC)(b:Int):ε Int:=
 ((ajy fu s_0 b).bind λa=>θ a)
def adi(fu:Nat)(s_0:aC)(a:aC):ε η:=
 (((if γ a<=(γ s_0:Int)then(gd (0<=(γ a:Int)/\γ a<=(γ s_0:Int))<|some (decide ((eZ (bH (γ a)) s_0)=a)))else θ ν)).bind λv6=>θ v6)
def alp(fu:Nat)(s_0:aC)(b:aC):ε η:=
 ((adi fu s_0 b).bind λa=>θ a)
def bhb(fu:Nat)(a:aC)(c:aC)(e:Int->ε ((Int×Int×η)×η))(b:Int):ε ((Int×Int×η)×η):=
 (gd (0<=(min b (γ a))/\(min b (γ a))<=γ a)<|(gd (γ (cC (bH (min b (γ a))) a)<=1000000000)<|(if(cE (cC (bH (min b (γ a))) a) (([45,45])++c))<0 then θ ((0,0,ν),ν)else(gd (bK (b+(cE (cC (bH (min b (γ a))) a) (([45,45])++c))))<|(((if 0<(b+(cE (cC (bH (min b (γ a))) a) (([45,45])++c)))then(gd (0<=(b+(cE (cC (bH (min b (γ a))) a) (([45,45])++c)))/\(b+(cE (cC (bH (min b (γ a))) a) (([45,45])++c)))<=γ a)<|((arq fu (eZ (bH (b+(cE (cC (bH (min b (γ a))) a) (([45,45])++c)))) a) ([13,10])).bind λh=>θ (!h)))else θ ν)).bind λg=>(bif g then(gd (bK ((b+(cE (cC (bH (min b (γ a))) a) (([45,45])++c)))+1))<|(e ((b+(cE (cC (bH (min b (γ a))) a) (([45,45])++c)))+1)))else(gd (bK ((b+(cE (cC (bH (min b (γ a))) a) (([45,45])++c)))+(γ (([45,45])++c))))<|(gd (0<=((b+(cE (cC (bH (min b (γ a))) a) (([45,45])++c)))+(γ (([45,45])++c)))/\((b+(cE (cC (bH (min b (γ a))) a) (([45,45])++c)))+(γ (([45,45])++c)))<=γ a)<|((tu fu (iD (cC (bH ((b+(cE (cC (bH (min b (γ a))) a) (([45,45])++c)))+(γ (([45,45])++c)))) a) ([45,45])) 0).bind λd=>(gd (0<=d/\d<=(γ (iD (cC (bH ((b+(cE (cC (bH (min b (γ a))) a) (([45,45])++c)))+(γ (([45,45]:aC)++c)))) a) ([45,45]))))<|(if(cC (bH d) (iD (cC (bH ((b+(cE (cC (bH (min b (γ a))) a) (([45,45])++c)))+(γ (([45,45])++c)))) a) ([45,45])))=[]then θ ((b+(cE (cC (bH (min b (γ a))) a) (([45,45])++c)),γ a,(oI (cC (bH ((b+(cE (cC (bH (min b (γ a))) a) (([45,45])++c)))+(γ (([45,45])++c)))) a) ([45,45]))),μ)else((alp fu (cC (bH d) (iD (cC (bH ((b+(cE (cC (bH (min b (γ a))) a) (([45,45])++c)))+(γ (([45,45])++c)))) a) ([45,45]))) ([13,10])).bind λf=>(bif f then(gd (bK (γ a-(γ (cC (bH d) (iD (cC (bH ((b+(cE (cC (bH (min b (γ a))) a) (([45,45])++c)))+(γ (([45,45]:aC)++c)))) a) ([45,45]))))))<|(gd (bK ((γ a-(γ (cC (bH d) (iD (cC (bH ((b+(cE (cC (bH (min b (γ a))) a) (([45,45])++c)))+(γ (([45,45]:aC)++c)))) a) ([45,45])))))+2))<|some ((b+(cE (cC (bH (min b (γ a))) a) (([45,45])++c)),(γ a-(γ (cC (bH d) (iD (cC (bH ((b+(cE (cC (bH (min b (γ a))) a) (([45,45])++c)))+(γ (([45,45]:aC)++c)))) a) ([45,45])))))+2,(oI (cC (bH ((b+(cE (cC (bH (min b (γ a))) a) (([45,45])++c)))+(γ (([45,45])++c)))) a) ([45,45]))),μ)))else(gd (bK ((b+(cE (cC (bH (min b (γ a))) a) (([45,45])++c)))+1))<|(e ((b+(cE (cC (bH (min b (γ a))) a) (([45,45])++c)))+1))))))))))))))))
def bhh(fu:Nat)(d:aC)(c:aC):Nat->Int->ε ((Int×Int×η)×η):=λb a=>bD (λg v=>bhb fu d c (λa=>g a) v) b a
def amd(fu:Nat)(c:aC)(b:Int)(a:aC):ε ((Int×Int×η)×η):=
 (gd (γ ([45,45]:aC)+γ a<=9223372036854775807)<|(bhh fu c a fu b))
def ahq(fu:Nat)(a:ζ):ε η:=
 (((if a<32 then(if a=9 then θ (decide (a=127))else θ μ)else θ (decide (a=127)))).bind λv6=>θ v6)
def yI(fu:Nat)(s_0:aC)(b:Int->ε Unit)(a:Int):ε Unit:=
 (if a<γ s_0 then(gd (0<=a/\a<γ s_0)<|((ahq fu (at_ s_0 a)).bind λc=>(bif (!c)then(gd (bK (a+1))<|(b (a+1)))else(gd (0<=a/\a<γ s_0)<|(if(at_ s_0 a)=13 then(gd (bK (a+1))<|(if(a+1)=γ s_0 then ι else(gd (bK (a+1))<|(gd (0<=(a+1)/\(a+1)<γ s_0)<|(if(at_ s_0 (a+1))=10 then(gd (bK (a+1))<|(gd (bK ((a+1)+1))<|(b ((a+1)+1))))else ι)))))else ι)))))else θ ())
def Cf(fu:Nat)(s_0:aC):Nat->Int->ε Unit:=λb a=>bD (λg v=>yI fu s_0 (λa=>g a) v) b a
def blh(fu:Nat)(s_0:aC):ε (Int×η):=
 (((Cf fu s_0 fu 0)).bind λa=>θ (0,ν))
def bee(fu:Nat)(s_0:aC):ε aC:=
 θ s_0
def aug(fu:Nat)(g:Int)(c:aC)(d:δ aC)(a:hY):ε (Nat×(δ aC)×hY):=
 (((((if c=[]then θ μ else(gd (0<=(0:Int)/\0<(γ c:Int))<|((ud fu (at_ c 0)).bind λi=>θ (!i))))).bind λh=>(bif h then(((if 0<(γ a:Int)then(gd (bK (γ a-1))<|(gd (γ d<=1000000000/\γ (cY d [32])<=100000000000)<|(gd (0<=(γ a-(1:Int))/\(γ a-1)<(γ a:Int))<|(gd (0<=(γ a-(1:Int))/\(γ a-1)<(γ a:Int))<|some (kZ a (bH (γ a-1)) ((el a (γ a-1)).1,cY d [32]))))))else θ a)).bind λf=>(gd ((γ f+γ ([(g,[])]:hY))*24<=140737488355328)<|(gd (0<=(0:Int)/\0<=(γ d:Int))<|some (eZ (bH 0) d,f++([(g,[])]:hY)))))else θ (d,a)))).bind λe=>(gd (γ c<=1000000000)<|gd (γ ([32,9]:aC)<=1000/\([32,9]:aC).all (λb=>decide (b.toNat<128))=μ)<|(if(Lib.trimS c ([32,9]))=[]then θ (0,e.1,e.2)else(gd ((γ e.1+γ ([Lib.trimS c ([32,9])]:δ aC))*16<=140737488355328)<|some (0,e.1++([Lib.trimS c ([32,9])]:δ aC),e.2)))))
def aet(fu:Nat)(b:aC)(f:Int->(δ aC)->hY->ε ((δ aC)×hY×Nat))(a:Int)(e:δ aC)(d:hY):ε ((δ aC)×hY×Nat):=
 (if a<γ b then(gd (0<=a/\a<=γ b)<|(gd (γ (cC (bH a) b)<=1000000000)<|(if(cE (cC (bH a) b) ([13,10]))<0 then ι else(gd (bK (a+(cE (cC (bH a) b) ([13,10]))))<|(gd (0<=a/\a<=(a+(cE (cC (bH a) b) ([13,10])))/\(a+(cE (cC (bH a) b) ([13,10])))<=γ b)<|((aug fu a (sub b a (a+(cE (cC (bH a) b) ([13,10])))) e d).bind λc=>(if c.1=0 then(gd (bK ((cE (cC (bH a) b) ([13,10]))+2))<|(gd (bK (a+((cE (cC (bH a) b) ([13,10]))+2)))<|(f (a+((cE (cC (bH a) b) ([13,10]))+2)) c.2.1 c.2.2)))else θ (c.2.1,c.2.2,c.1))))))))else θ (e,d,0))
def acy(fu:Nat)(e:aC):Nat->Int->(δ aC)->hY->ε ((δ aC)×hY×Nat):=λd c b a=>bD (λg v=>aet fu e (λc b a=>g (c,b,a)) v.1 v.2.1 v.2.2) d (c,b,a)
variable {e:δ aC}
theorem ati{l:hY}:acy a d (b+1) c e l=aet a d (acy a d b) c e l:=rfl
def agf(fu:Nat)(c:δ aC)(b:hY)(a:aC):ε ((δ aC)×hY×Nat):=
 (acy fu a fu 0 c b)
def biz(fu:Nat)(s_0:aC):ε (hY×Int×ζ):=
 (if s_0=[]then θ ([],0,0)else(gd (0<=(0:Int)/\0<(γ s_0:Int))<|((ud fu (at_ s_0 0)).bind λc=>(bif c then θ ([],0,5)else((blh fu s_0).bind λb=>(bif b.2 then θ ([],b.1,5)else((arq fu s_0 ([13,10])).bind λe=>(bif (!e)then θ ([],γ s_0,6)else((bee fu s_0).bind λd=>((agf fu [] [] d).bind λa=>(if a.2.2=0 then(gd (bK (γ a.2.1-1))<|(gd (γ a.1<=1000000000/\γ (cY a.1 [32])<=100000000000)<|(gd (0<=(γ a.2.1-(1:Int))/\(γ a.2.1-1)<(γ a.2.1:Int))<|(gd (0<=(γ a.2.1-(1:Int))/\(γ a.2.1-1)<(γ a.2.1:Int))<|some (kZ a.2.1 (bH (γ a.2.1-1)) ((el a.2.1 (γ a.2.1-1)).1,cY a.1 [32]),0,0)))))else ι)))))))))))
open List renaming set → kZ
def ajs(fu:Nat)(a:ζ):ε ζ:=
 (((if 65<=a then θ (decide (a<=90))else θ ν)).bind λb=>(bif b then θ (a+32)else θ a))
def awl(fu:Nat)(a:ζ):ε aC:=
 (if a=98 then θ ([82,101,102,101,114,114,101,100,45,66,121])else(if a=99 then θ ([67,111,110,116,101,110,116,45,84,121,112,101])else(if a=101 then θ ([67,111,110,116,101,110,116,45,69,110,99,111,100,105,110,103])else(if a=102 then θ ([70,114,111,109])else(if a=105 then θ ([67,97,108,108,45,73,68])else(if a=107 then θ ([83,117,112,112,111,114,116,101,100])else(if a=108 then θ ([67,111,110,116,101,110,116,45,76,101,110,103,116,104])else(if a=109 then θ ([67,111,110,116,97,99,116])else(if a=111 then θ ([69,118,101,110,116])else(if a=114 then θ ([82,101,102,101,114,45,84,111])else(if a=115 then θ ([83,117,98,106,101,99,116])else(if a=116 then θ ([84,111])else(if a=117 then θ ([65,108,108,111,119,45,69,118,101,110,116,115])else(if a=118 then θ ([86,105,97])else(if a=120 then θ ([83,101,115,115,105,111,110,45,69,120,112,105,114,101,115])else θ [])))))))))))))))
def ada(fu:Nat)(s_0:aC)(d:aC->Int->ε aC)(b:aC)(a:Int):ε aC:=
 (if a<γ s_0 then(gd (0<=a/\a<γ b)<|(gd (0<=a/\a<γ b)<|((ajs fu (at_ b a)).bind λc=>(gd (0<=a/\a<γ b)<|(gd (0<=a/\a<γ b)<|(gd (bK (a+1))<|(d (kZ b (bH a) c) (a+1))))))))else θ b)
def adh(fu:Nat)(s_0:aC):Nat->aC->Int->ε aC:=λc b a=>bD (λg v=>ada fu s_0 (λb a=>g (b,a)) v.1 v.2) c (b,a)
variable {h:aC}
theorem aio:adh a d (b+1) h c=ada a d (adh a d b) h c:=rfl
def acu(fu:Nat)(s_0:aC):ε aC:=
 (((adh fu s_0 fu s_0 0)).bind λa=>θ a)
def anu(fu:Nat)(a:ζ):ε ζ:=
 (((if 97<=a then θ (decide (a<=122))else θ ν)).bind λb=>(bif b then θ (a-32)else θ a))
def ayg(fu:Nat)(c:ζ)(d:η):ε (ζ×η):=
 (bif d then((anu fu c).bind λb=>θ (b,(decide (b=45))))else((ajs fu c).bind λa=>θ (a,(decide (a=45)))))
def ado(fu:Nat)(s_0:aC)(e:aC->Int->η->ε (aC×η))(b:aC)(a:Int)(d:η):ε (aC×η):=
 (if a<γ s_0 then(gd (0<=a/\a<γ b)<|(gd (0<=a/\a<γ b)<|((ayg fu (at_ b a) d).bind λc=>(gd (0<=a/\a<γ b)<|(gd (0<=a/\a<γ b)<|(gd (bK (a+1))<|(e (kZ b (bH a) c.1) (a+1) c.2)))))))else θ (b,d))
def adw(fu:Nat)(s_0:aC):Nat->aC->Int->η->ε (aC×η):=λd c b a=>bD (λg v=>ado fu s_0 (λc b a=>g (c,b,a)) v.1 v.2.1 v.2.2) d (c,b,a)
variable {i:η}
theorem ajt:adw a d (b+1) h c i=ado a d (adw a d b) h c i:=rfl
def adj(fu:Nat)(s_0:aC)(b:η):ε (aC×η):=
 (((adw fu s_0 fu s_0 0 b)).bind λa=>θ (a.1,a.2))
def vM(fu:Nat)(d:aC)(c:Int->ε (Unit⊕(aC×ζ)))(a:Int):ε (Unit⊕(aC×ζ)):=
 (if a<7 then(gd (0<=a/\a<γ bh)<|((acu fu (el bh a)).bind λb=>(if b=d then θ (.inr (el bh a,0))else(gd (bK (a+1))<|(c (a+1))))))else θ (.inl ()))
def aju(fu:Nat)(c:aC):Nat->Int->ε (Unit⊕(aC×ζ)):=λb a=>bD (λg v=>vM fu c (λa=>g a) v) b a
def asy(fu:Nat)(a:aC):ε (aC×ζ):=
 ((((YE fu a).bind λi=>(bif (!i)then θ μ else θ (decide (64<(γ a:Int)))))).bind λh=>(bif h then θ ([],5)else(((if γ a=(1:Int)then(gd (0<=(0:Int)/\0<(γ a:Int))<|((ajs fu (at_ a 0)).bind λg=>((awl fu g).bind λb=>(if b=[]then θ (.inl ())else θ (.inr (b,0))))))else θ (.inl ()))).bind λf=>dE (λk=>((acu fu a).bind λe=>(((aju fu e fu 0)).bind λd=>dE (λj=>((adj fu a μ).bind λc=>θ (c.1,0))) (λq=>θ q) d))) (λq=>θ q) f)))
def apg(fu:Nat)(c:aC)(b:Int->ε (Unit⊕Int))(a:Int):ε (Unit⊕Int):=
 (if a<31 then(gd (0<=a/\a<31)<|(gd (0<=a/\a<γ vI)<|(if((el vI a).1)=c then(gd (0<=a/\a<31)<|(gd (0<=a/\a<γ vI)<|some (.inr ((el vI a).2))))else(gd (bK (a+1))<|(b (a+1))))))else θ (.inl ()))
def asd(fu:Nat)(c:aC):Nat->Int->ε (Unit⊕Int):=λb a=>bD (λg v=>apg fu c (λa=>g a) v) b a
theorem bdm:asd a d (b+1) c=apg a d (asd a d b) c:=rfl
def tx(fu:Nat)(b:aC):ε Int:=
 (((asd fu b fu 0)).bind λa=>dE (λc=>θ 0) (λq=>θ q) a)
def asc(fu:Nat)(a:aC):ε η:=
 (((if a=([67,111,110,116,97,99,116])then(if a=([67,111,110,116,97,99,116])then θ (.inr μ)else θ (.inl ()))else(if a=([80,97,116,104])then(if a=([80,97,116,104])then θ (.inr μ)else θ (.inl ()))else(if a=([82,101,99,111,114,100,45,82,111,117,116,101])then(if a=([82,101,99,111,114,100,45,82,111,117,116,101])then θ (.inr μ)else θ (.inl ()))else(if a=([82,111,117,116,101])then(if a=([82,111,117,116,101])then θ (.inr μ)else θ (.inl ()))else(if a=([83,101,114,118,105,99,101,45,82,111,117,116,101])then θ (.inr μ)else θ (.inl ()))))))).bind λd=>dE (λe=>((tx fu a).bind λb=>(((if b=2 then θ μ else θ (decide (b=7)))).bind λc=>θ c))) (λq=>θ q) d)
def YD(fu:Nat)(s_0:aC):ε aC:=
 (gd (γ s_0<=1000000000)<|gd (γ ([32,9]:aC)<=1000/\([32,9]:aC).all (λb=>decide (b.toNat<128))=μ)<|some (Lib.trimS s_0 ([32,9])))
open Go.Lib renaming indexAny → Cr, join → cY
open List renaming drop → cC, set → kZ
def bu(fu:Nat)(a:(aC×Int)):ε (aC×Int):=
 ((tu fu a.1 a.2).bind λb=>θ (a.1,b))
def ug(fu:Nat)(a:(aC×Int)):ε η:=
 θ (decide (γ a.1<=a.2))
def Is(fu:Nat)(a:(aC×Int))(d:ζ):ε η:=
 ((((ug fu a).bind λc=>(bif (!c)then(gd (0<=a.2/\a.2<γ a.1)<|some (decide ((at_ a.1 a.2)=d)))else θ ν))).bind λb=>θ b)
def apf(fu:Nat)(a:ζ):ε η:=
 (((if 32<=a then θ (decide (a<=126))else θ ν)).bind λb=>θ b)
def akg(fu:Nat)(s_0:aC)(c:(δ ζ)->Int->ε (((δ ζ)×Int)⊕(aC×Int×ζ)))(b:δ ζ)(a:Int):ε (((δ ζ)×Int)⊕(aC×Int×ζ)):=
 (if a<γ s_0 then(gd (0<=a/\a<γ s_0)<|(if(at_ s_0 a)=34 then θ (.inl (b,a))else(if(at_ s_0 a)=92 then(gd (bK (a+1))<|(if(a+1)=γ s_0 then θ (.inr ([],γ s_0,6))else(gd (bK (a+1))<|(gd (0<=(a+1)/\(a+1)<γ s_0)<|((apf fu (at_ s_0 (a+1))).bind λe=>(bif (!e)then θ (.inr ([],a,5))else(gd (bK (a+1))<|(gd (0<=(a+1)/\(a+1)<γ s_0)<|(gd ((γ b+γ ([at_ s_0 (a+1)]))*1<=140737488355328)<|(gd (bK ((a+1)+1))<|(c (b++([at_ s_0 (a+1)])) ((a+1)+1))))))))))))else((ahq fu (at_ s_0 a)).bind λd=>(bif d then θ (.inr ([],a,5))else(gd (0<=a/\a<γ s_0)<|(gd ((γ b+γ ([at_ s_0 a]))*1<=140737488355328)<|(gd (bK (a+1))<|(c (b++([at_ s_0 a])) (a+1))))))))))else θ (.inl (b,a)))
def asa(fu:Nat)(s_0:aC):Nat->(δ ζ)->Int->ε (((δ ζ)×Int)⊕(aC×Int×ζ)):=λc b a=>bD (λg v=>akg fu s_0 (λb a=>g (b,a)) v.1 v.2) c (b,a)
variable {g:δ ζ}
theorem avh:asa a d (b+1) g c=akg a d (asa a d b) g c:=rfl
def aqj(fu:Nat)(s_0:aC)(a:Int):ε (aC×Int×ζ):=
 (((if a<0 then θ μ else θ (decide (γ s_0<a)))).bind λc=>(bif c then θ ([],0,2)else(((if a=γ s_0 then θ μ else(gd (0<=a/\a<γ s_0)<|some (!decide ((at_ s_0 a)=34))))).bind λe=>(bif e then θ ([],a,5)else(gd (bK (a+1))<|(((asa fu s_0 fu [] (a+1))).bind λd=>dE (λb=>(if(γ s_0:Int)<=b.2 then θ ([],γ s_0,6)else(gd (bK (b.2+1))<|some (b.1,b.2+1,0)))) (λq=>θ q) d))))))
def ahm(fu:Nat)(d:(aC×Int))(b:AQ):ε (Int×ζ×(aC×Int)×AQ):=
 ((aqj fu d.1 d.2).bind λa=>(if a.2.2=0 then((bu fu (d.1,a.2.1)).bind λc=>((Is fu c 60).bind λe=>(bif (!e)then θ (c.2,5,c,(a.1,b.2.1,b.2.2))else θ (0,0,c,(a.1,b.2.1,b.2.2)))))else θ (a.2.1,a.2.2,d,b)))
def afr(fu:Nat)(a:(aC×Int)):ε (aC×(aC×Int)):=
 ((ou fu a.1 a.2).bind λb=>(gd (0<=a.2/\a.2<=b/\b<=γ a.1)<|some (sub a.1 a.2 b,(a.1,b))))
def afj(fu:Nat)(h:AQ)(g:(δ aC)->aC->Int->ε (((δ aC)×aC×Int)⊕(Int×ζ×(aC×Int)×AQ)))(d:δ aC)(c:aC)(b:Int):ε (((δ aC)×aC×Int)⊕(Int×ζ×(aC×Int)×AQ)):=
 ((Is fu (c,b) 60).bind λf=>(bif (!f)then((afr fu (c,b)).bind λa=>(if a.1=[]then θ (.inr (a.2.2,5,a.2,h))else(gd ((γ d+[a.1].length)*16<=140737488355328)<|((bu fu a.2).bind λe=>(g (d++[a.1]) e.1 e.2)))))else θ (.inl (d,c,b))))
def afp(fu:Nat)(e:AQ):Nat->(δ aC)->aC->Int->ε (((δ aC)×aC×Int)⊕(Int×ζ×(aC×Int)×AQ)):=λd c b a=>bD (λg v=>afj fu e (λc b a=>g (c,b,a)) v.1 v.2.1 v.2.2) d (c,b,a)
theorem aow{l:AQ}:afp a l (b+1) e d c=afj a l (afp a l b) e d c:=rfl
def aea(fu:Nat)(c:(aC×Int))(b:AQ):ε (Int×ζ×(aC×Int)×AQ):=
 (((afp fu b fu [] c.1 c.2)).bind λd=>dE (λa=>(gd (γ a.1<=1000000000/\γ (cY a.1 [32])<=100000000000)<|some (0,0,a.2,(cY a.1 [32],b.2.1,b.2.2)))) (λq=>θ q) d)
def CD(fu:Nat)(c:aC)(a:Int)(d:aC):ε Int:=
 (gd (0<=a/\a<=γ c)<|(gd (γ (cC (bH a) c)<=1000000000/\γ d<=1000/\d.all (λb=>decide (b.toNat<128))=μ)<|(if 0<=(Cr (cC (bH a) c) d)then(gd (bK (a+(Cr (cC (bH a) c) d)))<|some (a+(Cr (cC (bH a) c) d)))else θ (γ c))))
def apj(fu:Nat)(s_0:aC)(c:aC->Int->ε aC)(b:aC)(a:Int):ε aC:=
 (if a<γ s_0 then(gd (0<=a/\a<γ b)<|(gd (0<=a/\a<γ b)<|(((if 65<=(at_ b a)then θ (decide ((at_ b a)<=90))else θ ν)).bind λd=>(bif d then(gd (0<=a/\a<γ b)<|(gd (0<=a/\a<γ b)<|(gd (bK (a+1))<|(c (kZ b (bH a) ((at_ b a)+32)) (a+1)))))else(gd (bK (a+1))<|(c b (a+1)))))))else θ b)
def ase(fu:Nat)(s_0:aC):Nat->aC->Int->ε aC:=λc b a=>bD (λg v=>apj fu s_0 (λb a=>g (b,a)) v.1 v.2) c (b,a)
theorem bdo:ase a d (b+1) h c=apj a d (ase a d b) h c:=rfl
def XL(fu:Nat)(s_0:aC):ε aC:=
 (((ase fu s_0 fu s_0 0)).bind λa=>θ a)
open Go.Lib renaming trimLeftS → Ge
open List renaming set → kZ, take → eZ
def amr(fu:Nat)(a:ζ):ε η:=
 (((if 97<=a then(if a<=122 then θ μ else(if 65<=a then θ (decide (a<=90))else θ ν))else(if 65<=a then θ (decide (a<=90))else θ ν))).bind λb=>θ b)
def YF(fu:Nat)(a:ζ):ε η:=
 (((if 48<=a then θ (decide (a<=57))else θ ν)).bind λb=>θ b)
def aqs(fu:Nat)(b:ζ)(a:Int):ε η:=
 ((((amr fu b).bind λf=>(bif f then θ μ else((YF fu b).bind λe=>(bif e then θ μ else θ (decide (0<=(dN (·==b) ([45,95,46,33,126,42,39,40,41]))))))))).bind λd=>(bif d then θ μ else(((if 0<=a then(if a<=2 then(gd (0<=a/\a<3)<|(gd (0<=a/\a<γ be)<|some (decide (0<=(dN (·==b) (el be a))))))else θ ν)else θ ν)).bind λc=>θ c)))
def uc(fu:Nat)(a:ζ):ε (ζ×η):=
 ((YF fu a).bind λb=>(bif b then θ (a-48,μ)else(((if 97<=a then θ (decide (a<=102))else θ ν)).bind λd=>(bif d then θ ((a-97)+10,μ)else(((if 65<=a then θ (decide (a<=70))else θ ν)).bind λc=>(bif c then θ ((a-65)+10,μ)else θ (0,ν)))))))
def aod(fu:Nat)(s_0:aC)(a:Int):ε (ζ×η):=
 (((gd (bK (a+2))<|(if γ s_0<=(a+2)then θ μ else(gd (0<=a/\a<γ s_0)<|some (!decide ((at_ s_0 a)=37)))))).bind λd=>(bif d then θ (0,ν)else(gd (bK (a+1))<|(gd (0<=(a+1)/\(a+1)<γ s_0)<|((uc fu (at_ s_0 (a+1))).bind λc=>(gd (bK (a+2))<|(gd (0<=(a+2)/\(a+2)<γ s_0)<|((uc fu (at_ s_0 (a+2))).bind λb=>(((bif c.2 then θ b.2 else θ ν)).bind λe=>θ ((TU c.1 4)|||b.1,e))))))))))
def awq(fu:Nat)(a:ζ):ε η:=
 (((if a<32 then(if a=9 then θ (decide (a=127))else θ μ)else θ (decide (a=127)))).bind λv6=>θ v6)
def afc(fu:Nat)(c:(aC×Int))(b:Int)(i:Int)(e:Int->ε (Unit⊕(Int×η)))(a:Int):ε (Unit⊕(Int×η)):=
 (if a<b then(gd (0<=a/\a<γ c.1)<|((aqs fu (at_ c.1 a) i).bind λh=>(bif h then(gd (bK (a+1))<|(e (a+1)))else(gd (0<=b/\b<=γ c.1)<|((aod fu (eZ (bH b) c.1) a).bind λd=>(((bif (!d.2)then θ μ else((awq fu d.1).bind λg=>θ g))).bind λf=>(bif f then θ (.inr (a,μ))else(gd (bK (a+2))<|(gd (bK ((a+2)+1))<|(e ((a+2)+1)))))))))))else θ (.inl ()))
def ahz(fu:Nat)(e:(aC×Int))(d:Int)(c:Int):Nat->Int->ε (Unit⊕(Int×η)):=λb a=>bD (λg v=>afc fu e d c (λa=>g a) v) b a
variable {k:Int}
theorem ako{e:(aC×Int)}:ahz a e c f (b+1) k=afc a e c f (ahz a e c f b) k:=rfl
def afq(fu:Nat)(a:(aC×Int))(d:Int)(c:Int):ε (Int×η):=
 (((ahz fu a d c fu a.2)).bind λb=>dE (λe=>θ (0,ν)) (λq=>θ q) b)
def aho(fu:Nat)(s_0:aC)(d:(δ ζ)->Int->ε ((δ ζ)⊕(aC×Int×ζ)))(b:δ ζ)(a:Int):ε ((δ ζ)⊕(aC×Int×ζ)):=
 (if a<γ s_0 then(gd (0<=a/\a<γ s_0)<|(if(at_ s_0 a)=37 then((aod fu s_0 a).bind λc=>(bif (!c.2)then θ (.inr ([],a,5))else(gd ((γ b+[c.1].length)*1<=140737488355328)<|(gd (bK (a+2))<|(gd (bK ((a+2)+1))<|(d (b++[c.1]) ((a+2)+1)))))))else(gd (0<=a/\a<γ s_0)<|(gd ((γ b+γ ([at_ s_0 a]))*1<=140737488355328)<|(gd (bK (a+1))<|(d (b++([at_ s_0 a])) (a+1)))))))else θ (.inl b))
def aid(fu:Nat)(s_0:aC):Nat->(δ ζ)->Int->ε ((δ ζ)⊕(aC×Int×ζ)):=λc b a=>bD (λg v=>aho fu s_0 (λb a=>g (b,a)) v.1 v.2) c (b,a)
theorem aqv:aid a d (b+1) g c=aho a d (aid a d b) g c:=rfl
def bbo(fu:Nat)(s_0:aC):ε (aC×Int×ζ):=
 (@gd _ (0<=(γ s_0:Int)/\1*(γ s_0:Int)<=281474976710656) (dMk 1 (γ s_0))<|(((aid fu s_0 fu [] 0)).bind λb=>dE (λ(a:δ ζ)=>θ (a,0,0)) (λq=>θ q) b))
def alj(fu:Nat)(s_0:aC):ε aC:=
 ((bbo fu s_0).bind λa=>θ a.1)
def ags(fu:Nat)(c:δ aC)(b:Int)(e:Int->ε (Unit⊕((δ aC)×η)))(a:Int):ε (Unit⊕((δ aC)×η)):=
 (if a<(γ (el c b))then(gd (0<=a/\a<(γ (el c b)))<|((uc fu (at_ (el c b) a)).bind λd=>(bif (!d.2)then θ (.inr ([],ν))else(gd (bK (a+1))<|(e (a+1))))))else θ (.inl ()))
def akn(fu:Nat)(d:δ aC)(c:Int):Nat->Int->ε (Unit⊕((δ aC)×η)):=λb a=>bD (λg v=>ags fu d c (λa=>g a) v) b a
theorem aot:akn a e c (b+1) f=ags a e c (akn a e c b) f:=rfl
def ajv(fu:Nat)(s_0:aC)(i:(δ aC)->Int->ε ((δ aC)⊕((δ aC)×η)))(c:δ aC)(a:Int):ε ((δ aC)⊕((δ aC)×η)):=
 (if a<(γ (cH 58 s_0))then(((gd (0<=a/\a<γ c)<|(gd (0<=a/\a<γ c)<|(((if(γ (el c a))<(1:Int)then θ μ else θ (decide (4<(γ (el c a):Int))))).bind λh=>(bif h then θ (.inr ([],ν))else(((akn fu c a fu 0)).bind λg=>dE (λj=>((XL fu (el c a)).bind λd=>(gd (γ d<=1000000000)<|gd (γ ([48]:aC)<=1000/\([48]:aC).all (λb=>decide (b.toNat<128))=μ)<|(if(Ge d [48])=[]then(gd (0<=a/\a<γ c)<|(gd (0<=a/\a<γ c)<|some (.inl (kZ c (bH a) [48]))))else(gd (0<=a/\a<γ c)<|(gd (0<=a/\a<γ c)<|some (.inl (kZ c (bH a) (Ge d [48]))))))))) (λq=>θ (.inr q)) g)))))).bind λf=>dE (λe=>(gd (bK (a+1))<|(i e (a+1)))) (λq=>θ (.inr q)) f)else θ (.inl c))
def afi(fu:Nat)(s_0:aC):Nat->(δ aC)->Int->ε ((δ aC)⊕((δ aC)×η)):=λc b a=>bD (λg v=>ajv fu s_0 (λb a=>g (b,a)) v.1 v.2) c (b,a)
theorem axt:afi a d (b+1) e c=ajv a d (afi a d b) e c:=rfl
def agh(fu:Nat)(s_0:aC):ε ((δ aC)×η):=
 (gd (γ s_0<=1000000000)<|(((afi fu s_0 fu (cH 58 s_0) 0)).bind λb=>dE (λa=>θ (a,μ)) (λq=>θ q) b))
open Go.Lib renaming cut → eF, index → cE, itoa → gM, join → cY
open List renaming drop → cC, take → eZ
def ayi(fu:Nat)(s_0:aC):ε (aC×η):=
 (if 39<(γ s_0:Int)then θ ([],ν)else(gd (γ s_0<=1000000000)<|(bif (!((eF s_0 ([58,58])).2.2))then((agh fu s_0).bind λc=>(((gd (γ c.1<=1000000000/\γ (cY c.1 [58])<=100000000000)<|(bif c.2 then θ (cY c.1 [58],(decide (γ c.1=(8:Int))))else θ (cY c.1 [58],ν)))).bind λ(f:(aC×η))=>θ (f.1,f.2)))else(((if((eF s_0 ([58,58])).1)=[]then θ ([],μ)else((agh fu ((eF s_0 ([58,58])).1)).bind λe=>θ (e.1,e.2)))).bind λa=>(((if((eF s_0 ([58,58])).2.1)=[]then θ ([],μ)else((agh fu ((eF s_0 ([58,58])).2.1)).bind λd=>θ (d.1,d.2)))).bind λb=>(((bif (!a.2)then θ μ else(bif (!b.2)then θ μ else(gd (bK (γ a.1+γ b.1))<|some (decide (7<(γ a.1+(γ b.1:Int)))))))).bind λg=>(bif g then θ ([],ν)else(gd (γ a.1<=1000000000/\γ (cY a.1 [58])<=100000000000)<|(gd (γ (cY a.1 [58])+γ ([58,58]:aC)<=9223372036854775807)<|(gd (γ b.1<=1000000000/\γ (cY b.1 [58])<=100000000000)<|(gd (γ ((cY a.1 [58])++([58,58]))+γ (cY b.1 [58])<=9223372036854775807)<|some (((cY a.1 [58])++([58,58]:aC))++(cY b.1 [58]),μ))))))))))))
def amf(fu:Nat)(s_0:aC)(b:Int)(e:Int->Int->ε (Int⊕η))(c:Int)(a:Int):ε (Int⊕η):=
 (if a<(γ (el (cH 46 s_0) b))then(gd (0<=a/\a<(γ (el (cH 46 s_0) b)))<|((YF fu (at_ (el (cH 46 s_0) b) a)).bind λd=>(bif (!d)then θ (.inr ν)else(gd (bK (10*c))<|(gd (0<=a/\a<(γ (el (cH 46 s_0) b)))<|(gd (bK ((10*c)+(((at_ (el (cH 46 s_0) b) a)-48).toNat)))<|(gd (bK (a+1))<|(e ((10*c)+(((at_ (el (cH 46 s_0) b) a)-48).toNat)) (a+1)))))))))else θ (.inl c))
def aje(fu:Nat)(s_0:aC)(d:Int):Nat->Int->Int->ε (Int⊕η):=λc b a=>bD (λg v=>amf fu s_0 d (λb a=>g (b,a)) v.1 v.2) c (b,a)
theorem bbm:aje a d c (b+1) f k=amf a d c (aje a d c b) f k:=rfl
def amg(fu:Nat)(s_0:aC)(f:Int->ε (Unit⊕η))(a:Int):ε (Unit⊕η):=
 (if a<(γ (cH 46 s_0))then(((gd (0<=a/\a<(γ (cH 46 s_0)))<|(gd (0<=a/\a<(γ (cH 46 s_0)))<|(((aje fu s_0 a fu 0 0)).bind λe=>dE (λb=>(((if(el (cH 46 s_0) a)=[]then θ μ else(if 255<b then θ μ else(gd (bK b)<|some (!decide ((el (cH 46 s_0) a)=(gM b))))))).bind λd=>(bif d then θ (.inr ν)else θ (.inl ())))) (λq=>θ (.inr q)) e)))).bind λc=>dE (λg=>(gd (bK (a+1))<|(f (a+1)))) (λq=>θ (.inr q)) c)else θ (.inl ()))
def ajf(fu:Nat)(s_0:aC):Nat->Int->ε (Unit⊕η):=λb a=>bD (λg v=>amg fu s_0 (λa=>g a) v) b a
theorem bbn:ajf a d (b+1) c=amg a d (ajf a d b) c:=rfl
def awo(fu:Nat)(s_0:aC):ε η:=
 (if 15<(γ s_0:Int)then θ ν else(gd (γ s_0<=1000000000)<|(((ajf fu s_0 fu 0)).bind λa=>dE (λb=>θ (decide ((γ (cH 46 s_0))=(4:Int)))) (λq=>θ q) a)))
def atp(fu:Nat)(s_0:aC)(b:aC)(a:Int):ε (aC×aC×Int):=
 θ (b,s_0,a)
def atq(fu:Nat)(s_0:aC)(b:aC):ε (aC×aC×Int):=
 ((atp fu s_0 b 0).bind λa=>θ (a.1,a.2.1,a.2.2))
def agr(fu:Nat)(b:aC)(i:η)(d:Int->η->ε ((Nat×η×η)))(a:Int)(c:η):ε ((Nat×η×η)):=
 (if a<γ b then(gd (0<=a/\a<γ b)<|((((amr fu (at_ b a)).bind λh=>(bif (!h)then((YF fu (at_ b a)).bind λg=>(bif (!g)then θ (!decide ((at_ b a)=45))else θ ν))else θ ν))).bind λf=>(bif f then θ (1,c,ν)else(bif c then(gd (bK (a+1))<|(d (a+1) μ))else((YF fu (at_ b a)).bind λe=>(gd (bK (a+1))<|(d (a+1) (!e))))))))else θ (0,c,i))
def pd(fu:Nat)(e:aC)(d:η):Nat->Int->η->ε ((Nat×η×η)):=λc b a=>bD (λg v=>agr fu e d (λb a=>g (b,a)) v.1 v.2) c (b,a)
variable {j:η}
theorem aos:pd a d i (b+1) c j=agr a d i (pd a d i b) c j:=rfl
def ox(fu:Nat)(a:aC)(b:η)(d:η):ε (Nat×η×η):=
 (((if γ a<(1:Int)then θ μ else(if 63<(γ a:Int)then θ μ else(gd (0<=(0:Int)/\0<(γ a:Int))<|(if(at_ a 0)=45 then θ μ else(gd (bK (γ a-1))<|(gd (0<=(γ a-(1:Int))/\(γ a-1)<(γ a:Int))<|some (decide ((at_ a (γ a-1))=45))))))))).bind λc=>(bif c then θ (1,b,ν)else(pd fu a d fu 0 b)))
def aec(fu:Nat)(a:aC)(b:ε Unit):ε Unit:=
 (if 0<(γ a:Int)then ι else θ ())
def acl(fu:Nat)(b:aC):Nat->ε Unit:=λa=>bD (λg v=>aec fu b (g ())) a ()
theorem aqz:acl a d (b+1)=aec a d (acl a d b):=rfl
def abr(fu:Nat)(b:aC)(d:Int)(g:η->η->aC->ε ((η×η×aC)⊕(η×η×aC×Nat)))(f:η)(e:η)(a:aC):ε ((η×η×aC)⊕(η×η×aC×Nat)):=
 (gd (γ a<=1000000000)<|(if(cE a b)<0 then θ (.inl (f,e,a))else(gd (bK ((cE a b)+d))<|(gd (0<=((cE a b)+d)/\((cE a b)+d)<=γ a)<|((ox fu (eZ (bH ((cE a b)+d)) a) f e).bind λc=>(if c.1=0 then(gd (bK ((cE a b)+γ b))<|(gd (0<=((cE a b)+γ b)/\((cE a b)+γ b)<=γ a)<|(g c.2.1 c.2.2 (cC (bH ((cE a b)+γ b)) a))))else θ (.inr (c.2.1,c.2.2,a,c.1))))))))
def abt(fu:Nat)(f:aC)(e:Int):Nat->η->η->aC->ε ((η×η×aC)⊕(η×η×aC×Nat)):=λd c b a=>bD (λg v=>abr fu f e (λc b a=>g (c,b,a)) v.1 v.2.1 v.2.2) d (c,b,a)
theorem adx:abt a d c (b+1) i j h=abr a d c (abt a d c b) i j h:=rfl
def adf(fu:Nat)(f:η)(e:η)(d:aC)(c:aC)(i:Int):ε (η×η×aC×Nat):=
 (((if γ d=(0:Int)then(((acl fu c fu)).bind λk=>θ (.inr (f,e,c,0)))else θ (.inl ()))).bind λh=>dE (λj=>(((abt fu d i fu f e c)).bind λg=>dE (λb=>((ox fu b.2.2 b.1 b.2.1).bind λa=>(if a.1=0 then θ (a.2.1,a.2.2,b.2.2,0)else θ (a.2.1,a.2.2,b.2.2,a.1)))) (λq=>θ q) g)) (λq=>θ q) h)
def aqr(fu:Nat)(s_0:aC):ε η:=
 (((if γ s_0<(1:Int)then θ μ else θ (decide (255<(γ s_0:Int))))).bind λc=>(bif c then θ ν else((atq fu s_0 [46]).bind λb=>((adf fu ν ν b.1 b.2.1 b.2.2).bind λa=>(if a.2.2.2=0 then θ a.1 else(if a.2.2.2=1 then θ a.2.1 else ι))))))
def bm(fu:Nat)(s_0:aC):ε (aC×η):=
 (((if 2<=(γ s_0:Int)then(gd (0<=(0:Int)/\0<(γ s_0:Int))<|(if(at_ s_0 0)=91 then(gd (bK (γ s_0-1))<|(gd (0<=(γ s_0-(1:Int))/\(γ s_0-1)<(γ s_0:Int))<|some (decide ((at_ s_0 (γ s_0-1))=93))))else θ ν))else θ ν)).bind λb=>(bif b then(gd (bK (γ s_0-1))<|(gd (0<=(1:Int)/\1<=(γ s_0-(1:Int))/\(γ s_0-1)<=(γ s_0:Int))<|((ayi fu (sub s_0 1 (γ s_0-1))).bind λa=>(bif (!a.2)then θ ([],ν)else(gd (γ ([91]:aC)+γ a.1<=9223372036854775807)<|(gd (γ ([91]++a.1)+γ ([93]:aC)<=9223372036854775807)<|some ((([91]:aC)++a.1)++([93]:aC),μ)))))))else((awo fu s_0).bind λe=>(bif e then θ (s_0,μ)else((aqr fu s_0).bind λd=>(bif d then((XL fu s_0).bind λc=>θ (c,μ))else θ ([],ν)))))))
def ama(fu:Nat)(s_0:aC)(d:Int->Int->ε (Int⊕(Int×ζ)))(b:Int)(a:Int):ε (Int⊕(Int×ζ)):=
 (if a<γ s_0 then(((gd (0<=a/\a<γ s_0)<|(if(at_ s_0 a)<48 then θ μ else(gd (0<=a/\a<γ s_0)<|some (decide (57<(at_ s_0 a))))))).bind λc=>(bif c then θ (.inr (0,5))else(gd (bK (10*b))<|(gd (0<=a/\a<γ s_0)<|(gd (bK ((10*b)+(((at_ s_0 a)-48).toNat)))<|(gd (bK (a+1))<|(d ((10*b)+(((at_ s_0 a)-48).toNat)) (a+1))))))))else θ (.inl b))
def ant(fu:Nat)(s_0:aC):Nat->Int->Int->ε (Int⊕(Int×ζ)):=λc b a=>bD (λg v=>ama fu s_0 (λb a=>g (b,a)) v.1 v.2) c (b,a)
theorem axc:ant a d (b+1) c f=ama a d (ant a d b) c f:=rfl
def tw(fu:Nat)(s_0:aC):ε (Int×ζ):=
 (((if γ s_0<(1:Int)then θ μ else θ (decide (10<(γ s_0:Int))))).bind λb=>(bif b then θ (0,5)else(((ant fu s_0 fu 0 0)).bind λc=>dE (λa=>(if 2147483647<a then θ (0,3)else θ (a,0))) (λq=>θ q) c)))
def amh(fu:Nat)(a:(aC×Int))(b:UQ):ε (Int×ζ×(aC×Int)×UQ):=
 (((gd (0<=a.2/\a.2<=γ a.1)<|(if 0<=(dN (·==64) (cC (bH a.2) a.1))then(gd (bK (a.2+(dN (·==64) (cC (bH a.2) a.1))))<|((afq fu a (a.2+(dN (·==64) (cC (bH a.2) a.1))) 0).bind λe=>(bif e.2 then(gd (0<=e.1/\e.1<γ a.1)<|(if(at_ a.1 e.1)=58 then θ (.inr (e.1,15,a,b))else θ (.inr (e.1,5,a,b))))else(if(dN (·==64) (cC (bH a.2) a.1))=0 then θ (.inr (a.2+(dN (·==64) (cC (bH a.2) a.1)),5,a,b))else(gd (0<=a.2/\a.2<=(a.2+(dN (·==64) (cC (bH a.2) a.1)))/\(a.2+(dN (·==64) (cC (bH a.2) a.1)))<=γ a.1)<|((alj fu (sub a.1 a.2 (a.2+(dN (·==64) (cC (bH a.2) a.1))))).bind λu=>(gd (bK ((a.2+(dN (·==64) (cC (bH a.2) a.1)))+1))<|some (.inl ((a.2+(dN (·==64) (cC (bH a.2) a.1)))+1,u)))))))))else θ (.inl (a.2,b.2.1))))).bind λt=>dE (λd=>((CD fu a.1 d.1 ([58,59,63])).bind λs=>((((Is fu (a.1,d.1) 91).bind λr=>(bif r then((CD fu a.1 d.1 [93]).bind λj=>(gd (bK (j+1))<|some (min (j+1) (γ a.1))))else θ s))).bind λc=>(gd (0<=d.1/\d.1<=c/\c<=γ a.1)<|((bm fu (sub a.1 d.1 c)).bind λg=>(bif (!g.2)then θ (d.1,5,(a.1,d.1),(b.1,d.2,b.2.2.1,b.2.2.2.1,b.2.2.2.2.1,b.2.2.2.2.2))else((Is fu (a.1,c) 58).bind λp=>(bif p then(gd (bK (c+1))<|((CD fu a.1 (c+1) ([59,63])).bind λh=>(gd (0<=(c+1)/\(c+1)<=h/\h<=γ a.1)<|((tw fu (sub a.1 (c+1) h)).bind λf=>(((((if f.2=0 then(if f.1<1 then θ μ else θ (decide (65535<f.1)))else θ ν)).bind λo=>(bif o then θ 3 else θ f.2))).bind λi=>(if i=0 then θ (0,0,(a.1,h),(b.1,d.2,g.1,f.1,b.2.2.2.2.1,b.2.2.2.2.2))else θ (c+1,i,(a.1,c+1),(b.1,d.2,g.1,b.2.2.2.1,b.2.2.2.2.1,b.2.2.2.2.2))))))))else((((ug fu (a.1,c)).bind λn=>(bif (!n)then((Is fu (a.1,c) 59).bind λm=>(bif (!m)then((Is fu (a.1,c) 63).bind λl=>θ (!l))else θ ν))else θ ν))).bind λk=>(bif k then θ (c,5,(a.1,c),(b.1,d.2,g.1,b.2.2.2.1,b.2.2.2.2.1,b.2.2.2.2.2))else θ (0,0,(a.1,c),(b.1,d.2,g.1,b.2.2.2.1,b.2.2.2.2.1,b.2.2.2.2.2)))))))))))) (λq=>θ q) t)
end Go.Wk
