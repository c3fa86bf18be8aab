/-
  The law BodiesApart holds (part 3 of 8).
-/
import Derived.Test.YtbljlpflaehacaaGreatDoorYc2
import Derived.Orders
import GoSem.Core.Utf8
set_option linter.unusedVariables false
set_option linter.unusedSimpArgs false
namespace Go.Oe
open Go.Wk
open Go.Ce (Tr)
open Nat renaming beq → cP, one_pos → Di
section
variable {C : Cx} {md : Md} {w0 w : World} {S0 : List Nat} {ρ : Nat -> Ad} {S : St} {F : Nat -> Value}
theorem Dp{L:List bX}{r:bX}{w2:World}{o k:Ob}{id:Nat}{S2:St}(h:Rel C w0 S0 ρ S F w)(j:Mt w0 S0 ρ S.H L)(h1:S.H[id]? =some k)(A:Hp w0 S0 (L.set id r) w2)(v:RO w0 S0 ρ id o r)(y:o.len=k.len)(x:∀e cs,o=.bl e cs->∀c∈cs,c.ok S.H.length)
  (B:S2.F=S.F) (b:S2.H=gU S.H id o):Rel C w0 S0 ρ S2 F w2:=by
 have n:∀t,S2.at t=S.at t:=fun t=>by rw [St.at_eq,St.at_eq,B]
 have a:S2.H.length=S.H.length:=by rw [b,CU]
 have d:=(aD.1 h1).1;refine⟨fun g i z=>by rw [a];exact h.gl g i z,fun t u s=>h.fr t u (by rw [<-n];exact s),fun t=>by rw [n,a];exact h.fo t,fun i e cs f c m=> ?_,⟨L.set id r,A,by simp [j.1,a],fun i q h2=> ?_⟩⟩
 ·rw [b,uQ]at f;rw [a];split at f
  ·cases f;exact x e cs rfl c m
  ·exact h.ho i e cs f c m
 ·rw [b,uQ]at h2;split at h2
  ·rename_i l;cases h2;rw [l.1];exact⟨by rw [y];exact(j.2 id k h1).1,r,by rw [dV];simp [j.1,d],v⟩
  ·rename_i l;obtain⟨h3,p,E,D⟩:=j.2 i q h2;refine⟨h3,p, ?_,D⟩;rw [dV,aB (fun e=>l ⟨e.symm,d⟩)];exact E
theorem Qo{o k:Ob}{id:Nat}{S2:St}{m:List Rg}(r:Rel C w0 S0 ρ S F w)(h1:S.H[id]? =some k)(f:S.yH m=true)(p:∀al:List Rg,(∀j,eL id j m=true->eL id j al=true)->Ai al id ρ ρ (some o) k)(h:S2.H=gU S.H id o)(e:S2.nb=S.nb)(g:S2.al=S.al)(l:S2.m=m++S.m):Nx S ρ S2 ρ:=by
 have b:∀d al,(∀j,id<d->eL id j m=true->eL id j al=true)->Le d al ρ S.H ρ S2.H:=by
  intro d al a;rw [h];refine⟨by rw [CU];exact eJ _,Up.refl,fun i q c h2=> ?_⟩;rw [uQ];split
  ·rename_i n;rw [n.1,h1]at h2;cases h2;rw [n.1]at c⊢;exact p al fun j=>a j c
  ·rw [h2];exact Ai.refl
 exact⟨⟨e,g,b _ _ fun j c a=>wJ f c a⟩,b _ _ fun j _ a=>by rw [l];exact By.2 (.inl a),fun id j a=>by rw [l];exact By.2 (.inr a)⟩
theorem AM{cs vs:List Value}{off:Nat}(h:off+vs.length<=cs.length)(j:Nat):(Cs cs off vs)[j]? =if off<=j/\j<off+vs.length then vs[j-off]? else cs[j]? :=by
 unfold Cs;by_cases b:j<off
 ·rw [aB aA0,iI,aI aA6,bO,aC b]
 ·by_cases a:j<off+vs.length
  ·rw [aC ⟨aA0,a⟩,aI aA6,aK aA6];simp;congr 1;omega
  ·rw [aB aA0,aK aA6,bU];congr 1;simp;omega
theorem Fa{cs vs:List Value}{off:Nat}(h:off+vs.length<=cs.length):(Cs cs off vs).length=cs.length:=by unfold Cs;simp;omega
theorem Kl{ty:TypeId}{pos:String}{after:Array Edge}(s:Rel C w0 S0 ρ S F w)(R:C.nn=md.n){t n id off e:Nat}{x y:Operand}{cs vs g:List SC}(z:S.H[id]? =some (.bl e cs))(hx:aW md F x=gM (ρ id).b off)(p:(S.ev C y).cells=some vs)(B:Lq C t=some n)(U:vs.length=n)(i:sN cs off vs=some g)(T:S.yH [(id,off,off+n)]=true):
  Step C md w0 S0 ρ S F w ⟨none,.store t x y,ty,pos,after,none⟩ ⟨S.F,gU S.H id (.bl e g),S.nb,S.al,[(id,off,off+n)]++S.m⟩:=by
 intro ops Q rest G;obtain⟨L,X,M⟩:=s.mem;obtain⟨_,r,O,l,rfl,a⟩:=M.2 id _ z;obtain⟨h1,h2⟩:=Sj s R y;obtain⟨u,h3,h4⟩:=SV.Eb (ρ:=ρ) p;have Z:=h2 u h3;obtain⟨Y,h7⟩:=ft i;have h:off+(vs.map (SC.v ρ)).length<=l.length:=by rw [a.1];simpa using Y
 have A:=SV.It p h1;obtain⟨w',q,J⟩:=X.stored (P:=C.P) (off:=off) (vs:=vs.map (SC.v ρ)) O h (fun v N=>by obtain⟨c,_,rfl⟩:=cG.1 N;exact SC.one ρ c);have hx:aW md F x=.pointer (some ⟨(ρ id).b,off,none⟩):=hx;have K:(sizeOf t).run C.P w=.ok (vs.map (SC.v ρ)).length w:=by rw [Dj,U];exact Mk B w
 refine mU (w':=w') rfl rfl ?_ (G ρ F w' ?_ ?_ (fun _ _=>rfl) (fun d W=>by cases W))
 ·have D:(sizeOf t).run C.P w=.ok vs.length w:=by rw [Dj]at K;exact K
  simp [execOp,hx,Z,Instr.storeAt,Instr.sureAddr,storeVar,D,h4,q]
 ·refine Dp (o:=.bl e g) s M z J ⟨_,rfl,by rw [Fa h,a.1,wB i],fun j c f E=> ?_⟩ rfl (fun e2 a1 V c I=> ?_) rfl rfl
  ·rw [pM i]at f;rw [AM h,Dj];split at f
   ·rename_i k;rw [aC k,aZ,f];rfl
   ·rename_i k;rw [aB k];exact a.2 j c f E
  ·cases V;obtain⟨j,f⟩:=fH.1 I;rw [pM i]at f;split at f
   ·exact A c (aG f)
   ·exact s.ho id e cs z c (aG f)
 ·refine Qo (o:=.bl e g) (m:=[(id,off,off+n)]) s z T (fun al I=>.inr ⟨g,rfl,wB i,fun j c f=> ?_⟩) rfl rfl rfl rfl;by_cases k:off<=j/\j<off+vs.length
  ·left;refine I j (tI.2 ⟨_,aE.2 rfl,rfl,k.1, ?_⟩);show j<off+n;omega
  ·exact .inr ⟨c,by rw [pM i,aB k];exact f,fun G=>⟨G,rfl⟩⟩
theorem Xx{α:Type}{f:α->List Value}{sz:Nat}(a:oV f sz):∀(l:List α) (i:Nat) (y:α),l[i]? =some y->∃A B,l.flatMap f=A++(f y++B)/\A.length=i*sz/\∀x,(l.set i x).flatMap f=A++(f x++B)
 |z::l,0,y,h=>by have:z=y:=aB0;subst this;exact⟨[],l.flatMap f,rfl,aA2,fun x=>rfl⟩
 |z::l,i+1,y,h=>by obtain⟨A,B,h1,h2,h3⟩:=Xx a l i y aB0;exact⟨f z++A,B,by rw [tN,h1,iI],by rw [cB,a.len,h2,cZ,Df],fun x=>by rw [Jt,tN,h3,iI]⟩
theorem AL{A E B vs:List Value}{off:Nat}(h:off+vs.length<=E.length):Cs (A++(E++B)) (A.length+off) vs=A++(Cs E off vs++B):=by unfold Cs;rw [List.take_length_add_append,Ax,List.drop_length_add_append,yD aA0,List.drop_append_of_le_length h];simp [iI]
theorem ZQ{α:Type}{f:α->List Value}{e sz cap g:Nat}{o:Option Nat}{l:List α}{L:List bX}{k:Nat}(d:Hp w0 S0 L w)(c:L[k]? =some (aX f e sz o (some ⟨g,0,none⟩) cap l))(b:l≠[]):o=some g:=by
 obtain⟨i,_⟩:=d.res _ (aG c);rcases i with⟨_,a,_⟩|⟨m,j,h,a,_⟩
 ·exact absurd a b
 ·simp only [aV,Addr.mk.injEq,Jo]at a;rw [a];exact h
theorem Kj{ty:TypeId}{pos:String}{after:Array Edge}(O:Rel C w0 S0 ρ S F w)(hn:C.nn=md.n){t n id sz off e b:Nat}{τ:Ty}{l l2:List τ.T}{j:Int}{x y:Operand}{vs:List SC}(hb:S.H[id]? =some (.rw e b τ l))(hx:aW md F x=.pointer (some (ea (ρ id).a (j.toNat*sz+off))))(R:(S.ev C y).cells=some vs)(U:Lq C t=some n)(hl:vs.length=n)(J:cP n 0=false)
  (a1:Uh sz j τ=true) (N:τ.flat=true) (hj:0<=j/\j<(l.length:Int)) (s:Z4 τ l j off vs=some l2) (hm:S.yH [(id,0,1)]=true):
  Step C md w0 S0 ρ S F w ⟨none,.store t x y,ty,pos,after,none⟩ ⟨S.F,gU S.H id (.rw e b τ l2),S.nb,S.al,[(id,0,1)]++S.m⟩:=by
 intro ops Q rest hk;obtain⟨L,hH,hM⟩:=O.mem;obtain⟨b6,r,I,K⟩:=hM.2 id _ hb;have K:r=aX τ.enc e τ.sz (ρ id).o (ρ id).a (ρ id).cap l:=K;subst K;have hE:=Ty.tA N;obtain⟨h1,h2⟩:=Sj O hn y;obtain⟨u,h3,h4⟩:=SV.Eb (ρ:=ρ) R;have h5:=h2 u h3;unfold Z4 at s;split at s
 ·rename_i cs a5;split at s
  ·rename_i z hz;cases s;have a2:j.toNat<l.length:=aA0;obtain⟨A,B,f1,f2,f3⟩:=Xx hE l j.toNat _ (GN τ l j hj);obtain⟨h6,h7⟩:=ft a5;have a4:=(Ty.wT τ 0 0 (MH τ l j) N).2 ρ;have E:=(QM τ cs z [] hz).2 ρ;rw [dP,kP]at E;have Z:(T5 τ l j).length=τ.sz:=(VF (l:=l) (j:=j) N 0).2;have V:Cs (τ.enc (MH τ l j)) off (vs.map (SC.v ρ))=τ.enc z:=by rw [<-E,<-a4,h7];unfold Cs T5;simp
   have q:(τ.enc (MH τ l j)).length=τ.sz:=τ.Rl _ N;have i:off+(vs.map (SC.v ρ)).length<=(τ.enc (MH τ l j)).length:=by rw [q,Dj,<-Z];exact h6
   cases Y:(ρ id).o with
   |none=>
    exfalso;rw [Y]at I;obtain⟨h8,_⟩:=hH.res _ (aG I);rcases h8 with⟨_,D,_⟩|⟨g,c6,D,_⟩
    ·subst D;simp at a2
    ·cases D
   |some g=>
    rw [Y]at I;obtain⟨ha,h8⟩:=hH.Ut hE id I;have p:id<L.length:=(aD.1 I).1;have a3:(l.flatMap τ.enc).length=A.length+(τ.sz+B.length):=by rw [f1];simp [q]
    obtain⟨w',G,D⟩:=h8.PE (P:=C.P) (k:=id) (vs:=vs.map (SC.v ρ)) (j:=A.length+off) (bF p) (by rw [a3];rw [q]at i;omega) (fun v hv=>by
     obtain⟨c,_,rfl⟩:=cG.1 hv;exact SC.one ρ c) (fun f=>by
     have:vs=[]:=List.map_eq_nil_iff.1 f;rw [this]at hl;rw [<-hl]at J;cases J)
    rw [LI,f1,AL i,V,<-f3 z,show l.length=(l.set j.toNat z).length by simp]at D;obtain⟨o',h⟩:=D.Fj (k:=id) (l:=l.set j.toNat z) (bF p);rw [LI]at h;have X:o'=some g:=by
     rw [ha]at h;refine ZQ h (bF p) fun f=> ?_;have:(l.set j.toNat z).length=0:=by rw [f];rfl
     rw [Cc]at this;omega
    rw [X,<-Y]at h;have W:(sizeOf t).run C.P w=.ok vs.length w:=by rw [hl];exact Mk U w
    refine mU (w':=w') rfl rfl ?_ (hk ρ F w' ?_ ?_ (fun _ _=>rfl) (fun d hd=>by cases hd))
    ·have M:j.toNat*sz+off=A.length+off:=by rw [Ew a1,f2]
     rw [M]at hx;simp [execOp,hx,h5,Instr.storeAt,Instr.sureAddr,storeVar,W,h4,G]
    ·exact Dp (o:=.rw e b τ (l.set j.toNat z)) O hM hb h rfl (by show(l.set j.toNat z).length=l.length;simp) (fun _ _ K=>by cases K) rfl rfl
    ·exact Qo (o:=.rw e b τ (l.set j.toNat z)) (m:=[(id,0,1)]) O hb hm (fun al hc=>.inl (hc 0 (tI.2 ⟨_,aE.2 rfl,rfl,eJ _,Di⟩))) rfl rfl rfl rfl
  ·cases s
 ·cases s
theorem Kk{ty:TypeId}{pos:String}{after:Array Edge}(e:Rel C w0 S0 ρ S F w)(z:C.nn=md.n){t id sz m:Nat}{l:aA}{j:Int}{x y:Operand}{v:SC}{c:UInt8}(i:S.H[id]? =some (.br m l))(hx:aW md F x=.pointer (some (ea (ρ id).a (j.toNat*sz+0))))(f:S.ev C y=.c' v)(s:v.rC=some c)(g:Lq C t=some 1)
  (h:Uh sz j .c'=true) (E:0<=j/\j<(l.length:Int)) (A:S.yH [(id,0,1)]=true):
  Step C md w0 S0 ρ S F w ⟨none,.store t x y,ty,pos,after,none⟩ ⟨S.F,gU S.H id (.br m (l.set j.toNat c)),S.nb,S.al,[(id,0,1)]++S.m⟩:=by
 intro ops Q rest D;obtain⟨L,J,p⟩:=e.mem;obtain⟨B,r,u,b⟩:=p.2 id _ i;have b:r=eN (.slice (ρ id).a m (ρ id).cap) m l:=b;subst b;obtain⟨h1,h2⟩:=Sj e z y;have q:aW md F y=bt c:=by rw [f]at h2;rw [h2 _ rfl,z1 s ρ]
 have hx:aW md F x=.pointer (some (ea (ρ id).a (j.toNat*1))):=by rw [hx,Dg,Ew h];rfl
 refine na J id (ρ id).a m (ρ id).cap j l c u E hx q (Mk g w) fun w' k=>D ρ F w' ?_ ?_ (fun _ _=>rfl) (fun d G=>by cases G)
 ·exact Dp (o:=.br m (l.set j.toNat c)) e p i k rfl rfl (fun _ _ b=>by cases b) rfl rfl
 ·exact Qo (o:=.br m (l.set j.toNat c)) (m:=[(id,0,1)]) e i A (fun al I=>.inl (I 0 (tI.2 ⟨_,aE.2 rfl,rfl,eJ _,Di⟩))) rfl rfl rfl rfl
theorem AJ{ty:TypeId}{pos:String}{after:Array Edge}(r:Rel C w0 S0 ρ S F w)(p:C.nn=md.n){t:Nat}{x y:Operand}{ro:Ro}(h:gQ C (S.ev C) S.H (.store t x y)=some ro)(A:Dc ro.g)(u:S.yH ro.m=true):
  Step C md w0 S0 ρ S F w ⟨none,.store t x y,ty,pos,after,none⟩ ⟨S.F,ro.H,S.nb,S.al,ro.m++S.m⟩/\ro.v=.u':=by
 obtain⟨a,E,h⟩:=jW (show eX (S.ev C x) (fun a=>wI C S.H t a (S.ev C y))=some ro from h);have hx:=(mC r p E).2;unfold wI at h;split at h
 ·rename_i n B d k;have h:=dC h;have q:=gP h.1;have h:=h.2;split at h
  ·rename_i id off;split at h
   ·rename_i e cs i;rw [fW]at i;split at h
    ·rename_i J s;cases h;exact⟨Kl r p i hx k d q s u,rfl⟩
    ·cases h
   ·cases h
  ·rename_i id j sz off;cases o:cP n 0 with
   |true=>rw [o]at h;cases h
   |false=>
    rw [o]at h;simp only [aH]at h;split at h
    ·rename_i e b τ l i;rw [fW]at i;split at h
     ·rename_i K s;have h:=dC h;have h1:=gJ h.1;cases h.2;exact⟨Kj r p i hx k d q o h1.1 h1.2 A.1 s u,rfl⟩
     ·cases h
    ·rename_i m l i;rw [fW]at i;split at h
     ·rename_i v z;split at h
      ·rename_i c D;have h:=dC h;have h1:=gJ h.1;have h2:=gP h1.2;cases h.2;subst h2;have f:(S.ev C y).cells=some [v]:=by rw [z];rfl
       rw [k]at f;have I:B=[v]:=aP f;rw [I]at q;have G:n=1:=q.symm;rw [G]at d;exact⟨Kk r p i hx z D d h1.1 A.1 u,rfl⟩
      ·cases h
     ·cases h
    ·cases h
  ·cases h
 ·cases h
end
open Go.Wk
open Go.Ce (Tr)
open Nat renaming beq → cP, one_pos → Di, succ → mG
def im(C:Cx):Prop:=∀t e b τ,C.E t=some (e,b,τ)->C.P.underlying t=some (.slice e)/\TI C.P e τ.sz b/\τ.flat=true/\0<b
section
variable {C : Cx} {md : Md} {w0 w : World} {S0 : List Nat} {ρ : Nat -> Ad} {S : St} {F : Nat -> Value}
theorem bh(i:Rel C w0 S0 ρ S F w){x:Operand}{t:TypeId}{c:SC}{g:List PD}{r:SV}(hx:aW md F x=c.v ρ)(j:c.ok S.H.length)(h:Qt C S.H t c=some (g,r)):tJ C md ρ S F w (.call ⟨.builtin .len, #[x], #[t]⟩) r:=by
 unfold Qt at h;split at h
 ·rename_i l;have h:=dC h;cases h.2;exact fF rfl rfl fun d ty pos after=>O2 l (Ch h.1) hx
 ·split at h
  ·rename_i e b;split at h
   ·rename_i id _;split at h
    ·rename_i o f;cases h;rw [fW]at f;refine fF rfl rfl fun d ty pos after=> ?_;rw [vY i id o f];exact On (ρ id).a (ρ id).ln (ρ id).cap e (B3 b) hx
    ·cases h
   ·cases h;exact fF rfl rfl fun d ty pos after=>On _ _ _ e (B3 b) hx
   ·cases h;exact fF rfl rfl fun d ty pos after=>On _ _ _ e (B3 b) hx
   ·cases h
  ·cases h
theorem C5(n:Rel C w0 S0 ρ S F w){id m:Nat}(h:JQ S.H id=some m)(j:0<m):(ρ id).ln=m/\(ρ id).a≠none:=by
 obtain⟨L,p,i⟩:=n.mem;unfold JQ at h;split at h
 ·rename_i e b t l c;have h:=dC h;cases h.2;rw [fW]at c;obtain⟨h1,r,f,d⟩:=i.2 id _ c;have d:r=aX t.enc e t.sz (ρ id).o (ρ id).a (ρ id).cap l:=d;subst d;refine⟨h1.symm,(p.nD id f).some_ ?_⟩;rw [(Ty.tA h.1).flat];exact Ol j (Ty.yS h.1)
 ·rename_i t l c;have h:=dC h;cases h.2;rw [fW]at c;obtain⟨h1,r,f,_,g,_⟩:=i.2 id _ c;refine⟨h1.symm,g.some_ ?_⟩;rw [(Ty.tA h.1).flat];exact Ol j (Ty.yS h.1)
 ·rename_i k l c;cases h;rw [fW]at c;obtain⟨h1,r,f,d⟩:=i.2 id _ c;have d:r=eN (.slice (ρ id).a k (ρ id).cap) k l:=d;subst d;have h1:k=(ρ id).ln:=h1;exact⟨by rw [<-h1];exact(vZ n id k l c).symm,(p.iL id f).some_ (by simpa using j)⟩
 ·cases h
theorem Rc(A:Rel C w0 S0 ρ S F w){t:TypeId}{x ix:Operand}{a c:SC}{ro:Ro}(hx:aW md F x=a.v ρ)(o:a.ok S.H.length)(k:aW md F ix=c.v ρ)(h:U5 C S.H t a c=some ro)(n:Dc ro.g):tJ C md ρ S F w (.indexAddr t x ix) ro.v/\ro.H=S.H/\ro.m=[]:=by
 unfold U5 at h;split at h
 ·rename_i j z;obtain⟨q,u⟩:=tF z ρ;rw [u]at k;split at h
  ·rename_i e r;split at h
   ·rename_i sz f;split at h
    ·rename_i id;split at h
     ·rename_i m y;cases h;have G:=n.1;obtain⟨h1,h2⟩:=C5 A y aA0;exact⟨⟨o,_,rfl,fun d ty pos after=>NL (ρ id).a (ρ id).ln (ρ id).cap e sz q j (B3 r) (Mk f w) hx k aA0 h2⟩,rfl,rfl⟩
     ·cases h
    ·rename_i id m;cases h;refine⟨⟨o,_,rfl,fun d ty pos after=> ?_⟩,rfl,rfl⟩;have:=NL (P:=C.P) (w:=w) (d:=d) (ty:=ty) (pos:=pos) (after:=after) (some ⟨(ρ id).b,0,none⟩) m m e sz q j (B3 r) (Mk f w) hx k n.1 aA2;rw [this];show _=Result.ok (Next.value (gM (ρ id).b (j.toNat*sz))) w;unfold ea gM;simp [HJ]
    ·cases h
   ·cases h
  ·split at h
   ·rename_i l i;split at h
    ·rename_i sz f;split at h
     ·rename_i id off;have h:=dC h;cases h.2;refine⟨⟨o,_,rfl,fun d ty pos after=> ?_⟩,rfl,rfl⟩;have:=NK (P:=C.P) (w:=w) (d:=d) (ty:=ty) (pos:=pos) (after:=after) ⟨(ρ id).b,off,none⟩ l.1 l.2 sz q j (oAr i) (Mk f w) hx k n.1 (Tp h.1);rw [this];show _=Result.ok (Next.value (gM (ρ id).b (off+j.toNat*sz))) w;unfold ea gM;simp [HJ]
     ·rename_i id E s p;have h:=dC h;have h2:=dC h.2;have h3:=dC h2.2;cases h3.2;refine⟨⟨o,_,rfl,fun d ty pos after=> ?_⟩,rfl,rfl⟩;have D:=gP h2.1;have B:=gP h3.1;subst D;subst B;have:=NK (P:=C.P) (w:=w) (d:=d) (ty:=ty) (pos:=pos) (after:=after) (ea (ρ id).a 0) l.1 l.2 sz q j (oAr i) (Mk f w) (by rw [hx];rfl) k n.1 (Tp h.1);rw [this];show Result.ok (Next.value (.pointer (some ((ea (ρ id).a 0).add (j.toNat*sz))))) w=Result.ok (Next.value (.pointer (some (ea (ρ id).a (j.toNat*sz+0))))) w;rw [BZ,Dh,Dg]
     ·cases h
    ·cases h
   ·cases h
 ·cases h
theorem Dz(s:Rel C w0 S0 ρ S F w){t:Ty}{c:SC}{l:List t.T}(h:tB S.H t c=some l):∃a cap,c.v ρ=.slice a l.length cap/\Rd w a (l.flatMap t.enc):=by
 obtain⟨L,n,k⟩:=s.mem;unfold tB at h;split at h
 ·cases h;exact⟨none,0,rfl,Rd.nil _ _⟩
 ·rename_i id;rw [fW]at h;unfold tG at h;split at h
  ·rename_i e b t2 f d;split at h
   ·rename_i j;obtain rfl:=Ty.iM j;cases h;obtain⟨h1,r,i,g⟩:=k.2 id _ d;have g:r=aX t2.enc e t2.sz (ρ id).o (ρ id).a (ρ id).cap f:=g;subst g;have h1:f.length=(ρ id).ln:=h1;exact⟨(ρ id).a,(ρ id).cap,by show Value.slice _ (ρ id).ln _=_;rw [<-h1];rfl,n.nD id i⟩
   ·cases h
  ·rename_i t2 f d;split at h
   ·rename_i j;obtain rfl:=Ty.iM j;cases h;obtain⟨h1,r,i,_,p,q,_⟩:=k.2 id _ d;have h1:f.length=(ρ id).ln:=h1;exact⟨(ρ id).a,(ρ id).cap,by show Value.slice _ (ρ id).ln _=_;rw [<-h1];rfl,p.MF n q⟩
   ·cases h
  ·rename_i m f d;unfold strOf at h;split at h
   ·rename_i j;obtain rfl:=Ty.iM j;cases h;obtain⟨h1,r,i,g⟩:=k.2 id _ d;have g:r=eN (.slice (ρ id).a m (ρ id).cap) m f:=g;subst g;have h1:m=(ρ id).ln:=h1;have h2:=vZ s id m f d;exact⟨(ρ id).a,(ρ id).cap,by show Value.slice _ (ρ id).ln _=_;rw [<-h1,<-h2];rfl,Rd.iA (n.iL id i)⟩
   ·cases h
  ·cases h
 ·rename_i id m;split at h
  ·rename_i e cs d;rw [fW]at d;obtain⟨_,r,i,y,rfl,u⟩:=k.2 id _ d;obtain⟨h1,_,h3⟩:=XX h;refine⟨some ⟨(ρ id).b,0,none⟩,m,by rw [h1];rfl, ?_⟩;have x:=u.all (pJ h);rw [<-h3 ρ,<-x];exact n.oB id i
  ·cases h
 ·cases h
theorem OV(i:Rel C w0 S0 ρ S F w){s t e:TypeId}{x:Operand}{c:SC}{l:aA}(hx:aW md F x=c.v ρ)(f:II C s=some e)(b:tD C t=true)(g:BJ C e=true)(h:tB S.H .c' c=some l):tJ C md ρ S F w (.convert s t x) (.c' (.s' l)):=by obtain⟨a,cap,h1,h2⟩:=Dz i h;rw [h1]at hx;exact fF rfl rfl fun d ty pos after=>kC l a l.length cap e (Rd.bytes h2) rfl (B3 f) (Ch b) (oU8 g) hx
theorem qb{b:Builtin}{x y:Operand}{f:Array TypeId}{a c:SC}{g:List PD}{r:SV}(hx:aW md F x=a.v ρ)(e:aW md F y=c.v ρ)(h:mmC b a c=some (g,r)):tJ C md ρ S F w (.call ⟨.builtin b, #[x,y],f⟩) r:=by
 unfold mmC at h;split at h
 ·rename_i k u i v;have h:=dC h;cases h.2;rw [<-kT h.1]at e;exact fF rfl rfl fun d ty pos after=>O0 k u v hx e
 ·rename_i k u i v;have h:=dC h;cases h.2;rw [<-kT h.1]at e;exact fF rfl rfl fun d ty pos after=>O1 k u v hx e
 ·cases h
theorem aw{x:Operand}{c:SC}{v:SV}(hx:aW md F x=c.v ρ)(f:c.ok S.H.length)(h:Vw c=some v):tJ C md ρ S F w (.nilCheck x) v:=by
 unfold Vw at h;split at h
 ·rename_i id off;cases h;have hx:aW md F x=.pointer (some ⟨(ρ id).b,off,none⟩):=hx;exact⟨f,_,rfl,fun d ty pos after=>by simp [execOp,hx];rfl⟩
 ·rename_i id j sz off;cases h;have hx:aW md F x=.pointer (some (ea (ρ id).a (j.toNat*sz+off))):=hx;exact⟨f,_,rfl,fun d ty pos after=>by simp [execOp,hx];rfl⟩
 ·rename_i k e;cases h;have hx:aW md F x=.func (.func k) #[] (e.map fun id=>gM (ρ id).b 0).toArray:=hx;exact⟨f,_,rfl,fun d ty pos after=>by simp [execOp,hx];rfl⟩
 ·cases h
theorem GX{ev:Operand->SV}{n:Nat}:∀{l:List Operand} {a:List Nat},(∀x∈l,(ev x).ok n/\∀u,(ev x).v ρ=some u->aW md F x=u)->J3 (l.map ev)=some a->l.map (aW md F)=a.map (fun id=>gM (ρ id).b 0)/\∀id∈a,id<n
 |[],a,_,h=>by cases h;exact⟨rfl,fun _ h=>by cases h⟩
 |x::l,a,hx,h=>by
  have h:(match ev x with
   |.c' (.p' id off)=>bif cP off 0 then(match J3 (l.map ev)with
    |some q=>some (id::q)
    |none=>none)else none
   |_=>none)=some a:=h
  split at h
  ·rename_i id off j;have h:=dC h;have h2:=h.2;split at h2
   ·rename_i q k;cases h2;obtain⟨h3,m⟩:=GX (fun y g=>hx y (fU _ g)) k;obtain⟨f,e⟩:=hx x iH;rw [j]at f e;have d:=e _ rfl;rw [gP h.1]at d;refine⟨by rw [tM,tM,h3,d];rfl,fun i c=> ?_⟩;rcases aN.1 c with rfl|c
    ·exact f i (aE.2 rfl)
    ·exact m i c
   ·cases h2
  ·cases h
theorem H6(m:Rel C w0 S0 ρ S F w)(j:C.nn=md.n){f:Fn}{a b:Array Operand}{v:SV}(h:Qm (S.ev C) f a.toList b.toList=some v):tJ C md ρ S F w (.makeFunc f a b) v:=by
 unfold Qm at h;split at h
 ·rename_i k;split at h
  ·rename_i g;split at h
   ·rename_i c e;cases h;obtain⟨h1,h2⟩:=GX (ρ:=ρ) (md:=md) (F:=F) (n:=S.H.length) (fun x _=>Sj m j x) e;have g:a= #[]:=vC.1 g;subst g;have l:b.map (aW md F)=(c.map fun id=>gM (ρ id).b 0).toArray:=vC.1 (by rw [Array.toList_map,h1]);refine⟨fun i e=>h2 i e,_,rfl,fun d ty pos after=> ?_⟩;simp [execOp,Instr.makeFunc,l,SC.v]
   ·cases h
  ·cases h
 ·cases h
theorem A8(f:Rel C w0 S0 ρ S F w)(e:C.nn=md.n){c a b:Operand}{t:Bool}{v:SV}(j:S.ev C c=.c' (.b' t))(g:(bif t then S.ev C a else S.ev C b)=v)(i:v≠.u'):tJ C md ρ S F w (.pick c a b) v:=by
 have h1:=(mC f e j).2;have key:v.ok S.H.length/\∀u,v.v ρ=some u->(bif t then aW md F a else aW md F b)=u:=by
  cases t with
  |true=>have:=Sj f e a;rw [show S.ev C a=v from g]at this;exact this
  |false=>have:=Sj f e b;rw [show S.ev C b=v from g]at this;exact this
 obtain⟨u,h⟩:∃u,v.v ρ=some u:=by cases v<;>first|exact⟨_,rfl⟩|exact absurd rfl i
 exact⟨key.1,u,h,fun d ty pos after=>ND t u h1 (key.2 u h)⟩
variable {d : Nat} {ty : TypeId} {pos : String} {after : Array Edge}
theorem xF{L:List bX}(h:Hp w0 S0 L w):Hp w0 S0 (dQ::L) w:=by
 refine⟨h.os,h.tape,h.output,h.size,h.below,fun r a=> ?_,List.Pairwise.cons (fun r _ b c=>by cases c) h.sep⟩;rcases aN.1 a with rfl|a
 ·exact⟨trivial,fun b c=>by cases c⟩
 ·exact h.res r a
theorem set_perm{α:Type}:∀{L:List α} {id:Nat} (r:α),id<L.length->(L.set id r).Perm (r::L.eraseIdx id)
 |x::L,0,r,_=>List.Perm.refl _
 |x::L,id+1,r,h=>by simp only [Jt,List.eraseIdx_cons_succ];exact(List.Perm.cons x (set_perm r aB0)).trans (List.Perm.swap r x _)
theorem TH{L:List bX}{id:Nat}{r:bX}(hid:id<L.length)(h:Hp w0 S0 (L.set id r) w):Hp w0 S0 (r::L.set id dQ) w:=by have h1:=h.perm (set_perm r hid);have h2:=(xF h1).perm (List.Perm.swap r dQ _);exact h2.perm ((set_perm dQ hid).symm.cons r)
theorem ay{H:List Ob}{L:List bX}{r:bX}{o c:Ob}{id:Nat}(b:Mt w0 S0 ρ H L)(h1:H[id]? =some c)(h:RO w0 S0 ρ id o r)(j:o.len=c.len):Mt w0 S0 ρ (gU H id o) (L.set id r):=by
 have a:=(aD.1 h1).1;refine⟨by simp [b.1,CU],fun i g h2=> ?_⟩;rw [uQ]at h2;split at h2
 ·rename_i d;cases h2;rw [d.1];exact⟨by rw [j];exact(b.2 id c h1).1,r,by rw [dV];simp [b.1,a],h⟩
 ·rename_i d;obtain⟨h3,f,l,k⟩:=b.2 i g h2;refine⟨h3,f, ?_,k⟩;rw [dV,aB (fun e=>d ⟨e.symm,a⟩)];exact l
theorem Pv{L:List bX}{w2:World}{id e b:Nat}{τ:Ty}{l:List τ.T}{a:Ob}{o':Option Nat}{a':Option Addr}{cap':Nat}{m:List Rg}(t:Rel C w0 S0 ρ S F w)(s:Mt w0 S0 ρ S.H L)(h1:S.H[id]? =some a)(z:Hp w0 S0 (L.set id (aX τ.enc e τ.sz o' a' cap' l)) w2)(v:S.yH m=true)
  (x:∀al:List Rg,(∀j,eL id j m=true->eL id j al=true)->Ai al id ρ ρ (some (.dd a.len)) a):
  Rel C w0 S0 (Ap ρ S.H.length ⟨o',a',cap',false,l.length⟩) (St.set ⟨S.F,gU S.H id (.dd a.len)++[.rw e b τ l],S.nb,S.al,m++S.m⟩ d (.c' (.l' S.H.length))) (dN F d (.slice a' l.length cap')) w2/\
  Nx S ρ (St.set ⟨S.F,gU S.H id (.dd a.len)++[.rw e b τ l],S.nb,S.al,m++S.m⟩ d (.c' (.l' S.H.length))) (Ap ρ S.H.length ⟨o',a',cap',false,l.length⟩):=by
 have h:id<L.length:=by rw [s.1];exact(aD.1 h1).1
 have g:=TH h z;have c:(gU S.H id (.dd a.len)).length=S.H.length:=CU;let S1:St:=⟨S.F,gU S.H id (.dd a.len),S.nb,S.al,m++S.m⟩;have f:Rel C w0 S0 ρ S1 F w2:=Dp (o:=.dd a.len) (r:=dQ) t s h1 g.tail trivial rfl (fun _ _ n=>by cases n) rfl rfl;have q:Mt w0 S0 ρ S1.H (L.set id dQ):=ay s h1 trivial rfl;have p:Nx S ρ S1 ρ:=Qo (o:=.dd a.len) (m:=m) t h1 v x rfl rfl rfl rfl;have k:S1.H.length=S.H.length:=c;have h3:Rel C w0 S0 (Ap ρ S1.H.length ⟨o',a',cap',false,l.length⟩) ⟨S.F,gU S.H id (.dd a.len)++[.rw e b τ l],S.nb,S.al,m++S.m⟩ F w2:=vX (o:=.rw e b τ l) f q g (by show _=_;rw [mE]) rfl (fun _ _ n=>by cases n) rfl rfl;have u:Nx S1 ρ ⟨S.F,gU S.H id (.dd a.len)++[.rw e b τ l],S.nb,S.al,m++S.m⟩ (Ap ρ S1.H.length ⟨o',a',cap',false,l.length⟩):=Gi (o:=.rw e b τ l) (m:=[]) f rfl rfl rfl rfl;rw [k]at h3 u;refine⟨K7 h3 aC7 (fun i y=> ?_), ?_⟩
 ·have:i=S.H.length:=aE.1 y;subst this;show S.H.length<(gU S.H id (.dd a.len)++[_]).length;rw [cB,c];simp
 ·have:=p.trans u;exact⟨⟨this.nb,this.al,this.le⟩,this.lg,this.mm⟩
theorem Fo{L:List bX}{w2:World}{e b:Nat}{τ:Ty}{l:List τ.T}{o':Option Nat}{a':Option Addr}{cap':Nat}(c:Rel C w0 S0 ρ S F w)(h:Mt w0 S0 ρ S.H L)(j:Hp w0 S0 (aX τ.enc e τ.sz o' a' cap' l::L) w2):
  Rel C w0 S0 (Ap ρ S.H.length ⟨o',a',cap',false,l.length⟩) (St.set ⟨S.F,S.H++[.rw e b τ l],S.nb,S.al,[]++S.m⟩ d (.c' (.l' S.H.length))) (dN F d (.slice a' l.length cap')) w2/\
  Nx S ρ (St.set ⟨S.F,S.H++[.rw e b τ l],S.nb,S.al,[]++S.m⟩ d (.c' (.l' S.H.length))) (Ap ρ S.H.length ⟨o',a',cap',false,l.length⟩):=by
 have h3:Rel C w0 S0 (Ap ρ S.H.length ⟨o',a',cap',false,l.length⟩) ⟨S.F,S.H++[.rw e b τ l],S.nb,S.al,[]++S.m⟩ F w2:=vX (o:=.rw e b τ l) c h j (by show _=_;rw [mE]) rfl (fun _ _ g=>by cases g) rfl rfl;have a:Nx S ρ ⟨S.F,S.H++[.rw e b τ l],S.nb,S.al,[]++S.m⟩ (Ap ρ S.H.length ⟨o',a',cap',false,l.length⟩):=Gi (o:=.rw e b τ l) (m:=[]) c rfl rfl rfl rfl;refine⟨K7 h3 aC7 (fun i f=> ?_),⟨⟨a.nb,a.al,a.le⟩,a.lg,a.mm⟩⟩;have:i=S.H.length:=aE.1 f;subst this;show S.H.length<(S.H++[_]).length;simp
theorem step_append(hE:im C)(E:Rel C w0 S0 ρ S F w)(hn:C.nn=md.n){t:TypeId}{x y:Operand}{a c:SC}{ro:Ro}(hx:aW md F x=a.v ρ)(G:aW md F y=c.v ρ)(h:pS C S.H t a c=some ro)(hg:Dc ro.g)(hm:S.yH ro.m=true):
  Step C md w0 S0 ρ S F w ⟨some d,.call ⟨.builtin .append, #[x,y], #[t,t]⟩,ty,pos,after,none⟩ (St.set ⟨S.F,ro.H,S.nb,S.al,ro.m++S.m⟩ d ro.v):=by
 intro ops Q rest Z;have np:∀d2:Nat,(some d:Option Nat)=some d2->kU (.call ⟨.builtin .append, #[x,y], #[t,t]⟩)=true->∀F2:Nat->Value,∃w3,(execOp (aW md F) (⟨some d,.call ⟨.builtin .append, #[x,y], #[t,t]⟩,ty,pos,after,none⟩:Oper)).run C.P w=.ok (.value (F2 d2)) w3:=fun d2 _ h=>by cases h
 obtain⟨L,hH,O⟩:=E.mem;unfold pS at h;split at h
 ·rename_i e b τ a7;obtain⟨W,hT,B,D⟩:=hE _ _ _ _ a7;split at h
  ·split at h
   ·rename_i I k;cases h;obtain⟨T,R,i,N⟩:=Dz E k;rw [i]at G;refine MO (Hp.dB hH τ.enc e τ.sz none) 0 none none T 0 R e τ.sz b [] I (Ty.tA B) rfl W hT (Ty.yS B) D hx G N hg.1 fun o' a' z w' h2=> ?_;obtain⟨h3,s⟩:=Fo (b:=b) (d:=d) E O h2;exact Z _ _ w' h3 s HE fun d2 M J=>np d2 M J _
   ·cases h
  ·rename_i id;split at h
   ·rename_i l I p k;cases h
    obtain⟨T,R,i,N⟩:=Dz E k;rw [i]at G;have f:S.H[id]? =some (.rw e b τ l):=by
     unfold P2 at p;simp only at p;split at p
     ·rename_i q hq;have h1:=dC p;have h2:=dC h1.2;have h3:=rW hq h2.2;rw [fW,gP h1.1,gP h2.1]at h3;exact h3
     ·cases p
    obtain⟨h1,r,U,he⟩:=O.2 id _ f;have he:r=aX τ.enc e τ.sz (ρ id).o (ρ id).a (ρ id).cap l:=he;subst he;have h1:l.length=(ρ id).ln:=h1;have A:aW md F x=.slice (ρ id).a l.length (ρ id).cap:=by rw [hx,h1];rfl
    refine MO hH id (ρ id).o (ρ id).a T (ρ id).cap R e τ.sz b l I (Ty.tA B) U W hT (Ty.yS B) D A G N hg.1 fun o' a' z w' h2=> ?_;obtain⟨h3,s⟩:=Pv (b:=b) (d:=d) (m:=[(id,0,1)]) E O f h2 hm (fun al hc=>.inl (hc 0 (tI.2 ⟨_,aE.2 rfl,rfl,eJ _,Di⟩)));exact Z _ _ w' h3 s HE fun d2 M J=>np d2 M J _
   ·cases h
  ·rename_i id m;split at h
   ·rename_i l b6 b0 I p k;cases h
    obtain⟨T,R,i,N⟩:=Dz E k;rw [i]at G;have f:∃cs,S.H[id]? =some (.bl e cs)/\m<=1048576/\oC τ m cs=some l:=by
     simp only [Ty.rd]at p;split at p
     ·rename_i e2 cs hb;rw [fW]at hb;have h1:=dC p;have h2:=dC h1.2;have h3:=dC h2.2;have s:=h3.2;split at s
      ·rename_i y V;cases s;rw [gP h1.1]at hb;exact⟨cs,hb,Tp h3.1,V⟩
      ·cases s
     ·cases p
    obtain⟨cs,f,b2,u⟩:=f;obtain⟨_,r,U,vs,rfl,K⟩:=O.2 id _ f;obtain⟨h1,_,h3⟩:=XX u;have s:=K.all (pJ u);have a5:=hH.Yv id τ.sz m l U (Ty.tA B) (by rw [s,h3 ρ]) h1 aE7;have X:id<L.length:=(aD.1 U).1;have A:aW md F x=.slice (some ⟨(ρ id).b,0,none⟩) l.length m:=by rw [hx,h1];rfl
    refine MO a5 id (some (ρ id).b) (some ⟨(ρ id).b,0,none⟩) T m R e τ.sz b l I (Ty.tA B) (bF X) W hT (Ty.yS B) D A G N hg.1 fun o' a' z w' h2=> ?_;rw [LI]at h2;have Y:yw (eK S.H id)=mG cs.length:=by rw [fW,f];rfl
    obtain⟨h5,h6⟩:=Pv (b:=b) (d:=d) (m:=[(id,0,yw (eK S.H id))]) E O f h2 hm (fun al hc=>.inl fun j hj=>hc j (tI.2 ⟨_,aE.2 rfl,rfl,dH _,by show j<yw (eK S.H id);rw [Y];omega⟩));exact Z _ _ w' h5 h6 HE fun d2 M J=>np d2 M J _
   ·cases h
  ·cases h
 ·cases h
theorem EY{L:List bX}{τ:Ty}{l:List τ.T}{a':Option Addr}{cap':Nat}(b:Rel C w0 S0 ρ S F w)(g:Mt w0 S0 ρ S.H L)(h:Hp w0 S0 L w)(c:Ta w0 S0 ⟨none,a',cap',false,l.length⟩ τ l):
  Rel C w0 S0 (Ap ρ S.H.length ⟨none,a',cap',false,l.length⟩) (St.set ⟨S.F,S.H++[.ro τ l],S.nb,S.al,[]++S.m⟩ d (.c' (.l' S.H.length))) (dN F d (.slice a' l.length cap')) w/\
  Nx S ρ (St.set ⟨S.F,S.H++[.ro τ l],S.nb,S.al,[]++S.m⟩ d (.c' (.l' S.H.length))) (Ap ρ S.H.length ⟨none,a',cap',false,l.length⟩):=by
 have h3:Rel C w0 S0 (Ap ρ S.H.length ⟨none,a',cap',false,l.length⟩) ⟨S.F,S.H++[.ro τ l],S.nb,S.al,[]++S.m⟩ F w:=vX (o:=.ro τ l) b g (xF h) ⟨rfl,by rw [mE];exact c⟩ rfl (fun _ _ f=>by cases f) rfl rfl;have a:Nx S ρ ⟨S.F,S.H++[.ro τ l],S.nb,S.al,[]++S.m⟩ (Ap ρ S.H.length ⟨none,a',cap',false,l.length⟩):=Gi (o:=.ro τ l) (m:=[]) b rfl rfl rfl rfl;refine⟨K7 h3 aC7 (fun i e=> ?_),⟨⟨a.nb,a.al,a.le⟩,a.lg,a.mm⟩⟩;have:i=S.H.length:=aE.1 e;subst this;show S.H.length<(S.H++[_]).length;simp
theorem zG{H:List Ob}{t:Nat}{x:SC}{d i:Option SC}{ro:Ro}(h:zH C H t x d i=some ro):∃(id e:Nat) (τ:Ty) (l:List τ.T),x=.l' id/\H[id]? =some (.ro τ l)/\C.P.underlying t=some (.slice e)/\Lq C e=some τ.sz/\τ.flat=true/\
  ((∃b j,d=none/\i=some b/\HF b=some j/\ro=⟨[⟨0<=j/\j<=(l.length:Int),inferInstance⟩],.c' (.l' H.length),H++[.ro τ (l.take j.toNat)],[]⟩)\/
   ∃b j,d=some b/\i=none/\HF b=some j/\ro=⟨[⟨0<=j/\j<=(l.length:Int),inferInstance⟩],.c' (.l' H.length),H++[.ro τ (l.drop j.toNat)],[]⟩):=by
 unfold zH at h;split at h
 ·rename_i id;split at h
  ·rename_i τ l c;rw [fW]at c;split at h
   ·rename_i e a;have a:C.P.underlying t=some (.slice e):=by
     unfold II at a;split at a
     ·rename_i k;cases a;exact k
     ·cases a
    split at h
    ·rename_i sz f;have h:=dC h;have m:=gP h.1;subst m;have h:=dC h.2;refine⟨_,e,τ,l,rfl,c,a,f,h.1, ?_⟩;have h:=h.2;split at h
     ·rename_i b;split at h
      ·rename_i j g;cases h;exact .inl ⟨_,j,rfl,rfl,g,rfl⟩
      ·cases h
     ·rename_i b;split at h
      ·rename_i j g;cases h;exact .inr ⟨_,j,rfl,rfl,g,rfl⟩
      ·cases h
     ·cases h
    ·cases h
   ·cases h
  ·cases h
 ·cases h
theorem ZJ (E : Rel C w0 S0 ρ S F w) (W : C.nn = md.n) {t : TypeId} {x : Operand} {A B : Option Operand} {ro : Ro} (T : tD C t = false) (h : gQ C (S.ev C) S.H (.slice t x A B none) = some ro) (hg : Dc ro.g) :
    Step C md w0 S0 ρ S F w ⟨some d, .slice t x A B none, ty, pos, after, none⟩ (St.set ⟨S.F, ro.H, S.nb, S.al, ro.m ++ S.m⟩ d ro.v) := by
  have h : (bif tD C t then Fs S.H (eX (S.ev C x) fun a => uB (S.ev C) A fun i => uB (S.ev C) B fun j => CG a i j) else eX (S.ev C x) fun a => uB (S.ev C) A fun i => uB (S.ev C) B fun j => zH C S.H t a i j) = some ro := h;rw [T] at h;obtain ⟨c, h1, h2⟩ := jW (show eX (S.ev C x) (fun a => uB (S.ev C) A fun i => uB (S.ev C) B fun j => zH C S.H t a i j) = some ro from h);have hx := (mC E W h1).2;obtain ⟨L, hH, hM⟩ := E.mem;have key : ∀ (i j : Option SC), zH C S.H t c i j = some ro -> (A = none /\ i = none \/ ∃ o b, A = some o /\ i = some b /\ aW md F o = b.v ρ) -> (B = none /\ j = none \/ ∃ o b, B = some o /\ j = some b /\ aW md F o = b.v ρ) ->
      Step C md w0 S0 ρ S F w ⟨some d, .slice t x A B none, ty, pos, after, none⟩ (St.set ⟨S.F, ro.H, S.nb, S.al, ro.m ++ S.m⟩ d ro.v) := by
    intro i j a4 X Z;obtain ⟨id, e, τ, l, rfl, a5, hu, R, hf, hc⟩ := zG a4;obtain ⟨Y, r, hr, b6, U, G, D⟩ := hM.2 id _ a5;have Y : l.length = (ρ id).ln := Y;have hx : aW md F x = .slice (ρ id).a (ρ id).ln (ρ id).cap := hx;rcases hc with ⟨b, k, rfl, rfl, hk, rfl⟩ | ⟨b, k, rfl, rfl, hk, rfl⟩
    · rcases X with ⟨rfl, _⟩ | ⟨o, N, _, z, _⟩
      rotate_left
      · cases z
      rcases Z with ⟨_, z⟩ | ⟨o, N, rfl, z, ho⟩
      · cases z
      cases z;obtain ⟨kk, J⟩ := tF hk ρ;have hb := hg.1;have f : ∀ d2 : Nat, (execOp (aW md F) (⟨some d2, .slice t x none (some o) none, ty, pos, after, none⟩ : Oper)).run C.P w = .ok (.value (.slice (ρ id).a k.toNat (ρ id).cap)) w := fun d2 => AB (d := d2) (ρ id).a (ρ id).ln (ρ id).cap e τ.sz kk k hu (Mk R w) hx (ho.trans J) l Y.symm hb (by rw [<- Y]; exact D);have s : (l.take k.toNat).length = k.toNat := by rw [eI]; omega
      have hR : Ta w0 S0 ⟨none, (ρ id).a, (ρ id).cap, false, (l.take k.toNat).length⟩ τ (l.take k.toNat) := by
       refine ⟨?_, fun I => G (fun e0 => I ?_), ?_⟩
       · intro j v hv;have e1 : (l.flatMap τ.enc)[j]? = some v := by rw [<- LZ k.toNat l, LY, aI (aD.1 hv).1]; exact hv
         exact U j v e1
       · rw [<- LZ k.toNat l, LY] at e0;exact (List.append_eq_nil_iff.1 e0).1
       · show (l.take k.toNat).length <= (ρ id).cap;rw [s]; omega
      obtain ⟨h3, y⟩ := EY (d := d) (τ := τ) (l := l.take k.toNat) (a' := (ρ id).a) (cap' := (ρ id).cap) E hM hH hR;intro ops Q rest u;rw [s] at h3 y;refine fA rfl rfl (f d) (u _ _ w h3 y HE fun d2 hd _ => ⟨w, ?_⟩);cases hd;rw [L4]; exact f d
    · rcases Z with ⟨rfl, _⟩ | ⟨o, N, _, z, _⟩
      rotate_left
      · cases z
      rcases X with ⟨_, z⟩ | ⟨o, N, rfl, z, ho⟩
      · cases z
      cases z;obtain ⟨kk, J⟩ := tF hk ρ;have hb := hg.1;have f : ∀ d2 : Nat, (execOp (aW md F) (⟨some d2, .slice t x (some o) none none, ty, pos, after, none⟩ : Oper)).run C.P w = .ok (.value (.slice (Pj (ρ id).a (ρ id).cap k.toNat τ.sz) ((ρ id).ln - k.toNat) ((ρ id).cap - k.toNat))) w := fun d2 => Ts (d := d2) (ρ id).a (ρ id).ln (ρ id).cap e τ.sz kk k hu (Mk R w) hx (ho.trans J) l Y.symm hb;have s : (l.drop k.toNat).length = (ρ id).ln - k.toNat := by rw [jR]; omega
      have hR : Ta w0 S0 ⟨none, Pj (ρ id).a (ρ id).cap k.toNat τ.sz, (ρ id).cap - k.toNat, false, (l.drop k.toNat).length⟩ τ (l.drop k.toNat) := by
       refine ⟨Rd.Br (Ty.tA hf) _ _ D U, fun I p O => ?_, ?_⟩
       · have V : l.flatMap τ.enc ≠ [] := fun e0 => I (by rw [<- LZ k.toNat l, LY] at e0;exact (List.append_eq_nil_iff.1 e0).2);have O : Pj (ρ id).a (ρ id).cap k.toNat τ.sz = some p := O;unfold Pj at O;split at O
         · exact G V p O
         · obtain ⟨q, hq, rfl⟩ := bY.1 O;have := G V q hq;rw [jc]; exact this
       · show (l.drop k.toNat).length <= (ρ id).cap - k.toNat;rw [s]; omega
      obtain ⟨h3, y⟩ := EY (d := d) (τ := τ) (l := l.drop k.toNat) (a' := Pj (ρ id).a (ρ id).cap k.toNat τ.sz) (cap' := (ρ id).cap - k.toNat) E hM hH hR;intro ops Q rest u;rw [s] at h3 y;refine fA rfl rfl (f d) (u _ _ w h3 y HE fun d2 hd _ => ⟨w, ?_⟩);cases hd;rw [L4]; exact f d
  rcases ML h2 with ⟨y, h5⟩ | ⟨o, b, y, h5, h6⟩
  · rcases ML h5 with ⟨M, K⟩ | ⟨o2, N, M, K, h9⟩
    · exact key _ _ K (.inl ⟨y, rfl⟩) (.inl ⟨M, rfl⟩)
    · exact key _ _ h9 (.inl ⟨y, rfl⟩) (.inr ⟨o2, N, M, rfl, (mC E W K).2⟩)
  · rcases ML h6 with ⟨M, K⟩ | ⟨o2, N, M, K, h9⟩
    · exact key _ _ K (.inr ⟨o, b, y, rfl, (mC E W h5).2⟩) (.inl ⟨M, rfl⟩)
    · exact key _ _ h9 (.inr ⟨o, b, y, rfl, (mC E W h5).2⟩) (.inr ⟨o2, N, M, rfl, (mC E W K).2⟩)
theorem Al{H:List Ob}{t s:Nat}{x c:SC}{ro:Ro}(h:Pc C H t s x c=some ro):∃a e,c=.s' a/\tD C s=true/\C.E t=some (e,1,.c')/\yf C e=true/\
  ((x=.n'/\ro=⟨[⟨(([]:aA).length+a.length)*1<=140737488355328,inferInstance⟩],.c' (.l' H.length),H++[.rw e 1 .c' ([]++a)],[]⟩)\/
   ∃(id:Nat) (l:aA),x=.l' id/\H[id]? =some (.rw e 1 .c' l)/\ro=⟨[⟨(l.length+a.length)*1<=140737488355328,inferInstance⟩],.c' (.l' H.length),gU H id (.dd l.length)++[.rw e 1 .c' (l++a)],[(id,0,1)]⟩):=by
 unfold Pc at h;split at h
 ·rename_i a;unfold Mi at h;have h:=dC h;have h1:=h.1;have h:=h.2;split at h
  ·rename_i e b f;have h:=dC h;have j:=gP h.1;subst j;have h:=dC h.2;have g:=h.1;have h:=h.2;refine⟨a,e,rfl,h1,f,g, ?_⟩;split at h
   ·cases h;exact .inl ⟨rfl,rfl⟩
   ·rename_i id;split at h
    ·rename_i l d;cases h;refine .inr ⟨_,l,rfl, ?_,rfl⟩;unfold P2 at d;simp only at d;split at d
     ·rename_i q i;have h1:=dC d;have h2:=dC h1.2;have h3:=rW i h2.2;rw [fW,gP h1.1,gP h2.1]at h3;exact h3
     ·cases d
    ·cases h
   ·cases h
  ·cases h
 ·cases h
theorem MY{e:Nat}(h:yf C e=true):(C.P.info? e).bind (·.zero)=some (.int .u8 0):=by
 unfold yf at h;split at h
 ·rename_i i b;split at h
  ·rename_i a;rw [b];exact a
  ·cases h
 ·cases h
theorem Pf(X:im C)(z:Rel C w0 S0 ρ S F w)(Y:C.nn=md.n){t s:TypeId}{x y:Operand}{a c:SC}{ro:Ro}(hx:aW md F x=a.v ρ)(I:aW md F y=c.v ρ)(h:Pc C S.H t s a c=some ro)(N:Dc ro.g)(V:S.yH ro.m=true):
  Step C md w0 S0 ρ S F w ⟨some d,.call ⟨.builtin .append, #[x,y], #[t,s]⟩,ty,pos,after,none⟩ (St.set ⟨S.F,ro.H,S.nb,S.al,ro.m++S.m⟩ d ro.v):=by
 intro ops Q rest M;have np:∀d2:Nat,(some d:Option Nat)=some d2->kU (.call ⟨.builtin .append, #[x,y], #[t,s]⟩)=true->∀F2:Nat->Value,∃T,(execOp (aW md F) (⟨some d,.call ⟨.builtin .append, #[x,y], #[t,s]⟩,ty,pos,after,none⟩:Oper)).run C.P w=.ok (.value (F2 d2)) T:=fun d2 _ h=>by cases h
 obtain⟨L,R,A⟩:=z.mem;obtain⟨E,e,rfl,K,B,G,u⟩:=Al h;obtain⟨J,O,Z,W⟩:=X _ _ _ _ B;rcases u with⟨rfl,rfl⟩|⟨id,l,rfl,f,rfl⟩
 ·refine tP (Hp.dB R (Ty.c').enc e 1 none) 0 none none 0 e [] E rfl J (Ch K) O (MY G) hx I N.1 fun o' a' i w' h2=> ?_;obtain⟨h3,D⟩:=Fo (τ:=.c') (b:=1) (d:=d) z A h2;exact M _ _ w' h3 D HE fun d2 q k=>np d2 q k _
 ·obtain⟨h1,r,U,p⟩:=A.2 id _ f;have p:r=aX (Ty.c').enc e (Ty.c').sz (ρ id).o (ρ id).a (ρ id).cap l:=p;subst p;have h1:l.length=(ρ id).ln:=h1;have j:aW md F x=.slice (ρ id).a l.length (ρ id).cap:=by rw [hx,h1];rfl
  refine tP R id (ρ id).o (ρ id).a (ρ id).cap e l E U J (Ch K) O (MY G) j I N.1 fun o' a' i w' h2=> ?_;obtain⟨h3,D⟩:=Pv (τ:=.c') (b:=1) (d:=d) (m:=[(id,0,1)]) z A f h2 V (fun al u=>.inl (u 0 (tI.2 ⟨_,aE.2 rfl,rfl,eJ _,Di⟩)));exact M _ _ w' h3 D HE fun d2 q k=>np d2 q k _
theorem IF(K:im C)(r:Rel C w0 S0 ρ S F w)(N:C.nn=md.n){t:TypeId}{x y:Operand}{a c:SC}{ro:Ro}(q:aW md F y=c.v ρ)(h:uA C S.H t (qi x) a c=some ro)(D:Dc ro.g):
  Step C md w0 S0 ρ S F w ⟨some d,.makeSlice t x y,ty,pos,after,none⟩ (St.set ⟨S.F,ro.H,S.nb,S.al,ro.m++S.m⟩ d ro.v):=by
 intro ops Q rest A;obtain⟨L,J,I⟩:=r.mem;unfold uA at h;split at h
 ·rename_i e b τ p;obtain⟨u,G,O,l⟩:=K _ _ _ _ p;have h:=dC h;have k:=h.1;have h:=h.2;split at h
  ·rename_i i B;cases h
   obtain⟨s,E⟩:=tF B ρ;rw [E]at q;obtain⟨j,hx⟩:∃j,aW md F x=.int j 0:=by
    unfold qi at k;split at k
    ·exact⟨_,rfl⟩
    ·cases k
   refine YN (f:=τ.enc) J e τ.sz b j s i u G l hx q D.1 fun o a cap w' h2=> ?_;obtain⟨h3,M⟩:=Fo (b:=b) (d:=d) r I h2;exact A _ _ w' h3 M HE fun d2 P z=>by cases z
  ·cases h
 ·cases h
theorem Pe(g:Rel C w0 S0 ρ S F w){s t e:TypeId}{x:Operand}{l:aA}(hx:aW md F x=str l)(j:C.P.underlying s=some .string)(h:II C t=some e)(f:BJ C e=true):
  Step C md w0 S0 ρ S F w ⟨some d,.convert s t x,ty,pos,after,none⟩ (St.set ⟨S.F,S.H++[.br l.length l],S.nb,S.al,[]++S.m⟩ d (.c' (.l' S.H.length))):=by
 intro ops Q rest k;obtain⟨L,r,q⟩:=g.mem;refine Ei r l e j (B3 h) (oU8 f) hx fun a cap w' b h2=> ?_;have h3:Rel C w0 S0 (Ap ρ S.H.length ⟨none,a,cap,false,l.length⟩) ⟨S.F,S.H++[.br l.length l],S.nb,S.al,[]++S.m⟩ F w':=vX (o:=.br l.length l) g q h2 (by show _=_;rw [mE]) rfl (fun _ _ f=>by cases f) rfl rfl;have c:Nx S ρ ⟨S.F,S.H++[.br l.length l],S.nb,S.al,[]++S.m⟩ (Ap ρ S.H.length ⟨none,a,cap,false,l.length⟩):=Gi (o:=.br l.length l) (m:=[]) g rfl rfl rfl rfl;refine k _ _ w' (K7 (d:=d) (u:=.slice a l.length cap) h3 aC7 (fun i n=> ?_)) ⟨⟨c.nb,c.al,c.le⟩,c.lg,c.mm⟩ HE fun d2 p _=>⟨w', ?_⟩
 ·have:i=S.H.length:=aE.1 n;subst this;show S.H.length<(S.H++[_]).length;simp
 ·cases p;rw [L4];exact b
end
open Go.Wk
open Go.Ce (Tr)
open Nat renaming beq → cP
section
variable {C : Cx} {md : Md} {w0 w : World} {S0 : List Nat} {ρ : Nat -> Ad} {S : St} {F : Nat -> Value}
variable {ty : TypeId} {pos : String} {after : Array Edge}
theorem Yc{a:Option Nat}{v:SV}(h:Ii a v=true)(b:v≠.u'):∃d,a=some d:=by
 cases a with
 |some d=>exact⟨d,rfl⟩
 |none=>cases v<;>first|exact absurd rfl b|cases h
theorem Oi{a:Option Nat}{op:Op}{ro:Ro}(f:Rel C w0 S0 ρ S F w)(h:tJ C md ρ S F w op ro.v/\ro.H=S.H/\ro.m=[])(c:Ii a ro.v=true):Step C md w0 S0 ρ S F w ⟨a,op,ty,pos,after,none⟩ (St.sM ⟨S.F,ro.H,S.nb,S.al,ro.m++S.m⟩ a ro.v):=by obtain⟨b,i,g⟩:=h;obtain⟨d,rfl⟩:=Yc c (fun e=>by obtain⟨_,u,h2,_⟩:=b;rw [e]at h2;cases h2);rw [i,g];exact PG f b
theorem U2{a:Option Nat}{op:Op}{v:SV}{S2:Nat->St}(f:Ii a v=true)(c:v≠.u')(h:∀d,Step C md w0 S0 ρ S F w ⟨some d,op,ty,pos,after,none⟩ (S2 d)){b:St}(e:∀d,a=some d->S2 d=b):Step C md w0 S0 ρ S F w ⟨a,op,ty,pos,after,none⟩ b:=by obtain⟨d,rfl⟩:=Yc f c;rw [<-e d rfl];exact h d
theorem Jb{α:Type}{a:Array α}{l:List α}(h:a.toList=l):a=l.toArray:=by rw [<-h]
theorem CM(D:im C)(j:C.nn=md.n)(i:Rel C w0 S0 ρ S F w){p:Option Nat}{b:Builtin}{fE:Array Operand}{z:Array TypeId}{ro:Ro}(h:CY C (S.ev C) S.H b fE.toList z.toList=some ro)(B:Dc ro.g)(A:S.yH ro.m=true)(r:Ii p ro.v=true):
  Step C md w0 S0 ρ S F w ⟨p,.call ⟨.builtin b,fE,z⟩,ty,pos,after,none⟩ (St.sM ⟨S.F,ro.H,S.nb,S.al,ro.m++S.m⟩ p ro.v):=by
 unfold CY at h;split at h
 ·rename_i x t q s;obtain rfl:=Jb q;obtain rfl:=Jb s;obtain⟨g,v,h1,rfl⟩:=Zv h;obtain⟨c,h2,h3⟩:=jW h1;obtain⟨o,f⟩:=mC i j h2;exact Oi i ⟨bh i f o h3,rfl,rfl⟩ r
 ·rename_i x y t t2 q s;obtain rfl:=Jb q;obtain rfl:=Jb s;cases k:cP t t2 with
  |true=>
   rw [k]at h;have E:=gP k;subst E;obtain⟨a,h2,h3⟩:=jW h;obtain⟨c,o,f⟩:=jW h3;have u:ro.v≠.u':=by
    intro e;unfold pS at f;split at f
    ·split at f
     ·split at f
      ·cases f;cases e
      ·cases f
     ·split at f
      ·cases f;cases e
      ·cases f
     ·split at f
      ·cases f;cases e
      ·cases f
     ·cases f
    ·cases f
   exact U2 r u (fun d=>step_append (d:=d) D i j (mC i j h2).2 (mC i j o).2 f B A) (fun d e=>by rw [e];rfl)
  |false=>
   rw [k]at h;obtain⟨a,h2,h3⟩:=jW h;obtain⟨c,o,f⟩:=jW h3;have u:ro.v≠.u':=by intro e;obtain⟨I,s,_,_,_,_,G⟩:=Al f;rcases G with⟨_,rfl⟩|⟨id,l,_,_,rfl⟩<;>cases e
   exact U2 r u (fun d=>Pf (d:=d) D i j (mC i j h2).2 (mC i j o).2 f B A) (fun d e=>by rw [e];rfl)
 ·rename_i x y _ q _;obtain rfl:=Jb q;obtain⟨g,v,h1,rfl⟩:=Zv h;obtain⟨a,h2,h3⟩:=jW h1;obtain⟨c,o,f⟩:=jW h3;exact Oi i ⟨qb (mC i j h2).2 (mC i j o).2 f,rfl,rfl⟩ r
 ·cases h
theorem ZK(Y:im C)(r:C.nn=md.n)(p:Rel C w0 S0 ρ S F w){G:Option Nat}{op:Op}{ro:Ro}(h:gQ C (S.ev C) S.H op=some ro)(B:Dc ro.g)(X:S.yH ro.m=true)(q:Ii G ro.v=true):
  Step C md w0 S0 ρ S F w ⟨G,op,ty,pos,after,none⟩ (St.sM ⟨S.F,ro.H,S.nb,S.al,ro.m++S.m⟩ G ro.v):=by
 cases op<;>first|cases h|skip
 case move x=>exact Oi p (WL r p (op:=.move x) rfl h B w) q
 case assign x=>exact Oi p (WL r p (op:=.assign x) rfl h B w) q
 case binOp b t x y t'=>exact Oi p (WL r p (op:=.binOp b t x y t') rfl h B w) q
 case unOp u t x=>exact Oi p (WL r p (op:=.unOp u t x) rfl h B w) q
 case index t x ix=>exact Oi p (WL r p (op:=.index t x ix) rfl h B w) q
 case slice t x I J M=>
  cases E:tD C t with
  |true=>exact Oi p (WL r p (op:=.slice t x I J M) rfl (show(bif tD C t then gQ C (S.ev C) S.H (.slice t x I J M)else none)=some ro by rw [E];exact h) B w) q
  |false=>
   cases M with
   |some m=>cases h
   |none=>
    refine U2 q (fun e=> ?_) (fun d=>ZJ (d:=d) p r E h B) (fun d e=>by rw [e];rfl);have h:(bif tD C t then Fs S.H (eX (S.ev C x) fun a=>uB (S.ev C) I fun i=>uB (S.ev C) J fun j=>CG a i j)else eX (S.ev C x) fun a=>uB (S.ev C) I fun i=>uB (S.ev C) J fun j=>zH C S.H t a i j)=some ro:=h;rw [E]at h;obtain⟨c,h1,h2⟩:=jW (show eX (S.ev C x) (fun a=>uB (S.ev C) I fun i=>uB (S.ev C) J fun j=>zH C S.H t a i j)=some ro from h);have key:∀i j,zH C S.H t c i j=some ro->False:=fun i j O=>by obtain⟨id,e2,τ,l,_,_,_,_,_,Q⟩:=zG O;rcases Q with⟨b,k,_,_,_,rfl⟩|⟨b,k,_,_,_,rfl⟩<;>cases e
    rcases ML h2 with⟨A,D⟩|⟨o,b,A,D,U⟩
    ·rcases ML D with⟨T,K⟩|⟨Z,b2,T,K,R⟩
     ·exact key _ _ K
     ·exact key _ _ R
    ·rcases ML U with⟨T,K⟩|⟨Z,b2,T,K,R⟩
     ·exact key _ _ K
     ·exact key _ _ R
 case extract x i=>exact Oi p (WL r p (op:=.extract x i) rfl h B w) q
 case field t x f=>exact Oi p (WL r p (op:=.field t x f) rfl h B w) q
 case build t L=>exact Oi p (WL r p (op:=.build t L) rfl h B w) q
 case fieldAddr t x f=>exact Oi p (WL r p (op:=.fieldAddr t x f) rfl h B w) q
 case pick c a b=>
  obtain⟨x,h1,h2⟩:=jW (show eX (S.ev C c) (fun x=>match x with
   |.b' t=>kR S.H (match(bif t then S.ev C a else S.ev C b)with
    |.u'=>none
    |v=>some v)
   |_=>none)=some ro from h)
  split at h2
  ·rename_i t;obtain⟨v,h3,rfl⟩:=WS h2;obtain⟨A,u,D⟩:=Qx (ρ:=ρ) h3;exact Oi p ⟨A8 p r h1 A (fun e=>by have e:v=.u':=e;subst e;cases D),rfl,rfl⟩ q
  ·cases h2
 case convert s t x=>
  obtain⟨c,Q,h⟩:=jW (show eX (S.ev C x) (Rt C S.H s t)=some ro from h);have hx:=(mC p r Q).2;unfold Rt at h;split at h
  ·rename_i e P;have h3:=dC h;have A:=dC h3.2;have D:=A.2;split at D
   ·rename_i l hl;cases D;exact Oi p ⟨OV p hx P h3.1 A.1 hl,rfl,rfl⟩ q
   ·cases D
  ·split at h
   ·rename_i l;split at h
    ·rename_i e P;have h3:=dC h;have A:=dC h3.2;cases A.2;exact U2 q aA2 (fun d=>Pe (d:=d) p hx (Ch h3.1) P A.1) (fun d e=>by rw [e];rfl)
    ·obtain⟨g,v,h3,rfl⟩:=Zv h;exact Oi p ⟨Ru hx h3 B,rfl,rfl⟩ q
   ·obtain⟨g,v,h3,rfl⟩:=Zv h;exact Oi p ⟨Ru hx h3 B,rfl,rfl⟩ q
 case alloc e=>
  have V:=h;have h:(match zC C e with
   |some z=>some (Ro.mk [] (.c' (.p' S.H.length 0)) (S.H++[.bl e z]) [])
   |none=>none)=some ro:=h
  split at h
  ·cases h;exact U2 q aA2 (fun d=>AK (d:=d) p V) (fun d e=>by rw [e];rfl)
  ·cases h
 case box e x=>
  have V:=h;have h:(match(S.ev C x).cells with
   |some cs=>some (Ro.mk [] (.c' (.p' S.H.length 0)) (S.H++[.bl e cs]) [])
   |none=>none)=some ro:=h
  split at h
  ·cases h;exact U2 q aA2 (fun d=>PH (d:=d) p r V) (fun d e=>by rw [e];rfl)
  ·cases h
 case buildSlice t n L=>
  have N:ro.v≠.u':=by
   intro e;have h:fz C (S.ev C) S.H t n L.toList=some ro:=h;unfold fz at h;split at h
   ·split at h
    ·have h1:=dC h;have h2:=dC h1.2;have h3:=h2.2;split at h3
     ·cases h3;cases e
     ·cases h3
    ·cases h
   ·cases h
  exact U2 q N (fun d=>Cd (d:=d) p r h) (fun d e=>by rw [e];rfl)
 case load t x=>
  obtain⟨c,h1,h2⟩:=jW (show eX (S.ev C x) (fun a=>jE C S.H t a)=some ro from h);exact Oi p (FM p (mC p r h1).2 h2 B) q
 case store t x y=>
  obtain⟨h1,h2⟩:=AJ (ty:=ty) (pos:=pos) (after:=after) p r h B X;rw [h2]at q⊢;cases G with
  |none=>exact h1
  |some d=>cases q
 case indexAddr t x ix=>
  obtain⟨a,h1,h2⟩:=jW (show eX (S.ev C x) (fun a=>eX (S.ev C ix) fun i=>U5 C S.H t a i)=some ro from h);obtain⟨c,h3,A⟩:=jW h2;obtain⟨D,U⟩:=mC p r h1;exact Oi p (Rc p U D (mC p r h3).2 A B) q
 case makeSlice t x y=>
  obtain⟨a,h1,h2⟩:=jW (show eX (S.ev C x) (fun a=>eX (S.ev C y) fun i=>uA C S.H t (qi x) a i)=some ro from h);obtain⟨c,h3,A⟩:=jW h2;have N:ro.v≠.u':=by
   intro e;unfold uA at A;split at A
   ·have D:=(dC A).2;split at D
    ·cases D;cases e
    ·cases D
   ·cases A
  exact U2 q N (fun d=>IF (d:=d) Y p r (mC p r h3).2 A B) (fun d e=>by rw [e];rfl)
 case makeFunc f a b=>
  obtain⟨v,h1,rfl⟩:=WS h;exact Oi p ⟨H6 p r h1,rfl,rfl⟩ q
 case nilCheck x=>
  obtain⟨c,h1,h2⟩:=jW (show eX (S.ev C x) (fun a=>kR S.H (Vw a))=some ro from h);obtain⟨v,h3,rfl⟩:=WS h2;obtain⟨A,D⟩:=mC p r h1;exact Oi p ⟨aw D A h3,rfl,rfl⟩ q
 case call c=>
  obtain⟨W,fE,ts⟩:=c;cases W<;>first|cases h|skip
  exact CM Y r p h B X q
end
open Go.Wk
open Go.Ce (Tr)
open Nat renaming one_pos → Di
def V4(ρ bD:Nat->Ad):Ob->Ob->Prop
 |.bl e cs,b=>∃a,b=.bl e a/\cs.map (SC.v ρ)=a.map (SC.v bD)/\∀(j:Nat) (c d:SC),cs[j]? =some c->a[j]? =some d->c.kn=d.kn
 |o,b=>b=o
structure LR (ρ bD:Nat->Ad) (a b:List SC×List Ob):Prop where
 c:a.1.map (SC.v ρ)=b.1.map (SC.v bD)
 p:(iT a.1).map (fun id=>(ρ id).b)=(iT b.1).map (fun id=>(bD id).b)
 o:∀(j:Nat) (o:Ob),a.2[j]? =some o->∃o2,b.2[j]? =some o2/\V4 ρ bD o o2
theorem SO{t:Ty}{s n b d:Nat}{x:t.T}{j:Nat}{c a:SC}(h:(t.lay s n x).1[j]? =some c)(h2:(t.lay b d x).1[j]? =some a):c.kn=a.kn:=by rw [(Ty.zM t s n x c (aG h)).1,(Ty.zM t b d x a (aG h2)).1]
theorem FQ:∀(t:Ty) (s n g f:Nat) (x:t.T) (ρ bD:Nat->Ad),(t.tz=true->(ρ s).b=(bD g).b)->(∀j,j<t.no->ρ (n+j)=bD (f+j))->LR ρ bD (t.lay s n x) (t.lay g f x):=by
 intro t;induction t with
 |w' t r=>intro s n g f x ρ bD q i;exact r s n g f x ρ bD q i
 |pr a b w u=>
  intro s n g f x ρ bD q i;have h1:=w s n g f x.1 ρ bD (fun h=>q (by simp [Ty.tz,h])) (fun j y=>i j (by show j<a.no+b.no;omega));have h2:=u s (n+a.no) g (f+a.no) x.2 ρ bD (fun h=>q (by simp [Ty.tz,h])) (fun j y=>by have:=i (a.no+j) (by show a.no+j<a.no+b.no;omega);rw [Ax,Ax];exact this);refine⟨?_, ?_,fun j o d=> ?_⟩
  ·show((a.lay s n x.1).1++(b.lay s (n+a.no) x.2).1).map _=((a.lay g f x.1).1++(b.lay g (f+a.no) x.2).1).map _;rw [Om,Om,h1.c,h2.c]
  ·show(iT ((a.lay s n x.1).1++(b.lay s (n+a.no) x.2).1)).map _=(iT ((a.lay g f x.1).1++(b.lay g (f+a.no) x.2).1)).map _;rw [wC,wC,Om,Om,h1.p,h2.p]
  ·have d:((a.lay s n x.1).2++(b.lay s (n+a.no) x.2).2)[j]? =some o:=d;show∃z,((a.lay g f x.1).2++(b.lay g (f+a.no) x.2).2)[j]? =some z/\_;have B:=a.dZ s n x.1;have A:=a.dZ g f x.1;by_cases y:j<a.no
   ·rw [aI aA0]at d⊢;exact h1.o j o d
   ·rw [aK aA0]at d⊢;rw [B]at d;rw [A];exact h2.o _ o d
 |l' e b t r=>
  intro s n g f x ρ bD q i;have m:=i 0 Di;rw [Dg,Dg]at m;refine⟨by simp [Ty.lay,SC.v,m],rfl,fun j o d=>⟨o,d, ?_⟩⟩;cases j with
  |zero=>have:Ob.rw e b t x=o:=aP d;subst this;rfl
  |succ j=>simp [Ty.lay]at d
 |y'=>
  intro s n g f x ρ bD q i;have m:=i 0 Di;rw [Dg,Dg]at m;refine⟨by simp [Ty.lay,SC.v,m],rfl,fun j o d=>⟨o,d, ?_⟩⟩;cases j with
  |zero=>have:Ob.br x.length x=o:=aP d;subst this;rfl
  |succ j=>simp [Ty.lay]at d
 |r' t r=>
  intro s n g f x ρ bD q i;have m:=i 0 Di;rw [Dg,Dg]at m;refine⟨by simp [Ty.lay,SC.v,m],rfl,fun j o d=>⟨o,d, ?_⟩⟩;cases j with
  |zero=>have:Ob.ro t x=o:=aP d;subst this;rfl
  |succ j=>simp [Ty.lay]at d
 |p' e t r=>
  intro s n g f x ρ bD q i;have m:=i 0 (Nat.succ_pos _);rw [Dg,Dg]at m;have h1:=r n (n+1) f (f+1) x ρ bD (fun _=>by rw [m]) (fun j y=>by have:=i (j+1) (by show j+1<t.no+1;omega);rw [Jq,Jq f];exact this);refine⟨by simp [Ty.lay,SC.v,m],by simp [Ty.lay,iT,m],fun j o d=> ?_⟩;cases j with
  |zero=>have:Ob.bl e (t.lay n (n+1) x).1=o:=aP d;subst this;exact⟨_,rfl,_,rfl,h1.c,fun j c C h h2=>SO h h2⟩
  |succ j=>exact h1.o j o d
 |z'=>
  intro s n g f x ρ bD q i;have m:=i 0 Di;rw [Dg,Dg]at m;refine⟨by simp [Ty.lay,SC.v,m,q rfl],rfl,fun j o d=>⟨o,d, ?_⟩⟩;cases j with
  |zero=>have:Ob.dd 0=o:=aP d;subst this;rfl
  |succ j=>simp [Ty.lay]at d
 |f' k t r=>
  intro s n g f x ρ bD q i;have h1:=r s n g f x ρ bD q i;refine⟨?_,rfl,h1.o⟩;have:=h1.p;have h2:∀(ρ:Nat->Ad) (l:List Nat),(l.map fun id=>gM (ρ id).b 0)=(l.map fun id=>(ρ id).b).map (fun b=>gM b 0):=fun ρ l=>by rw [jZ];rfl
  show [Value.func (.func k) #[] ((iT (t.lay s n x).1).map fun id=>gM (ρ id).b 0).toArray]=[Value.func (.func k) #[] ((iT (t.lay g f x).1).map fun id=>gM (bD id).b 0).toArray];rw [h2,h2,this]
 |sm a b _ _=>intro s n g f x ρ bD q i;exact⟨rfl,rfl,fun j o d=>by simp [Ty.lay]at d⟩
 |_=>intro s n g f x ρ bD q i;exact⟨rfl,rfl,fun j o d=>by simp [Ty.lay]at d⟩
theorem SN:∀(t:Ty) (s n:Nat) (x:t.T),t.nb=true->∀(j:Nat) (e:Ty) (l:List e.T),(t.lay s n x).2[j]? ≠some (.ro e l):=by
 intro t;induction t with
 |w' t d=>intro s n x h;exact d s n x h
 |pr a b i g=>
  intro s n x h j e l c;have h:=gJ h;have c:((a.lay s n x.1).2++(b.lay s (n+a.no) x.2).2)[j]? =some (.ro e l):=c;by_cases m:j<(a.lay s n x.1).2.length
  ·rw [aI m]at c;exact i _ _ _ h.1 _ _ _ c
  ·rw [aK aA0]at c;exact g _ _ _ h.2 _ _ _ c
 |p' e t d=>
  intro s n x h j f l c;cases j with
  |zero=>cases aP c
  |succ j=>exact d _ _ _ h j f l c
 |f' k t d=>intro s n x h;exact d s n x h
 |r' t d=>intro s n x h;cases h
 |l' e b t d=>
  intro s n x h j f l c;cases j with
  |zero=>cases aP c
  |succ j=>simp [Ty.lay]at c
 |y'=>
  intro s n x h j f l c;cases j with
  |zero=>cases aP c
  |succ j=>simp [Ty.lay]at c
 |z'=>
  intro s n x h j f l c;cases j with
  |zero=>cases aP c
  |succ j=>simp [Ty.lay]at c
 |_=>intro s n x h j e l c;simp [Ty.lay]at c
theorem QL{H:List Ob}(w:DF H):∀(l:List Ty) (vs:List SV) (a:(fP l).T) (ss:List Src) (H0:List Ob),FA H l vs=some (a,ss)->
  ∃obs,(hV H0 l a).2=H0++obs/\obs.length=ss.length/\(∀v∈(hV H0 l a).1,v.ok (H0.length+obs.length))/\(∀(j e:Nat) (cs:List SC),obs[j]? =some (.bl e cs)->∀c∈cs,c.ok (H0.length+obs.length))/\
   ∀(ρ bD:Nat->Ad),(∀(j:Nat) (s:Src),ss[j]? =some s->bD (H0.length+j)=s.ad ρ)->
    (∃p:List Value,vs.map (SV.v ρ)=p.map some/\(hV H0 l a).1.map (SV.v bD)=p.map some)/\∀(j:Nat) (s:Src) (o:Ob),ss[j]? =some s->obs[j]? =some o->LM true ρ H bD s o
 |[],vs,a,ss,H0,h=>by
  cases vs with
  |cons v vs=>cases h
  |nil=>cases h;exact⟨[],by simp [hV],rfl,fun v g=>by simp [hV]at g,fun j e cs d=>by simp at d,fun ρ bD _=>⟨⟨[],rfl,rfl⟩,fun j s o d=>by simp at d⟩⟩
 |[x],vs,a,ss,H0,h=>by
  simp only [FA]at h;split at h
  ·rename_i v;have g:=Pw w h;refine⟨(x.lay 0 H0.length a).2,rfl,by rw [g.no,Ty.dZ],fun v n=> ?_,fun j e cs d=>K5 x 0 H0.length a j e cs d,fun ρ bD i=> ?_⟩
   ·rw [aE.1 (show v∈[x.sv (x.lay 0 H0.length a).1]from n)];exact Ty.Be (jd x 0 H0.length a g.tz)
   ·obtain⟨⟨u,h1,h2,_⟩,h3⟩:=g.to ρ bD H0.length i;exact⟨⟨[u],by simp [h1],by simp [hV,h2]⟩,h3⟩
  ·cases h
 |x::y::l,vs,a,ss,H0,h=>by
  simp only [FA]at h;split at h
  ·rename_i v vs;split at h
   ·rename_i f B hx;split at h
    ·rename_i b D E;cases h;have g:=Pw w hx;have t:(x.lay 0 H0.length f).2.length=B.length:=by rw [g.no,Ty.dZ]
     obtain⟨obs,h1,h2,h3,L,K⟩:=QL w (y::l) vs b D (H0++(x.lay 0 H0.length f).2) E;have m:(H0++(x.lay 0 H0.length f).2).length=H0.length+(x.lay 0 H0.length f).2.length:=cB;refine⟨(x.lay 0 H0.length f).2++obs,by rw [<-iI];exact h1,by simp [t,h2],fun v n=> ?_,fun j e cs d c C=> ?_,fun ρ bD i=> ?_⟩
     ·rw [cB,<-Ax,<-m];rcases aN.1 (show v∈x.sv (x.lay 0 H0.length f).1::(hV (H0++(x.lay 0 H0.length f).2) (y::l) b).1 from n)with rfl|n
      ·exact SV.cK (Ty.Be (jd x 0 H0.length f g.tz)) aA0
      ·exact h3 v n
     ·rw [cB,<-Ax,<-m];by_cases k:j<(x.lay 0 H0.length f).2.length
      ·rw [aI k]at d;exact SC.cK (K5 x 0 H0.length f j e cs d c C) aA0
      ·rw [aK aA0]at d;exact L _ e cs d c C
     ·obtain⟨⟨u,J,I,_⟩,G⟩:=g.to ρ bD H0.length (fun j s d=>i j s (by rw [aI (aD.1 d).1];exact d));obtain⟨⟨p,F,A⟩,z⟩:=K ρ bD (fun j s d=>by rw [m,t,Ax];exact i _ s (by rw [aK aA0,<-d];congr 1;omega));refine⟨⟨u::p,by simp [J,F], ?_⟩,fun j s o q r=> ?_⟩
      ·show(x.sv (x.lay 0 H0.length f).1::(hV (H0++(x.lay 0 H0.length f).2) (y::l) b).1).map _=_;rw [tM,I,A];rfl
      ·by_cases k:j<B.length
       ·rw [aI k]at q;rw [aI aA0]at r;exact G j s o q r
       ·rw [aK aA0]at q;rw [aK aA0,t]at r;exact z _ s o q r
    ·cases h
   ·cases h
  ·cases h
def sT(c:Bz)(x:(fP c.a).T):List Ob:=(hV [] c.a x).2
def Co(outs:List Nat):List Ob->Nat->List Nat
 |[],_=>[]
 |o::a,j=>(bif tC (some o)then(bif jU j outs then []else [j])else [])++Co outs a (j+1)
structure Ec where
 gs:List (Nat×Ob)
 p:World->List Nat->Prop
 st:∀{w0 w:World} {S0 S1:List Nat} {L:List bX},Hp w0 S0 L w->p w0 S0->(∀b∈S1,w0.heap.size<=b\/b∈S0)->p w S1
 rd:∀{w:World} {S:List Nat} {g:Nat} {t:Ty} {l:List t.T},p w S->(g,.ro t l)∈gs->Rd w (some ⟨g,0,none⟩) (l.flatMap t.enc)/\g∉S
def Gw(G:Ec)(w:World)(S:List Nat):Prop:=G.p w S
def Gv.ok{α:Type}:Gv α->α->Prop
 |.one o,y=>o=some y
 |.gs l z,y=>Dc l/\z=y
theorem Ia{ρ:Type}{x:Option ρ}{r:ρ}:∀{l:List PD},qs l x=some r->Dc l/\x=some r
 |[],h=>⟨trivial,h⟩
 |⟨p,b⟩::l,h=>by obtain⟨h1,h2⟩:=UD h;obtain⟨h3,a⟩:=Ia h2;exact⟨⟨h1,h3⟩,a⟩
theorem Gv.K3{α ρ:Type}{g:Gv α}{k:α->Option ρ}{r:ρ}(h:g.bd k=some r):∃y,g.ok y/\k y=some r:=by
 cases g with
 |one o=>obtain⟨y,h1,h2⟩:=xS (show o.bind k=some r from h);exact⟨y,h1,h2⟩
 |gs l z=>obtain⟨h1,h2⟩:=Ia (show qs l (k z)=some r from h);exact⟨z,⟨h1,rfl⟩,h2⟩
def vU(c:Bz)(x:(fP c.a).T)(y:(fM c.r).T):List SA×List Ob:=eT (fun j=>j) ([],kill (sT c x) (Co (Rk.ids c.r) (sT c x) 0)) c.r y
def Zw(P:Program)(GS:Ec)(k:Nat)(c:Bz):Prop:=∀(w:World) (S:List Nat) (ρ:Nat->Ad) (L:List bX) (b:List Value) (x:(fP c.a).T) (y:(fM c.r).T),Gw GS w S->Hp w S L w->Mt w S ρ (sT c x) L->
 (hV [] c.a x).1.map (SV.v ρ)=b.map some->(c.f x).ok y->CR P k b w fun v w2=>∃bD d,Up (sT c x).length ρ bD/\Hp w S d w2/\Mt w S bD (vU c x y).2 d/\(lD (vU c x y).1).v bD=some v
theorem xM{outs:List Nat}:∀{obs:List Ob} {i j:Nat},j∈Co outs obs i↔∃o,i<=j/\obs[j-i]? =some o/\tC (some o)=true/\j∉outs
 |[],i,j=>by simp [Co]
 |o::obs,i,j=>by
  have g:=xM (outs:=outs) (obs:=obs) (i:=i+1) (j:=j);simp only [Co,aU,g];constructor
  ·rintro(h|⟨b,h1,h2,h3⟩)
   ·cases c:tC (some o)with
    |false=>rw [c]at h;cases h
    |true=>
     rw [c]at h;simp only [aL]at h;cases a:jU i outs with
     |true=>rw [a]at h;cases h
     |false=>rw [a]at h;simp only [aH,aE]at h;subst h;exact⟨o,eJ _,aA2,c,fun k=>by rw [Oh.2 k]at a;cases a⟩
   ·refine⟨b,aA0, ?_,h3⟩;rw [show j-i=(j-(i+1))+1 by omega,bT];exact h2
  ·rintro⟨b,h1,h2,h3,f⟩;by_cases d:i=j
   ·subst d;left;rw [Dd]at h2;have e:o=b:=aC8
    subst e;have a:jU i outs=false:=by
     cases a:jU i outs with
     |false=>rfl
     |true=>exact absurd (Oh.1 a) f
    rw [h3,a];simp
   ·right;refine⟨b,aA0, ?_,h3,f⟩;rw [show j-i=(j-(i+1))+1 by omega,bT]at h2;exact h2
theorem Ab{outs:List Nat}:∀{obs:List Ob} {ss:List Src} {i id:Nat},id∈Sh outs obs i ss↔∃j o s,i<=j/\obs[j-i]? =some o/\ss[j-i]? =some s/\tC (some o)=true/\j∉outs/\id∈s.own
 |[],ss,i,id=>by simp [Sh]
 |o::obs,[],i,id=>by simp [Sh]
 |o::obs,s::ss,i,id=>by
  have m:=Ab (outs:=outs) (obs:=obs) (ss:=ss) (i:=i+1) (id:=id);simp only [Sh,aU,m];constructor
  ·rintro(h|⟨j,c,b,h1,h2,h3,d⟩)
   ·cases f:tC (some o)with
    |false=>rw [f]at h;cases h
    |true=>
     rw [f]at h;simp only [aL]at h;cases a:jU i outs with
     |true=>rw [a]at h;cases h
     |false=>rw [a]at h;exact⟨i,o,s,eJ _,aA2,aA2,f,(fun n=>by rw [Oh.2 n]at a;cases a),h⟩
   ·refine⟨j,c,b,aA0, ?_, ?_,d⟩
    ·rw [show j-i=(j-(i+1))+1 by omega,bT];exact h2
    ·rw [show j-i=(j-(i+1))+1 by omega,bT];exact h3
  ·rintro⟨j,c,b,h1,h2,h3,d,l,k⟩;by_cases g:i=j
   ·subst g;left;rw [Dd]at h2 h3;have e:o=c:=aC8;have p:s=b:=aE6
    subst e;subst p;have a:jU i outs=false:=by
     cases a:jU i outs with
     |false=>rfl
     |true=>exact absurd (Oh.1 a) l
    rw [d,a];exact k
   ·right;refine⟨j,c,b,aA0, ?_, ?_,d,l,k⟩
    ·rw [show j-i=(j-(i+1))+1 by omega,bT]at h2;exact h2
    ·rw [show j-i=(j-(i+1))+1 by omega,bT]at h3;exact h3
open Nat renaming beq → cP, one_pos → Di
structure PR (n nc:Nat) (H:List Ob) (ρ bD ρ3:Nat->Ad) (ss:List Src) (rg:List Rg) (Hc Hk:List Ob) (lc lk:List SA) (k:Nat):Prop where
 ec:Hc.length=nc+k
 ek:Hk.length=n+k
 nw:∀(i:Nat) (o:Ob),i<k->Hc[nc+i]? =some o->(∃o3,Hk[n+i]? =some o3/\V4 bD ρ3 o o3)/\∀(t:Ty) (l:List t.T),o≠.ro t l
 ow:∀(j id:Nat) (o:Ob),ss[j]? =some (.o' id true)->Hc[j]? =some o->(∃o3,Hk[id]? =some o3/\V4 bD ρ3 o o3)/\∀(t:Ty) (l:List t.T),o≠.ro t l
 ok:∀(j id m:Nat),ss[j]? =some (.k' id m true)->Hk[id]? =some (.dd 0)
 ot:∀id,id<n->id∉fQ ss->Hk[id]? =H[id]?
 ho:∀(id e:Nat) (cs:List SC),Hk[id]? =some (.bl e cs)->∀c∈cs,c.ok (n+k)
 kp:∀(id:Nat) (o:Ob),H[id]? =some o->Ai rg id ρ ρ3 Hk[id]? o
 vl:lc.map (SA.v bD)=lk.map (SA.v ρ3)
 vo:∀v∈lk,v.ok (n+k)
theorem V4.len{ρ bD:Nat->Ad}{o a:Ob}(h:V4 ρ bD o a):a.len=o.len:=by
 cases o with
 |bl e cs=>obtain⟨b,rfl,_⟩:=h;rfl
 |_=>have h:_=_:=h;rw [h]
theorem Z6{ρ bD:Nat->Ad}{x:Ty}{a b:List SC}(h:a.map (SC.v ρ)=b.map (SC.v bD)):(x.sa a).v ρ=(x.sa b).v bD:=by
 unfold Ty.sa;cases x.agg with
 |true=>simp only [aL,SA.v,h]
 |false=>
  simp only [aH]
  match a,b,h with
  |[],[],_=>rfl
  |[x],[y],h=>simpa [SA.v] using h
  |x::y::a,u::v::b,h=>simp only [SA.v,h]
  |[],_::_,h=>simp at h
  |_::_,[],h=>simp at h
  |[_],_::_::_,h=>simp at h
  |_::_::_,[_],h=>simp at h
theorem HU{m:Nat}:∀{x:Ty} {v:x.T} {o:Ob},YU m x v=some o->(∀(t:Ty) (l:List t.T),o≠.ro t l)/\∀(e:Nat) (cs:List SC),o≠.bl e cs:=by intro x;cases x<;>intro v o h<;>first|(cases h;exact⟨(fun t l e=>by cases e),(fun e cs a=>by cases a)⟩)|cases h
theorem P9{s:Src}{id:Nat}(h:s.ow=some id):s=.o' id true\/∃m,s=.k' id m true:=by
 cases s with
 |o' i w=>cases w<;>simp [Src.ow]at h;subst h;exact .inl rfl
 |n'=>simp [Src.ow]at h
 |k' i m w=>cases w<;>simp [Src.ow]at h;subst h;exact .inr ⟨m,rfl⟩
 |z' t=>simp [Src.ow]at h
section
variable {n nc : Nat} {H : List Ob} {ρ bD ρ3 : Nat -> Ad} {ss : List Src} {rg : List Rg} {Hc Hk : List Ob} {lc lk : List SA} {k : Nat}
theorem PR.app(h:PR n nc H ρ bD ρ3 ss rg Hc Hk lc lk k)(C:ss.length<=nc)(hid:∀(j:Nat) (s:Src) (i:Nat),ss[j]? =some s->s.ow=some i->i<n)(D:H.length=n){a b:List SC×List Ob}(u:LR bD ρ3 a b)(A:a.2.length=b.2.length)
  (q:∀(j:Nat) (t:Ty) (l:List t.T),a.2[j]? ≠some (.ro t l)) (p:∀(j e:Nat) (cs:List SC),b.2[j]? =some (.bl e cs)->∀c∈cs,c.ok (n+(k+b.2.length))):
  PR n nc H ρ bD ρ3 ss rg (Hc++a.2) (Hk++b.2) lc lk (k+b.2.length):=by
 have h1:=h.ec;have h2:=h.ek;refine⟨by simp [h1,A,Ax],by simp [h2,Ax],fun i o g d=> ?_,fun j id o f d=> ?_,fun j id m f=> ?_,fun id g z=> ?_,fun id e cs d c w=> ?_,fun id o d=> ?_,h.vl,fun v y=> ?_⟩
 ·by_cases r:i<k
  ·rw [aI aA0]at d⊢;exact h.nw i o r d
  ·rw [aK aA0,h1,show nc+i-(nc+k)=i-k by omega]at d;rw [aK aA0,h2,show n+i-(n+k)=i-k by omega];exact⟨u.o _ o d,fun t l e=>q _ t l (by rw [d,e])⟩
 ·have B:=(aD.1 f).1;have:=hid j _ id f rfl;rw [aI aA0]at d⊢;exact h.ow j id o f d
 ·have:=hid j _ id f rfl;rw [aI aA0];exact h.ok j id m f
 ·rw [aI aA0];exact h.ot id g z
 ·by_cases g:id<Hk.length
  ·rw [aI g]at d;exact SC.cK (h.ho id e cs d c w) aA0
  ·rw [aK aA0]at d;exact p _ e cs d c w
 ·have:=(aD.1 d).1;rw [aI aA0];exact h.kp id o d
 ·have:=h.vo v y;cases v with
  |c' x=>exact SC.cK this aA0
  |a' l=>exact fun x hx=>SC.cK (this x hx) aA0
theorem PR.dN(h:PR n nc H ρ bD ρ3 ss rg Hc Hk lc lk k)(B:(fQ ss).Nodup)(hid:∀(j:Nat) (s:Src) (i:Nat),ss[j]? =some s->s.ow=some i->i<n){j id:Nat}{o o3:Ob}(r:ss[j]? =some (.o' id true))(E:V4 bD ρ3 o o3)(y:∀(t:Ty) (l:List t.T),o≠.ro t l)(z:∀A,H[id]? =some A->Ai rg id ρ ρ3 (some o3) A)(F:ss.length<=nc)
  (x:∀(e:Nat) (cs:List SC),o3=.bl e cs->∀c∈cs,c.ok (n+k)):PR n nc H ρ bD ρ3 ss rg (gU Hc j o) (gU Hk id o3) lc lk k:=by
 have h1:=h.ec;have h2:=h.ek;have G:=hid j _ id r rfl;have D:=(aD.1 r).1;refine⟨by rw [CU,h1],by rw [CU,h2],fun i p u d=> ?_,fun w a p b d=> ?_,fun w a m b=> ?_,fun a u v=> ?_,fun a e cs d c C=> ?_,fun a p d=> ?_,h.vl,h.vo⟩
 ·rw [uQ,aB aA0]at d;rw [uQ,aB aA0];exact h.nw i p u d
 ·by_cases q:w=j
  ·subst q;rw [r]at b;cases b;rw [uQ,aC ⟨rfl,aA0⟩]at d;cases d;rw [uQ,aC ⟨rfl,aA0⟩];exact⟨⟨o3,rfl,E⟩,y⟩
  ·have f:a≠id:=fun e=>q (Ge B b (by rw [e];rfl) r rfl);rw [uQ,aB (fun g=>q g.1)]at d;rw [uQ,aB (fun g=>f g.1)];exact h.ow w a p b d
 ·have f:a≠id:=fun e=>by have:=Ge B b (by rw [e];rfl) r rfl;subst this;rw [r]at b;cases b
  rw [uQ,aB (fun g=>f g.1)];exact h.ok w a m b
 ·have f:a≠id:=fun e=>v (by rw [e];exact pR r rfl);rw [uQ,aB (fun g=>f g.1)];exact h.ot a u v
 ·rw [uQ]at d;split at d
  ·cases d;exact x e cs rfl c C
  ·exact h.ho a e cs d c C
 ·rw [uQ];split
  ·rename_i g;rw [g.1]at d⊢;exact z p d
  ·exact h.kp a p d
theorem PR.steps(hn:(fQ ss).Nodup)(R:ss.length<=nc)(hid:∀(j:Nat) (s:Src) (i:Nat),ss[j]? =some s->s.ow=some i->i<n)(hH:H.length=n)(b3:ss.length=nc)
  (O:∀i,ρ3 (n+i)=bD (nc+i)) (a3:∀(j id:Nat),ss[j]? =some (.o' id true)->ρ3 id=bD j):∀(r:List Rk) (y:(fM r).T) (Hc Hk:List Ob) (lc lk:List SA) (k:Nat),PR n nc H ρ bD ρ3 ss rg Hc Hk lc lk k->Cf H ss r=true->(∀id∈jD ss (Rk.ids r),∀q,q=qO H id->∀j,j<q.2.2->eL id j rg=true)->
  ∃F,PR n nc H ρ bD ρ3 ss rg (eT (fun j=>j) (lc,Hc) r y).2 (eT (sS ss) (lk,Hk) r y).2 (eT (fun j=>j) (lc,Hc) r y).1 (eT (sS ss) (lk,Hk) r y).1 F:=by
 have one:∀(q:Rk) (v:q.ty.T) (Hc Hk:List Ob) (lc lk:List SA) (k:Nat),PR n nc H ρ bD ρ3 ss rg Hc Hk lc lk k->Cf H ss [q]=true->(∀id∈jD ss (Rk.ids [q]),∀q,q=qO H id->∀j,j<q.2.2->eL id j rg=true)->
   ∃F,PR n nc H ρ bD ρ3 ss rg (q.put (fun j=>j) (lc,Hc) v).2 (q.put (sS ss) (lk,Hk) v).2 (q.put (fun j=>j) (lc,Hc) v).1 (q.put (sS ss) (lk,Hk) v).1 F:=by
  intro q v Hc Hk lc lk k h a b;have h1:=h.ec;have h2:=h.ek;simp only [Cf]at a;have a:=(gJ a).1;cases q with
  |r' x=>
   have a:(bif x.tz then false else x.nb)=true:=a;cases z:x.tz with
   |true=>rw [z]at a;cases a
   |false=>
    rw [z]at a;have a:x.nb=true:=a;have m:=FQ x 0 Hc.length 0 Hk.length v bD ρ3 (fun e=>by rw [z]at e;cases e) (fun j _=>by rw [h1,h2,Ax,Ax];exact(O _).symm);have g:=h.app R hid hH m ((Ty.dZ x 0 Hc.length v).trans (Ty.dZ x 0 Hk.length v).symm) (SN x 0 Hc.length v a) (fun j e cs L=>by have:=K5 x 0 Hk.length v j e cs L;rw [h2,Ax]at this;rw [h2];exact this);refine⟨_,g.ec,g.ek,g.nw,g.ow,g.ok,g.ot,g.ho,g.kp, ?_,fun u G=> ?_⟩
    ·show(lc++[x.sa (x.lay 0 Hc.length v).1]).map _=(lk++[x.sa (x.lay 0 Hk.length v).1]).map _;rw [Om,Om,h.vl,N2,N2,Z6 m.c]
    ·rcases aU.1 (show u∈lk++[x.sa (x.lay 0 Hk.length v).1]from G)with G|G
     ·exact g.vo u G
     ·rw [aE.1 G];have:=Ty.oh (x:=x) (jd x 0 Hk.length v z);rw [<-Ax,<-h2];exact this
  |o' j e x=>
   have a:(bif x.nb then(match eK ss j with
    |some (.o' id w)=>bif w then(match eK H id with
     |some (.bl E cs)=>bif cP E e then cP cs.length x.cn else false
     |_=>false)else false
    |_=>false)else false)=true:=a
   have a:=gJ a;have W:=a.1;have a:=a.2;split at a
   ·rename_i id w f;have a:=gJ a;have V:=a.1;subst V;have a:=a.2;split at a
    ·rename_i E b7 hb;have a:=gJ a;rw [fW]at f hb;have a1:=gP a.1;have a4:=gP a.2;subst a1;have N:=hid j _ id f rfl;have X:=(aD.1 f).1;have p:sS ss j=id:=by unfold sS;rw [fW,f]
     have m:=FQ x j Hc.length id Hk.length v bD ρ3 (fun _=>by rw [a3 j id f]) (fun j _=>by rw [h1,h2,Ax,Ax];exact(O _).symm);have K:∀c∈(x.lay id Hk.length v).1,c.ok (n+(k+(x.lay id Hk.length v).2.length)):=fun c Q i a0=>by
      rcases(Ty.zM x id Hk.length v c Q).2 i a0 with h3|h3
      ·omega
      ·omega
     have g:=h.app R hid hH m ((Ty.dZ x j Hc.length v).trans (Ty.dZ x id Hk.length v).symm) (SN x j Hc.length v W) (fun j e cs L=>by have:=K5 x id Hk.length v j e cs L;rw [h2,Ax]at this;rw [h2];exact this);have J:=g.dN (j:=j) (id:=id) (o:=.bl E (x.lay j Hc.length v).1) (o3:=.bl E (x.lay id Hk.length v).1) hn hid f ⟨_,rfl,m.c,fun j c c2 h h2=>SO h h2⟩ (fun t l e=>by cases e) (fun U D=> ?_) R (fun e cs he c Q=>by cases he;exact K c Q)
     ·refine⟨k+(x.lay id Hk.length v).2.length, ?_⟩;have e1:∀{Z B:List Ob} {i:Nat} {o:Ob},i<Z.length->gU (Z++B) i o=gU Z i o++B:=fun hl=>by rw [nH,nH,XH _ _ hl]
      rw [e1 aA0,e1 aA0]at J;show PR n nc H ρ bD ρ3 ss rg (gU Hc j (.bl E (x.lay j Hc.length v).1)++(x.lay j Hc.length v).2) (gU Hk (sS ss j) (.bl E (x.lay (sS ss j) Hk.length v).1)++(x.lay (sS ss j) Hk.length v).2) lc lk _;rw [p];exact J
     ·rw [hb]at D;cases D;refine .inr ⟨_,rfl,(Ty.Qw x id Hk.length v).trans a4.symm,fun jj c Q=>.inl ?_⟩;have Y:=(aD.1 Q).1;refine b id ?_ _ rfl jj ?_
      ·show id∈[sS ss j];rw [p];exact aE.2 rfl
      ·unfold qO;rw [fW,hb];exact Y
    ·cases a
   ·cases a
  |w' j x=>
   have a:(match eK ss j with
    |some (.o' id w)=>bif w then tC (eK H id)else false
    |_=>false)=true:=a
   split at a
   ·rename_i id w f;have a:=gJ a;have V:=a.1;subst V;have d:=a.2;rw [fW]at f d;have N:=hid j _ id f rfl;have X:=(aD.1 f).1;have p:sS ss j=id:=by unfold sS;rw [fW,f]
    have P:Hc[j]? =some (Hc[j]' aA0):=aJ aA0;obtain⟨⟨o3,h3,h4⟩,_⟩:=h.ow j id _ f P;have M:eY Hk id=eY Hc j:=by rw [lK h3,lK P,h4.len]
    refine⟨k, ?_⟩;show PR n nc H ρ bD ρ3 ss rg (oQ Hc j x v) (oQ Hk (sS ss j) x v) lc lk k;rw [p];unfold oQ;rw [M];split
    ·rename_i o L;have C:(∀(t:Ty) (l:List t.T),o≠.ro t l)/\V4 bD ρ3 o o/\∀(e:Nat) (cs:List SC),o≠.bl e cs:=by
      obtain⟨h5,h6⟩:=HU L;refine⟨h5, ?_,h6⟩;cases o with
      |bl e cs=>exact absurd rfl (h6 e cs)
      |_=>rfl
     refine h.dN hn hid f C.2.1 C.1 (fun U D=> ?_) R (fun e cs he=>absurd he (C.2.2 e cs));have a5:eL id 0 rg=true:=by
      refine b id ?_ _ rfl 0 ?_
      ·show id∈[sS ss j];rw [p];exact aE.2 rfl
      ·unfold qO;rw [fW,D];rw [D]at d;cases U<;>first|exact Di|cases d
     rw [D]at d;cases U<;>first|exact .inl a5|cases d
    ·exact h
   ·cases a
 intro r;induction r with
 |nil=>intro y Hc Hk lc lk k h _ _;exact⟨k,h⟩
 |cons q r ih=>
  intro y Hc Hk lc lk k h a b;cases r with
  |nil=>exact one q y Hc Hk lc lk k h a b
  |cons S r=>
   have I:=gJ (show(bif _ then Cf H ss (S::r)else false)=true from a);have A:∀id,id∈jD ss (Rk.ids [q])\/id∈jD ss (Rk.ids (S::r))->id∈jD ss (Rk.ids (q::S::r)):=by
    intro id hid;cases q with
    |r' x=>
     rcases hid with hid|hid
     ·cases hid
     ·exact hid
    |o' i e x=>
     rcases hid with hid|hid
     ·exact aN.2 (.inl (aE.1 hid))
     ·exact fU _ hid
    |w' i x=>
     rcases hid with hid|hid
     ·exact aN.2 (.inl (aE.1 hid))
     ·exact fU _ hid
   obtain⟨F,h2⟩:=one q y.1 Hc Hk lc lk k h (by have:=I.1;simp only [Cf];rw [this];rfl) (fun id N=>b id (A id (.inl N)));exact ih y.2 _ _ _ _ F h2 I.2 (fun id N=>b id (A id (.inr N)))
end
open Go.Wk
open Go.Ce (Tr)
open Go.Value renaming ownBlock → yM, tuple → mQ
open List renaming length → aS
theorem map_some{α a:Type}{f:α->a}{l:List α}{j:Nat}{r:a}(h:(l.map f)[j]? =some r):∃x,l[j]? =some x/\f x=r:=by
 rw [aZ]at h;cases b:l[j]? with
 |none=>rw [b]at h;cases h
 |some x=>rw [b]at h;exact⟨x,rfl,aP h⟩
theorem RL{w0 w:World}{S0:List Nat}{L:List bX}(p:Hp w0 S0 L w){i j b:Nat}{r g:bX}(h:L[i]? =some r)(h2:L[j]? =some g)(l:r.own=some b)(a:g.own=some b):i=j:=by
 obtain⟨d,n⟩:=aD.1 h;obtain⟨c,m⟩:=aD.1 h2;have k:=eC.1 p.sep;rcases Nat.lt_trichotomy i j with e|o|f
 ·exact absurd (by rw [m];exact a) (k i j d c e b (by rw [n];exact l))
 ·exact o
 ·exact absurd (by rw [n];exact l) (k j i c d f b (by rw [m];exact a))
theorem P8{ρ bD:Nat->Ad}{H:List Ob}{s:Src}{o:Ob}(h:LM true ρ H bD s o)(a:∀(t:Ty) (l:List t.T),o≠.ro t l):LM false ρ H bD s o:=by
 cases o with
 |ro t l=>exact absurd rfl (a t l)
 |_=>exact h
theorem Ul{ρ bD:Nat->Ad}{H:List Ob}(a:DE ρ H)(b:DF H){s:Src}{o:Ob}(h:LM true ρ H bD s o):o.len=(s.ad ρ).ln:=by
 cases o with
 |ro t l=>
  rcases h with⟨id,rfl,h1⟩|⟨rfl,rfl⟩|⟨_,id,m,e,cs,rfl,h1,h2⟩
  ·obtain⟨ob,h2,h3⟩:=Og (fun m x hx=>b id m x hx) (show tG t H[id]? =some l from h1);have:=a id ob h2;show l.length=(ρ id).ln;rw [<-h3];exact this
  ·rfl
  ·exact(XX h2).1
 |_=>exact EI a b (P8 h (fun t l e=>by cases e))
theorem Z9{w0 a:World}{S0 S1:List Nat}{ρ:Nat->Ad}{id:Nat}{o:Ob}{r:bX}(h:RO w0 S0 ρ id o r)(b:∀(t:Ty) (l:List t.T),o≠.ro t l):RO a S1 ρ id o r:=by
 cases o with
 |ro t l=>exact absurd rfl (b t l)
 |_=>exact h
theorem ZM{w0 w:World}{S0 S1:List Nat}{ρ bD:Nat->Ad}{H:List Ob}{L:List bX}(n:Hp w0 S0 L w)(C:Mt w0 S0 ρ H L)(T:∀b∈S1,w0.heap.size<=b\/b∈S0){s:Src}{o:Ob}{k:Nat}(D:∀id∈s.ja,∀(r:bX) (b:Nat),L[id]? =some r->r.own=some b->b∉S1)(h:LM true ρ H bD s o)(O:bD k=s.ad ρ):
  ∃r,RO w S1 bD k o r/\r.holds w/\∀b,r.own=some b->∃i N,s.ow=some i/\L[i]? =some N/\N.own=some b:=by
 cases o with
 |ro t l=>
  refine⟨dQ,⟨rfl, ?_⟩,trivial,fun b x=>by cases x⟩;rw [O];rcases h with⟨id,rfl,h1⟩|⟨rfl,rfl⟩|⟨_,id,m,e,cs,rfl,h1,h2⟩
  ·have h1:tG t H[id]? =some l:=h1;have D:=D id (by simp [Src.ja]);show Ta w S1 (ρ id) t l;unfold tG at h1;split at h1
   ·rename_i e b t2 j x;split at h1
    ·rename_i q;obtain rfl:=Ty.iM q;cases h1;obtain⟨_,r,c,u⟩:=C.2 id _ x;have u:r=aX t2.enc e t2.sz (ρ id).o (ρ id).a (ρ id).cap j:=u;subst u;refine⟨n.nD id c,fun d p f=> ?_,n.Lv id c⟩;have J:j≠[]:=fun e=>by rw [e]at d;exact d rfl
     obtain⟨z,_⟩:=n.res _ (aG c);rcases z with⟨_,y,_⟩|⟨g,M,P,y,_⟩
     ·exact absurd y J
     ·rw [f]at y;cases y;exact D _ _ c P
    ·cases h1
   ·rename_i t2 j x;split at h1
    ·rename_i q;obtain rfl:=Ty.iM q;cases h1;obtain⟨_,r,c,_,A,d,B⟩:=C.2 id _ x;refine⟨A.MF n d,fun F p f K=> ?_,B⟩;have I:=d F p f;rcases T _ K with h3|h3
     ·obtain⟨v,R⟩:∃v,(j.flatMap t2.enc)[0]? =some v:=by
       cases q:j.flatMap t2.enc with
       |nil=>exact absurd q F
       |cons v Q=>exact⟨v,rfl⟩
      obtain⟨U,G,E⟩:=A 0 v R;rw [f]at G;cases G;have:=xR E;rw [jc]at this;omega
     ·exact I h3
    ·cases h1
   ·rename_i m j x;unfold strOf at h1;split at h1
    ·rename_i q;obtain rfl:=Ty.iM q;cases h1;obtain⟨_,r,c,u⟩:=C.2 id _ x;have u:r=eN (.slice (ρ id).a m (ρ id).cap) m j:=u;subst u;obtain⟨⟨E,g,cap,M,e,V,z,P,y,_⟩,_⟩:=n.res _ (aG c);simp only [Value.slice.injEq]at z;refine⟨Rd.iA (n.iL id c),fun F p f=> ?_, ?_⟩
     ·rw [z.1]at f;cases f;exact D _ g c (by simp [eN,yM,z.1])
     ·show j.length<=(ρ id).cap;rw [E,z.2.2];exact y
    ·cases h1
   ·cases h1
  ·exact⟨Rd.nil _ _,fun h=>absurd rfl h,dH _⟩
  ·obtain⟨_,r,c,Q,rfl,S⟩:=C.2 id _ h1;obtain⟨h3,_,G⟩:=XX h2;have E:=S.all (pJ h2);refine⟨?_,fun F p f=> ?_,by rw [h3];exact eJ _⟩
   ·rw [<-G ρ,<-E];exact n.oB id c
   ·cases f;exact D id (by simp [Src.ja]) _ _ c rfl
 |_=>obtain⟨r,h1,h2,h3⟩:=PS n C (P8 h (fun t l e=>by cases e)) O;exact⟨r,Z9 h1 (fun t l e=>by cases e),h2,h3⟩
theorem vQ{ρ bD:Nat->Ad}{H:List Ob}{s:Src}{o:Ob}{id:Nat}(h:LM true ρ H bD s o)(d:s.ow=some id):
  (s=.o' id true/\((∃e cs a,o=.bl e cs/\H[id]? =some (.bl e a)/\a.map (SC.v ρ)=cs.map (SC.v bD)/\(∀c∈a,c.kn=true)/\∀c∈cs,c.kn=true)\/(∃e b t l,o=.rw e b t l/\H[id]? =some (.rw e b t l))\/∃n l m,o=.br n l/\n=aS l/\H[id]? =some (.br m l)))\/
  ∃m e b t l cs,s=.k' id m true/\o=.rw e b t l/\H[id]? =some (.bl e cs):=by
 cases o with
 |bl e cs=>obtain⟨i,a,rfl,h1⟩:=h;cases d;exact .inl ⟨rfl,.inl ⟨e,cs,a,rfl,h1⟩⟩
 |rw e b t l=>
  rcases h with⟨i,rfl,h1⟩|⟨rfl,_⟩|⟨i,m,cs,rfl,h1,_⟩
  ·cases d;exact .inl ⟨rfl,.inr (.inl ⟨e,b,t,l,rfl,h1⟩)⟩
  ·cases d
  ·cases d;exact .inr ⟨m,e,b,t,l,cs,rfl,rfl,h1⟩
 |ro t l=>rcases h with⟨i,rfl,_⟩|⟨rfl,_⟩|⟨_,i,m,e,cs,rfl,_⟩<;>cases d
 |br n l=>obtain⟨h1,i,m,rfl,h2⟩:=h;cases d;exact .inl ⟨rfl,.inr (.inr ⟨n,l,m,rfl,h1,h2⟩)⟩
 |dd n=>rcases h with⟨_,⟨t,rfl⟩|⟨f,rfl,_⟩⟩<;>cases d
theorem UX{w w0:World}{S S0:List Nat}{bD ρ3:Nat->Ad}{j id:Nat}{o o3:Ob}{r:bX}(h:V4 bD ρ3 o o3)(d:ρ3 id=bD j)(q:∀(t:Ty) (l:List t.T),o≠.ro t l)(a:RO w S bD j o r):RO w0 S0 ρ3 id o3 r:=by
 cases o with
 |bl e cs=>
  obtain⟨k,rfl,h1,h2⟩:=h;obtain⟨p,rfl,h3,v⟩:=a;have u:aS cs=aS k:=by simpa using bP aS h1
  refine⟨p,by rw [d],by rw [h3,u],fun i x f c=> ?_⟩;have s:=(aD.1 f).1;have g:cs[i]? =some (cs[i]' aA0):=aJ aA0;rw [v i _ g (by rw [h2 i _ x g f];exact c)];have m:=bP (fun l=>l[i]?) h1;simp only [aZ,g,f,Tg]at m;exact m
 |rw e b t l=>have h:o3=Ob.rw e b t l:=h;subst h;show r=_;rw [d];exact a
 |ro t l=>exact absurd rfl (q t l)
 |br n l=>have h:o3=Ob.br n l:=h;subst h;show r=_;rw [d];exact a
 |dd n=>have h:o3=Ob.dd n:=h;subst h;trivial
theorem WD{ss:List Src}{j id:Nat}{s:Src}(h:ss[j]? =some s)(b:id∈s.ja):id∈WE ss:=by
 induction ss generalizing j with
 |nil=>simp at h
 |cons x ss a=>
  show id∈x.ja++WE ss;cases j with
  |zero=>have e:x=s:=aB0;subst e;exact Ed _ b
  |succ j=>exact MW _ (a aB0)
def rOf(L:List bX):Option Nat->bX
 |some id=>(L[id]?).getD dQ
 |none=>dQ
theorem QG{ρ bD:Nat->Ad}{l a:List SA}{v:Value}(h:l.map (SA.v ρ)=a.map (SA.v bD))(b:(lD l).v ρ=some v):(lD a).v bD=some v:=by
 match l,a,h with
 |[],[],_=>exact b
 |[x],[y],h=>have h:x.v ρ=y.v bD:=aB0;show y.sv.v bD=some v;rw [SA.ZI,<-h,<-SA.ZI];exact b
 |x::y::l,u::z::a,h=>show some (mQ ((u::z::a).map (SA.v bD)).toArray)=some v;rw [<-h];exact b
 |[],_::_,h=>simp at h
 |_::_,[],h=>simp at h
 |[_],_::_::_,h=>simp at h
 |_::_::_,[_],h=>simp at h
theorem ZU{l:List SA}{n:Nat}(h:∀v∈l,v.ok n):(lD l).ok n:=by
 match l,h with
 |[],_=>exact fun x hx=>by cases hx
 |[x],h=>exact SA.Be (h x iH)
 |x::y::l,h=>exact fun z a=>h z a
section
variable {C : Cx} {md : Md} {w0 w : World} {S0 : List Nat} {ρ : Nat -> Ad} {S : St} {F : Nat -> Value} {GS : Ec}
theorem cy{L:List bX}{S1:List Nat}(d:Gw GS w0 S0)(c:Hp w0 S0 L w)(a:∀b∈S1,w0.heap.size<=b\/b∈S0):Gw GS w S1:=GS.st c d a
theorem J4(hS:Rel C w0 S0 ρ S F w)(hG:Gw GS w0 S0){c:Bz}{k:Nat}(hF:Zw C.P GS k c){vs:List SV}{a:(fP c.a).T}{ss:List Src}{y:(fM c.r).T}(h:FA S.H c.a vs=some (a,ss))(U:kW c S a ss=true)(hy:(c.f a).ok y):
  ∃us,vs.map (SV.v ρ)=us.map some/\CR C.P k us w fun v w2=>∃ρ3,∀d:Option Nat,Rel C w0 S0 ρ3 (iS c S d a ss y) (match d with
   |some d=>dN F d v
   |none=>F) w2/\Nx S ρ (iS c S d a ss y) ρ3:=by
 obtain⟨L,hH,hM⟩:=hS.mem;have d0:=vY hS;have d2:=vZ hS;unfold kW at U;have U:=gJ U;have b8:=lH.1 U.1;have U:=gJ U.2;have g9:=qL.1 U.1;have U:=gJ U.2;have f8:=U.1;have g2:=U.2;obtain⟨K,h1,h2,h3,h4,h5⟩:=QL d2 c.a vs a ss [] h;rw [Ka]at h1
 let b3:Nat->Ad:=fun j=>match ss[j]? with
  |some s=>s.ad ρ
  |none=>⟨none,none,0,false,0⟩
 have b0:∀(j:Nat) (s:Src),ss[j]? =some s->b3 j=s.ad ρ:=fun j s p=>by simp only [b3,p]
 obtain⟨⟨us,h6,h7⟩,h8⟩:=h5 ρ b3 (fun j s p=>by rw [iO,Dh];exact b0 j s p);refine⟨us,h6, ?_⟩;have k6:=hM.1;let L1:List bX:=ss.map fun s=>rOf L s.ow;let Lr:List bX:=(List.range S.H.length).map fun id=>bif jU id (fQ ss)then dQ else(L[id]?).getD dQ;have l5:L1.length=aS ss:=by simp [L1]
 have m6:Lr.length=S.H.length:=by simp [Lr]
 have d4:∀(j:Nat) (r:bX) (b:Nat),L1[j]? =some r->r.own=some b->∃s id V,ss[j]? =some s/\s.ow=some id/\L[id]? =some V/\V.own=some b/\r=V:=by
  intro j r b p O;obtain⟨s,E,A⟩:=map_some p;subst A;cases M:s.ow with
  |none=>rw [M]at O;cases O
  |some id=>
   cases hl:L[id]? with
   |none=>
    have e:rOf L s.ow=dQ:=by rw [M];show(L[id]?).getD dQ=_;rw [hl];rfl
    rw [e]at O;cases O
   |some V=>
    have e:rOf L (some id)=V:=by show(L[id]?).getD dQ=_;rw [hl];rfl
    rw [M]at O;exact⟨s,id,V,E,M,hl,by rw [<-e];exact O,e⟩
 have e5:Hp w0 S0 (L1++Lr) w:=by
  refine Go.Oe.Hp.pick (ss.map Src.ow++(List.range S.H.length).map fun id=>bif jU id (fQ ss)then none else some id) hH (fun j r p=> ?_) (fun j k i p hk=> ?_)
  ·by_cases G:j<aS ss
   ·rw [aI aA0]at p;refine⟨?_,fun b O=> ?_⟩
    ·obtain⟨s,E,A⟩:=map_some p;subst A;cases M:s.ow with
     |none=>trivial
     |some id=>
      show bX.holds ((L[id]?).getD dQ) w;cases hl:L[id]? with
      |none=>trivial
      |some V=>exact(hH.res _ (aG hl)).1
    ·obtain⟨s,id,V,E,A,J,D,rfl⟩:=d4 j r b p O;refine⟨id,r, ?_,J,D⟩;rw [aI (by simpa using G),aZ,E];exact bP some A
   ·rw [aK aA0,l5]at p;have p:((List.range S.H.length).map _)[j-aS ss]? =some r:=p;rw [aZ]at p;by_cases W:j-aS ss<S.H.length
    ·rw [cU W]at p;have p:(bif jU (j-aS ss) (fQ ss)then dQ else(L[j-aS ss]?).getD dQ)=r:=aP p;have e7:L[j-aS ss]? =some (L[j-aS ss]' aA0):=aJ aA0;cases Z:jU (j-aS ss) (fQ ss)with
     |true=>rw [Z]at p;rw [<-p];exact⟨trivial,fun b O=>by cases O⟩
     |false=>rw [Z,e7]at p;have p:L[j-aS ss]=r:=p;rw [<-p];refine⟨(hH.res _ (aG e7)).1,fun b O=>⟨j-aS ss,_, ?_,e7,O⟩⟩;rw [aK aA6,Dj,aZ,cU W];simp only [Tg,Z,aH]
    ·rw [bL (by simpa using vA W)]at p;cases p
  ·have key:∀j,(ss.map Src.ow++(List.range S.H.length).map fun id=>bif jU id (fQ ss)then none else some id)[j]? =some (some i)->(j<aS ss/\∃s,ss[j]? =some s/\s.ow=some i)\/(aS ss<=j/\j-aS ss=i/\i∉fQ ss):=by
    intro j p;by_cases G:j<aS ss
    ·rw [aI (by simpa using G),aZ]at p;cases R:ss[j]? with
     |none=>rw [R]at p;cases p
     |some s=>rw [R]at p;exact .inl ⟨G,s,rfl,aP p⟩
    ·rw [aK (by simpa using vA G),Dj,aZ]at p;by_cases W:j-aS ss<S.H.length
     ·rw [cU W]at p;have p:(bif jU (j-aS ss) (fQ ss)then none else some (j-aS ss))=some i:=aP p;cases Z:jU (j-aS ss) (fQ ss)with
      |true=>rw [Z]at p;cases p
      |false=>rw [Z]at p;have p:j-aS ss=i:=aP p;refine .inr ⟨aA0,p,fun hc=> ?_⟩;rw [<-p]at hc;rw [Oh.2 hc]at Z;cases Z
     ·rw [bL (by simpa using vA W)]at p;cases p
   rcases key j p with⟨E,s,A,J⟩|⟨E,A,J⟩<;>rcases key k hk with⟨D,s2,I,N⟩|⟨D,I,N⟩
   ·exact Ge b8 A J I N
   ·exact absurd (pR A J) N
   ·exact absurd (pR I N) J
   ·omega
 have hX:∀b∈cR L1,w0.heap.size<=b\/b∈S0:=by intro b O;obtain⟨r,hr,e⟩:=lI O;exact((e5.res r (aU.2 (.inl hr))).2 b e).2
 have hB:∀id∈WE ss,∀(r:bX) (b:Nat),L[id]? =some r->r.own=some b->b∉cR L1:=by intro id hid r b hr O Z;obtain⟨r2,j9,e⟩:=lI Z;obtain⟨j,p⟩:=fH.1 j9;obtain⟨s,m0,V,E,A,J,D,_⟩:=d4 j r2 b p e;have:=RL hH hr J O D;subst this;exact g9 id hid (pR E A)
 have i0:=e5.hand;have a8:sT c a=K:=h1;have hp:∀j,j<aS K->∃r,(∀o,K[j]? =some o->RO w (cR L1) b3 j o r)/\r.holds w/\∀b,r.own=some b->∃V,L1[j]? =some V/\V.own=some b:=by intro j p;have M:=aJ p;have R:ss[j]? =some (ss[j]' aA0):=aJ aA0;obtain⟨r,E,A,J⟩:=ZM (S1:=cR L1) hH hM hX (fun id hid=>hB id (WD R hid)) (h8 j _ _ R M) (b0 j _ R);refine⟨r,fun o D=>by rw [M]at D;cases D;exact E,A,fun b O=> ?_⟩;obtain⟨i,V,D,I,N⟩:=J b O;refine⟨V, ?_,N⟩;show(ss.map _)[j]? =_;rw [aZ,R,Tg,D];show some ((L[i]?).getD dQ)=_;rw [I];rfl
 obtain⟨Lc,k7,f9⟩:=Dt K.length hp;have k3:Hp w (cR L1) Lc w:=by
  refine Go.Oe.Hp.pick ((List.range K.length).map some) i0 (fun j r p=> ?_) (fun j k i p hk=> ?_)
  ·obtain⟨_,E,A⟩:=f9 j r p;refine⟨E,fun b O=> ?_⟩;obtain⟨V,J,D⟩:=A b O;have G:=(aD.1 p).1;exact⟨j,V,by rw [aZ,cU aA0];rfl,J,D⟩
  ·have key:∀j,((List.range K.length).map some)[j]? =some (some i)->j=i:=by
    intro j p;rw [aZ]at p;by_cases G:j<aS K
    ·rw [cU G]at p;simpa using p
    ·rw [bL (by simpa using vA G)]at p;cases p
   rw [key j p,key k hk]
 have k4:Mt w (cR L1) b3 (sT c a) Lc:=by rw [a8];refine⟨k7,fun j o M=> ?_⟩;have G:=(aD.1 M).1;have R:ss[j]? =some (ss[j]' aA0):=aJ aA0;have hl:Lc[j]? =some (Lc[j]' aA0):=aJ aA0;refine⟨?_,_,hl,(f9 j _ hl).1 o M⟩;rw [b0 j _ R];exact Ul d0 d2 (h8 j _ _ R M)
 refine(hF w (cR L1) b3 Lc us a y (cy hG hH hX) k3 k4 h7 hy).mono fun v w2=> ?_;rintro⟨bD,L2,f6,e4,c9,hv⟩;have c0:=e5.eD e4;have g4:aS ss=aS K:=h2.symm;let ρ3:Nat->Ad:=fun id=>if id<S.H.length then ρ id else bD (aS K+(id-S.H.length));have Q:Up S.H.length ρ ρ3:=fun id hi=>by simp only [ρ3,hi,eM]
 have k9:∀i,ρ3 (S.H.length+i)=bD (aS K+i):=fun i=>by have e1:¬S.H.length+i<S.H.length:=aA0;have e2:S.H.length+i-S.H.length=i:=aA0;simp only [ρ3,e1,cL,e2]
 have b1:∀(j:Nat) (s:Src) (i:Nat),ss[j]? =some s->s.ow=some i->i<S.H.length:=by intro j s i p hi;have a5:=(aD.1 p).1;have a4:=h8 j s _ p (aJ aA0);rcases vQ a4 hi with⟨_,⟨e,cs,d3,_,E,_⟩|⟨e,b,t,l,_,E⟩|⟨n,l,m,_,_,E⟩⟩|⟨m,e,b,t,l,cs,_,_,E⟩<;>exact(aD.1 E).1
 have d1:∀(j id:Nat),ss[j]? =some (.o' id true)->ρ3 id=bD j:=by intro j id p;have a5:=(aD.1 p).1;have hi:=b1 j _ id p rfl;rw [Q id hi,f6 j (by rw [a8];omega),b0 j _ p];rfl
 let EC:=Co (Rk.ids c.r) (sT c a) 0;let EK:=Sh (Rk.ids c.r) (hV [] c.a a).2 0 ss;have i2:EK=Sh (Rk.ids c.r) K 0 ss:=by show Sh _ (sT c a) 0 ss=_;rw [a8]
 have i3:EC=Co (Rk.ids c.r) K 0:=by show Co _ (sT c a) 0=_;rw [a8]
 have a9:∀(j id:Nat) (s:Src),ss[j]? =some s->s.ow=some id->(id∈EK↔j∈EC):=by
  intro j id s p R;have a5:=(aD.1 p).1;rw [i2,i3,Ab,xM];constructor
  ·rintro⟨j2,o,s2,_,E,A,J,D,I⟩
   rw [eV]at E A;have c7:s2.ow=some id:=by
    rw [tZ]at I;cases M:s2.ow with
    |none=>rw [M]at I;simp at I
    |some i=>rw [M]at I;simp at I;rw [I]
   have:=Ge b8 p R A c7;subst this;exact⟨o,dH _,by rw [eV];exact E,J,D⟩
  ·rintro⟨o,_,E,A,J⟩;rw [eV]at E;exact⟨j,o,s,dH _,by rw [eV];exact E,by rw [eV];exact p,A,J,by rw [tZ,R];simp⟩
 let rg:List Rg:=iF c S a ss;have c5:∀{id j:Nat},eL id j (Jd S.H EK)=true->eL id j rg=true:=fun h=>By.2 (.inl h)
 have a2:∀id,id∈EK->(tC S.H[id]? =true\/∃e cs,S.H[id]? =some (.bl e cs))/\id∈fQ ss:=by
  intro id hid;rw [i2,Ab]at hid;obtain⟨j,o,s,_,E,A,J,D,I⟩:=hid;rw [eV]at E A;have c7:s.ow=some id:=by
   rw [tZ]at I;cases M:s.ow with
   |none=>rw [M]at I;simp at I
   |some i=>rw [M]at I;simp at I;rw [I]
  refine⟨?_,pR A c7⟩;rcases vQ (h8 j s o A E) c7 with⟨_,⟨e,cs,d3,rfl,_⟩|⟨e,b,t,l,_,N⟩|⟨n,l,m,_,_,N⟩⟩|⟨m,e,b,t,l,cs,_,_,N⟩
  ·cases J
  ·left;rw [N];rfl
  ·left;rw [N];rfl
  ·exact .inr ⟨_,_,N⟩
 have h0:PR S.H.length K.length S.H ρ bD ρ3 ss rg (kill (sT c a) EC) (kill S.H EK) [] [] 0:=by
  refine⟨by rw [fm,a8];rfl,by rw [fm];rfl,fun i o hi=>by omega,fun j id o p M=> ?_,fun j id m p=> ?_,fun id hi hn=> ?_,fun id e cs M cc hc=> ?_,fun id o M=> ?_,rfl,fun v hv=>by cases hv⟩
  ·have a5:=(aD.1 p).1;have hi:=b1 j _ id p rfl;have X:K[j]? =some (K[j]' aA0):=aJ aA0;have a4:=h8 j _ _ p X;have hid:=aJ hi;have g5:S.H[id].len=(K[j]' aA0).len:=by rw [d0 id _ hid,Ul d0 d2 a4];rfl
   rw [HG,a8,X]at M;rw [HG,hid];by_cases hE:j∈EC
   ·rw [aC hE]at M;rw [aC ((a9 j id _ p rfl).2 hE)];cases M;refine⟨⟨_,rfl, ?_⟩,fun t l e=>by cases e⟩;show Ob.dd _=Ob.dd _;rw [g5]
   ·rw [aB hE]at M;rw [aB (fun hh=>hE ((a9 j id _ p rfl).1 hh))];have M:=aP M;rw [M]at a4 X;rcases vQ a4 rfl with⟨_,⟨e,cs,d3,rfl,E,A,J,D⟩|⟨e,b,t,l,rfl,E⟩|⟨n,l,m,rfl,E,A⟩⟩|⟨m,e,b,t,l,cs,he,_⟩
    ·refine⟨⟨_,rfl,d3,by rw [hid]at E;exact aP E, ?_,fun jj c1 c2 I N=>by rw [D c1 (aG I),J c2 (aG N)]⟩,fun t l e=>by cases e⟩;rw [Pq Q (fun x hx=>hS.ho id e d3 E x hx),A];refine Pq f6 fun x hx=> ?_;have:=h4 j e cs X x hx;rw [a8];simpa using this
    ·refine⟨⟨_,rfl, ?_⟩,fun t l e=>by cases e⟩;rw [hid]at E;exact aP E
    ·refine⟨⟨_,rfl, ?_⟩,fun t l e=>by cases e⟩;have J:=d2 id m l A;rw [hid]at A;show S.H[id]=Ob.br n l;rw [aP A,E,J]
    ·cases he
  ·have a5:=(aD.1 p).1;have hi:=b1 j _ id p rfl;have X:K[j]? =some (K[j]' aA0):=aJ aA0;have a4:=h8 j _ _ p X;obtain⟨f7,e0,n8,l1⟩:tC (some (K[j]' aA0))=true/\∃e cs,S.H[id]? =some (.bl e cs):=by
    rcases vQ a4 rfl with⟨he,_⟩|⟨m,e,b,t,l,cs,_,he,E⟩
    ·cases he
    ·rw [he];exact⟨rfl,e,cs,E⟩
   have g1:j∉Rk.ids c.r:=by
    intro Z;have key:∀r:List Rk,Cf S.H ss r=true->j∈Rk.ids r->False:=by
     intro r;induction r with
     |nil=>intro _ h;cases h
     |cons q r ih=>
      intro hq a6;have hq:=gJ (show(bif _ then Cf S.H ss r else false)=true from hq);cases q with
      |r' x=>exact ih hq.2 a6
      |o' i e x=>
       rcases aN.1 (show j∈i::Rk.ids r from a6)with rfl|a6
       ·have E:=(gJ hq.1).2;rw [fW,p]at E;cases E
       ·exact ih hq.2 a6
      |w' i x=>
       rcases aN.1 (show j∈i::Rk.ids r from a6)with rfl|a6
       ·have E:=hq.1;simp only [fW,p]at E;cases E
       ·exact ih hq.2 a6
    exact key c.r f8 Z
   have hE:j∈EC:=by rw [i3,xM];exact⟨_,dH _,by rw [eV];exact X,f7,g1⟩
   rw [HG,aC ((a9 j id _ p rfl).2 hE),l1];rfl
  ·rw [HG,aB (fun hE=>hn (a2 id hE).2)]
  ·rw [HG]at M;split at M
   ·cases hg:S.H[id]? with
    |none=>rw [hg]at M;cases M
    |some o=>rw [hg]at M;cases M
   ·exact hS.ho id e cs M cc hc
  ·rw [HG];by_cases hE:id∈EK
   ·rw [aC hE,M];have:=(a2 id hE).1;cases o with
    |bl e cs=>exact .inl fun j p=>c5 (Eh M hE p)
    |rw e b t l=>exact .inl (c5 (jm hE))
    |br m l=>exact .inl (c5 (jm hE))
    |ro t l=>rcases this with E|⟨_,_,E⟩<;>rw [M]at E<;>cases E
    |dd n=>rcases this with E|⟨_,_,E⟩<;>rw [M]at E<;>cases E
   ·rw [aB hE,M];cases o with
    |bl e cs=>exact .inr ⟨cs,rfl,rfl,fun j cc p=>.inr ⟨cc,p,fun hk=>⟨hk,SC.up Q (hS.ho id e cs M cc (aG p))⟩⟩⟩
    |rw e b t l=>exact .inr rfl
    |br m l=>exact .inr rfl
    |ro t l=>rfl
    |dd n=>rfl
 obtain⟨k2,hP⟩:=PR.steps b8 aA0 b1 rfl g4 k9 d1 c.r y _ _ [] [] 0 h0 f8 (fun id hid q hq j p=>by
  subst hq;refine By.2 (.inr ?_);have key:∀l:List Nat,id∈l->eL id j (Ry S.H l)=true:=by
   intro l;induction l with
   |nil=>intro h;cases h
   |cons x l ih=>
    intro h;rcases aN.1 h with rfl|h
    ·exact tI.2 ⟨_,iH,rfl,dH _,p⟩
    ·obtain⟨q,E,A⟩:=tI.1 (ih h);exact tI.2 ⟨q,fU _ E,A⟩
  exact key _ hid)
 let Hk:=(eT (sS ss) ([],kill S.H EK) c.r y).2;let Hc:=(vU c a y).2;have l6:Hc.length=aS K+k2:=hP.ec;have i1:Hk.length=S.H.length+k2:=hP.ek;have m7:L2.length=aS K+k2:=by rw [c9.1];exact l6
 let b7:Nat->Option Nat:=fun id=>(List.range ss.length).find? fun j=>decide ((ss[j]?).bind Src.ow=some id)
 have d6:∀id j,b7 id=some j->∃s,ss[j]? =some s/\s.ow=some id:=by
  intro id j p;have:=List.find?_some p;have E:(ss[j]?).bind Src.ow=some id:=cJ this;cases R:ss[j]? with
  |none=>rw [R]at E;cases E
  |some s=>rw [R]at E;exact⟨s,rfl,E⟩
 have g8:∀id,b7 id=none->id∉fQ ss:=by
  intro id p Z;have key:∀l:List Src,id∈fQ l->∃(j:Nat) (s:Src),l[j]? =some s/\s.ow=some id:=by
   intro l;induction l with
   |nil=>intro h;cases h
   |cons x l ih=>
    intro h;rcases aU.1 (show id∈x.own++fQ l from h)with h|h
    ·refine⟨0,x,rfl, ?_⟩;rw [tZ]at h;cases M:x.ow with
     |none=>rw [M]at h;simp at h
     |some i=>rw [M]at h;simp at h;rw [h]
    ·obtain⟨j,s,h1,h2⟩:=ih h;exact⟨j+1,s,aC5,h2⟩
  obtain⟨j,s,E,A⟩:=key ss Z;have G:=(aD.1 E).1;have:=List.find?_eq_none.1 p j (by simpa using G);rw [E]at this;simp [A]at this
 let src:Nat->Option Nat:=fun id=>if id<S.H.length then(match b7 id with
  |some j=>(match Hk[id]? with
   |some o=>bif Xf o then none else some j
   |none=>none)
  |none=>some (L2.length+id))else some (aS K+(id-S.H.length))
 have k1:∀id,id<Hk.length->∃r,(∀o,Hk[id]? =some o->o.len=(ρ3 id).ln/\RO w0 S0 ρ3 id o r)/\r.holds w2/\∀b,r.own=some b->∃i V,src id=some i/\(L2++Lr)[i]? =some V/\V.own=some b:=by
  intro id hid;have M:=aJ hid;by_cases G:id<S.H.length
  ·cases p:b7 id with
   |some j=>
    obtain⟨s,E,A⟩:=d6 id j p;have a5:=(aD.1 E).1;cases hd:Xf Hk[id]with
    |true=>
     refine⟨dQ,fun o J=>⟨?_, ?_⟩,trivial,fun b O=>by cases O⟩
     ·rw [M]at J;cases J;rcases P9 A with rfl|⟨m,rfl⟩
      ·have a0:Hc[j]? =some (Hc[j]' aA0):=aJ aA0;obtain⟨⟨o3,D,I⟩,_⟩:=hP.ow j id _ E a0;have D:Hk[id]? =some o3:=D;rw [M]at D;have D:=aP D;rw [D,I.len,c9.lns j _ a0,d1 j id E]
      ·have D:Hk[id]? =some (.dd 0):=hP.ok j id m E;have X:K[j]? =some (K[j]' aA0):=aJ aA0;rcases vQ (h8 j _ _ E X) rfl with⟨he,_⟩|⟨m,e,b,t,l,cs,_,_,I⟩
       ·cases he
       ·rw [M]at D;rw [aP D,Q id G];have N:=d0 id _ I;exact N
     ·rw [M]at J;cases J;cases hx:Hk[id]<;>rw [hx]at hd<;>first|trivial|cases hd
    |false=>
     rcases P9 A with rfl|⟨m,rfl⟩
     ·have a0:Hc[j]? =some (Hc[j]' aA0):=aJ aA0;obtain⟨⟨o3,D,I⟩,e6⟩:=hP.ow j id _ E a0;have D:Hk[id]? =some o3:=D;obtain⟨N,r,Y,c4⟩:=c9.2 j _ a0;have he:Hk[id]=o3:=by rw [M]at D;exact aP D
      refine⟨r,fun o a1=> ?_, ?_,fun b O=>⟨j,r, ?_, ?_,O⟩⟩
      ·rw [D]at a1;cases a1;exact⟨by rw [I.len,N,d1 j id E],UX I (d1 j id E) e6 c4⟩
      ·exact(e4.res r (aG Y)).1
      ·simp only [src,G,eM,p,M,hd,aH]
      ·rw [aI (aD.1 Y).1];exact Y
     ·have J:Hk[id]? =some (.dd 0):=hP.ok j id m E;rw [M]at J;rw [aP J]at hd;cases hd
   |none=>
    have g3:=g8 id p;have e3:Hk[id]? =S.H[id]? :=hP.ot id G g3;obtain⟨N,r,Y,c4⟩:=hM.2 id _ (aJ G);have k5:Lr[id]? =some r:=by
     show((List.range S.H.length).map _)[id]? =_
     rw [aZ,cU G];have Z:jU id (fQ ss)=false:=by
      cases Z:jU id (fQ ss)with
      |false=>rfl
      |true=>exact absurd (Oh.1 Z) g3
     simp only [Tg,Z,aH,Y,jX]
    have d5:(L2++Lr)[L2.length+id]? =some r:=by rw [aK aA0,gO];exact k5
    refine⟨r,fun o a1=> ?_,(c0.res r (aG d5)).1,fun b O=>⟨L2.length+id,r, ?_,d5,O⟩⟩
    ·rw [e3,aJ G]at a1;cases a1;exact⟨by rw [Q id G];exact N,c4.up Q G fun e cs he=>hS.ho id e cs (by rw [aJ G,he])⟩
    ·simp only [src,G,eM,p]
  ·have hi:id-S.H.length<k2:=by omega
   have a0:Hc[aS K+(id-S.H.length)]? =some (Hc[aS K+(id-S.H.length)]' aA0):=aJ aA0;obtain⟨⟨o3,D,I⟩,e6⟩:=hP.nw (id-S.H.length) _ hi a0;have D:Hk[S.H.length+(id-S.H.length)]? =some o3:=D;rw [show S.H.length+(id-S.H.length)=id by omega]at D;have f4:ρ3 id=bD (aS K+(id-S.H.length)):=by simp only [ρ3,G,cL]
   obtain⟨N,r,Y,c4⟩:=c9.2 _ _ a0;refine⟨r,fun o a1=> ?_,(e4.res r (aG Y)).1,fun b O=>⟨aS K+(id-S.H.length),r, ?_, ?_,O⟩⟩
   ·rw [D]at a1;cases a1;exact⟨by rw [I.len,N,f4],UX I f4 e6 c4⟩
   ·simp only [src,G,cL]
   ·rw [aI (aD.1 Y).1];exact Y
 obtain⟨L3,k8,g0⟩:=Dt Hk.length k1;have l7:Hp w0 S0 L3 w2:=by
  refine Go.Oe.Hp.pick ((List.range Hk.length).map src) c0 (fun id r p=> ?_) (fun x z i hx hz=> ?_)
  ·obtain⟨_,E,A⟩:=g0 id r p;refine⟨E,fun b O=> ?_⟩;obtain⟨i,V,J,D⟩:=A b O;have G:=(aD.1 p).1;exact⟨i,V,by rw [aZ,cU aA0];exact bP some J,D⟩
  ·have key:∀x,((List.range Hk.length).map src)[x]? =some (some i)->x<Hk.length/\src x=some i:=by intro x hx;obtain⟨q,E,A⟩:=map_some hx;have G:=(aD.1 E).1;rw [List.length_range]at G;rw [cU G]at E;have e:=aP E;subst e;exact⟨G,A⟩
   have cl:∀x,x<Hk.length->src x=some i->(∃s:Src,i<aS ss/\ss[i]? =some s/\s.ow=some x)\/i=L2.length+x\/(¬x<S.H.length/\i=aS K+(x-S.H.length)):=by
    intro x hx R;by_cases G:x<S.H.length
    ·simp only [src,G,eM]at R;cases p:b7 x with
     |none=>rw [p]at R;exact .inr (.inl (aP R).symm)
     |some j=>
      rw [p]at R;obtain⟨s,E,A⟩:=d6 x j p;have a5:=(aD.1 E).1;rw [aJ hx]at R;simp only at R;cases hd:Xf Hk[x]with
      |true=>rw [hd]at R;cases R
      |false=>rw [hd]at R;have e:j=i:=aP R;subst e;exact .inl ⟨s,a5,E,A⟩
    ·simp only [src,G,cL]at R;exact .inr (.inr ⟨G,(aP R).symm⟩)
   obtain⟨j8,j7⟩:=key x hx;obtain⟨j6,j5⟩:=key z hz;rcases cl x j8 j7 with⟨s,E,A,J⟩|E|⟨E,A⟩<;>rcases cl z j6 j5 with⟨s2,D,I,N⟩|D|⟨D,I⟩
   ·rw [A]at I;cases I;rw [J]at N;exact aP N
   all_goals omega
 have l3:Mt w0 S0 ρ3 Hk L3:=by refine⟨k8,fun id o M=> ?_⟩;have G:=(aD.1 M).1;have hl:L3[id]? =some (L3[id]' aA0):=aJ aA0;have:=(g0 id _ hl).1 o M;exact⟨this.1,_,hl,this.2⟩
 let B:St:=⟨S.F,Hk,S.nb,S.al,rg++S.m⟩
 have i4:Rel C w0 S0 ρ3 B F w2:=by
  refine⟨fun g id hg=> ?_,fun t u hu=> ?_,fun t=> ?_,fun id e cs M c hc=> ?_,⟨L3,l7,l3⟩⟩
  ·obtain⟨E,A⟩:=hS.gl g id hg;exact⟨by show id<Hk.length;omega,by rw [Q id E];exact A⟩
  ·have hu:(S.at t).v ρ3=some u:=hu;rw [SV.up Q (hS.fo t)]at hu;exact hS.fr t u hu
  ·exact SV.cK (hS.fo t) (by show S.H.length<=Hk.length;omega)
  ·show c.ok Hk.length;rw [i1];exact hP.ho id e cs M c hc
 have b4:Nx S ρ B ρ3:=by
  have g6:∀nb al,(∀id j,id<nb->eL id j rg=true->eL id j al=true)->Le nb al ρ S.H ρ3 B.H:=fun nb al l2=>
   ⟨by show S.H.length<=Hk.length;omega,Q,fun id o hi M=>(hP.kp id o M).mono fun j hc=>l2 id j hi hc⟩
  exact⟨⟨rfl,rfl,g6 _ _ fun id j hi hc=>wJ g2 hi hc⟩,g6 _ _ fun id j _ hc=>By.2 (.inl hc),fun id j hc=>By.2 (.inr hc)⟩
 refine⟨ρ3,fun d=> ?_⟩;have l0:iS c S d a ss y=B.sM d (lD (eT (sS ss) ([],kill S.H EK) c.r y).1):=rfl;rw [l0];cases d with
 |none=>exact⟨i4,b4⟩
 |some d=>refine⟨K7 i4 (QG hP.vl hv) (ZU fun v hv=> ?_),⟨⟨b4.nb,b4.al,b4.le⟩,b4.lg,b4.mm⟩⟩;show v.ok Hk.length;rw [i1];exact hP.vo v hv
end
open Go.Wk
open Go.Ce (Tr)
open Nat renaming blt → fC, succ → mG
structure Env (C:Cx) (md:Md) (w0:World) (S0:List Nat) (GS:Ec):Prop where
 e:im C
 n:C.nn=md.n
 g:Gw GS w0 S0
 x:∀k,∀c∈C.X k,Enters C.P k/\Zw C.P GS k c
inductive LO (C:Cx) (ops:List Oper) (S:St) (o:Oper):Bool->Prop
 |none (h:o.guard=none):LO C ops S o true
 |yes (q:Nat×Bool) (dg:Nat) (h:o.guard=some q) (h1:Xs ops q.1=some dg) (h2:fC dg C.nn=true) (h3:S.at dg=.c' (.b' q.2)):LO C ops S o true
 |no (q:Nat×Bool) (dg:Nat) (h:o.guard=some q) (h1:Xs ops q.1=some dg) (h2:fC dg C.nn=true) (h3:S.at dg=.c' (.b' (!q.2))):LO C ops S o false
 |un (q:Nat×Bool) (dg:Nat) (h:o.guard=some q) (h1:Xs ops q.1=some dg) (h2:fC dg C.nn=true) (h3:S.at dg=.n'):LO C ops S o false
inductive Tv:SV->Bool->Prop
 |b (x:Bool):Tv (.c' (.b' x)) x
 |d (p:Prop) (h:Decidable p):Tv (.c' (.d' p h)) (@decide p h)
 |e (p:Prop) (h:Decidable p):Tv (.c' (.e' p h)) (!@decide p h)
theorem tv_v{v:SV}{b:Bool}(h:Tv v b)(ρ:Nat->Ad):v.v ρ=some (.bool b):=by cases h<;>rfl
theorem fe{T:Type}{v:SV}{y n:Option T}{r:T}(h:WC v y n=some r):∃b,Tv v b/\(b=true->y=some r)/\(b=false->n=some r):=by
 unfold WC at h;split at h
 ·rename_i x;exact⟨x,.b x,fun e=>by subst e;exact h,fun e=>by subst e;exact h⟩
 ·rename_i p a;refine⟨_,.d p a,fun e=> ?_,fun e=> ?_⟩
  ·rw [aC (cJ e)]at h;exact h
  ·rw [aB (fB e)]at h;exact h
 ·rename_i p a;refine⟨_,.e p a,fun e=> ?_,fun e=> ?_⟩
  ·have:¬p:=by simpa using e
   rw [aB this]at h;exact h
  ·have:p:=by simpa using e
   rw [aC this]at h;exact h
 ·cases h
structure V5 (C:Cx) (S:St) (o:Oper) (S2:St):Prop where
 ex:∃(cal:Call) (f:Operand) (k:Nat) (ids:List Nat) (c:Bz) (a:(fP c.a).T) (ss:List Src) (y:(fM c.r).T),o.op=.call cal/\cal.callee=.value f/\S.ev C f=.c' (.f' k ids)/\c∈C.X k/\
  FA S.H c.a (cal.args.toList.map (S.ev C)++LC ids)=some (a,ss)/\kW c S a ss=true/\(c.f a).ok y/\S2=iS c S o.dst a ss y
inductive Zx (C:Cx) (ops:List Oper) (S:St) (o:Oper):St->Prop
 |op (hg:LO C ops S o true) (ro:Ro) (h:gQ C (S.ev C) S.H o.op=some ro) (ha:Dc ro.g) (hd:Ii o.dst ro.v=true) (hm:S.yH ro.m=true):Zx C ops S o (St.sM ⟨S.F,ro.H,S.nb,S.al,ro.m++S.m⟩ o.dst ro.v)
 |mv (hg:LO C ops S o true) (x:Operand) (d:Nat) (b:Bool) (hx:TA o.op=some x) (hd:o.dst=some d) (hb:Tv (S.ev C x) b):Zx C ops S o (S.set d (.c' (.b' b)))
 |skip (hg:LO C ops S o false) (d:Nat) (hd:o.dst=some d):Zx C ops S o (S.set d .n')
 |call (hg:LO C ops S o true) (S2:St) (h:V5 C S o S2):Zx C ops S o S2
section
variable {C : Cx} {ρ' : Ty}
theorem Ix{S:St}{d:Option Nat}{vs:List SV}{b:St->Option ρ'.T}{r:ρ'.T}:∀{l:List Bz},kJ S d vs b l=some r->∃c∈l,∃a ss y,FA S.H c.a vs=some (a,ss)/\kW c S a ss=true/\(c.f a).ok y/\b (iS c S d a ss y)=some r
 |[],h=>by cases h
 |c::l,h=>by
  simp only [kJ]at h;split at h
  ·rename_i a ss e;have h:=dC h;obtain⟨y,h1,h2⟩:=Gv.K3 h.2;exact⟨c,iH,a,ss,y,e,h.1,h1,h2⟩
  ·obtain⟨g,h1,h2⟩:=Ix h;exact⟨g,fU _ h1,h2⟩
theorem UL{v:SV}{q:Nat×List Nat}(h:fnV v=some q):v=.c' (.f' q.1 q.2):=by
 unfold fnV at h;split at h
 ·cases h;rfl
 ·cases h
theorem Uw{ops:List Oper}{S:St}{o:Oper}{l:St->Option ρ'.T}{r:ρ'.T}(n:LO C ops S o true)(h:ZS C S o.dst o.op l=some r):∃S2,Zx C ops S o S2/\l S2=some r:=by
 unfold ZS at h;split at h
 ·rename_i g v H m b;split at h
  ·rename_i S2 e;unfold St.run at e;have e:=dC e;have d:=dC e.2;cases d.2;obtain⟨h1,h2⟩:=Ia h;exact⟨_,.op n _ b h1 e.1 d.1,h2⟩
  ·cases h
 ·split at h
  ·rename_i j b;split at h
   ·rename_i f q;split at h
    ·rename_i k i p;obtain⟨c,h1,a,ss,y,h2,h3,t,s⟩:=Ix h;exact⟨_,.call n _ ⟨j,f,k,i,c,a,ss,y,b,q,UL p,h1,h2,h3,t,rfl⟩,s⟩
    ·cases h
   ·cases h
  ·cases h
theorem Uv{ops:List Oper}{i:Nat}{S:St}{o:Oper}{c:St->Option ρ'.T}{r:ρ'.T}(a:LO C ops S o true)(h:ZR C ops i S o c=some r):∃S2,Zx C ops S o S2/\c S2=some r:=by
 unfold ZR at h;cases e:yq ops i with
 |false=>rw [e]at h;exact Uw a h
 |true=>
  rw [e]at h;simp only [aL]at h;split at h
  ·rename_i x hx;split at h
   ·rename_i d f;obtain⟨b,h1,h2,h3⟩:=fe h;refine⟨_,.mv a x d b hx f h1, ?_⟩;cases b with
    |true=>exact h2 rfl
    |false=>exact h3 rfl
   ·cases h
  ·exact Uw a h
theorem Uu{ops:List Oper}{i:Nat}{S:St}{o:Oper}{j:St->Option ρ'.T}{r:ρ'.T}(h:IN C ops i S o j=some r):∃S2,Zx C ops S o S2/\j S2=some r:=by
 unfold IN at h;split at h
 ·rename_i k;exact Uv (.none k) h
 ·rename_i q f;split at h
  ·rename_i dg c;have h:=dC h;have h2:=h.2;split at h2
   ·rename_i x hx;cases a:K2 x q.2 with
    |true=>
     rw [a]at h2;have e:x=q.2:=by unfold K2 at a;cases x<;>cases b:q.2<;>rw [b]at a<;>first|rfl|cases a
     rw [e]at hx;exact Uv (.yes q dg f c h.1 hx) h2
    |false=>
     rw [a]at h2;have e:x= !q.2:=by unfold K2 at a;cases x<;>cases b:q.2<;>rw [b]at a<;>first|rfl|cases a
     rw [e]at hx;simp only [aH]at h2;split at h2
     ·rename_i d g;exact⟨_,.skip (.no q dg f c h.1 hx) d g,h2⟩
     ·cases h2
   ·rename_i hx;split at h2
    ·rename_i d g;exact⟨_,.skip (.un q dg f c h.1 hx) d g,h2⟩
    ·cases h2
   ·cases h2
  ·cases h
end
section
variable {C : Cx} {md : Md} {w0 w : World} {S0 : List Nat} {ρ : Nat -> Ad} {S : St} {F : Nat -> Value} {GS : Ec}
theorem Hz{ops:Array Oper}{g:Nat}{dg:Nat}(h:Xs ops.toList g=some dg):(ops[g]?).bind (·.dst)=some dg:=by
 unfold Xs at h;rw [fW]at h;cases a:ops[g]? with
 |none=>rw [show ops.toList[g]? =none by simpa using a]at h;cases h
 |some o=>rw [show ops.toList[g]? =some o by simpa using a]at h;exact h
theorem DX(c:C.nn=md.n)(d:Rel C w0 S0 ρ S F w):∀{l:List Operand} {r:List (Option Value)} {a:List Value},(l.map (S.ev C)).map (SV.v ρ)++r=a.map some->∃b,a=l.map (aW md F)++b/\r=b.map some
 |[],r,a,h=>⟨a,rfl,h⟩
 |x::l,r,a,h=>by
  cases a with
  |nil=>cases h
  |cons u a=>simp only [tM,LX,fX]at h;obtain⟨b,h1,h2⟩:=DX c d (l:=l) h.2;refine⟨b, ?_,h2⟩;rw [h1,tM,LX,(Sj d c x).2 u h.1]
theorem VS:∀(a:List Nat),(LC a).map (SV.v ρ)=(a.map fun id=>gM (ρ id).b 0).map some
 |[]=>rfl
 |id::a=>by show some (gM (ρ id).b 0)::(LC a).map (SV.v ρ)=_;rw [VS a];rfl
theorem wO{α:Type}:∀{a b:List α},a.map some=b.map some->a=b
 |[],[],_=>rfl
 |[],_::_,h=>by cases h
 |_::_,[],h=>by cases h
 |x::a,y::b,h=>by simp only [tM,fX,aV]at h;rw [h.1,wO h.2]
theorem Zd(O:Env C md w0 S0 GS){ops:Array Oper}{o:Oper}{S2:St}(h:Zx C ops.toList S o S2)(s:Rel C w0 S0 ρ S F w)(Q:Exit->Act->World->Prop)(rest:List Oper)
  (I:∀bD F2 w2,Rel C w0 S0 bD S2 F2 w2->Nx S ρ S2 bD->(∀t,o.dst≠some t->F2 t=F t)->(∀d,o.guard=none->o.dst=some d->kU o.op=true->∃w3,(execOp (aW md F) o).run C.P w=.ok (.value (F2 d)) w3)->W C.P md ops Q rest F2 w2):W C.P md ops Q (o::rest) F w:=by
 have B:=O.n;obtain⟨l,op,ty,pos,after,gd⟩:=o;have E:LO C ops.toList S ⟨l,op,ty,pos,after,gd⟩ true->W C.P md ops Q (⟨l,op,ty,pos,after,none⟩::rest) F w->W C.P md ops Q (⟨l,op,ty,pos,after,gd⟩::rest) F w:=by
  intro r K;cases r with
  |none h=>have h:gd=none:=h;subst h;exact K
  |yes q dg h h1 h2 h3=>have h:gd=some q:=h;subst h;obtain⟨g,b⟩:=q;exact AH dg (Hz h1) (by rw [<-B];exact h2) (s.fr dg (.bool b) (by rw [h3];rfl)) K
 cases h with
 |op r ro h N p hm=>refine E r (ZK O.e B s h N hm p ops Q rest fun bD F2 w2 h1 h2 h3 h4=>I bD F2 w2 h1 h2 h3 fun d j D T=> ?_);have j:gd=none:=j;subst j;exact h4 d D T
 |mv r x d b hx p hb=>
  have p:l=some d:=p;subst p;obtain⟨h1,h2⟩:=Sj s B x;have H:aW md F x=.bool b:=h2 _ (tv_v hb ρ);refine E r ?_;have m:Rel C w0 S0 ρ (S.set d (.c' (.b' b))) (dN F d (.bool b)) w:=K7 s rfl (fun i hi=>by cases hi);have u:(execOp (aW md F) (⟨some d,op,ty,pos,after,none⟩:Oper)).run C.P w=.ok (.value (.bool b)) w:=by
   cases op<;>first|cases hx|skip
   ·rw [<-H];rfl
   ·rw [<-H];rfl
  refine fA rfl rfl u (I ρ _ w m ⟨⟨rfl,rfl,Le.refl⟩,Le.refl,fun _ _ h=>h⟩ HE fun d2 j D _=>⟨w, ?_⟩);have j:gd=none:=j;subst j;cases D;rw [L4];exact u
 |skip r d p=>
  have p:l=some d:=p;subst p;have m:Rel C w0 S0 ρ (S.set d .n') (dN F d undef) w:=K7 s rfl trivial;have K:=I ρ _ w m ⟨⟨rfl,rfl,Le.refl⟩,Le.refl,fun _ _ h=>h⟩ HE (fun d2 j _ _=>by cases r<;>(rename_i h _ _ _;rw [h]at j;cases j));cases r with
  |no q dg h h1 h2 h3=>have h:gd=some q:=h;subst h;obtain⟨g,b⟩:=q;exact P1 dg (Hz h1) (by rw [<-B];exact h2) (s.fr dg (.bool (!b)) (by rw [h3];rfl)) K
  |un q dg h h1 h2 h3=>have h:gd=some q:=h;subst h;obtain⟨g,b⟩:=q;exact P0 dg (Hz h1) (by rw [<-B];exact h2) (s.fr dg undef (by rw [h3];rfl)) K
 |call r _ h=>
  obtain⟨M,f,k,G,c,a,ss,y,A,X,V,hc,hr,U,hy,rfl⟩:=h;have A:op=.call M:=A;subst A;obtain⟨callee,fE,ts⟩:=M;have X:callee=.value f:=X;subst X;refine E r ?_;obtain⟨L,hF⟩:=O.x k c hc;obtain⟨R,h1,h2⟩:=J4 s O.g hF hr U hy;rw [Om,VS]at h1;obtain⟨u2,h3,h4⟩:=DX B s h1;have h5:=wO h4;have J:aW md F f=.func (.func k) #[] (G.map fun id=>gM (ρ id).b 0).toArray:=(mC s B V).2;have N: #[]++fE.map (aW md F)++(G.map fun id=>gM (ρ id).b 0).toArray=R.toArray:=by rw [h3,<-h5];apply vC.1;simp
  cases l with
  |none=>refine YT k _ R _ L J N h2 fun v w2 z=> ?_;obtain⟨ρ3,z⟩:=z;obtain⟨Z,Y⟩:=z none;exact I ρ3 F w2 Z Y (fun _ _=>rfl) (fun d _ p=>by cases p)
  |some d=>refine oX k _ R _ L J N h2 fun v w2 z=> ?_;obtain⟨ρ3,z⟩:=z;obtain⟨Z,Y⟩:=z (some d);exact I ρ3 _ w2 Z Y HE (fun d2 _ _ T=>by cases T)
theorem vH{o:Oper}{l:List Oper}{t:Nat}:t∈Ba (o::l)↔o.dst=some t\/t∈Ba l:=by
 simp only [Ba];cases a:o.dst with
 |none=>simp
 |some d=>simp only [aN,aV];exact or_congr_left ⟨fun h=>h.symm,fun h=>h.symm⟩
theorem zF{t:Nat}:∀{l:List Operand},t∈wH l↔Operand.tmp t∈l
 |[]=>by simp [wH]
 |x::l=>by cases x<;>simp [wH,zF (l:=l)]
def RanL(C:Cx)(md:Md)(ops:List Oper)(b:Nat)(F:Nat->Value):Prop:=∀(i d:Nat) (o:Oper),b<=i->RP ops i=true->ops[i]? =some o->o.dst=some d->∃a w2,(execOp (aW md F) o).run C.P a=.ok (.value (F d)) w2
theorem QT{op:Op}(h:kU op=true):∀cs b,op≠.select cs b:=fun cs b e=>by subst e;cases h
theorem UT{F2:Nat->Value}{x:Operand}(h:∀t,x=.tmp t->F2 t=F t):aW md F2 x=aW md F x:=by
 cases x with
 |tmp t=>simp only [aW,h t rfl]
 |_=>rfl
theorem Ql(L:Env C md w0 S0 GS){ops:Array Oper}{ρ':Ty}{v:St->Option ρ'.T}{r:ρ'.T}{Q:Exit->Act->World->Prop}:∀(l:List Oper) (i:Nat) (S:St) (ρ:Nat->Ad) (F:Nat->Value) (w:World),l=ops.toList.drop i->AY C ops.toList l i S v=some r->Rel C w0 S0 ρ S F w->
  (∀S2 bD F2 w2,v S2=some r->Rel C w0 S0 bD S2 F2 w2->Nx S ρ S2 bD->(∀t,t∉Ba l->F2 t=F t)->RanL C md ops.toList i F2->Q .normal (fr md F2) w2)->W C.P md ops Q l F w
 |[],i,S,ρ,F,w,s,h,G,y=>iQ (y S ρ F w h G Nx.refl (fun _ _=>rfl) (fun j d o X _ m _=>by have:ops.toList.drop i=[]:=s.symm;rw [List.drop_eq_nil_iff]at this;have:=(aD.1 m).1;omega))
 |o::l,i,S,ρ,F,w,s,h,G,y=>by
  obtain⟨S2,h1,h2⟩:=Uu (show IN C ops.toList i S o (fun S2=>AY C ops.toList l (mG i) S2 v)=some r from h);have k:ops.toList[i]? =some o:=by have:=bP (fun l=>l[0]?) s;simpa using this.symm
  have n:l=ops.toList.drop (i+1):=by have:=bP List.tail s;simpa using this
  refine Zd L h1 G Q l fun bD F2 w2 E Z K V=>Ql L l (i+1) S2 bD F2 w2 n h2 E fun S3 ρ3 N R h3 D H c g=> ?_;refine y S3 ρ3 N R h3 D (Z.trans H) (fun t f=> ?_) (fun j d U X a m u=> ?_)
  ·rw [vH]at f;rw [c t (fun b=>f (.inr b)),K t (fun b=>f (.inl b))]
  ·by_cases z:j=i
   ·subst z;rw [k]at m;cases m
    unfold RP at a;rw [fW,k]at a;simp only [u]at a;have J:=gJ a;have I:=gJ J.2;have e:=I.2;have A:o.guard=none:=by
     cases Y:o.guard with
     |none=>rfl
     |some q=>rw [Y]at J;cases J.1
    rw [lL,<-n]at e;cases p:jU d (Ba l)with
    |true=>rw [p]at e;cases e
    |false=>
     rw [p]at e;simp only [aH]at e;have h7:=qL.1 e;obtain⟨O,h8⟩:=V d A u I.1;have B:N d=F2 d:=c d fun b=>by rw [Oh.2 b]at p;cases p
     refine⟨w,O, ?_⟩;rw [B,execOp_congr o (QT I.1) (ρ':=aW md F) fun x hx=> ?_]
     ·exact h8
     ·refine UT fun t f=> ?_;subst f;have M:=h7 t (zF.2 aD8);rw [c t (fun b=>M (fU _ b)),K t (fun b=>M (by rw [u]at b;cases b;exact iH))]
   ·exact g j d U aA0 a m u
theorem IQ(m:Env C md w0 S0 GS){id:Nat}{ops:Array Oper}:XD C md w0 S0 id ops false:=by intro ρ' S b r ρ F w Q h k f;have e:ops=ops.toList.toArray:=rfl;have h:AY C ops.toList ops.toList 0 S b=some r:=h;have j:=Ql m (Q:=Q) ops.toList 0 S ρ F w aA2 h k fun S2 bD F2 w2 h1 h2 h3 p n=>f S2 bD F2 w2 h1 h2 h3 p fun i d o a c g=>n i d o (dH _) a c g;exact CT (l:=ops.toList) j
end
open Go.Wk
open Go.Ce (Tr)
open Go.Op renaming operands → kA
open Nat renaming beq → cP
section
variable {C : Cx} {ev MG : Operand -> SV}
theorem qJ{sz:Nat->Option (Nat×Nat)}:∀{a:List (Nat×Operand)} {l:List SC},(∀p∈a,ev p.2=MG p.2)->Bq sz ev a l=Bq sz MG a l
 |[],l,h=>rfl
 |p::a,l,h=>by
  simp only [Bq];rw [h p iH];split
  ·split
   ·rw [qJ fun q b=>h q (fU _ b)]
   ·rfl
  ·rfl
theorem map_congr{l:List Operand}(h:∀x∈l,ev x=MG x):l.map ev=l.map MG:=YE h
theorem WG{H:List Ob}{b:Builtin}{fE:List Operand}{a:List Nat}(h:∀x∈fE,ev x=MG x):CY C ev H b fE a=CY C MG H b fE a:=by
 match fE with
 |[]=>cases b<;>rfl
 |[x]=>
  have e:=h x aA2;cases b<;>simp only [CY]
  ·match a with
   |[]=>rfl
   |[t]=>simp only [e]
   |_::_::_=>rfl
 |[x,y]=>have e:=h x aA2;have c:=h y aA2;cases b<;>first|(rcases a with _|⟨t,_|⟨t2,_|⟨t3,a⟩⟩⟩<;>simp only [CY,e,c];done)|simp only [CY,e,c]
 |_::_::_::_=>cases b<;>rfl
theorem Mh{H:List Ob}{op:Op}(h:∀x∈op.operands,ev x=MG x):gQ C ev H op=gQ C MG H op:=by
 cases op<;>first|rfl|skip
 case move x=>simp only [gQ,h x aB4]
 case assign x=>simp only [gQ,h x aB4]
 case pick c a b=>simp only [gQ,h c aB4,h a aB4,h b aB4]
 case binOp b t x y t'=>simp only [gQ,h x aB4,h y aB4]
 case unOp u t x=>cases u<;>first|rfl|simp only [gQ,h x aB4]
 case convert s t x=>simp only [gQ,h x aB4]
 case index t x ix=>simp only [gQ,h x aB4,h ix aB4]
 case slice t x q l o=>
  cases o with
  |some m=>rfl
  |none=>
   have e:=h x aB4;cases q with
   |none=>cases l with
    |none=>simp only [gQ,uB,e]
    |some j=>simp only [gQ,uB,e,h j aB4]
   |some i=>cases l with
    |none=>simp only [gQ,uB,e,h i aB4]
    |some j=>simp only [gQ,uB,e,h i aB4,h j aB4]
 case extract x i=>simp only [gQ,h x aB4]
 case field t x f=>simp only [gQ,h x aB4]
 case box e x=>simp only [gQ,h x aB4]
 case load t x=>simp only [gQ,h x aB4]
 case store t x y=>simp only [gQ,h x aB4,h y aB4]
 case fieldAddr t x f=>simp only [gQ,h x aB4]
 case indexAddr t x ix=>simp only [gQ,h x aB4,h ix aB4]
 case nilCheck x=>simp only [gQ,h x aB4]
 case makeSlice t x y=>simp only [gQ,h x aB4,h y aB4]
 case build t d=>
  have e:∀p∈d.toList,ev p.2=MG p.2:=fun p g=>h p.2 (by simp only [kA,List.mem_toArray,cG];exact⟨p,g,rfl⟩);simp only [gQ,Ds];split
  ·rw [qJ e]
  ·rfl
 case buildSlice t n d=>
  have e:∀p∈d.toList,ev p.2=MG p.2:=fun p g=>h p.2 (by simp only [kA,List.mem_toArray,cG];exact⟨p,g,rfl⟩);simp only [gQ,fz];split
  ·split
   ·rw [qJ e]
   ·rfl
  ·rfl
 case makeFunc f a b=>
  have e:b.toList.map ev=b.toList.map MG:=map_congr fun x hx=>h x (by simp only [kA,vD];exact .inr aD8);simp only [gQ,Qm,e]
 case call c=>
  obtain⟨callee,fE,k⟩:=c;cases callee<;>first|rfl|skip
  rename_i b;show CY C ev H b fE.toList k.toList=CY C MG H b fE.toList k.toList;exact WG fun x hx=>h x (by simp only [kA,Call.operands,vD];exact .inr aD8)
end
def N1(H H2:List Ob)(a:List Nat):Prop:=∀id∈a,∀o,eK H id=some o->eK H2 id=some o
section
variable {C : Cx} {ev : Operand -> SV} {H H2 : List Ob}
theorem Bh{r:Rv}{ro:Ro}(h:Fs H r=some ro):ro.H=H/\ro.m=[]/\Fs H2 r=some ⟨ro.g,ro.v,H2,[]⟩:=by obtain⟨g,v,h1,rfl⟩:=Zv h;rw [h1];exact⟨rfl,rfl,rfl⟩
theorem kQ{r:Option SV}{ro:Ro}(h:kR H r=some ro):ro.H=H/\ro.m=[]/\kR H2 r=some ⟨ro.g,ro.v,H2,[]⟩:=by obtain⟨v,h1,rfl⟩:=WS h;rw [h1];exact⟨rfl,rfl,rfl⟩
theorem Qi{t:Ty}{l:List t.T}{j:Int}{sz off n:Nat}{a:Bool}{ro:Ro}(h:pO H t l j sz off n a=some ro):ro.H=H/\ro.m=[]/\pO H2 t l j sz off n a=some ⟨ro.g,ro.v,H2,[]⟩:=by
 unfold pO at h⊢;split at h
 ·rename_i v b;have h:=dC h;cases h.2;simp only [h.1,aL,and_self]
 ·cases h
theorem bg{t:Nat}{c:SC}{ro:Ro}(h:jE C H t c=some ro)(p:N1 H H2 (Lb (.c' c))):ro.H=H/\ro.m=[]/\jE C H2 t c=some ⟨ro.g,ro.v,H2,[]⟩:=by
 unfold jE at h⊢;split at h
 ·rename_i n a s u;cases k:cP n 0 with
  |true=>rw [k]at h;cases h
  |false=>
   rw [k]at h;simp only [aH]at h⊢;split at h
   ·rename_i id off;split at h
    ·rename_i e cs f;rw [p id aE9 _ f];exact kQ h
    ·cases h
   ·rename_i id j sz off;have key:∀o,eK H id=some o->eK H2 id=some o:=p id aE9;split at h
    ·rename_i e b t' l f;rw [key _ f];exact Qi h
    ·rename_i t' l f;rw [key _ f];simp only;cases d:pO H t' l j sz off n a with
     |some r=>rw [d]at h;cases h;obtain⟨h1,h2,h3⟩:=Qi (H2:=H2) d;rw [h3];exact⟨h1,h2,rfl⟩
     |none=>
      rw [d]at h;have e:pO H2 t' l j sz off n a=none:=by
       unfold pO at d⊢;split
       ·rename_i v q;rw [q]at d;cases i:(bif Uh sz j t' then t'.flat else false)with
        |true=>rw [i]at d;cases d
        |false=>rfl
       ·rfl
      rw [e];have h:yO H t' l j off n a=some ro:=h;show ro.H=H/\ro.m=[]/\yO H2 t' l j off n a=some ⟨ro.g,ro.v,H2,[]⟩;unfold yO at h⊢;split at h
      ·have h:=dC h;simp only [h.1,aL];exact kQ h.2
      ·cases h
    ·rename_i m l f;rw [key _ f];exact Qi h
    ·cases h
   ·cases h
 ·cases h
theorem bj{id m:Nat}(h:JQ H id=some m)(b:∀o,eK H id=some o->eK H2 id=some o):JQ H2 id=some m:=by
 unfold JQ at h⊢;split at h
 ·rename_i a;rw [b _ a];exact h
 ·rename_i a;rw [b _ a];exact h
 ·rename_i a;rw [b _ a];exact h
 ·cases h
theorem qh{t:Nat}{x ix:SC}{ro:Ro}(h:U5 C H t x ix=some ro)(c:N1 H H2 (Lb (.c' x))):ro.H=H/\ro.m=[]/\U5 C H2 t x ix=some ⟨ro.g,ro.v,H2,[]⟩:=by
 unfold U5 at h⊢;split at h
 ·rename_i j i;split at h
  ·rename_i e d;split at h
   ·rename_i sz a;split at h
    ·rename_i id;split at h
     ·rename_i m b;cases h;rw [bj b (c id aE9)];exact⟨rfl,rfl,rfl⟩
     ·cases h
    ·cases h;exact⟨rfl,rfl,rfl⟩
    ·cases h
   ·cases h
  ·rename_i d;split at h
   ·rename_i q f;split at h
    ·rename_i sz a;split at h
     ·have h:=dC h;cases h.2;simp only [h.1,aL,and_self]
     ·have h:=dC h;have h2:=dC h.2;have h3:=dC h2.2;cases h3.2;simp only [h.1,h2.1,h3.1,aL,and_self]
     ·cases h
    ·cases h
   ·cases h
 ·cases h
theorem et{t:Ty}{x:SC}{l:List t.T}(h:tB H t x=some l)(b:N1 H H2 (Lb (.c' x))):tB H2 t x=some l:=by
 unfold tB at h⊢;split at h
 ·exact h
 ·rename_i id;have key:∀o,eK H id=some o->eK H2 id=some o:=b id aE9;cases a:eK H id with
  |none=>rw [a]at h;cases h
  |some o=>rw [a]at h;rw [key o a];exact h
 ·rename_i id m;have key:∀o,eK H id=some o->eK H2 id=some o:=b id aE9;split at h
  ·rename_i e cs a;rw [key _ a];exact h
  ·cases h
 ·cases h
theorem bz{t:Nat}(h:(!Xd C t)=true):II C t=none:=by
 unfold Xd at h;unfold II;split at h
 ·cases h
 ·rfl
theorem eu{s t:Nat}{x:SC}{ro:Ro}(b:(!Xd C t)=true)(h:Rt C H s t x=some ro)(d:N1 H H2 (Lb (.c' x))):ro.H=H/\ro.m=[]/\Rt C H2 s t x=some ⟨ro.g,ro.v,H2,[]⟩:=by
 have a:=bz b;unfold Rt at h⊢;split at h
 ·rename_i e f;have h:=dC h;have h2:=dC h.2;have h3:=h2.2;simp only [h.1,h2.1,aL];split at h3
  ·rename_i l c;cases h3;rw [et c d];exact⟨rfl,rfl,rfl⟩
  ·cases h3
 ·cases x with
  |s' l=>simp only [a]at h⊢;exact Bh h
  |_=>exact Bh h
theorem bk{t:Nat}{x:SC}{r:List PD×SV}(h:Qt C H t x=some r)(b:N1 H H2 (Lb (.c' x))):Qt C H2 t x=some r:=by
 unfold Qt at h⊢;split at h
 ·exact h
 ·split at h
  ·rename_i e c;split at h
   ·rename_i id _;cases a:eK H id with
    |none=>rw [a]at h;cases h
    |some o=>rw [a]at h;rw [b id aE9 o a];exact h
   ·exact h
   ·exact h
   ·cases h
  ·cases h
theorem Nq{x:Operand}{id:Nat}(hid:id∈Lb (ev x)):∀{l:List Operand},x∈l->id∈Nr ev l
 |y::l,h=>by
  rcases aN.1 h with rfl|h
  ·exact Ed _ hid
  ·exact MW _ (Nq hid h)
theorem Dq{op:Op}{ro:Ro}(j:yY C op=true)(h:gQ C ev H op=some ro)(l:N1 H H2 (Np ev op)):ro.H=H/\ro.m=[]/\gQ C ev H2 op=some ⟨ro.g,ro.v,H2,[]⟩:=by
 cases op<;>first|cases j|skip
 case move x=>exact kQ h
 case assign x=>exact kQ h
 case pick c a b=>
  obtain⟨x,h1,h2⟩:=jW (show eX (ev c) (fun x=>match x with
   |.b' t=>kR H (match(bif t then ev a else ev b)with
    |.u'=>none
    |v=>some v)
   |_=>none)=some ro from h)
  split at h2
  ·rename_i t;have:=kQ (H2:=H2) h2;simp only [gQ,h1,eX];exact this
  ·cases h2
 case binOp b t x y t'=>exact Bh h
 case unOp u t x=>cases u<;>first|cases h|exact Bh h
 case convert s t x=>
  obtain⟨c,h1,h2⟩:=jW (show eX (ev x) (Rt C H s t)=some ro from h);have:=eu (H2:=H2) j h2 (by rw [<-h1];exact l);simp only [gQ,h1,eX];exact this
 case index t x ix=>
  simp only [gQ]at h⊢;cases n:tD C t with
  |true=>rw [n]at h;exact Bh h
  |false=>
   rw [n]at h;simp only [aH]at h⊢;split at h
   ·exact Bh h
   ·cases h
 case slice t x w A o=>
  cases o with
  |some m=>cases h
  |none=>have j:tD C t=true:=j;simp only [gQ,j,aL]at h⊢;exact Bh h
 case extract x i=>
  simp only [gQ]at h⊢;split at h
  ·split at h
   ·cases h;exact⟨rfl,rfl,rfl⟩
   ·cases h
  ·cases h
 case field t x f=>
  simp only [gQ]at h⊢;split at h
  ·split at h
   ·exact kQ h
   ·cases h
  ·cases h
 case build t r=>exact kQ h
 case fieldAddr t x f=>
  obtain⟨c,h1,h2⟩:=jW (show eX (ev x) (fun a=>kR H (tm C t f a))=some ro from h);have:=kQ (H2:=H2) h2;simp only [gQ,h1,eX];exact this
 case load t x=>
  obtain⟨c,h1,h2⟩:=jW (show eX (ev x) (fun a=>jE C H t a)=some ro from h);have:=bg (H2:=H2) h2 (by rw [<-h1];exact l);simp only [gQ,h1,eX];exact this
 case indexAddr t x ix=>
  obtain⟨c,h1,h2⟩:=jW (show eX (ev x) (fun a=>eX (ev ix) fun i=>U5 C H t a i)=some ro from h);obtain⟨d,h3,q⟩:=jW h2;have:=qh (H2:=H2) q (by rw [<-h1];exact l);simp only [gQ,h1,h3,eX];exact this
 case makeFunc f a b=>exact kQ h
 case nilCheck x=>
  obtain⟨c,h1,h2⟩:=jW (show eX (ev x) (fun a=>kR H (Vw a))=some ro from h);have:=kQ (H2:=H2) h2;simp only [gQ,h1,eX];exact this
 case call c=>
  obtain⟨callee,fE,k⟩:=c;cases callee<;>first|cases j|skip
  rename_i b;have key:∀(fE:List Operand) (k:List Nat),N1 H H2 (Nr ev fE)->CY C ev H b fE k=some ro->ro.H=H/\ro.m=[]/\CY C ev H2 b fE k=some ⟨ro.g,ro.v,H2,[]⟩:=by
   clear h l;intro fE k l h;have p:∀x y,b≠.append->fE=[x,y]->ro.H=H/\ro.m=[]/\CY C ev H2 b fE k=some ⟨ro.g,ro.v,H2,[]⟩:=by intro x y n e;subst e;cases b<;>first|exact absurd rfl n|exact Bh h
   rcases fE with _|⟨x,_|⟨y,_|⟨z,fE⟩⟩⟩
   ·cases b<;>cases h
   ·cases b<;>first|cases j|skip
    ·rcases k with _|⟨t,_|⟨t2,k⟩⟩
     ·cases h
     ·obtain⟨g,v,h1,rfl⟩:=Zv (show Fs H (eX (ev x) (Qt C H t))=some ro from h);obtain⟨c,h2,h3⟩:=jW h1;refine⟨rfl,rfl, ?_⟩;show Fs H2 (eX (ev x) (Qt C H2 t))=_;rw [h2];show Fs H2 (Qt C H2 t c)=_;rw [bk h3 (fun id hid=>l id (Nq (x:=x) (by rw [h2];exact hid) iH))];rfl
     ·cases h
    ·cases h
    ·cases h
   ·exact p x y (fun e=>by subst e;cases j) rfl
   ·cases b<;>cases h
  exact key _ _ l h
end
open Go.Wk
open Go.Ce (Tr)
open Go.Op renaming operands → kA
open Nat renaming beq → cP, blt → fC
section
variable {C : Cx} {ev : Operand -> SV} {H : List Ob}
theorem WK{a x:Ob}{id:Nat}(h:H[id]? =some a):(H++[x])[id]? =some a:=by rw [aI (aD.1 h).1];exact h
theorem XT{α:Type}{l:List α}{k j:Nat}{y:α}(h:k≠j):(gU l k y)[j]? =l[j]? :=by rw [uQ,aB (fun a=>h a.1.symm)]
theorem B2{op:Op}{ro:Ro}(h:gQ C ev H op=some ro){id:Nat}{r:Ob}(f:∀q∈ro.m,q.1≠id)(hid:H[id]? =some r):ro.H[id]? =some r:=by
 cases D:yY C op with
 |true=>have:=(Dq (H2:=H) D h (fun _ _ _ h=>h)).1;rw [this];exact hid
 |false=>
  cases op<;>first|exact absurd (show true=false from D) aA2|cases h|skip
  case convert s t x=>
   obtain⟨c,h1,h2⟩:=jW (show eX (ev x) (Rt C H s t)=some ro from h);unfold Rt at h2;split at h2
   ·have h3:=(dC (dC h2).2).2;split at h3
    ·cases h3;exact hid
    ·cases h3
   ·split at h2
    ·split at h2
     ·have h3:=(dC (dC h2).2).2;cases h3;exact WK hid
     ·obtain⟨g,v,_,rfl⟩:=Zv h2;exact hid
    ·obtain⟨g,v,_,rfl⟩:=Zv h2;exact hid
  case slice t x B F N=>
   have w:tD C t=false:=D;cases N with
   |some m=>cases h
   |none=>
    have h:(bif tD C t then Fs H (eX (ev x) fun a=>uB ev B fun i=>uB ev F fun j=>CG a i j)else eX (ev x) fun a=>uB ev B fun i=>uB ev F fun j=>zH C H t a i j)=some ro:=h;rw [w]at h;obtain⟨c,h1,h2⟩:=jW (show eX (ev x) (fun a=>uB ev B fun i=>uB ev F fun j=>zH C H t a i j)=some ro from h);have key:∀i j,zH C H t c i j=some ro->ro.H[id]? =some r:=fun i j E=>by obtain⟨u,L,τ,l,_,_,_,_,_,G⟩:=zG E;rcases G with⟨b,k,_,_,_,rfl⟩|⟨b,k,_,_,_,rfl⟩<;>exact WK hid
    rcases ML h2 with⟨d,p⟩|⟨o,b,d,p,O⟩
    ·rcases ML p with⟨J,A⟩|⟨r,P,J,A,I⟩
     ·exact key _ _ A
     ·exact key _ _ I
    ·rcases ML O with⟨J,A⟩|⟨r,P,J,A,I⟩
     ·exact key _ _ A
     ·exact key _ _ I
  case alloc e=>
   simp only [gQ]at h;split at h
   ·cases h;exact WK hid
   ·cases h
  case box e x=>
   simp only [gQ]at h;split at h
   ·cases h;exact WK hid
   ·cases h
  case buildSlice t n R=>
   simp only [gQ,fz]at h;split at h
   ·split at h
    ·have h3:=(dC (dC h).2).2;split at h3
     ·cases h3;exact WK hid
     ·cases h3
    ·cases h
   ·cases h
  case store t x y=>
   obtain⟨c,h1,h2⟩:=jW (show eX (ev x) (fun a=>wI C H t a (ev y))=some ro from h);unfold wI at h2;split at h2
   ·rename_i n Q _ _;have h2:=(dC h2).2;split at h2
    ·split at h2
     ·split at h2
      ·cases h2;rw [XT (f _ iH)];exact hid
      ·cases h2
     ·cases h2
    ·rename_i u j sz off;cases K:cP n 0 with
     |true=>rw [K]at h2;cases h2
     |false=>
      rw [K]at h2;simp only [aH]at h2;split at h2
      ·split at h2
       ·have h3:=(dC h2).2;cases h3;rw [XT (f _ iH)];exact hid
       ·cases h2
      ·split at h2
       ·split at h2
        ·have h3:=(dC h2).2;cases h3;rw [XT (f _ iH)];exact hid
        ·cases h2
       ·cases h2
      ·cases h2
    ·cases h2
   ·cases h2
  case makeSlice t x y=>
   obtain⟨a,h1,h2⟩:=jW (show eX (ev x) (fun a=>eX (ev y) fun i=>uA C H t (qi x) a i)=some ro from h);obtain⟨c,h3,d⟩:=jW h2;unfold uA at d;split at d
   ·have p:=(dC d).2;split at p
    ·cases p;exact WK hid
    ·cases p
   ·cases d
  case call c=>
   obtain⟨callee,fE,M⟩:=c;cases callee<;>first|cases h|skip
   rename_i b;have h:CY C ev H b fE.toList M.toList=some ro:=h;unfold CY at h;split at h
   ·obtain⟨g,v,_,rfl⟩:=Zv h;exact hid
   ·rename_i x y t t2 U L T;cases z:cP t t2 with
    |true=>
     rw [z]at h;obtain⟨a,h1,h2⟩:=jW h;obtain⟨c,h3,d⟩:=jW h2;unfold pS at d;split at d
     ·split at d
      ·split at d
       ·cases d;exact WK hid
       ·cases d
      ·split at d
       ·cases d;exact WK aF4
       ·cases d
      ·split at d
       ·cases d;exact WK aF4
       ·cases d
      ·cases d
     ·cases d
    |false=>
     rw [z]at h;obtain⟨a,h1,h2⟩:=jW h;obtain⟨c,h3,d⟩:=jW h2;obtain⟨S,L,_,_,_,_,G⟩:=Al d;rcases G with⟨_,rfl⟩|⟨u,l,_,_,rfl⟩
     ·exact WK hid
     ·exact WK aF4
   ·obtain⟨g,v,_,rfl⟩:=Zv h;exact hid
   ·cases h
end
theorem xV{H obs:List Ob}{a:Ob}{id:Nat}(h:H[id]? =some a):(H++obs)[id]? =some a:=by rw [aI (aD.1 h).1];exact h
theorem QR{ss:List Src}{id:Nat}{o:Ob}:∀{r:List Rk} {y:(fM r).T} {l:List SA} {H:List Ob},id∉jD ss (Rk.ids r)->H[id]? =some o->(eT (sS ss) (l,H) r y).2[id]? =some o:=by
 have one:∀(q:Rk) (v:q.ty.T) (l:List SA) (H:List Ob),id∉jD ss (Rk.ids [q])->H[id]? =some o->(q.put (sS ss) (l,H) v).2[id]? =some o:=by
  intro q v l H b a;cases q with
  |r' x=>exact xV a
  |o' j e x=>exact xV (by rw [XT (fun e=>b (by show id∈[sS ss j];rw [e];exact aE.2 rfl))];exact a)
  |w' j x=>
   show(oQ H (sS ss j) x v)[id]? =some o;unfold oQ;split
   ·rw [XT (fun e=>b (by show id∈[sS ss j];rw [e];exact aE.2 rfl))];exact a
   ·exact a
 intro r;induction r with
 |nil=>intro y l H _ a;exact a
 |cons q r f=>
  intro y l H b a;cases r with
  |nil=>exact one q y l H b a
  |cons d r=>
   have c:id∉jD ss (Rk.ids [q])/\id∉jD ss (Rk.ids (d::r)):=by
    cases q with
    |r' x=>exact⟨(fun h=>by cases h),b⟩
    |o' i e x=>exact⟨fun h=>b (aN.2 (.inl (aE.1 h))),fun h=>b (fU _ h)⟩
    |w' i x=>exact⟨fun h=>b (aN.2 (.inl (aE.1 h))),fun h=>b (fU _ h)⟩
   exact f c.2 (one q y.1 l H c.1 a)
theorem AF{H:List Ob}{l:List Nat}{id:Nat}(h:id∈l):∃q∈Jd H l,q.1=id:=⟨_,tj h,rfl⟩
theorem Iu{H:List Ob}:∀{l:List Nat} {id:Nat},id∈l->∃q∈Ry H l,q.1=id
 |x::l,id,h=>by
  rcases aN.1 h with rfl|h
  ·exact⟨_,iH,rfl⟩
  ·obtain⟨q,h1,h2⟩:=Iu (H:=H) h;exact⟨q,fU _ h1,h2⟩
section
variable {C : Cx} {ops : List Oper} {S S1 : St} {o : Oper}
theorem Mz:∀(t:Ty) (s n c:Nat) (x:t.T),t.no=0->(t.lay s n x).1=(t.lay s c x).1:=by
 intro t;induction t with
 |w' t d=>intro s n c x h;exact d s n c x h
 |pr a b g f=>
  intro s n c x h;have h1:a.no=0:=by have:a.no+b.no=0:=h;omega
  have h2:b.no=0:=by have:a.no+b.no=0:=h;omega
  show(a.lay s n x.1).1++(b.lay s (n+a.no) x.2).1=(a.lay s c x.1).1++(b.lay s (c+a.no) x.2).1;rw [g s n c x.1 h1,f s (n+a.no) (c+a.no) x.2 h2]
 |f' k t d=>intro s n c x h;show [SC.f' k (iT (t.lay s n x).1)]=[SC.f' k (iT (t.lay s c x).1)];rw [d s n c x h]
 |l' e b t d=>intro s n c x h;cases h
 |y'=>intro s n c x h;cases h
 |r' t d=>intro s n c x h;cases h
 |p' e t d=>intro s n c x h;cases h
 |z'=>intro s n c x h;cases h
 |_=>intro s n c x h;rfl
theorem ZY{any:Bool}{H H2:List Ob}:∀(t:Ty) (s:Nat) (l:List SC),t.no=0->t.rd any H2 s l=t.rd any H s l/\∀x r ss,t.rd any H s l=some (x,r,ss)->ss=[]:=by
 intro t;induction t with
 |w' t d=>intro s l h;exact d s l h
 |pr a b i g=>
  intro s l h;have h1:a.no=0:=by have:a.no+b.no=0:=h;omega
  have h2:b.no=0:=by have:a.no+b.no=0:=h;omega
  obtain⟨p,o⟩:=i s l h1;simp only [Ty.rd];rw [p];cases w:a.rd any H s l with
  |none=>exact⟨rfl,fun x r ss h=>by cases h⟩
  |some q=>
   obtain⟨x,f,C⟩:=q;obtain⟨A,z⟩:=g s f h2;simp only;rw [A];cases n:b.rd any H s f with
   |none=>exact⟨rfl,fun x r ss h=>by cases h⟩
   |some v=>obtain⟨y,D,u⟩:=v;refine⟨rfl,fun x r ss h=> ?_⟩;cases h;rw [o _ _ _ w,z _ _ _ n];rfl
 |sm a b _ _=>intro s l h;exact⟨rfl,fun x r ss h=>by cases h⟩
 |l' e b t d=>intro s l h;cases h
 |y'=>intro s l h;cases h
 |r' t d=>intro s l h;cases h
 |p' e t d=>intro s l h;cases h
 |z'=>intro s l h;cases h
 |u'=>intro s l h;exact⟨rfl,fun x r ss h=>by cases h;rfl⟩
 |o' j=>
  intro s l h;refine⟨rfl,fun x r ss h=> ?_⟩;simp only [Ty.rd]at h;split at h
  ·have:=dC h;cases this.2;rfl
  ·cases h
 |f' k t d=>
  intro s l h;have h:t.no=0:=h;simp only [Ty.rd];split
  ·rename_i k' m f;obtain⟨p,o⟩:=d s (m.map fun id=>.p' id 0) h;rw [p];refine⟨rfl,fun x r ss h=> ?_⟩;have h:=(dC h).2;split at h
   ·rename_i B u n;cases h;have:=dC n;exact o _ _ _ this.2
   ·cases h
  ·exact⟨rfl,fun x r ss h=>by cases h⟩
 |_=>intro s l h;refine⟨rfl,fun x r ss h=> ?_⟩;obtain⟨c,_,_,h3⟩:=lV h;exact h3
theorem Vh{any:Bool}{H H2:List Ob}{x:Ty}{v:SV}(h:x.no=0):IS any H2 x v=IS any H x v/\∀y ss,IS any H x v=some (y,ss)->ss=[]:=by
 have key:∀l,Kx (x.rd any H2 0 l)=Kx (x.rd any H 0 l)/\∀y ss,Kx (x.rd any H 0 l)=some (y,ss)->ss=[]:=by
  intro l;obtain⟨d,b⟩:=ZY (any:=any) (H:=H) (H2:=H2) x 0 l h;rw [d];refine⟨rfl,fun y ss h=> ?_⟩;unfold Kx at h;split at h
  ·rename_i a;cases h;exact b _ _ _ a
  ·cases h
 cases v with
 |c' c=>simp only [IS];cases x.tz<;>cases x.agg<;>simp only [aL,aH]<;>first|exact key _|exact⟨rfl,fun y ss h=>by cases h⟩|exact⟨trivial,fun y ss h=>by cases h⟩
 |a' l=>simp only [IS];cases x.tz<;>cases x.agg<;>simp only [aL,aH]<;>first|exact key _|exact⟨rfl,fun y ss h=>by cases h⟩|exact⟨trivial,fun y ss h=>by cases h⟩
 |_=>exact⟨rfl,fun y ss h=>by cases h⟩
theorem Fp{H H2:List Ob}:∀(l:List Ty) (vs:List SV),oJ l=true->FA H2 l vs=FA H l vs/\∀y ss,FA H l vs=some (y,ss)->ss=[]
 |[],vs,h=>by
  cases vs with
  |nil=>exact⟨rfl,fun y ss h=>by cases h;rfl⟩
  |cons v vs=>exact⟨rfl,fun y ss h=>by cases h⟩
 |[x],vs,h=>by
  have h:=gJ (show(bif cP x.no 0 then oJ []else false)=true from h);have hx:=gP h.1
  match vs with
  |[]=>exact⟨rfl,fun y ss h=>by cases h⟩
  |[v]=>exact Vh hx
  |_::_::_=>exact⟨rfl,fun y ss h=>by cases h⟩
 |x::y::l,vs,h=>by
  have h:=gJ (show(bif cP x.no 0 then oJ (y::l)else false)=true from h);have hx:=gP h.1
  match vs with
  |[]=>exact⟨rfl,fun y ss h=>by cases h⟩
  |v::vs=>
   obtain⟨j,i⟩:=Vh (any:=true) (H:=H) (H2:=H2) (v:=v) hx;obtain⟨g,f⟩:=Fp (H:=H) (H2:=H2) (y::l) vs h.2;simp only [FA];rw [j];cases e:IS true H x v with
   |none=>exact⟨rfl,fun y ss h=>by cases h⟩
   |some q=>
    obtain⟨a,m⟩:=q;simp only;rw [g];cases d:FA H (y::l) vs with
    |none=>exact⟨rfl,fun y ss h=>by cases h⟩
    |some c=>obtain⟨b,k⟩:=c;refine⟨rfl,fun y ss h=> ?_⟩;cases h;rw [i _ _ e,f _ _ d];rfl
theorem Na:∀(l:List Ty) (H:List Ob) (x:(fP l).T),oJ l=true->(hV H l x).2=H
 |[],H,x,h=>rfl
 |[t],H,x,h=>by have h:=gJ (show(bif cP t.no 0 then oJ []else false)=true from h);show H++(t.lay 0 H.length x).2=H;rw [Jz ((Ty.dZ t 0 H.length x).trans (gP h.1)),kP]
 |t::y::l,H,x,h=>by have h:=gJ (show(bif cP t.no 0 then oJ (y::l)else false)=true from h);show(hV (H++(t.lay 0 H.length x.1).2) (y::l) x.2).2=H;rw [Jz ((Ty.dZ t 0 H.length x.1).trans (gP h.1)),kP];exact Na (y::l) H x.2 h.2
theorem nL{k:Rk}{l:List Rk}(h:oI (k::l)=true):∃x,k=.r' x/\x.no=0/\oI l=true:=by
 cases k with
 |r' x=>have h:=gJ (show(bif cP x.no 0 then oI l else false)=true from h);exact⟨x,rfl,gP h.1,h.2⟩
 |_=>cases h
theorem yZ{ix:Nat->Nat}:∀(r:List Rk) (y:(fM r).T) (l:List SA) (H:List Ob),oI r=true->(eT ix (l,H) r y).2=H/\∀H2,(eT ix (l,H2) r y).1=(eT ix (l,H) r y).1
 |[],y,l,H,h=>⟨rfl,fun _=>rfl⟩
 |[k],y,l,H,h=>by
  obtain⟨x,rfl,hx,_⟩:=nL h;have e:∀n,(x.lay 0 n y).2=[]:=fun n=>Jz ((Ty.dZ x 0 n y).trans hx);refine⟨?_,fun H2=> ?_⟩
  ·show H++(x.lay 0 H.length y).2=H;rw [e,kP]
  ·show l++[x.sa (x.lay 0 H2.length y).1]=l++[x.sa (x.lay 0 H.length y).1];rw [Mz x 0 H2.length H.length y hx]
 |k::a::r,y,l,H,h=>by
  obtain⟨x,rfl,hx,c⟩:=nL h;have e:∀n,(x.lay 0 n y.1).2=[]:=fun n=>Jz ((Ty.dZ x 0 n y.1).trans hx);have b:∀H,eT ix (l,H) (.r' x::a::r) y=eT ix (l++[x.sa (x.lay 0 0 y.1).1],H) (a::r) y.2:=fun H=>by show eT ix (l++[x.sa (x.lay 0 H.length y.1).1],H++(x.lay 0 H.length y.1).2) (a::r) y.2=_;rw [e,kP,Mz x 0 H.length 0 y.1 hx]
  rw [b];obtain⟨h1,h2⟩:=yZ (a::r) y.2 (l++[x.sa (x.lay 0 0 y.1).1]) H c;refine⟨h1,fun H2=> ?_⟩;rw [b];exact h2 H2
theorem Xi:∀(r:List Rk),oI r=true->Rk.ids r=[]
 |[],h=>rfl
 |k::r,h=>by obtain⟨x,rfl,_,a⟩:=nL h;exact Xi r a
theorem Lw{H H2:List Ob}{ss:List Src}:∀(r:List Rk),oI r=true->Cf H2 ss r=Cf H ss r
 |[],h=>rfl
 |k::r,h=>by obtain⟨x,rfl,_,a⟩:=nL h;simp only [Cf];rw [Lw r a]
theorem Nu:∀{l:List Bz} {c:Bz},c∈l->GI l=true->oJ c.a=true/\oI c.r=true
 |x::l,c,b,h=>by
  have h:=gJ (show(bif oJ x.a then(bif oI x.r then GI l else false)else false)=true from h);have h2:=gJ h.2;rcases aN.1 b with rfl|b
  ·exact⟨h.1,h2.1⟩
  ·exact Nu b h2.2
theorem qP{c:Bz}{d:Option Nat}{a:(fP c.a).T}{ss:List Src}{y:(fM c.r).T}{t:Nat}:(iS c S d a ss y).at t=if d=some t then lD (eT (sS ss) ([],kill S.H (Sh (Rk.ids c.r) (hV [] c.a a).2 0 ss)) c.r y).1 else S.at t:=by have e:iS c S d a ss y=St.sM ⟨S.F,(eT (sS ss) ([],kill S.H (Sh (Rk.ids c.r) (hV [] c.a a).2 0 ss)) c.r y).2,S.nb,S.al,iF c S a ss++S.m⟩ d (lD (eT (sS ss) ([],kill S.H (Sh (Rk.ids c.r) (hV [] c.a a).2 0 ss)) c.r y).1):=rfl;rw [e,sK];rfl
theorem Sp{S:St}{d:Option Nat}{v:SV}:(S.sM d v).H=S.H/\(S.sM d v).m=S.m/\(S.sM d v).nb=S.nb/\(S.sM d v).al=S.al:=by cases d<;>exact⟨rfl,rfl,rfl,rfl⟩
theorem LG{c:Bz}{d:Option Nat}{a:(fP c.a).T}{ss:List Src}{y:(fM c.r).T}:(iS c S d a ss y).H=(eT (sS ss) ([],kill S.H (Sh (Rk.ids c.r) (hV [] c.a a).2 0 ss)) c.r y).2/\(iS c S d a ss y).m=iF c S a ss++S.m/\(iS c S d a ss y).nb=S.nb/\(iS c S d a ss y).al=S.al:=by have e:iS c S d a ss y=St.sM ⟨S.F,(eT (sS ss) ([],kill S.H (Sh (Rk.ids c.r) (hV [] c.a a).2 0 ss)) c.r y).2,S.nb,S.al,iF c S a ss++S.m⟩ d (lD (eT (sS ss) ([],kill S.H (Sh (Rk.ids c.r) (hV [] c.a a).2 0 ss)) c.r y).1):=rfl;rw [e];exact⟨Sp.1,Sp.2.1,Sp.2.2.1,Sp.2.2.2⟩
theorem jf{c:Bz}{d:Option Nat}{a:(fP c.a).T}{y:(fM c.r).T}(g:oJ c.a=true)(b:oI c.r=true):(iS c S d a [] y).H=S.H/\(iS c S d a [] y).m=S.m/\iF c S a []=[]/\∀S2:St,lD (eT (sS []) ([],kill S2.H (Sh (Rk.ids c.r) (hV [] c.a a).2 0 [])) c.r y).1=lD (eT (sS []) ([],kill S.H (Sh (Rk.ids c.r) (hV [] c.a a).2 0 [])) c.r y).1:=by
 have e:Sh (Rk.ids c.r) (hV [] c.a a).2 0 []=[]:=by rw [Na c.a [] a g];rfl
 have f:iF c S a []=[]:=by unfold iF;rw [e,Xi c.r b];rfl
 refine⟨?_, ?_,f,fun S2=> ?_⟩
 ·rw [LG.1,e];exact(yZ c.r y [] S.H b).1
 ·rw [LG.2.1,f];rfl
 ·rw [e];show lD (eT (sS []) ([],S2.H) c.r y).1=lD (eT (sS []) ([],S.H) c.r y).1;rw [(yZ c.r y [] S.H b).2 S2.H]
theorem RN{ev:Operand->SV}{H:List Ob}{op:Op}{ro:Ro}(h:gQ C ev H op=some ro)(a:qt C op=true):yY C op=true:=by
 unfold qt at a;cases b:yY C op with
 |true=>rfl
 |false=>
  rw [b]at a;simp only [aH]at a;split at a
  ·rename_i c;split at a
   ·rename_i k d;simp only [gQ,d]at h;cases h
   ·cases a
  ·cases a
theorem Iw(h:V5 C S o S1)(g:qt C o.op=true):∃b f k e c a y,o.op=.call b/\b.callee=.value f/\S.ev C f=.c' (.f' k e)/\c∈C.X k/\FA S.H c.a (b.args.toList.map (S.ev C)++LC e)=some (a,[])/\kW c S a []=true/\(c.f a).ok y/\S1=iS c S o.dst a [] y/\oJ c.a=true/\oI c.r=true:=by
 obtain⟨b,f,k,e,c,a,ss,y,i,p,j,u,t,m,v,q⟩:=h.ex;unfold qt at g;rw [i]at g;have l:yY C (.call b)=false:=by
  show(match b.callee with
   |.builtin .len=>true
   |.builtin .min=>true
   |.builtin .max=>true
   |_=>false)=false
  rw [p]
 rw [l]at g;simp only [aH,p]at g;split at g
 ·rename_i s n;cases n;have d:S.ev C (.func s)=.c' (.f' s []):=rfl;rw [d]at j;cases j;obtain⟨h1,h2⟩:=Nu u g;obtain rfl:=(Fp (H:=S.H) (H2:=S.H) c.a _ h1).2 a ss t;exact⟨b,_,_,_,c,a,y,i,p,d,u,t,m,v,q,h1,h2⟩
 ·cases g
theorem WW(h:Zx C ops S o S1):(∀t,o.dst≠some t->S1.at t=S.at t)/\S1.nb=S.nb/\S1.al=S.al:=by
 cases h with
 |op j ro h q i n=>refine⟨fun t g=> ?_,Sp.2.2.1,Sp.2.2.2⟩;rw [sK,aB g];rfl
 |mv j x d b hx i p=>exact⟨fun t g=>by rw [jM,aB (fun e=>g (by rw [i,e]))],rfl,rfl⟩
 |skip j d i=>exact⟨fun t g=>by rw [jM,aB (fun e=>g (by rw [i,e]))],rfl,rfl⟩
 |call j _ h=>obtain⟨m,f,k,l,c,a,ss,y,_,_,_,_,_,_,_,rfl⟩:=h;exact⟨fun t g=>by rw [qP,aB g],LG.2.2.1,LG.2.2.2⟩
theorem Oj(h:Zx C ops S o S1)(g:qt C o.op=true):S1.H=S.H/\S1.m=S.m:=by
 cases h with
 |op e ro h q i n=>have:=Dq (H2:=S.H) (RN h g) h (fun _ _ _ h=>h);refine⟨Sp.1.trans this.1,Sp.2.1.trans ?_⟩;show ro.m++S.m=S.m;rw [this.2.1];rfl
 |mv e x d b hx i p=>exact⟨rfl,rfl⟩
 |skip e d i=>exact⟨rfl,rfl⟩
 |call e _ h=>obtain⟨l,f,k,j,c,a,y,_,_,_,_,_,_,_,rfl,h1,h2⟩:=Iw h g;exact⟨(jf h1 h2).1,(jf h1 h2).2.1⟩
theorem HL(h:Zx C ops S o S1):∃l,S1.m=l++S.m/\∀(id:Nat) (e:Ob),(∀q∈l,q.1≠id)->eK S.H id=some e->eK S1.H id=some e:=by
 cases h with
 |op j ro h u n s=>refine⟨ro.m,Sp.2.1,fun id e g hid=> ?_⟩;rw [fW]at hid⊢;rw [Sp.1];exact B2 h g hid
 |mv j x d b hx n t=>exact⟨[],rfl,fun id e _ h=>h⟩
 |skip j d n=>exact⟨[],rfl,fun id e _ h=>h⟩
 |call j _ h=>
  obtain⟨r,f,k,p,c,a,ss,y,_,_,_,_,_,_,_,rfl⟩:=h;refine⟨iF c S a ss,LG.2.1,fun id e g hid=> ?_⟩;rw [fW]at hid⊢;rw [LG.1];refine QR (fun i=> ?_) ?_
  ·obtain⟨q,h1,h2⟩:=Iu (H:=S.H) i;exact g q (MW _ h1) h2
  ·rw [HG,aB (fun i=> ?_)]
   ·exact hid
   ·obtain⟨q,h1,h2⟩:=AF (H:=S.H) i;exact g q (Ed _ h1) h2
theorem zI{S S2:St}(a:S2.nb=S.nb)(b:S2.al=S.al):∀l,S2.yH l=S.yH l
 |[]=>rfl
 |x::l=>by show(bif S2.ok x then S2.yH l else false)=(bif S.ok x then S.yH l else false);rw [zI a b l];unfold St.ok;rw [a,b]
theorem WV(h:Zx C ops S o S1){S2:St}(ho:∀t,Operand.tmp t∈o.op.operands->S2.at t=S.at t)(V:∀t∈Nj ops o,S2.at t=S.at t)(l:S2.nb=S.nb)(n:S2.al=S.al)
  (hq:qt C o.op=true->N1 S.H S2.H (Np (S.ev C) o.op)) (L:qt C o.op=false->S2.H=S.H):
  ∃I,Zx C ops S2 o I/\(∀t,I.at t=if o.dst=some t then S1.at t else S2.at t)/\I.nb=S.nb/\I.al=S.al/\(qt C o.op=true->I.H=S2.H/\I.m=S2.m)/\(qt C o.op=false->I.H=S1.H/\∀J,S1.m=J++S.m->I.m=J++S2.m):=by
 have s:∀x∈o.op.operands,S2.ev C x=S.ev C x:=by
  intro x hx;cases x with
  |tmp t=>show(bif fC t C.nn then S2.at t else .u')=(bif fC t C.nn then S.at t else .u');rw [ho t hx]
  |_=>rfl
 have z:∀b,LO C ops S o b->LO C ops S2 o b:=by
  intro b B;have gs:∀(q:Nat×Bool) (dg:Nat),o.guard=some q->Xs ops q.1=some dg->S2.at dg=S.at dg:=by intro q dg h1 h2;refine V dg ?_;unfold Nj;rw [h1];simp only [h2,aE]
  cases B with
  |none h=>exact .none h
  |yes q dg h h1 h2 h3=>exact .yes q dg h h1 h2 aF3
  |no q dg h h1 h2 h3=>exact .no q dg h h1 h2 aF3
  |un q dg h h1 h2 h3=>exact .un q dg h h1 h2 aF3
 have T:= @Dq C;cases h with
 |op B ro h ha F hm=>
  cases i:qt C o.op with
  |true=>
   have h1:=Dq (H2:=S2.H) (RN h i) h (hq i);have h2:gQ C (S2.ev C) S2.H o.op=some ⟨ro.g,ro.v,S2.H,[]⟩:=by rw [Mh s];exact h1.2.2
   refine⟨_,.op (z _ B) ⟨ro.g,ro.v,S2.H,[]⟩ h2 ha F rfl,fun t=> ?_,Sp.2.2.1.trans l,Sp.2.2.2.trans n,fun _=>⟨Sp.1,Sp.2.1⟩,fun e=>by cases e⟩;rw [sK,sK];split<;>rfl
  |false=>
   have G:=L i;have h2:gQ C (S2.ev C) S2.H o.op=some ro:=by rw [Mh s,G];exact h
   refine⟨_,.op (z _ B) ro h2 ha F (by rw [zI l n];exact hm),fun t=> ?_,Sp.2.2.1.trans l,Sp.2.2.2.trans n,(fun e=>by cases e),fun _=>⟨by rw [Sp.1,Sp.1],fun J j=> ?_⟩⟩
   ·rw [sK,sK];split<;>rfl
   ·rw [Sp.2.1]at j⊢;have:=List.append_cancel_right j;show ro.m++S2.m=_;rw [this]
 |mv B x d b hx F hb=>
  have R:x∈o.op.operands:=by
   obtain⟨a0,op,ty,pos,after,gd⟩:=o;cases op<;>first|cases hx|skip
   ·simp [kA]
   ·simp [kA]
  have i:qt C o.op=true:=by
   obtain⟨a0,op,ty,pos,after,gd⟩:=o;cases op<;>first|cases hx|skip
   ·rfl
   ·rfl
  refine⟨_,.mv (z _ B) x d b hx F (by rw [s x R];exact hb),fun t=> ?_,l,n,fun _=>⟨rfl,rfl⟩,fun e=>by rw [i]at e;cases e⟩;rw [jM,jM,F];by_cases e:t=d
  ·subst e;simp
  ·have Y:¬(some d:Option Nat)=some t:=fun L=>e (aP L).symm;rw [aB e,aB Y]
 |skip B d F=>
  have X:∀t,(S2.set d .n').at t=if o.dst=some t then(S.set d .n').at t else S2.at t:=by
   intro t;rw [jM,jM,F];by_cases e:t=d
   ·subst e;simp
   ·have Y:¬(some d:Option Nat)=some t:=fun L=>e (aP L).symm;rw [aB e,aB Y]
  exact⟨_,.skip (z _ B) d F,X,l,n,fun _=>⟨rfl,rfl⟩,fun i=>⟨L i,fun J j=>by have j:S.m=J++S.m:=j;have:J=[]:=List.append_left_eq_self.1 j.symm;rw [this];rfl⟩⟩
 |call B _ h=>
  cases i:qt C o.op with
  |true=>
   obtain⟨u,f,k,K,c,a,y,p,P,M,W,U,w,Q,rfl,E,D⟩:=Iw h i;have N:f∈o.op.operands:=by rw [p];simp [kA,Call.operands,P]
   have O:u.args.toList.map (S2.ev C)=u.args.toList.map (S.ev C):=map_congr fun x hx=>s x (by rw [p];simp only [kA,Call.operands,vD];exact .inr aD8);have e0:∀Z:St,iF c Z a []=[]:=fun Z=>(jf (S:=Z) (d:=none) (y:=y) E D).2.2.1;have A:kW c S2 a []=true:=by unfold kW at w⊢;rw [e0,Lw (H:=S.H) c.r D];rw [e0]at w;exact w
   refine⟨_,.call (z _ B) _ ⟨u,f,k,K,c,a,[],y,p,P,by rw [s f N];exact M,W,by rw [O,(Fp (H:=S.H) (H2:=S2.H) c.a _ E).1];exact U,A,Q,rfl⟩,fun t=> ?_,LG.2.2.1.trans l,LG.2.2.2.trans n,fun _=>⟨(jf E D).1,(jf E D).2.1⟩,(fun e=>by cases e)⟩;rw [qP,qP];by_cases e:o.dst=some t
   ·rw [aC e,aC e,aC e];exact(jf (S:=S) (d:=none) E D).2.2.2 S2
   ·rw [aB e,aB e]
  |false=>
  have G:=L i;obtain⟨u,f,k,K,c,a,ss,y,p,P,M,W,U,w,Q,rfl⟩:=h;have N:f∈o.op.operands:=by rw [p];simp [kA,Call.operands,P]
  have O:u.args.toList.map (S2.ev C)=u.args.toList.map (S.ev C):=map_congr fun x hx=>s x (by rw [p];simp only [kA,Call.operands,vD];exact .inr aD8)
  have A:kW c S2 a ss=true:=by
   unfold kW at w⊢;rw [zI l n,G];have e:iF c S2 a ss=iF c S a ss:=by unfold iF;rw [G]
   rw [e];exact w
  refine⟨_,.call (z _ B) _ ⟨u,f,k,K,c,a,ss,y,p,P,by rw [s f N];exact M,W,by rw [O,G];exact U,A,Q,rfl⟩,fun t=> ?_,LG.2.2.1.trans l,LG.2.2.2.trans n,(fun e=>by cases e),fun _=>⟨?_,fun J j=> ?_⟩⟩
  ·rw [qP,qP,G];split<;>rfl
  ·rw [LG.1,LG.1,G]
  ·rw [LG.2.1]at j⊢;have:=List.append_cancel_right j;have e:iF c S2 a ss=iF c S a ss:=by unfold iF;rw [G]
   rw [e,this]
end
open Go.Wk
open Go.Ce (Tr)
open Go.Op renaming operands → kA
open Nat renaming beq → cP, succ → mG
theorem Zb:∀(l:List Oper) (A:List (List Nat)),(∃B,eZ l A=A++B)/\∀(i:Nat) (o:Oper),l[i]? =some o->(eZ l A)[A.length+i]? =some (Ct ((eZ l A).take (A.length+i)) o.after.toList)
 |[],A=>⟨⟨[],by simp [eZ]⟩,fun i o h=>by simp at h⟩
 |o::l,A=>by
  obtain⟨⟨B,h1⟩,h2⟩:=Zb l (A++[Ct A o.after.toList]);have e:eZ (o::l) A=eZ l (A++[Ct A o.after.toList]):=rfl;refine⟨⟨[Ct A o.after.toList]++B,by rw [e,h1,iI]⟩,fun i a h=> ?_⟩;cases i with
  |zero=>have h:o=a:=aB0;subst h;rw [e,h1,Dg,iI,aK (eJ _),Jr];simp
  |succ i=>have:=h2 i a aB0;rw [cB,dX,Ax,Df 1 i]at this;rw [e];exact this
theorem Er{j:Nat}:∀{l r:List Nat},j∈HY l r↔j∈l\/j∈r
 |[],r=>by simp [HY]
 |x::l,r=>by
  unfold HY;cases h:jU x r with
  |true=>have hx:=Oh.1 h;rw [aL,Er,aN];exact⟨fun h=>h.elim (fun h=>.inl (.inr h)) .inr,fun h=>h.elim (fun h=>h.elim (fun e=>.inr (e▸hx)) .inl) .inr⟩
  |false=>rw [aH,Er,aN,aN];exact⟨fun h=>h.elim (fun h=>.inl (.inr h)) (fun h=>h.elim (fun e=>.inl (.inl e)) .inr),fun h=>h.elim (fun h=>h.elim (fun e=>.inr (.inl e)) .inl) (fun h=>.inr (.inr h))⟩
theorem Zc{A:List (List Nat)}{j:Nat}:∀{l:List Edge},j∈Ct A l↔∃e∈l,Region.binds .any e=true/\(j=e.on\/j∈yI A e.on)
 |[]=>by simp [Ct]
 |e::l=>by
  have b:=Zc (A:=A) (j:=j) (l:=l);have d:(match eK A e.on with
   |some a=>a
   |none=>[])=yI A e.on:=rfl
  simp only [Ct,d];cases c:Region.binds .any e with
  |true=>simp only [aL,Er,aN,b,exists_eq_or_imp,c,true_and];exact Iff.rfl
  |false=>simp only [aH,b,aN,exists_eq_or_imp,c,Jy,false_and,false_or]
theorem mA:∀{l:List Oper} {i:Nat},Bu l i=true->∀(j:Nat) (o:Oper),l[j]? =some o->∀e∈o.after,Region.binds .any e=true->e.on<i+j
 |[],i,_,j,o,a=>by simp at a
 |x::l,i,h,j,o,a=>by
  have h:=gJ (show(bif _ then Bu l (mG i)else false)=true from h);intro e b c;cases j with
  |zero=>have a:x=o:=aC3;subst a;have:=bH.1 h.1 e aB9;rw [c]at this;simpa [hY] using this
  |succ j=>have:=mA h.2 j o aC3 e b c;omega
theorem Jf{A:List (List Nat)}{k i:Nat}(h:i<k):yI (A.take k) i=yI A i:=by unfold yI;rw [fW,fW,bO,aC h]
section
variable {l : List Oper}
theorem HI(d:Bu l 0=true){i:Nat}{o:Oper}(c:l[i]? =some o){j:Nat}:j∈yI (eZ l []) i↔∃e∈o.after,Region.binds .any e=true/\(j=e.on\/j∈yI (eZ l []) e.on):=by
 have h:=(Zb l []).2 i o c;rw [iO,Dh]at h;have e:yI (eZ l []) i=Ct ((eZ l []).take i) o.after.toList:=by unfold yI;rw [fW,h]
 rw [e,Zc];constructor
 ·rintro⟨e,b,h1,h2⟩;have a:e∈o.after:=aB9;have:=mA d i o c e a h1;rw [Jf aA0]at h2;exact⟨e,a,h1,h2⟩
 ·rintro⟨e,b,h1,h2⟩;have:=mA d i o c e b h1;refine⟨e,aB9,h1, ?_⟩;rw [Jf aA0];exact h2
theorem CW{i:Nat}(h:l[i]? =none):yI (eZ l []) i=[]:=by
 have key:∀(l:List Oper) (A:List (List Nat)),(eZ l A).length=A.length+l.length:=by
  intro l;induction l with
  |nil=>intro A;rfl
  |cons o l a=>intro A;rw [show eZ (o::l) A=eZ l (A++[Ct A o.after.toList])from rfl,a];simp;omega
 unfold yI;have h2:=List.getElem?_eq_none_iff.1 h;have h3:=key l [];rw [fW,bL (by simp at h3;omega)]
theorem CV(c:Bu l 0=true):∀(i j:Nat),j∈yI (eZ l []) i->j<i:=by
 intro i;induction i using Nat.strongRecOn with
 |_ i d=>
  intro j b;cases a:l[i]? with
  |none=>rw [CW a]at b;cases b
  |some o=>
   obtain⟨e,f,h1,h2⟩:=(HI c a).1 b;have h3:=mA c i o a e f h1;rcases h2 with rfl|h2
   ·omega
   ·have:=d e.on aA0 j h2;omega
theorem Je{ops:Array Oper}{k:Nat}{listed:Array Bool}(u:l=ops.toList.take k)(r:Bu l 0=true)(g:HeadInv .any ops k listed):∀(i:Nat) (o:Oper),l[i]? =some o->(∀e∈o.after,Region.binds .any e=true->listed.getD e.on false=true)->∀j∈yI (eZ l []) i,listed.getD j false=true:=by
 intro i;induction i using Nat.strongRecOn with
 |_ i t=>
  intro o m d j v;obtain⟨e,q,h1,h2⟩:=(HI r m).1 v;have h3:=mA r i o m e q h1;have s:=d e q h1;rcases h2 with rfl|h2
  ·exact s
  ·have x:=(aD.1 m).1;have c:e.on<l.length:=by omega
   obtain⟨f,b⟩:∃f,l[e.on]? =some f:=⟨_,aJ c⟩
   have h:ops[e.on]? =some f:=by
    have a:=b;rw [u,bO]at a;split at a
    ·simpa using a
    ·cases a
   exact t e.on aA0 _ b (fun w n p=>g.closed e.on _ h s w n p) j h2
end
theorem Mg{A:List (List Nat)}{i:Nat}{rd:List Nat}:∀{l:List Oper} {a:Nat},Gg A i rd l a=true->∀(j:Nat) (o:Oper) (d:Nat),l[j]? =some o->o.dst=some d->d∈rd->i=a+j\/Vv A i (a+j)=true
 |[],a,_,j,o,d,b=>by simp at b
 |x::l,a,h,j,o,d,b=>by
  have h:=gJ (show(bif _ then Gg A i rd l (mG a)else false)=true from h);intro e c;cases j with
  |zero=>
   have b:x=o:=aB9;subst b;have h1:=h.1;rw [e]at h1;simp only [Oh.2 c,aL]at h1;cases f:cP i a with
   |true=>exact .inl (gP f)
   |false=>rw [f]at h1;exact .inr h1
  |succ j=>have:=Mg h.2 j o d aB9 e c;rw [show mG a+j=a+(j+1)by omega]at this;exact this
theorem Gf{ops:List Oper}{A:List (List Nat)}{all:List Oper}:∀{l:List Oper} {a:Nat},wG ops A all l a=true->∀(i:Nat) (o:Oper),l[i]? =some o->Gg A (a+i) (wH o.op.operands.toList++Nj ops o) all 0=true
 |[],a,_,i,o,b=>by simp at b
 |x::l,a,h,i,o,b=>by
  have h:=gJ (show(bif _ then wG ops A all l (mG a)else false)=true from h);cases i with
  |zero=>have b:x=o:=aB9;subst b;exact h.1
  |succ i=>have:=Gf h.2 i o aB9;rw [show mG a+i=a+(i+1)by omega]at this;exact this
theorem Mq{A:List (List Nat)}{i:Nat}{q:Bool×List Nat}:∀{l:List (Bool×List Nat)} {a:Nat},Gn A i q l a=true->∀(j:Nat) (p:Bool×List Nat),l[j]? =some p->i≠a+j->Vv A i (a+j)=false->p.1=true->q.1=false/\∀x∈q.2,x∉p.2
 |[],a,_,j,p,b=>by simp at b
 |x::l,a,h,j,p,b=>by
  have h:=gJ (show(bif _ then Gn A i q l (mG a)else false)=true from h);intro f c e;cases j with
  |zero=>
   have b:x=p:=aB9;subst b;have h1:=h.1;have g:cP i a=false:=by rw [WH];simp;omega
   rw [Dg]at c;rw [g,c,e]at h1;simp only [aH,aL]at h1;cases d:q.1 with
   |true=>rw [d]at h1;cases h1
   |false=>rw [d]at h1;exact⟨rfl,qL.1 h1⟩
  |succ j=>refine Mq h.2 j p aB9 aA0 ?_ e;rw [show mG a+j=a+(j+1)by omega];exact c
theorem Wa{A:List (List Nat)}{all:List (Bool×List Nat)}:∀{l:List (Bool×List Nat)} {a:Nat},Wb A all l a=true->∀(i:Nat) (q:Bool×List Nat),l[i]? =some q->Gn A (a+i) q all 0=true
 |[],a,_,i,q,b=>by simp at b
 |x::l,a,h,i,q,b=>by
  have h:=gJ (show(bif _ then Wb A all l (mG a)else false)=true from h);cases i with
  |zero=>have b:x=q:=aB9;subst b;exact h.1
  |succ i=>have:=Wa h.2 i q aB9;rw [show mG a+i=a+(i+1)by omega]at this;exact this
theorem Mf{C:Cx}{ops:List Oper}{ρ':Ty}{c:St->List (Bool×List Nat)->Option ρ'.T}{r:ρ'.T}:∀(l:List Oper) (i:Nat) (S:St) (b:List (Bool×List Nat)),B1 C ops l i S b c=some r->
  ∃(T:Nat->St) (es:List (Bool×List Nat)),T 0=S/\(∀(j:Nat) (o:Oper),l[j]? =some o->Zx C ops (T j) o (T (j+1))/\es[j]? =some (entry C (T j) (T (j+1)) o))/\c (T l.length) (b++es)=some r
 |[],i,S,b,h=>⟨fun _=>S,[],rfl,fun j o a=>by simp at a,by rw [kP];exact h⟩
 |o::l,i,S,b,h=>by
  obtain⟨S2,h1,h2⟩:=Uu (show IN C ops i S o (fun S2=>B1 C ops l (mG i) S2 (b++[entry C S S2 o]) c)=some r from h);obtain⟨T,es,h3,f,e⟩:=Mf l (mG i) S2 _ h2;refine⟨fun j=>match j with
   |0=>S
   |j+1=>T j,entry C S S2 o::es,rfl,fun j d a=> ?_,by rw [iI]at e;exact e⟩
  cases j with
  |zero=>have a:o=d:=aC3;subst a;show Zx C ops S o (T 0)/\some (entry C S S2 o)=some (entry C S (T 0) o);rw [h3];exact⟨h1,rfl⟩
  |succ j=>exact f j d aC3
theorem Qs:∀l:List Rg,SK l=l.length
 |[]=>rfl
 |_::l=>by show mG (SK l)=_;rw [Qs l];rfl
theorem Xt:∀{a m:List Rg} {q:Rg},q∈a->q.1∈UF a.length (a++m)
 |x::a,m,q,h=>by
  show q.1∈x.1::UF a.length (a++m);rcases aN.1 h with rfl|h
  ·exact iH
  ·exact fU _ (Xt h)
section
variable {C : Cx} {md : Md} {w0 : World} {S0 : List Nat} {GS : Ec}
structure Way (C:Cx) (ops:List Oper) (l:List Oper) (T:Nat->St) (es:List (Bool×List Nat)):Prop where
 st:∀(j:Nat) (o:Oper),l[j]? =some o->Zx C ops (T j) o (T (j+1))/\es[j]? =some (entry C (T j) (T (j+1)) o)
 nd:∀(i j:Nat) (o o2:Oper) (t:Nat),l[i]? =some o->l[j]? =some o2->o.dst=some t->o2.dst=some t->i=j
variable {ops l : List Oper} {T : Nat -> St} {es : List (Bool × List Nat)}
theorem Way.at(h:Way C ops l T es)(t:Nat):∀i,i<=l.length->(∀(j:Nat) (o:Oper),l[j]? =some o->o.dst=some t->(T i).at t=if j<i then(T (j+1)).at t else(T 0).at t)/\((∀(j:Nat) (o:Oper),l[j]? =some o->o.dst≠some t)->(T i).at t=(T 0).at t)
 |0,_=>⟨fun j o _ _=>by simp,fun _=>rfl⟩
 |i+1,n=>by
  obtain⟨h1,h2⟩:=h.at t i aA0;have a:l[i]? =some (l[i]' aA0):=aJ aA0;have b:=(WW (h.st i _ a).1).1;refine⟨fun j o k m=> ?_,fun g=> ?_⟩
  ·by_cases d:j=i
   ·subst d;rw [aC aA0]
   ·have f:(l[i]' aA0).dst≠some t:=fun e=>d (h.nd j i _ _ t k a m e);rw [b t f,h1 j o k m];by_cases c:j<i
    ·rw [aC c,aC aA0]
    ·rw [aB c,aB aA0]
  ·rw [b t (g i _ a)];exact h2 g
theorem Way.nb(h:Way C ops l T es):∀i,i<=l.length->(T i).nb=(T 0).nb/\(T i).al=(T 0).al
 |0,_=>⟨rfl,rfl⟩
 |i+1,c=>by have a:l[i]? =some (l[i]' aA0):=aJ aA0;obtain⟨_,h1,h2⟩:=WW (h.st i _ a).1;obtain⟨h3,b⟩:=h.nb i aA0;exact⟨h1.trans h3,h2.trans b⟩
theorem Way.still(h:Way C ops l T es):∀(d i:Nat),i+d<=l.length->(∀(j:Nat) (o:Oper),i<=j->j<i+d->l[j]? =some o->qt C o.op=true)->(T (i+d)).H=(T i).H/\(T (i+d)).m=(T i).m
 |0,i,_,_=>⟨rfl,rfl⟩
 |d+1,i,e,b=>by obtain⟨h1,h2⟩:=h.still d i aA0 (fun j o h1 h2=>b j o h1 aA0);have a:l[i+d]? =some (l[i+d]' aA0):=aJ aA0;obtain⟨h3,c⟩:=Oj (h.st (i+d) _ a).1 (b _ _ aA0 aA0 a);exact⟨h3.trans h1,c.trans h2⟩
theorem Way.Qy(h:Way C ops l T es){id:Nat}{k:Ob}:∀(d i:Nat),i+d<=l.length->(∀(j:Nat) (o:Oper) (p:Bool×List Nat),i<=j->j<i+d->l[j]? =some o->es[j]? =some p->p.1=true->id∉p.2)->eK (T i).H id=some k->eK (T (i+d)).H id=some k
 |0,i,_,_,n=>n
 |d+1,i,t,g,n=>by
  have h1:=h.Qy d i aA0 (fun j o p h1 h2=>g j o p h1 aA0) n;have c:l[i+d]? =some (l[i+d]' aA0):=aJ aA0;obtain⟨h2,h3⟩:=h.st (i+d) _ c;have b:=g (i+d) _ _ aA0 aA0 c h3;unfold entry at b;cases a:qt C (l[i+d]' aA0).op with
  |true=>show eK (T (i+d+1)).H id=_;rw [(Oj h2 a).1];exact h1
  |false=>rw [a]at b;have b:=b rfl;obtain⟨f,s,r⟩:=HL h2;refine r id k (fun q g e=>b ?_) h1;rw [Qs,Qs,s,cB];show id∈UF (Nat.sub (f.length+(T (i+d)).m.length) (T (i+d)).m.length) (f++(T (i+d)).m);rw [show Nat.sub (f.length+(T (i+d)).m.length) (T (i+d)).m.length=f.length from Nat.add_sub_cancel _ _,<-e];exact Xt g
theorem y4{ρ:Nat->Ad}{S S2:St}{F:Nat->Value}{w:World}(h:Rel C w0 S0 ρ S F w)(b:∀t,S2.at t=S.at t)(a:S2.H=S.H):Rel C w0 S0 ρ S2 F w:=by
 refine⟨?_,fun t v c=>h.fr t v (by rw [<-b];exact c),fun t=>by rw [b,a];exact h.fo t, ?_, ?_⟩
 ·rw [a];exact h.gl
 ·rw [a];exact h.ho
 ·rw [a];exact h.mem
theorem UI{v:SV}{n id:Nat}(h:v.ok n)(hid:id∈Lb v):id<n:=by unfold Lb at hid;split at hid;all_goals first|(cases hid;done)|(have e:=aE.1 hid;subst e;exact h _ (aE.2 rfl))
theorem KM{ev:Operand->SV}{op:Op}{id:Nat}(h:id∈Np ev op):∃x∈op.operands,id∈Lb (ev x):=by
 have key:∀l:List Operand,id∈Nr ev l->∃x∈l,id∈Lb (ev x):=by
  intro l;induction l with
  |nil=>intro h;cases h
  |cons x l a=>
   intro h;rcases aU.1 (show id∈Lb (ev x)++Nr ev l from h)with h|h
   ·exact⟨x,iH,h⟩
   ·obtain⟨y,h1,h2⟩:=a h;exact⟨y,fU _ h1,h2⟩
 cases op<;>first|(cases h;done)|skip
 case load t x=>exact⟨x,by simp [kA],h⟩
 case indexAddr t x ix=>exact⟨x,by simp [kA],h⟩
 case convert s t x=>exact⟨x,by simp [kA],h⟩
 case call c=>
  obtain⟨x,h1,h2⟩:=key _ h;refine⟨x, ?_,h2⟩;simp only [kA,Call.operands,vD];exact .inr aC5
theorem min_mem:∀{U:List Nat},U≠[]->∃i∈U,∀j∈U,i<=j
 |[x],_=>⟨x,iH,fun j a=>by rw [aE.1 a];exact eJ _⟩
 |x::y::U,_=>by
  obtain⟨i,h1,h2⟩:=min_mem (U:=y::U) aA2;by_cases h:x<=i
  ·exact⟨x,iH,fun j a=>(aN.1 a).elim (fun e=>by rw [e];exact eJ _) fun a=>oA h (h2 j a)⟩
  ·exact⟨i,fU _ h1,fun j a=>(aN.1 a).elim (fun e=>by rw [e];omega) (h2 j)⟩
theorem Ms{α:Type}:∀(l:List α) (k:Nat),Yy l k=l.take k
 |[],k=>by simp [Yy]
 |x::l,0=>rfl
 |x::l,k+1=>by simp [Yy,Ms l k]
theorem Bs{ops:Array Oper}:∀{k j:Nat},Ye ops k=some j->Ao ops j=true
 |0,j,h=>by unfold Ye at h;have h:=dC h;cases h.2;exact h.1
 |k+1,j,h=>by
  unfold Ye at h;have h:=dC h;have h2:=h.2;split at h2
  ·rename_i i a;cases h2;exact Bs a
  ·cases h2;exact h.1
theorem OB:∀{l:List Oper},(Ba l).Nodup->∀(i j:Nat) (o b:Oper) (t:Nat),l[i]? =some o->l[j]? =some b->o.dst=some t->b.dst=some t->i=j
 |[],_,i,j,o,b,t,a=>by simp at a
 |x::l,h,i,j,o,b,t,a=>by
  intro f g c;have k:∀(i:Nat) (o:Oper),l[i]? =some o->o.dst=some t->t∈Ba l:=by
   intro i o a g;have n:∀{l:List Oper},o∈l->t∈Ba l:=by
    intro l;induction l with
    |nil=>intro h;cases h
    |cons y l m=>
     intro h;rw [vH];rcases aN.1 h with rfl|h
     ·exact .inl g
     ·exact .inr (m h)
   exact n (aG a)
  have h2:(Ba l).Nodup/\(x.dst=some t->t∉Ba l):=by
   simp only [Ba]at h;cases hx:x.dst with
   |none=>rw [hx]at h;exact⟨h,fun e=>by cases e⟩
   |some d=>rw [hx]at h;simp only [List.nodup_cons]at h;exact⟨h.2,fun e=>by cases e;exact h.1⟩
  cases i with
  |zero=>
   have a:x=o:=aC3;subst a;cases j with
   |zero=>rfl
   |succ j=>exact absurd (k j b aD2 c) (h2.2 g)
  |succ i=>
   cases j with
   |zero=>have f:x=b:=aD2;subst f;exact absurd (k i o aC3 g) (h2.2 c)
   |succ j=>have:=OB h2.1 i j o b t aC3 aD2 g c;omega
end
open Go.Wk
open Go.Ce (Tr)
open List renaming replicate → hC
open Nat renaming blt → fC
open _root_.Array renaming replicate → Tn
section
variable {C : Cx} {md : Md} {w0 : World} {S0 : List Nat} {GS : Ec}
variable {ops : Array Oper} {l : List Oper} {T : Nat -> St} {es : List (Bool × List Nat)} {k : Nat}
structure Mid (C:Cx) (l:List Oper) (T:Nat->St) (listed:Array Bool) (X:St):Prop where
 at1:∀(t j:Nat) (o:Oper),l[j]? =some o->o.dst=some t->X.at t=if listed.getD j false=true then(T (j+1)).at t else(T 0).at t
 at2:∀t,(∀(j:Nat) (o:Oper),l[j]? =some o->o.dst≠some t)->X.at t=(T 0).at t
 nb:X.nb=(T 0).nb
 al:X.al=(T 0).al
 hv:∃h,h<=l.length/\X.H=(T h).H/\X.m=(T h).m/\∀(j:Nat) (o:Oper),l[j]? =some o->qt C o.op=false->(listed.getD j false=true↔j<h)
theorem KS(hE:Env C md w0 S0 GS)(b7:md=⟨md.n,[],none⟩)(hl:l=ops.toList.take k)(hk:k<=ops.size)(f9:Ao ops k=true)(d1:Region.seqB .any ops (ops.size-k) k (hC k true++hC (ops.size-k) false).toArray=true)
  (hb:Bu l 0=true) (g1:wG ops.toList (eZ l []) l l 0=true) (S:Way C ops.toList l T es) (d7:Wb (eZ l []) es es 0=true) {Q:Exit->Act->World->Prop} {c7:Nat->Ad} {F0:Nat->Value}
  (e6:∀X ρ F w,Rel C w0 S0 ρ X F w->Nx (T 0) c7 X ρ->(∀t,X.at t=(T l.length).at t)->X.H=(T l.length).H->X.nb=(T l.length).nb->X.al=(T l.length).al->X.m=(T l.length).m->(∀t,t∉Ba l->F t=F0 t)->W C.P md ops Q (ops.toList.drop k) F w):
  ∀(f:Nat) (U:List Nat) (listed:Array Bool) (X:St) (ρ:Nat->Ad) (F:Nat->Value) (w:World),U.length=f->U.Nodup->(∀i,i∈U↔i<k/\listed.getD i false=false)->HeadInv .any ops k listed->Mid C l T listed X->Rel C w0 S0 ρ X F w->Nx (T 0) c7 X ρ->(∀t,t∉Ba l->F t=F0 t)->
   vI C.P .any ops Q (fun _ _ _=>True) k (fun a w=>wpList C.P ops Q (ops.toList.drop k) a w) f listed (fr md F) w:=by
 have j6:l.length=k:=by rw [hl,eI,Ca];exact HN hk
 have a0:∀i,i<k->∃o,l[i]? =some o/\ops[i]? =some o:=by
  intro i hi;have e0:i<ops.size:=To hi hk;refine⟨ops[i], ?_,fT e0⟩;have e:l[i]? =ops.toList[i]? :=by rw [hl,bO,aC hi]
  rw [e,fJ];exact fT e0
 have i5:∀{F:Nat->Value} {w:World},W C.P md ops Q (ops.toList.drop k) F w->wpList C.P ops Q (ops.toList.drop k) (fr md F) w:=by intro F w h;unfold W WR at h;rw [b7]at h;rw [b7];exact h
 intro f;induction f with
 |zero=>
  intro U listed X ρ F w hU b5 N g V hR hN hF;have i6:U=[]:=Jz hU;have E:∀i,i<k->listed.getD i false=true:=by
   intro i hi;cases hg:listed.getD i false with
   |true=>rfl
   |false=>have:=(N i).2 ⟨hi,hg⟩;rw [i6]at this;cases this
  have b9:listed=(hC k true++hC (ops.size-k) false).toArray:=by
   apply YD
   ·rw [g.size];simp;omega
   ·intro i h1 h2;rw [g.size]at h1;by_cases s:i<k
    ·have:=E i s;have e:listed.getD i false=listed[i]:=by simp [Array.getD,g.size,h1]
     rw [e]at this;rw [this];simp [List.getElem_append,s]
    ·have:=g.tail i aA0 h1;have e:listed.getD i true=listed[i]:=by simp [Array.getD,g.size,h1]
     rw [e]at this;rw [this];simp [List.getElem_append,s]
  refine⟨by rw [b9];exact d1,i5 ?_⟩
  obtain⟨h,h1,h2,h3,h4⟩:=V.hv;have b2:=S.still (l.length-h) h aA0 (fun j o k4 k3 b=>by
   cases u:qt C o.op with
   |true=>rfl
   |false=>have O:=(aD.1 b).1;have:=(h4 j o b u).1 (E j aA0);omega)
  rw [show h+(l.length-h)=l.length by omega]at b2;have d5:=S.nb l.length (eJ _);refine e6 X ρ F w hR hN (fun t=> ?_) (h2.trans b2.1.symm) (V.nb.trans d5.1.symm) (V.al.trans d5.2.symm) (h3.trans b2.2.symm) hF;obtain⟨h5,h6⟩:=S.at t l.length (eJ _);by_cases hw:∃(j:Nat) (o:Oper),l[j]? =some o/\o.dst=some t
  ·obtain⟨j,o,b,L⟩:=hw;have O:=(aD.1 b).1;rw [V.at1 t j o b L,h5 j o b L,aC (E j aA0),aC O]
  ·have hn:∀(j:Nat) (o:Oper),l[j]? =some o->o.dst≠some t:=fun j o b L=>hw ⟨j,o,b,L⟩;rw [V.at2 t hn,h6 hn]
 |succ f ih=>
  intro U listed X ρ F w hU b5 N g V hR hN hF;have e9:U≠[]:=fun e=>by rw [e]at hU;cases hU
  obtain⟨i0,g8,d6⟩:=min_mem e9;have J:=(N i0).1 g8;refine⟨fun he=> ?_,fun i hi=> ?_⟩
  ·
   obtain⟨o,M,a4⟩:=a0 i0 J.1
   have:i0∈Region.ready .any ops listed:=by
    refine mem_ready.2 ⟨getD_in (by rw [g.size];omega) J.2,o,a4,fun e c0 c2=> ?_⟩;have h1:=mA hb i0 o M e c0 c2;cases hg:listed.getD e.on false with
    |true=>rfl
    |false=>have h2:=(N e.on).2 ⟨aA0,hg⟩;have:=d6 e.on h2;omega
   rw [he]at this;cases this
  ·obtain⟨f7,o,a4,E⟩:=mem_ready.1 hi;have z:listed.getD i false=false:=getD_both f7;have s:i<k:=by
    by_cases s:i<k
    ·exact s
    ·exact absurd hi (pG f9 J.1 listed g (getD_in (by rw [g.size];omega) J.2) i aA0)
   refine⟨s, ?_⟩;obtain⟨o',M,Z⟩:=a0 i s;rw [a4]at Z;cases Z;have g6:i∈U:=(N i).2 ⟨s,z⟩;obtain⟨b1,e5⟩:=S.st i o M;have d0:∀j∈yI (eZ l []) i,listed.getD j false=true:=Je hl hb g i o M E;have e7:∀(j:Nat),j<k->listed.getD j false=true->i∉yI (eZ l []) j:=by intro j b b8 B;obtain⟨c,g2,d3⟩:=a0 j b;have:=Je hl hb g j c g2 (fun e he c2=>g.closed j c d3 b8 e he c2) i B;rw [z]at this;cases this
   have d9:∀j∈yI (eZ l []) i,j<i:=fun j b=>CV hb i j b
   have Y:∀t,t∈wH o.op.operands.toList++Nj ops.toList o->X.at t=(T i).at t:=by
    intro t ht;obtain⟨h5,h6⟩:=S.at t i aA0;by_cases hw:∃(j:Nat) (o:Oper),l[j]? =some o/\o.dst=some t
    ·obtain⟨j,c,b,L⟩:=hw;have O:=(aD.1 b).1;rw [V.at1 t j c b L,h5 j c b L];have h7:=Gf g1 i o M;rw [Dh]at h7;have h8:=Mg h7 j c t b L ht;rw [Dh]at h8;rcases h8 with rfl|h8
     ·rw [z,aB aA2,aB aA0]
     ·unfold Vv at h8;cases B:jU i (yI (eZ l []) j)with
      |true=>
       have B:=Oh.1 B;have k5:=CV hb j i B
       have:listed.getD j false=false:=by
        cases hg:listed.getD j false with
        |false=>rfl
        |true=>exact absurd B (e7 j aA0 hg)
       rw [this,aB aA2,aB aA0]
      |false=>rw [B]at h8;have d8:=Oh.1 (show jU j (yI (eZ l []) i)=true from h8);rw [d0 j d8,aC rfl,aC (d9 j d8)]
    ·have hn:∀(j:Nat) (o:Oper),l[j]? =some o->o.dst≠some t:=fun j o b L=>hw ⟨j,o,b,L⟩;rw [V.at2 t hn,h6 hn]
   have a7:∀t,Operand.tmp t∈o.op.operands->X.at t=(T i).at t:=fun t ht=>Y t (Ed _ (zF.2 (by simpa using ht)));have h0:∀t∈Nj ops.toList o,X.at t=(T i).at t:=fun t ht=>Y t (MW _ ht)
   obtain⟨h,g9,a5,e4,R⟩:=V.hv;have I:=S.nb i aA0;have a1:∀(j:Nat) (c:Oper),l[j]? =some c->qt C c.op=false->((h<=j/\j<i)\/(i<=j/\j<h))->j≠i->Vv (eZ l []) i j=false:=by
    intro j c b u c1 q;have O:=(aD.1 b).1;unfold Vv;rcases c1 with⟨h1,h2⟩|⟨h1,h2⟩
    ·have g3:listed.getD j false=false:=by
      cases hg:listed.getD j false with
      |false=>rfl
      |true=>have:=(R j c b u).1 hg;omega
     have e1:jU i (yI (eZ l []) j)=false:=by
      cases B:jU i (yI (eZ l []) j)with
      |false=>rfl
      |true=>have:=CV hb j i (Oh.1 B);omega
     have e2:jU j (yI (eZ l []) i)=false:=by
      cases B:jU j (yI (eZ l []) i)with
      |false=>rfl
      |true=>have:=d0 j (Oh.1 B);rw [g3]at this;cases this
     rw [e1,e2];rfl
    ·have b8:listed.getD j false=true:=(R j c b u).2 h2;have e1:jU i (yI (eZ l []) j)=false:=by
      cases B:jU i (yI (eZ l []) j)with
      |false=>rfl
      |true=>exact absurd (Oh.1 B) (e7 j aA0 b8)
     have e2:jU j (yI (eZ l []) i)=false:=by
      cases B:jU j (yI (eZ l []) i)with
      |false=>rfl
      |true=>have:=d9 j (Oh.1 B);omega
     rw [e1,e2];rfl
   have b6:∀(j:Nat) (c:Oper) (p:Bool×List Nat),l[j]? =some c->es[j]? =some p->p.1=true->j≠i->Vv (eZ l []) i j=false->(entry C (T i) (T (i+1)) o).1=false/\∀x∈(entry C (T i) (T (i+1)) o).2,x∉p.2:=by intro j c p b G A q r;have h1:=Wa d7 i _ e5;rw [Dh]at h1;have h2:=Mq h1 j p G aA0 (by rw [Dh];exact r) A;exact h2
   have b4:∀(j:Nat) (c:Oper) (p:Bool×List Nat),l[j]? =some c->es[j]? =some p->p.1= !(qt C c.op):=by intro j c p b G;obtain⟨_,h1⟩:=S.st j c b;rw [G]at h1;cases h1;unfold entry;cases qt C c.op<;>rfl
   have K:qt C o.op=false->X.H=(T i).H/\X.m=(T i).m:=by
    intro u;have i3:(entry C (T i) (T (i+1)) o).1=true:=by unfold entry;rw [u];rfl
    have none:∀(j:Nat) (c:Oper),l[j]? =some c->((h<=j/\j<i)\/(i<j/\j<h))->qt C c.op=true:=by
     intro j c b hc;cases d:qt C c.op with
     |true=>rfl
     |false=>exfalso;have O:=(aD.1 b).1;obtain⟨p,G⟩:∃p,es[j]? =some p:=⟨_,(S.st j c b).2⟩;have q:j≠i:=aA0;have r:=a1 j c b d aA0 q;have:=(b6 j c p b G (by rw [b4 j c p b G,d];rfl) q r).1;rw [i3]at this;cases this
    have g7:¬i<h:=fun D=>by have:=(R i o M u).2 D;rw [z]at this;cases this
    have:=S.still (i-h) h aA0 (fun j c h1 h2 b=>none j c b (.inl ⟨h1,aA0⟩));rw [show h+(i-h)=i by omega]at this;exact⟨a5.trans this.1.symm,e4.trans this.2.symm⟩
   have a3:qt C o.op=true->N1 (T i).H X.H (Np ((T i).ev C) o.op):=by
    intro u id hid o2 hg;have c0:(entry C (T i) (T (i+1)) o).2=Np ((T i).ev C) o.op:=by unfold entry;rw [u];rfl
    rw [a5];have f1:∀(j:Nat) (c:Oper) (p:Bool×List Nat),((h<=j/\j<i)\/(i<=j/\j<h))->l[j]? =some c->es[j]? =some p->p.1=true->id∉p.2:=by
     intro j c p hc b G A;have d:qt C c.op=false:=by
      have:=b4 j c p b G;rw [A]at this;cases d:qt C c.op with
      |false=>rfl
      |true=>rw [d]at this;cases this
     have q:j≠i:=fun e=>by subst e;rw [M]at b;cases b;rw [u]at d;cases d
     have r:=a1 j c b d hc q;exact(b6 j c p b G A q r).2 id (by rw [c0];exact hid)
    by_cases k6:h<=i
    ·
     have D:id<(T h).H.length:=by
      obtain⟨x,hx,h9⟩:=KM hid;have i2:X.ev C x=(T i).ev C x:=by
       cases x with
       |tmp t=>show(bif fC t C.nn then X.at t else .u')=(bif fC t C.nn then(T i).at t else .u');rw [a7 t hx]
       |_=>rfl
      have d2:=(Sj hR hE.n x).1;rw [i2,a5]at d2;exact UI d2 h9
     obtain⟨o3,Z⟩:∃o3,eK (T h).H id=some o3:=by rw [fW];exact⟨_,aJ D⟩
     have:=S.Qy (i-h) h aA0 (fun j c p h1 h2 b G A=>f1 j c p (.inl ⟨h1,aA0⟩) b G A) Z;rw [show h+(i-h)=i by omega,hg]at this;rw [Z,this]
    ·have:=S.Qy (h-i) i aA0 (fun j c p h1 h2 b G A=>f1 j c p (.inr ⟨h1,aA0⟩) b G A) hg;rw [show i+(h-i)=h by omega]at this;exact this
   obtain⟨X3,c3,b0,d4,e8,g0,e3⟩:=WV b1 a7 h0 (V.nb.trans I.1.symm) (V.al.trans I.2.symm) a3 (fun u=>(K u).1);have c8:=g.set hi s;have b3:i<listed.size:=by rw [g.size];omega
   have v:∀j,(listed.setIfInBounds i true).getD j false=if j=i then true else listed.getD j false:=by
    intro j;simp only [Array.getD_eq_getD_getElem?,Array.getElem?_setIfInBounds];by_cases e:i=j
    ·subst e;simp [b3]
    ·rw [aB e,aB (fun h=>e h.symm)]
   have c4:W C.P md ops (Exit.then (fun a' w'=>True/\vI C.P .any ops Q (fun _ _ _=>True) k (fun a w=>wpList C.P ops Q (ops.toList.drop k) a w) f (listed.setIfInBounds i true) a' w') Q) [o] F w:=by
    refine Zd hE c3 hR _ [] fun bD F2 w2 i7 i8 i1 _=>iQ ⟨trivial, ?_⟩;refine ih (U.erase i) (listed.setIfInBounds i true) X3 bD F2 w2 (by rw [List.length_erase_of_mem g6,hU];rfl) (b5.erase i) (fun j=> ?_) c8 ?_ i7 (hN.trans i8) (fun t ht=> ?_)
    ·rw [b5.mem_erase_iff,N,v];constructor
     ·rintro⟨h1,h2,h3⟩;rw [aB h1];exact⟨h2,h3⟩
     ·rintro⟨h1,h2⟩;by_cases e:j=i
      ·rw [aC e]at h2;cases h2
      ·rw [aB e]at h2;exact⟨e,h1,h2⟩
    ·refine⟨fun t j c b L=> ?_,fun t hn=> ?_,d4.trans I.1,e8.trans I.2, ?_⟩
     ·rw [b0 t,v];by_cases e:j=i
      ·subst e;rw [M]at b;cases b;rw [aC L,aC rfl,aC rfl]
      ·have g4:¬o.dst=some t:=fun e2=>e (S.nd j i c o t b M L e2);rw [aB g4,aB e];exact V.at1 t j c b L
     ·rw [b0 t,aB (hn i o M)];exact V.at2 t hn
     ·cases u:qt C o.op with
      |true=>
       obtain⟨h1,h2⟩:=g0 u;refine⟨h,g9,h1.trans a5,h2.trans e4,fun j c b d=> ?_⟩;rw [v];have q:j≠i:=fun e=>by subst e;rw [M]at b;cases b;rw [u]at d;cases d
       rw [aB q];exact R j c b d
      |false=>
       obtain⟨h1,h2⟩:=e3 u;obtain⟨mn,h3,_⟩:=HL b1;refine⟨i+1,aA0,h1, ?_,fun j c b d=> ?_⟩
       ·rw [h2 mn h3,(K u).2,h3]
       ·rw [v];have O:=(aD.1 b).1;by_cases q:j=i
        ·subst q;simp
        ·rw [aB q,R j c b d];have g7:¬i<h:=fun D=>by have:=(R i o M u).2 D;rw [z]at this;cases this
         constructor
         ·intro h4;omega
         ·intro h4;by_cases g5:j<h
          ·exact g5
          ·exfalso;obtain⟨p,G⟩:∃p,es[j]? =some p:=⟨_,(S.st j c b).2⟩;have r:=a1 j c b d (.inl ⟨aA0,aA0⟩) q;have:=(b6 j c p b G (by rw [b4 j c p b G,d];rfl) q r).1;unfold entry at this;rw [u]at this;cases this
    ·have f8:o.dst≠some t:=fun e=>ht (by
      have B:∀{l:List Oper},o∈l->t∈Ba l:=by
       intro l;induction l with
       |nil=>intro h;cases h
       |cons y l ih=>
        intro h;rw [vH];rcases aN.1 h with rfl|h
        ·exact .inl e
        ·exact .inr (ih h)
      exact B (aG M))
     rw [i1 t f8,hF t ht]
   unfold W WR at c4;rw [b7]at c4⊢;refine wpOp_mono ?_ (Gh a4 c4);rintro a' w' ⟨_,h2⟩;exact⟨trivial,h2⟩
theorem vG{t:Nat}:∀{l:List Oper},t∈Ba l↔∃o∈l,o.dst=some t
 |[]=>by simp [Ba]
 |x::l=>by rw [vH,vG (l:=l)];simp
theorem pt{S X Y:St}{ρ bD:Nat->Ad}(h:Nx S ρ X bD)(d:Y.H=X.H)(a:Y.nb=X.nb)(b:Y.al=X.al)(c:Y.m=X.m):Nx S ρ Y bD:=
 ⟨⟨a.trans h.nb,b.trans h.al,by rw [d];exact h.le⟩,by rw [d,c];exact h.lg,fun id j e=>by rw [c];exact h.mm id j e⟩
theorem VH(hE:Env C md w0 S0 GS)(d:md=⟨md.n,[],none⟩){id:Nat}{ops:Array Oper}:XD C md w0 S0 id ops true:=by
 intro ρ' S κ r ρ F w Q h x hk;have h:Rp C ops S κ=some r:=h;unfold Rp at h;have h:=dC h;have hm:=h.1;have h:=h.2;split at h
 ·rename_i k M;have c:=Bs M;have f:k<=ops.size:=by simp only [Ao,mH,bE]at c;exact c.1.2
  have h:=dC h;have p:=h.1;have h:=dC h.2;have hb:=h.1;have h:=dC h.2;have E:=lH.1 h.1;have h:=dC h.2;have B:=h.1;obtain⟨T,es,v,A,b⟩:=Mf _ _ _ _ h.2;rw [Ka]at b;have b:=dC b;have s:=b.1;have b:=b.2;have g:Yy ops.toList k=ops.toList.take k:=Ms _ _;have hW:Way C ops.toList (Yy ops.toList k) T es:=⟨A,OB E⟩
  have u:∀X bD F2 w2,Rel C w0 S0 bD X F2 w2->Nx (T 0) ρ X bD->(∀t,X.at t=(T (Yy ops.toList k).length).at t)->X.H=(T (Yy ops.toList k).length).H->X.nb=(T (Yy ops.toList k).length).nb->X.al=(T (Yy ops.toList k).length).al->X.m=(T (Yy ops.toList k).length).m->(∀t,t∉Ba (Yy ops.toList k)->F2 t=F t)->W C.P md ops Q (ops.toList.drop k) F2 w2:=by
   intro X bD F2 w2 V hN jQ z G R K hF;rw [lL]at b;refine Ql hE (ops.toList.drop k) k _ bD F2 w2 rfl b (y4 V (fun t=>(jQ t).symm) z.symm) fun S2 ρ3 F3 w3 h1 h2 h3 h4 h5=> ?_;rw [v]at hN;refine hk S2 ρ3 F3 w3 h1 h2 ((pt hN z.symm G.symm R.symm K.symm).trans h3) (fun t y=> ?_) (WM rfl);have e:ops.toList=Yy ops.toList k++ops.toList.drop k:=by rw [g,LZ]
   have J:t∉Ba (Yy ops.toList k):=fun N=>y (by obtain⟨o,D,O⟩:=vG.1 N;exact vG.2 ⟨o,by rw [e];exact Ed _ D,O⟩);have I:t∉Ba (ops.toList.drop k):=fun N=>y (by obtain⟨o,D,O⟩:=vG.1 N;exact vG.2 ⟨o,Zy D,O⟩);rw [h4 t I,hF t J]
  have l:HeadInv .any ops k (Tn ops.size false):=
   ⟨aA2,fun j oj _ g=>(by rw [getD_replicate_false]at g;cases g),fun t _ y=>getD_in (by simpa using y) (getD_replicate_false _ _)⟩
  have Y:Mid C (Yy ops.toList k) T (Tn ops.size false) (T 0):=by
   refine⟨fun t j o _ _=> ?_,fun t _=>rfl,rfl,rfl,0,dH _,rfl,rfl,fun j o _ _=> ?_⟩
   ·rw [getD_replicate_false,aB aA2]
   ·rw [getD_replicate_false];simp
  have Z:(Yy ops.toList k).length=k:=by rw [g,eI,Ca];exact HN f
  have q:∀w',Rel C w0 S0 ρ (T 0) F w'->vI C.P .any ops Q (fun _ _ _=>True) k (fun a w=>wpList C.P ops Q (ops.toList.drop k) a w) k (Tn ops.size false) (fr md F) w':=fun w' V=>
   KS hE d g f c p hb B hW s u k (List.range k) _ _ _ _ _ List.length_range List.nodup_range (fun i=>by rw [List.mem_range,getD_replicate_false];simp) l Y V Nx.refl (fun _ _=>rfl)
  unfold Go.Wk.C CC;rw [d];refine wp_region_any hm ?_;have U:Rel C w0 S0 ρ (T 0) F {w with drawn:=w.drawn+1}:=by rw [v];refine⟨x.gl,x.fr,x.fo,x.ho, ?_⟩;obtain⟨L,z,hM⟩:=x.mem;exact⟨L,z.GQ,hM⟩
  have h1:=q _ U;have h2:=Qc (S:=fun _ _ _=>True) f (fun a w h=>h) k _ _ _ h1;rw [show k+(ops.size-k)=ops.size by omega,d]at h2;exact h2
 ·cases h
end
open Go.Wk
open Go.Ce (Tr)
theorem ZV{C:Cx}{md:Md}{w0:World}{S0:List Nat}{GS:Ec}(i:Env C md w0 S0 GS)(h:md=⟨md.n,[],none⟩):∀c:Code,nV C md w0 S0 c:=by
 intro c;induction c with
 |region id ops d=>cases d with
  |false=>exact IQ i
  |true=>exact VH i h
 |seq a b f e=>exact⟨f,e⟩
 |cond c a b f e=>exact⟨f,e⟩
 |block id a g=>exact g
 |loop a g=>exact g
 |scope a g=>exact g
 |_=>trivial
theorem Rf{α:Type}{f:SC->Option α}{l r:List SC}{x:α}{ss:List Src}(h:R3 f l=some (x,r,ss)):l.length=1+r.length:=by obtain⟨c,rfl,_,_⟩:=lV h;rw [cF,Df]
theorem ox(any:Bool)(H:List Ob):∀(t:Ty) (s:Nat) (l:List SC) (x:t.T) (r:List SC) (ss:List Src),t.rd any H s l=some (x,r,ss)->l.length=t.cn+r.length:=by
 intro t;induction t with
 |w' t c=>intro s l x r ss h;exact c s l x r ss h
 |pr a b f d=>
  intro s l x r ss h;simp only [Ty.rd]at h;split at h
  ·rename_i m g o q;split at h
   ·rename_i i u n p;cases h;have h1:=f s l m g o q;have h2:=d s g i _ n p;show l.length=a.cn+b.cn+r.length;omega
   ·cases h
  ·cases h
 |i' k=>intro s l x r ss h;exact Rf h
 |c'=>intro s l x r ss h;exact Rf h
 |s'=>intro s l x r ss h;exact Rf h
 |b'=>intro s l x r ss h;exact Rf h
 |u'=>intro s l x r ss h;cases h;exact(Dh _).symm
 |sm a b _ _=>intro s l x r ss h;cases h
 |l' e b t c=>
  intro s l x r ss h;simp only [Ty.rd]at h;split at h
  ·cases h;rw [cF,Df];rfl
  ·split at h
   ·have h:=(dC (dC h).2).2;split at h
    ·cases h;rw [cF,Df];rfl
    ·cases h
   ·cases h
  ·split at h
   ·have h:=(dC (dC (dC h).2).2).2;split at h
    ·cases h;rw [cF,Df];rfl
    ·cases h
   ·cases h
  ·cases h
 |y'=>
  intro s l x r ss h;simp only [Ty.rd]at h;split at h
  ·split at h
   ·cases h;rw [cF,Df];rfl
   ·cases h
  ·cases h
 |r' t c=>
  intro s l x r ss h;simp only [Ty.rd]at h;split at h
  ·cases h;rw [cF,Df];rfl
  ·split at h
   ·cases h;rw [cF,Df];rfl
   ·cases h
  ·split at h
   ·split at h
    ·cases h;rw [cF,Df];rfl
    ·cases h
   ·cases h
  ·cases h
 |p' e t c=>
  intro s l x r ss h;simp only [Ty.rd]at h;split at h
  ·split at h
   ·have h:=(dC (dC h).2).2;split at h
    ·cases h;rw [cF,Df];rfl
    ·cases h
   ·cases h
  ·cases h
 |z'=>
  intro s l x r ss h;simp only [Ty.rd]at h;split at h
  ·have h:=(dC h).2;cases h;rw [cF,Df];rfl
  ·have h:=(dC (dC h).2).2;cases h;rw [cF,Df];rfl
  ·have h:=(dC h).2;split at h
   ·cases h;rw [cF,Df];rfl
   ·cases h
  ·cases h
 |o' j=>
  intro s l x r ss h;simp only [Ty.rd]at h;split at h
  ·have h:=(dC h).2;cases h;rw [cF,Df];rfl
  ·cases h
 |f' k t c=>
  intro s l x r ss h;simp only [Ty.rd]at h;split at h
  ·have h:=(dC h).2;split at h
   ·cases h;rw [cF,Df];rfl
   ·cases h
  ·cases h
theorem Ly:∀{l vs:List SC},vs.length=l.length->sN l 0 vs=some vs
 |[],[],_=>rfl
 |[],_::_,h=>by cases h
 |_::_,[],h=>by cases h
 |x::l,v::vs,h=>by simp only [sN,Ly (l:=l) (vs:=vs) aB0]
theorem Mr{α:Type}:∀(l:List α),wP l l.length=some l
 |[]=>rfl
 |x::l=>by simp only [cF,wP,Mr l]
def KR(n0:Nat)(H0 H1:List Ob)(E:List Nat)(al:List Rg):Rk->Prop
 |.r' _=>True
 |.o' id _ x=>id<n0/\(∀j,j<x.cn->eL id j al=true)/\∃b a,H1[id]? =some (.bl b a)
 |.w' id _=>id<n0/\eL id 0 al=true/\id∉E/\tC H0[id]? =true
section
variable {n0 : Nat} {H2 H0 H1 : List Ob} {ρ bD ρ3 : Nat -> Ad} {F2 : Nat -> Value} {E : List Nat} {al : List Rg} {Fm : Tr SV} {done : List Src}
theorem PI.P6(h:PI n0 H2 ρ bD ρ3 F2 E H0 al Fm H1 done)(f:DE bD H2)(c:DF H2)(d:H0.length<=n0)(m:Up n0 bD ρ3){q:Rk}{v:q.ty.T}{vs i:List SV}{k:List Src}(a:q.rd H2 vs=some (v,k,i))(n:KR n0 H0 H1 E al q)
  (g:∀(j:Nat) (s:Src),k[j]? =some s->ρ3 (H1.length+j)=s.ad bD) (l:List SA):PI n0 H2 ρ bD ρ3 F2 E H0 al Fm (q.put (fun j=>j) (l,H1) v).2 (done++k)/\
   ∃z:List Value,vs.map (SV.v bD)=z.map some++i.map (SV.v bD)/\(q.put (fun j=>j) (l,H1) v).1.map (SA.v ρ3)=l.map (SA.v ρ3)++z:=by
 cases q with
 |r' x=>
  cases vs with
  |nil=>cases a
  |cons v0 vs=>
   simp only [Rk.rd]at a;split at a
   ·rename_i y ss b;cases a;have A:=Pw c b;obtain⟨⟨u,h1,_,h2⟩,h3⟩:=A.to bD ρ3 H1.length g;have D:k.length=(x.lay 0 H1.length v).2.length:=by rw [A.no];exact(Ty.dZ x 0 H1.length v).symm
    refine⟨h.app f c d D g h3 (K5 x 0 H1.length v),[u],by rw [tM,h1];rfl, ?_⟩;show(l++[x.sa (x.lay 0 H1.length v).1]).map _=_;rw [Om,N2,h2]
   ·cases a
 |o' id e x=>
  simp only [Rk.rd]at a;split at a
  ·rename_i y ss b;cases a;obtain⟨h1,h2,F,H,h3⟩:=n;unfold rdO at b;split at b
   ·rename_i K cs w;have b:=dC b;have t:=gP b.1;subst t;have o:=ox false H2 x id cs _ _ _ (sH b.2);rw [iO,Dg]at o;have p:oz H2 id 0 x=some (v,k):=by unfold oz;rw [w];simp only [lL,cQ];rw [<-o,Mr];exact b.2
    have B:=h.P7 f c d m p h1 (fun j _ I=>h2 j aA0) g;rw [fW]at w;obtain⟨G,C,J,_⟩:=h.ba id _ h1 h3;rw [w]at C;cases C;have r:QS H1 id 0 x v=gU H1 id (.bl F (x.lay id H1.length v).1)++(x.lay id H1.length v).2:=by unfold QS;rw [fW,h3];simp only [Pz];rw [Ly ((Ty.Qw x id H1.length v).trans aA0)]
    rw [r]at B;exact⟨B,[],rfl,by rw [kP];rfl⟩
   ·cases b
  ·cases a
 |w' id x=>
  simp only [Rk.rd]at a;split at a
  ·rename_i y ss b;cases a;exact⟨h.P5 f c d m b n.1 n.2.1 n.2.2.1 n.2.2.2,[],rfl,by rw [kP];rfl⟩
  ·cases a
theorem A5{q:Rk}{v:q.ty.T}{l:List SA}{H1:List Ob}{id:Nat}{o:Ob}(h:id∉Rk.ids [q])(a:H1[id]? =some o):(q.put (fun j=>j) (l,H1) v).2[id]? =some o:=by
 cases q with
 |r' x=>exact xV a
 |o' j e x=>exact xV (by rw [XT (fun e=>h (by rw [<-e];exact aE.2 rfl))];exact a)
 |w' j x=>
  show(oQ H1 j x v)[id]? =some o;unfold oQ;split
  ·rw [XT (fun e=>h (by rw [<-e];exact aE.2 rfl))];exact a
  ·exact a
theorem Hr{q:Rk}{r:List Rk}:Rk.ids (q::r)=Rk.ids [q]++Rk.ids r:=by cases q<;>rfl
theorem sF{r:List Rk}{q:Rk}(h:q∈r){id:Nat}(hid:id∈Rk.ids [q]):id∈Rk.ids r:=by
 induction r with
 |nil=>cases h
 |cons x r a=>
  rw [Hr];rcases aN.1 h with rfl|h
  ·exact Ed _ hid
  ·exact MW _ (a h)
theorem PI.PF(f:DE bD H2)(g:DF H2)(d:H0.length<=n0)(c:Up n0 bD ρ3):∀(r:List Rk) (H1:List Ob) (done:List Src) (y:(fM r).T) (ss:List Src) (vs:List SV) (l:List SA),PI n0 H2 ρ bD ρ3 F2 E H0 al Fm H1 done->oy H2 r vs=some (y,ss)->(Rk.ids r).Nodup->
  (∀q∈r,KR n0 H0 H1 E al q)->(∀(j:Nat) (s:Src),ss[j]? =some s->ρ3 (H1.length+j)=s.ad bD)->PI n0 H2 ρ bD ρ3 F2 E H0 al Fm (eT (fun j=>j) (l,H1) r y).2 (done++ss)/\
   ∃i:List Value,vs.map (SV.v bD)=i.map some/\(eT (fun j=>j) (l,H1) r y).1.map (SA.v ρ3)=l.map (SA.v ρ3)++i
 |[],H1,done,y,ss,vs,l,h,a,_,_,_=>by
  cases vs with
  |nil=>cases a;exact⟨by rw [kP];exact h,[],rfl,by rw [kP];rfl⟩
  |cons _ _=>cases a
 |[q],H1,done,y,ss,vs,l,h,a,_,p,b=>by
  simp only [oy]at a;split at a
  ·rename_i x C hx;cases a;obtain⟨h1,i,h2,h3⟩:=h.P6 f g d c hx (p q iH) b l;exact⟨h1,i,by rw [h2,dP,kP],h3⟩
  ·cases a
 |q::F::r,H1,done,y,ss,vs,l,h,a,o,p,b=>by
  simp only [oy]at a;split at a
  ·rename_i x C u hx;split at a
   ·rename_i z J K;cases a
    obtain⟨h1,i,h2,h3⟩:=h.P6 f g d c hx (p q iH) (fun j s t=>b j s (by rw [aI (aD.1 t).1];exact t)) l;have R:=h1.len;have S:=h.len;rw [cB]at R;rw [Hr]at o;obtain⟨G,n,m⟩:=List.nodup_append.1 o;obtain⟨I,w,P,O⟩:=PI.PF f g d c (F::r) _ _ z J u (q.put (fun j=>j) (l,H1) x).1 h1 K n (fun D k=>by
     have H:=p D (fU _ k);cases D with
     |r' x=>trivial
     |o' id e x=>obtain⟨N,M,Q,B,A⟩:=H;refine⟨N,M,Q,B,A5 (fun L=> ?_) A⟩;exact m _ L _ (sF k (aE.2 rfl)) rfl
     |w' id x=>exact H) (fun j s t=>by
     rw [show(q.put (fun j=>j) (l,H1) x).2.length+j=H1.length+(C.length+j)by omega];exact b _ s (by rw [aK aA0,<-t];congr 1;omega))
    rw [iI]at I;exact⟨I,i++w,by rw [h2,P,Om],by show(eT (fun j=>j) (q.put (fun j=>j) (l,H1) x) (F::r) z).1.map _=_;rw [O,h3,iI]⟩
   ·cases a
  ·cases a
end
theorem OJ{m:Nat}:∀{x:Ty} {v:x.T},zU x=true->∃o,YU m x v=some o:=by intro x;cases x<;>intro v h<;>first|exact⟨_,rfl⟩|cases h
theorem IU:∀(r:List Rk) (y:(fM r).T) (l:List SA) (a b:List Ob),a.length=b.length->(∀id,eY a id=eY b id)->(∀id,id∉Rk.ids r->a[id]? =b[id]?)->(∀q∈r,∀id x,q=.w' id x->zU x=true)->
  eT (fun j=>j) (l,a) r y=eT (fun j=>j) (l,b) r y:=by
 have p:∀{a b:List Ob} {id:Nat} {o:Ob},a.length=b.length->(∀id,eY a id=eY b id)->∀k,eY (gU a id o) k=eY (gU b id o) k:=by
  intro a b id o c f k;rw [MI,MI,uQ,uQ,c];split
  ·rfl
  ·rw [<-MI,<-MI];exact f k
 have t:∀{a b B:List Ob},a.length=b.length->(∀id,eY a id=eY b id)->∀k,eY (a++B) k=eY (b++B) k:=by
  intro a b B c f k;rw [MI,MI];by_cases D:k<a.length
  ·rw [aI D,aI aA0,<-MI,<-MI];exact f k
  ·rw [aK aA0,aK aA0,c]
 have s:∀{a b B:List Ob} {k:Nat},a.length=b.length->a[k]? =b[k]? ->(a++B)[k]? =(b++B)[k]? :=by
  intro a b B k c g;by_cases D:k<a.length
  ·rw [aI D,aI aA0];exact g
  ·rw [aK aA0,aK aA0,c]
 have one:∀(q:Rk) (v:q.ty.T) (l:List SA) (a b:List Ob) (N:List Nat),a.length=b.length->(∀id,eY a id=eY b id)->(∀id,id∉Rk.ids [q]->id∉N->a[id]? =b[id]?)->(∀id x,q=.w' id x->zU x=true)->
   (q.put (fun j=>j) (l,a) v).1=(q.put (fun j=>j) (l,b) v).1/\(q.put (fun j=>j) (l,a) v).2.length=(q.put (fun j=>j) (l,b) v).2.length/\(∀id,eY (q.put (fun j=>j) (l,a) v).2 id=eY (q.put (fun j=>j) (l,b) v).2 id)/\∀id,id∉N->(q.put (fun j=>j) (l,a) v).2[id]? =(q.put (fun j=>j) (l,b) v).2[id]? :=by
  intro q v l a b N c f g w;cases q with
  |r' x=>show l++[x.sa (x.lay 0 a.length v).1]=l++[x.sa (x.lay 0 b.length v).1]/\(a++(x.lay 0 a.length v).2).length=(b++(x.lay 0 b.length v).2).length/\(∀id,eY (a++(x.lay 0 a.length v).2) id=eY (b++(x.lay 0 b.length v).2) id)/\∀id,id∉N->(a++(x.lay 0 a.length v).2)[id]? =(b++(x.lay 0 b.length v).2)[id]?;rw [c];exact⟨rfl,by simp [c],t c f,fun id hid=>s c (g id (fun h=>by cases h) hid)⟩
  |o' i e x=>
   show l=l/\(gU a i (.bl e (x.lay i a.length v).1)++(x.lay i a.length v).2).length=(gU b i (.bl e (x.lay i b.length v).1)++(x.lay i b.length v).2).length/\(∀id,eY (gU a i (.bl e (x.lay i a.length v).1)++(x.lay i a.length v).2) id=eY (gU b i (.bl e (x.lay i b.length v).1)++(x.lay i b.length v).2) id)/\∀id,id∉N->(gU a i (.bl e (x.lay i a.length v).1)++(x.lay i a.length v).2)[id]? =(gU b i (.bl e (x.lay i b.length v).1)++(x.lay i b.length v).2)[id]?;rw [c];have u:∀o:Ob,(gU a i o).length=(gU b i o).length:=fun o=>by rw [CU,CU,c]
   refine⟨rfl,by simp [u],t (u _) (p c f),fun id hid=>s (u _) ?_⟩;rw [uQ,uQ,c];by_cases n:id=i
   ·subst n;by_cases d:id<b.length
    ·rw [aC ⟨rfl,d⟩,aC ⟨rfl,d⟩]
    ·rw [aB (fun h=>d h.2),aB (fun h=>d h.2),bL aA0,bL aA0]
   ·rw [aB (fun h=>n h.1),aB (fun h=>n h.1)];exact g id (fun h=>n (aE.1 h)) hid
  |w' i x=>
   show l=l/\(oQ a i x v).length=(oQ b i x v).length/\(∀id,eY (oQ a i x v) id=eY (oQ b i x v) id)/\∀id,id∉N->(oQ a i x v)[id]? =(oQ b i x v)[id]?;have hx:=w i x rfl;unfold oQ;rw [f i];split
   ·rename_i o F;refine⟨rfl,by rw [CU,CU,c],p c f,fun id hid=> ?_⟩;rw [uQ,uQ,c];by_cases n:id=i
    ·subst n;by_cases d:id<b.length
     ·rw [aC ⟨rfl,d⟩,aC ⟨rfl,d⟩]
     ·rw [aB (fun h=>d h.2),aB (fun h=>d h.2),bL aA0,bL aA0]
    ·rw [aB (fun h=>n h.1),aB (fun h=>n h.1)];exact g id (fun h=>n (aE.1 h)) hid
   ·rename_i C;exfalso;obtain⟨o,F⟩:=OJ (m:=eY b i) (x:=x) (v:=v) hx;have z:=C.symm.trans F;cases z
 intro r;induction r with
 |nil=>intro y l a b c f g _;have e:a=b:=bZ fun k=>g k (fun h=>by cases h);rw [e]
 |cons q r H=>
  intro y l a b c f g w;cases r with
  |nil=>obtain⟨h1,h2,h3,E⟩:=one q y l a b [] c f (fun id h _=>g id h) (w q iH);have e:(q.put (fun j=>j) (l,a) y).2=(q.put (fun j=>j) (l,b) y).2:=bZ fun k=>E k (fun h=>by cases h);exact Prod.ext h1 e
  |cons A r=>
   obtain⟨h1,h2,h3,E⟩:=one q y.1 l a b (Rk.ids (A::r)) c f (fun id h h2=>g id (by rw [Hr];exact fun I=>(aU.1 I).elim h h2)) (w q iH);have:=H y.2 (q.put (fun j=>j) (l,a) y.1).1 (q.put (fun j=>j) (l,a) y.1).2 (q.put (fun j=>j) (l,b) y.1).2 h2 h3 E (fun G J=>w G (fU _ J));show eT (fun j=>j) (q.put (fun j=>j) (l,a) y.1) (A::r) y.2=eT (fun j=>j) (q.put (fun j=>j) (l,b) y.1) (A::r) y.2;have L:q.put (fun j=>j) (l,a) y.1=((q.put (fun j=>j) (l,a) y.1).1,(q.put (fun j=>j) (l,a) y.1).2):=rfl;have K:q.put (fun j=>j) (l,b) y.1=((q.put (fun j=>j) (l,a) y.1).1,(q.put (fun j=>j) (l,b) y.1).2):=by rw [h1]
   rw [L,K];exact this
open Go.Wk
open Go.Ce (Tr)
open Nat renaming one_pos → Di
theorem FR:∀(a:List Ty) (H0:List Ob) (x:(fP a).T),BD a=true->∃obs,(hV H0 a x).2=H0++obs/\(hV H0 a x).1.length=a.length/\(∀v∈(hV H0 a x).1,v.ok (H0.length+obs.length))/\∀(j e:Nat) (cs:List SC),obs[j]? =some (.bl e cs)->∀c∈cs,c.ok (H0.length+obs.length)
 |[],H0,x,h=>⟨[],by simp [hV],rfl,fun v m=>by simp [hV]at m,fun j e cs b=>by simp at b⟩
 |[t],H0,x,h=>by
  have i:t.tz=false:=by
   simp only [BD]at h;cases g:t.tz with
   |true=>rw [g]at h;cases h
   |false=>rfl
  refine⟨(t.lay 0 H0.length x).2,rfl,rfl,fun v d=> ?_,K5 t 0 H0.length x⟩;rw [aE.1 (show v∈[t.sv (t.lay 0 H0.length x).1]from d)];exact Ty.Be (jd t 0 H0.length x i)
 |t::t2::a,H0,x,h=>by
  have i:t.tz=false/\BD (t2::a)=true:=by
   have h:(bif t.tz then false else BD (t2::a))=true:=h;cases g:t.tz with
   |true=>rw [g]at h;cases h
   |false=>rw [g]at h;exact⟨rfl,h⟩
  obtain⟨obs,h1,h2,h3,n⟩:=FR (t2::a) (H0++(t.lay 0 H0.length x.1).2) x.2 i.2;have f:(H0++(t.lay 0 H0.length x.1).2).length=H0.length+(t.lay 0 H0.length x.1).2.length:=cB;refine⟨(t.lay 0 H0.length x.1).2++obs,by rw [<-iI];exact h1,by show(_::(hV (H0++(t.lay 0 H0.length x.1).2) (t2::a) x.2).1).length=_;rw [cF,h2];rfl,fun v d=> ?_,fun j e cs b c l=> ?_⟩
  ·rw [cB,<-Ax,<-f];rcases aN.1 (show v∈t.sv (t.lay 0 H0.length x.1).1::(hV (H0++(t.lay 0 H0.length x.1).2) (t2::a) x.2).1 from d)with rfl|d
   ·exact SV.cK (Ty.Be (jd t 0 H0.length x.1 i.1)) aA0
   ·exact h3 v d
  ·rw [cB,<-Ax,<-f];by_cases k:j<(t.lay 0 H0.length x.1).2.length
   ·rw [aI k]at b;exact SC.cK (K5 t 0 H0.length x.1 j e cs b c l) aA0
   ·rw [aK aA0]at b;exact n _ e cs b c l
def iw:List Ty->Nat
 |[]=>0
 |t::a=>t.no+iw a
theorem FT:∀(a:List Ty) (H0:List Ob) (x:(fP a).T),(hV H0 a x).2.length=H0.length+iw a
 |[],H0,x=>rfl
 |[t],H0,x=>by show(H0++(t.lay 0 H0.length x).2).length=_;rw [cB];have:=Ty.dZ t 0 H0.length x;show _=H0.length+(t.no+0);omega
 |t::t2::a,H0,x=>by show(hV (H0++(t.lay 0 H0.length x.1).2) (t2::a) x.2).2.length=_;rw [FT (t2::a),cB,Ty.dZ];show _=H0.length+(t.no+iw (t2::a));omega
theorem Uq:∀(vs:List SV) (F:Tr SV) (i t:Nat),Ku (AT F i vs) t=if i<=t/\t<i+vs.length then vs.getD (t-i) .u' else Ku F t
 |[],F,i,t=>by rw [aB aA2];rfl
 |v::vs,F,i,t=>by
  show Ku (AT (F.set i v) (i+1) vs) t=_;rw [Uq vs,Dx,cF];by_cases h1:t=i
  ·subst h1;rw [aB aA0,aC rfl,aC aA0,Dd];rfl
  ·by_cases h2:i+1<=t/\t<i+1+vs.length
   ·rw [aC h2,aC aA0,show t-i=(t-(i+1))+1 by omega];rfl
   ·rw [aB h2,aB h1,aB aA0]
theorem Ji{r:List Rk}{H0:List Ob}{id j:Nat}:∀{l:List Ob} {i:Nat},eL id j (qV r H0 l i)=true->∃o,i<=id/\l[id-i]? =some o/\((tC (some o)=true/\j=0)\/(tC (some o)=false/\id∈Rk.ids r/\j<(qO H0 id).2.2))
 |[],i,h=>by simp [qV,eL]at h
 |o::l,i,h=>by
  simp only [qV]at h;rcases By.1 h with h|h
  ·cases b:tC (some o)with
   |true=>rw [b]at h;obtain⟨q,a,h1,h2,h3⟩:=tI.1 h;have a:=aE.1 a;subst a;have h1:i=id:=h1;subst h1;exact⟨o,eJ _,aA2,.inl ⟨b,by have h3:j<1:=h3;omega⟩⟩
   |false=>
    rw [b]at h;cases c:jU i (Rk.ids r)with
    |false=>rw [c]at h;simp [eL]at h
    |true=>rw [c]at h;obtain⟨q,a,h1,h2,h3⟩:=tI.1 h;have a:=aE.1 a;subst a;have h1:i=id:=h1;subst h1;exact⟨o,eJ _,aA2,.inr ⟨b,Oh.1 c,h3⟩⟩
  ·obtain⟨d,h1,h2,h3⟩:=Ji h;refine⟨d,aA0, ?_,h3⟩;rw [show id-i=(id-(i+1))+1 by omega,bT];exact h2
theorem U1{H:List Ob}:∀{r:List Rk},Me H r=true->∀q∈r,match q with
  |.r' _=>True
  |.o' id e x=>∃cs,H[id]? =some (.bl e cs)/\cs.length=x.cn
  |.w' id x=>tC H[id]? =true/\zU x=true
 |c::r,h,q,a=>by
  have h:=gJ (show(bif _ then Me H r else false)=true from h);rcases aN.1 a with rfl|a
  ·cases q with
   |r' x=>trivial
   |o' id e x=>
    have h1:=h.1;simp only [fW]at h1;split at h1
    ·rename_i d cs b;have h1:=gJ h1;rw [gP h1.1]at b;exact⟨cs,b,gP h1.2⟩
    ·cases h1
   |w' id x=>have h1:=gJ h.1;rw [fW]at h1;exact h1
  ·exact U1 h.2 q a
def MB:List Rk->List Rg
 |[]=>[]
 |k::l=>match k with
  |.r' _=>MB l
  |.o' id _ x=>(id,0,x.cn)::MB l
  |.w' id _=>(id,0,1)::MB l
theorem yX:∀{r:List Rk} {q:Rg},q∈MB r->(∃id e x,Rk.o' id e x∈r/\q=(id,0,x.cn))\/∃id x,Rk.w' id x∈r/\q=(id,0,1)
 |k::r,q,h=>by
  cases k with
  |r' x=>
   rcases yX (show q∈MB r from h)with⟨id,e,x,h1,h2⟩|⟨id,x,h1,h2⟩
   ·exact .inl ⟨id,e,x,fU _ h1,h2⟩
   ·exact .inr ⟨id,x,fU _ h1,h2⟩
  |o' i e x=>
   rcases aN.1 (show q∈(i,0,x.cn)::MB r from h)with rfl|h
   ·exact .inl ⟨i,e,x,iH,rfl⟩
   ·rcases yX h with⟨id,e,x,h1,h2⟩|⟨id,x,h1,h2⟩
    ·exact .inl ⟨id,e,x,fU _ h1,h2⟩
    ·exact .inr ⟨id,x,fU _ h1,h2⟩
  |w' i x=>
   rcases aN.1 (show q∈(i,0,1)::MB r from h)with rfl|h
   ·exact .inr ⟨i,x,iH,rfl⟩
   ·rcases yX h with⟨id,e,x,h1,h2⟩|⟨id,x,h1,h2⟩
    ·exact .inl ⟨id,e,x,fU _ h1,h2⟩
    ·exact .inr ⟨id,x,fU _ h1,h2⟩
theorem Uz{id e:Nat}{x:Ty}:∀{r:List Rk},Rk.o' id e x∈r->(id,0,x.cn)∈MB r
 |k::r,h=>by
  rcases aN.1 h with rfl|h2
  ·exact iH
  ·cases k with
   |r' _=>exact(show _∈MB r from Uz h2)
   |o' _ _ _=>exact fU _ (Uz h2)
   |w' _ _=>exact fU _ (Uz h2)
theorem Uy{id:Nat}{x:Ty}:∀{r:List Rk},Rk.w' id x∈r->(id,0,1)∈MB r
 |k::r,h=>by
  rcases aN.1 h with rfl|h2
  ·exact iH
  ·cases k with
   |r' _=>exact(show _∈MB r from Uy h2)
   |o' _ _ _=>exact fU _ (Uy h2)
   |w' _ _=>exact fU _ (Uy h2)
theorem Hq{id:Nat}:∀{r:List Rk},id∈Rk.ids r->(∃e x,Rk.o' id e x∈r)\/∃x,Rk.w' id x∈r
 |k::r,h=>by
  cases k with
  |r' x=>
   rcases Hq (show id∈Rk.ids r from h)with⟨e,x,h1⟩|⟨x,h1⟩
   ·exact .inl ⟨e,x,fU _ h1⟩
   ·exact .inr ⟨x,fU _ h1⟩
  |o' i e x=>
   rcases aN.1 (show id∈i::Rk.ids r from h)with rfl|h
   ·exact .inl ⟨e,x,iH⟩
   ·rcases Hq h with⟨e,x,h1⟩|⟨x,h1⟩
    ·exact .inl ⟨e,x,fU _ h1⟩
    ·exact .inr ⟨x,fU _ h1⟩
  |w' i x=>
   rcases aN.1 (show id∈i::Rk.ids r from h)with rfl|h
   ·exact .inr ⟨x,iH⟩
   ·rcases Hq h with⟨e,x,h1⟩|⟨x,h1⟩
    ·exact .inl ⟨e,x,fU _ h1⟩
    ·exact .inr ⟨x,fU _ h1⟩
section
variable {C : Cx} {md : Md} {w0 w : World} {S0 : List Nat} {GS : Ec} {ρ XK : Nat -> Ad} {Se : St} {Fe : Nat -> Value} {a : List Ty} {r : List Rk} {H gs : List Ob}
theorem ee(b8:md=⟨md.n,[],none⟩)(hn:C.nn=md.n)(hS:Rel C w0 S0 XK Se Fe w)(P:DE ρ H)(a9:∀(id e:Nat) (cs:List SC),H[id]? =some (.bl e cs)->∀c∈cs,c.ok H.length)(a4:(Rk.ids r).Nodup)(a:Me H r=true)
  (B:Le (H++gs).length (qV r H H 0) ρ (H++gs) XK Se.H) {rs:List ResultVar} {y:(fM r).T} (h:Pu C (H++gs).length (qV r H H 0) rs r Se=some y):
  ∃(bD:Nat->Ad) (L2:List bX) (Z:List Value),Up H.length ρ bD/\Hp w0 S0 L2 w/\Mt w0 S0 bD (eT (fun j=>j) ([],kill H (Co (Rk.ids r) H 0)) r y).2 L2/\(eT (fun j=>j) ([],kill H (Co (Rk.ids r) H 0)) r y).1.map (SA.v bD)=Z/\
   (rs.map (Go.Oe.gK C Se)).map (SV.v XK)=Z.map some:=by
 unfold Pu at h;split at h
 ·rename_i x ss hr;have h:=dC h;have M:=gJ (show(bif Ci (fQ ss)then St.yH ⟨Se.F,Se.H,(H++gs).length,qV r H H 0,[]⟩ (Jd Se.H (fQ ss))else false)=true from h.1);have h2:=dC h.2;have U:=qL.1 h2.1;cases h2.2;let E:=Co (Rk.ids r) H 0;let R:=MB r
  let ρ3:Nat->Ad:=fun id=>if id<H.length then XK id else match ss[id-H.length]? with
   |some s=>s.ad XK
   |none=>XK id
  have f:Up H.length XK ρ3:=fun id hi=>by simp only [ρ3,hi,eM]
  have m:Up H.length ρ XK:=fun id hi=>B.up id (by rw [cB];omega);have J:Up H.length ρ ρ3:=m.trans f (eJ _);have W:∀(j:Nat) (s:Src),ss[j]? =some s->ρ3 (H.length+j)=s.ad XK:=by intro j s hj;have h1:¬H.length+j<H.length:=aA0;have h2:H.length+j-H.length=j:=aA0;simp only [ρ3,h1,cL,h2,hj]
  have b:∀id,id∈E↔∃o,H[id]? =some o/\tC (some o)=true/\id∉Rk.ids r:=by intro id;show id∈Co (Rk.ids r) H 0↔_;rw [xM];simp
  have I:∀q∈R,(∃e cs,H[q.1]? =some (.bl e cs)/\q.2.2<=cs.length)\/(tC H[q.1]? =true/\q.2=(0,1)):=by
   intro q d;rcases yX d with⟨id,e,x,h1,rfl⟩|⟨id,x,h1,rfl⟩
   ·obtain⟨cs,h3,p⟩:=U1 a _ h1;exact .inl ⟨e,cs,h3,by rw [p];exact eJ _⟩
   ·exact .inr ⟨(U1 a _ h1).1,rfl⟩
  have Y:∀id∈E,tC H[id]? =true\/∃e cs,H[id]? =some (.bl e cs):=by intro id hid;obtain⟨o,h1,h2,_⟩:=(b id).1 hid;exact .inl (by rw [h1];exact h2)
  have V:∀id j,eL id j (qV r H H 0)=true->eL id j (R++Jd H E)=true:=by
   intro id j D;obtain⟨o,_,h1,h2⟩:=Ji D;rw [eV]at h1;rcases h2 with⟨h2,rfl⟩|⟨h2,h3,p⟩
   ·by_cases g:id∈Rk.ids r
    ·rcases Hq g with⟨e,x,k⟩|⟨x,k⟩
     ·obtain⟨cs,l,_⟩:=U1 a _ k;rw [h1]at l;cases l;cases h2
     ·exact By.2 (.inl (tI.2 ⟨_,Uy k,rfl,eJ _,Di⟩))
    ·exact By.2 (.inr (jm ((b id).2 ⟨o,h1,h2,g⟩)))
   ·rcases Hq h3 with⟨e,x,k⟩|⟨x,k⟩
    ·obtain⟨cs,l,h7⟩:=U1 a _ k;refine By.2 (.inl (tI.2 ⟨_,Uz k,rfl,dH _, ?_⟩));unfold qO at p;rw [fW,l]at p;show j<x.cn;rw [<-h7];exact p
    ·have:=(U1 a _ k).1;rw [h1,h2]at this;cases this
  have Q:Le H.length (R++Jd H E) ρ H XK Se.H:=by refine⟨by have:=B.len;rw [cB]at this;omega,m,fun id o hi g=> ?_⟩;have:=B.kp id o (by rw [cB];omega) (by rw [aI hi];exact g);exact this.mono fun j D=>V id j D
  have h0:=PI.U0 (F2:=Fe) (Fm:=(Tr.e:Tr SV)) (ρ3:=ρ3) P a9 I Y Q J (fun t u hu=>by
   have e:Ku (Tr.e:Tr SV) t=.u':=aF2;rw [e]at hu;cases hu) (fun t=>by
   have e:Ku (Tr.e:Tr SV) t=.u':=aF2;rw [e];trivial)
  have A:(kill (Of H R) E).length=H.length:=by rw [fm,th]
  have b1:∀q∈r,KR H.length H (kill (Of H R) E) E (R++Jd H E) q:=by
   intro q d;have g:=U1 a q d;cases q with
   |r' x=>trivial
   |o' id e x=>
    obtain⟨cs,h3,p⟩:=g;refine⟨(aD.1 h3).1,fun j hj=>By.2 (.inl (tI.2 ⟨_,Uz d,rfl,dH _,hj⟩)), ?_⟩;obtain⟨o2,k,G,rfl,_⟩:=fx (rs:=R) h3;have a6:id∉E:=fun hE=>by obtain⟨o,l,h7,_⟩:=(b id).1 hE;rw [h3]at l;cases l;cases h7
    exact⟨e,G,by rw [HG,aB a6];exact k⟩
   |w' id x=>
    have g:tC H[id]? =true/\zU x=true:=g;have O:id<H.length:=by
     cases h3:H[id]? with
     |none=>rw [h3]at g;cases g.1
     |some _=>exact(aD.1 h3).1
    refine⟨O,By.2 (.inl (tI.2 ⟨_,Uy d,rfl,eJ _,Di⟩)),fun hE=> ?_,g.1⟩;obtain⟨o,_,_,l⟩:=(b id).1 hE;exact l (sF d (aE.2 rfl))
  obtain⟨hP,Z,a2,K⟩:=PI.PF (vY hS) (vZ hS) (eJ _) f r _ [] y ss _ [] h0 hr a4 b1 (by rw [A];exact W);rw [Ka]at hP;obtain⟨L,hH,hM⟩:=hS.mem;obtain⟨L3,b2,X⟩:=hP.mem hH hM f W (lH.1 M.1) (fun id hid O=>by
   have D:eL id 0 (qV r H H 0)=true:=wJ M.2 (by show id<(H++gs).length;rw [cB];omega) (jm hid);obtain⟨o,_,h1,h2⟩:=Ji D;rw [eV]at h1;have N:=U id hid;rcases h2 with⟨h2,_⟩|⟨_,h3,_⟩
   ·exact(b id).2 ⟨o,h1,h2,N⟩
   ·exact absurd h3 N)
  have z:eT (fun j=>j) (([]:List SA),kill (Of H R) E) r y=eT (fun j=>j) ([],kill H E) r y:=by
   have a7:∀id,eY (kill (Of H R) E) id=eY (kill H E) id:=by
    intro id;rw [MI,MI,HG,HG];cases S:H[id]? with
    |none=>rw [Bn S]
    |some o=>
     obtain⟨o2,h1,h2⟩:=fx (rs:=R) S;rw [h1];split
     ·exact h2.len
     ·exact h2.len
   refine IU r y [] _ _ (by rw [fm,th,fm]) a7 (fun id hid=> ?_) (fun q d id x e=> ?_)
   ·rw [HG,HG];cases S:H[id]? with
    |none=>rw [Bn S]
    |some o=>
     have a5:∀j,eL id j R=false:=by
      intro j;cases D:eL id j R with
      |false=>rfl
      |true=>
       exfalso;obtain⟨q,d,h1,_⟩:=tI.1 D;rcases yX d with⟨i,e,x,h3,rfl⟩|⟨i,x,h3,rfl⟩
       ·have h1:i=id:=h1;subst h1;exact hid (sF h3 (aE.2 rfl))
       ·have h1:i=id:=h1;subst h1;exact hid (sF h3 (aE.2 rfl))
     have a3:∀q∈R,q.1≠id:=by
      intro q d e;rcases yX d with⟨i,e2,x,h3,rfl⟩|⟨i,x,h3,rfl⟩
      ·have e:i=id:=e;subst e;exact hid (sF h3 (aE.2 rfl))
      ·have e:i=id:=e;subst e;exact hid (sF h3 (aE.2 rfl))
     obtain⟨o2,h1,h2⟩:=fx (rs:=R) S;have e:o2=o:=by
      cases o with
      |bl e cs=>
       obtain⟨G,rfl,h3,p⟩:=h2;have:G=cs:=bZ fun j=>by rw [p,a5 j,aB aA2]
       rw [this]
      |_=>
       rcases h2 with⟨h2,_⟩|⟨_,q,d,h3⟩
       ·exact h2
       ·exact absurd h3 (a3 q d)
     rw [h1,e]
   ·have:=U1 a q d;rw [e]at this;exact this.2
  rw [z]at X K;refine⟨ρ3,L3,Z,J,b2,X,by rw [K];rfl,a2⟩
 ·cases h
end
open Go.Wk
open Go.Ce (Tr)
open List renaming length → aS, replicate → hC
open Nat renaming beq → cP, blt → fC
section
variable {C : Cx} {md : Md} {w0 w : World} {S0 : List Nat} {GS : Ec} {ρ : Nat -> Ad} {S : St} {F : Nat -> Value}
theorem BF{t : TypeId}{a : Operand}{p : Addr}{u : Value}(hx : aW md F a = .pointer (some p))(h : (execOp (aW md F) (⟨some 0, .load t a, 0, "", #[], none⟩ : Oper)).run C.P w = .ok (.value u) w) : (loadVar t p).run C.P w = .ok u w := by
 simp only [execOp,hx,Instr.loadAt,Instr.sureAddr,Sem.run_bind,Sem.run_pure,Result.andThen_ok]at h;cases b:(loadVar t p).run C.P w with
 |ok v w'=>rw [b]at h;simp only [Result.andThen_ok,Result.ok.injEq,Next.value.injEq]at h;rw [h.1,h.2]
 |halt x w'=>rw [b]at h;cases h
theorem IP(i:C.nn=md.n)(f:Rel C w0 S0 ρ S F w){rv:ResultVar}{u:Value}(h:(Go.Oe.gK C S rv).v ρ=some u):(Go.Wk.gK (fr md F).tmps rv).run C.P w=.ok u w:=by
 cases rv with
 |tmp t=>have h:(S.ev C (.tmp t)).v ρ=some u:=h;have:=(Sj f i (.tmp t)).2 u h;have e:(bif fC t md.n then F t else undef)=u:=this;unfold Go.Wk.gK;simp only [nK,e,Sem.run_pure]
 |cell a t=>
  have h:((match S.ev C (.tmp a)with
   |.c' x=>match jE C S.H t x with
    |some ⟨[],v,_,_⟩=>v
    |_=>.u'
   |_=>.u'):SV).v ρ=some u:=h
  split at h
  ·rename_i x hx;have c:S.ev C (.tmp a)=.c' x:=hx;obtain⟨h1,h2⟩:=mC f i c;split at h
   ·rename_i v H m b;obtain⟨⟨_,j,h3,o⟩,_⟩:=FM f (md:=md) (x:=.tmp a) h2 b trivial;have h3:v.v ρ=some j:=h3;rw [h]at h3;cases h3
    have l := o 0 0 "" #[];have d:∃p,x.v ρ=.pointer (some p):=by
     unfold jE at b;split at b
     ·rename_i n q _ _;cases g:cP n 0 with
      |true=>rw [g]at b;cases b
      |false=>rw [g]at b;cases x<;>first|exact⟨_,rfl⟩|cases b
     ·cases b
    obtain⟨p,d⟩:=d;rw [d]at h2;have k:=BF h2 l;have e:(bif fC a md.n then F a else undef)=.pointer (some p):=h2;unfold Go.Wk.gK;simp only [nK,e,asAddr,Sem.run_bind,Sem.run_pure,Result.andThen_ok];exact k
   ·cases h
  ·cases h
end
def JC:List Value->Value
 |[u]=>u
 |a=>.tuple a.toArray
theorem Fl{P:Program}{kk:Nat}{F:Nat->Value}{w:World}{fn:Func}(l:List ResultVar)(vs:List Value)(d:fn.results=l.toArray)(f:aS l=aS vs)
  (c:∀(i:Nat) (x:ResultVar) (v:Value),l[i]? =some x->vs[i]? =some v->(Go.Wk.gK (fr ⟨kk,[],none⟩ F).tmps x).run P w=.ok v w) (v:Value) (a:JC vs=v):
  (results fn (fr ⟨kk,[],none⟩ F).tmps).run P w=.ok v w:=by
 have e:=Fi (P:=P) (w:=w) (Go.Wk.gK (fr ⟨kk,[],none⟩ F).tmps) l vs f c;unfold results;rw [d];change Sem.run P (do let vs<-l.toArray.mapM (Go.Wk.gK (fr ⟨kk,[],none⟩ F).tmps);pure (if h:vs.size=1 then vs[0]else .tuple vs)) w=_;simp only [List.mapM_toArray,Sem.run_bind,Sem.run_map];rw [e];simp only [Result.andThen_ok,Sem.run_pure];subst a;congr 1;cases vs with
 |nil=>simp [JC]
 |cons u b=>cases b with
  |nil=>simp [JC]
  |cons u' b=>simp [JC]
theorem QH{ρ:Nat->Ad}:∀(l:List SA),(lD l).v ρ=some (JC (l.map (SA.v ρ)))
 |[]=>rfl
 |[x]=>SA.ZI ρ x
 |_::_::_=>rfl
theorem dj{C:Cx}{k:Nat}{fn:Func}{code:Code}{GS:Ec}{gl:List (Nat×Ob)}{rs:List ResultVar}{sc:Sc}{a:List Ty}{r:List Rk}{f:(fP a).T->Gv (fM r).T}(hf:C.P.funcs[k]? =some fn)(hb:fn.body=some code)(hn:fn.ntmps=C.nn)(hr:fn.results=rs.toArray)
  (s:∀x y,(f x).ok y->ep C (gl.map (·.2)) code rs sc a r x=some y) (c0:aS a<=C.nn) (hE:im C) (hX:∀k,∀c∈C.X k,Enters C.P k/\Zw C.P GS k c) (b8:∀q∈gl,q∈GS.gs/\∃t l,q.2=.ro t l)
  (hG:∀g id,C.G g=some id->∃i q,id=iw a+i/\gl[i]? =some q/\q.1=g):Zw C.P GS k ⟨a,r,f⟩:=by
 intro w S ρ L M x y a9 c2 c1 B hy;let H:List Ob:=(hV [] a x).2;have e7:sT ⟨a,r,f⟩ x=H:=rfl;let gs:List Ob:=gl.map (·.2);have Y:=s x y hy;have Y:(bif (bif BD a then(bif Ci (Rk.ids r)then Me H r else false)else false)then den C (fM r) (Pu C (H++gs).length (qV r H H 0) rs r) code sc ⟨AT Tr.e 0 (hV [] a x).1,H++gs,(H++gs).length,qV r H H 0,[]⟩ (fM r) some (ef (Pu C (H++gs).length (qV r H H 0) rs r))else none)=some y:=Y;have Y:=dC Y;have hc:=gJ Y.1;have a8:=gJ hc.2;have b6:=hc.1;have b7:=lH.1 a8.1;have a2:=a8.2;have s:=Y.2;obtain⟨Z,a3,j,O,D⟩:=FR a [] x b6;rw [Ka]at a3;have E:H=Z:=a3;have Q:aS H=iw a:=by have:=FT a [] x;rw [iO,Dh]at this;exact this
 have V:([]:List Ob).length+aS Z=aS H:=by rw [E];simp
 rw [V]at O D;have W:Mt w S ρ H L:=c1;have J:∀(i:Nat) (q:Nat×Ob),gl[i]? =some q->∃t l,q.2=.ro t l/\Rd w (some ⟨q.1,0,none⟩) (l.flatMap t.enc)/\q.1∉S:=by intro i q hq;obtain⟨g,o⟩:=q;obtain⟨h1,t,l,h2⟩:=b8 _ (aG hq);have h2:o=.ro t l:=h2;subst h2;have:=GS.rd a9 h1;exact⟨t,l,rfl,this.1,this.2⟩
 let d:Nat->Ad:=fun id=>if id<aS H then ρ id else match gl[id-aS H]? with
  |some q=>⟨none,some ⟨q.1,0,none⟩,q.2.len,false,q.2.len⟩
  |none=>ρ id
 have h:Up H.length ρ d:=fun id m=>by simp only [d,m,eM]
 have a7:∀(i:Nat) (q:Nat×Ob),gl[i]? =some q->d (aS H+i)=⟨none,some ⟨q.1,0,none⟩,q.2.len,false,q.2.len⟩:=by intro i q hq;have e1:¬H.length+i<aS H:=aA0;have e2:aS H+i-aS H=i:=aA0;simp only [d,e1,cL,e2,hq]
 have b3:(hV [] a x).1.map (SV.v d)=M.map some:=by have B:(hV [] a x).1.map (SV.v ρ)=M.map some:=B;rw [<-B];refine YE fun v hv=>SV.up h (O v hv)
 have a4:aS M=aS a:=by have:=bP aS B;simp only [Dj]at this;rw [<-this];exact j
 let S1:St:=⟨AT Tr.e 0 (hV [] a x).1,H++gs,(H++gs).length,qV r H H 0,[]⟩;have a5:(H++gs).length=aS H+aS gl:=by simp [gs]
 have a1:Rel C w S d S1 (Za M) w:=by
  have jQ:∀t,S1.at t=if t<aS a then(hV [] a x).1.getD t .u' else .u':=by intro t;rw [St.at_eq];show Ku (AT Tr.e 0 (hV [] a x).1) t=_;rw [Uq,j,Dh,eV];have e:Ku (Tr.e:Tr SV) t=.u':=aF2;rw [e];simp
  refine⟨fun g id hg=> ?_,fun t u I=> ?_,fun t=> ?_,fun id e cs b c b9=> ?_,⟨L++hC gl.length dQ, ?_, ?_, ?_⟩⟩
  ·obtain⟨i,q,h1,h2,rfl⟩:=hG g id hg;have m:=(aD.1 h2).1;rw [<-Q]at h1;subst h1;exact⟨by show H.length+i<(H++gs).length;omega,by rw [a7 i q h2]⟩
  ·rw [jQ]at I;split at I
   ·rename_i N;have h1:(hV [] a x).1[t]? =some ((hV [] a x).1[t]' aD9):=aJ aD9;have h2:=bP (fun l=>l[t]?) b3;simp only [aZ,h1,Tg]at h2;have h3:M[t]? =some (M[t]' aA0):=aJ aA0;rw [h3]at h2;rw [bV,h1]at I;have F:=aP h2;rw [show((some ((hV [] a x).1[t]' aD9)).getD SV.u')=(hV [] a x).1[t]' aD9 from rfl,F]at I;unfold Za;rw [bV,h3];exact aP I
   ·cases I
  ·rw [jQ];split
   ·rename_i N;have h1:(hV [] a x).1[t]? =some ((hV [] a x).1[t]' aD9):=aJ aD9;rw [bV,h1];exact SV.cK (O _ (aG h1)) (by show H.length<=(H++gs).length;omega)
   ·trivial
  ·have b:(H++gs)[id]? =some (.bl e cs):=b;by_cases m:id<aS H
   ·rw [aI m,E]at b;exact SC.cK (D id e cs b c b9) (by show H.length<=(H++gs).length;omega)
   ·rw [aK aA0]at b;exfalso;obtain⟨q,h1,h2⟩:=map_some b;obtain⟨t,l,h3,_⟩:=J _ q h1;rw [h3]at h2;cases h2
  ·have key:∀n,Hp w S (L++hC n dQ) w:=by
    intro n;induction n with
    |zero=>rw [List.replicate_zero,kP];exact c2
    |succ n ih=>have:=Go.Oe.Hp.rot (xF ih);rw [iI]at this;rw [List.replicate_succ'];exact this
   exact key _
  ·show(L++_).length=(H++gs).length;rw [cB,List.length_replicate,a5,W.1]
  ·intro id o b;have b:(H++gs)[id]? =some o:=b;by_cases m:id<aS H
   ·rw [aI m]at b;obtain⟨h1,r1,h2,h3⟩:=W.2 id o b;refine⟨by rw [h id m];exact h1,r1,by rw [aI (by rw [W.1];exact m)];exact h2,h3.up h m fun e cs he=> ?_⟩;rw [he,E]at b;exact D id e cs b
   ·rw [aK aA0]at b;obtain⟨q,h1,h2⟩:=map_some b;obtain⟨t,l,h3,F,h5⟩:=J _ q h1;have R:=a7 _ q h1;rw [show H.length+(id-aS H)=id by omega]at R;rw [h3]at h2;subst h2;have a6:=(aD.1 h1).1;refine⟨by rw [R,h3],dQ, ?_,rfl, ?_⟩
    ·rw [aK (by rw [W.1];omega),Zl,aC (by rw [W.1];exact a6)]
    ·rw [R];exact⟨F,fun _ p hp=>by cases hp;exact h5,by rw [h3];exact eJ _⟩
 let md:Md:=⟨C.nn,[],none⟩;have b0:Env C md w S GS:=⟨hE,rfl,a9,hX⟩
 have a0:=KV (τ:=fM r) (res:=Pu C (H++gs).length (qV r H H 0) rs r) (md:=md) (w0:=w) (S0:=S) (C:=C) rfl ⟨_,rfl⟩ (af rfl) code (ZV b0 rfl code);have b1:∀S2 bD F2 w2,Pu C (H++gs).length (qV r H H 0) rs r S2=some y->Rel C w S bD S2 F2 w2->Le S1.nb S1.al d S1.H bD S2.H->
   ∃A v,aS rs=aS A/\(∀(i:Nat) (x:ResultVar) (u:Value),rs[i]? =some x->A[i]? =some u->(Go.Wk.gK (fr md F2).tmps x).run C.P w2=.ok u w2)/\JC A=v/\
    ∃ρ3 K,Up H.length ρ ρ3/\Hp w S K w2/\Mt w S ρ3 (vU ⟨a,r,f⟩ x y).2 K/\(lD (vU ⟨a,r,f⟩ x y).1).v ρ3=some v:=by
  intro S2 bD F2 w2 h1 h2 h3;obtain⟨ρ3,K,A,F,h5,h6,h7,h8⟩:=ee (md:=md) (H:=H) (gs:=gs) (ρ:=d) rfl rfl h2 (fun id o b=>by have m:=(aD.1 b).1;rw [h id m];exact W.lns id o b) (fun id e cs b=>by rw [E]at b;exact D id e cs b) b7 a2 h3 h1;refine⟨A,_,by simpa using bP aS h8,fun i rv u m I=> ?_,rfl,ρ3,K,h.trans F (eJ _),h5,h6, ?_⟩
  ·have h9:=bP (fun l=>l[i]?) h8;simp only [aZ,m,I,Tg]at h9;exact IP (md:=md) rfl h2 (aP h9)
  ·rw [<-h7];exact QH _
 refine enter (k:=C.nn) hf hb hn (by rw [a4];exact c0) ?_;refine a0 sc S1 (fM r) some (ef (Pu C (H++gs).length (qV r H H 0) rs r)) y d (Za M) w _ s a1 (fun e S2 bD F2 w2 he U hN d7 c4=> ?_) (fun z S2 bD F2 w2 hz b5 U hL=> ?_)
 ·cases e with
  |nm=>obtain⟨A,v,h1,h2,h3,ρ3,K,F⟩:=b1 S2 bD F2 w2 he U hN.le;exact⟨rfl,v,Fl rs A hr h1 h2 v h3,v,rfl,ρ3,K,F⟩
  |xt i=>cases he
 ·cases b5;obtain⟨A,v,h1,h2,h3,ρ3,K,F⟩:=b1 S2 bD F2 w2 hz U hL.le;exact⟨rfl,v,Fl rs A hr h1 h2 v h3,v,rfl,ρ3,K,F⟩
open Go.Wk
open Go.Ce (Tr)
open Nat renaming beq → cP, one_pos → Di, succ → mG
structure KF (P:Program) (GS:Ec) where
 k:Nat
 c:Bz
 en:Enters P k
 ok:Zw P GS k c
def Mv{P:Program}{GS:Ec}:List (KF P GS)->Nat->List Bz
 |[],_=>[]
 |q::l,k=>bif cP k q.k then q.c::Mv l k else Mv l k
theorem Gq{P:Program}{GS:Ec}:∀(l:List (KF P GS)) (k:Nat),∀c∈Mv l k,Enters P k/\Zw P GS k c
 |[],k,c,h=>by cases h
 |q::l,k,c,h=>by
  unfold Mv at h;cases a:cP k q.k with
  |false=>rw [a]at h;exact Gq l k c h
  |true=>
   rw [a]at h;rcases aN.1 (show c∈q.c::Mv l k from h)with rfl|h
   ·rw [gP a];exact⟨q.en,q.ok⟩
   ·exact Gq l k c h
def H4:List (Nat×Ob)->Nat->Nat->Option Nat
 |[],_,_=>none
 |q::l,n,g=>bif cP g q.1 then some n else H4 l (mG n) g
theorem GH:∀(l:List (Nat×Ob)) (n g id:Nat),H4 l n g=some id->∃i q,id=n+i/\l[i]? =some q/\q.1=g
 |[],n,g,id,h=>by cases h
 |q::l,n,g,id,h=>by
  unfold H4 at h;cases a:cP g q.1 with
  |false=>rw [a]at h;obtain⟨i,b,h1,h2,h3⟩:=GH l (mG n) g id h;exact⟨i+1,b,aA0,h2,h3⟩
  |true=>rw [a]at h;cases h;exact⟨0,q,rfl,rfl,(gP a).symm⟩
structure ik where
 P:Program
 GS:Ec
 E:Nat->Option (Nat×Nat×Ty)
 hE:∀t e b τ,E t=some (e,b,τ)->P.underlying t=some (.slice e)/\TI P e τ.sz b/\τ.flat=true/\0<b
 gt:∀q∈GS.gs,∃t l,q.2=.ro t l
abbrev ik.K(T:ik):Type:=KF T.P T.GS
abbrev ik.cx(T:ik)(fu n:Nat)(l:List T.K)(a:List Ty):Cx:=⟨T.P,Mv l,T.E,H4 T.GS.gs (iw a),n,fu⟩
def ik.fn(T : ik)(fu k : Nat){fn : Func}(e : T.P.funcs[k]? = some fn){code : Code}(f : fn.body = some code)(nm : (fn.name == "runtime.NumGoroutine") = false)(l : List T.K)(a : List Ty)(r : List Rk)(g : (fP a).T -> Option (fM r).T)(sc : Sc)
  (c:Nat.ble a.length fn.ntmps=true) (b:∀x,ep (T.cx fu fn.ntmps l a) (T.GS.gs.map (·.2)) code fn.results.toList sc a r x=g x):T.K:=
 ⟨k,⟨a,r,fun x=>.one (g x)⟩,⟨fn,code,e,f,nm⟩,
  dj (C:=T.cx fu fn.ntmps l a) (gl:=T.GS.gs) e f rfl (rs:=fn.results.toList) aA2 (sc:=sc) (fun x y i=>(b x).trans i) (Tp c) T.hE (Gq l) (fun q d=>⟨d,T.gt q d⟩) (fun g id h=>GH _ _ _ _ h)⟩
theorem MK{P:Program}{GS:Ec}{k:Nat}{c:Bz}(V:(fP c.a).T->List Value)(R:(fM c.r).T->Value)(A:∀x,sT c x=[])(t:∀ρ x,(hV [] c.a x).1.map (SV.v ρ)=(V x).map some)
  (n:∀x y,(vU c x y).2=[]) (u:∀ρ x y,(lD (vU c x y).1).v ρ=some (R y)) (h:∀w S x y,GS.p w S->(c.f x).ok y->CR P k (V x) w fun v w2=>v=R y/\Hp w [] [] w2):Zw P GS k c:=by
 intro w S ρ L j x y B i g d l;rw [t]at d;have e:V x=j:=(Ju (fun a b h=>aP h)).1 d;subst e;have z:L=[]:=Jz (by rw [g.1,A];rfl);subst z;refine Calls.mono (h w S x y B l) ?_;rintro ev w2 ⟨v,s,rfl,m⟩;refine⟨_,s,ρ,[],fun _ _=>rfl,i.call m, ?_,u ρ x y⟩;rw [n];exact⟨rfl,fun id o q=>by simp at q⟩
theorem UJ{P:Program}{GS:Ec}{k:Nat}{c:Bz}{t:Ty}(X:(fP c.a).T->List t.T)(V:(fP c.a).T->List Value)(R:(fM c.r).T->Value)(A:∀x,sT c x=[.ro t (X x)])(u:∀(ρ:Nat->Ad) x,(hV [] c.a x).1.map (SV.v ρ)=(Value.slice (ρ 0).a (ρ 0).ln (ρ 0).cap::V x).map some)
  (q:∀x y,(vU c x y).2=[.ro t (X x)]) (z:∀ρ x y,(lD (vU c x y).1).v ρ=some (R y))
  (h:∀w S x y a n cap,GS.p w S->(c.f x).ok y->n=(X x).length->Rd w a ((X x).flatMap t.enc)->n<=cap->CR P k (Value.slice a n cap::V x) w fun v w2=>v=R y/\Hp w [] [] w2):Zw P GS k c:=by
 intro w S ρ L C x y B j d g m;rw [u]at g;have e:=(Ju (fun a b h=>aP h)).1 g;subst e;rw [A]at d;obtain⟨h1,r,h2,h3,l⟩:=d.2 0 _ rfl;have i:(ρ 0).ln=(X x).length:=h1.symm;refine Calls.mono (h w S x y _ _ _ B m i l.1 (by rw [i];exact l.2.2)) ?_;rintro ev w2 ⟨v,s,rfl,o⟩;refine⟨_,s,ρ,L,fun _ _=>rfl,j.call o, ?_,z ρ x y⟩;rw [q];exact d
theorem H7{P:Program}{GS:Ec}{k:Nat}{c:Bz}{e b:Nat}{t:Ty}(Y:(fM c.r).T->List t.T)(V:(fP c.a).T->List Value)(n:∀x,sT c x=[])(A:∀(ρ:Nat->Ad) x,(hV [] c.a x).1.map (SV.v ρ)=(V x).map some)
  (u:∀x y,(vU c x y).2=[.rw e b t (Y y)]) (B:∀(ρ:Nat->Ad) x y,(lD (vU c x y).1).v ρ=some (.slice (ρ 0).a (ρ 0).ln (ρ 0).cap))
  (h:∀w S x y,GS.p w S->(c.f x).ok y->CR P k (V x) w fun v w2=>∃o a cap,v=.slice a (Y y).length cap/\Hp w [] [aX t.enc e t.sz o a cap (Y y)] w2):Zw P GS k c:=by
 intro w S ρ L E x y D j g d q;rw [A]at d;have e:=(Ju (fun a b h=>aP h)).1 d;subst e;have C:L=[]:=Jz (by rw [g.1,n];rfl);subst C;refine Calls.mono (h w S x y D q) ?_;rintro ev w2 ⟨v,z,o,a,cap,rfl,s⟩;refine⟨_,z,fun id=>⟨o,a,cap,false,(Y y).length⟩,_,(fun i m=>by rw [n]at m;cases m),j.kJ s, ?_,B _ x y⟩;rw [u];refine⟨rfl,fun id ob l=> ?_⟩;cases id with
 |zero=>cases l;exact⟨rfl,_,rfl,rfl⟩
 |succ id=>simp at l
theorem Ns{P:Program}{GS:Ec}{k:Nat}{c:Bz}{e b:Nat}{t:Ty}(X:(fP c.a).T->List t.T)(Y:(fM c.r).T->List t.T)(z:∀x,sT c x=[.ro t (X x)])(F:∀(ρ:Nat->Ad) x,(hV [] c.a x).1.map (SV.v ρ)=[Value.slice (ρ 0).a (ρ 0).ln (ρ 0).cap].map some)
  (C:∀x y,(vU c x y).2=[.ro t (X x),.rw e b t (Y y)]) (G:∀(ρ:Nat->Ad) x y,(lD (vU c x y).1).v ρ=some (.slice (ρ 1).a (ρ 1).ln (ρ 1).cap))
  (h:∀w S x y a n cap,GS.p w S->(c.f x).ok y->n=(X x).length->Rd w a ((X x).flatMap t.enc)->n<=cap->CR P k [Value.slice a n cap] w fun v w2=>∃o a cap,v=.slice a (Y y).length cap/\Hp w [] [aX t.enc e t.sz o a cap (Y y)] w2):Zw P GS k c:=by
 intro w S ρ L I x y H q g j A;rw [F]at j;have e:=(Ju (fun a b h=>aP h)).1 j;subst e;rw [z]at g;obtain⟨h1,r,h2,h3,s⟩:=g.2 0 _ rfl;have l:(ρ 0).ln=(X x).length:=h1.symm;refine Calls.mono (h w S x y _ _ _ H A l s.1 (by rw [l];exact s.2.2)) ?_;rintro ev w2 ⟨v,E,o,a,cap,rfl,B⟩;have D:=(q.kJ B).perm (XL (l₁:=[_]) (l₂:=L));have m:L.length=1:=g.1;refine⟨_,E,fun id=>if id=0 then ρ 0 else⟨o,a,cap,false,(Y y).length⟩,_,fun i u=> ?_,D, ?_,G _ x y⟩
 ·rw [z]at u;have:i=0:=Nat.lt_one_iff.1 u;subst this;rfl
 rw [C];refine⟨by simp [m],fun id ob d=> ?_⟩
 match id,d with
 |0,d=>cases d;exact⟨h1,r,by rw [aI aA0];exact h2,h3,s⟩
 |1,d=>cases d;exact⟨rfl,_,by rw [aK aA0,m];rfl,rfl⟩
 |id+2,d=>simp at d
theorem BV{P:Program}{GS:Ec}{k e b q:Nat}{t:Ty}{G:List t.T->Option (List t.T)}(h:Zw P GS k ⟨[.l' e b t,.f' q .u'],[.w' 0 (.l' e b t)],fun x=>.one (G x.1)⟩){o:Option Nat}{a:Option Addr}{cap:Nat}{l r:List t.T}{w:World}{S:List Nat}
  (m:G l=some r) (y:GS.p w S) (s:Hp w S [aX t.enc e t.sz o a cap l] w):CR P k [Value.slice a l.length cap,Value.func (.func q) #[] #[]] w fun v w'=>v=.tuple #[]/\r.length=l.length/\Hp w S [aX t.enc e t.sz o a cap r] w':=by
 refine Calls.mono (h w S (fun _=>⟨o,a,cap,false,l.length⟩) _ [Value.slice a l.length cap,Value.func (.func q) #[] #[]] (l,()) r y s ?_ rfl m) ?_
 ·show Mt w S _ [.rw e b t l] _;refine⟨rfl,fun id ob i=> ?_⟩;cases id with
  |zero=>cases i;exact⟨rfl,_,rfl,rfl⟩
  |succ id=>simp at i
 ·rintro ev w2 ⟨v,n,bD,g,h1,h2,h3,A⟩
  have h1:bD 0=⟨o,a,cap,false,l.length⟩:=h1 0 Di;have h3:Mt w S bD [.rw e b t r] g:=h3;obtain⟨d,j,c,f⟩:=h3.2 0 _ rfl;have d:r.length=(bD 0).ln:=d;have f:j=aX t.enc e t.sz (bD 0).o (bD 0).a (bD 0).cap r:=f;subst f;rw [h1]at d c;have u:g=[aX t.enc e t.sz o a cap r]:=by
   have z:=h3.1
   match g,z,c with
   |[x],_,c=>cases c;rfl
  subst u;exact⟨v,n,(aP A).symm,d,h2⟩
theorem XS{P:Program}{GS:Ec}{k:Nat}{c:Bz}(h:Zw P GS k c)(V:(fP c.a).T->List Value)(R:(fM c.r).T->Value)(m:∀x,sT c x=[])(j:∀ρ x,(hV [] c.a x).1.map (SV.v ρ)=(V x).map some)
  (l:∀ρ x y,(lD (vU c x y).1).v ρ=some (R y)) {w:World} {x:(fP c.a).T} {y:(fM c.r).T} (n:GS.p w []) (d:(c.f x).ok y):CR P k (V x) w fun v w2=>v=R y/\Hp w [] [] w2:=by
 refine Calls.mono (h w [] (fun _=>⟨none,none,0,false,0⟩) [] (V x) x y n (Hp.refl w) ?_ (j _ x) d) ?_
 ·rw [m];exact⟨rfl,fun id o g=>by simp at g⟩
 ·rintro e w2 ⟨v,i,bD,q,_,h2,_,b⟩;rw [l]at b;exact⟨v,i,(aP b).symm,h2.nil⟩
end Go.Oe
set_option maxRecDepth 20000
set_option maxHeartbeats 1000000
namespace Go.Wk
open Go.Px
open Int renaming toNat → aR
open List renaming drop → bK
open Sum renaming elim → eF
def wu(fu:Nat)(a:Int):Option Bool:=
 (((if(0:Int)<=a then some (decide (a<(55296:Int)))else some false)).bind fun(b:Bool)=>(bif b then some true else(((if(57343:Int)<a then some (decide (a<=(1114111:Int)))else some false)).bind fun(c:Bool)=>(bif c then some true else some false))))
def wq(fu:Nat)(s_0:aA)(b:Nat->Option (Unit⊕Int))(a:Nat):Option (Unit⊕Int):=
 (if a<s_0.length then(if((Utf8.decode ⟨List.toArray s_0⟩ a).1:Int)=(65533:Int)then some (.inr (a:Int))else(b (a+(Utf8.decode ⟨List.toArray s_0⟩ a).2)))else some (.inl ()))
def wi(fu:Nat)(s_0:aA):Nat->Nat->Option (Unit⊕Int):=fun b a=>bM (fun(g:Nat->Option (Unit⊕Int)) v=>wq fu s_0 (fun a=>g a) v) b a
theorem ani{fu:Nat}{s_0:aA}{a:Nat}{b:Nat}:wi fu s_0 (a+1) b=wq fu s_0 (wi fu s_0 a) b:=rfl
def aoj(fu:Nat)(s_0:aA)(b:Int)(c:Int)(d:Int->Option Int)(a:Int):Option Int:=
 (if a<(((Utf8.encode b).data.toList).length:Int)then(gd (bJ (c-a))<|(gd (0<=(c-a)/\(c-a)<(s_0.length:Int))<|(gd (bJ (((((Utf8.encode b).data.toList).length:Int)-(1:Int))-a))<|(gd (0<=(((((Utf8.encode b).data.toList).length:Int)-(1:Int))-a)/\(((((Utf8.encode b).data.toList).length:Int)-(1:Int))-a)<(((Utf8.encode b).data.toList).length:Int))<|(if(at_ s_0 (c-a))=(at_ ((Utf8.encode b).data.toList) (((((Utf8.encode b).data.toList).length:Int)-(1:Int))-a))then(gd (bJ (a+(1:Int)))<|(d (a+(1:Int))))else none)))))else(gd (bJ (c-((((Utf8.encode b).data.toList).length:Int)-(1:Int))))<|some (c-((((Utf8.encode b).data.toList).length:Int)-(1:Int)))))
def akg(fu:Nat)(s_0:aA)(d:Int)(c:Int):Nat->Int->Option Int:=fun b a=>bM (fun(g:Int->Option Int) v=>aoj fu s_0 d c (fun a=>g a) v) b a
theorem azi{fu:Nat}{s_0:aA}{b:Int}{a:Int}{c:Nat}{d:Int}:akg fu s_0 b a (c+1) d=aoj fu s_0 b a (akg fu s_0 b a c) d:=rfl
def ajo(fu:Nat)(s_0:aA)(a:Int)(d:Option Int):Option Int:=
 (if((((Utf8.encode a).data.toList).length:Int)-(1:Int))<(s_0.length:Int)then(((gd (0<=((((Utf8.encode a).data.toList).length:Int)-(1:Int))/\((((Utf8.encode a).data.toList).length:Int)-(1:Int))<(s_0.length:Int))<|(gd (0<=((((Utf8.encode a).data.toList).length:Int)-(1:Int))/\((((Utf8.encode a).data.toList).length:Int)-(1:Int))<(((Utf8.encode a).data.toList).length:Int))<|(if(at_ s_0 ((((Utf8.encode a).data.toList).length:Int)-(1:Int)))=(at_ ((Utf8.encode a).data.toList) ((((Utf8.encode a).data.toList).length:Int)-(1:Int)))then some (.inl ((((Utf8.encode a).data.toList).length:Int)-(1:Int)))else(gd (bJ (((((Utf8.encode a).data.toList).length:Int)-(1:Int))+(1:Int)))<|(gd (0<=(((((Utf8.encode a).data.toList).length:Int)-(1:Int))+(1:Int))/\(((((Utf8.encode a).data.toList).length:Int)-(1:Int))+(1:Int))<=(s_0.length:Int))<|(gd (0<=((((Utf8.encode a).data.toList).length:Int)-(1:Int))/\((((Utf8.encode a).data.toList).length:Int)-(1:Int))<(((Utf8.encode a).data.toList).length:Int))<|(if(dJ (·==(at_ ((Utf8.encode a).data.toList) ((((Utf8.encode a).data.toList).length:Int)-(1:Int)))) (bK (aR (((((Utf8.encode a).data.toList).length:Int)-(1:Int))+(1:Int))) s_0))<(0:Int)then some (.inr (-1:Int))else(gd (bJ ((dJ (·==(at_ ((Utf8.encode a).data.toList) ((((Utf8.encode a).data.toList).length:Int)-(1:Int)))) (bK (aR (((((Utf8.encode a).data.toList).length:Int)-(1:Int))+(1:Int))) s_0))+(1:Int)))<|(gd (bJ (((((Utf8.encode a).data.toList).length:Int)-(1:Int))+((dJ (·==(at_ ((Utf8.encode a).data.toList) ((((Utf8.encode a).data.toList).length:Int)-(1:Int)))) (bK (aR (((((Utf8.encode a).data.toList).length:Int)-(1:Int))+(1:Int))) s_0))+(1:Int))))<|some (.inl (((((Utf8.encode a).data.toList).length:Int)-(1:Int))+((dJ (·==(at_ ((Utf8.encode a).data.toList) ((((Utf8.encode a).data.toList).length:Int)-(1:Int)))) (bK (aR (((((Utf8.encode a).data.toList).length:Int)-(1:Int))+(1:Int))) s_0))+(1:Int)))))))))))))).bind fun(c:(Int⊕Int))=>eF (fun(b:Int)=>(akg fu s_0 a b fu (1:Int))) (fun q=>some q) c)else some (-1:Int))
def wj(fu:Nat)(s_0:aA)(b:Int):Nat->Option Int:=fun a=>bM (fun(g:Unit->Option Int) v=>ajo fu s_0 b (g ())) a ()
theorem asp{fu:Nat}{s_0:aA}{a:Int}{b:Nat}:wj fu s_0 a (b+1)=ajo fu s_0 a (wj fu s_0 a b):=rfl
def V2(fu:Nat)(s_0:aA)(a:Int):Option Int:=
 (((if(0:Int)<=a then some (decide (a<(128:Int)))else some false)).bind fun(b:Bool)=>(bif b then some (dJ (·==(P3 a)) s_0)else(if a=(65533:Int)then(((wi fu s_0 fu 0)).bind fun(d:(Unit⊕Int))=>eF (fun(e:Unit)=>some (-1:Int)) (fun q=>some q) d)else((wu fu a).bind fun(c:Bool)=>(bif (!c)then some (-1:Int)else(gd (bJ ((((Utf8.encode a).data.toList).length:Int)-(1:Int)))<|(wj fu s_0 a fu)))))))
def ahv(fu:Nat)(a:Int):Option Bool:=
 some (decide ((8:Int)<a))
def lr(fu:Nat)(s_0:aA)(d:aA)(c:Nat->Option (Unit⊕Int))(a:Nat):Option (Unit⊕Int):=
 (if a<s_0.length then((V2 fu d ((Utf8.decode ⟨List.toArray s_0⟩ a).1:Int)).bind fun(b:Int)=>(if(0:Int)<=b then some (.inr (a:Int))else(c (a+(Utf8.decode ⟨List.toArray s_0⟩ a).2))))else some (.inl ()))
def wa(fu:Nat)(s_0:aA)(c:aA):Nat->Nat->Option (Unit⊕Int):=fun b a=>bM (fun(g:Nat->Option (Unit⊕Int)) v=>lr fu s_0 c (fun a=>g a) v) b a
theorem ajp{fu:Nat}{s_0:aA}{a:aA}{b:Nat}{c:Nat}:wa fu s_0 a (b+1) c=lr fu s_0 a (wa fu s_0 a b) c:=rfl
def aqx(fu:Nat)(s_0:aA)(a:aA):Option Int:=
 (if a=([]:aA)then some (-1:Int)else(if(a.length:Int)=(1:Int)then(gd (0<=(0:Int)/\(0:Int)<(a.length:Int))<|(((if(128:Int)<=((at_ a (0:Int)).toNat:Int)then some (65533:Int)else some ((at_ a (0:Int)).toNat:Int))).bind fun(b:Int)=>((V2 fu s_0 b).bind fun(e:Int)=>some e)))else((((ahv fu (s_0.length:Int)).bind fun(d:Bool)=>(bif d then none else some ()))).bind fun(g:Unit)=>(((wa fu s_0 a fu 0)).bind fun(c:(Unit⊕Int))=>eF (fun(f:Unit)=>some (-1:Int)) (fun q=>some q) c))))
end Go.Wk
namespace Go.Px
open Go.Wk
theorem get_at(l:List UInt8)(k:Nat)(h:k<l.length):(⟨l.toArray⟩:ByteArray).get! k=at_ l (k:Int):=by show l.toArray[k]! =_;simp [at_,h]
theorem Ny(l:List UInt8)(k:Nat)(h:k<l.length)(h1:(at_ l (k:Int)).toNat<128):Utf8.decode ⟨l.toArray⟩ k=((at_ l (k:Int)).toNat,1):=by unfold Utf8.decode;simp only [Nat.add_zero,get_at l k h];rw [aC aA0]
theorem VK(l:List UInt8)(k:Nat)(h:k<l.length)(h1:¬(at_ l (k:Int)).toNat<128):
  128<=(Utf8.decode ⟨l.toArray⟩ k).1/\1<=(Utf8.decode ⟨l.toArray⟩ k).2/\k+(Utf8.decode ⟨l.toArray⟩ k).2<=l.length/\
  ∀j:Nat,k<=j->j<k+(Utf8.decode ⟨l.toArray⟩ k).2->128<=(at_ l (j:Int)).toNat:=by
 have g:(⟨l.toArray⟩:ByteArray).size=l.length:=rfl;have a:∀c:Nat,128<=c->128<=((c,1):Nat×Nat).1/\1<=((c,1):Nat×Nat).2/\k+((c,1):Nat×Nat).2<=l.length/\∀j:Nat,k<=j->j<k+((c,1):Nat×Nat).2->128<=(at_ l (j:Int)).toNat:=
  fun c p=>⟨p,oN _,by simp;omega,fun j h2 h3=>by
   have:j=k:=by simp at h3;omega
   subst this;omega⟩
 have cont:∀i:Nat,(decide (k+i<l.length)&&((⟨l.toArray⟩:ByteArray).get! (k+i)).toNat/64==2)=true->k+i<l.length/\128<=(at_ l ((k+i:Nat):Int)).toNat:=by intro i m;simp only [dE,bE,beq_iff_eq]at m;rw [get_at l (k+i) m.1]at m;omega
 have b:128<=Utf8.runeError:=aA1;have d:128<=(at_ l (k:Int)).toNat:=aA0;unfold Utf8.decode;simp only [Nat.add_zero,get_at l k h,g];rw [aB aA0];split
 ·rename_i h2;simp only [dE]at h2;have f:=cont 1 (by simpa using h2.2);split
  ·rename_i h3;refine⟨aE6,aA2,by simp;omega,fun j o e=> ?_⟩;have:j=k\/j=k+1:=by simp at e;omega
   rcases this with rfl|rfl
   ·exact d
   ·exact f.2
  ·exact a _ b
 split
 ·rename_i h2;simp only [dE]at h2;have f:=cont 1 (by simpa using h2.1.2);have n:=cont 2 (by simpa using h2.2);split
  ·rename_i h3;simp only [dE,bE]at h3;refine⟨by have:=h3.1;simp only [ge_iff_le]at this⊢;omega,aA2,by simp;omega,fun j o e=> ?_⟩;have:j=k\/j=k+1\/j=k+2:=by simp at e;omega
   rcases this with rfl|rfl|rfl
   ·exact d
   ·exact f.2
   ·exact n.2
  ·exact a _ b
 split
 ·rename_i h2;simp only [dE]at h2;have f:=cont 1 (by simpa using h2.1.1.2);have n:=cont 2 (by simpa using h2.1.2);have q:=cont 3 (by simpa using h2.2);split
  ·rename_i h3;simp only [dE,bE]at h3;refine⟨by have:=h3.1;simp only [ge_iff_le]at this⊢;omega,aA2,by simp;omega,fun j o e=> ?_⟩;have:j=k\/j=k+1\/j=k+2\/j=k+3:=by simp at e;omega
   rcases this with rfl|rfl|rfl|rfl
   ·exact d
   ·exact f.2
   ·exact n.2
   ·exact q.2
  ·exact a _ b
 ·exact a _ b
def Ky(r:Int):List UInt8:=(Utf8.encode r).data.toList
theorem KQ(r:Int)(h:128<=r):2<=(Ky r).length/\(Ky r).length<=4/\128<=(at_ (Ky r) ((Ky r).length-1:Int)).toNat:=by
 have a:∀n:Nat,128<=(UInt8.ofNat (128+n%64)).toNat:=by intro n;rw [nY];omega
 unfold Ky Utf8.encode;have b:128<=(if Utf8.valid r=true then r.toNat else Utf8.runeError):=by
  split
  ·omega
  ·decide
 generalize(if Utf8.valid r=true then r.toNat else Utf8.runeError)=c at b;simp only;rw [aB aA0];split
 ·exact⟨aA2,aA2,a c⟩
 split
 ·exact⟨aA2,aA2,a c⟩
 ·exact⟨aA2,aA2,a c⟩
end Go.Px
namespace Go.Wk
open Go.Px
open Int renaming toNat → aR
open List renaming drop → bK
open Sum renaming elim → eF
def ue(fu:Nat)(b:List ((List (aA×aA))×(List UInt8)))(f:Int->Int->Option (Int⊕Bool))(c:Int)(a:Int):Option (Int⊕Bool):=
 (((if a<(b.length:Int)then some (decide (a<(20:Int)))else some false)).bind fun(e:Bool)=>(bif e then(((gd (0<=a/\a<(b.length:Int))<|(gd (0<=a/\a<(b.length:Int))<|(if(100:Int)<(((el b a).1).length:Int)then some true else(gd (0<=a/\a<(b.length:Int))<|(gd (0<=a/\a<(b.length:Int))<|some (decide ((20000:Int)<(((el b a).2).length:Int))))))))).bind fun(d:Bool)=>(bif d then some (.inr false)else(gd (0<=a/\a<(b.length:Int))<|(gd (0<=a/\a<(b.length:Int))<|(gd (bJ (c+(((el b a).1).length:Int)))<|(gd (bJ (a+(1:Int)))<|(f (c+(((el b a).1).length:Int)) (a+(1:Int)))))))))else some (.inl c)))
def jy(fu:Nat)(d:List ((List (aA×aA))×(List UInt8))):Nat->Int->Int->Option (Int⊕Bool):=fun c b a=>bM (fun(g:(Int×Int)->Option (Int⊕Bool)) v=>ue fu d (fun b a=>g (b,a)) v.1 v.2) c (b,a)
theorem avr{fu:Nat}{a:List ((List (aA×aA))×(List UInt8))}{b:Nat}{d:Int}{c:Int}:jy fu a (b+1) d c=ue fu a (jy fu a b) d c:=rfl
def tl(fu:Nat)(a:List ((List (aA×aA))×(List UInt8))):Option Bool:=
 (((jy fu a fu (0:Int) (0:Int))).bind fun(d:(Int⊕Bool))=>eF (fun(c:Int)=>(((if(a.length:Int)<=(20:Int)then some (decide (c<=(200:Int)))else some false)).bind fun(b:Bool)=>some b)) (fun q=>some q) d)
def aqy(fu:Nat)(a:UInt8):Option Bool:=
 (((((if(97:UInt8)<=a then some (decide (a<=(122:UInt8)))else some false)).bind fun(c:Bool)=>(bif c then(bif c then some (.inr true)else some (.inl ()))else(((if(65:UInt8)<=a then some (decide (a<=(90:UInt8)))else some false)).bind fun(b:Bool)=>(bif b then(bif b then some (.inr true)else some (.inl ()))else(if(48:UInt8)<=a then(if a<=(57:UInt8)then some (.inr true)else some (.inl ()))else some (.inl ()))))))).bind fun(d:(Unit⊕Bool))=>eF (fun(e:Unit)=>(if a=(45:UInt8)then(if a=(45:UInt8)then some true else some false)else(if a=(46:UInt8)then(if a=(46:UInt8)then some true else some false)else(if a=(33:UInt8)then(if a=(33:UInt8)then some true else some false)else(if a=(37:UInt8)then(if a=(37:UInt8)then some true else some false)else(if a=(42:UInt8)then(if a=(42:UInt8)then some true else some false)else(if a=(95:UInt8)then(if a=(95:UInt8)then some true else some false)else(if a=(43:UInt8)then(if a=(43:UInt8)then some true else some false)else(if a=(39:UInt8)then(if a=(39:UInt8)then some true else some false)else(if a=(126:UInt8)then(if a=(126:UInt8)then some true else some false)else(if a=(96:UInt8)then some true else some false))))))))))) (fun q=>some q) d)
def aew(fu:Nat)(s_0:aA)(d:Int->Option Int)(a:Int):Option Int:=
 (((if a<(s_0.length:Int)then(gd (0<=a/\a<(s_0.length:Int))<|((aqy fu (at_ s_0 a)).bind fun(c:Bool)=>some c))else some false)).bind fun(b:Bool)=>(bif b then(gd (bJ (a+(1:Int)))<|(d (a+(1:Int))))else some a))
def afa(fu:Nat)(s_0:aA):Nat->Int->Option Int:=fun b a=>bM (fun(g:Int->Option Int) v=>aew fu s_0 (fun a=>g a) v) b a
theorem aln{fu:Nat}{s_0:aA}{a:Nat}{b:Int}:afa fu s_0 (a+1) b=aew fu s_0 (afa fu s_0 a) b:=rfl
def ago(fu:Nat)(s_0:aA)(b:Int):Option Int:=
 (((afa fu s_0 fu (min (max b (0:Int)) (s_0.length:Int)))).bind fun(a:Int)=>some a)
def M0(fu:Nat)(s_0:aA)(b:Int):Option Int:=
 ((ago fu s_0 b).bind fun(a:Int)=>some a)
def MQ(fu:Nat)(s_0:aA):Option Bool:=
 (((if s_0=([]:aA)then some false else((M0 fu s_0 (0:Int)).bind fun(b:Int)=>some (decide (b=(s_0.length:Int)))))).bind fun(a:Bool)=>some a)
def gm(fu:Nat)(s_0:aA):Option Bool:=
 ((((MQ fu s_0).bind fun(b:Bool)=>(bif b then some (decide ((s_0.length:Int)<=(70:Int)))else some false))).bind fun(a:Bool)=>some a)
def anp(fu:Nat)(s_0:aA)(a:aA):Option Bool:=
 (((if(a.length:Int)<=(s_0.length:Int)then(gd (bJ ((s_0.length:Int)-(a.length:Int)))<|(gd (0<=((s_0.length:Int)-(a.length:Int))/\((s_0.length:Int)-(a.length:Int))<=(s_0.length:Int))<|some (decide ((bK (aR ((s_0.length:Int)-(a.length:Int))) s_0)=a))))else some false)).bind fun(b:Bool)=>some b)
def apo(fu:Nat)(s_0:aA)(b:aA):Option Bool:=
 ((anp fu s_0 b).bind fun(a:Bool)=>some a)
open Go.Lib renaming hasPrefix → kB, index → bR, trimPrefix → fD
open List renaming drop → bK, take → kO
def V1(fu:Nat)(a:UInt8):Option Bool:=
 (((if a=(32:UInt8)then some true else some (decide (a=(9:UInt8))))).bind fun(b:Bool)=>some b)
def xb(fu:Nat)(s_0:aA)(d:Int->Option Int)(a:Int):Option Int:=
 (((if a<(s_0.length:Int)then(gd (0<=a/\a<(s_0.length:Int))<|((V1 fu (at_ s_0 a)).bind fun(c:Bool)=>some c))else some false)).bind fun(b:Bool)=>(bif b then(gd (bJ (a+(1:Int)))<|(d (a+(1:Int))))else some a))
def afb(fu:Nat)(s_0:aA):Nat->Int->Option Int:=fun b a=>bM (fun(g:Int->Option Int) v=>xb fu s_0 (fun a=>g a) v) b a
theorem agz{fu:Nat}{s_0:aA}{a:Nat}{b:Int}:afb fu s_0 (a+1) b=xb fu s_0 (afb fu s_0 a) b:=rfl
def aju(fu:Nat)(s_0:aA)(b:Int):Option Int:=
 (((afb fu s_0 fu (min (max b (0:Int)) (s_0.length:Int)))).bind fun(a:Int)=>some a)
def L8(fu:Nat)(s_0:aA)(b:Int):Option Int:=
 ((aju fu s_0 b).bind fun(a:Int)=>some a)
def anq(fu:Nat)(s_0:aA)(a:aA):Option Bool:=
 (((if(a.length:Int)<=(s_0.length:Int)then(gd (0<=(a.length:Int)/\(a.length:Int)<=(s_0.length:Int))<|some (decide ((kO (aR (a.length:Int)) s_0)=a)))else some false)).bind fun(v6:Bool)=>some v6)
def ati(fu:Nat)(s_0:aA)(b:aA):Option Bool:=
 ((anq fu s_0 b).bind fun(a:Bool)=>some a)
def alp(fu:Nat)(a:aA)(c:aA)(e:Int->Option ((Int×Int×Bool)×Bool))(b:Int):Option ((Int×Int×Bool)×Bool):=
 (gd (0<=(min b (a.length:Int))/\(min b (a.length:Int))<=(a.length:Int))<|(gd ((bK (aR (min b (a.length:Int))) a).length<=1000000000)<|(if(bR (bK (aR (min b (a.length:Int))) a) (([45,45]:aA)++c))<(0:Int)then some (((0:Int),(0:Int),false),false)else(gd (bJ (b+(bR (bK (aR (min b (a.length:Int))) a) (([45,45]:aA)++c))))<|(((if(0:Int)<(b+(bR (bK (aR (min b (a.length:Int))) a) (([45,45]:aA)++c)))then(gd (0<=(b+(bR (bK (aR (min b (a.length:Int))) a) (([45,45]:aA)++c)))/\(b+(bR (bK (aR (min b (a.length:Int))) a) (([45,45]:aA)++c)))<=(a.length:Int))<|((apo fu (kO (aR (b+(bR (bK (aR (min b (a.length:Int))) a) (([45,45]:aA)++c)))) a) ([13,10]:aA)).bind fun(h:Bool)=>some (!h)))else some false)).bind fun(g:Bool)=>(bif g then(gd (bJ ((b+(bR (bK (aR (min b (a.length:Int))) a) (([45,45]:aA)++c)))+(1:Int)))<|(e ((b+(bR (bK (aR (min b (a.length:Int))) a) (([45,45]:aA)++c)))+(1:Int))))else(gd (bJ ((b+(bR (bK (aR (min b (a.length:Int))) a) (([45,45]:aA)++c)))+((([45,45]:aA)++c).length:Int)))<|(gd (0<=((b+(bR (bK (aR (min b (a.length:Int))) a) (([45,45]:aA)++c)))+((([45,45]:aA)++c).length:Int))/\((b+(bR (bK (aR (min b (a.length:Int))) a) (([45,45]:aA)++c)))+((([45,45]:aA)++c).length:Int))<=(a.length:Int))<|((L8 fu (fD (bK (aR ((b+(bR (bK (aR (min b (a.length:Int))) a) (([45,45]:aA)++c)))+((([45,45]:aA)++c).length:Int))) a) ([45,45]:aA)) (0:Int)).bind fun(d:Int)=>(gd (0<=d/\d<=((fD (bK (aR ((b+(bR (bK (aR (min b (a.length:Int))) a) (([45,45]:aA)++c)))+((([45,45]:aA)++c).length:Int))) a) ([45,45]:aA)).length:Int))<|(if(bK (aR d) (fD (bK (aR ((b+(bR (bK (aR (min b (a.length:Int))) a) (([45,45]:aA)++c)))+((([45,45]:aA)++c).length:Int))) a) ([45,45]:aA)))=([]:aA)then some ((b+(bR (bK (aR (min b (a.length:Int))) a) (([45,45]:aA)++c)),(a.length:Int),(kB (bK (aR ((b+(bR (bK (aR (min b (a.length:Int))) a) (([45,45]:aA)++c)))+((([45,45]:aA)++c).length:Int))) a) ([45,45]:aA))),true)else((ati fu (bK (aR d) (fD (bK (aR ((b+(bR (bK (aR (min b (a.length:Int))) a) (([45,45]:aA)++c)))+((([45,45]:aA)++c).length:Int))) a) ([45,45]:aA))) ([13,10]:aA)).bind fun(f:Bool)=>(bif f then(gd (bJ ((a.length:Int)-((bK (aR d) (fD (bK (aR ((b+(bR (bK (aR (min b (a.length:Int))) a) (([45,45]:aA)++c)))+((([45,45]:aA)++c).length:Int))) a) ([45,45]:aA))).length:Int)))<|(gd (bJ (((a.length:Int)-((bK (aR d) (fD (bK (aR ((b+(bR (bK (aR (min b (a.length:Int))) a) (([45,45]:aA)++c)))+((([45,45]:aA)++c).length:Int))) a) ([45,45]:aA))).length:Int))+(2:Int)))<|some ((b+(bR (bK (aR (min b (a.length:Int))) a) (([45,45]:aA)++c)),((a.length:Int)-((bK (aR d) (fD (bK (aR ((b+(bR (bK (aR (min b (a.length:Int))) a) (([45,45]:aA)++c)))+((([45,45]:aA)++c).length:Int))) a) ([45,45]:aA))).length:Int))+(2:Int),(kB (bK (aR ((b+(bR (bK (aR (min b (a.length:Int))) a) (([45,45]:aA)++c)))+((([45,45]:aA)++c).length:Int))) a) ([45,45]:aA))),true)))else(gd (bJ ((b+(bR (bK (aR (min b (a.length:Int))) a) (([45,45]:aA)++c)))+(1:Int)))<|(e ((b+(bR (bK (aR (min b (a.length:Int))) a) (([45,45]:aA)++c)))+(1:Int)))))))))))))))))
def aim(fu:Nat)(d:aA)(c:aA):Nat->Int->Option ((Int×Int×Bool)×Bool):=fun b a=>bM (fun(g:Int->Option ((Int×Int×Bool)×Bool)) v=>alp fu d c (fun a=>g a) v) b a
theorem axg{fu:Nat}{b:aA}{a:aA}{c:Nat}{d:Int}:aim fu b a (c+1) d=alp fu b a (aim fu b a c) d:=rfl
def als(fu:Nat)(c:aA)(b:Int)(a:aA):Option ((Int×Int×Bool)×Bool):=
 (gd (([45,45]:aA).length+a.length<=9223372036854775807)<|(aim fu c a fu b))
def kz(fu:Nat)(a:UInt8):Option Bool:=
 (((if a<(32:UInt8)then(if a=(9:UInt8)then some (decide (a=(127:UInt8)))else some true)else some (decide (a=(127:UInt8))))).bind fun(v6:Bool)=>some v6)
def uV(fu:Nat)(s_0:aA)(b:Int->Option (Unit⊕(Int×Bool)))(a:Int):Option (Unit⊕(Int×Bool)):=
 (if a<(s_0.length:Int)then(gd (0<=a/\a<(s_0.length:Int))<|((kz fu (at_ s_0 a)).bind fun(c:Bool)=>(bif (!c)then(gd (bJ (a+(1:Int)))<|(b (a+(1:Int))))else(gd (0<=a/\a<(s_0.length:Int))<|(if(at_ s_0 a)=(13:UInt8)then(gd (bJ (a+(1:Int)))<|(if(a+(1:Int))=(s_0.length:Int)then some (.inr ((0:Int),false))else(gd (bJ (a+(1:Int)))<|(gd (0<=(a+(1:Int))/\(a+(1:Int))<(s_0.length:Int))<|(if(at_ s_0 (a+(1:Int)))=(10:UInt8)then(gd (bJ (a+(1:Int)))<|(gd (bJ ((a+(1:Int))+(1:Int)))<|(b ((a+(1:Int))+(1:Int)))))else some (.inr (a,true)))))))else some (.inr (a,true)))))))else some (.inl ()))
def xY(fu:Nat)(s_0:aA):Nat->Int->Option (Unit⊕(Int×Bool)):=fun b a=>bM (fun(g:Int->Option (Unit⊕(Int×Bool))) v=>uV fu s_0 (fun a=>g a) v) b a
def bba(fu:Nat)(s_0:aA):Option (Int×Bool):=
 (((xY fu s_0 fu (0:Int))).bind fun(a:(Unit⊕(Int×Bool)))=>eF (fun(b:Unit)=>some ((0:Int),false)) (fun q=>some q) a)
open Go.Lib renaming index → bR, join → dM
open List renaming drop → bK, set → eA, take → kO
def awq(fu:Nat)(s_0:aA):Option aA:=
 some s_0
def vf(fu:Nat)(g:Int)(c:aA)(d:List aA)(a:List (Int×aA)):Option (Nat×(List aA)×(List (Int×aA))):=
 (((((if c=([]:aA)then some true else(gd (0<=(0:Int)/\(0:Int)<(c.length:Int))<|((V1 fu (at_ c (0:Int))).bind fun(i:Bool)=>some (!i))))).bind fun(h:Bool)=>(bif h then(((if(0:Int)<(a.length:Int)then(gd (bJ ((a.length:Int)-(1:Int)))<|(gd (d.length<=1000000000/\(dM d ([32]:aA)).length<=100000000000)<|(gd (0<=((a.length:Int)-(1:Int))/\((a.length:Int)-(1:Int))<(a.length:Int))<|(gd (0<=((a.length:Int)-(1:Int))/\((a.length:Int)-(1:Int))<(a.length:Int))<|some (eA a (aR ((a.length:Int)-(1:Int))) ((el a ((a.length:Int)-(1:Int))).1,dM d ([32]:aA)))))))else some a)).bind fun(f:List (Int×aA))=>(gd ((f.length+([(g,([]:aA))]:List (Int×aA)).length)*24<=140737488355328)<|(gd (0<=(0:Int)/\(0:Int)<=(d.length:Int))<|some (kO (aR (0:Int)) d,f++([(g,([]:aA))]:List (Int×aA))))))else some (d,a)))).bind fun(e:((List aA)×(List (Int×aA))))=>(gd (c.length<=1000000000)<|gd (([32,9]:aA).length<=1000/\([32,9]:aA).all (fun b=>decide (b.toNat<128))=true)<|(if(Lib.trimS c ([32,9]:aA))=([]:aA)then some (0,e.1,e.2)else(gd ((e.1.length+([Lib.trimS c ([32,9]:aA)]:List aA).length)*16<=140737488355328)<|some (0,e.1++([Lib.trimS c ([32,9]:aA)]:List aA),e.2)))))
def afe(fu:Nat)(b:aA)(g:Int->(List aA)->(List (Int×aA))->Option ((List aA)×(List (Int×aA))×Nat))(a:Int)(f:List aA)(e:List (Int×aA)):Option ((List aA)×(List (Int×aA))×Nat):=
 (if a<(b.length:Int)then(gd (0<=a/\a<=(b.length:Int))<|(gd ((bK (aR a) b).length<=1000000000)<|(if(bR (bK (aR a) b) ([13,10]:aA))<(0:Int)then(gd (0<=a/\a<=(b.length:Int))<|((vf fu a (bK (aR a) b) f e).bind fun(d:(Nat×(List aA)×(List (Int×aA))))=>(if d.1=0 then some (d.2.1,d.2.2,0)else some (d.2.1,d.2.2,d.1))))else(gd (bJ (a+(bR (bK (aR a) b) ([13,10]:aA))))<|(gd (0<=a/\a<=(a+(bR (bK (aR a) b) ([13,10]:aA)))/\(a+(bR (bK (aR a) b) ([13,10]:aA)))<=(b.length:Int))<|((vf fu a (sub b a (a+(bR (bK (aR a) b) ([13,10]:aA)))) f e).bind fun(c:(Nat×(List aA)×(List (Int×aA))))=>(if c.1=0 then(gd (bJ ((bR (bK (aR a) b) ([13,10]:aA))+(2:Int)))<|(gd (bJ (a+((bR (bK (aR a) b) ([13,10]:aA))+(2:Int))))<|(g (a+((bR (bK (aR a) b) ([13,10]:aA))+(2:Int))) c.2.1 c.2.2)))else some (c.2.1,c.2.2,c.1))))))))else some (f,e,0))
def adv(fu:Nat)(e:aA):Nat->Int->(List aA)->(List (Int×aA))->Option ((List aA)×(List (Int×aA))×Nat):=fun d c b a=>bM (fun(g:(Int×(List aA)×(List (Int×aA)))->Option ((List aA)×(List (Int×aA))×Nat)) v=>afe fu e (fun c b a=>g (c,b,a)) v.1 v.2.1 v.2.2) d (c,b,a)
theorem aqr{fu:Nat}{a:aA}{b:Nat}{e:Int}{d:List aA}{c:List (Int×aA)}:adv fu a (b+1) e d c=afe fu a (adv fu a b) e d c:=rfl
def aha(fu:Nat)(x_1:List aA)(x_4:List (Int×aA))(a:aA):Option ((List aA)×(List (Int×aA))×Nat):=
 (adv fu a fu (0:Int) x_1 x_4)
def azj(fu:Nat)(s_0:aA):Option ((List (Int×aA))×Int×UInt8):=
 (if s_0=([]:aA)then some (([]:List (Int×aA)),(0:Int),(0:UInt8))else(gd (0<=(0:Int)/\(0:Int)<(s_0.length:Int))<|((V1 fu (at_ s_0 (0:Int))).bind fun(c:Bool)=>(bif c then some (([]:List (Int×aA)),(0:Int),(5:UInt8))else((bba fu s_0).bind fun(b:(Int×Bool))=>(bif b.2 then some (([]:List (Int×aA)),b.1,(5:UInt8))else((apo fu s_0 ([13,10]:aA)).bind fun(e:Bool)=>(bif (!e)then some (([]:List (Int×aA)),(s_0.length:Int),(6:UInt8))else((awq fu s_0).bind fun(d:aA)=>((aha fu ([]:List aA) ([]:List (Int×aA)) d).bind fun(a:((List aA)×(List (Int×aA))×Nat))=>(if a.2.2=0 then(gd (bJ ((a.2.1.length:Int)-(1:Int)))<|(gd (a.1.length<=1000000000/\(dM a.1 ([32]:aA)).length<=100000000000)<|(gd (0<=((a.2.1.length:Int)-(1:Int))/\((a.2.1.length:Int)-(1:Int))<(a.2.1.length:Int))<|(gd (0<=((a.2.1.length:Int)-(1:Int))/\((a.2.1.length:Int)-(1:Int))<(a.2.1.length:Int))<|some (eA a.2.1 (aR ((a.2.1.length:Int)-(1:Int))) ((el a.2.1 ((a.2.1.length:Int)-(1:Int))).1,dM a.1 ([32]:aA)),(0:Int),(0:UInt8))))))else none)))))))))))
def kr(fu:Nat)(a:UInt8):Option UInt8:=
 (((if(65:UInt8)<=a then some (decide (a<=(90:UInt8)))else some false)).bind fun(b:Bool)=>(bif b then some (a+(32:UInt8))else some a))
def zv(fu:Nat)(a:UInt8):Option aA:=
 (if a=(98:UInt8)then some ([82,101,102,101,114,114,101,100,45,66,121]:aA)else(if a=(99:UInt8)then some ([67,111,110,116,101,110,116,45,84,121,112,101]:aA)else(if a=(101:UInt8)then some ([67,111,110,116,101,110,116,45,69,110,99,111,100,105,110,103]:aA)else(if a=(102:UInt8)then some ([70,114,111,109]:aA)else(if a=(105:UInt8)then some ([67,97,108,108,45,73,68]:aA)else(if a=(107:UInt8)then some ([83,117,112,112,111,114,116,101,100]:aA)else(if a=(108:UInt8)then some ([67,111,110,116,101,110,116,45,76,101,110,103,116,104]:aA)else(if a=(109:UInt8)then some ([67,111,110,116,97,99,116]:aA)else(if a=(111:UInt8)then some ([69,118,101,110,116]:aA)else(if a=(114:UInt8)then some ([82,101,102,101,114,45,84,111]:aA)else(if a=(115:UInt8)then some ([83,117,98,106,101,99,116]:aA)else(if a=(116:UInt8)then some ([84,111]:aA)else(if a=(117:UInt8)then some ([65,108,108,111,119,45,69,118,101,110,116,115]:aA)else(if a=(118:UInt8)then some ([86,105,97]:aA)else(if a=(120:UInt8)then some ([83,101,115,115,105,111,110,45,69,120,112,105,114,101,115]:aA)else some ([]:aA))))))))))))))))
def adx(fu:Nat)(s_0:aA)(d:aA->Int->Option aA)(b:aA)(a:Int):Option aA:=
 (if a<(s_0.length:Int)then(gd (0<=a/\a<(b.length:Int))<|(gd (0<=a/\a<(b.length:Int))<|((kr fu (at_ b a)).bind fun(c:UInt8)=>(gd (0<=a/\a<(b.length:Int))<|(gd (0<=a/\a<(b.length:Int))<|(gd (bJ (a+(1:Int)))<|(d (eA b (aR a) c) (a+(1:Int)))))))))else some b)
def aeb(fu:Nat)(s_0:aA):Nat->aA->Int->Option aA:=fun c b a=>bM (fun(g:(aA×Int)->Option aA) v=>adx fu s_0 (fun b a=>g (b,a)) v.1 v.2) c (b,a)
theorem aja{fu:Nat}{s_0:aA}{a:Nat}{c:aA}{b:Int}:aeb fu s_0 (a+1) c b=adx fu s_0 (aeb fu s_0 a) c b:=rfl
def xa(fu:Nat)(s_0:aA):Option aA:=
 (((aeb fu s_0 fu s_0 (0:Int))).bind fun(a:aA)=>some a)
def vc(fu:Nat)(a:UInt8):Option UInt8:=
 (((if(97:UInt8)<=a then some (decide (a<=(122:UInt8)))else some false)).bind fun(b:Bool)=>(bif b then some (a-(32:UInt8))else some a))
open List renaming set → eA
def zm(fu:Nat)(c:UInt8)(x_1:Bool):Option (UInt8×Bool):=
 (bif x_1 then((vc fu c).bind fun(b:UInt8)=>some (b,(decide (b=(45:UInt8)))))else((kr fu c).bind fun(a:UInt8)=>some (a,(decide (a=(45:UInt8))))))
def aeh(fu:Nat)(s_0:aA)(e:aA->Int->Bool->Option (aA×Bool))(b:aA)(a:Int)(d:Bool):Option (aA×Bool):=
 (if a<(s_0.length:Int)then(gd (0<=a/\a<(b.length:Int))<|(gd (0<=a/\a<(b.length:Int))<|((zm fu (at_ b a) d).bind fun(c:(UInt8×Bool))=>(gd (0<=a/\a<(b.length:Int))<|(gd (0<=a/\a<(b.length:Int))<|(gd (bJ (a+(1:Int)))<|(e (eA b (aR a) c.1) (a+(1:Int)) c.2)))))))else some (b,d))
def aen(fu:Nat)(s_0:aA):Nat->aA->Int->Bool->Option (aA×Bool):=fun d c b a=>bM (fun(g:(aA×Int×Bool)->Option (aA×Bool)) v=>aeh fu s_0 (fun c b a=>g (c,b,a)) v.1 v.2.1 v.2.2) d (c,b,a)
theorem ajs{fu:Nat}{s_0:aA}{a:Nat}{d:aA}{c:Int}{b:Bool}:aen fu s_0 (a+1) d c b=aeh fu s_0 (aen fu s_0 a) d c b:=rfl
def wz(fu:Nat)(s_0:aA)(x_1:Bool):Option (aA×Bool):=
 (((aen fu s_0 fu s_0 (0:Int) x_1)).bind fun(a:(aA×Bool))=>some (a.1,a.2))
def sU(fu:Nat)(d:aA)(c:Int->Option (Unit⊕(aA×UInt8)))(a:Int):Option (Unit⊕(aA×UInt8)):=
 (if a<(7:Int)then(gd (0<=a/\a<(YA.length:Int))<|((xa fu (el YA a)).bind fun(b:aA)=>(if b=d then some (.inr (el YA a,(0:UInt8)))else(gd (bJ (a+(1:Int)))<|(c (a+(1:Int)))))))else some (.inl ()))
def vb(fu:Nat)(c:aA):Nat->Int->Option (Unit⊕(aA×UInt8)):=fun b a=>bM (fun(g:Int->Option (Unit⊕(aA×UInt8))) v=>sU fu c (fun a=>g a) v) b a
def gh(fu:Nat)(a:aA):Option (aA×UInt8):=
 ((((MQ fu a).bind fun(i:Bool)=>(bif (!i)then some true else some (decide ((64:Int)<(a.length:Int)))))).bind fun(h:Bool)=>(bif h then some (([]:aA),(5:UInt8))else(((if(a.length:Int)=(1:Int)then(gd (0<=(0:Int)/\(0:Int)<(a.length:Int))<|((kr fu (at_ a (0:Int))).bind fun(g:UInt8)=>((zv fu g).bind fun(b:aA)=>(if b=([]:aA)then some (.inl ())else some (.inr (b,(0:UInt8)))))))else some (.inl ()))).bind fun(f:(Unit⊕(aA×UInt8)))=>eF (fun(k:Unit)=>((xa fu a).bind fun(e:aA)=>(((vb fu e fu (0:Int))).bind fun(d:(Unit⊕(aA×UInt8)))=>eF (fun(j:Unit)=>((wz fu a true).bind fun(c:(aA×Bool))=>some (c.1,(0:UInt8)))) (fun q=>some q) d))) (fun q=>some q) f)))
def anv(fu:Nat)(c:aA)(b:Int->Option (Unit⊕Int))(a:Int):Option (Unit⊕Int):=
 (if a<(31:Int)then(gd (0<=a/\a<(31:Int))<|(gd (0<=a/\a<(Kd.length:Int))<|(if((el Kd a).1)=c then(gd (0<=a/\a<(31:Int))<|(gd (0<=a/\a<(Kd.length:Int))<|some (.inr ((el Kd a).2))))else(gd (bJ (a+(1:Int)))<|(b (a+(1:Int)))))))else some (.inl ()))
def apu(fu:Nat)(c:aA):Nat->Int->Option (Unit⊕Int):=fun b a=>bM (fun(g:Int->Option (Unit⊕Int)) v=>anv fu c (fun a=>g a) v) b a
theorem awf{fu:Nat}{a:aA}{b:Nat}{c:Int}:apu fu a (b+1) c=anv fu a (apu fu a b) c:=rfl
def U8(fu:Nat)(b:aA):Option Int:=
 (((apu fu b fu (0:Int))).bind fun(a:(Unit⊕Int))=>eF (fun(c:Unit)=>some (0:Int)) (fun q=>some q) a)
def ga(fu:Nat)(a:aA):Option Bool:=
 (((if a=([67,111,110,116,97,99,116]:aA)then(if a=([67,111,110,116,97,99,116]:aA)then some (.inr true)else some (.inl ()))else(if a=([80,97,116,104]:aA)then(if a=([80,97,116,104]:aA)then some (.inr true)else some (.inl ()))else(if a=([82,101,99,111,114,100,45,82,111,117,116,101]:aA)then(if a=([82,101,99,111,114,100,45,82,111,117,116,101]:aA)then some (.inr true)else some (.inl ()))else(if a=([82,111,117,116,101]:aA)then(if a=([82,111,117,116,101]:aA)then some (.inr true)else some (.inl ()))else(if a=([83,101,114,118,105,99,101,45,82,111,117,116,101]:aA)then some (.inr true)else some (.inl ()))))))).bind fun(d:(Unit⊕Bool))=>eF (fun(e:Unit)=>((U8 fu a).bind fun(b:Int)=>(((if b=(2:Int)then some true else some (decide (b=(7:Int))))).bind fun(c:Bool)=>some c))) (fun q=>some q) d)
def MP(fu:Nat)(s_0:aA):Option aA:=
 (gd (s_0.length<=1000000000)<|gd (([32,9]:aA).length<=1000/\([32,9]:aA).all (fun b=>decide (b.toNat<128))=true)<|some (Lib.trimS s_0 ([32,9]:aA)))
def YC(fu:Nat)(a:(aA×Int)):Option (aA×Int):=
 ((L8 fu a.1 a.2).bind fun(b:Int)=>some (a.1,b))
def V3(fu:Nat)(a:(aA×Int)):Option Bool:=
 some (decide ((a.1.length:Int)<=a.2))
end Go.Wk
