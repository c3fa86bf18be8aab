/-
  The law BodiesRound holds (part 3 of 8).
-/
import Derived.Test.YtbljlpflaehacaaGreatDoorYd2
import Derived.Orders
import GoSem.Core.Utf8
set_option linter.unusedVariables false
set_option linter.unusedSimpArgs false
namespace Go.Oe
open Go.Wk
open Go.Ce (Tr)
open Nat renaming beq → cV, one_pos → Ha
section
variable {C:Cx}{md:Md}{w0 w:World}{S0:List Nat}{ρ:Nat->Ad}{S:St}{F:Nat->Value}
variable {L:List cF}{t:Nat}{d:St}
theorem Hh{r:cF}{n:World}{o l:Ob}(h:Rel C w0 S0 ρ S F w)(j:Mt w0 S0 ρ S.H L)(s:S.H[t]? =some l)(E:Hp w0 S0 (L.set t r) n)(z:RO w0 S0 ρ t o r)(B:o.len=l.len)(A:∀e cs,o=.bl e cs->∀c∈cs,c.ok S.H.length)
  (G:d.F=S.F) (b:d.H=iS S.H t o):Rel C w0 S0 ρ d F n:=by
 have q:∀M,d.at M=S.at M:=fun M=>by rw [St.at_eq,St.at_eq,G]
 have a:d.H.length=S.H.length:=by rw [b,IP]
 have H:=(aD.1 s).1;refine⟨fun g i D=>by rw [a];exact h.gl g i D,fun M u y=>h.fr M u (by rw [<-q];exact y),fun M=>by rw [q,a];exact h.fo M,fun i e cs f c p=> ?_,⟨L.set t r,E,by simp [j.1,a],fun i x k=> ?_⟩⟩
 ·rw [b,wV]at f;rw [a];split at f
  ·cases f;exact A e cs rfl c p
  ·exact h.ho i e cs f c p
 ·rw [b,wV]at k;split at k
  ·rename_i m;cases k;rw [m.1];exact⟨by rw [B];exact(j.2 t l s).1,r,by rw [eN];simp [j.1,H],z⟩
  ·rename_i m;obtain⟨K,v,J,I⟩:=j.2 i x k;refine⟨K,v, ?_,I⟩;rw [eN,aA (fun e=>m ⟨e.symm,H⟩)];exact J
theorem Vz{o n:Ob}{m:List Rg}(u:Rel C w0 S0 ρ S F w)(s:S.H[t]? =some n)(g:S.Bg m=true)(r:∀b:List Rg,(∀j,fE t j m=true->fE t j b=true)->lJ b t ρ ρ (some o) n)(k:d.H=iS S.H t o)(f:d.nb=S.nb)(h:d.al=S.al)(p:d.m=m++S.m):Nx S ρ d ρ:=by
 have c:∀e b,(∀j,t<e->fE t j m=true->fE t j b=true)->Le e b ρ S.H ρ d.H:=by
  intro e b a;rw [k];refine⟨by rw [IP];exact eV _,Up.refl,fun i z v l=> ?_⟩;rw [wV];split
  ·rename_i q;rw [q.1,s]at l;cases l;rw [q.1]at v⊢;exact r b fun j=>a j v
  ·rw [l];exact lJ.refl
 exact⟨⟨f,h,c _ _ fun j v a=>yR g v a⟩,c _ _ fun j _ a=>by rw [p];exact Fk.2 (.inl a),fun t j a=>by rw [p];exact Fk.2 (.inr a)⟩
variable {A E:List Value}
theorem GG(h:t+E.length<=A.length)(j:Nat):(Gk A t E)[j]? =if t<=j/\j<t+E.length then E[j-t]? else A[j]? :=by
 unfold Gk;by_cases b:j<t
 ·rw [aA aA0,gJ,aH aA5,bO,aB b]
 ·by_cases a:j<t+E.length
  ·rw [aB ⟨aA0,a⟩,aH aA5,aN aA5];simp;congr 1;omega
  ·rw [aA aA0,aN aA5,bW];congr 1;simp;omega
theorem Jh(h:t+E.length<=A.length):(Gk A t E).length=A.length:=by unfold Gk;simp;omega
variable {b:TypeId}{c:String}{a:Array Edge}{n e:Nat}{x y:Operand}
theorem Pb(s:Rel C w0 S0 ρ S F w)(U:C.nn=md.n){off H:Nat}{cs vs g:List SC}(z:S.H[e]? =some (.bl H cs))(hx:aX md F x=iJ (ρ e).b off)(p:(S.ev C y).cells=some vs)(B:Qn C t=some n)(W:vs.length=n)(i:uJ cs off vs=some g)(V:S.Bg [(e,off,off+n)]=true):
  Step C md w0 S0 ρ S F w ⟨none,.store t x y,b,c,a,none⟩ ⟨S.F,iS S.H e (.bl H g),S.nb,S.al,[(e,off,off+n)]++S.m⟩:=by
 intro O Q K G;obtain⟨L,Z,N⟩:=s.mem;obtain⟨_,r,T,l,rfl,a1⟩:=N.2 e _ z;obtain⟨h1,h2⟩:=Xm s U y;obtain⟨u,h3,h4⟩:=SV.Ic (ρ:=ρ) p;have h5:=h2 u h3;obtain⟨h6,h7⟩:=tw i;have h:off+(vs.map (SC.v ρ)).length<=l.length:=by rw [a1.1];simpa using h6
 have A:=SV.Na p h1;obtain⟨w',q,J⟩:=Z.stored (P:=C.P) (off:=off) (vs:=vs.map (SC.v ρ)) T h (fun v R=>by obtain⟨a0,_,rfl⟩:=cN.1 R;exact SC.one ρ a0);have hx:aX md F x=.pointer (some ⟨(ρ e).b,off,none⟩):=hx;have M:(sizeOf t).run C.P w=.ok (vs.map (SC.v ρ)).length w:=by rw [Hb,W];exact Rj B w
 refine vV (w':=w') rfl rfl ?_ (G ρ F w' ?_ ?_ (fun _ _=>rfl) (fun d Y=>by cases Y))
 ·have D:(sizeOf t).run C.P w=.ok vs.length w:=by rw [Hb]at M;exact M
  simp [execOp,hx,h5,Instr.storeAt,Instr.sureAddr,storeVar,D,h4,q]
 ·refine Hh (o:=.bl H g) s N z J ⟨_,rfl,by rw [Jh h,a1.1,yK i],fun j a0 f E=> ?_⟩ rfl (fun e2 a6 X a0 I=> ?_) rfl rfl
  ·rw [rJ i]at f;rw [GG h,Hb];split at f
   ·rename_i k;rw [aB k,bE,f];rfl
   ·rename_i k;rw [aA k];exact a1.2 j a0 f E
  ·cases X;obtain⟨j,f⟩:=kK.1 I;rw [rJ i]at f;split at f
   ·exact A a0 (aI f)
   ·exact s.ho e H cs z a0 (aI f)
 ·refine Vz (o:=.bl H g) (m:=[(e,off,off+n)]) s z V (fun al I=>.inr ⟨g,rfl,yK i,fun j a0 f=> ?_⟩) rfl rfl rfl rfl;by_cases k:off<=j/\j<off+vs.length
  ·left;refine I j (vL.2 ⟨_,aE.2 rfl,rfl,k.1, ?_⟩);show j<off+n;omega
  ·exact .inr ⟨a0,by rw [rJ i,aA k];exact f,fun G=>⟨G,rfl⟩⟩
theorem DP{a:Type}{f:a->List Value}{sz:Nat}(b:tC f sz):∀(l:List a) (i:Nat) (y:a),l[i]? =some y->∃A B,l.flatMap f=A++(f y++B)/\A.length=i*sz/\∀x,(l.set i x).flatMap f=A++(f x++B)
 |z::l,0,y,h=>by have:z=y:=aA9;subst this;exact⟨[],l.flatMap f,rfl,aA2,fun x=>rfl⟩
 |z::l,i+1,y,h=>by obtain⟨A,B,e,d,c⟩:=DP b l i y aA9;exact⟨f z++A,B,by rw [kS,e,gJ],by rw [bM,b.len,d,dF,Gy],fun x=>by rw [Oh,kS,c,gJ]⟩
theorem GF{B vs:List Value}(h:t+vs.length<=E.length):Gk (A++(E++B)) (A.length+t) vs=A++(Gk E t vs++B):=by unfold Gk;rw [List.take_length_add_append,Bn,List.drop_length_add_append,Bc aA0,iW h];simp [gJ]
theorem S7{b:Type}{f:b->List Value}{g:Nat}{o:Option Nat}{l:List b}{k:Nat}(h:Hp w0 S0 L w)(d:L[k]? =some (aW f t n o (some ⟨g,0,none⟩) e l))(c:l≠[]):o=some g:=by
 obtain⟨j,_⟩:=h.res _ (aI d);rcases j with⟨_,a,_⟩|⟨p,m,i,a,_⟩
 ·exact absurd a c
 ·simp only [aU,Addr.mk.injEq,Oc]at a;rw [a];exact i
theorem Oy(O:Rel C w0 S0 ρ S F w)(hn:C.nn=md.n){sz off H T:Nat}{τ:Ty}{l l2:List τ.T}{j:Int}{vs:List SC}(hb:S.H[e]? =some (.rw H T τ l))(hx:aX md F x=.pointer (some (ea (ρ e).a (j.toNat*sz+off))))(R:(S.ev C y).cells=some vs)(U:Qn C t=some n)(hl:vs.length=n)(J:cV n 0=false)
  (a1:Zi sz j τ=true) (N:τ.flat=true) (hj:0<=j/\j<(l.length:Int)) (s:mu τ l j off vs=some l2) (hm:S.Bg [(e,0,1)]=true):
  Step C md w0 S0 ρ S F w ⟨none,.store t x y,b,c,a,none⟩ ⟨S.F,iS S.H e (.rw H T τ l2),S.nb,S.al,[(e,0,1)]++S.m⟩:=by
 intro b3 Q a8 hk;obtain⟨L,hH,hM⟩:=O.mem;obtain⟨iN,r,I,K⟩:=hM.2 e _ hb;have K:r=aW τ.enc H τ.sz (ρ e).o (ρ e).a (ρ e).cap l:=K;subst K;have hE:=Ty.vE N;obtain⟨h1,h2⟩:=Xm O hn y;obtain⟨u,h3,h4⟩:=SV.Ic (ρ:=ρ) R;have h5:=h2 u h3;unfold mu at s;split at s
 ·rename_i cs a5;split at s
  ·rename_i z hz;cases s;have a2:j.toNat<l.length:=aA0;obtain⟨A,B,f1,f2,f3⟩:=DP hE l j.toNat _ (MU τ l j hj);obtain⟨h6,h7⟩:=tw a5;have a4:=(Ty.zE τ 0 0 (TB τ l j) N).2 ρ;have E:=(XG τ cs z [] hz).2 ρ;rw [eE,gA]at E;have Z:(jg τ l j).length=τ.sz:=(E8 (l:=l) (j:=j) N 0).2;have V:Gk (τ.enc (TB τ l j)) off (vs.map (SC.v ρ))=τ.enc z:=by rw [<-E,<-a4,h7];unfold Gk jg;simp
   have q:(τ.enc (TB τ l j)).length=τ.sz:=τ.Wv _ N;have i:off+(vs.map (SC.v ρ)).length<=(τ.enc (TB τ l j)).length:=by rw [q,Hb,<-Z];exact h6
   cases Y:(ρ e).o with
   |none=>
    exfalso;rw [Y]at I;obtain⟨h8,_⟩:=hH.res _ (aI I);rcases h8 with⟨_,D,_⟩|⟨g,c9,D,_⟩
    ·subst D;simp at a2
    ·cases D
   |some g=>
    rw [Y]at I;obtain⟨ha,h8⟩:=hH.Zv hE e I;have p:e<L.length:=(aD.1 I).1;have a3:(l.flatMap τ.enc).length=A.length+(τ.sz+B.length):=by rw [f1];simp [q]
    obtain⟨w',G,D⟩:=h8.VU (P:=C.P) (k:=e) (vs:=vs.map (SC.v ρ)) (j:=A.length+off) (bG p) (by rw [a3];rw [q]at i;omega) (fun v hv=>by
     obtain⟨a0,_,rfl⟩:=cN.1 hv;exact SC.one ρ a0) (fun f=>by
     have:vs=[]:=List.map_eq_nil_iff.1 f;rw [this]at hl;rw [<-hl]at J;cases J)
    rw [SD,f1,GF i,V,<-f3 z,show l.length=(l.set j.toNat z).length by simp]at D;obtain⟨o',h⟩:=D.Jn (k:=e) (l:=l.set j.toNat z) (bG p);rw [SD]at h;have X:o'=some g:=by
     rw [ha]at h;refine S7 h (bG p) fun f=> ?_;have:(l.set j.toNat z).length=0:=by rw [f];rfl
     rw [oF]at this;omega
    rw [X,<-Y]at h;have W:(sizeOf t).run C.P w=.ok vs.length w:=by rw [hl];exact Rj U w
    refine vV (w':=w') rfl rfl ?_ (hk ρ F w' ?_ ?_ (fun _ _=>rfl) (fun d hd=>by cases hd))
    ·have M:j.toNat*sz+off=A.length+off:=by rw [Jd a1,f2]
     rw [M]at hx;simp [execOp,hx,h5,Instr.storeAt,Instr.sureAddr,storeVar,W,h4,G]
    ·exact Hh (o:=.rw H T τ (l.set j.toNat z)) O hM hb h rfl (by show(l.set j.toNat z).length=l.length;simp) (fun _ _ K=>by cases K) rfl rfl
    ·exact Vz (o:=.rw H T τ (l.set j.toNat z)) (m:=[(e,0,1)]) O hb hm (fun al hc=>.inl (hc 0 (vL.2 ⟨_,aE.2 rfl,rfl,eV _,Ha⟩))) rfl rfl rfl rfl
  ·cases s
 ·cases s
theorem Oz(R:Rel C w0 S0 ρ S F w)(D:C.nn=md.n){m:Nat}{l:aC}{j:Int}{v:SC}{P:UInt8}(i:S.H[n]? =some (.br m l))(hx:aX md F x=.pointer (some (ea (ρ n).a (j.toNat*e+0))))(f:S.ev C y=.c' v)(A:v.rC=some P)(g:Qn C t=some 1)
  (h:Zi e j .c'=true) (I:0<=j/\j<(l.length:Int)) (E:S.Bg [(n,0,1)]=true):
  Step C md w0 S0 ρ S F w ⟨none,.store t x y,b,c,a,none⟩ ⟨S.F,iS S.H n (.br m (l.set j.toNat P)),S.nb,S.al,[(n,0,1)]++S.m⟩:=by
 intro u Q p G;obtain⟨L,M,q⟩:=R.mem;obtain⟨iN,r,B,H⟩:=q.2 n _ i;have H:r=fL (.slice (ρ n).a m (ρ n).cap) m l:=H;subst H;obtain⟨N,s⟩:=Xm R D y;have z:aX md F y=bt P:=by rw [f]at s;rw [s _ rfl,nu A ρ]
 have hx:aX md F x=.pointer (some (ea (ρ n).a (j.toNat*1))):=by rw [hx,Bm,Jd h];rfl
 refine yx M n (ρ n).a m (ρ n).cap j l P B I hx z (Rj g w) fun w' k=>G ρ F w' ?_ ?_ (fun _ _=>rfl) (fun d J=>by cases J)
 ·exact Hh (o:=.br m (l.set j.toNat P)) R q i k rfl rfl (fun _ _ H=>by cases H) rfl rfl
 ·exact Vz (o:=.br m (l.set j.toNat P)) (m:=[(n,0,1)]) R i E (fun O K=>.inl (K 0 (vL.2 ⟨_,aE.2 rfl,rfl,eV _,Ha⟩))) rfl rfl rfl rfl
theorem GC{ty:TypeId}{pos:String}{after:Array Edge}(s:Rel C w0 S0 ρ S F w)(q:C.nn=md.n){ro:Ro}(h:iM C (S.ev C) S.H (.store t x y)=some ro)(B:Gu ro.g)(z:S.Bg ro.m=true):
  Step C md w0 S0 ρ S F w ⟨none,.store t x y,ty,pos,after,none⟩ ⟨S.F,ro.H,S.nb,S.al,ro.m++S.m⟩/\ro.v=.u':=by
 obtain⟨a,G,h⟩:=lT (show fU (S.ev C x) (fun a=>yQ C S.H t a (S.ev C y))=some ro from h);have hx:=(nW s q G).2;unfold yQ at h;split at h
 ·rename_i n D d k;have h:=dJ h;have r:=iL h.1;have h:=h.2;split at h
  ·rename_i id off;split at h
   ·rename_i e cs i;rw [gQ]at i;split at h
    ·rename_i L u;cases h;exact⟨Pb s q i hx k d r u z,rfl⟩
    ·cases h
   ·cases h
  ·rename_i id j N off;cases o:cV n 0 with
   |true=>rw [o]at h;cases h
   |false=>
    rw [o]at h;simp only [aG]at h;split at h
    ·rename_i e b M l i;rw [gQ]at i;split at h
     ·rename_i O u;have h:=dJ h;have p:=iE h.1;cases h.2;exact⟨Oy s q i hx k d r o p.1 p.2 B.1 u z,rfl⟩
     ·cases h
    ·rename_i m l i;rw [gQ]at i;split at h
     ·rename_i v A;split at h
      ·rename_i c E;have h:=dJ h;have p:=iE h.1;have I:=iL p.2;cases h.2;subst I;have f:(S.ev C y).cells=some [v]:=by rw [A];rfl
       rw [k]at f;have K:D=[v]:=aJ f;rw [K]at r;have J:n=1:=r.symm;rw [J]at d;exact⟨Oz s q i hx A E d p.1 B.1 z,rfl⟩
      ·cases h
     ·cases h
    ·cases h
  ·cases h
 ·cases h
end
open Go.Wk
open Go.Ce (Tr)
open Nat renaming beq → cV, one_pos → Ha, succ → oA
def vb(C:Cx):Prop:=∀t e b a,C.E t=some (e,b,a)->C.P.underlying t=some (.slice e)/\TI C.P e a.sz b/\a.flat=true/\0<b
section
variable {C:Cx}{md:Md}{w0 w:World}{S0:List Nat}{ρ:Nat->Ad}{S:St}{F:Nat->Value}
variable {x:Operand}{t:TypeId}{c:SC}{g:List PD}{v:SV}
theorem pq(i:Rel C w0 S0 ρ S F w)(hx:aX md F x=c.v ρ)(j:c.ok S.H.length)(h:We C S.H t c=some (g,v)):vM C md ρ S F w (.call ⟨.builtin .len, #[x], #[t]⟩) v:=by
 unfold We at h;split at h
 ·rename_i l;have h:=dJ h;cases h.2;exact gC rfl rfl fun d ty pos after=>fc l (Fw h.1) hx
 ·split at h
  ·rename_i e b;split at h
   ·rename_i id _;split at h
    ·rename_i o f;cases h;rw [gQ]at f;refine gC rfl rfl fun d ty pos after=> ?_;rw [yH i id o f];exact Tw (ρ id).a (ρ id).ln (ρ id).cap e (V3 b) hx
    ·cases h
   ·cases h;exact gC rfl rfl fun d ty pos after=>Tw _ _ _ e (V3 b) hx
   ·cases h;exact gC rfl rfl fun d ty pos after=>Tw _ _ _ e (V3 b) hx
   ·cases h
  ·cases h
theorem W9(p:Rel C w0 S0 ρ S F w){id m:Nat}(h:QC S.H id=some m)(n:0<m):(ρ id).ln=m/\(ρ id).a≠none:=by
 obtain⟨L,q,j⟩:=p.mem;unfold QC at h;split at h
 ·rename_i e b t l c;have h:=dJ h;cases h.2;rw [gQ]at c;obtain⟨f,r,g,d⟩:=j.2 id _ c;have d:r=aW t.enc e t.sz (ρ id).o (ρ id).a (ρ id).cap l:=d;subst d;refine⟨f.symm,(q.iO id g).some_ ?_⟩;rw [(Ty.vE h.1).flat];exact Tt n (Ty.By h.1)
 ·rename_i t l c;have h:=dJ h;cases h.2;rw [gQ]at c;obtain⟨f,r,g,_,i,_⟩:=j.2 id _ c;refine⟨f.symm,i.some_ ?_⟩;rw [(Ty.vE h.1).flat];exact Tt n (Ty.By h.1)
 ·rename_i k l c;cases h;rw [gQ]at c;obtain⟨f,r,g,d⟩:=j.2 id _ c;have d:r=fL (.slice (ρ id).a k (ρ id).cap) k l:=d;subst d;have f:k=(ρ id).ln:=f;exact⟨by rw [<-f];exact(yI p id k l c).symm,(q.kB id g).some_ (by simpa using n)⟩
 ·cases h
variable {u:Operand}
theorem Wo(G:Rel C w0 S0 ρ S F w){a:SC}{ro:Ro}(hx:aX md F x=c.v ρ)(p:c.ok S.H.length)(l:aX md F u=a.v ρ)(h:jv C S.H t c a=some ro)(o:Gu ro.g):vM C md ρ S F w (.indexAddr t x u) ro.v/\ro.H=S.H/\ro.m=[]:=by
 unfold jv at h;split at h
 ·rename_i j E;obtain⟨q,B⟩:=vG E ρ;rw [B]at l;split at h
  ·rename_i e y;split at h
   ·rename_i i f;split at h
    ·rename_i id;split at h
     ·rename_i m D;cases h;have L:=o.1;obtain⟨M,r⟩:=W9 G D aA0;exact⟨⟨p,_,rfl,fun d ty pos after=>UD (ρ id).a (ρ id).ln (ρ id).cap e i q j (V3 y) (Rj f w) hx l aA0 r⟩,rfl,rfl⟩
     ·cases h
    ·rename_i id m;cases h;refine⟨⟨p,_,rfl,fun d ty pos after=> ?_⟩,rfl,rfl⟩;have:=UD (P:=C.P) (w:=w) (d:=d) (ty:=ty) (pos:=pos) (after:=after) (some ⟨(ρ id).b,0,none⟩) m m e i q j (V3 y) (Rj f w) hx l o.1 aA2;rw [this];show _=Result.ok (Next.value (iJ (ρ id).b (j.toNat*i))) w;unfold ea iJ;simp [NO]
    ·cases h
   ·cases h
  ·split at h
   ·rename_i n k;split at h
    ·rename_i i f;split at h
     ·rename_i id off;have h:=dJ h;cases h.2;refine⟨⟨p,_,rfl,fun d ty pos after=> ?_⟩,rfl,rfl⟩;have:=UC (P:=C.P) (w:=w) (d:=d) (ty:=ty) (pos:=pos) (after:=after) ⟨(ρ id).b,off,none⟩ n.1 n.2 i q j (oAr k) (Rj f w) hx l o.1 (Ys h.1);rw [this];show _=Result.ok (Next.value (iJ (ρ id).b (off+j.toNat*i))) w;unfold ea iJ;simp [NO]
     ·rename_i id K A s;have h:=dJ h;have r:=dJ h.2;have z:=dJ r.2;cases z.2;refine⟨⟨p,_,rfl,fun d ty pos after=> ?_⟩,rfl,rfl⟩;have J:=iL r.1;have I:=iL z.1;subst J;subst I;have:=UC (P:=C.P) (w:=w) (d:=d) (ty:=ty) (pos:=pos) (after:=after) (ea (ρ id).a 0) n.1 n.2 i q j (oAr k) (Rj f w) (by rw [hx];rfl) l o.1 (Ys h.1);rw [this];show Result.ok (Next.value (.pointer (some ((ea (ρ id).a 0).add (j.toNat*i))))) w=Result.ok (Next.value (.pointer (some (ea (ρ id).a (j.toNat*i+0))))) w;rw [HU,Gz,Bm]
     ·cases h
    ·cases h
   ·cases h
 ·cases h
theorem Ia(u:Rel C w0 S0 ρ S F w){t:Ty}{l:List t.T}(h:vF S.H t c=some l):∃a cap,c.v ρ=.slice a l.length cap/\Rd w a (l.flatMap t.enc):=by
 obtain⟨L,p,n⟩:=u.mem;unfold vF at h;split at h
 ·cases h;exact⟨none,0,rfl,Rd.nil _ _⟩
 ·rename_i id;rw [gQ]at h;unfold vJ at h;split at h
  ·rename_i e b t2 g f;split at h
   ·rename_i k;obtain rfl:=Ty.kE k;cases h;obtain⟨d,r,j,i⟩:=n.2 id _ f;have i:r=aW t2.enc e t2.sz (ρ id).o (ρ id).a (ρ id).cap g:=i;subst i;have d:g.length=(ρ id).ln:=d;exact⟨(ρ id).a,(ρ id).cap,by show Value.slice _ (ρ id).ln _=_;rw [<-d];rfl,p.iO id j⟩
   ·cases h
  ·rename_i t2 g f;split at h
   ·rename_i k;obtain rfl:=Ty.kE k;cases h;obtain⟨d,r,j,_,q,s,_⟩:=n.2 id _ f;have d:g.length=(ρ id).ln:=d;exact⟨(ρ id).a,(ρ id).cap,by show Value.slice _ (ρ id).ln _=_;rw [<-d];rfl,q.M6 p s⟩
   ·cases h
  ·rename_i m g f;unfold strOf at h;split at h
   ·rename_i k;obtain rfl:=Ty.kE k;cases h;obtain⟨d,r,j,i⟩:=n.2 id _ f;have i:r=fL (.slice (ρ id).a m (ρ id).cap) m g:=i;subst i;have d:m=(ρ id).ln:=d;have A:=yI u id m g f;exact⟨(ρ id).a,(ρ id).cap,by show Value.slice _ (ρ id).ln _=_;rw [<-d,<-A];rfl,Rd.jN (p.kB id j)⟩
   ·cases h
  ·cases h
 ·rename_i id m;split at h
  ·rename_i e cs f;rw [gQ]at f;obtain⟨_,r,j,B,rfl,x⟩:=n.2 id _ f;obtain⟨d,_,z⟩:=N3 h;refine⟨some ⟨(ρ id).b,0,none⟩,m,by rw [d];rfl, ?_⟩;have y:=x.all (rE h);rw [<-z ρ,<-y];exact p.pT id j
  ·cases h
 ·cases h
theorem VO(i:Rel C w0 S0 ρ S F w){s e:TypeId}{l:aC}(hx:aX md F x=c.v ρ)(f:OS C t=some e)(b:vI C s=true)(g:HF C e=true)(h:vF S.H .c' c=some l):vM C md ρ S F w (.convert t s x) (.c' (.s' l)):=by obtain⟨a,cap,k,j⟩:=Ia i h;rw [k]at hx;exact gC rfl rfl fun d ty pos after=>RY l a l.length cap e (Rd.bytes j) rfl (V3 f) (Fw b) (oU8 g) hx
theorem mm_ok{b:Builtin}{f:Array TypeId}{y:SC}(hx:aX md F x=c.v ρ)(e:aX md F u=y.v ρ)(h:mmC b c y=some (g,v)):vM C md ρ S F w (.call ⟨.builtin b, #[x,u],f⟩) v:=by
 unfold mmC at h;split at h
 ·rename_i k a i r;have h:=dJ h;cases h.2;rw [<-mK h.1]at e;exact gC rfl rfl fun d ty pos after=>ez k a r hx e
 ·rename_i k a i r;have h:=dJ h;cases h.2;rw [<-mK h.1]at e;exact gC rfl rfl fun d ty pos after=>fa k a r hx e
 ·cases h
theorem pc(hx:aX md F x=c.v ρ)(f:c.ok S.H.length)(h:AZ c=some v):vM C md ρ S F w (.nilCheck x) v:=by
 unfold AZ at h;split at h
 ·rename_i id off;cases h;have hx:aX md F x=.pointer (some ⟨(ρ id).b,off,none⟩):=hx;exact⟨f,_,rfl,fun d ty pos after=>by simp [execOp,hx];rfl⟩
 ·rename_i id j g off;cases h;have hx:aX md F x=.pointer (some (ea (ρ id).a (j.toNat*g+off))):=hx;exact⟨f,_,rfl,fun d ty pos after=>by simp [execOp,hx];rfl⟩
 ·rename_i k e;cases h;have hx:aX md F x=.func (.func k) #[] (e.map fun id=>iJ (ρ id).b 0).toArray:=hx;exact⟨f,_,rfl,fun d ty pos after=>by simp [execOp,hx];rfl⟩
 ·cases h
theorem NA{c:Operand->SV}{n:Nat}:∀{l:List Operand} {a:List Nat},(∀x∈l,(c x).ok n/\∀u,(c x).v ρ=some u->aX md F x=u)->bs (l.map c)=some a->l.map (aX md F)=a.map (fun id=>iJ (ρ id).b 0)/\∀id∈a,id<n
 |[],a,_,h=>by cases h;exact⟨rfl,fun _ h=>by cases h⟩
 |x::l,a,hx,h=>by
  have h:(match c x with
   |.c' (.p' id off)=>bif cV off 0 then(match bs (l.map c)with
    |some q=>some (id::q)
    |none=>none)else none
   |_=>none)=some a:=h
  split at h
  ·rename_i id off m;have h:=dJ h;have e:=h.2;split at e
   ·rename_i q o;cases e;obtain⟨r,p⟩:=NA (fun y k=>hx y (fB _ k)) o;obtain⟨j,g⟩:=hx x fQ;rw [m]at j g;have f:=g _ rfl;rw [iL h.1]at f;refine⟨by rw [vS,vS,r,f];rfl,fun i d=> ?_⟩;rcases aP.1 d with rfl|d
    ·exact j i (aE.2 rfl)
    ·exact p i d
   ·cases e
  ·cases h
theorem aj(m:Rel C w0 S0 ρ S F w)(j:C.nn=md.n){f:Fn}{a b:Array Operand}(h:Vy (S.ev C) f a.toList b.toList=some v):vM C md ρ S F w (.makeFunc f a b) v:=by
 unfold Vy at h;split at h
 ·rename_i k;split at h
  ·rename_i g;split at h
   ·rename_i c e;cases h;obtain⟨p,o⟩:=NA (ρ:=ρ) (md:=md) (F:=F) (n:=S.H.length) (fun x _=>Xm m j x) e;have g:a= #[]:=xG.1 g;subst g;have l:b.map (aX md F)=(c.map fun id=>iJ (ρ id).b 0).toArray:=xG.1 (by rw [Array.toList_map,p]);refine⟨fun i e=>o i e,_,rfl,fun d ty pos after=> ?_⟩;simp [execOp,Instr.makeFunc,l,SC.v]
   ·cases h
  ·cases h
 ·cases h
theorem U7(f:Rel C w0 S0 ρ S F w)(e:C.nn=md.n){b:Operand}{t:Bool}(j:S.ev C x=.c' (.b' t))(g:(bif t then S.ev C u else S.ev C b)=v)(i:v≠.u'):vM C md ρ S F w (.pick x u b) v:=by
 have k:=(nW f e j).2;have key:v.ok S.H.length/\∀a,v.v ρ=some a->(bif t then aX md F u else aX md F b)=a:=by
  cases t with
  |true=>have:=Xm f e u;rw [show S.ev C u=v from g]at this;exact this
  |false=>have:=Xm f e b;rw [show S.ev C b=v from g]at this;exact this
 obtain⟨a,h⟩:∃a,v.v ρ=some a:=by cases v<;>first|exact⟨_,rfl⟩|exact absurd rfl i
 exact⟨key.1,a,h,fun d ty pos after=>TW t a k (key.2 a h)⟩
variable {d:Nat}{ty:TypeId}{pos:String}{after:Array Edge}
variable {L:List cF}
theorem zR(h:Hp w0 S0 L w):Hp w0 S0 (eG::L) w:=by
 refine⟨h.os,h.tape,h.output,h.size,h.below,fun r a=> ?_,List.Pairwise.cons (fun r _ b c=>by cases c) h.sep⟩;rcases aP.1 a with rfl|a
 ·exact⟨trivial,fun b c=>by cases c⟩
 ·exact h.res r a
theorem set_perm{a:Type}:∀{L:List a} {id:Nat} (r:a),id<L.length->(L.set id r).Perm (r::L.eraseIdx id)
 |x::L,0,r,_=>List.Perm.refl _
 |x::L,id+1,r,h=>by simp only [Oh,List.eraseIdx_cons_succ];exact(List.Perm.cons x (set_perm r aA9)).trans (List.Perm.swap r x _)
variable {e:Nat}{r:cF}
theorem ZX(hid:e<L.length)(h:Hp w0 S0 (L.set e r) w):Hp w0 S0 (r::L.set e eG) w:=by have b:=h.perm (set_perm r hid);have a:=(zR b).perm (List.Perm.swap r eG _);exact a.perm ((set_perm eG hid).symm.cons r)
variable {H:List Ob}{o:Ob}
theorem pe{d:Ob}(b:Mt w0 S0 ρ H L)(g:H[e]? =some d)(k:RO w0 S0 ρ e o r)(l:o.len=d.len):Mt w0 S0 ρ (iS H e o) (L.set e r):=by
 have a:=(aD.1 g).1;refine⟨by simp [b.1,IP],fun i j c=> ?_⟩;rw [wV]at c;split at c
 ·rename_i f;cases c;rw [f.1];exact⟨by rw [l];exact(b.2 e d g).1,r,by rw [eN];simp [b.1,a],k⟩
 ·rename_i f;obtain⟨p,h,n,m⟩:=b.2 i j c;refine⟨p,h, ?_,m⟩;rw [eN,aA (fun q=>f ⟨q.symm,a⟩)];exact n
variable {k:World}{s:Nat}{c:Option Nat}
theorem Ve{b:Nat}{τ:Ty}{l:List τ.T}{a:Ob}{a':Option Addr}{cap':Nat}{m:List Rg}(x:Rel C w0 S0 ρ S F w)(v:Mt w0 S0 ρ S.H L)(n:S.H[e]? =some a)(G:Hp w0 S0 (L.set e (aW τ.enc s τ.sz c a' cap' l)) k)(B:S.Bg m=true)
  (D:∀A:List Rg,(∀j,fE e j m=true->fE e j A=true)->lJ A e ρ ρ (some (.dd a.len)) a):
  Rel C w0 S0 (Ee ρ S.H.length ⟨c,a',cap',false,l.length⟩) (St.set ⟨S.F,iS S.H e (.dd a.len)++[.rw s b τ l],S.nb,S.al,m++S.m⟩ d (.c' (.l' S.H.length))) (eF F d (.slice a' l.length cap')) k/\
  Nx S ρ (St.set ⟨S.F,iS S.H e (.dd a.len)++[.rw s b τ l],S.nb,S.al,m++S.m⟩ d (.c' (.l' S.H.length))) (Ee ρ S.H.length ⟨c,a',cap',false,l.length⟩):=by
 have p:e<L.length:=by rw [v.1];exact(aD.1 n).1
 have h:=ZX p G;have I:(iS S.H e (.dd a.len)).length=S.H.length:=IP;let f:St:=⟨S.F,iS S.H e (.dd a.len),S.nb,S.al,m++S.m⟩;have g:Rel C w0 S0 ρ f F k:=Hh (o:=.dd a.len) (r:=eG) x v n h.tail trivial rfl (fun _ _ J=>by cases J) rfl rfl;have u:Mt w0 S0 ρ f.H (L.set e eG):=pe v n trivial rfl;have t:Nx S ρ f ρ:=Vz (o:=.dd a.len) (m:=m) x n B D rfl rfl rfl rfl;have q:f.H.length=S.H.length:=I;have z:Rel C w0 S0 (Ee ρ f.H.length ⟨c,a',cap',false,l.length⟩) ⟨S.F,iS S.H e (.dd a.len)++[.rw s b τ l],S.nb,S.al,m++S.m⟩ F k:=yG (o:=.rw s b τ l) g u h (by show _=_;rw [nX]) rfl (fun _ _ J=>by cases J) rfl rfl;have y:Nx f ρ ⟨S.F,iS S.H e (.dd a.len)++[.rw s b τ l],S.nb,S.al,m++S.m⟩ (Ee ρ f.H.length ⟨c,a',cap',false,l.length⟩):=Km (o:=.rw s b τ l) (m:=[]) g rfl rfl rfl rfl;rw [q]at z y;refine⟨da z aC5 (fun i E=> ?_), ?_⟩
 ·have:i=S.H.length:=aE.1 E;subst this;show S.H.length<(iS S.H e (.dd a.len)++[_]).length;rw [bM,I];simp
 ·have:=t.trans y;exact⟨⟨this.nb,this.al,this.le⟩,this.lg,this.mm⟩
theorem Jr{b:Nat}{τ:Ty}{l:List τ.T}{a':Option Addr}(f:Rel C w0 S0 ρ S F w)(j:Mt w0 S0 ρ S.H L)(p:Hp w0 S0 (aW τ.enc e τ.sz c a' s l::L) k):
  Rel C w0 S0 (Ee ρ S.H.length ⟨c,a',s,false,l.length⟩) (St.set ⟨S.F,S.H++[.rw e b τ l],S.nb,S.al,[]++S.m⟩ d (.c' (.l' S.H.length))) (eF F d (.slice a' l.length s)) k/\
  Nx S ρ (St.set ⟨S.F,S.H++[.rw e b τ l],S.nb,S.al,[]++S.m⟩ d (.c' (.l' S.H.length))) (Ee ρ S.H.length ⟨c,a',s,false,l.length⟩):=by
 have n:Rel C w0 S0 (Ee ρ S.H.length ⟨c,a',s,false,l.length⟩) ⟨S.F,S.H++[.rw e b τ l],S.nb,S.al,[]++S.m⟩ F k:=yG (o:=.rw e b τ l) f j p (by show _=_;rw [nX]) rfl (fun _ _ h=>by cases h) rfl rfl;have a:Nx S ρ ⟨S.F,S.H++[.rw e b τ l],S.nb,S.al,[]++S.m⟩ (Ee ρ S.H.length ⟨c,a',s,false,l.length⟩):=Km (o:=.rw e b τ l) (m:=[]) f rfl rfl rfl rfl;refine⟨da n aC5 (fun i g=> ?_),⟨⟨a.nb,a.al,a.le⟩,a.lg,a.mm⟩⟩;have:i=S.H.length:=aE.1 g;subst this;show S.H.length<(S.H++[_]).length;simp
variable {t:TypeId}{x y:Operand}{f g:SC}{a:Ro}
theorem step_append(hE:vb C)(K:Rel C w0 S0 ρ S F w)(hn:C.nn=md.n)(hx:aX md F x=f.v ρ)(M:aX md F y=g.v ρ)(h:rP C S.H t f g=some a)(hg:Gu a.g)(hm:S.Bg a.m=true):
  Step C md w0 S0 ρ S F w ⟨some d,.call ⟨.builtin .append, #[x,y], #[t,t]⟩,ty,pos,after,none⟩ (St.set ⟨S.F,a.H,S.nb,S.al,a.m++S.m⟩ d a.v):=by
 intro b6 Q b2 hk;have np:∀d2:Nat,(some d:Option Nat)=some d2->mL (.call ⟨.builtin .append, #[x,y], #[t,t]⟩)=true->∀F2:Nat->Value,∃w3,(execOp (aX md F) (⟨some d,.call ⟨.builtin .append, #[x,y], #[t,t]⟩,ty,pos,after,none⟩:Oper)).run C.P w=.ok (.value (F2 d2)) w3:=fun d2 _ h=>by cases h
 obtain⟨L,hH,V⟩:=K.mem;unfold rP at h;split at h
 ·rename_i e b z b1;obtain⟨ht,hT,I,J⟩:=hE _ _ _ _ b1;split at h
  ·split at h
   ·rename_i N p;cases h;obtain⟨X,W,k,U⟩:=Ia K p;rw [k]at M;refine NR (Hp.dG hH z.enc e z.sz none) 0 none none X 0 W e z.sz b [] N (Ty.vE I) rfl ht hT (Ty.By I) J hx M U hg.1 fun o' a' E w' u=> ?_;obtain⟨s,B⟩:=Jr (b:=b) (d:=d) K V u;exact hk _ _ w' s B NI fun d2 T O=>np d2 T O _
   ·cases h
  ·rename_i id;split at h
   ·rename_i l N A p;cases h
    obtain⟨X,W,k,U⟩:=Ia K p;rw [k]at M;have c:S.H[id]? =some (.rw e b z l):=by
     unfold fp at A;simp only at A;split at A
     ·rename_i q hq;have i:=dJ A;have u:=dJ i.2;have s:=tQ hq u.2;rw [gQ,iL i.1,iL u.1]at s;exact s
     ·cases A
    obtain⟨i,r,Y,he⟩:=V.2 id _ c;have he:r=aW z.enc e z.sz (ρ id).o (ρ id).a (ρ id).cap l:=he;subst he;have i:l.length=(ρ id).ln:=i;have G:aX md F x=.slice (ρ id).a l.length (ρ id).cap:=by rw [hx,i];rfl
    refine NR hH id (ρ id).o (ρ id).a X (ρ id).cap W e z.sz b l N (Ty.vE I) Y ht hT (Ty.By I) J G M U hg.1 fun o' a' E w' u=> ?_;obtain⟨s,B⟩:=Ve (b:=b) (d:=d) (m:=[(id,0,1)]) K V c u hm (fun al hc=>.inl (hc 0 (vL.2 ⟨_,aE.2 rfl,rfl,eV _,Ha⟩)));exact hk _ _ w' s B NI fun d2 T O=>np d2 T O _
   ·cases h
  ·rename_i id m;split at h
   ·rename_i l c2 b5 N A p;cases h
    obtain⟨X,W,k,U⟩:=Ia K p;rw [k]at M;have c:∃cs,S.H[id]? =some (.bl e cs)/\m<=1048576/\pU z m cs=some l:=by
     simp only [Ty.rd]at A;split at A
     ·rename_i e2 cs hb;rw [gQ]at hb;have i:=dJ A;have u:=dJ i.2;have s:=dJ u.2;have B:=s.2;split at B
      ·rename_i y Z;cases B;rw [iL i.1]at hb;exact⟨cs,hb,Ys s.1,Z⟩
      ·cases B
     ·cases A
    obtain⟨cs,c,b8,D⟩:=c;obtain⟨_,r,Y,vs,rfl,R⟩:=V.2 id _ c;obtain⟨i,_,s⟩:=N3 D;have B:=R.all (rE D);have a9:=hH.Tf id z.sz m l Y (Ty.vE I) (by rw [B,s ρ]) i aE8;have a1:id<L.length:=(aD.1 Y).1;have G:aX md F x=.slice (some ⟨(ρ id).b,0,none⟩) l.length m:=by rw [hx,i];rfl
    refine NR a9 id (some (ρ id).b) (some ⟨(ρ id).b,0,none⟩) X m W e z.sz b l N (Ty.vE I) (bG a1) ht hT (Ty.By I) J G M U hg.1 fun o' a' E w' u=> ?_;rw [SD]at u;have a2:blL (eX S.H id)=oA cs.length:=by rw [gQ,c];rfl
    obtain⟨h5,h6⟩:=Ve (b:=b) (d:=d) (m:=[(id,0,blL (eX S.H id))]) K V c u hm (fun al hc=>.inl fun j hj=>hc j (vL.2 ⟨_,aE.2 rfl,rfl,dL _,by show j<blL (eX S.H id);rw [a2];omega⟩));exact hk _ _ w' h5 h6 NI fun d2 T O=>np d2 T O _
   ·cases h
  ·cases h
 ·cases h
theorem KP{τ:Ty}{l:List τ.T}{a':Option Addr}{cap':Nat}(b:Rel C w0 S0 ρ S F w)(g:Mt w0 S0 ρ S.H L)(h:Hp w0 S0 L w)(c:Xz w0 S0 ⟨none,a',cap',false,l.length⟩ τ l):
  Rel C w0 S0 (Ee ρ S.H.length ⟨none,a',cap',false,l.length⟩) (St.set ⟨S.F,S.H++[.ro τ l],S.nb,S.al,[]++S.m⟩ d (.c' (.l' S.H.length))) (eF F d (.slice a' l.length cap')) w/\
  Nx S ρ (St.set ⟨S.F,S.H++[.ro τ l],S.nb,S.al,[]++S.m⟩ d (.c' (.l' S.H.length))) (Ee ρ S.H.length ⟨none,a',cap',false,l.length⟩):=by
 have j:Rel C w0 S0 (Ee ρ S.H.length ⟨none,a',cap',false,l.length⟩) ⟨S.F,S.H++[.ro τ l],S.nb,S.al,[]++S.m⟩ F w:=yG (o:=.ro τ l) b g (zR h) ⟨rfl,by rw [nX];exact c⟩ rfl (fun _ _ f=>by cases f) rfl rfl;have a:Nx S ρ ⟨S.F,S.H++[.ro τ l],S.nb,S.al,[]++S.m⟩ (Ee ρ S.H.length ⟨none,a',cap',false,l.length⟩):=Km (o:=.ro τ l) (m:=[]) b rfl rfl rfl rfl;refine⟨da j aC5 (fun i e=> ?_),⟨⟨a.nb,a.al,a.le⟩,a.lg,a.mm⟩⟩;have:i=S.H.length:=aE.1 e;subst this;show S.H.length<(S.H++[_]).length;simp
theorem Cs{d i:Option SC}(h:Ct C H e f d i=some a):∃(id x:Nat) (τ:Ty) (l:List τ.T),f=.l' id/\H[id]? =some (.ro τ l)/\C.P.underlying e=some (.slice x)/\Qn C x=some τ.sz/\τ.flat=true/\
  ((∃b j,d=none/\i=some b/\NJ b=some j/\a=⟨[⟨0<=j/\j<=(l.length:Int),inferInstance⟩],.c' (.l' H.length),H++[.ro τ (l.take j.toNat)],[]⟩)\/
   ∃b j,d=some b/\i=none/\NJ b=some j/\a=⟨[⟨0<=j/\j<=(l.length:Int),inferInstance⟩],.c' (.l' H.length),H++[.ro τ (l.drop j.toNat)],[]⟩):=by
 unfold Ct at h;split at h
 ·rename_i id;split at h
  ·rename_i τ l c;rw [gQ]at c;split at h
   ·rename_i x n;have n:C.P.underlying e=some (.slice x):=by
     unfold OS at n;split at n
     ·rename_i k;cases n;exact k
     ·cases n
    split at h
    ·rename_i sz t;have h:=dJ h;have m:=iL h.1;subst m;have h:=dJ h.2;refine⟨_,x,τ,l,rfl,c,n,t,h.1, ?_⟩;have h:=h.2;split at h
     ·rename_i b;split at h
      ·rename_i j g;cases h;exact .inl ⟨_,j,rfl,rfl,g,rfl⟩
      ·cases h
     ·rename_i b;split at h
      ·rename_i j g;cases h;exact .inr ⟨_,j,rfl,rfl,g,rfl⟩
      ·cases h
     ·cases h
    ·cases h
   ·cases h
  ·cases h
 ·cases h
theorem R5 (E : Rel C w0 S0 ρ S F w) (X : C.nn = md.n)   {A B : Option Operand}  (U : vI C t = false) (h : iM C (S.ev C) S.H (.slice t x A B none) = some a) (hg : Gu a.g) :
    Step C md w0 S0 ρ S F w ⟨some d, .slice t x A B none, ty, pos, after, none⟩ (St.set ⟨S.F, a.H, S.nb, S.al, a.m ++ S.m⟩ d a.v) := by
  have h : (bif vI C t then Ju S.H (fU (S.ev C x) fun m => wH (S.ev C) A fun i => wH (S.ev C) B fun j => HZ m i j) else fU (S.ev C x) fun m => wH (S.ev C) A fun i => wH (S.ev C) B fun j => Ct C S.H t m i j) = some a := h;rw [U] at h;obtain ⟨c, h1, h2⟩ := lT (show fU (S.ev C x) (fun m => wH (S.ev C) A fun i => wH (S.ev C) B fun j => Ct C S.H t m i j) = some a from h);have hx := (nW E X h1).2;obtain ⟨L, hH, hM⟩ := E.mem;have key : ∀ (i j : Option SC), Ct C S.H t c i j = some a -> (A = none /\ i = none \/ ∃ o b, A = some o /\ i = some b /\ aX md F o = b.v ρ) -> (B = none /\ j = none \/ ∃ o b, B = some o /\ j = some b /\ aX md F o = b.v ρ) ->
      Step C md w0 S0 ρ S F w ⟨some d, .slice t x A B none, ty, pos, after, none⟩ (St.set ⟨S.F, a.H, S.nb, S.al, a.m ++ S.m⟩ d a.v) := by
    intro i j a7 Y a0;obtain ⟨id, e, τ, l, rfl, a8, hu, T, hf, hc⟩ := Cs a7;obtain ⟨Z, r, hr, b9, V, G, D⟩ := hM.2 id _ a8;have Z : l.length = (ρ id).ln := Z;have hx : aX md F x = .slice (ρ id).a (ρ id).ln (ρ id).cap := hx;rcases hc with ⟨b, k, rfl, rfl, hk, rfl⟩ | ⟨b, k, rfl, rfl, hk, rfl⟩
    · rcases Y with ⟨rfl, _⟩ | ⟨o, N, _, z, _⟩
      rotate_left
      · cases z
      rcases a0 with ⟨_, z⟩ | ⟨o, N, rfl, z, ho⟩
      · cases z
      cases z;obtain ⟨kk, J⟩ := vG hk ρ;have hb := hg.1;have f : ∀ d2 : Nat, (execOp (aX md F) (⟨some d2, .slice t x none (some o) none, ty, pos, after, none⟩ : Oper)).run C.P w = .ok (.value (.slice (ρ id).a k.toNat (ρ id).cap)) w := fun d2 => TU (d := d2) (ρ id).a (ρ id).ln (ρ id).cap e τ.sz kk k hu (Rj T w) hx (ho.trans J) l Z.symm hb (by rw [<- Z]; exact D);have s : (l.take k.toNat).length = k.toNat := by rw [kR]; omega
      have hR : Xz w0 S0 ⟨none, (ρ id).a, (ρ id).cap, false, (l.take k.toNat).length⟩ τ (l.take k.toNat) := by
       refine ⟨?_, fun I => G (fun e0 => I ?_), ?_⟩
       · intro j v hv;have e1 : (l.flatMap τ.enc)[j]? = some v := by rw [<- JF k.toNat l, SN, aH (aD.1 hv).1]; exact hv
         exact V j v e1
       · rw [<- JF k.toNat l, SN] at e0;exact (List.append_eq_nil_iff.1 e0).1
       · show (l.take k.toNat).length <= (ρ id).cap;rw [s]; omega
      obtain ⟨h3, y⟩ := KP (d := d) (τ := τ) (l := l.take k.toNat) (a' := (ρ id).a) (cap' := (ρ id).cap) E hM hH hR;intro a4 Q R u;rw [s] at h3 y;refine gM rfl rfl (f d) (u _ _ w h3 y NI fun d2 hd _ => ⟨w, ?_⟩);cases hd;rw [dj]; exact f d
    · rcases a0 with ⟨rfl, _⟩ | ⟨o, N, _, z, _⟩
      rotate_left
      · cases z
      rcases Y with ⟨_, z⟩ | ⟨o, N, rfl, z, ho⟩
      · cases z
      cases z;obtain ⟨kk, J⟩ := vG hk ρ;have hb := hg.1;have f : ∀ d2 : Nat, (execOp (aX md F) (⟨some d2, .slice t x (some o) none none, ty, pos, after, none⟩ : Oper)).run C.P w = .ok (.value (.slice (R8 (ρ id).a (ρ id).cap k.toNat τ.sz) ((ρ id).ln - k.toNat) ((ρ id).cap - k.toNat))) w := fun d2 => TV (d := d2) (ρ id).a (ρ id).ln (ρ id).cap e τ.sz kk k hu (Rj T w) hx (ho.trans J) l Z.symm hb;have s : (l.drop k.toNat).length = (ρ id).ln - k.toNat := by rw [iX]; omega
      have hR : Xz w0 S0 ⟨none, R8 (ρ id).a (ρ id).cap k.toNat τ.sz, (ρ id).cap - k.toNat, false, (l.drop k.toNat).length⟩ τ (l.drop k.toNat) := by
       refine ⟨Rd.DX (Ty.vE hf) _ _ D V, fun I p O => ?_, ?_⟩
       · have W : l.flatMap τ.enc ≠ [] := fun e0 => I (by rw [<- JF k.toNat l, SN] at e0;exact (List.append_eq_nil_iff.1 e0).2);have O : R8 (ρ id).a (ρ id).cap k.toNat τ.sz = some p := O;unfold R8 at O;split at O
         · exact G W p O
         · obtain ⟨q, hq, rfl⟩ := bX.1 O;have := G W q hq;rw [vm]; exact this
       · show (l.drop k.toNat).length <= (ρ id).cap - k.toNat;rw [s]; omega
      obtain ⟨h3, y⟩ := KP (d := d) (τ := τ) (l := l.drop k.toNat) (a' := R8 (ρ id).a (ρ id).cap k.toNat τ.sz) (cap' := (ρ id).cap - k.toNat) E hM hH hR;intro a4 Q R u;rw [s] at h3 y;refine gM rfl rfl (f d) (u _ _ w h3 y NI fun d2 hd _ => ⟨w, ?_⟩);cases hd;rw [dj]; exact f d
  rcases TG h2 with ⟨y, h5⟩ | ⟨o, b, y, h5, h6⟩
  · rcases TG h5 with ⟨M, K⟩ | ⟨o2, N, M, K, h9⟩
    · exact key _ _ K (.inl ⟨y, rfl⟩) (.inl ⟨M, rfl⟩)
    · exact key _ _ h9 (.inl ⟨y, rfl⟩) (.inr ⟨o2, N, M, rfl, (nW E X K).2⟩)
  · rcases TG h6 with ⟨M, K⟩ | ⟨o2, N, M, K, h9⟩
    · exact key _ _ K (.inr ⟨o, b, y, rfl, (nW E X h5).2⟩) (.inl ⟨M, rfl⟩)
    · exact key _ _ h9 (.inr ⟨o, b, y, rfl, (nW E X h5).2⟩) (.inr ⟨o2, N, M, rfl, (nW E X K).2⟩)
theorem Ec(h:Um C H e s f g=some a):∃p x,g=.s' p/\vI C s=true/\C.E e=some (x,1,.c')/\zU8 C x=true/\
  ((f=.n'/\a=⟨[⟨(([]:aC).length+p.length)*1<=140737488355328,inferInstance⟩],.c' (.l' H.length),H++[.rw x 1 .c' ([]++p)],[]⟩)\/
   ∃(id:Nat) (l:aC),f=.l' id/\H[id]? =some (.rw x 1 .c' l)/\a=⟨[⟨(l.length+p.length)*1<=140737488355328,inferInstance⟩],.c' (.l' H.length),iS H id (.dd l.length)++[.rw x 1 .c' (l++p)],[(id,0,1)]⟩):=by
 unfold Um at h;split at h
 ·rename_i p;unfold Rf at h;have h:=dJ h;have t:=h.1;have h:=h.2;split at h
  ·rename_i x b c;have h:=dJ h;have n:=iL h.1;subst n;have h:=dJ h.2;have k:=h.1;have h:=h.2;refine⟨p,x,rfl,t,c,k, ?_⟩;split at h
   ·cases h;exact .inl ⟨rfl,rfl⟩
   ·rename_i id;split at h
    ·rename_i l d;cases h;refine .inr ⟨_,l,rfl, ?_,rfl⟩;unfold fp at d;simp only at d;split at d
     ·rename_i q m;have t:=dJ d;have j:=dJ t.2;have i:=tQ m j.2;rw [gQ,iL t.1,iL j.1]at i;exact i
     ·cases d
    ·cases h
   ·cases h
  ·cases h
 ·cases h
theorem TQ(h:zU8 C e=true):(C.P.info? e).bind (·.zero)=some (.int .u8 0):=by
 unfold zU8 at h;split at h
 ·rename_i i b;split at h
  ·rename_i a;rw [b];exact a
  ·cases h
 ·cases h
theorem Uq(hE:vb C)(z:Rel C w0 S0 ρ S F w)(hn:C.nn=md.n){s:TypeId}(hx:aX md F x=f.v ρ)(N:aX md F y=g.v ρ)(h:Um C S.H t s f g=some a)(U:Gu a.g)(hm:S.Bg a.m=true):
  Step C md w0 S0 ρ S F w ⟨some d,.call ⟨.builtin .append, #[x,y], #[t,s]⟩,ty,pos,after,none⟩ (St.set ⟨S.F,a.H,S.nb,S.al,a.m++S.m⟩ d a.v):=by
 intro Y Q J T;have np:∀d2:Nat,(some d:Option Nat)=some d2->mL (.call ⟨.builtin .append, #[x,y], #[t,s]⟩)=true->∀F2:Nat->Value,∃X,(execOp (aX md F) (⟨some d,.call ⟨.builtin .append, #[x,y], #[t,s]⟩,ty,pos,after,none⟩:Oper)).run C.P w=.ok (.value (F2 d2)) X:=fun d2 _ h=>by cases h
 obtain⟨L,W,A⟩:=z.mem;obtain⟨K,e,rfl,R,B,M,u⟩:=Ec h;obtain⟨O,V,hf,a1⟩:=hE _ _ _ _ B;rcases u with⟨rfl,rfl⟩|⟨id,l,rfl,c,rfl⟩
 ·refine vW (Hp.dG W (Ty.c').enc e 1 none) 0 none none 0 e [] K rfl O (Fw R) V (TQ M) hx N U.1 fun o' a' i w' G=> ?_;obtain⟨E,D⟩:=Jr (τ:=.c') (b:=1) (d:=d) z A G;exact T _ _ w' E D NI fun d2 q k=>np d2 q k _
 ·obtain⟨I,r,Z,p⟩:=A.2 id _ c;have p:r=aW (Ty.c').enc e (Ty.c').sz (ρ id).o (ρ id).a (ρ id).cap l:=p;subst p;have I:l.length=(ρ id).ln:=I;have j:aX md F x=.slice (ρ id).a l.length (ρ id).cap:=by rw [hx,I];rfl
  refine vW W id (ρ id).o (ρ id).a (ρ id).cap e l K Z O (Fw R) V (TQ M) j N U.1 fun o' a' i w' G=> ?_;obtain⟨E,D⟩:=Ve (τ:=.c') (b:=1) (d:=d) (m:=[(id,0,1)]) z A c G hm (fun al u=>.inl (u 0 (vL.2 ⟨_,aE.2 rfl,rfl,eV _,Ha⟩)));exact T _ _ w' E D NI fun d2 q k=>np d2 q k _
theorem OO(N:vb C)(s:Rel C w0 S0 ρ S F w)(T:C.nn=md.n){c:SC}(r:aX md F y=g.v ρ)(h:wG C S.H t (isZ x) c g=some a)(G:Gu a.g):
  Step C md w0 S0 ρ S F w ⟨some d,.makeSlice t x y,ty,pos,after,none⟩ (St.set ⟨S.F,a.H,S.nb,S.al,a.m++S.m⟩ d a.v):=by
 intro u Q q D;obtain⟨L,M,K⟩:=s.mem;unfold wG at h;split at h
 ·rename_i e b p l;obtain⟨A,J,U,k⟩:=N _ _ _ _ l;have h:=dJ h;have j:=h.1;have h:=h.2;split at h
  ·rename_i i E;cases h
   obtain⟨z,I⟩:=vG E ρ;rw [I]at r;obtain⟨kl,hx⟩:∃kl,aX md F x=.int kl 0:=by
    unfold isZ at j;split at j
    ·exact⟨_,rfl⟩
    ·cases j
   refine P1 (f:=p.enc) M e p.sz b kl z i A J k hx r G.1 fun o c cap w' R=> ?_;obtain⟨P,O⟩:=Jr (b:=b) (d:=d) s K R;exact D _ _ w' P O NI fun d2 V B=>by cases B
  ·cases h
 ·cases h
theorem Uo(g:Rel C w0 S0 ρ S F w){s e:TypeId}{l:aC}(hx:aX md F x=str l)(n:C.P.underlying t=some .string)(k:OS C s=some e)(f:HF C e=true):
  Step C md w0 S0 ρ S F w ⟨some d,.convert t s x,ty,pos,after,none⟩ (St.set ⟨S.F,S.H++[.br l.length l],S.nb,S.al,[]++S.m⟩ d (.c' (.l' S.H.length))):=by
 intro j Q h p;obtain⟨L,y,v⟩:=g.mem;refine Im y l e n (V3 k) (oU8 f) hx fun a cap w' b A=> ?_;have z:Rel C w0 S0 (Ee ρ S.H.length ⟨none,a,cap,false,l.length⟩) ⟨S.F,S.H++[.br l.length l],S.nb,S.al,[]++S.m⟩ F w':=yG (o:=.br l.length l) g v A (by show _=_;rw [nX]) rfl (fun _ _ f=>by cases f) rfl rfl;have c:Nx S ρ ⟨S.F,S.H++[.br l.length l],S.nb,S.al,[]++S.m⟩ (Ee ρ S.H.length ⟨none,a,cap,false,l.length⟩):=Km (o:=.br l.length l) (m:=[]) g rfl rfl rfl rfl;refine p _ _ w' (da (d:=d) (u:=.slice a l.length cap) z aC5 (fun i q=> ?_)) ⟨⟨c.nb,c.al,c.le⟩,c.lg,c.mm⟩ NI fun d2 r _=>⟨w', ?_⟩
 ·have:i=S.H.length:=aE.1 q;subst this;show S.H.length<(S.H++[_]).length;simp
 ·cases r;rw [dj];exact b
end
open Go.Wk
open Go.Ce (Tr)
open Nat renaming beq → cV
section
variable {C:Cx}{md:Md}{w0 w:World}{S0:List Nat}{ρ:Nat->Ad}{S:St}{F:Nat->Value}
variable {ty:TypeId}{pos:String}{after:Array Edge}
variable {a:Option Nat}{v:SV}
theorem DW(h:Ms a v=true)(b:v≠.u'):∃d,a=some d:=by
 cases a with
 |some d=>exact⟨d,rfl⟩
 |none=>cases v<;>first|exact absurd rfl b|cases h
variable {c:Op}{b:Ro}
theorem Tp(g:Rel C w0 S0 ρ S F w)(h:vM C md ρ S F w c b.v/\b.H=S.H/\b.m=[])(f:Ms a b.v=true):Step C md w0 S0 ρ S F w ⟨a,c,ty,pos,after,none⟩ (St.uI ⟨S.F,b.H,S.nb,S.al,b.m++S.m⟩ a b.v):=by obtain⟨k,j,i⟩:=h;obtain⟨d,rfl⟩:=DW f (fun e=>by obtain⟨_,u,l,_⟩:=k;rw [e]at l;cases l);rw [j,i];exact VX g k
theorem jr{S2:Nat->St}(f:Ms a v=true)(g:v≠.u')(h:∀d,Step C md w0 S0 ρ S F w ⟨some d,c,ty,pos,after,none⟩ (S2 d)){b:St}(e:∀d,a=some d->S2 d=b):Step C md w0 S0 ρ S F w ⟨a,c,ty,pos,after,none⟩ b:=by obtain⟨d,rfl⟩:=DW f g;rw [<-e d rfl];exact h d
theorem Nl{b:Type}{a:Array b}{l:List b}(h:a.toList=l):a=l.toArray:=by rw [<-h]
theorem IF(I:vb C)(j:C.nn=md.n)(i:Rel C w0 S0 ρ S F w){r:Builtin}{gH:Array Operand}{D:Array TypeId}(h:IS C (S.ev C) S.H r gH.toList D.toList=some b)(G:Gu b.g)(E:S.Bg b.m=true)(u:Ms a b.v=true):
  Step C md w0 S0 ρ S F w ⟨a,.call ⟨.builtin r,gH,D⟩,ty,pos,after,none⟩ (St.uI ⟨S.F,b.H,S.nb,S.al,b.m++S.m⟩ a b.v):=by
 unfold IS at h;split at h
 ·rename_i x t s z;obtain rfl:=Nl s;obtain rfl:=Nl z;obtain⟨g,v,B,rfl⟩:=FO h;obtain⟨c,q,p⟩:=lT B;obtain⟨o,f⟩:=nW i j q;exact Tp i ⟨pq i f o p,rfl,rfl⟩ u
 ·rename_i x y t t2 s z;obtain rfl:=Nl s;obtain rfl:=Nl z;cases k:cV t t2 with
  |true=>
   rw [k]at h;have J:=iL k;subst J;obtain⟨m,q,p⟩:=lT h;obtain⟨c,o,f⟩:=lT p;have A:b.v≠.u':=by
    intro e;unfold rP at f;split at f
    ·split at f
     ·split at f
      ·cases f;cases e
      ·cases f
     ·split at f
      ·cases f;cases e
      ·cases f
     ·split at f
      ·cases f;cases e
      ·cases f
     ·cases f
    ·cases f
   exact jr u A (fun d=>step_append (d:=d) I i j (nW i j q).2 (nW i j o).2 f G E) (fun d e=>by rw [e];rfl)
  |false=>
   rw [k]at h;obtain⟨m,q,p⟩:=lT h;obtain⟨c,o,f⟩:=lT p;have A:b.v≠.u':=by intro e;obtain⟨L,z,_,_,_,_,K⟩:=Ec f;rcases K with⟨_,rfl⟩|⟨id,l,_,_,rfl⟩<;>cases e
   exact jr u A (fun d=>Uq (d:=d) I i j (nW i j q).2 (nW i j o).2 f G E) (fun d e=>by rw [e];rfl)
 ·rename_i x y _ s _;obtain rfl:=Nl s;obtain⟨g,v,B,rfl⟩:=FO h;obtain⟨m,q,p⟩:=lT B;obtain⟨c,o,f⟩:=lT p;exact Tp i ⟨mm_ok (nW i j q).2 (nW i j o).2 f,rfl,rfl⟩ u
 ·cases h
theorem R6(hE:vb C)(r:C.nn=md.n)(p:Rel C w0 S0 ρ S F w){op:Op}(h:iM C (S.ev C) S.H op=some b)(D:Gu b.g)(hm:S.Bg b.m=true)(q:Ms a b.v=true):
  Step C md w0 S0 ρ S F w ⟨a,op,ty,pos,after,none⟩ (St.uI ⟨S.F,b.H,S.nb,S.al,b.m++S.m⟩ a b.v):=by
 cases op<;>first|cases h|skip
 case move x=>exact Tp p (I9 r p (op:=.move x) rfl h D w) q
 case assign x=>exact Tp p (I9 r p (op:=.assign x) rfl h D w) q
 case binOp K t x y t'=>exact Tp p (I9 r p (op:=.binOp K t x y t') rfl h D w) q
 case unOp u t x=>exact Tp p (I9 r p (op:=.unOp u t x) rfl h D w) q
 case index t x Q=>exact Tp p (I9 r p (op:=.index t x Q) rfl h D w) q
 case slice t x L M P=>
  cases J:vI C t with
  |true=>exact Tp p (I9 r p (op:=.slice t x L M P) rfl (show(bif vI C t then iM C (S.ev C) S.H (.slice t x L M P)else none)=some b by rw [J];exact h) D w) q
  |false=>
   cases P with
   |some m=>cases h
   |none=>
    refine jr q (fun e=> ?_) (fun d=>R5 (d:=d) p r J h D) (fun d e=>by rw [e];rfl);have h:(bif vI C t then Ju S.H (fU (S.ev C x) fun H=>wH (S.ev C) L fun i=>wH (S.ev C) M fun j=>HZ H i j)else fU (S.ev C x) fun H=>wH (S.ev C) L fun i=>wH (S.ev C) M fun j=>Ct C S.H t H i j)=some b:=h;rw [J]at h;obtain⟨c,I,E⟩:=lT (show fU (S.ev C x) (fun H=>wH (S.ev C) L fun i=>wH (S.ev C) M fun j=>Ct C S.H t H i j)=some b from h);have key:∀i j,Ct C S.H t c i j=some b->False:=fun i j T=>by obtain⟨id,e2,τ,l,_,_,_,_,_,V⟩:=Cs T;rcases V with⟨K,k,_,_,_,rfl⟩|⟨K,k,_,_,_,rfl⟩<;>cases e
    rcases TG E with⟨B,G⟩|⟨o,K,B,G,Y⟩
    ·rcases TG G with⟨X,N⟩|⟨o2,b2,X,N,W⟩
     ·exact key _ _ N
     ·exact key _ _ W
    ·rcases TG Y with⟨X,N⟩|⟨o2,b2,X,N,W⟩
     ·exact key _ _ N
     ·exact key _ _ W
 case extract x i=>exact Tp p (I9 r p (op:=.extract x i) rfl h D w) q
 case field t x f=>exact Tp p (I9 r p (op:=.field t x f) rfl h D w) q
 case build t O=>exact Tp p (I9 r p (op:=.build t O) rfl h D w) q
 case fieldAddr t x f=>exact Tp p (I9 r p (op:=.fieldAddr t x f) rfl h D w) q
 case pick c H K=>
  obtain⟨x,I,E⟩:=lT (show fU (S.ev C c) (fun x=>match x with
   |.b' t=>mI S.H (match(bif t then S.ev C H else S.ev C K)with
    |.u'=>none
    |v=>some v)
   |_=>none)=some b from h)
  split at E
  ·rename_i t;obtain⟨v,A,rfl⟩:=J6 E;obtain⟨B,u,G⟩:=Wi (ρ:=ρ) A;exact Tp p ⟨U7 p r I B (fun e=>by have e:v=.u':=e;subst e;cases G),rfl,rfl⟩ q
  ·cases E
 case convert s t x=>
  obtain⟨c,V,h⟩:=lT (show fU (S.ev C x) (Xc C S.H s t)=some b from h);have hx:=(nW p r V).2;unfold Xc at h;split at h
  ·rename_i e U;have A:=dJ h;have B:=dJ A.2;have G:=B.2;split at G
   ·rename_i l hl;cases G;exact Tp p ⟨VO p hx U A.1 B.1 hl,rfl,rfl⟩ q
   ·cases G
  ·split at h
   ·rename_i l;split at h
    ·rename_i e U;have A:=dJ h;have B:=dJ A.2;cases B.2;exact jr q aA2 (fun d=>Uo (d:=d) p hx (Fw A.1) U B.1) (fun d e=>by rw [e];rfl)
    ·obtain⟨g,v,A,rfl⟩:=FO h;exact Tp p ⟨Xd hx A D,rfl,rfl⟩ q
   ·obtain⟨g,v,A,rfl⟩:=FO h;exact Tp p ⟨Xd hx A D,rfl,rfl⟩ q
 case alloc e=>
  have Z:=h;have h:(match zC C e with
   |some z=>some (Ro.mk [] (.c' (.p' S.H.length 0)) (S.H++[.bl e z]) [])
   |none=>none)=some b:=h
  split at h
  ·cases h;exact jr q aA2 (fun d=>GD (d:=d) p Z) (fun d e=>by rw [e];rfl)
  ·cases h
 case box e x=>
  have Z:=h;have h:(match(S.ev C x).cells with
   |some cs=>some (Ro.mk [] (.c' (.p' S.H.length 0)) (S.H++[.bl e cs]) [])
   |none=>none)=some b:=h
  split at h
  ·cases h;exact jr q aA2 (fun d=>VY (d:=d) p r Z) (fun d e=>by rw [e];rfl)
  ·cases h
 case buildSlice t n O=>
  have R:b.v≠.u':=by
   intro e;have h:ue C (S.ev C) S.H t n O.toList=some b:=h;unfold ue at h;split at h
   ·split at h
    ·have I:=dJ h;have E:=dJ I.2;have A:=E.2;split at A
     ·cases A;cases e
     ·cases A
    ·cases h
   ·cases h
  exact jr q R (fun d=>Ft (d:=d) p r h) (fun d e=>by rw [e];rfl)
 case load t x=>
  obtain⟨c,I,E⟩:=lT (show fU (S.ev C x) (fun H=>lC C S.H t H)=some b from h);exact Tp p (LK p (nW p r I).2 E D) q
 case store t x y=>
  obtain⟨I,E⟩:=GC (ty:=ty) (pos:=pos) (after:=after) p r h D hm;rw [E]at q⊢;cases a with
  |none=>exact I
  |some d=>cases q
 case indexAddr t x Q=>
  obtain⟨H,I,E⟩:=lT (show fU (S.ev C x) (fun H=>fU (S.ev C Q) fun i=>jv C S.H t H i)=some b from h);obtain⟨c,A,B⟩:=lT E;obtain⟨G,Y⟩:=nW p r I;exact Tp p (Wo p Y G (nW p r A).2 B D) q
 case makeSlice t x y=>
  obtain⟨H,I,E⟩:=lT (show fU (S.ev C x) (fun H=>fU (S.ev C y) fun i=>wG C S.H t (isZ x) H i)=some b from h);obtain⟨c,A,B⟩:=lT E;have R:b.v≠.u':=by
   intro e;unfold wG at B;split at B
   ·have G:=(dJ B).2;split at G
    ·cases G;cases e
    ·cases G
   ·cases B
  exact jr q R (fun d=>OO (d:=d) hE p r (nW p r A).2 B D) (fun d e=>by rw [e];rfl)
 case makeFunc f H K=>
  obtain⟨v,I,rfl⟩:=J6 h;exact Tp p ⟨aj p r I,rfl,rfl⟩ q
 case nilCheck x=>
  obtain⟨c,I,E⟩:=lT (show fU (S.ev C x) (fun H=>mI S.H (AZ H))=some b from h);obtain⟨v,A,rfl⟩:=J6 E;obtain⟨B,G⟩:=nW p r I;exact Tp p ⟨pc G B A,rfl,rfl⟩ q
 case call c=>
  obtain⟨a0,gH,ts⟩:=c;cases a0<;>first|cases h|skip
  exact IF hE r p h D hm q
end
open Go.Wk
open Go.Ce (Tr)
open Nat renaming one_pos → Ha
def ks(ρ b:Nat->Ad):Ob->Ob->Prop
 |.bl e cs,d=>∃a,d=.bl e a/\cs.map (SC.v ρ)=a.map (SC.v b)/\∀(j:Nat) (c f:SC),cs[j]? =some c->a[j]? =some f->c.kn=f.kn
 |o,d=>d=o
structure LR (ρ cS:Nat->Ad) (a b:List SC×List Ob):Prop where
 c:a.1.map (SC.v ρ)=b.1.map (SC.v cS)
 p:(kU a.1).map (fun id=>(ρ id).b)=(kU b.1).map (fun id=>(cS id).b)
 o:∀(j:Nat) (o:Ob),a.2[j]? =some o->∃o2,b.2[j]? =some o2/\ks ρ cS o o2
variable {t:Ty}{s:Nat}
theorem ZI{n b d:Nat}{x:t.T}{j:Nat}{c a:SC}(h:(t.lay s n x).1[j]? =some c)(e:(t.lay b d x).1[j]? =some a):c.kn=a.kn:=by rw [(Ty.Da t s n x c (aI h)).1,(Ty.Da t b d x a (aI e)).1]
theorem LP:∀(t:Ty) (s n i g:Nat) (x:t.T) (ρ d:Nat->Ad),(t.tz=true->(ρ s).b=(d i).b)->(∀j,j<t.no->ρ (n+j)=d (g+j))->LR ρ d (t.lay s n x) (t.lay i g x):=by
 intro t;induction t with
 |w' t y=>intro s n i g x ρ d r m;exact y s n i g x ρ d r m
 |pr a b A z=>
  intro s n i g x ρ d r m;have u:=A s n i g x.1 ρ d (fun h=>r (by simp [Ty.tz,h])) (fun j B=>m j (by show j<a.no+b.no;omega));have w:=z s (n+a.no) i (g+a.no) x.2 ρ d (fun h=>r (by simp [Ty.tz,h])) (fun j B=>by have:=m (a.no+j) (by show a.no+j<a.no+b.no;omega);rw [Bn,Bn];exact this);refine⟨?_, ?_,fun j o f=> ?_⟩
  ·show((a.lay s n x.1).1++(b.lay s (n+a.no) x.2).1).map _=((a.lay i g x.1).1++(b.lay i (g+a.no) x.2).1).map _;rw [Yo,Yo,u.c,w.c]
  ·show(kU ((a.lay s n x.1).1++(b.lay s (n+a.no) x.2).1)).map _=(kU ((a.lay i g x.1).1++(b.lay i (g+a.no) x.2).1)).map _;rw [yL,yL,Yo,Yo,u.p,w.p]
  ·have f:((a.lay s n x.1).2++(b.lay s (n+a.no) x.2).2)[j]? =some o:=f;show∃C,((a.lay i g x.1).2++(b.lay i (g+a.no) x.2).2)[j]? =some C/\_;have E:=a.eR s n x.1;have D:=a.eR i g x.1;by_cases B:j<a.no
   ·rw [aH aA0]at f⊢;exact u.o j o f
   ·rw [aN aA0]at f⊢;rw [E]at f;rw [D];exact w.o _ o f
 |l' e b t y=>
  intro s n i g x ρ d r m;have q:=m 0 Ha;rw [Bm,Bm]at q;refine⟨by simp [Ty.lay,SC.v,q],rfl,fun j o f=>⟨o,f, ?_⟩⟩;cases j with
  |zero=>have:Ob.rw e b t x=o:=aJ f;subst this;rfl
  |succ j=>simp [Ty.lay]at f
 |y'=>
  intro s n i g x ρ d r m;have q:=m 0 Ha;rw [Bm,Bm]at q;refine⟨by simp [Ty.lay,SC.v,q],rfl,fun j o f=>⟨o,f, ?_⟩⟩;cases j with
  |zero=>have:Ob.br x.length x=o:=aJ f;subst this;rfl
  |succ j=>simp [Ty.lay]at f
 |r' t y=>
  intro s n i g x ρ d r m;have q:=m 0 Ha;rw [Bm,Bm]at q;refine⟨by simp [Ty.lay,SC.v,q],rfl,fun j o f=>⟨o,f, ?_⟩⟩;cases j with
  |zero=>have:Ob.ro t x=o:=aJ f;subst this;rfl
  |succ j=>simp [Ty.lay]at f
 |p' e t y=>
  intro s n i g x ρ d r m;have q:=m 0 (Nat.succ_pos _);rw [Bm,Bm]at q;have u:=y n (n+1) g (g+1) x ρ d (fun _=>by rw [q]) (fun j B=>by have:=m (j+1) (by show j+1<t.no+1;omega);rw [Of,Of g];exact this);refine⟨by simp [Ty.lay,SC.v,q],by simp [Ty.lay,kU,q],fun j o f=> ?_⟩;cases j with
  |zero=>have:Ob.bl e (t.lay n (n+1) x).1=o:=aJ f;subst this;exact⟨_,rfl,_,rfl,u.c,fun j c F h w=>ZI h w⟩
  |succ j=>exact u.o j o f
 |z'=>
  intro s n i g x ρ d r m;have q:=m 0 Ha;rw [Bm,Bm]at q;refine⟨by simp [Ty.lay,SC.v,q,r rfl],rfl,fun j o f=>⟨o,f, ?_⟩⟩;cases j with
  |zero=>have:Ob.dd 0=o:=aJ f;subst this;rfl
  |succ j=>simp [Ty.lay]at f
 |f' k t y=>
  intro s n i g x ρ d r m;have u:=y s n i g x ρ d r m;refine⟨?_,rfl,u.o⟩;have:=u.p;have w:∀(ρ:Nat->Ad) (l:List Nat),(l.map fun id=>iJ (ρ id).b 0)=(l.map fun id=>(ρ id).b).map (fun b=>iJ b 0):=fun ρ l=>by rw [jL];rfl
  show [Value.func (.func k) #[] ((kU (t.lay s n x).1).map fun id=>iJ (ρ id).b 0).toArray]=[Value.func (.func k) #[] ((kU (t.lay i g x).1).map fun id=>iJ (d id).b 0).toArray];rw [w,w,this]
 |sm a b _ _=>intro s n i g x ρ d r m;exact⟨rfl,rfl,fun j o f=>by simp [Ty.lay]at f⟩
 |_=>intro s n i g x ρ d r m;exact⟨rfl,rfl,fun j o f=>by simp [Ty.lay]at f⟩
theorem ZH:∀(t:Ty) (s n:Nat) (x:t.T),t.nb=true->∀(j:Nat) (e:Ty) (l:List e.T),(t.lay s n x).2[j]? ≠some (.ro e l):=by
 intro t;induction t with
 |w' t d=>intro s n x h;exact d s n x h
 |pr a b i g=>
  intro s n x h j e l c;have h:=iE h;have c:((a.lay s n x.1).2++(b.lay s (n+a.no) x.2).2)[j]? =some (.ro e l):=c;by_cases m:j<(a.lay s n x.1).2.length
  ·rw [aH m]at c;exact i _ _ _ h.1 _ _ _ c
  ·rw [aN aA0]at c;exact g _ _ _ h.2 _ _ _ c
 |p' e t d=>
  intro s n x h j f l c;cases j with
  |zero=>cases aJ c
  |succ j=>exact d _ _ _ h j f l c
 |f' k t d=>intro s n x h;exact d s n x h
 |r' t d=>intro s n x h;cases h
 |l' e b t d=>
  intro s n x h j f l c;cases j with
  |zero=>cases aJ c
  |succ j=>simp [Ty.lay]at c
 |y'=>
  intro s n x h j f l c;cases j with
  |zero=>cases aJ c
  |succ j=>simp [Ty.lay]at c
 |z'=>
  intro s n x h j f l c;cases j with
  |zero=>cases aJ c
  |succ j=>simp [Ty.lay]at c
 |_=>intro s n x h j e l c;simp [Ty.lay]at c
theorem XF{H:List Ob}(A:IX H):∀(l:List Ty) (vs:List SV) (a:(gK l).T) (ss:List Src) (d:List Ob),KS H l vs=some (a,ss)->
  ∃obs,(jE d l a).2=d++obs/\obs.length=ss.length/\(∀v∈(jE d l a).1,v.ok (d.length+obs.length))/\(∀(j e:Nat) (cs:List SC),obs[j]? =some (.bl e cs)->∀c∈cs,c.ok (d.length+obs.length))/\
   ∀(ρ f:Nat->Ad),(∀(j:Nat) (s:Src),ss[j]? =some s->f (d.length+j)=s.ad ρ)->
    (∃r:List Value,vs.map (SV.v ρ)=r.map some/\(jE d l a).1.map (SV.v f)=r.map some)/\∀(j:Nat) (s:Src) (o:Ob),ss[j]? =some s->obs[j]? =some o->SJ true ρ H f s o
 |[],vs,a,ss,d,h=>by
  cases vs with
  |cons v vs=>cases h
  |nil=>cases h;exact⟨[],by simp [jE],rfl,fun v k=>by simp [jE]at k,fun j e cs g=>by simp at g,fun ρ f _=>⟨⟨[],rfl,rfl⟩,fun j s o g=>by simp at g⟩⟩
 |[x],vs,a,ss,d,h=>by
  simp only [KS]at h;split at h
  ·rename_i v;have k:=Vf A h;refine⟨(x.lay 0 d.length a).2,rfl,by rw [k.no,Ty.eR],fun v q=> ?_,fun j e cs g=>cw x 0 d.length a j e cs g,fun ρ f m=> ?_⟩
   ·rw [aE.1 (show v∈[x.sv (x.lay 0 d.length a).1]from q)];exact Ty.Er (vp x 0 d.length a k.tz)
   ·obtain⟨⟨u,F,C,_⟩,B⟩:=k.to ρ f d.length m;exact⟨⟨[u],by simp [F],by simp [jE,C]⟩,B⟩
  ·cases h
 |x::y::l,vs,a,ss,d,h=>by
  simp only [KS]at h;split at h
  ·rename_i v vs;split at h
   ·rename_i i G hx;split at h
    ·rename_i b J K;cases h;have k:=Vf A hx;have z:(x.lay 0 d.length i).2.length=G.length:=by rw [k.no,Ty.eR]
     obtain⟨obs,F,C,B,Q,P⟩:=XF A (y::l) vs b J (d++(x.lay 0 d.length i).2) K;have p:(d++(x.lay 0 d.length i).2).length=d.length+(x.lay 0 d.length i).2.length:=bM;refine⟨(x.lay 0 d.length i).2++obs,by rw [<-gJ];exact F,by simp [z,C],fun v q=> ?_,fun j e cs g c I=> ?_,fun ρ f m=> ?_⟩
     ·rw [bM,<-Bn,<-p];rcases aP.1 (show v∈x.sv (x.lay 0 d.length i).1::(jE (d++(x.lay 0 d.length i).2) (y::l) b).1 from q)with rfl|q
      ·exact SV.cQ (Ty.Er (vp x 0 d.length i k.tz)) aA0
      ·exact B v q
     ·rw [bM,<-Bn,<-p];by_cases n:j<(x.lay 0 d.length i).2.length
      ·rw [aH n]at g;exact SC.cQ (cw x 0 d.length i j e cs g c I) aA0
      ·rw [aN aA0]at g;exact Q _ e cs g c I
     ·obtain⟨⟨u,O,N,_⟩,M⟩:=k.to ρ f d.length (fun j s g=>m j s (by rw [aH (aD.1 g).1];exact g));obtain⟨⟨r,L,E⟩,D⟩:=P ρ f (fun j s g=>by rw [p,z,Bn];exact m _ s (by rw [aN aA0,<-g];congr 1;omega));refine⟨⟨u::r,by simp [O,L], ?_⟩,fun j s o t w=> ?_⟩
      ·show(x.sv (x.lay 0 d.length i).1::(jE (d++(x.lay 0 d.length i).2) (y::l) b).1).map _=_;rw [vS,N,E];rfl
      ·by_cases n:j<G.length
       ·rw [aH n]at t;rw [aH aA0]at w;exact M j s o t w
       ·rw [aN aA0]at t;rw [aN aA0,z]at w;exact D _ s o t w
    ·cases h
   ·cases h
  ·cases h
def uR(c:Gt)(x:(gK c.a).T):List Ob:=(jE [] c.a x).2
def Ge(outs:List Nat):List Ob->Nat->List Nat
 |[],_=>[]
 |o::a,j=>(bif vH (some o)then(bif lS j outs then []else [j])else [])++Ge outs a (j+1)
structure If where
 gs:List (Nat×Ob)
 p:World->List Nat->Prop
 st:∀{w0 w:World} {S0 S1:List Nat} {L:List cF},Hp w0 S0 L w->p w0 S0->(∀b∈S1,w0.heap.size<=b\/b∈S0)->p w S1
 rd:∀{w:World} {S:List Nat} {g:Nat} {t:Ty} {l:List t.T},p w S->(g,.ro t l)∈gs->Rd w (some ⟨g,0,none⟩) (l.flatMap t.enc)/\g∉S
def Gw(G:If)(w:World)(S:List Nat):Prop:=G.p w S
variable {a:Type}
def Gv.ok:Gv a->a->Prop
 |.one o,y=>o=some y
 |.gs l z,y=>Gu l/\z=y
theorem Mj{ρ:Type}{x:Option ρ}{r:ρ}:∀{l:List PD},gdL l x=some r->Gu l/\x=some r
 |[],h=>⟨trivial,h⟩
 |⟨p,e⟩::l,h=>by obtain⟨d,c⟩:=C0 h;obtain⟨b,a⟩:=Mj c;exact⟨⟨d,b⟩,a⟩
theorem Gv.cq{ρ:Type}{g:Gv a}{k:a->Option ρ}{r:ρ}(h:g.bd k=some r):∃y,g.ok y/\k y=some r:=by
 cases g with
 |one o=>obtain⟨y,b,c⟩:=Am (show o.bind k=some r from h);exact⟨y,b,c⟩
 |gs l z=>obtain⟨b,c⟩:=Mj (show gdL l (k z)=some r from h);exact⟨z,⟨b,rfl⟩,c⟩
def yD(c:Gt)(x:(gK c.a).T)(y:(gG c.r).T):List SA×List Ob:=fK (fun j=>j) ([],kill (uR c x) (Ge (Rk.ids c.r) (uR c x) 0)) c.r y
def IW(P:Program)(i:If)(k:Nat)(c:Gt):Prop:=∀(w:World) (S:List Nat) (d:Nat->Ad) (L:List cF) (e:List Value) (x:(gK c.a).T) (y:(gG c.r).T),Gw i w S->Hp w S L w->Mt w S d (uR c x) L->
 (jE [] c.a x).1.map (SV.v d)=e.map some->(c.f x).ok y->CR P k e w fun v h=>∃b g,Up (uR c x).length d b/\Hp w S g h/\Mt w S b (yD c x y).2 g/\(mW (yD c x y).1).v b=some v
theorem Aa{outs:List Nat}:∀{obs:List Ob} {i j:Nat},j∈Ge outs obs i↔∃o,i<=j/\obs[j-i]? =some o/\vH (some o)=true/\j∉outs
 |[],i,j=>by simp [Ge]
 |o::obs,i,j=>by
  have l:=Aa (outs:=outs) (obs:=obs) (i:=i+1) (j:=j);simp only [Ge,aS,l];constructor
  ·rintro(h|⟨c,n,b,d⟩)
   ·cases f:vH (some o)with
    |false=>rw [f]at h;cases h
    |true=>
     rw [f]at h;simp only [aL]at h;cases a:lS i outs with
     |true=>rw [a]at h;cases h
     |false=>rw [a]at h;simp only [aG,aE]at h;subst h;exact⟨o,eV _,aA2,f,fun m=>by rw [To.2 m]at a;cases a⟩
   ·refine⟨c,aA0, ?_,d⟩;rw [show j-i=(j-(i+1))+1 by omega,bV];exact b
  ·rintro⟨c,n,b,d,k⟩;by_cases g:i=j
   ·subst g;left;rw [Gx]at b;have e:o=c:=aB6
    subst e;have a:lS i outs=false:=by
     cases a:lS i outs with
     |false=>rfl
     |true=>exact absurd (To.1 a) k
    rw [d,a];simp
   ·right;refine⟨c,aA0, ?_,d,k⟩;rw [show j-i=(j-(i+1))+1 by omega,bV]at b;exact b
theorem Du{outs:List Nat}:∀{obs:List Ob} {ss:List Src} {i id:Nat},id∈Xl outs obs i ss↔∃j o s,i<=j/\obs[j-i]? =some o/\ss[j-i]? =some s/\vH (some o)=true/\j∉outs/\id∈s.own
 |[],ss,i,id=>by simp [Xl]
 |o::obs,[],i,id=>by simp [Xl]
 |o::obs,s::ss,i,id=>by
  have p:=Du (outs:=outs) (obs:=obs) (ss:=ss) (i:=i+1) (id:=id);simp only [Xl,aS,p];constructor
  ·rintro(h|⟨j,f,d,r,c,b,g⟩)
   ·cases k:vH (some o)with
    |false=>rw [k]at h;cases h
    |true=>
     rw [k]at h;simp only [aL]at h;cases a:lS i outs with
     |true=>rw [a]at h;cases h
     |false=>rw [a]at h;exact⟨i,o,s,eV _,aA2,aA2,k,(fun q=>by rw [To.2 q]at a;cases a),h⟩
   ·refine⟨j,f,d,aA0, ?_, ?_,g⟩
    ·rw [show j-i=(j-(i+1))+1 by omega,bV];exact c
    ·rw [show j-i=(j-(i+1))+1 by omega,bV];exact b
  ·rintro⟨j,f,d,r,c,b,g,n,m⟩;by_cases l:i=j
   ·subst l;left;rw [Gx]at c b;have e:o=f:=aC3;have t:s=d:=aB6
    subst e;subst t;have a:lS i outs=false:=by
     cases a:lS i outs with
     |false=>rfl
     |true=>exact absurd (To.1 a) n
    rw [g,a];exact m
   ·right;refine⟨j,f,d,aA0, ?_, ?_,g,n,m⟩
    ·rw [show j-i=(j-(i+1))+1 by omega,bV]at c;exact c
    ·rw [show j-i=(j-(i+1))+1 by omega,bV]at b;exact b
open Nat renaming beq → cV, one_pos → Ha
structure PR (n nc:Nat) (H:List Ob) (ρ cS ρ3:Nat->Ad) (ss:List Src) (rg:List Rg) (Hc Hk:List Ob) (lc lk:List SA) (k:Nat):Prop where
 ec:Hc.length=nc+k
 ek:Hk.length=n+k
 nw:∀(i:Nat) (o:Ob),i<k->Hc[nc+i]? =some o->(∃o3,Hk[n+i]? =some o3/\ks cS ρ3 o o3)/\∀(t:Ty) (l:List t.T),o≠.ro t l
 ow:∀(j id:Nat) (o:Ob),ss[j]? =some (.o' id true)->Hc[j]? =some o->(∃o3,Hk[id]? =some o3/\ks cS ρ3 o o3)/\∀(t:Ty) (l:List t.T),o≠.ro t l
 ok:∀(j id m:Nat),ss[j]? =some (.k' id m true)->Hk[id]? =some (.dd 0)
 ot:∀id,id<n->id∉gL ss->Hk[id]? =H[id]?
 ho:∀(id e:Nat) (cs:List SC),Hk[id]? =some (.bl e cs)->∀c∈cs,c.ok (n+k)
 kp:∀(id:Nat) (o:Ob),H[id]? =some o->lJ rg id ρ ρ3 Hk[id]? o
 vl:lc.map (SA.v cS)=lk.map (SA.v ρ3)
 vo:∀v∈lk,v.ok (n+k)
theorem ks.len{ρ cS:Nat->Ad}{o a:Ob}(h:ks ρ cS o a):a.len=o.len:=by
 cases o with
 |bl e cs=>obtain⟨b,rfl,_⟩:=h;rfl
 |_=>have h:_=_:=h;rw [h]
theorem mx{ρ cS:Nat->Ad}{a b:List SC}(h:a.map (SC.v ρ)=b.map (SC.v cS)):(t.sa a).v ρ=(t.sa b).v cS:=by
 unfold Ty.sa;cases t.agg with
 |true=>simp only [aL,SA.v,h]
 |false=>
  simp only [aG]
  match a,b,h with
  |[],[],_=>rfl
  |[t],[y],h=>simpa [SA.v] using h
  |t::y::a,u::v::b,h=>simp only [SA.v,h]
  |[],_::_,h=>simp at h
  |_::_,[],h=>simp at h
  |[_],_::_::_,h=>simp at h
  |_::_::_,[_],h=>simp at h
theorem OC:∀{x:Ty} {v:x.T} {o:Ob},P8 s x v=some o->(∀(t:Ty) (l:List t.T),o≠.ro t l)/\∀(e:Nat) (cs:List SC),o≠.bl e cs:=by intro x;cases x<;>intro v o h<;>first|(cases h;exact⟨(fun t l e=>by cases e),(fun e cs a=>by cases a)⟩)|cases h
theorem gb{b:Src}(h:b.ow=some s):b=.o' s true\/∃m,b=.k' s m true:=by
 cases b with
 |o' i w=>cases w<;>simp [Src.ow]at h;subst h;exact .inl rfl
 |n'=>simp [Src.ow]at h
 |k' i m w=>cases w<;>simp [Src.ow]at h;subst h;exact .inr ⟨m,rfl⟩
 |z' t=>simp [Src.ow]at h
section
variable {n nc:Nat}{H:List Ob}{ρ cS ρ3:Nat->Ad}{ss:List Src}{rg:List Rg}{Hc Hk:List Ob}{lc lk:List SA}{k:Nat}
theorem PR.app(h:PR n nc H ρ cS ρ3 ss rg Hc Hk lc lk k)(E:ss.length<=nc)(hid:∀(j:Nat) (s:Src) (i:Nat),ss[j]? =some s->s.ow=some i->i<n)(F:H.length=n){a b:List SC×List Ob}(u:LR cS ρ3 a b)(C:a.2.length=b.2.length)
  (q:∀(j:Nat) (t:Ty) (l:List t.T),a.2[j]? ≠some (.ro t l)) (p:∀(j e:Nat) (cs:List SC),b.2[j]? =some (.bl e cs)->∀c∈cs,c.ok (n+(k+b.2.length))):
  PR n nc H ρ cS ρ3 ss rg (Hc++a.2) (Hk++b.2) lc lk (k+b.2.length):=by
 have z:=h.ec;have y:=h.ek;refine⟨by simp [z,C,Bn],by simp [y,Bn],fun i o g d=> ?_,fun j id o f d=> ?_,fun j id m f=> ?_,fun id g B=> ?_,fun id e cs d c w=> ?_,fun id o d=> ?_,h.vl,fun v A=> ?_⟩
 ·by_cases r:i<k
  ·rw [aH aA0]at d⊢;exact h.nw i o r d
  ·rw [aN aA0,z,show nc+i-(nc+k)=i-k by omega]at d;rw [aN aA0,y,show n+i-(n+k)=i-k by omega];exact⟨u.o _ o d,fun t l e=>q _ t l (by rw [d,e])⟩
 ·have D:=(aD.1 f).1;have:=hid j _ id f rfl;rw [aH aA0]at d⊢;exact h.ow j id o f d
 ·have:=hid j _ id f rfl;rw [aH aA0];exact h.ok j id m f
 ·rw [aH aA0];exact h.ot id g B
 ·by_cases g:id<Hk.length
  ·rw [aH g]at d;exact SC.cQ (h.ho id e cs d c w) aA0
  ·rw [aN aA0]at d;exact p _ e cs d c w
 ·have:=(aD.1 d).1;rw [aH aA0];exact h.kp id o d
 ·have:=h.vo v A;cases v with
  |c' x=>exact SC.cQ this aA0
  |a' l=>exact fun x hx=>SC.cQ (this x hx) aA0
theorem PR.eF(h:PR n nc H ρ cS ρ3 ss rg Hc Hk lc lk k)(B:(gL ss).Nodup)(hid:∀(j:Nat) (s:Src) (i:Nat),ss[j]? =some s->s.ow=some i->i<n){j id:Nat}{o o3:Ob}(r:ss[j]? =some (.o' id true))(E:ks cS ρ3 o o3)(y:∀(t:Ty) (l:List t.T),o≠.ro t l)(z:∀A,H[id]? =some A->lJ rg id ρ ρ3 (some o3) A)(I:ss.length<=nc)
  (x:∀(e:Nat) (cs:List SC),o3=.bl e cs->∀c∈cs,c.ok (n+k)):PR n nc H ρ cS ρ3 ss rg (iS Hc j o) (iS Hk id o3) lc lk k:=by
 have G:=h.ec;have F:=h.ek;have J:=hid j _ id r rfl;have D:=(aD.1 r).1;refine⟨by rw [IP,G],by rw [IP,F],fun i p u d=> ?_,fun w a p b d=> ?_,fun w a m b=> ?_,fun a u v=> ?_,fun a e cs d c C=> ?_,fun a p d=> ?_,h.vl,h.vo⟩
 ·rw [wV,aA aA0]at d;rw [wV,aA aA0];exact h.nw i p u d
 ·by_cases q:w=j
  ·subst q;rw [r]at b;cases b;rw [wV,aB ⟨rfl,aA0⟩]at d;cases d;rw [wV,aB ⟨rfl,aA0⟩];exact⟨⟨o3,rfl,E⟩,y⟩
  ·have f:a≠id:=fun e=>q (Kh B b aE9 r rfl);rw [wV,aA (fun g=>q g.1)]at d;rw [wV,aA (fun g=>f g.1)];exact h.ow w a p b d
 ·have f:a≠id:=fun e=>by have:=Kh B b aE9 r rfl;subst this;rw [r]at b;cases b
  rw [wV,aA (fun g=>f g.1)];exact h.ok w a m b
 ·have f:a≠id:=fun e=>v (by rw [e];exact rO r rfl);rw [wV,aA (fun g=>f g.1)];exact h.ot a u v
 ·rw [wV]at d;split at d
  ·cases d;exact x e cs rfl c C
  ·exact h.ho a e cs d c C
 ·rw [wV];split
  ·rename_i g;rw [g.1]at d⊢;exact z p d
  ·exact h.kp a p d
theorem PR.steps(hn:(gL ss).Nodup)(S:ss.length<=nc)(hid:∀(j:Nat) (s:Src) (i:Nat),ss[j]? =some s->s.ow=some i->i<n)(hH:H.length=n)(b6:ss.length=nc)
  (P:∀i,ρ3 (n+i)=cS (nc+i)) (a4:∀(j id:Nat),ss[j]? =some (.o' id true)->ρ3 id=cS j):∀(r:List Rk) (y:(gG r).T) (Hc Hk:List Ob) (lc lk:List SA) (k:Nat),PR n nc H ρ cS ρ3 ss rg Hc Hk lc lk k->Fu H ss r=true->(∀id∈lB ss (Rk.ids r),∀q,q=sO H id->∀j,j<q.2.2->fE id j rg=true)->
  ∃G,PR n nc H ρ cS ρ3 ss rg (fK (fun j=>j) (lc,Hc) r y).2 (fK (uP ss) (lk,Hk) r y).2 (fK (fun j=>j) (lc,Hc) r y).1 (fK (uP ss) (lk,Hk) r y).1 G:=by
 have one:∀(q:Rk) (v:q.ty.T) (Hc Hk:List Ob) (lc lk:List SA) (k:Nat),PR n nc H ρ cS ρ3 ss rg Hc Hk lc lk k->Fu H ss [q]=true->(∀id∈lB ss (Rk.ids [q]),∀q,q=sO H id->∀j,j<q.2.2->fE id j rg=true)->
   ∃G,PR n nc H ρ cS ρ3 ss rg (q.put (fun j=>j) (lc,Hc) v).2 (q.put (uP ss) (lk,Hk) v).2 (q.put (fun j=>j) (lc,Hc) v).1 (q.put (uP ss) (lk,Hk) v).1 G:=by
  intro q v Hc Hk lc lk k h a b;have h1:=h.ec;have z:=h.ek;simp only [Fu]at a;have a:=(iE a).1;cases q with
  |r' x=>
   have a:(bif x.tz then false else x.nb)=true:=a;cases A:x.tz with
   |true=>rw [A]at a;cases a
   |false=>
    rw [A]at a;have a:x.nb=true:=a;have m:=LP x 0 Hc.length 0 Hk.length v cS ρ3 (fun e=>by rw [A]at e;cases e) (fun j _=>by rw [h1,z,Bn,Bn];exact(P _).symm);have g:=h.app S hid hH m ((Ty.eR x 0 Hc.length v).trans (Ty.eR x 0 Hk.length v).symm) (ZH x 0 Hc.length v a) (fun j e cs M=>by have:=cw x 0 Hk.length v j e cs M;rw [z,Bn]at this;rw [z];exact this);refine⟨_,g.ec,g.ek,g.nw,g.ow,g.ok,g.ot,g.ho,g.kp, ?_,fun u I=> ?_⟩
    ·show(lc++[x.sa (x.lay 0 Hc.length v).1]).map _=(lk++[x.sa (x.lay 0 Hk.length v).1]).map _;rw [Yo,Yo,h.vl,jK,jK,mx m.c]
    ·rcases aS.1 (show u∈lk++[x.sa (x.lay 0 Hk.length v).1]from I)with I|I
     ·exact g.vo u I
     ·rw [aE.1 I];have:=Ty.zp (x:=x) (vp x 0 Hk.length v A);rw [<-Bn,<-z];exact this
  |o' j e x=>
   have a:(bif x.nb then(match eX ss j with
    |some (.o' id w)=>bif w then(match eX H id with
     |some (.bl F cs)=>bif cV F e then cV cs.length x.cn else false
     |_=>false)else false
    |_=>false)else false)=true:=a
   have a:=iE a;have X:=a.1;have a:=a.2;split at a
   ·rename_i id w f;have a:=iE a;have W:=a.1;subst W;have a:=a.2;split at a
    ·rename_i F c0 hb;have a:=iE a;rw [gQ]at f hb;have a2:=iL a.1;have a5:=iL a.2;subst a2;have O:=hid j _ id f rfl;have Y:=(aD.1 f).1;have p:uP ss j=id:=by unfold uP;rw [gQ,f]
     have m:=LP x j Hc.length id Hk.length v cS ρ3 (fun _=>by rw [a4 j id f]) (fun j _=>by rw [h1,z,Bn,Bn];exact(P _).symm);have L:∀c∈(x.lay id Hk.length v).1,c.ok (n+(k+(x.lay id Hk.length v).2.length)):=fun c R i a1=>by
      rcases(Ty.Da x id Hk.length v c R).2 i a1 with h3|h3
      ·omega
      ·omega
     have g:=h.app S hid hH m ((Ty.eR x j Hc.length v).trans (Ty.eR x id Hk.length v).symm) (ZH x j Hc.length v X) (fun j e cs M=>by have:=cw x id Hk.length v j e cs M;rw [z,Bn]at this;rw [z];exact this);have K:=g.eF (j:=j) (id:=id) (o:=.bl F (x.lay j Hc.length v).1) (o3:=.bl F (x.lay id Hk.length v).1) hn hid f ⟨_,rfl,m.c,fun j c c2 h z=>ZI h z⟩ (fun t l e=>by cases e) (fun V E=> ?_) S (fun e cs he c R=>by cases he;exact L c R)
     ·refine⟨k+(x.lay id Hk.length v).2.length, ?_⟩;have e1:∀{Z B:List Ob} {i:Nat} {o:Ob},i<Z.length->iS (Z++B) i o=iS Z i o++B:=fun hl=>by rw [oV,oV,L5 _ _ hl]
      rw [e1 aA0,e1 aA0]at K;show PR n nc H ρ cS ρ3 ss rg (iS Hc j (.bl F (x.lay j Hc.length v).1)++(x.lay j Hc.length v).2) (iS Hk (uP ss j) (.bl F (x.lay (uP ss j) Hk.length v).1)++(x.lay (uP ss j) Hk.length v).2) lc lk _;rw [p];exact K
     ·rw [hb]at E;cases E;refine .inr ⟨_,rfl,(Ty.Wh x id Hk.length v).trans a5.symm,fun jj c R=>.inl ?_⟩;have a0:=(aD.1 R).1;refine b id ?_ _ rfl jj ?_
      ·show id∈[uP ss j];rw [p];exact aE.2 rfl
      ·unfold sO;rw [gQ,hb];exact a0
    ·cases a
   ·cases a
  |w' j x=>
   have a:(match eX ss j with
    |some (.o' id w)=>bif w then vH (eX H id)else false
    |_=>false)=true:=a
   split at a
   ·rename_i id w f;have a:=iE a;have W:=a.1;subst W;have d:=a.2;rw [gQ]at f d;have O:=hid j _ id f rfl;have Y:=(aD.1 f).1;have p:uP ss j=id:=by unfold uP;rw [gQ,f]
    have Q:Hc[j]? =some (Hc[j]' aA0):=aM aA0;obtain⟨⟨o3,h3,h4⟩,_⟩:=h.ow j id _ f Q;have N:fV Hk id=fV Hc j:=by rw [nG h3,nG Q,h4.len]
    refine⟨k, ?_⟩;show PR n nc H ρ cS ρ3 ss rg (qF Hc j x v) (qF Hk (uP ss j) x v) lc lk k;rw [p];unfold qF;rw [N];split
    ·rename_i o M;have D:(∀(t:Ty) (l:List t.T),o≠.ro t l)/\ks cS ρ3 o o/\∀(e:Nat) (cs:List SC),o≠.bl e cs:=by
      obtain⟨h5,h6⟩:=OC M;refine⟨h5, ?_,h6⟩;cases o with
      |bl e cs=>exact absurd rfl (h6 e cs)
      |_=>rfl
     refine h.eF hn hid f D.2.1 D.1 (fun V E=> ?_) S (fun e cs he=>absurd he (D.2.2 e cs));have a6:fE id 0 rg=true:=by
      refine b id ?_ _ rfl 0 ?_
      ·show id∈[uP ss j];rw [p];exact aE.2 rfl
      ·unfold sO;rw [gQ,E];rw [E]at d;cases V<;>first|exact Ha|cases d
     rw [E]at d;cases V<;>first|exact .inl a6|cases d
    ·exact h
   ·cases a
 intro r;induction r with
 |nil=>intro y Hc Hk lc lk k h _ _;exact⟨k,h⟩
 |cons q r ih=>
  intro y Hc Hk lc lk k h a b;cases r with
  |nil=>exact one q y Hc Hk lc lk k h a b
  |cons U r=>
   have J:=iE (show(bif _ then Fu H ss (U::r)else false)=true from a);have C:∀id,id∈lB ss (Rk.ids [q])\/id∈lB ss (Rk.ids (U::r))->id∈lB ss (Rk.ids (q::U::r)):=by
    intro id hid;cases q with
    |r' x=>
     rcases hid with hid|hid
     ·cases hid
     ·exact hid
    |o' i e x=>
     rcases hid with hid|hid
     ·exact aP.2 (.inl (aE.1 hid))
     ·exact fB _ hid
    |w' i x=>
     rcases hid with hid|hid
     ·exact aP.2 (.inl (aE.1 hid))
     ·exact fB _ hid
   obtain⟨G,z⟩:=one q y.1 Hc Hk lc lk k h (by have:=J.1;simp only [Fu];rw [this];rfl) (fun id O=>b id (C id (.inl O)));exact ih y.2 _ _ _ _ G z J.2 (fun id O=>b id (C id (.inr O)))
end
open Go.Wk
open Go.Ce (Tr)
open Go.Value renaming ownBlock → Bl, tuple → oI
open List renaming length → aR
theorem map_some{b a:Type}{f:b->a}{l:List b}{j:Nat}{r:a}(h:(l.map f)[j]? =some r):∃x,l[j]? =some x/\f x=r:=by
 rw [bE]at h;cases c:l[j]? with
 |none=>rw [c]at h;cases h
 |some x=>rw [c]at h;exact⟨x,rfl,aJ h⟩
variable {w b:World}{S:List Nat}{L:List cF}{j c:Nat}{r:cF}
theorem YG(p:Hp w S L b){i:Nat}{g:cF}(h:L[j]? =some r)(q:L[c]? =some g)(l:r.own=some i)(a:g.own=some i):j=c:=by
 obtain⟨d,n⟩:=aD.1 h;obtain⟨t,m⟩:=aD.1 q;have k:=eU.1 p.sep;rcases Nat.lt_trichotomy j c with e|o|f
 ·exact absurd (by rw [m];exact a) (k j c d t e i (by rw [n];exact l))
 ·exact o
 ·exact absurd (by rw [n];exact l) (k c j t d f i (by rw [m];exact a))
variable {a u:Nat->Ad}{H:List Ob}{s:Src}{o:Ob}
theorem fx(h:SJ true a H u s o)(b:∀(t:Ty) (l:List t.T),o≠.ro t l):SJ false a H u s o:=by
 cases o with
 |ro t l=>exact absurd rfl (b t l)
 |_=>exact h
theorem Zo(c:IV a H)(d:IX H)(h:SJ true a H u s o):o.len=(s.ad a).ln:=by
 cases o with
 |ro t l=>
  rcases h with⟨id,rfl,f⟩|⟨rfl,rfl⟩|⟨_,id,m,e,cs,rfl,f,b⟩
  ·obtain⟨ob,b,g⟩:=Tn (fun m x hx=>d id m x hx) (show vJ t H[id]? =some l from f);have:=c id ob b;show l.length=(a id).ln;rw [<-g];exact this
  ·rfl
  ·exact(N3 b).1
 |_=>exact JZ c d (fx h (fun t l e=>by cases e))
theorem nh{S1:List Nat}(h:RO w S a j o r)(ρ:∀(t:Ty) (l:List t.T),o≠.ro t l):RO b S1 a j o r:=by
 cases o with
 |ro t l=>exact absurd rfl (ρ t l)
 |_=>exact h
theorem R7{S1:List Nat}(q:Hp w S L b)(F:Mt w S a H L)(X:∀k∈S1,w.heap.size<=k\/k∈S)(G:∀id∈s.vj,∀(r:cF) (k:Nat),L[id]? =some r->r.own=some k->k∉S1)(h:SJ true a H u s o)(a0:u j=s.ad a):
  ∃r,RO b S1 u j o r/\r.holds b/\∀k,r.own=some k->∃i R,s.ow=some i/\L[i]? =some R/\R.own=some k:=by
 cases o with
 |ro t l=>
  refine⟨eG,⟨rfl, ?_⟩,trivial,fun k z=>by cases z⟩;rw [a0];rcases h with⟨id,rfl,c⟩|⟨rfl,rfl⟩|⟨_,id,m,e,cs,rfl,c,M⟩
  ·have c:vJ t H[id]? =some l:=c;have G:=G id (by simp [Src.vj]);show Xz b S1 (a id) t l;unfold vJ at c;split at c
   ·rename_i e k t2 n z;split at c
    ·rename_i x;obtain rfl:=Ty.kE x;cases c;obtain⟨_,r,d,y⟩:=F.2 id _ z;have y:r=aW t2.enc e t2.sz (a id).o (a id).a (a id).cap n:=y;subst y;refine⟨q.iO id d,fun f p ρ=> ?_,q.Et id d⟩;have O:n≠[]:=fun e=>by rw [e]at f;exact f rfl
     obtain⟨B,_⟩:=q.res _ (aI d);rcases B with⟨_,A,_⟩|⟨g,Q,T,A,_⟩
     ·exact absurd A O
     ·rw [ρ]at A;cases A;exact G _ _ d T
    ·cases c
   ·rename_i t2 n z;split at c
    ·rename_i x;obtain rfl:=Ty.kE x;cases c;obtain⟨_,r,d,_,D,f,E⟩:=F.2 id _ z;refine⟨D.M6 q f,fun J p ρ P=> ?_,E⟩;have N:=f J p ρ;rcases X _ P with C|C
     ·obtain⟨v,V⟩:∃v,(n.flatMap t2.enc)[0]? =some v:=by
       cases x:n.flatMap t2.enc with
       |nil=>exact absurd x J
       |cons v U=>exact⟨v,rfl⟩
      obtain⟨Y,K,I⟩:=D 0 v V;rw [ρ]at K;cases K;have:=Aj I;rw [vm]at this;omega
     ·exact N C
    ·cases c
   ·rename_i m n z;unfold strOf at c;split at c
    ·rename_i x;obtain rfl:=Ty.kE x;cases c;obtain⟨_,r,d,y⟩:=F.2 id _ z;have y:r=fL (.slice (a id).a m (a id).cap) m n:=y;subst y;obtain⟨⟨I,g,cap,Q,e,Z,B,T,A,_⟩,_⟩:=q.res _ (aI d);simp only [Value.slice.injEq]at B;refine⟨Rd.jN (q.kB id d),fun J p ρ=> ?_, ?_⟩
     ·rw [B.1]at ρ;cases ρ;exact G _ g d (by simp [fL,Bl,B.1])
     ·show n.length<=(a id).cap;rw [I,B.2.2];exact A
    ·cases c
   ·cases c
  ·exact⟨Rd.nil _ _,fun h=>absurd rfl h,dL _⟩
  ·obtain⟨_,r,d,U,rfl,W⟩:=F.2 id _ c;obtain⟨C,_,K⟩:=N3 M;have I:=W.all (rE M);refine⟨?_,fun J p ρ=> ?_,by rw [C];exact eV _⟩
   ·rw [<-K a,<-I];exact q.pT id d
   ·cases ρ;exact G id (by simp [Src.vj]) _ _ d rfl
 |_=>obtain⟨r,c,M,C⟩:=WH q F (fx h (fun t l e=>by cases e)) a0;exact⟨r,nh c (fun t l e=>by cases e),M,C⟩
theorem xZ(h:SJ true a H u s o)(d:s.ow=some j):
  (s=.o' j true/\((∃e cs ρ,o=.bl e cs/\H[j]? =some (.bl e ρ)/\ρ.map (SC.v a)=cs.map (SC.v u)/\(∀c∈ρ,c.kn=true)/\∀c∈cs,c.kn=true)\/(∃e b t l,o=.rw e b t l/\H[j]? =some (.rw e b t l))\/∃n l m,o=.br n l/\n=aR l/\H[j]? =some (.br m l)))\/
  ∃m e b t l cs,s=.k' j m true/\o=.rw e b t l/\H[j]? =some (.bl e cs):=by
 cases o with
 |bl e cs=>obtain⟨i,ρ,rfl,f⟩:=h;cases d;exact .inl ⟨rfl,.inl ⟨e,cs,ρ,rfl,f⟩⟩
 |rw e b t l=>
  rcases h with⟨i,rfl,f⟩|⟨rfl,_⟩|⟨i,m,cs,rfl,f,_⟩
  ·cases d;exact .inl ⟨rfl,.inr (.inl ⟨e,b,t,l,rfl,f⟩)⟩
  ·cases d
  ·cases d;exact .inr ⟨m,e,b,t,l,cs,rfl,rfl,f⟩
 |ro t l=>rcases h with⟨i,rfl,_⟩|⟨rfl,_⟩|⟨_,i,m,e,cs,rfl,_⟩<;>cases d
 |br n l=>obtain⟨f,i,m,rfl,g⟩:=h;cases d;exact .inl ⟨rfl,.inr (.inr ⟨n,l,m,rfl,f,g⟩)⟩
 |dd n=>rcases h with⟨_,⟨t,rfl⟩|⟨k,rfl,_⟩⟩<;>cases d
theorem D9{S0:List Nat}{o3:Ob}(h:ks a u o o3)(f:u c=a j)(C:∀(t:Ty) (l:List t.T),o≠.ro t l)(E:RO w S a j o r):RO b S0 u c o3 r:=by
 cases o with
 |bl e cs=>
  obtain⟨m,rfl,q,A⟩:=h;obtain⟨s,rfl,z,y⟩:=E;have x:aR cs=aR m:=by simpa using bD aR q
  refine⟨s,by rw [f],by rw [z,x],fun i B g d=> ?_⟩;have v:=(aD.1 g).1;have k:cs[i]? =some (cs[i]' aA0):=aM aA0;rw [y i _ k (by rw [A i _ B k g];exact d)];have p:=bD (fun l=>l[i]?) q;simp only [bE,k,g,Yp]at p;exact p
 |rw e D t l=>have h:o3=Ob.rw e D t l:=h;subst h;show r=_;rw [f];exact E
 |ro t l=>exact absurd rfl (C t l)
 |br n l=>have h:o3=Ob.br n l:=h;subst h;show r=_;rw [f];exact E
 |dd n=>have h:o3=Ob.dd n:=h;subst h;trivial
theorem H7{ss:List Src}(h:ss[j]? =some s)(b:c∈s.vj):c∈H8 ss:=by
 induction ss generalizing j with
 |nil=>simp at h
 |cons x ss a=>
  show c∈x.vj++H8 ss;cases j with
  |zero=>have e:x=s:=aA9;subst e;exact Bp _ b
  |succ j=>exact SO _ (a aA9)
def rOf(L:List cF):Option Nat->cF
 |some id=>(L[id]?).getD eG
 |none=>eG
variable {l:List SA}
theorem WY{b:List SA}{v:Value}(h:l.map (SA.v a)=b.map (SA.v u))(c:(mW l).v a=some v):(mW b).v u=some v:=by
 match l,b,h with
 |[],[],_=>exact c
 |[x],[y],h=>have h:x.v a=y.v u:=aA9;show y.sv.v u=some v;rw [SA.R4,<-h,<-SA.R4];exact c
 |x::y::l,ρ::z::b,h=>show some (oI ((ρ::z::b).map (SA.v u)).toArray)=some v;rw [<-h];exact c
 |[],_::_,h=>simp at h
 |_::_,[],h=>simp at h
 |[_],_::_::_,h=>simp at h
 |_::_::_,[_],h=>simp at h
theorem T1(h:∀v∈l,v.ok j):(mW l).ok j:=by
 match l,h with
 |[],_=>exact fun x hx=>by cases hx
 |[x],h=>exact SA.Er (h x fQ)
 |x::y::l,h=>exact fun z a=>h z a
section
variable {C:Cx}{md:Md}{w0 w:World}{S0:List Nat}{ρ:Nat->Ad}{S:St}{F:Nat->Value}{GS:If}
theorem qu{L:List cF}{S1:List Nat}(d:Gw GS w0 S0)(c:Hp w0 S0 L w)(a:∀b∈S1,w0.heap.size<=b\/b∈S0):Gw GS w S1:=GS.st c d a
theorem bu(hS:Rel C w0 S0 ρ S F w)(hG:Gw GS w0 S0){c:Gt}{k:Nat}(hF:IW C.P GS k c){vs:List SV}{a:(gK c.a).T}{ss:List Src}{y:(gG c.r).T}(h:KS S.H c.a vs=some (a,ss))(V:mM c S a ss=true)(hy:(c.f a).ok y):
  ∃us,vs.map (SV.v ρ)=us.map some/\CR C.P k us w fun v w2=>∃ρ3,∀d:Option Nat,Rel C w0 S0 ρ3 (kQ c S d a ss y) (match d with
   |some d=>eF F d v
   |none=>F) w2/\Nx S ρ (kQ c S d a ss y) ρ3:=by
 obtain⟨L,hH,hM⟩:=hS.mem;have iN:=yH hS;have d3:=yI hS;unfold mM at V;have V:=iE V;have c0:=nE.1 V.1;have V:=iE V.2;have i2:=sJ.1 V.1;have V:=iE V.2;have g1:=V.1;have g5:=V.2;obtain⟨K,h1,h2,h3,h4,h5⟩:=XF d3 c.a vs a ss [] h;rw [mQ]at h1
 let b4:Nat->Ad:=fun j=>match ss[j]? with
  |some s=>s.ad ρ
  |none=>⟨none,none,0,false,0⟩
 have b1:∀(j:Nat) (s:Src),ss[j]? =some s->b4 j=s.ad ρ:=fun j s p=>by simp only [b4,p]
 obtain⟨⟨us,h6,h7⟩,h8⟩:=h5 ρ b4 (fun j s p=>by rw [eO,Gz];exact b1 j s p);refine⟨us,h6, ?_⟩;have l0:=hM.1;let L1:List cF:=ss.map fun s=>rOf L s.ow;let Lr:List cF:=(List.range S.H.length).map fun id=>bif lS id (gL ss)then eG else(L[id]?).getD eG;have l9:L1.length=aR ss:=by simp [L1]
 have n2:Lr.length=S.H.length:=by simp [Lr]
 have d5:∀(j:Nat) (r:cF) (b:Nat),L1[j]? =some r->r.own=some b->∃s id W,ss[j]? =some s/\s.ow=some id/\L[id]? =some W/\W.own=some b/\r=W:=by
  intro j r b p O;obtain⟨s,E,A⟩:=map_some p;subst A;cases M:s.ow with
  |none=>rw [M]at O;cases O
  |some id=>
   cases hl:L[id]? with
   |none=>
    have e:rOf L s.ow=eG:=by rw [M];show(L[id]?).getD eG=_;rw [hl];rfl
    rw [e]at O;cases O
   |some W=>
    have e:rOf L (some id)=W:=by show(L[id]?).getD eG=_;rw [hl];rfl
    rw [M]at O;exact⟨s,id,W,E,M,hl,by rw [<-e];exact O,e⟩
 have e6:Hp w0 S0 (L1++Lr) w:=by
  refine Go.Oe.Hp.pick (ss.map Src.ow++(List.range S.H.length).map fun id=>bif lS id (gL ss)then none else some id) hH (fun j r p=> ?_) (fun j k i p hk=> ?_)
  ·by_cases G:j<aR ss
   ·rw [aH aA0]at p;refine⟨?_,fun b O=> ?_⟩
    ·obtain⟨s,E,A⟩:=map_some p;subst A;cases M:s.ow with
     |none=>trivial
     |some id=>
      show cF.holds ((L[id]?).getD eG) w;cases hl:L[id]? with
      |none=>trivial
      |some W=>exact(hH.res _ (aI hl)).1
    ·obtain⟨s,id,W,E,A,J,D,rfl⟩:=d5 j r b p O;refine⟨id,r, ?_,J,D⟩;rw [aH aF1,bE,E];exact bD some A
   ·rw [aN aA0,l9]at p;have p:((List.range S.H.length).map _)[j-aR ss]? =some r:=p;rw [bE]at p;by_cases X:j-aR ss<S.H.length
    ·rw [cZ X]at p;have p:(bif lS (j-aR ss) (gL ss)then eG else(L[j-aR ss]?).getD eG)=r:=aJ p;have e8:L[j-aR ss]? =some (L[j-aR ss]' aA0):=aM aA0;cases hm:lS (j-aR ss) (gL ss)with
     |true=>rw [hm]at p;rw [<-p];exact⟨trivial,fun b O=>by cases O⟩
     |false=>rw [hm,e8]at p;have p:L[j-aR ss]=r:=p;rw [<-p];refine⟨(hH.res _ (aI e8)).1,fun b O=>⟨j-aR ss,_, ?_,e8,O⟩⟩;rw [aN aA5,Hb,bE,cZ X];simp only [Yp,hm,aG]
    ·rw [bL (by simpa using lV X)]at p;cases p
  ·have key:∀j,(ss.map Src.ow++(List.range S.H.length).map fun id=>bif lS id (gL ss)then none else some id)[j]? =some (some i)->(j<aR ss/\∃s,ss[j]? =some s/\s.ow=some i)\/(aR ss<=j/\j-aR ss=i/\i∉gL ss):=by
    intro j p;by_cases G:j<aR ss
    ·rw [aH aF1,bE]at p;cases R:ss[j]? with
     |none=>rw [R]at p;cases p
     |some s=>rw [R]at p;exact .inl ⟨G,s,rfl,aJ p⟩
    ·rw [aN (by simpa using lV G),Hb,bE]at p;by_cases X:j-aR ss<S.H.length
     ·rw [cZ X]at p;have p:(bif lS (j-aR ss) (gL ss)then none else some (j-aR ss))=some i:=aJ p;cases hm:lS (j-aR ss) (gL ss)with
      |true=>rw [hm]at p;cases p
      |false=>rw [hm]at p;have p:j-aR ss=i:=aJ p;refine .inr ⟨aA0,p,fun hc=> ?_⟩;rw [<-p]at hc;rw [To.2 hc]at hm;cases hm
     ·rw [bL (by simpa using lV X)]at p;cases p
   rcases key j p with⟨E,s,A,J⟩|⟨E,A,J⟩<;>rcases key k hk with⟨D,s2,I,N⟩|⟨D,I,N⟩
   ·exact Kh c0 A J I N
   ·exact absurd (rO A J) N
   ·exact absurd (rO I N) J
   ·omega
 have hX:∀b∈dC L1,w0.heap.size<=b\/b∈S0:=by intro b O;obtain⟨r,hr,e⟩:=nF O;exact((e6.res r (aS.2 (.inl hr))).2 b e).2
 have hB:∀id∈H8 ss,∀(r:cF) (b:Nat),L[id]? =some r->r.own=some b->b∉dC L1:=by intro id hid r b hr O hm;obtain⟨r2,k4,e⟩:=nF hm;obtain⟨j,p⟩:=kK.1 k4;obtain⟨s,m6,W,E,A,J,D,_⟩:=d5 j r2 b p e;have:=YG hH hr J O D;subst this;exact i2 id hid (rO E A)
 have i3:=e6.hand;have a9:uR c a=K:=h1;have hp:∀j,j<aR K->∃r,(∀o,K[j]? =some o->RO w (dC L1) b4 j o r)/\r.holds w/\∀b,r.own=some b->∃W,L1[j]? =some W/\W.own=some b:=by intro j p;have M:=aM p;have R:ss[j]? =some (ss[j]' aA0):=aM aA0;obtain⟨r,E,A,J⟩:=R7 (S1:=dC L1) hH hM hX (fun id hid=>hB id (H7 R hid)) (h8 j _ _ R M) (b1 j _ R);refine⟨r,fun o D=>by rw [M]at D;cases D;exact E,A,fun b O=> ?_⟩;obtain⟨i,W,D,I,N⟩:=J b O;refine⟨W, ?_,N⟩;show(ss.map _)[j]? =_;rw [bE,R,Yp,D];show some ((L[i]?).getD eG)=_;rw [I];rfl
 obtain⟨Lc,l1,g2⟩:=Ht K.length hp;have k7:Hp w (dC L1) Lc w:=by
  refine Go.Oe.Hp.pick ((List.range K.length).map some) i3 (fun j r p=> ?_) (fun j k i p hk=> ?_)
  ·obtain⟨_,E,A⟩:=g2 j r p;refine⟨E,fun b O=> ?_⟩;obtain⟨W,J,D⟩:=A b O;have G:=(aD.1 p).1;exact⟨j,W,by rw [bE,cZ aA0];rfl,J,D⟩
  ·have key:∀j,((List.range K.length).map some)[j]? =some (some i)->j=i:=by
    intro j p;rw [bE]at p;by_cases G:j<aR K
    ·rw [cZ G]at p;simpa using p
    ·rw [bL (by simpa using lV G)]at p;cases p
   rw [key j p,key k hk]
 have k8:Mt w (dC L1) b4 (uR c a) Lc:=by rw [a9];refine⟨l1,fun j o M=> ?_⟩;have G:=(aD.1 M).1;have R:ss[j]? =some (ss[j]' aA0):=aM aA0;have hl:Lc[j]? =some (Lc[j]' aA0):=aM aA0;refine⟨?_,_,hl,(g2 j _ hl).1 o M⟩;rw [b1 j _ R];exact Zo iN d3 (h8 j _ _ R M)
 refine(hF w (dC L1) b4 Lc us a y (qu hG hH hX) k7 k8 h7 hy).mono fun v w2=> ?_;rintro⟨b8,L2,f9,e5,d1,hv⟩;have c4:=e6.eK e5;have g7:aR ss=aR K:=h2.symm;let ρ3:Nat->Ad:=fun id=>if id<S.H.length then ρ id else b8 (aR K+(id-S.H.length));have Q:Up S.H.length ρ ρ3:=fun id hi=>by simp only [ρ3,hi,fM]
 have l3:∀i,ρ3 (S.H.length+i)=b8 (aR K+i):=fun i=>by have e1:¬S.H.length+i<S.H.length:=aA0;have e2:S.H.length+i-S.H.length=i:=aA0;simp only [ρ3,e1,cX,e2]
 have b2:∀(j:Nat) (s:Src) (i:Nat),ss[j]? =some s->s.ow=some i->i<S.H.length:=by intro j s i p hi;have a6:=(aD.1 p).1;have a5:=h8 j s _ p (aM aA0);rcases xZ a5 hi with⟨_,⟨e,cs,d4,_,E,_⟩|⟨e,b,t,l,_,E⟩|⟨n,l,m,_,_,E⟩⟩|⟨m,e,b,t,l,cs,_,_,E⟩<;>exact(aD.1 E).1
 have d2:∀(j id:Nat),ss[j]? =some (.o' id true)->ρ3 id=b8 j:=by intro j id p;have a6:=(aD.1 p).1;have hi:=b2 j _ id p rfl;rw [Q id hi,f9 j (by rw [a9];omega),b1 j _ p];rfl
 let EC:=Ge (Rk.ids c.r) (uR c a) 0;let EK:=Xl (Rk.ids c.r) (jE [] c.a a).2 0 ss;have i5:EK=Xl (Rk.ids c.r) K 0 ss:=by show Xl _ (uR c a) 0 ss=_;rw [a9]
 have i6:EC=Ge (Rk.ids c.r) K 0:=by show Ge _ (uR c a) 0=_;rw [a9]
 have b0:∀(j id:Nat) (s:Src),ss[j]? =some s->s.ow=some id->(id∈EK↔j∈EC):=by
  intro j id s p R;have a6:=(aD.1 p).1;rw [i5,i6,Du,Aa];constructor
  ·rintro⟨j2,o,s2,_,E,A,J,D,I⟩
   rw [fN]at E A;have c9:s2.ow=some id:=by
    rw [wF]at I;cases M:s2.ow with
    |none=>rw [M]at I;simp at I
    |some i=>rw [M]at I;simp at I;rw [I]
   have:=Kh c0 p R A c9;subst this;exact⟨o,dL _,by rw [fN];exact E,J,D⟩
  ·rintro⟨o,_,E,A,J⟩;rw [fN]at E;exact⟨j,o,s,dL _,by rw [fN];exact E,by rw [fN];exact p,A,J,by rw [wF,R];simp⟩
 let rg:List Rg:=jS c S a ss;have c7:∀{id j:Nat},fE id j (No S.H EK)=true->fE id j rg=true:=fun h=>Fk.2 (.inl h)
 have a3:∀id,id∈EK->(vH S.H[id]? =true\/∃e cs,S.H[id]? =some (.bl e cs))/\id∈gL ss:=by
  intro id hid;rw [i5,Du]at hid;obtain⟨j,o,s,_,E,A,J,D,I⟩:=hid;rw [fN]at E A;have c9:s.ow=some id:=by
   rw [wF]at I;cases M:s.ow with
   |none=>rw [M]at I;simp at I
   |some i=>rw [M]at I;simp at I;rw [I]
  refine⟨?_,rO A c9⟩;rcases xZ (h8 j s o A E) c9 with⟨_,⟨e,cs,d4,rfl,_⟩|⟨e,b,t,l,_,N⟩|⟨n,l,m,_,_,N⟩⟩|⟨m,e,b,t,l,cs,_,_,N⟩
  ·cases J
  ·left;rw [N];rfl
  ·left;rw [N];rfl
  ·exact .inr ⟨_,_,N⟩
 have h0:PR S.H.length K.length S.H ρ b8 ρ3 ss rg (kill (uR c a) EC) (kill S.H EK) [] [] 0:=by
  refine⟨by rw [tq,a9];rfl,by rw [tq];rfl,fun i o hi=>by omega,fun j id o p M=> ?_,fun j id m p=> ?_,fun id hi hn=> ?_,fun id e cs M cc hc=> ?_,fun id o M=> ?_,rfl,fun v hv=>by cases hv⟩
  ·have a6:=(aD.1 p).1;have hi:=b2 j _ id p rfl;have Y:K[j]? =some (K[j]' aA0):=aM aA0;have a5:=h8 j _ _ p Y;have hid:=aM hi;have g8:S.H[id].len=(K[j]' aA0).len:=by rw [iN id _ hid,Zo iN d3 a5];rfl
   rw [NL,a9,Y]at M;rw [NL,hid];by_cases hE:j∈EC
   ·rw [aB hE]at M;rw [aB ((b0 j id _ p rfl).2 hE)];cases M;refine⟨⟨_,rfl, ?_⟩,fun t l e=>by cases e⟩;show Ob.dd _=Ob.dd _;rw [g8]
   ·rw [aA hE]at M;rw [aA (fun hh=>hE ((b0 j id _ p rfl).1 hh))];have M:=aJ M;rw [M]at a5 Y;rcases xZ a5 rfl with⟨_,⟨e,cs,d4,rfl,E,A,J,D⟩|⟨e,b,t,l,rfl,E⟩|⟨n,l,m,rfl,E,A⟩⟩|⟨m,e,b,t,l,cs,he,_⟩
    ·refine⟨⟨_,rfl,d4,by rw [hid]at E;exact aJ E, ?_,fun jj c1 c2 I N=>by rw [D c1 (aI I),J c2 (aI N)]⟩,fun t l e=>by cases e⟩;rw [Uy Q (fun x hx=>hS.ho id e d4 E x hx),A];refine Uy f9 fun x hx=> ?_;have:=h4 j e cs Y x hx;rw [a9];simpa using this
    ·refine⟨⟨_,rfl, ?_⟩,fun t l e=>by cases e⟩;rw [hid]at E;exact aJ E
    ·refine⟨⟨_,rfl, ?_⟩,fun t l e=>by cases e⟩;have J:=d3 id m l A;rw [hid]at A;show S.H[id]=Ob.br n l;rw [aJ A,E,J]
    ·cases he
  ·have a6:=(aD.1 p).1;have hi:=b2 j _ id p rfl;have Y:K[j]? =some (K[j]' aA0):=aM aA0;have a5:=h8 j _ _ p Y;obtain⟨g0,e0,o5,l5⟩:vH (some (K[j]' aA0))=true/\∃e cs,S.H[id]? =some (.bl e cs):=by
    rcases xZ a5 rfl with⟨he,_⟩|⟨m,e,b,t,l,cs,_,he,E⟩
    ·cases he
    ·rw [he];exact⟨rfl,e,cs,E⟩
   have g4:j∉Rk.ids c.r:=by
    intro hm;have key:∀r:List Rk,Fu S.H ss r=true->j∈Rk.ids r->False:=by
     intro r;induction r with
     |nil=>intro _ h;cases h
     |cons q r ih=>
      intro hq a7;have hq:=iE (show(bif _ then Fu S.H ss r else false)=true from hq);cases q with
      |r' x=>exact ih hq.2 a7
      |o' i e x=>
       rcases aP.1 (show j∈i::Rk.ids r from a7)with rfl|a7
       ·have E:=(iE hq.1).2;rw [gQ,p]at E;cases E
       ·exact ih hq.2 a7
      |w' i x=>
       rcases aP.1 (show j∈i::Rk.ids r from a7)with rfl|a7
       ·have E:=hq.1;simp only [gQ,p]at E;cases E
       ·exact ih hq.2 a7
    exact key c.r g1 hm
   have hE:j∈EC:=by rw [i6,Aa];exact⟨_,dL _,by rw [fN];exact Y,g0,g4⟩
   rw [NL,aB ((b0 j id _ p rfl).2 hE),l5];rfl
  ·rw [NL,aA (fun hE=>hn (a3 id hE).2)]
  ·rw [NL]at M;split at M
   ·cases hg:S.H[id]? with
    |none=>rw [hg]at M;cases M
    |some o=>rw [hg]at M;cases M
   ·exact hS.ho id e cs M cc hc
  ·rw [NL];by_cases hE:id∈EK
   ·rw [aB hE,M];have:=(a3 id hE).1;cases o with
    |bl e cs=>exact .inl fun j p=>c7 (Il M hE p)
    |rw e b t l=>exact .inl (c7 (vy hE))
    |br m l=>exact .inl (c7 (vy hE))
    |ro t l=>rcases this with E|⟨_,_,E⟩<;>rw [M]at E<;>cases E
    |dd n=>rcases this with E|⟨_,_,E⟩<;>rw [M]at E<;>cases E
   ·rw [aA hE,M];cases o with
    |bl e cs=>exact .inr ⟨cs,rfl,rfl,fun j cc p=>.inr ⟨cc,p,fun hk=>⟨hk,SC.up Q (hS.ho id e cs M cc (aI p))⟩⟩⟩
    |rw e b t l=>exact .inr rfl
    |br m l=>exact .inr rfl
    |ro t l=>rfl
    |dd n=>rfl
 obtain⟨k2,hP⟩:=PR.steps c0 aA0 b2 rfl g7 l3 d2 c.r y _ _ [] [] 0 h0 g1 (fun id hid q hq j p=>by
  subst hq;refine Fk.2 (.inr ?_);have key:∀l:List Nat,id∈l->fE id j (Xf S.H l)=true:=by
   intro l;induction l with
   |nil=>intro h;cases h
   |cons x l ih=>
    intro h;rcases aP.1 h with rfl|h
    ·exact vL.2 ⟨_,fQ,rfl,dL _,p⟩
    ·obtain⟨q,E,A⟩:=vL.1 (ih h);exact vL.2 ⟨q,fB _ E,A⟩
  exact key _ hid)
 let U:=(fK (uP ss) ([],kill S.H EK) c.r y).2;let Hc:=(yD c a y).2;have m0:Hc.length=aR K+k2:=hP.ec;have i4:U.length=S.H.length+k2:=hP.ek;have n3:L2.length=aR K+k2:=by rw [d1.1];exact m0
 let b9:Nat->Option Nat:=fun id=>(List.range ss.length).find? fun j=>decide ((ss[j]?).bind Src.ow=some id)
 have d7:∀id j,b9 id=some j->∃s,ss[j]? =some s/\s.ow=some id:=by
  intro id j p;have:=List.find?_some p;have E:(ss[j]?).bind Src.ow=some id:=cA this;cases R:ss[j]? with
  |none=>rw [R]at E;cases E
  |some s=>rw [R]at E;exact⟨s,rfl,E⟩
 have i1:∀id,b9 id=none->id∉gL ss:=by
  intro id p hm;have key:∀l:List Src,id∈gL l->∃(j:Nat) (s:Src),l[j]? =some s/\s.ow=some id:=by
   intro l;induction l with
   |nil=>intro h;cases h
   |cons x l ih=>
    intro h;rcases aS.1 (show id∈x.own++gL l from h)with h|h
    ·refine⟨0,x,rfl, ?_⟩;rw [wF]at h;cases M:x.ow with
     |none=>rw [M]at h;simp at h
     |some i=>rw [M]at h;simp at h;rw [h]
    ·obtain⟨j,s,h1,h2⟩:=ih h;exact⟨j+1,s,by simpa using h1,h2⟩
  obtain⟨j,s,E,A⟩:=key ss hm;have G:=(aD.1 E).1;have:=List.find?_eq_none.1 p j aF1;rw [E]at this;simp [A]at this
 let src:Nat->Option Nat:=fun id=>if id<S.H.length then(match b9 id with
  |some j=>(match U[id]? with
   |some o=>bif CN o then none else some j
   |none=>none)
  |none=>some (L2.length+id))else some (aR K+(id-S.H.length))
 have k6:∀id,id<U.length->∃r,(∀o,U[id]? =some o->o.len=(ρ3 id).ln/\RO w0 S0 ρ3 id o r)/\r.holds w2/\∀b,r.own=some b->∃i W,src id=some i/\(L2++Lr)[i]? =some W/\W.own=some b:=by
  intro id hid;have M:=aM hid;by_cases G:id<S.H.length
  ·cases p:b9 id with
   |some j=>
    obtain⟨s,E,A⟩:=d7 id j p;have a6:=(aD.1 E).1;cases hd:CN U[id]with
    |true=>
     refine⟨eG,fun o J=>⟨?_, ?_⟩,trivial,fun b O=>by cases O⟩
     ·rw [M]at J;cases J;rcases gb A with rfl|⟨m,rfl⟩
      ·have a1:Hc[j]? =some (Hc[j]' aA0):=aM aA0;obtain⟨⟨o3,D,I⟩,_⟩:=hP.ow j id _ E a1;have D:U[id]? =some o3:=D;rw [M]at D;have D:=aJ D;rw [D,I.len,d1.lns j _ a1,d2 j id E]
      ·have D:U[id]? =some (.dd 0):=hP.ok j id m E;have Y:K[j]? =some (K[j]' aA0):=aM aA0;rcases xZ (h8 j _ _ E Y) rfl with⟨he,_⟩|⟨m,e,b,t,l,cs,_,_,I⟩
       ·cases he
       ·rw [M]at D;rw [aJ D,Q id G];have N:=iN id _ I;exact N
     ·rw [M]at J;cases J;cases hx:U[id]<;>rw [hx]at hd<;>first|trivial|cases hd
    |false=>
     rcases gb A with rfl|⟨m,rfl⟩
     ·have a1:Hc[j]? =some (Hc[j]' aA0):=aM aA0;obtain⟨⟨o3,D,I⟩,e7⟩:=hP.ow j id _ E a1;have D:U[id]? =some o3:=D;obtain⟨N,r,Z,c6⟩:=d1.2 j _ a1;have he:U[id]=o3:=by rw [M]at D;exact aJ D
      refine⟨r,fun o a2=> ?_, ?_,fun b O=>⟨j,r, ?_, ?_,O⟩⟩
      ·rw [D]at a2;cases a2;exact⟨by rw [I.len,N,d2 j id E],D9 I (d2 j id E) e7 c6⟩
      ·exact(e5.res r (aI Z)).1
      ·simp only [src,G,fM,p,M,hd,aG]
      ·rw [aH (aD.1 Z).1];exact Z
     ·have J:U[id]? =some (.dd 0):=hP.ok j id m E;rw [M]at J;rw [aJ J]at hd;cases hd
   |none=>
    have g6:=i1 id p;have e4:U[id]? =S.H[id]? :=hP.ot id G g6;obtain⟨N,r,Z,c6⟩:=hM.2 id _ (aM G);have k9:Lr[id]? =some r:=by
     show((List.range S.H.length).map _)[id]? =_
     rw [bE,cZ G];have hm:lS id (gL ss)=false:=by
      cases hm:lS id (gL ss)with
      |false=>rfl
      |true=>exact absurd (To.1 hm) g6
     simp only [Yp,hm,aG,Z,lU]
    have d6:(L2++Lr)[L2.length+id]? =some r:=by rw [aN aA0,vd];exact k9
    refine⟨r,fun o a2=> ?_,(c4.res r (aI d6)).1,fun b O=>⟨L2.length+id,r, ?_,d6,O⟩⟩
    ·rw [e4,aM G]at a2;cases a2;exact⟨by rw [Q id G];exact N,c6.up Q G fun e cs he=>hS.ho id e cs (by rw [aM G,he])⟩
    ·simp only [src,G,fM,p]
  ·have hi:id-S.H.length<k2:=by omega
   have a1:Hc[aR K+(id-S.H.length)]? =some (Hc[aR K+(id-S.H.length)]' aA0):=aM aA0;obtain⟨⟨o3,D,I⟩,e7⟩:=hP.nw (id-S.H.length) _ hi a1;have D:U[S.H.length+(id-S.H.length)]? =some o3:=D;rw [show S.H.length+(id-S.H.length)=id by omega]at D;have f7:ρ3 id=b8 (aR K+(id-S.H.length)):=by simp only [ρ3,G,cX]
   obtain⟨N,r,Z,c6⟩:=d1.2 _ _ a1;refine⟨r,fun o a2=> ?_,(e5.res r (aI Z)).1,fun b O=>⟨aR K+(id-S.H.length),r, ?_, ?_,O⟩⟩
   ·rw [D]at a2;cases a2;exact⟨by rw [I.len,N,f7],D9 I f7 e7 c6⟩
   ·simp only [src,G,cX]
   ·rw [aH (aD.1 Z).1];exact Z
 obtain⟨L3,l2,g3⟩:=Ht U.length k6;have m1:Hp w0 S0 L3 w2:=by
  refine Go.Oe.Hp.pick ((List.range U.length).map src) c4 (fun id r p=> ?_) (fun x z i hx hz=> ?_)
  ·obtain⟨_,E,A⟩:=g3 id r p;refine⟨E,fun b O=> ?_⟩;obtain⟨i,W,J,D⟩:=A b O;have G:=(aD.1 p).1;exact⟨i,W,by rw [bE,cZ aA0];exact bD some J,D⟩
  ·have key:∀x,((List.range U.length).map src)[x]? =some (some i)->x<U.length/\src x=some i:=by intro x hx;obtain⟨q,E,A⟩:=map_some hx;have G:=(aD.1 E).1;rw [List.length_range]at G;rw [cZ G]at E;have e:=aJ E;subst e;exact⟨G,A⟩
   have cl:∀x,x<U.length->src x=some i->(∃s:Src,i<aR ss/\ss[i]? =some s/\s.ow=some x)\/i=L2.length+x\/(¬x<S.H.length/\i=aR K+(x-S.H.length)):=by
    intro x hx R;by_cases G:x<S.H.length
    ·simp only [src,G,fM]at R;cases p:b9 x with
     |none=>rw [p]at R;exact .inr (.inl (aJ R).symm)
     |some j=>
      rw [p]at R;obtain⟨s,E,A⟩:=d7 x j p;have a6:=(aD.1 E).1;rw [aM hx]at R;simp only at R;cases hd:CN U[x]with
      |true=>rw [hd]at R;cases R
      |false=>rw [hd]at R;have e:j=i:=aJ R;subst e;exact .inl ⟨s,a6,E,A⟩
    ·simp only [src,G,cX]at R;exact .inr (.inr ⟨G,(aJ R).symm⟩)
   obtain⟨k3,k1⟩:=key x hx;obtain⟨k0,j9⟩:=key z hz;rcases cl x k3 k1 with⟨s,E,A,J⟩|E|⟨E,A⟩<;>rcases cl z k0 j9 with⟨s2,D,I,N⟩|D|⟨D,I⟩
   ·rw [A]at I;cases I;rw [J]at N;exact aJ N
   all_goals omega
 have l7:Mt w0 S0 ρ3 U L3:=by refine⟨l2,fun id o M=> ?_⟩;have G:=(aD.1 M).1;have hl:L3[id]? =some (L3[id]' aA0):=aM aA0;have:=(g3 id _ hl).1 o M;exact⟨this.1,_,hl,this.2⟩
 let B:St:=⟨S.F,U,S.nb,S.al,rg++S.m⟩
 have i7:Rel C w0 S0 ρ3 B F w2:=by
  refine⟨fun g id hg=> ?_,fun t u hu=> ?_,fun t=> ?_,fun id e cs M c hc=> ?_,⟨L3,m1,l7⟩⟩
  ·obtain⟨E,A⟩:=hS.gl g id hg;exact⟨by show id<U.length;omega,by rw [Q id E];exact A⟩
  ·have hu:(S.at t).v ρ3=some u:=hu;rw [SV.up Q (hS.fo t)]at hu;exact hS.fr t u hu
  ·exact SV.cQ (hS.fo t) (by show S.H.length<=U.length;omega)
  ·show c.ok U.length;rw [i4];exact hP.ho id e cs M c hc
 have b5:Nx S ρ B ρ3:=by
  have g9:∀nb al,(∀id j,id<nb->fE id j rg=true->fE id j al=true)->Le nb al ρ S.H ρ3 B.H:=fun nb al l6=>
   ⟨by show S.H.length<=U.length;omega,Q,fun id o hi M=>(hP.kp id o M).mono fun j hc=>l6 id j hi hc⟩
  exact⟨⟨rfl,rfl,g9 _ _ fun id j hi hc=>yR g5 hi hc⟩,g9 _ _ fun id j _ hc=>Fk.2 (.inl hc),fun id j hc=>Fk.2 (.inr hc)⟩
 refine⟨ρ3,fun d=> ?_⟩;have l4:kQ c S d a ss y=B.uI d (mW (fK (uP ss) ([],kill S.H EK) c.r y).1):=rfl;rw [l4];cases d with
 |none=>exact⟨i7,b5⟩
 |some d=>refine⟨da i7 (WY hP.vl hv) (T1 fun v hv=> ?_),⟨⟨b5.nb,b5.al,b5.le⟩,b5.lg,b5.mm⟩⟩;show v.ok U.length;rw [i4];exact hP.vo v hv
end
open Go.Wk
open Go.Ce (Tr)
open Nat renaming blt → fZ, succ → oA
structure Env (C:Cx) (md:Md) (w0:World) (S0:List Nat) (GS:If):Prop where
 e:vb C
 n:C.nn=md.n
 g:Gw GS w0 S0
 x:∀k,∀c∈C.X k,Enters C.P k/\IW C.P GS k c
inductive SL (C:Cx) (ops:List Oper) (S:St) (o:Oper):Bool->Prop
 |none (h:o.guard=none):SL C ops S o true
 |yes (q:Nat×Bool) (dg:Nat) (h:o.guard=some q) (h1:DK ops q.1=some dg) (h2:fZ dg C.nn=true) (h3:S.at dg=.c' (.b' q.2)):SL C ops S o true
 |no (q:Nat×Bool) (dg:Nat) (h:o.guard=some q) (h1:DK ops q.1=some dg) (h2:fZ dg C.nn=true) (h3:S.at dg=.c' (.b' (!q.2))):SL C ops S o false
 |un (q:Nat×Bool) (dg:Nat) (h:o.guard=some q) (h1:DK ops q.1=some dg) (h2:fZ dg C.nn=true) (h3:S.at dg=.n'):SL C ops S o false
inductive Tv:SV->Bool->Prop
 |b (x:Bool):Tv (.c' (.b' x)) x
 |d (p:Prop) (h:Decidable p):Tv (.c' (.d' p h)) (@decide p h)
 |e (p:Prop) (h:Decidable p):Tv (.c' (.e' p h)) (!@decide p h)
variable {v:SV}
theorem tv_v{b:Bool}(h:Tv v b)(ρ:Nat->Ad):v.v ρ=some (.bool b):=by cases h<;>rfl
theorem tj{T:Type}{y n:Option T}{r:T}(h:H6 v y n=some r):∃b,Tv v b/\(b=true->y=some r)/\(b=false->n=some r):=by
 unfold H6 at h;split at h
 ·rename_i x;exact⟨x,.b x,fun e=>by subst e;exact h,fun e=>by subst e;exact h⟩
 ·rename_i p a;refine⟨_,.d p a,fun e=> ?_,fun e=> ?_⟩
  ·rw [aB (cA e)]at h;exact h
  ·rw [aA (jI e)]at h;exact h
 ·rename_i p a;refine⟨_,.e p a,fun e=> ?_,fun e=> ?_⟩
  ·have:¬p:=by simpa using e
   rw [aA this]at h;exact h
  ·have:p:=by simpa using e
   rw [aB this]at h;exact h
 ·cases h
structure kt (C:Cx) (S:St) (o:Oper) (S2:St):Prop where
 ex:∃(cal:Call) (f:Operand) (k:Nat) (ids:List Nat) (c:Gt) (a:(gK c.a).T) (ss:List Src) (y:(gG c.r).T),o.op=.call cal/\cal.callee=.value f/\S.ev C f=.c' (.f' k ids)/\c∈C.X k/\
  KS S.H c.a (cal.args.toList.map (S.ev C)++RS ids)=some (a,ss)/\mM c S a ss=true/\(c.f a).ok y/\S2=kQ c S o.dst a ss y
inductive FQ (C:Cx) (ops:List Oper) (S:St) (o:Oper):St->Prop
 |op (hg:SL C ops S o true) (ro:Ro) (h:iM C (S.ev C) S.H o.op=some ro) (ha:Gu ro.g) (hd:Ms o.dst ro.v=true) (hm:S.Bg ro.m=true):FQ C ops S o (St.uI ⟨S.F,ro.H,S.nb,S.al,ro.m++S.m⟩ o.dst ro.v)
 |mv (hg:SL C ops S o true) (x:Operand) (d:Nat) (b:Bool) (hx:ZS o.op=some x) (hd:o.dst=some d) (hb:Tv (S.ev C x) b):FQ C ops S o (S.set d (.c' (.b' b)))
 |skip (hg:SL C ops S o false) (d:Nat) (hd:o.dst=some d):FQ C ops S o (S.set d .n')
 |call (hg:SL C ops S o true) (S2:St) (h:kt C S o S2):FQ C ops S o S2
section
variable {C:Cx}{ρ':Ty}
theorem Nf{S:St}{d:Option Nat}{vs:List SV}{g:St->Option ρ'.T}{r:ρ'.T}:∀{l:List Gt},mD S d vs g l=some r->∃c∈l,∃a ss y,KS S.H c.a vs=some (a,ss)/\mM c S a ss=true/\(c.f a).ok y/\g (kQ c S d a ss y)=some r
 |[],h=>by cases h
 |c::l,h=>by
  simp only [mD]at h;split at h
  ·rename_i a ss i;have h:=dJ h;obtain⟨y,e,b⟩:=Gv.cq h.2;exact⟨c,fQ,a,ss,y,i,h.1,e,b⟩
  ·obtain⟨j,e,b⟩:=Nf h;exact⟨j,fB _ e,b⟩
theorem C8{v:SV}{q:Nat×List Nat}(h:fnV v=some q):v=.c' (.f' q.1 q.2):=by
 unfold fnV at h;split at h
 ·cases h;rfl
 ·cases h
variable {d:List Oper}{S:St}{o:Oper}{q:St->Option ρ'.T}{r:ρ'.T}
theorem Zy(s:SL C d S o true)(h:S9 C S o.dst o.op q=some r):∃S2,FQ C d S o S2/\q S2=some r:=by
 unfold S9 at h;split at h
 ·rename_i g v H m b;split at h
  ·rename_i S2 i;unfold St.run at i;have i:=dJ i;have e:=dJ i.2;cases e.2;obtain⟨n,l⟩:=Mj h;exact⟨_,.op s _ b n i.1 e.1,l⟩
  ·cases h
 ·split at h
  ·rename_i p b;split at h
   ·rename_i f w;split at h
    ·rename_i k j u;obtain⟨c,n,a,t,y,l,A,z,x⟩:=Nf h;exact⟨_,.call s _ ⟨p,f,k,j,c,a,t,y,b,w,C8 u,n,l,A,z,rfl⟩,x⟩
    ·cases h
   ·cases h
  ·cases h
variable {i:Nat}
theorem Zx(c:SL C d S o true)(h:S8 C d i S o q=some r):∃S2,FQ C d S o S2/\q S2=some r:=by
 unfold S8 at h;cases f:isG d i with
 |false=>rw [f]at h;exact Zy c h
 |true=>
  rw [f]at h;simp only [aL]at h;split at h
  ·rename_i x hx;split at h
   ·rename_i e g;obtain⟨b,l,k,j⟩:=tj h;refine⟨_,.mv c x e b hx g l, ?_⟩;cases b with
    |true=>exact k rfl
    |false=>exact j rfl
   ·cases h
  ·exact Zy c h
theorem Zw(h:OV C d i S o q=some r):∃S2,FQ C d S o S2/\q S2=some r:=by
 unfold OV at h;split at h
 ·rename_i m;exact Zx (.none m) h
 ·rename_i g j;split at h
  ·rename_i dg f;have h:=dJ h;have a:=h.2;split at a
   ·rename_i x hx;cases b:cp x g.2 with
    |true=>
     rw [b]at a;have e:x=g.2:=by unfold cp at b;cases x<;>cases c:g.2<;>rw [c]at b<;>first|rfl|cases b
     rw [e]at hx;exact Zx (.yes g dg j f h.1 hx) a
    |false=>
     rw [b]at a;have e:x= !g.2:=by unfold cp at b;cases x<;>cases c:g.2<;>rw [c]at b<;>first|rfl|cases b
     rw [e]at hx;simp only [aG]at a;split at a
     ·rename_i l k;exact⟨_,.skip (.no g dg j f h.1 hx) l k,a⟩
     ·cases a
   ·rename_i hx;split at a
    ·rename_i l k;exact⟨_,.skip (.un g dg j f h.1 hx) l k,a⟩
    ·cases a
   ·cases a
  ·cases h
end
section
variable {C:Cx}{md:Md}{w0 w:World}{S0:List Nat}{ρ:Nat->Ad}{S:St}{F:Nat->Value}{GS:If}
variable {a:Array Oper}{g:Nat}
theorem Mi{dg:Nat}(h:DK a.toList g=some dg):(a[g]?).bind (·.dst)=some dg:=by
 unfold DK at h;rw [gQ]at h;cases b:a[g]? with
 |none=>rw [show a.toList[g]? =none by simpa using b]at h;cases h
 |some o=>rw [show a.toList[g]? =some o by simpa using b]at h;exact h
theorem JP(c:C.nn=md.n)(d:Rel C w0 S0 ρ S F w):∀{l:List Operand} {r:List (Option Value)} {a:List Value},(l.map (S.ev C)).map (SV.v ρ)++r=a.map some->∃b,a=l.map (aX md F)++b/\r=b.map some
 |[],r,a,h=>⟨a,rfl,h⟩
 |x::l,r,a,h=>by
  cases a with
  |nil=>cases h
  |cons u a=>simp only [vS,Bo,jT]at h;obtain⟨b,f,e⟩:=JP c d (l:=l) h.2;refine⟨b, ?_,e⟩;rw [f,vS,Bo,(Xm d c x).2 u h.1]
theorem G5:∀(a:List Nat),(RS a).map (SV.v ρ)=(a.map fun id=>iJ (ρ id).b 0).map some
 |[]=>rfl
 |id::a=>by show some (iJ (ρ id).b 0)::(RS a).map (SV.v ρ)=_;rw [G5 a];rfl
theorem yY{c:Type}:∀{a b:List c},a.map some=b.map some->a=b
 |[],[],_=>rfl
 |[],_::_,h=>by cases h
 |_::_,[],h=>by cases h
 |x::a,y::b,h=>by simp only [vS,jT,aU]at h;rw [h.1,yY h.2]
variable {o:Oper}
theorem EY(hE:Env C md w0 S0 GS){S2:St}(h:FQ C a.toList S o S2)(B:Rel C w0 S0 ρ S F w)(Q:Exit->Act->World->Prop)(l:List Oper)
  (T:∀D F2 G,Rel C w0 S0 D S2 F2 G->Nx S ρ S2 D->(∀t,o.dst≠some t->F2 t=F t)->(∀d,o.guard=none->o.dst=some d->mL o.op=true->∃w3,(execOp (aX md F) o).run C.P w=.ok (.value (F2 d)) w3)->W C.P md a Q l F2 G):W C.P md a Q (o::l) F w:=by
 have L:=hE.n;obtain⟨p,op,Z,pos,after,gd⟩:=o;have N:SL C a.toList S ⟨p,op,Z,pos,after,gd⟩ true->W C.P md a Q (⟨p,op,Z,pos,after,none⟩::l) F w->W C.P md a Q (⟨p,op,Z,pos,after,gd⟩::l) F w:=by
  intro A V;cases A with
  |none h=>have h:gd=none:=h;subst h;exact V
  |yes q dg h z r E=>have h:gd=some q:=h;subst h;obtain⟨g,b⟩:=q;exact FY dg (Mi z) (by rw [<-L];exact r) (B.fr dg (.bool b) (by rw [E];rfl)) V
 cases h with
 |op A ro h ha u hm=>refine N A (R6 hE.e L B h ha hm u a Q l fun D F2 G z r E h4=>T D F2 G z r E fun d j M hp=> ?_);have j:gd=none:=j;subst j;exact h4 d M hp
 |mv A x d b hx u hb=>
  have u:p=some d:=u;subst u;obtain⟨z,r⟩:=Xm B L x;have R:aX md F x=.bool b:=r _ (tv_v hb ρ);refine N A ?_;have s:Rel C w0 S0 ρ (S.set d (.c' (.b' b))) (eF F d (.bool b)) w:=da B rfl (fun i hi=>by cases hi);have H:(execOp (aX md F) (⟨some d,op,Z,pos,after,none⟩:Oper)).run C.P w=.ok (.value (.bool b)) w:=by
   cases op<;>first|cases hx|skip
   ·rw [<-R];rfl
   ·rw [<-R];rfl
  refine gM rfl rfl H (T ρ _ w s ⟨⟨rfl,rfl,Le.refl⟩,Le.refl,fun _ _ h=>h⟩ NI fun d2 j M _=>⟨w, ?_⟩);have j:gd=none:=j;subst j;cases M;rw [dj];exact H
 |skip A d u=>
  have u:p=some d:=u;subst u;have s:Rel C w0 S0 ρ (S.set d .n') (eF F d undef) w:=da B rfl trivial;have V:=T ρ _ w s ⟨⟨rfl,rfl,Le.refl⟩,Le.refl,fun _ _ h=>h⟩ NI (fun d2 j _ _=>by cases A<;>(rename_i h _ _ _;rw [h]at j;cases j));cases A with
  |no q dg h z r E=>have h:gd=some q:=h;subst h;obtain⟨g,b⟩:=q;exact fm dg (Mi z) (by rw [<-L];exact r) (B.fr dg (.bool (!b)) (by rw [E];rfl)) V
  |un q dg h z r E=>have h:gd=some q:=h;subst h;obtain⟨g,b⟩:=q;exact fk dg (Mi z) (by rw [<-L];exact r) (B.fr dg undef (by rw [E];rfl)) V
 |call A _ h=>
  obtain⟨Y,f,k,O,c,m,ss,y,K,hf,a5,hc,hr,a4,hy,rfl⟩:=h;have K:op=.call Y:=K;subst K;obtain⟨callee,gH,ts⟩:=Y;have hf:callee=.value f:=hf;subst hf;refine N A ?_;obtain⟨X,hF⟩:=hE.x k c hc;obtain⟨us,z,r⟩:=bu B hE.g hF hr a4 hy;rw [Yo,G5]at z;obtain⟨u2,E,h4⟩:=JP L B z;have h5:=yY h4;have U:aX md F f=.func (.func k) #[] (O.map fun id=>iJ (ρ id).b 0).toArray:=(nW B L a5).2;have ha: #[]++gH.map (aX md F)++(O.map fun id=>iJ (ρ id).b 0).toArray=us.toArray:=by rw [E,<-h5];apply xG.1;simp
  cases p with
  |none=>refine P7 k _ us _ X U ha r fun v G J=> ?_;obtain⟨I,J⟩:=J;obtain⟨h6,h7⟩:=J none;exact T I F G h6 h7 (fun _ _=>rfl) (fun d _ u=>by cases u)
  |some d=>refine pL k _ us _ X U ha r fun v G J=> ?_;obtain⟨I,J⟩:=J;obtain⟨h6,h7⟩:=J (some d);exact T I _ G h6 h7 NI (fun d2 _ _ hp=>by cases hp)
theorem xO{l:List Oper}:g∈El (o::l)↔o.dst=some g\/g∈El l:=by
 simp only [El];cases a:o.dst with
 |none=>simp
 |some d=>simp only [SQ,aU];exact or_congr_left ⟨fun h=>h.symm,fun h=>h.symm⟩
theorem Cr{t:Nat}:∀{l:List Operand},t∈yP l↔Operand.tmp t∈l
 |[]=>by simp [yP]
 |x::l=>by cases x<;>simp [yP,Cr (l:=l)]
def RanL(C:Cx)(md:Md)(a:List Oper)(e:Nat)(F:Nat->Value):Prop:=∀(i d:Nat) (o:Oper),e<=i->YJ a i=true->a[i]? =some o->o.dst=some d->∃c b,(execOp (aX md F) o).run C.P c=.ok (.value (F d)) b
theorem XP{op:Op}(h:mL op=true):∀cs b,op≠.select cs b:=fun cs b e=>by subst e;cases h
theorem D7{F2:Nat->Value}{x:Operand}(h:∀t,x=.tmp t->F2 t=F t):aX md F2 x=aX md F x:=by
 cases x with
 |tmp t=>simp only [aX,h t rfl]
 |_=>rfl
theorem Vx(R:Env C md w0 S0 GS){a:Array Oper}{ρ':Ty}{B:St->Option ρ'.T}{r:ρ'.T}{Q:Exit->Act->World->Prop}:∀(l:List Oper) (i:Nat) (S:St) (ρ:Nat->Ad) (F:Nat->Value) (w:World),l=a.toList.drop i->GU C a.toList l i S B=some r->Rel C w0 S0 ρ S F w->
  (∀S2 e F2 u,B S2=some r->Rel C w0 S0 e S2 F2 u->Nx S ρ S2 e->(∀t,t∉El l->F2 t=F t)->RanL C md a.toList i F2->Q .normal (fr md F2) u)->W C.P md a Q l F w
 |[],i,S,ρ,F,w,y,h,K,D=>kM (D S ρ F w h K Nx.refl (fun _ _=>rfl) (fun j d o hj _ p _=>by have:a.toList.drop i=[]:=y.symm;rw [List.drop_eq_nil_iff]at this;have:=(aD.1 p).1;omega))
 |o::l,i,S,ρ,F,w,y,h,K,D=>by
  obtain⟨S2,h1,h2⟩:=Zw (show OV C a.toList i S o (fun S2=>GU C a.toList l (oA i) S2 B)=some r from h);have n:a.toList[i]? =some o:=by have:=bD (fun l=>l[0]?) y;simpa using this.symm
  have s:l=a.toList.drop (i+1):=by have:=bD List.tail y;simpa using this
  refine EY R h1 K Q l fun e F2 u J hN O hp=>Vx R l (i+1) S2 e F2 u s h2 J fun S3 A V Y h3 I L f m=> ?_;refine D S3 A V Y h3 I (hN.trans L) (fun t k=> ?_) (fun j d Z hj b p z=> ?_)
  ·rw [xO]at k;rw [f t (fun c=>k (.inr c)),O t (fun c=>k (.inl c))]
  ·by_cases E:j=i
   ·subst E;rw [n]at p;cases p
    unfold YJ at b;rw [gQ,n]at b;simp only [z]at b;have N:=iE b;have M:=iE N.2;have g:=M.2;have G:o.guard=none:=by
     cases hg:o.guard with
     |none=>rfl
     |some q=>rw [hg]at N;cases N.1
    rw [nH,<-s]at g;cases v:lS d (El l)with
    |true=>rw [v]at g;cases g
    |false=>
     rw [v]at g;simp only [aG]at g;have h7:=sJ.1 g;obtain⟨X,h8⟩:=hp d G z M.1;have H:V d=F2 d:=f d fun c=>by rw [To.2 c]at v;cases v
     refine⟨w,X, ?_⟩;rw [H,execOp_congr o (XP M.1) (ρ':=aX md F) fun x hx=> ?_]
     ·exact h8
     ·refine D7 fun t k=> ?_;subst k;have U:=h7 t (Cr.2 aE0);rw [f t (fun c=>U (fB _ c)),O t (fun c=>U (by rw [z]at c;cases c;exact fQ))]
   ·exact m j d Z aA0 b p z
theorem OX(q:Env C md w0 S0 GS):K8 C md w0 S0 g a false:=by intro ρ' S f r ρ F w Q h p k;have e:a=a.toList.toArray:=rfl;have h:GU C a.toList a.toList 0 S f=some r:=h;have n:=Vx q (Q:=Q) a.toList 0 S ρ F w aA2 h p fun y b z A x v u t s=>k y b z A x v u t fun i d o c j m=>s i d o (dL _) c j m;exact IL (l:=a.toList) n
end
open Go.Wk
open Go.Ce (Tr)
open Go.Op renaming operands → lY
open Nat renaming beq → cV
section
variable {C:Cx}{ev TA:Operand->SV}
theorem sH{sz:Nat->Option (Nat×Nat)}:∀{a:List (Nat×Operand)} {l:List SC},(∀p∈a,ev p.2=TA p.2)->Ff sz ev a l=Ff sz TA a l
 |[],l,h=>rfl
 |p::a,l,h=>by
  simp only [Ff];rw [h p fQ];split
  ·split
   ·rw [sH fun q b=>h q (fB _ b)]
   ·rfl
  ·rfl
variable {l:List Operand}
theorem map_congr(h:∀x∈l,ev x=TA x):l.map ev=l.map TA:=L9 h
variable {H:List Ob}
theorem H9{b:Builtin}{a:List Nat}(h:∀x∈l,ev x=TA x):IS C ev H b l a=IS C TA H b l a:=by
 match l with
 |[]=>cases b<;>rfl
 |[x]=>
  have e:=h x aA2;cases b<;>simp only [IS]
  ·match a with
   |[]=>rfl
   |[t]=>simp only [e]
   |_::_::_=>rfl
 |[x,y]=>have e:=h x aA2;have c:=h y aA2;cases b<;>first|(rcases a with _|⟨t,_|⟨t2,_|⟨t3,a⟩⟩⟩<;>simp only [IS,e,c];done)|simp only [IS,e,c]
 |_::_::_::_=>cases b<;>rfl
theorem Re{op:Op}(h:∀x∈op.operands,ev x=TA x):iM C ev H op=iM C TA H op:=by
 cases op<;>first|rfl|skip
 case move x=>simp only [iM,h x aB3]
 case assign x=>simp only [iM,h x aB3]
 case pick c a b=>simp only [iM,h c aB3,h a aB3,h b aB3]
 case binOp b t x y t'=>simp only [iM,h x aB3,h y aB3]
 case unOp u t x=>cases u<;>first|rfl|simp only [iM,h x aB3]
 case convert s t x=>simp only [iM,h x aB3]
 case index t x g=>simp only [iM,h x aB3,h g aB3]
 case slice t x r o q=>
  cases q with
  |some m=>rfl
  |none=>
   have e:=h x aB3;cases r with
   |none=>cases o with
    |none=>simp only [iM,wH,e]
    |some j=>simp only [iM,wH,e,h j aB3]
   |some i=>cases o with
    |none=>simp only [iM,wH,e,h i aB3]
    |some j=>simp only [iM,wH,e,h i aB3,h j aB3]
 case extract x i=>simp only [iM,h x aB3]
 case field t x f=>simp only [iM,h x aB3]
 case box e x=>simp only [iM,h x aB3]
 case load t x=>simp only [iM,h x aB3]
 case store t x y=>simp only [iM,h x aB3,h y aB3]
 case fieldAddr t x f=>simp only [iM,h x aB3]
 case indexAddr t x g=>simp only [iM,h x aB3,h g aB3]
 case nilCheck x=>simp only [iM,h x aB3]
 case makeSlice t x y=>simp only [iM,h x aB3,h y aB3]
 case build t d=>
  have e:∀p∈d.toList,ev p.2=TA p.2:=fun p k=>h p.2 (by simp only [lY,List.mem_toArray,cN];exact⟨p,k,rfl⟩);simp only [iM,Ho];split
  ·rw [sH e]
  ·rfl
 case buildSlice t n d=>
  have e:∀p∈d.toList,ev p.2=TA p.2:=fun p k=>h p.2 (by simp only [lY,List.mem_toArray,cN];exact⟨p,k,rfl⟩);simp only [iM,ue];split
  ·split
   ·rw [sH e]
   ·rfl
  ·rfl
 case makeFunc f a b=>
  have e:b.toList.map ev=b.toList.map TA:=map_congr fun x hx=>h x (by simp only [lY,xH];exact .inr aE0);simp only [iM,Vy,e]
 case call c=>
  obtain⟨callee,gH,l⟩:=c;cases callee<;>first|rfl|skip
  rename_i b;show IS C ev H b gH.toList l.toList=IS C TA H b gH.toList l.toList;exact H9 fun x hx=>h x (by simp only [lY,Call.operands,xH];exact .inr aE0)
end
def ei(H H2:List Ob)(a:List Nat):Prop:=∀id∈a,∀o,eX H id=some o->eX H2 id=some o
section
variable {C:Cx}{ev:Operand->SV}{H H2:List Ob}
variable {a:Ro}
theorem Eu{r:Rv}(h:Ju H r=some a):a.H=H/\a.m=[]/\Ju H2 r=some ⟨a.g,a.v,H2,[]⟩:=by obtain⟨g,v,c,rfl⟩:=FO h;rw [c];exact⟨rfl,rfl,rfl⟩
theorem mH{r:Option SV}(h:mI H r=some a):a.H=H/\a.m=[]/\mI H2 r=some ⟨a.g,a.v,H2,[]⟩:=by obtain⟨v,c,rfl⟩:=J6 h;rw [c];exact⟨rfl,rfl,rfl⟩
variable {b:Ty}{t m:Nat}{l:List b.T}
theorem Vv{j:Int}{n:Nat}{d:Bool}(h:rK H b l j t m n d=some a):a.H=H/\a.m=[]/\rK H2 b l j t m n d=some ⟨a.g,a.v,H2,[]⟩:=by
 unfold rK at h⊢;split at h
 ·rename_i v c;have h:=dJ h;cases h.2;simp only [h.1,aL,and_self]
 ·cases h
variable {x:SC}
theorem po(h:lC C H t x=some a)(q:ei H H2 (Pu (.c' x))):a.H=H/\a.m=[]/\lC C H2 t x=some ⟨a.g,a.v,H2,[]⟩:=by
 unfold lC at h⊢;split at h
 ·rename_i n g y z;cases p:cV n 0 with
  |true=>rw [p]at h;cases h
  |false=>
   rw [p]at h;simp only [aG]at h⊢;split at h
   ·rename_i id off;split at h
    ·rename_i e cs f;rw [q id aF4 _ f];exact mH h
    ·cases h
   ·rename_i id j i off;have key:∀o,eX H id=some o->eX H2 id=some o:=q id aF4;split at h
    ·rename_i e b t' l f;rw [key _ f];exact Vv h
    ·rename_i t' l f;rw [key _ f];simp only;cases d:rK H t' l j i off n g with
     |some r=>rw [d]at h;cases h;obtain⟨c,w,u⟩:=Vv (H2:=H2) d;rw [u];exact⟨c,w,rfl⟩
     |none=>
      rw [d]at h;have e:rK H2 t' l j i off n g=none:=by
       unfold rK at d⊢;split
       ·rename_i v s;rw [s]at d;cases k:(bif Zi i j t' then t'.flat else false)with
        |true=>rw [k]at d;cases d
        |false=>rfl
       ·rfl
      rw [e];have h:Br H t' l j off n g=some a:=h;show a.H=H/\a.m=[]/\Br H2 t' l j off n g=some ⟨a.g,a.v,H2,[]⟩;unfold Br at h⊢;split at h
      ·have h:=dJ h;simp only [h.1,aL];exact mH h.2
      ·cases h
    ·rename_i m l f;rw [key _ f];exact Vv h
    ·cases h
   ·cases h
 ·cases h
theorem pt(h:QC H t=some m)(b:∀o,eX H t=some o->eX H2 t=some o):QC H2 t=some m:=by
 unfold QC at h⊢;split at h
 ·rename_i a;rw [b _ a];exact h
 ·rename_i a;rw [b _ a];exact h
 ·rename_i a;rw [b _ a];exact h
 ·cases h
theorem ixa_H{b:SC}(h:jv C H t x b=some a)(k:ei H H2 (Pu (.c' x))):a.H=H/\a.m=[]/\jv C H2 t x b=some ⟨a.g,a.v,H2,[]⟩:=by
 unfold jv at h⊢;split at h
 ·rename_i j o;split at h
  ·rename_i e l;split at h
   ·rename_i f g;split at h
    ·rename_i id;split at h
     ·rename_i m i;cases h;rw [pt i (k id aF4)];exact⟨rfl,rfl,rfl⟩
     ·cases h
    ·cases h;exact⟨rfl,rfl,rfl⟩
    ·cases h
   ·cases h
  ·rename_i l;split at h
   ·rename_i q n;split at h
    ·rename_i f g;split at h
     ·have h:=dJ h;cases h.2;simp only [h.1,aL,and_self]
     ·have h:=dJ h;have d:=dJ h.2;have c:=dJ d.2;cases c.2;simp only [h.1,d.1,c.1,aL,and_self]
     ·cases h
    ·cases h
   ·cases h
 ·cases h
theorem tc(h:vF H b x=some l)(t:ei H H2 (Pu (.c' x))):vF H2 b x=some l:=by
 unfold vF at h⊢;split at h
 ·exact h
 ·rename_i id;have key:∀o,eX H id=some o->eX H2 id=some o:=t id aF4;cases a:eX H id with
  |none=>rw [a]at h;cases h
  |some o=>rw [a]at h;rw [key o a];exact h
 ·rename_i id m;have key:∀o,eX H id=some o->eX H2 id=some o:=t id aF4;split at h
  ·rename_i e cs a;rw [key _ a];exact h
  ·cases h
 ·cases h
theorem qc(h:(!CL C t)=true):OS C t=none:=by
 unfold CL at h;unfold OS;split at h
 ·cases h
 ·rfl
theorem td(d:(!CL C m)=true)(h:Xc C H t m x=some a)(i:ei H H2 (Pu (.c' x))):a.H=H/\a.m=[]/\Xc C H2 t m x=some ⟨a.g,a.v,H2,[]⟩:=by
 have s:=qc d;unfold Xc at h⊢;split at h
 ·rename_i e j;have h:=dJ h;have c:=dJ h.2;have b:=c.2;simp only [h.1,c.1,aL];split at b
  ·rename_i l f;cases b;rw [tc f i];exact⟨rfl,rfl,rfl⟩
  ·cases b
 ·cases x with
  |s' l=>simp only [s]at h⊢;exact Eu h
  |_=>exact Eu h
theorem pw{r:List PD×SV}(h:We C H t x=some r)(b:ei H H2 (Pu (.c' x))):We C H2 t x=some r:=by
 unfold We at h⊢;split at h
 ·exact h
 ·split at h
  ·rename_i e c;split at h
   ·rename_i id _;cases a:eX H id with
    |none=>rw [a]at h;cases h
    |some o=>rw [a]at h;rw [b id aF4 o a];exact h
   ·exact h
   ·exact h
   ·cases h
  ·cases h
theorem Sq{x:Operand}{id:Nat}(hid:id∈Pu (ev x)):∀{l:List Operand},x∈l->id∈Sr ev l
 |y::l,h=>by
  rcases aP.1 h with rfl|h
  ·exact Bp _ hid
  ·exact SO _ (Sq hid h)
theorem Hi{op:Op}{ro:Ro}(l:Ci C op=true)(h:iM C ev H op=some ro)(o:ei H H2 (Sp ev op)):ro.H=H/\ro.m=[]/\iM C ev H2 op=some ⟨ro.g,ro.v,H2,[]⟩:=by
 cases op<;>first|cases l|skip
 case move x=>exact mH h
 case assign x=>exact mH h
 case pick c a b=>
  obtain⟨x,k,j⟩:=lT (show fU (ev c) (fun x=>match x with
   |.b' t=>mI H (match(bif t then ev a else ev b)with
    |.u'=>none
    |v=>some v)
   |_=>none)=some ro from h)
  split at j
  ·rename_i t;have:=mH (H2:=H2) j;simp only [iM,k,fU];exact this
  ·cases j
 case binOp b t x y t'=>exact Eu h
 case unOp u t x=>cases u<;>first|cases h|exact Eu h
 case convert s t x=>
  obtain⟨c,k,j⟩:=lT (show fU (ev x) (Xc C H s t)=some ro from h);have:=td (H2:=H2) l j (by rw [<-k];exact o);simp only [iM,k,fU];exact this
 case index t x r=>
  simp only [iM]at h⊢;cases p:vI C t with
  |true=>rw [p]at h;exact Eu h
  |false=>
   rw [p]at h;simp only [aG]at h⊢;split at h
   ·exact Eu h
   ·cases h
 case slice t x E F w=>
  cases w with
  |some m=>cases h
  |none=>have l:vI C t=true:=l;simp only [iM,l,aL]at h⊢;exact Eu h
 case extract x i=>
  simp only [iM]at h⊢;split at h
  ·split at h
   ·cases h;exact⟨rfl,rfl,rfl⟩
   ·cases h
  ·cases h
 case field t x f=>
  simp only [iM]at h⊢;split at h
  ·split at h
   ·exact mH h
   ·cases h
  ·cases h
 case build t D=>exact mH h
 case fieldAddr t x f=>
  obtain⟨c,k,j⟩:=lT (show fU (ev x) (fun a=>mI H (awn C t f a))=some ro from h);have:=mH (H2:=H2) j;simp only [iM,k,fU];exact this
 case load t x=>
  obtain⟨c,k,j⟩:=lT (show fU (ev x) (fun a=>lC C H t a)=some ro from h);have:=po (H2:=H2) j (by rw [<-k];exact o);simp only [iM,k,fU];exact this
 case indexAddr t x r=>
  obtain⟨c,k,j⟩:=lT (show fU (ev x) (fun a=>fU (ev r) fun i=>jv C H t a i)=some ro from h);obtain⟨d,q,B⟩:=lT j;have:=ixa_H (H2:=H2) B (by rw [<-k];exact o);simp only [iM,k,q,fU];exact this
 case makeFunc f a b=>exact mH h
 case nilCheck x=>
  obtain⟨c,k,j⟩:=lT (show fU (ev x) (fun a=>mI H (AZ a))=some ro from h);have:=mH (H2:=H2) j;simp only [iM,k,fU];exact this
 case call c=>
  obtain⟨callee,gH,n⟩:=c;cases callee<;>first|cases l|skip
  rename_i b;have key:∀(gH:List Operand) (n:List Nat),ei H H2 (Sr ev gH)->IS C ev H b gH n=some ro->ro.H=H/\ro.m=[]/\IS C ev H2 b gH n=some ⟨ro.g,ro.v,H2,[]⟩:=by
   clear h o;intro gH n o h;have A:∀x y,b≠.append->gH=[x,y]->ro.H=H/\ro.m=[]/\IS C ev H2 b gH n=some ⟨ro.g,ro.v,H2,[]⟩:=by intro x y p e;subst e;cases b<;>first|exact absurd rfl p|exact Eu h
   rcases gH with _|⟨x,_|⟨y,_|⟨z,gH⟩⟩⟩
   ·cases b<;>cases h
   ·cases b<;>first|cases l|skip
    ·rcases n with _|⟨t,_|⟨t2,n⟩⟩
     ·cases h
     ·obtain⟨g,v,k,rfl⟩:=FO (show Ju H (fU (ev x) (We C H t))=some ro from h);obtain⟨c,j,q⟩:=lT k;refine⟨rfl,rfl, ?_⟩;show Ju H2 (fU (ev x) (We C H2 t))=_;rw [j];show Ju H2 (We C H2 t c)=_;rw [pw q (fun id hid=>o id (Sq (x:=x) (by rw [j];exact hid) fQ))];rfl
     ·cases h
    ·cases h
    ·cases h
   ·exact A x y (fun e=>by subst e;cases l) rfl
   ·cases b<;>cases h
  exact key _ _ o h
end
open Go.Wk
open Go.Ce (Tr)
open Go.Op renaming operands → lY
open Nat renaming beq → cV, blt → fZ
section
variable {C:Cx}{ev:Operand->SV}{H:List Ob}
variable {a:Ob}{k:Nat}
theorem I6{x:Ob}(h:H[k]? =some a):(H++[x])[k]? =some a:=by rw [aH (aD.1 h).1];exact h
theorem M9{a:Type}{l:List a}{j:Nat}{y:a}(h:k≠j):(iS l k y)[j]? =l[j]? :=by rw [wV,aA (fun b=>h b.1.symm)]
theorem V1{op:Op}{ro:Ro}(h:iM C ev H op=some ro)(r:∀q∈ro.m,q.1≠k)(hid:H[k]? =some a):ro.H[k]? =some a:=by
 cases G:Ci C op with
 |true=>have:=(Hi (H2:=H) G h (fun _ _ _ h=>h)).1;rw [this];exact hid
 |false=>
  cases op<;>first|exact absurd (show true=false from G) aA2|cases h|skip
  case convert s t x=>
   obtain⟨c,E,d⟩:=lT (show fU (ev x) (Xc C H s t)=some ro from h);unfold Xc at d;split at d
   ·have p:=(dJ (dJ d).2).2;split at p
    ·cases p;exact hid
    ·cases p
   ·split at d
    ·split at d
     ·have p:=(dJ (dJ d).2).2;cases p;exact I6 hid
     ·obtain⟨g,v,_,rfl⟩:=FO d;exact hid
    ·obtain⟨g,v,_,rfl⟩:=FO d;exact hid
  case slice t x F J Q=>
   have A:vI C t=false:=G;cases Q with
   |some m=>cases h
   |none=>
    have h:(bif vI C t then Ju H (fU (ev x) fun w=>wH ev F fun i=>wH ev J fun j=>HZ w i j)else fU (ev x) fun w=>wH ev F fun i=>wH ev J fun j=>Ct C H t w i j)=some ro:=h;rw [A]at h;obtain⟨c,E,d⟩:=lT (show fU (ev x) (fun w=>wH ev F fun i=>wH ev J fun j=>Ct C H t w i j)=some ro from h);have key:∀i j,Ct C H t c i j=some ro->ro.H[k]? =some a:=fun i j I=>by obtain⟨z,O,T,l,_,_,_,_,_,K⟩:=Cs I;rcases K with⟨b,a0,_,_,_,rfl⟩|⟨b,a0,_,_,_,rfl⟩<;>exact I6 hid
    rcases TG d with⟨f,u⟩|⟨o,b,f,u,R⟩
    ·rcases TG u with⟨M,D⟩|⟨a,S,M,D,L⟩
     ·exact key _ _ D
     ·exact key _ _ L
    ·rcases TG R with⟨M,D⟩|⟨a,S,M,D,L⟩
     ·exact key _ _ D
     ·exact key _ _ L
  case alloc e=>
   simp only [iM]at h;split at h
   ·cases h;exact I6 hid
   ·cases h
  case box e x=>
   simp only [iM]at h;split at h
   ·cases h;exact I6 hid
   ·cases h
  case buildSlice t n W=>
   simp only [iM,ue]at h;split at h
   ·split at h
    ·have p:=(dJ (dJ h).2).2;split at p
     ·cases p;exact I6 hid
     ·cases p
    ·cases h
   ·cases h
  case store t x y=>
   obtain⟨c,E,d⟩:=lT (show fU (ev x) (fun w=>yQ C H t w (ev y))=some ro from h);unfold yQ at d;split at d
   ·rename_i n U _ _;have d:=(dJ d).2;split at d
    ·split at d
     ·split at d
      ·cases d;rw [M9 (r _ fQ)];exact hid
      ·cases d
     ·cases d
    ·rename_i z j V off;cases N:cV n 0 with
     |true=>rw [N]at d;cases d
     |false=>
      rw [N]at d;simp only [aG]at d;split at d
      ·split at d
       ·have p:=(dJ d).2;cases p;rw [M9 (r _ fQ)];exact hid
       ·cases d
      ·split at d
       ·split at d
        ·have p:=(dJ d).2;cases p;rw [M9 (r _ fQ)];exact hid
        ·cases d
       ·cases d
      ·cases d
    ·cases d
   ·cases d
  case makeSlice t x y=>
   obtain⟨w,E,d⟩:=lT (show fU (ev x) (fun w=>fU (ev y) fun i=>wG C H t (isZ x) w i)=some ro from h);obtain⟨c,p,f⟩:=lT d;unfold wG at f;split at f
   ·have u:=(dJ f).2;split at u
    ·cases u;exact I6 hid
    ·cases u
   ·cases f
  case call c=>
   obtain⟨callee,gH,P⟩:=c;cases callee<;>first|cases h|skip
   rename_i b;have h:IS C ev H b gH.toList P.toList=some ro:=h;unfold IS at h;split at h
   ·obtain⟨g,v,_,rfl⟩:=FO h;exact hid
   ·rename_i x y t t2 Z O Y;cases B:cV t t2 with
    |true=>
     rw [B]at h;obtain⟨w,E,d⟩:=lT h;obtain⟨c,p,f⟩:=lT d;unfold rP at f;split at f
     ·split at f
      ·split at f
       ·cases f;exact I6 hid
       ·cases f
      ·split at f
       ·cases f;exact I6 aF6
       ·cases f
      ·split at f
       ·cases f;exact I6 aF6
       ·cases f
      ·cases f
     ·cases f
    |false=>
     rw [B]at h;obtain⟨w,E,d⟩:=lT h;obtain⟨c,p,f⟩:=lT d;obtain⟨X,O,_,_,_,_,K⟩:=Ec f;rcases K with⟨_,rfl⟩|⟨z,l,_,_,rfl⟩
     ·exact I6 hid
     ·exact I6 aF6
   ·obtain⟨g,v,_,rfl⟩:=FO h;exact hid
   ·cases h
end
variable {o:Ob}{a:Nat}
theorem Ar{H obs:List Ob}(h:H[a]? =some o):(H++obs)[a]? =some o:=by rw [aH (aD.1 h).1];exact h
theorem XN{ss:List Src}:∀{r:List Rk} {y:(gG r).T} {l:List SA} {H:List Ob},a∉lB ss (Rk.ids r)->H[a]? =some o->(fK (uP ss) (l,H) r y).2[a]? =some o:=by
 have one:∀(q:Rk) (v:q.ty.T) (l:List SA) (H:List Ob),a∉lB ss (Rk.ids [q])->H[a]? =some o->(q.put (uP ss) (l,H) v).2[a]? =some o:=by
  intro q v l H b g;cases q with
  |r' x=>exact Ar g
  |o' j e x=>exact Ar (by rw [M9 (fun e=>b (by show a∈[uP ss j];rw [e];exact aE.2 rfl))];exact g)
  |w' j x=>
   show(qF H (uP ss j) x v)[a]? =some o;unfold qF;split
   ·rw [M9 (fun e=>b (by show a∈[uP ss j];rw [e];exact aE.2 rfl))];exact g
   ·exact g
 intro r;induction r with
 |nil=>intro y l H _ g;exact g
 |cons q r f=>
  intro y l H b g;cases r with
  |nil=>exact one q y l H b g
  |cons d r=>
   have c:a∉lB ss (Rk.ids [q])/\a∉lB ss (Rk.ids (d::r)):=by
    cases q with
    |r' x=>exact⟨(fun h=>by cases h),b⟩
    |o' i e x=>exact⟨fun h=>b (aP.2 (.inl (aE.1 h))),fun h=>b (fB _ h)⟩
    |w' i x=>exact⟨fun h=>b (aP.2 (.inl (aE.1 h))),fun h=>b (fB _ h)⟩
   exact f c.2 (one q y.1 l H c.1 g)
theorem FW{H:List Ob}{l:List Nat}(h:a∈l):∃q∈No H l,q.1=a:=⟨_,ayk h,rfl⟩
theorem Nb{H:List Ob}:∀{l:List Nat} {id:Nat},id∈l->∃q∈Xf H l,q.1=id
 |x::l,id,h=>by
  rcases aP.1 h with rfl|h
  ·exact⟨_,fQ,rfl⟩
  ·obtain⟨q,b,a⟩:=Nb (H:=H) h;exact⟨q,fB _ b,a⟩
section
variable {C:Cx}{ops:List Oper}{S S1:St}{o:Oper}
theorem Rz:∀(t:Ty) (s n c:Nat) (x:t.T),t.no=0->(t.lay s n x).1=(t.lay s c x).1:=by
 intro t;induction t with
 |w' t d=>intro s n c x h;exact d s n c x h
 |pr a b g f=>
  intro s n c x h;have j:a.no=0:=by have:a.no+b.no=0:=h;omega
  have i:b.no=0:=by have:a.no+b.no=0:=h;omega
  show(a.lay s n x.1).1++(b.lay s (n+a.no) x.2).1=(a.lay s c x.1).1++(b.lay s (c+a.no) x.2).1;rw [g s n c x.1 j,f s (n+a.no) (c+a.no) x.2 i]
 |f' k t d=>intro s n c x h;show [SC.f' k (kU (t.lay s n x).1)]=[SC.f' k (kU (t.lay s c x).1)];rw [d s n c x h]
 |l' e b t d=>intro s n c x h;cases h
 |y'=>intro s n c x h;cases h
 |r' t d=>intro s n c x h;cases h
 |p' e t d=>intro s n c x h;cases h
 |z'=>intro s n c x h;cases h
 |_=>intro s n c x h;rfl
theorem T6{any:Bool}{H H2:List Ob}:∀(t:Ty) (s:Nat) (l:List SC),t.no=0->t.rd any H2 s l=t.rd any H s l/\∀x r ss,t.rd any H s l=some (x,r,ss)->ss=[]:=by
 intro t;induction t with
 |w' t d=>intro s l h;exact d s l h
 |pr a b i g=>
  intro s l h;have B:a.no=0:=by have:a.no+b.no=0:=h;omega
  have A:b.no=0:=by have:a.no+b.no=0:=h;omega
  obtain⟨p,o⟩:=i s l B;simp only [Ty.rd];rw [p];cases w:a.rd any H s l with
  |none=>exact⟨rfl,fun x r ss h=>by cases h⟩
  |some q=>
   obtain⟨x,f,F⟩:=q;obtain⟨D,C⟩:=g s f A;simp only;rw [D];cases n:b.rd any H s f with
   |none=>exact⟨rfl,fun x r ss h=>by cases h⟩
   |some v=>obtain⟨y,G,u⟩:=v;refine⟨rfl,fun x r ss h=> ?_⟩;cases h;rw [o _ _ _ w,C _ _ _ n];rfl
 |sm a b _ _=>intro s l h;exact⟨rfl,fun x r ss h=>by cases h⟩
 |l' e b t d=>intro s l h;cases h
 |y'=>intro s l h;cases h
 |r' t d=>intro s l h;cases h
 |p' e t d=>intro s l h;cases h
 |z'=>intro s l h;cases h
 |u'=>intro s l h;exact⟨rfl,fun x r ss h=>by cases h;rfl⟩
 |o' j=>
  intro s l h;refine⟨rfl,fun x r ss h=> ?_⟩;simp only [Ty.rd]at h;split at h
  ·have:=dJ h;cases this.2;rfl
  ·cases h
 |f' k t d=>
  intro s l h;have h:t.no=0:=h;simp only [Ty.rd];split
  ·rename_i k' m f;obtain⟨p,o⟩:=d s (m.map fun id=>.p' id 0) h;rw [p];refine⟨rfl,fun x r ss h=> ?_⟩;have h:=(dJ h).2;split at h
   ·rename_i E u n;cases h;have:=dJ n;exact o _ _ _ this.2
   ·cases h
  ·exact⟨rfl,fun x r ss h=>by cases h⟩
 |_=>intro s l h;refine⟨rfl,fun x r ss h=> ?_⟩;obtain⟨c,_,_,z⟩:=nQ h;exact z
theorem AJ{any:Bool}{H H2:List Ob}{x:Ty}{v:SV}(h:x.no=0):OY any H2 x v=OY any H x v/\∀y ss,OY any H x v=some (y,ss)->ss=[]:=by
 have key:∀l,Pp (x.rd any H2 0 l)=Pp (x.rd any H 0 l)/\∀y ss,Pp (x.rd any H 0 l)=some (y,ss)->ss=[]:=by
  intro l;obtain⟨d,b⟩:=T6 (any:=any) (H:=H) (H2:=H2) x 0 l h;rw [d];refine⟨rfl,fun y ss h=> ?_⟩;unfold Pp at h;split at h
  ·rename_i a;cases h;exact b _ _ _ a
  ·cases h
 cases v with
 |c' c=>simp only [OY];cases x.tz<;>cases x.agg<;>simp only [aL,aG]<;>first|exact key _|exact⟨rfl,fun y ss h=>by cases h⟩|exact⟨trivial,fun y ss h=>by cases h⟩
 |a' l=>simp only [OY];cases x.tz<;>cases x.agg<;>simp only [aL,aG]<;>first|exact key _|exact⟨rfl,fun y ss h=>by cases h⟩|exact⟨trivial,fun y ss h=>by cases h⟩
 |_=>exact⟨rfl,fun y ss h=>by cases h⟩
theorem Js{H H2:List Ob}:∀(l:List Ty) (vs:List SV),pY l=true->KS H2 l vs=KS H l vs/\∀y ss,KS H l vs=some (y,ss)->ss=[]
 |[],vs,h=>by
  cases vs with
  |nil=>exact⟨rfl,fun y ss h=>by cases h;rfl⟩
  |cons v vs=>exact⟨rfl,fun y ss h=>by cases h⟩
 |[x],vs,h=>by
  have h:=iE (show(bif cV x.no 0 then pY []else false)=true from h);have hx:=iL h.1
  match vs with
  |[]=>exact⟨rfl,fun y ss h=>by cases h⟩
  |[v]=>exact AJ hx
  |_::_::_=>exact⟨rfl,fun y ss h=>by cases h⟩
 |x::y::l,vs,h=>by
  have h:=iE (show(bif cV x.no 0 then pY (y::l)else false)=true from h);have hx:=iL h.1
  match vs with
  |[]=>exact⟨rfl,fun y ss h=>by cases h⟩
  |v::vs=>
   obtain⟨j,i⟩:=AJ (any:=true) (H:=H) (H2:=H2) (v:=v) hx;obtain⟨g,f⟩:=Js (H:=H) (H2:=H2) (y::l) vs h.2;simp only [KS];rw [j];cases e:OY true H x v with
   |none=>exact⟨rfl,fun y ss h=>by cases h⟩
   |some q=>
    obtain⟨a,m⟩:=q;simp only;rw [g];cases d:KS H (y::l) vs with
    |none=>exact⟨rfl,fun y ss h=>by cases h⟩
    |some c=>obtain⟨b,k⟩:=c;refine⟨rfl,fun y ss h=> ?_⟩;cases h;rw [i _ _ e,f _ _ d];rfl
theorem Sa:∀(l:List Ty) (H:List Ob) (x:(gK l).T),pY l=true->(jE H l x).2=H
 |[],H,x,h=>rfl
 |[t],H,x,h=>by have h:=iE (show(bif cV t.no 0 then pY []else false)=true from h);show H++(t.lay 0 H.length x).2=H;rw [Fp ((Ty.eR t 0 H.length x).trans (iL h.1)),gA]
 |t::y::l,H,x,h=>by have h:=iE (show(bif cV t.no 0 then pY (y::l)else false)=true from h);show(jE (H++(t.lay 0 H.length x.1).2) (y::l) x.2).2=H;rw [Fp ((Ty.eR t 0 H.length x.1).trans (iL h.1)),gA];exact Sa (y::l) H x.2 h.2
theorem pA{k:Rk}{l:List Rk}(h:pX (k::l)=true):∃x,k=.r' x/\x.no=0/\pX l=true:=by
 cases k with
 |r' x=>have h:=iE (show(bif cV x.no 0 then pX l else false)=true from h);exact⟨x,rfl,iL h.1,h.2⟩
 |_=>cases h
theorem Cj{a:Nat->Nat}:∀(r:List Rk) (y:(gG r).T) (l:List SA) (H:List Ob),pX r=true->(fK a (l,H) r y).2=H/\∀H2,(fK a (l,H2) r y).1=(fK a (l,H) r y).1
 |[],y,l,H,h=>⟨rfl,fun _=>rfl⟩
 |[k],y,l,H,h=>by
  obtain⟨x,rfl,hx,_⟩:=pA h;have e:∀n,(x.lay 0 n y).2=[]:=fun n=>Fp ((Ty.eR x 0 n y).trans hx);refine⟨?_,fun H2=> ?_⟩
  ·show H++(x.lay 0 H.length y).2=H;rw [e,gA]
  ·show l++[x.sa (x.lay 0 H2.length y).1]=l++[x.sa (x.lay 0 H.length y).1];rw [Rz x 0 H2.length H.length y hx]
 |k::b::r,y,l,H,h=>by
  obtain⟨x,rfl,hx,d⟩:=pA h;have e:∀n,(x.lay 0 n y.1).2=[]:=fun n=>Fp ((Ty.eR x 0 n y.1).trans hx);have c:∀H,fK a (l,H) (.r' x::b::r) y=fK a (l++[x.sa (x.lay 0 0 y.1).1],H) (b::r) y.2:=fun H=>by show fK a (l++[x.sa (x.lay 0 H.length y.1).1],H++(x.lay 0 H.length y.1).2) (b::r) y.2=_;rw [e,gA,Rz x 0 H.length 0 y.1 hx]
  rw [c];obtain⟨g,f⟩:=Cj (b::r) y.2 (l++[x.sa (x.lay 0 0 y.1).1]) H d;refine⟨g,fun H2=> ?_⟩;rw [c];exact f H2
theorem CT:∀(r:List Rk),pX r=true->Rk.ids r=[]
 |[],h=>rfl
 |k::r,h=>by obtain⟨x,rfl,_,a⟩:=pA h;exact CT r a
theorem Qs{H H2:List Ob}{ss:List Src}:∀(r:List Rk),pX r=true->Fu H2 ss r=Fu H ss r
 |[],h=>rfl
 |k::r,h=>by obtain⟨x,rfl,_,a⟩:=pA h;simp only [Fu];rw [Qs r a]
theorem Sv:∀{l:List Gt} {c:Gt},c∈l->MR l=true->pY c.a=true/\pX c.r=true
 |x::l,c,b,h=>by
  have h:=iE (show(bif pY x.a then(bif pX x.r then MR l else false)else false)=true from h);have d:=iE h.2;rcases aP.1 b with rfl|b
  ·exact⟨h.1,d.1⟩
  ·exact Sv b d.2
variable {c:Gt}{d:Option Nat}{b:List Src}{a:(gK c.a).T}{y:(gG c.r).T}
theorem sP{t:Nat}:(kQ c S d a b y).at t=if d=some t then mW (fK (uP b) ([],kill S.H (Xl (Rk.ids c.r) (jE [] c.a a).2 0 b)) c.r y).1 else S.at t:=by have e:kQ c S d a b y=St.uI ⟨S.F,(fK (uP b) ([],kill S.H (Xl (Rk.ids c.r) (jE [] c.a a).2 0 b)) c.r y).2,S.nb,S.al,jS c S a b++S.m⟩ d (mW (fK (uP b) ([],kill S.H (Xl (Rk.ids c.r) (jE [] c.a a).2 0 b)) c.r y).1):=rfl;rw [e,uG];rfl
theorem Xq{S:St}{v:SV}:(S.uI d v).H=S.H/\(S.uI d v).m=S.m/\(S.uI d v).nb=S.nb/\(S.uI d v).al=S.al:=by cases d<;>exact⟨rfl,rfl,rfl,rfl⟩
theorem RW:(kQ c S d a b y).H=(fK (uP b) ([],kill S.H (Xl (Rk.ids c.r) (jE [] c.a a).2 0 b)) c.r y).2/\(kQ c S d a b y).m=jS c S a b++S.m/\(kQ c S d a b y).nb=S.nb/\(kQ c S d a b y).al=S.al:=by have e:kQ c S d a b y=St.uI ⟨S.F,(fK (uP b) ([],kill S.H (Xl (Rk.ids c.r) (jE [] c.a a).2 0 b)) c.r y).2,S.nb,S.al,jS c S a b++S.m⟩ d (mW (fK (uP b) ([],kill S.H (Xl (Rk.ids c.r) (jE [] c.a a).2 0 b)) c.r y).1):=rfl;rw [e];exact⟨Xq.1,Xq.2.1,Xq.2.2.1,Xq.2.2.2⟩
theorem vr{d:Option Nat}{y:(gG c.r).T}(g:pY c.a=true)(b:pX c.r=true):(kQ c S d a [] y).H=S.H/\(kQ c S d a [] y).m=S.m/\jS c S a []=[]/\∀S2:St,mW (fK (uP []) ([],kill S2.H (Xl (Rk.ids c.r) (jE [] c.a a).2 0 [])) c.r y).1=mW (fK (uP []) ([],kill S.H (Xl (Rk.ids c.r) (jE [] c.a a).2 0 [])) c.r y).1:=by
 have e:Xl (Rk.ids c.r) (jE [] c.a a).2 0 []=[]:=by rw [Sa c.a [] a g];rfl
 have f:jS c S a []=[]:=by unfold jS;rw [e,CT c.r b];rfl
 refine⟨?_, ?_,f,fun S2=> ?_⟩
 ·rw [RW.1,e];exact(Cj c.r y [] S.H b).1
 ·rw [RW.2.1,f];rfl
 ·rw [e];show mW (fK (uP []) ([],S2.H) c.r y).1=mW (fK (uP []) ([],S.H) c.r y).1;rw [(Cj c.r y [] S.H b).2 S2.H]
theorem YI{ev:Operand->SV}{H:List Ob}{op:Op}{ro:Ro}(h:iM C ev H op=some ro)(a:qt C op=true):Ci C op=true:=by
 unfold qt at a;cases b:Ci C op with
 |true=>rfl
 |false=>
  rw [b]at a;simp only [aG]at a;split at a
  ·rename_i c;split at a
   ·rename_i k d;simp only [iM,d]at h;cases h
   ·cases a
  ·cases a
theorem Nd(h:kt C S o S1)(g:qt C o.op=true):∃b f k e c a y,o.op=.call b/\b.callee=.value f/\S.ev C f=.c' (.f' k e)/\c∈C.X k/\KS S.H c.a (b.args.toList.map (S.ev C)++RS e)=some (a,[])/\mM c S a []=true/\(c.f a).ok y/\S1=kQ c S o.dst a [] y/\pY c.a=true/\pX c.r=true:=by
 obtain⟨b,f,k,e,c,a,w,y,i,p,j,u,t,m,x,q⟩:=h.ex;unfold qt at g;rw [i]at g;have l:Ci C (.call b)=false:=by
  show(match b.callee with
   |.builtin .len=>true
   |.builtin .min=>true
   |.builtin .max=>true
   |_=>false)=false
  rw [p]
 rw [l]at g;simp only [aG,p]at g;split at g
 ·rename_i s n;cases n;have d:S.ev C (.func s)=.c' (.f' s []):=rfl;rw [d]at j;cases j;obtain⟨v,z⟩:=Sv u g;obtain rfl:=(Js (H:=S.H) (H2:=S.H) c.a _ v).2 a w t;exact⟨b,_,_,_,c,a,y,i,p,d,u,t,m,x,q,v,z⟩
 ·cases g
theorem J8(h:FQ C ops S o S1):(∀t,o.dst≠some t->S1.at t=S.at t)/\S1.nb=S.nb/\S1.al=S.al:=by
 cases h with
 |op j ro h r i p=>refine⟨fun t g=> ?_,Xq.2.2.1,Xq.2.2.2⟩;rw [uG,aA g];rfl
 |mv j x d b hx i q=>exact⟨fun t g=>by rw [lI,aA (fun e=>g (by rw [i,e]))],rfl,rfl⟩
 |skip j d i=>exact⟨fun t g=>by rw [lI,aA (fun e=>g (by rw [i,e]))],rfl,rfl⟩
 |call j _ h=>obtain⟨m,f,k,l,c,a,n,y,_,_,_,_,_,_,_,rfl⟩:=h;exact⟨fun t g=>by rw [sP,aA g],RW.2.2.1,RW.2.2.2⟩
theorem Tq(h:FQ C ops S o S1)(g:qt C o.op=true):S1.H=S.H/\S1.m=S.m:=by
 cases h with
 |op e ro h s i q=>have:=Hi (H2:=S.H) (YI h g) h (fun _ _ _ h=>h);refine⟨Xq.1.trans this.1,Xq.2.1.trans ?_⟩;show ro.m++S.m=S.m;rw [this.2.1];rfl
 |mv e x d b hx i r=>exact⟨rfl,rfl⟩
 |skip e d i=>exact⟨rfl,rfl⟩
 |call e _ h=>obtain⟨p,f,k,n,c,a,y,_,_,_,_,_,_,_,rfl,l,j⟩:=Nd h g;exact⟨(vr l j).1,(vr l j).2.1⟩
theorem NS(h:FQ C ops S o S1):∃p,S1.m=p++S.m/\∀(id:Nat) (e:Ob),(∀q∈p,q.1≠id)->eX S.H id=some e->eX S1.H id=some e:=by
 cases h with
 |op j ro h z r v=>refine⟨ro.m,Xq.2.1,fun id e g hid=> ?_⟩;rw [gQ]at hid⊢;rw [Xq.1];exact V1 h g hid
 |mv j x d b hx r w=>exact⟨[],rfl,fun id e _ h=>h⟩
 |skip j d r=>exact⟨[],rfl,fun id e _ h=>h⟩
 |call j _ h=>
  obtain⟨u,f,k,t,c,a,s,y,_,_,_,_,_,_,_,rfl⟩:=h;refine⟨jS c S a s,RW.2.1,fun id e g hid=> ?_⟩;rw [gQ]at hid⊢;rw [RW.1];refine XN (fun i=> ?_) ?_
  ·obtain⟨q,n,l⟩:=Nb (H:=S.H) i;exact g q (SO _ n) l
  ·rw [NL,aA (fun i=> ?_)]
   ·exact hid
   ·obtain⟨q,n,l⟩:=FW (H:=S.H) i;exact g q (Bp _ n) l
theorem Cv{S S2:St}(a:S2.nb=S.nb)(b:S2.al=S.al):∀l,S2.Bg l=S.Bg l
 |[]=>rfl
 |x::l=>by show(bif S2.ok x then S2.Bg l else false)=(bif S.ok x then S.Bg l else false);rw [Cv a b l];unfold St.ok;rw [a,b]
theorem J7(h:FQ C ops S o S1){S2:St}(ho:∀t,Operand.tmp t∈o.op.operands->S2.at t=S.at t)(a0:∀t∈Sl ops o,S2.at t=S.at t)(l:S2.nb=S.nb)(n:S2.al=S.al)
  (hq:qt C o.op=true->ei S.H S2.H (Sp (S.ev C) o.op)) (N:qt C o.op=false->S2.H=S.H):
  ∃K,FQ C ops S2 o K/\(∀t,K.at t=if o.dst=some t then S1.at t else S2.at t)/\K.nb=S.nb/\K.al=S.al/\(qt C o.op=true->K.H=S2.H/\K.m=S2.m)/\(qt C o.op=false->K.H=S1.H/\∀L,S1.m=L++S.m->K.m=L++S2.m):=by
 have s:∀x∈o.op.operands,S2.ev C x=S.ev C x:=by
  intro x hx;cases x with
  |tmp t=>show(bif fZ t C.nn then S2.at t else .u')=(bif fZ t C.nn then S.at t else .u');rw [ho t hx]
  |_=>rfl
 have z:∀b,SL C ops S o b->SL C ops S2 o b:=by
  intro b D;have gs:∀(q:Nat×Bool) (dg:Nat),o.guard=some q->DK ops q.1=some dg->S2.at dg=S.at dg:=by intro q dg A G;refine a0 dg ?_;unfold Sl;rw [A];simp only [G,aE]
  cases D with
  |none h=>exact .none h
  |yes q dg h A G U=>exact .yes q dg h A G aF9
  |no q dg h A G U=>exact .no q dg h A G aF9
  |un q dg h A G U=>exact .un q dg h A G aF9
 have X:= @Hi C;cases h with
 |op D ro h ha I hm=>
  cases i:qt C o.op with
  |true=>
   have A:=Hi (H2:=S2.H) (YI h i) h (hq i);have G:iM C (S2.ev C) S2.H o.op=some ⟨ro.g,ro.v,S2.H,[]⟩:=by rw [Re s];exact A.2.2
   refine⟨_,.op (z _ D) ⟨ro.g,ro.v,S2.H,[]⟩ G ha I rfl,fun t=> ?_,Xq.2.2.1.trans l,Xq.2.2.2.trans n,fun _=>⟨Xq.1,Xq.2.1⟩,fun e=>by cases e⟩;rw [uG,uG];split<;>rfl
  |false=>
   have J:=N i;have G:iM C (S2.ev C) S2.H o.op=some ro:=by rw [Re s,J];exact h
   refine⟨_,.op (z _ D) ro G ha I (by rw [Cv l n];exact hm),fun t=> ?_,Xq.2.2.1.trans l,Xq.2.2.2.trans n,(fun e=>by cases e),fun _=>⟨by rw [Xq.1,Xq.1],fun L j=> ?_⟩⟩
   ·rw [uG,uG];split<;>rfl
   ·rw [Xq.2.1]at j⊢;have:=List.append_cancel_right j;show ro.m++S2.m=_;rw [this]
 |mv D x d b hx I hb=>
  have W:x∈o.op.operands:=by
   obtain⟨a4,op,ty,pos,after,gd⟩:=o;cases op<;>first|cases hx|skip
   ·simp [lY]
   ·simp [lY]
  have i:qt C o.op=true:=by
   obtain⟨a4,op,ty,pos,after,gd⟩:=o;cases op<;>first|cases hx|skip
   ·rfl
   ·rfl
  refine⟨_,.mv (z _ D) x d b hx I (by rw [s x W];exact hb),fun t=> ?_,l,n,fun _=>⟨rfl,rfl⟩,fun e=>by rw [i]at e;cases e⟩;rw [lI,lI,I];by_cases e:t=d
  ·subst e;simp
  ·have e2:¬(some d:Option Nat)=some t:=fun N=>e (aJ N).symm;rw [aA e,aA e2]
 |skip D d I=>
  have a2:∀t,(S2.set d .n').at t=if o.dst=some t then(S.set d .n').at t else S2.at t:=by
   intro t;rw [lI,lI,I];by_cases e:t=d
   ·subst e;simp
   ·have e2:¬(some d:Option Nat)=some t:=fun N=>e (aJ N).symm;rw [aA e,aA e2]
  exact⟨_,.skip (z _ D) d I,a2,l,n,fun _=>⟨rfl,rfl⟩,fun i=>⟨N i,fun L j=>by have j:S.m=L++S.m:=j;have:L=[]:=List.append_left_eq_self.1 j.symm;rw [this];rfl⟩⟩
 |call D _ h=>
  cases i:qt C o.op with
  |true=>
   obtain⟨u,f,k,M,c,a,y,p,T,O,hc,Y,w,V,rfl,F,E⟩:=Nd h i;have P:f∈o.op.operands:=by rw [p];simp [lY,Call.operands,T]
   have Q:u.args.toList.map (S2.ev C)=u.args.toList.map (S.ev C):=map_congr fun x hx=>s x (by rw [p];simp only [lY,Call.operands,xH];exact .inr aE0);have e0:∀Z:St,jS c Z a []=[]:=fun Z=>(vr (S:=Z) (d:=none) (y:=y) F E).2.2.1;have B:mM c S2 a []=true:=by unfold mM at w⊢;rw [e0,Qs (H:=S.H) c.r E];rw [e0]at w;exact w
   refine⟨_,.call (z _ D) _ ⟨u,f,k,M,c,a,[],y,p,T,by rw [s f P];exact O,hc,by rw [Q,(Js (H:=S.H) (H2:=S2.H) c.a _ F).1];exact Y,B,V,rfl⟩,fun t=> ?_,RW.2.2.1.trans l,RW.2.2.2.trans n,fun _=>⟨(vr F E).1,(vr F E).2.1⟩,(fun e=>by cases e)⟩;rw [sP,sP];by_cases e:o.dst=some t
   ·rw [aB e,aB e,aB e];exact(vr (S:=S) (d:=none) F E).2.2.2 S2
   ·rw [aA e,aA e]
  |false=>
  have J:=N i;obtain⟨u,f,k,M,c,a,R,y,p,T,O,hc,Y,w,V,rfl⟩:=h;have P:f∈o.op.operands:=by rw [p];simp [lY,Call.operands,T]
  have Q:u.args.toList.map (S2.ev C)=u.args.toList.map (S.ev C):=map_congr fun x hx=>s x (by rw [p];simp only [lY,Call.operands,xH];exact .inr aE0)
  have B:mM c S2 a R=true:=by
   unfold mM at w⊢;rw [Cv l n,J];have e:jS c S2 a R=jS c S a R:=by unfold jS;rw [J]
   rw [e];exact w
  refine⟨_,.call (z _ D) _ ⟨u,f,k,M,c,a,R,y,p,T,by rw [s f P];exact O,hc,by rw [Q,J];exact Y,B,V,rfl⟩,fun t=> ?_,RW.2.2.1.trans l,RW.2.2.2.trans n,(fun e=>by cases e),fun _=>⟨?_,fun L j=> ?_⟩⟩
  ·rw [sP,sP,J];split<;>rfl
  ·rw [RW.1,RW.1,J]
  ·rw [RW.2.1]at j⊢;have:=List.append_cancel_right j;have e:jS c S2 a R=jS c S a R:=by unfold jS;rw [J]
   rw [e,this]
end
open Go.Wk
open Go.Ce (Tr)
open Go.Op renaming operands → lY
open Nat renaming beq → cV, succ → oA
theorem EW:∀(l:List Oper) (A:List (List Nat)),(∃B,fX l A=A++B)/\∀(i:Nat) (o:Oper),l[i]? =some o->(fX l A)[A.length+i]? =some (Gm ((fX l A).take (A.length+i)) o.after.toList)
 |[],A=>⟨⟨[],by simp [fX]⟩,fun i o h=>by simp at h⟩
 |o::l,A=>by
  obtain⟨⟨B,b⟩,c⟩:=EW l (A++[Gm A o.after.toList]);have e:fX (o::l) A=fX l (A++[Gm A o.after.toList]):=rfl;refine⟨⟨[Gm A o.after.toList]++B,by rw [e,b,gJ]⟩,fun i a h=> ?_⟩;cases i with
  |zero=>have h:o=a:=aA9;subst h;rw [e,b,Bm,gJ,aN (eV _),Ov];simp
  |succ i=>have:=c i a aA9;rw [bM,eL,Bn,Gy 1 i]at this;rw [e];exact this
theorem Iu{j:Nat}:∀{l r:List Nat},j∈OI l r↔j∈l\/j∈r
 |[],r=>by simp [OI]
 |x::l,r=>by
  unfold OI;cases h:lS x r with
  |true=>have hx:=To.1 h;rw [aL,Iu,SQ];exact⟨fun h=>h.elim (fun h=>.inl (.inr h)) .inr,fun h=>h.elim (fun h=>h.elim (fun e=>.inr (e▸hx)) .inl) .inr⟩
  |false=>rw [aG,Iu,SQ,SQ];exact⟨fun h=>h.elim (fun h=>.inl (.inr h)) (fun h=>h.elim (fun e=>.inl (.inl e)) .inr),fun h=>h.elim (fun h=>h.elim (fun e=>.inr (.inl e)) .inl) (fun h=>.inr (.inr h))⟩
theorem EX{A:List (List Nat)}{j:Nat}:∀{l:List Edge},j∈Gm A l↔∃e∈l,Region.binds .any e=true/\(j=e.on\/j∈Bh A e.on)
 |[]=>by simp [Gm]
 |e::l=>by
  have b:=EX (A:=A) (j:=j) (l:=l);have d:(match eX A e.on with
   |some a=>a
   |none=>[])=Bh A e.on:=rfl
  simp only [Gm,d];cases c:Region.binds .any e with
  |true=>simp only [aL,Iu,SQ,b,exists_eq_or_imp,c,true_and];exact Iff.rfl
  |false=>simp only [aG,b,SQ,exists_eq_or_imp,c,pQ,false_and,false_or]
theorem nU:∀{l:List Oper} {i:Nat},Fi l i=true->∀(j:Nat) (o:Oper),l[j]? =some o->∀e∈o.after,Region.binds .any e=true->e.on<i+j
 |[],i,_,j,o,a=>by simp at a
 |x::l,i,h,j,o,a=>by
  have h:=iE (show(bif _ then Fi l (oA i)else false)=true from h);intro e b c;cases j with
  |zero=>have a:x=o:=aC0;subst a;have:=aT.1 h.1 e aB6;rw [c]at this;simpa [jJ] using this
  |succ j=>have:=nU h.2 j o aC0 e b c;omega
theorem Nq{A:List (List Nat)}{k i:Nat}(h:i<k):Bh (A.take k) i=Bh A i:=by unfold Bh;rw [gQ,gQ,bO,aB h]
section
variable {l:List Oper}
variable {i:Nat}
theorem NM(g:Fi l 0=true){o:Oper}(f:l[i]? =some o){j:Nat}:j∈Bh (fX l []) i↔∃e∈o.after,Region.binds .any e=true/\(j=e.on\/j∈Bh (fX l []) e.on):=by
 have h:=(EW l []).2 i o f;rw [eO,Gz]at h;have e:Bh (fX l []) i=Gm ((fX l []).take i) o.after.toList:=by unfold Bh;rw [gQ,h]
 rw [e,EX];constructor
 ·rintro⟨e,c,b,d⟩;have a:e∈o.after:=aC3;have:=nU g i o f e a b;rw [Nq aA0]at d;exact⟨e,a,b,d⟩
 ·rintro⟨e,c,b,d⟩;have:=nU g i o f e c b;refine⟨e,aC3,b, ?_⟩;rw [Nq aA0];exact d
theorem IN(h:l[i]? =none):Bh (fX l []) i=[]:=by
 have key:∀(l:List Oper) (A:List (List Nat)),(fX l A).length=A.length+l.length:=by
  intro l;induction l with
  |nil=>intro A;rfl
  |cons o l a=>intro A;rw [show fX (o::l) A=fX l (A++[Gm A o.after.toList])from rfl,a];simp;omega
 unfold Bh;have c:=List.getElem?_eq_none_iff.1 h;have b:=key l [];rw [gQ,bL aF8]
theorem IM(d:Fi l 0=true):∀(i j:Nat),j∈Bh (fX l []) i->j<i:=by
 intro i;induction i using Nat.strongRecOn with
 |_ i f=>
  intro j b;cases a:l[i]? with
  |none=>rw [IN a]at b;cases b
  |some o=>
   obtain⟨e,g,h,c⟩:=(NM d a).1 b;have k:=nU d i o a e g h;rcases c with rfl|c
   ·omega
   ·have:=f e.on aA0 j c;omega
theorem Np{ops:Array Oper}{listed:Array Bool}(w:l=ops.toList.take i)(s:Fi l 0=true)(g:HeadInv .any ops i listed):∀(k:Nat) (o:Oper),l[k]? =some o->(∀e∈o.after,Region.binds .any e=true->listed.getD e.on false=true)->∀j∈Bh (fX l []) k,listed.getD j false=true:=by
 intro k;induction k using Nat.strongRecOn with
 |_ k v=>
  intro o m d j x;obtain⟨e,r,u,q⟩:=(NM s m).1 x;have A:=nU s k o m e r u;have t:=d e r u;rcases q with rfl|q
  ·exact t
  ·have z:=(aD.1 m).1;have c:e.on<l.length:=by omega
   obtain⟨f,b⟩:∃f,l[e.on]? =some f:=⟨_,aM c⟩
   have h:ops[e.on]? =some f:=by
    have a:=b;rw [w,bO]at a;split at a
    ·simpa using a
    ·cases a
   exact v e.on aA0 _ b (fun y n p=>g.closed e.on _ h t y n p) j q
end
theorem Rc{A:List (List Nat)}{i:Nat}{rd:List Nat}:∀{l:List Oper} {a:Nat},Kj A i rd l a=true->∀(j:Nat) (o:Oper) (d:Nat),l[j]? =some o->o.dst=some d->d∈rd->i=a+j\/AY A i (a+j)=true
 |[],a,_,j,o,d,b=>by simp at b
 |x::l,a,h,j,o,d,b=>by
  have h:=iE (show(bif _ then Kj A i rd l (oA a)else false)=true from h);intro f e;cases j with
  |zero=>
   have b:x=o:=aB6;subst b;have c:=h.1;rw [f]at c;simp only [To.2 e,aL]at c;cases g:cV i a with
   |true=>exact .inl (iL g)
   |false=>rw [g]at c;exact .inr c
  |succ j=>have:=Rc h.2 j o d aB6 f e;rw [show oA a+j=a+(j+1)by omega]at this;exact this
theorem Ki{ops:List Oper}{A:List (List Nat)}{all:List Oper}:∀{l:List Oper} {a:Nat},yO ops A all l a=true->∀(i:Nat) (o:Oper),l[i]? =some o->Kj A (a+i) (yP o.op.operands.toList++Sl ops o) all 0=true
 |[],a,_,i,o,b=>by simp at b
 |x::l,a,h,i,o,b=>by
  have h:=iE (show(bif _ then yO ops A all l (oA a)else false)=true from h);cases i with
  |zero=>have b:x=o:=aB6;subst b;exact h.1
  |succ i=>have:=Ki h.2 i o aB6;rw [show oA a+i=a+(i+1)by omega]at this;exact this
theorem Rq{A:List (List Nat)}{i:Nat}{q:Bool×List Nat}:∀{l:List (Bool×List Nat)} {a:Nat},Kr A i q l a=true->∀(j:Nat) (p:Bool×List Nat),l[j]? =some p->i≠a+j->AY A i (a+j)=false->p.1=true->q.1=false/\∀x∈q.2,x∉p.2
 |[],a,_,j,p,b=>by simp at b
 |x::l,a,h,j,p,b=>by
  have h:=iE (show(bif _ then Kr A i q l (oA a)else false)=true from h);intro g d f;cases j with
  |zero=>
   have b:x=p:=aB6;subst b;have c:=h.1;have k:cV i a=false:=by rw [I0];simp;omega
   rw [Bm]at d;rw [k,d,f]at c;simp only [aG,aL]at c;cases e:q.1 with
   |true=>rw [e]at c;cases c
   |false=>rw [e]at c;exact⟨rfl,sJ.1 c⟩
  |succ j=>refine Rq h.2 j p aB6 aA0 ?_ f;rw [show oA a+j=a+(j+1)by omega];exact d
theorem BD{A:List (List Nat)}{all:List (Bool×List Nat)}:∀{l:List (Bool×List Nat)} {a:Nat},BE A all l a=true->∀(i:Nat) (q:Bool×List Nat),l[i]? =some q->Kr A (a+i) q all 0=true
 |[],a,_,i,q,b=>by simp at b
 |x::l,a,h,i,q,b=>by
  have h:=iE (show(bif _ then BE A all l (oA a)else false)=true from h);cases i with
  |zero=>have b:x=q:=aB6;subst b;exact h.1
  |succ i=>have:=BD h.2 i q aB6;rw [show oA a+i=a+(i+1)by omega]at this;exact this
theorem Rb{C:Cx}{ops:List Oper}{ρ':Ty}{d:St->List (Bool×List Nat)->Option ρ'.T}{r:ρ'.T}:∀(l:List Oper) (i:Nat) (S:St) (c:List (Bool×List Nat)),V0 C ops l i S c d=some r->
  ∃(T:Nat->St) (es:List (Bool×List Nat)),T 0=S/\(∀(j:Nat) (o:Oper),l[j]? =some o->FQ C ops (T j) o (T (j+1))/\es[j]? =some (entry C (T j) (T (j+1)) o))/\d (T l.length) (c++es)=some r
 |[],i,S,c,h=>⟨fun _=>S,[],rfl,fun j o a=>by simp at a,by rw [gA];exact h⟩
 |o::l,i,S,c,h=>by
  obtain⟨b,n,m⟩:=Zw (show OV C ops i S o (fun b=>V0 C ops l (oA i) b (c++[entry C S b o]) d)=some r from h);obtain⟨T,es,k,g,f⟩:=Rb l (oA i) b _ m;refine⟨fun j=>match j with
   |0=>S
   |j+1=>T j,entry C S b o::es,rfl,fun j e a=> ?_,by rw [gJ]at f;exact f⟩
  cases j with
  |zero=>have a:o=e:=aC0;subst a;show FQ C ops S o (T 0)/\some (entry C S b o)=some (entry C S (T 0) o);rw [k];exact⟨n,rfl⟩
  |succ j=>exact g j e aC0
theorem Wd:∀l:List Rg,ZE l=l.length
 |[]=>rfl
 |_::l=>by show oA (ZE l)=_;rw [Wd l];rfl
theorem DL:∀{a m:List Rg} {q:Rg},q∈a->q.1∈C2 a.length (a++m)
 |x::a,m,q,h=>by
  show q.1∈x.1::C2 a.length (a++m);rcases aP.1 h with rfl|h
  ·exact fQ
  ·exact fB _ (DL h)
section
variable {C:Cx}{md:Md}{w0:World}{S0:List Nat}{GS:If}
structure Way (C:Cx) (ops:List Oper) (l:List Oper) (T:Nat->St) (es:List (Bool×List Nat)):Prop where
 st:∀(j:Nat) (o:Oper),l[j]? =some o->FQ C ops (T j) o (T (j+1))/\es[j]? =some (entry C (T j) (T (j+1)) o)
 nd:∀(i j:Nat) (o o2:Oper) (t:Nat),l[i]? =some o->l[j]? =some o2->o.dst=some t->o2.dst=some t->i=j
variable {ops l:List Oper}{T:Nat->St}{es:List (Bool×List Nat)}
theorem Way.at(h:Way C ops l T es)(t:Nat):∀i,i<=l.length->(∀(j:Nat) (o:Oper),l[j]? =some o->o.dst=some t->(T i).at t=if j<i then(T (j+1)).at t else(T 0).at t)/\((∀(j:Nat) (o:Oper),l[j]? =some o->o.dst≠some t)->(T i).at t=(T 0).at t)
 |0,_=>⟨fun j o _ _=>by simp,fun _=>rfl⟩
 |i+1,q=>by
  obtain⟨p,n⟩:=h.at t i aA0;have a:l[i]? =some (l[i]' aA0):=aM aA0;have b:=(J8 (h.st i _ a).1).1;refine⟨fun j o k m=> ?_,fun g=> ?_⟩
  ·by_cases d:j=i
   ·subst d;rw [aB aA0]
   ·have f:(l[i]' aA0).dst≠some t:=fun e=>d (h.nd j i _ _ t k a m e);rw [b t f,p j o k m];by_cases c:j<i
    ·rw [aB c,aB aA0]
    ·rw [aA c,aA aA0]
  ·rw [b t (g i _ a)];exact n g
theorem Way.nb(h:Way C ops l T es):∀i,i<=l.length->(T i).nb=(T 0).nb/\(T i).al=(T 0).al
 |0,_=>⟨rfl,rfl⟩
 |i+1,f=>by have a:l[i]? =some (l[i]' aA0):=aM aA0;obtain⟨_,e,d⟩:=J8 (h.st i _ a).1;obtain⟨c,b⟩:=h.nb i aA0;exact⟨e.trans c,d.trans b⟩
theorem Way.still(h:Way C ops l T es):∀(d i:Nat),i+d<=l.length->(∀(j:Nat) (o:Oper),i<=j->j<i+d->l[j]? =some o->qt C o.op=true)->(T (i+d)).H=(T i).H/\(T (i+d)).m=(T i).m
 |0,i,_,_=>⟨rfl,rfl⟩
 |d+1,i,k,c=>by obtain⟨b,e⟩:=h.still d i aA0 (fun j o b e=>c j o b aA0);have a:l[i+d]? =some (l[i+d]' aA0):=aM aA0;obtain⟨g,f⟩:=Tq (h.st (i+d) _ a).1 (c _ _ aA0 aA0 a);exact⟨g.trans b,f.trans e⟩
theorem Way.Wj(h:Way C ops l T es){id:Nat}{n:Ob}:∀(d i:Nat),i+d<=l.length->(∀(j:Nat) (o:Oper) (p:Bool×List Nat),i<=j->j<i+d->l[j]? =some o->es[j]? =some p->p.1=true->id∉p.2)->eX (T i).H id=some n->eX (T (i+d)).H id=some n
 |0,i,_,_,r=>r
 |d+1,i,w,g,r=>by
  have k:=h.Wj d i aA0 (fun j o p k s=>g j o p k aA0) r;have c:l[i+d]? =some (l[i+d]' aA0):=aM aA0;obtain⟨s,v⟩:=h.st (i+d) _ c;have b:=g (i+d) _ _ aA0 aA0 c v;unfold entry at b;cases a:qt C (l[i+d]' aA0).op with
  |true=>show eX (T (i+d+1)).H id=_;rw [(Tq s a).1];exact k
  |false=>rw [a]at b;have b:=b rfl;obtain⟨f,u,t⟩:=NS s;refine t id n (fun q g e=>b ?_) k;rw [Wd,Wd,u,bM];show id∈C2 (Nat.sub (f.length+(T (i+d)).m.length) (T (i+d)).m.length) (f++(T (i+d)).m);rw [show Nat.sub (f.length+(T (i+d)).m.length) (T (i+d)).m.length=f.length from Nat.add_sub_cancel _ _,<-e];exact DL g
theorem nk{ρ:Nat->Ad}{S S2:St}{F:Nat->Value}{w:World}(h:Rel C w0 S0 ρ S F w)(b:∀t,S2.at t=S.at t)(a:S2.H=S.H):Rel C w0 S0 ρ S2 F w:=by
 refine⟨?_,fun t v c=>h.fr t v (by rw [<-b];exact c),fun t=>by rw [b,a];exact h.fo t, ?_, ?_⟩
 ·rw [a];exact h.gl
 ·rw [a];exact h.ho
 ·rw [a];exact h.mem
variable {n:Nat}
theorem C5{v:SV}{id:Nat}(h:v.ok n)(hid:id∈Pu v):id<n:=by unfold Pu at hid;split at hid;all_goals first|(cases hid;done)|(have e:=aE.1 hid;subst e;exact h _ (aE.2 rfl))
theorem RB{a:Operand->SV}{op:Op}(h:n∈Sp a op):∃x∈op.operands,n∈Pu (a x):=by
 have key:∀l:List Operand,n∈Sr a l->∃x∈l,n∈Pu (a x):=by
  intro l;induction l with
  |nil=>intro h;cases h
  |cons x l e=>
   intro h;rcases aS.1 (show n∈Pu (a x)++Sr a l from h)with h|h
   ·exact⟨x,fQ,h⟩
   ·obtain⟨y,d,b⟩:=e h;exact⟨y,fB _ d,b⟩
 cases op<;>first|(cases h;done)|skip
 case load t x=>exact⟨x,by simp [lY],h⟩
 case indexAddr t x f=>exact⟨x,by simp [lY],h⟩
 case convert s t x=>exact⟨x,by simp [lY],h⟩
 case call c=>
  obtain⟨x,d,b⟩:=key _ h;refine⟨x, ?_,b⟩;simp only [lY,Call.operands,xH];exact .inr aD0
theorem min_mem:∀{U:List Nat},U≠[]->∃i∈U,∀j∈U,i<=j
 |[x],_=>⟨x,fQ,fun j a=>by rw [aE.1 a];exact eV _⟩
 |x::y::U,_=>by
  obtain⟨i,c,b⟩:=min_mem (U:=y::U) aA2;by_cases h:x<=i
  ·exact⟨x,fQ,fun j a=>(aP.1 a).elim (fun e=>by rw [e];exact eV _) fun a=>qN h (b j a)⟩
  ·exact⟨i,fB _ c,fun j a=>(aP.1 a).elim (fun e=>by rw [e];omega) (b j)⟩
theorem Rt{a:Type}:∀(l:List a) (k:Nat),EU l k=l.take k
 |[],k=>by simp [EU]
 |x::l,0=>rfl
 |x::l,k+1=>by simp [EU,Rt l k]
theorem Fg{ops:Array Oper}:∀{k j:Nat},DY ops k=some j->Ed ops j=true
 |0,j,h=>by unfold DY at h;have h:=dJ h;cases h.2;exact h.1
 |k+1,j,h=>by
  unfold DY at h;have h:=dJ h;have a:=h.2;split at a
  ·rename_i i b;cases a;exact Fg b
  ·cases a;exact h.1
theorem UO:∀{l:List Oper},(El l).Nodup->∀(i j:Nat) (o b:Oper) (t:Nat),l[i]? =some o->l[j]? =some b->o.dst=some t->b.dst=some t->i=j
 |[],_,i,j,o,b,t,a=>by simp at a
 |x::l,h,i,j,o,b,t,a=>by
  intro f g c;have m:∀(i:Nat) (o:Oper),l[i]? =some o->o.dst=some t->t∈El l:=by
   intro i o a g;have p:∀{l:List Oper},o∈l->t∈El l:=by
    intro l;induction l with
    |nil=>intro h;cases h
    |cons y l n=>
     intro h;rw [xO];rcases aP.1 h with rfl|h
     ·exact .inl g
     ·exact .inr (n h)
   exact p (aI a)
  have k:(El l).Nodup/\(x.dst=some t->t∉El l):=by
   simp only [El]at h;cases hx:x.dst with
   |none=>rw [hx]at h;exact⟨h,fun e=>by cases e⟩
   |some d=>rw [hx]at h;simp only [List.nodup_cons]at h;exact⟨h.2,fun e=>by cases e;exact h.1⟩
  cases i with
  |zero=>
   have a:x=o:=aC0;subst a;cases j with
   |zero=>rfl
   |succ j=>exact absurd (m j b aD3 c) (k.2 g)
  |succ i=>
   cases j with
   |zero=>have f:x=b:=aD3;subst f;exact absurd (m i o aC0 g) (k.2 c)
   |succ j=>have:=UO k.1 i j o b t aC0 aD3 g c;omega
end
open Go.Wk
open Go.Ce (Tr)
open List renaming replicate → iZ
open Nat renaming blt → fZ
open _root_.Array renaming replicate → Yq
section
variable {C:Cx}{md:Md}{w0:World}{S0:List Nat}{GS:If}
variable {ops:Array Oper}{l:List Oper}{T:Nat->St}{es:List (Bool×List Nat)}{k:Nat}
structure Mid (C:Cx) (l:List Oper) (T:Nat->St) (listed:Array Bool) (X:St):Prop where
 at1:∀(t j:Nat) (o:Oper),l[j]? =some o->o.dst=some t->X.at t=if listed.getD j false=true then(T (j+1)).at t else(T 0).at t
 at2:∀t,(∀(j:Nat) (o:Oper),l[j]? =some o->o.dst≠some t)->X.at t=(T 0).at t
 nb:X.nb=(T 0).nb
 al:X.al=(T 0).al
 hv:∃h,h<=l.length/\X.H=(T h).H/\X.m=(T h).m/\∀(j:Nat) (o:Oper),l[j]? =some o->qt C o.op=false->(listed.getD j false=true↔j<h)
variable {a:Nat->Ad}
theorem RH(hE:Env C md w0 S0 GS)(b9:md=⟨md.n,[],none⟩)(hl:l=ops.toList.take k)(hk:k<=ops.size)(g3:Ed ops k=true)(d4:Region.seqB .any ops (ops.size-k) k (iZ k true++iZ (ops.size-k) false).toArray=true)
  (hb:Fi l 0=true) (g5:yO ops.toList (fX l []) l l 0=true) (Y:Way C ops.toList l T es) (e0:BE (fX l []) es es 0=true) {Q:Exit->Act->World->Prop}  {F0:Nat->Value}
  (e9:∀X ρ F w,Rel C w0 S0 ρ X F w->Nx (T 0) a X ρ->(∀t,X.at t=(T l.length).at t)->X.H=(T l.length).H->X.nb=(T l.length).nb->X.al=(T l.length).al->X.m=(T l.length).m->(∀t,t∉El l->F t=F0 t)->W C.P md ops Q (ops.toList.drop k) F w):
  ∀(f:Nat) (U:List Nat) (listed:Array Bool) (X:St) (ρ:Nat->Ad) (F:Nat->Value) (w:World),U.length=f->U.Nodup->(∀i,i∈U↔i<k/\listed.getD i false=false)->HeadInv .any ops k listed->Mid C l T listed X->Rel C w0 S0 ρ X F w->Nx (T 0) a X ρ->(∀t,t∉El l->F t=F0 t)->
   xP C.P .any ops Q (fun _ _ _=>True) k (fun m w=>wpList C.P ops Q (ops.toList.drop k) m w) f listed (fr md F) w:=by
 have k0:l.length=k:=by rw [hl,kR,Fl];exact NV hk
 have a2:∀i,i<k->∃o,l[i]? =some o/\ops[i]? =some o:=by
  intro i hi;have e5:i<ops.size:=Yr hi hk;refine⟨ops[i], ?_,gO e5⟩;have e:l[i]? =ops.toList[i]? :=by rw [hl,bO,aB hi]
  rw [e,Array.getElem?_toList];exact gO e5
 have i9:∀{F:Nat->Value} {w:World},W C.P md ops Q (ops.toList.drop k) F w->wpList C.P ops Q (ops.toList.drop k) (fr md F) w:=by intro F w h;unfold W WR at h;rw [b9]at h;rw [b9];exact h
 intro f;induction f with
 |zero=>
  intro U listed X ρ F w hU b7 R g Z hR hN hF;have j0:U=[]:=Fp hU;have I:∀i,i<k->listed.getD i false=true:=by
   intro i hi;cases hg:listed.getD i false with
   |true=>rfl
   |false=>have:=(R i).2 ⟨hi,hg⟩;rw [j0]at this;cases this
  have c1:listed=(iZ k true++iZ (ops.size-k) false).toArray:=by
   apply O3
   ·rw [g.size];simp;omega
   ·intro i r s;rw [g.size]at r;by_cases v:i<k
    ·have:=I i v;have e:listed.getD i false=listed[i]:=by simp [Array.getD,g.size,r]
     rw [e]at this;rw [this];simp [List.getElem_append,v]
    ·have:=g.tail i aA0 r;have e:listed.getD i true=listed[i]:=by simp [Array.getD,g.size,r]
     rw [e]at this;rw [this];simp [List.getElem_append,v]
  refine⟨by rw [c1];exact d4,i9 ?_⟩
  obtain⟨h,r,s,h3,h4⟩:=Z.hv;have b4:=Y.still (l.length-h) h aA0 (fun j o k9 k8 b=>by
   cases z:qt C o.op with
   |true=>rfl
   |false=>have S:=(aD.1 b).1;have:=(h4 j o b z).1 (I j aA0);omega)
  rw [show h+(l.length-h)=l.length by omega]at b4;have d8:=Y.nb l.length (eV _);refine e9 X ρ F w hR hN (fun t=> ?_) (s.trans b4.1.symm) (Z.nb.trans d8.1.symm) (Z.al.trans d8.2.symm) (h3.trans b4.2.symm) hF;obtain⟨h5,h6⟩:=Y.at t l.length (eV _);by_cases hw:∃(j:Nat) (o:Oper),l[j]? =some o/\o.dst=some t
  ·obtain⟨j,o,b,N⟩:=hw;have S:=(aD.1 b).1;rw [Z.at1 t j o b N,h5 j o b N,aB (I j aA0),aB S]
  ·have hn:∀(j:Nat) (o:Oper),l[j]? =some o->o.dst≠some t:=fun j o b N=>hw ⟨j,o,b,N⟩;rw [Z.at2 t hn,h6 hn]
 |succ f ih=>
  intro U listed X ρ F w hU b7 R g Z hR hN hF;have f2:U≠[]:=fun e=>by rw [e]at hU;cases hU
  obtain⟨i0,i1,d9⟩:=min_mem f2;have L:=(R i0).1 i1;refine⟨fun he=> ?_,fun i hi=> ?_⟩
  ·
   obtain⟨o,O,a6⟩:=a2 i0 L.1
   have:i0∈Region.ready .any ops listed:=by
    refine mem_ready.2 ⟨getD_in (by rw [g.size];omega) L.2,o,a6,fun e c2 c4=> ?_⟩;have r:=nU hb i0 o O e c2 c4;cases hg:listed.getD e.on false with
    |true=>rfl
    |false=>have s:=(R e.on).2 ⟨aA0,hg⟩;have:=d9 e.on s;omega
   rw [he]at this;cases this
  ·obtain⟨g1,o,a6,I⟩:=mem_ready.1 hi;have B:listed.getD i false=false:=getD_both g1;have v:i<k:=by
    by_cases v:i<k
    ·exact v
    ·exact absurd hi (qZ g3 L.1 listed g (getD_in (by rw [g.size];omega) L.2) i aA0)
   refine⟨v, ?_⟩;obtain⟨o',O,a1⟩:=a2 i v;rw [a6]at a1;cases a1;have h0:i∈U:=(R i).2 ⟨v,B⟩;obtain⟨b3,e8⟩:=Y.st i o O;have d3:∀j∈Bh (fX l []) i,listed.getD j false=true:=Np hl hb g i o O I;have f0:∀(j:Nat),j<k->listed.getD j false=true->i∉Bh (fX l []) j:=by intro j b c0 E;obtain⟨c,g6,d6⟩:=a2 j b;have:=Np hl hb g j c g6 (fun e he c4=>g.closed j c d6 c0 e he c4) i E;rw [B]at this;cases this
   have e4:∀j∈Bh (fX l []) i,j<i:=fun j b=>IM hb i j b
   have a0:∀t,t∈yP o.op.operands.toList++Sl ops.toList o->X.at t=(T i).at t:=by
    intro t ht;obtain⟨h5,h6⟩:=Y.at t i aA0;by_cases hw:∃(j:Nat) (o:Oper),l[j]? =some o/\o.dst=some t
    ·obtain⟨j,c,b,N⟩:=hw;have S:=(aD.1 b).1;rw [Z.at1 t j c b N,h5 j c b N];have h7:=Ki g5 i o O;rw [Gz]at h7;have h8:=Rc h7 j c t b N ht;rw [Gz]at h8;rcases h8 with rfl|h8
     ·rw [B,aA aA2,aA aA0]
     ·unfold AY at h8;cases E:lS i (Bh (fX l []) j)with
      |true=>
       have E:=To.1 E;have l0:=IM hb j i E
       have:listed.getD j false=false:=by
        cases hg:listed.getD j false with
        |false=>rfl
        |true=>exact absurd E (f0 j aA0 hg)
       rw [this,aA aA2,aA aA0]
      |false=>rw [E]at h8;have e3:=To.1 (show lS j (Bh (fX l []) i)=true from h8);rw [d3 j e3,aB rfl,aB (e4 j e3)]
    ·have hn:∀(j:Nat) (o:Oper),l[j]? =some o->o.dst≠some t:=fun j o b N=>hw ⟨j,o,b,N⟩;rw [Z.at2 t hn,h6 hn]
   have a9:∀t,Operand.tmp t∈o.op.operands->X.at t=(T i).at t:=fun t ht=>a0 t (Bp _ (Cr.2 (by simpa using ht)));have i3:∀t∈Sl ops.toList o,X.at t=(T i).at t:=fun t ht=>a0 t (SO _ ht)
   obtain⟨h,i2,a7,e7,V⟩:=Z.hv;have K:=Y.nb i aA0;have a3:∀(j:Nat) (c:Oper),l[j]? =some c->qt C c.op=false->((h<=j/\j<i)\/(i<=j/\j<h))->j≠i->AY (fX l []) i j=false:=by
    intro j c b z c3 q;have S:=(aD.1 b).1;unfold AY;rcases c3 with⟨r,s⟩|⟨r,s⟩
    ·have g7:listed.getD j false=false:=by
      cases hg:listed.getD j false with
      |false=>rfl
      |true=>have:=(V j c b z).1 hg;omega
     have e1:lS i (Bh (fX l []) j)=false:=by
      cases E:lS i (Bh (fX l []) j)with
      |false=>rfl
      |true=>have:=IM hb j i (To.1 E);omega
     have e2:lS j (Bh (fX l []) i)=false:=by
      cases E:lS j (Bh (fX l []) i)with
      |false=>rfl
      |true=>have:=d3 j (To.1 E);rw [g7]at this;cases this
     rw [e1,e2];rfl
    ·have c0:listed.getD j false=true:=(V j c b z).2 s;have e1:lS i (Bh (fX l []) j)=false:=by
      cases E:lS i (Bh (fX l []) j)with
      |false=>rfl
      |true=>exact absurd (To.1 E) (f0 j aA0 c0)
     have e2:lS j (Bh (fX l []) i)=false:=by
      cases E:lS j (Bh (fX l []) i)with
      |false=>rfl
      |true=>have:=e4 j (To.1 E);omega
     rw [e1,e2];rfl
   have b8:∀(j:Nat) (c:Oper) (p:Bool×List Nat),l[j]? =some c->es[j]? =some p->p.1=true->j≠i->AY (fX l []) i j=false->(entry C (T i) (T (i+1)) o).1=false/\∀x∈(entry C (T i) (T (i+1)) o).2,x∉p.2:=by intro j c p b J D q u;have r:=BD e0 i _ e8;rw [Gz]at r;have s:=Rq r j p J aA0 (by rw [Gz];exact u) D;exact s
   have b6:∀(j:Nat) (c:Oper) (p:Bool×List Nat),l[j]? =some c->es[j]? =some p->p.1= !(qt C c.op):=by intro j c p b J;obtain⟨_,r⟩:=Y.st j c b;rw [J]at r;cases r;unfold entry;cases qt C c.op<;>rfl
   have M:qt C o.op=false->X.H=(T i).H/\X.m=(T i).m:=by
    intro z;have i7:(entry C (T i) (T (i+1)) o).1=true:=by unfold entry;rw [z];rfl
    have none:∀(j:Nat) (c:Oper),l[j]? =some c->((h<=j/\j<i)\/(i<j/\j<h))->qt C c.op=true:=by
     intro j c b hc;cases d:qt C c.op with
     |true=>rfl
     |false=>exfalso;have S:=(aD.1 b).1;obtain⟨p,J⟩:∃p,es[j]? =some p:=⟨_,(Y.st j c b).2⟩;have q:j≠i:=aA0;have u:=a3 j c b d aA0 q;have:=(b8 j c p b J (by rw [b6 j c p b J,d];rfl) q u).1;rw [i7]at this;cases this
    have h9:¬i<h:=fun G=>by have:=(V i o O z).2 G;rw [B]at this;cases this
    have:=Y.still (i-h) h aA0 (fun j c r s b=>none j c b (.inl ⟨r,aA0⟩));rw [show h+(i-h)=i by omega]at this;exact⟨a7.trans this.1.symm,e7.trans this.2.symm⟩
   have a5:qt C o.op=true->ei (T i).H X.H (Sp ((T i).ev C) o.op):=by
    intro z id hid o2 hg;have c2:(entry C (T i) (T (i+1)) o).2=Sp ((T i).ev C) o.op:=by unfold entry;rw [z];rfl
    rw [a7];have f4:∀(j:Nat) (c:Oper) (p:Bool×List Nat),((h<=j/\j<i)\/(i<=j/\j<h))->l[j]? =some c->es[j]? =some p->p.1=true->id∉p.2:=by
     intro j c p hc b J D;have d:qt C c.op=false:=by
      have:=b6 j c p b J;rw [D]at this;cases d:qt C c.op with
      |false=>rfl
      |true=>rw [d]at this;cases this
     have q:j≠i:=fun e=>by subst e;rw [O]at b;cases b;rw [z]at d;cases d
     have u:=a3 j c b d hc q;exact(b8 j c p b J D q u).2 id (by rw [c2];exact hid)
    by_cases l1:h<=i
    ·
     have G:id<(T h).H.length:=by
      obtain⟨x,hx,i4⟩:=RB hid;have i6:X.ev C x=(T i).ev C x:=by
       cases x with
       |tmp t=>show(bif fZ t C.nn then X.at t else .u')=(bif fZ t C.nn then(T i).at t else .u');rw [a9 t hx]
       |_=>rfl
      have d5:=(Xm hR hE.n x).1;rw [i6,a7]at d5;exact C5 d5 i4
     obtain⟨o3,a1⟩:∃o3,eX (T h).H id=some o3:=by rw [gQ];exact⟨_,aM G⟩
     have:=Y.Wj (i-h) h aA0 (fun j c p r s b J D=>f4 j c p (.inl ⟨r,aA0⟩) b J D) a1;rw [show h+(i-h)=i by omega,hg]at this;rw [a1,this]
    ·have:=Y.Wj (h-i) i aA0 (fun j c p r s b J D=>f4 j c p (.inr ⟨r,aA0⟩) b J D) hg;rw [show i+(h-i)=h by omega]at this;exact this
   obtain⟨X3,c5,b2,d7,f1,g4,e6⟩:=J7 b3 a9 i3 (Z.nb.trans K.1.symm) (Z.al.trans K.2.symm) a5 (fun z=>(M z).1);have d1:=g.set hi v;have b5:i<listed.size:=by rw [g.size];omega
   have A:∀j,(listed.setIfInBounds i true).getD j false=if j=i then true else listed.getD j false:=by
    intro j;simp only [Array.getD_eq_getD_getElem?,Array.getElem?_setIfInBounds];by_cases e:i=j
    ·subst e;simp [b5]
    ·rw [aA e,aA (fun h=>e h.symm)]
   have c6:W C.P md ops (Exit.then (fun a' w'=>True/\xP C.P .any ops Q (fun _ _ _=>True) k (fun m w=>wpList C.P ops Q (ops.toList.drop k) m w) f (listed.setIfInBounds i true) a' w') Q) [o] F w:=by
    refine EY hE c5 hR _ [] fun f9 F2 w2 j1 j2 i5 _=>kM ⟨trivial, ?_⟩;refine ih (U.erase i) (listed.setIfInBounds i true) X3 f9 F2 w2 (by rw [List.length_erase_of_mem h0,hU];rfl) (b7.erase i) (fun j=> ?_) d1 ?_ j1 (hN.trans j2) (fun t ht=> ?_)
    ·rw [b7.mem_erase_iff,R,A];constructor
     ·rintro⟨r,s,h3⟩;rw [aA r];exact⟨s,h3⟩
     ·rintro⟨r,s⟩;by_cases e:j=i
      ·rw [aB e]at s;cases s
      ·rw [aA e]at s;exact⟨e,r,s⟩
    ·refine⟨fun t j c b N=> ?_,fun t hn=> ?_,d7.trans K.1,f1.trans K.2, ?_⟩
     ·rw [b2 t,A];by_cases e:j=i
      ·subst e;rw [O]at b;cases b;rw [aB N,aB rfl,aB rfl]
      ·have g8:¬o.dst=some t:=fun e2=>e (Y.nd j i c o t b O N e2);rw [aA g8,aA e];exact Z.at1 t j c b N
     ·rw [b2 t,aA (hn i o O)];exact Z.at2 t hn
     ·cases z:qt C o.op with
      |true=>
       obtain⟨r,s⟩:=g4 z;refine⟨h,i2,r.trans a7,s.trans e7,fun j c b d=> ?_⟩;rw [A];have q:j≠i:=fun e=>by subst e;rw [O]at b;cases b;rw [z]at d;cases d
       rw [aA q];exact V j c b d
      |false=>
       obtain⟨r,s⟩:=e6 z;obtain⟨mn,h3,_⟩:=NS b3;refine⟨i+1,aA0,r, ?_,fun j c b d=> ?_⟩
       ·rw [s mn h3,(M z).2,h3]
       ·rw [A];have S:=(aD.1 b).1;by_cases q:j=i
        ·subst q;simp
        ·rw [aA q,V j c b d];have h9:¬i<h:=fun G=>by have:=(V i o O z).2 G;rw [B]at this;cases this
         constructor
         ·intro h4;omega
         ·intro h4;by_cases g9:j<h
          ·exact g9
          ·exfalso;obtain⟨p,J⟩:∃p,es[j]? =some p:=⟨_,(Y.st j c b).2⟩;have u:=a3 j c b d (.inl ⟨aA0,aA0⟩) q;have:=(b8 j c p b J (by rw [b6 j c p b J,d];rfl) q u).1;unfold entry at this;rw [z]at this;cases this
    ·have g2:o.dst≠some t:=fun e=>ht (by
      have E:∀{l:List Oper},o∈l->t∈El l:=by
       intro l;induction l with
       |nil=>intro h;cases h
       |cons y l ih=>
        intro h;rw [xO];rcases aP.1 h with rfl|h
        ·exact .inl e
        ·exact .inr (ih h)
      exact E (aI O))
     rw [i5 t g2,hF t ht]
   unfold W WR at c6;rw [b9]at c6⊢;refine wpOp_mono ?_ (Kk a6 c6);rintro a' w' ⟨_,s⟩;exact⟨trivial,s⟩
theorem xN{t:Nat}:∀{l:List Oper},t∈El l↔∃o∈l,o.dst=some t
 |[]=>by simp [El]
 |x::l=>by rw [xO,xN (l:=l)];simp
theorem nx_as{S X Y:St}{ρ:Nat->Ad}(h:Nx S a X ρ)(e:Y.H=X.H)(b:Y.nb=X.nb)(c:Y.al=X.al)(d:Y.m=X.m):Nx S a Y ρ:=
 ⟨⟨b.trans h.nb,c.trans h.al,by rw [e];exact h.le⟩,by rw [e,d];exact h.lg,fun id j f=>by rw [d];exact h.mm id j f⟩
theorem E9(hE:Env C md w0 S0 GS)(f:md=⟨md.n,[],none⟩){id:Nat}{ops:Array Oper}:K8 C md w0 S0 id ops true:=by
 intro a9 S κ r I F w Q h y hk;have h:Wy C ops S κ=some r:=h;unfold Wy at h;have h:=dJ h;have hm:=h.1;have h:=h.2;split at h
 ·rename_i k Y;have d:=Fg Y;have g:k<=ops.size:=by simp only [Ed,fS,aV]at d;exact d.1.2
  have h:=dJ h;have q:=h.1;have h:=dJ h.2;have hb:=h.1;have h:=dJ h.2;have N:=nE.1 h.1;have h:=dJ h.2;have K:=h.1;obtain⟨T,es,x,J,b⟩:=Rb _ _ _ _ h.2;rw [mQ]at b;have b:=dJ b;have u:=b.1;have b:=b.2;have l:EU ops.toList k=ops.toList.take k:=Rt _ _;have hW:Way C ops.toList (EU ops.toList k) T es:=⟨J,UO N⟩
  have v:∀X c z A,Rel C w0 S0 c X z A->Nx (T 0) I X c->(∀t,X.at t=(T (EU ops.toList k).length).at t)->X.H=(T (EU ops.toList k).length).H->X.nb=(T (EU ops.toList k).length).nb->X.al=(T (EU ops.toList k).length).al->X.m=(T (EU ops.toList k).length).m->(∀t,t∉El (EU ops.toList k)->z t=F t)->W C.P md ops Q (ops.toList.drop k) z A:=by
   intro X c z A hR hN kX D O a1 V hF;rw [nH]at b;refine Vx hE (ops.toList.drop k) k _ c z A rfl b (nk hR (fun t=>(kX t).symm) D.symm) fun S2 G F3 w3 h1 E h3 h4 h5=> ?_;rw [x]at hN;refine hk S2 G F3 w3 h1 E ((nx_as hN D.symm O.symm a1.symm V.symm).trans h3) (fun t B=> ?_) (J2 rfl);have e:ops.toList=EU ops.toList k++ops.toList.drop k:=by rw [l,JF]
   have U:t∉El (EU ops.toList k):=fun Z=>B (by obtain⟨o,M,hd⟩:=xN.1 Z;exact xN.2 ⟨o,by rw [e];exact Bp _ M,hd⟩);have R:t∉El (ops.toList.drop k):=fun Z=>B (by obtain⟨o,M,hd⟩:=xN.1 Z;exact xN.2 ⟨o,Tu M,hd⟩);rw [h4 t R,hF t U]
  have p:HeadInv .any ops k (Yq ops.size false):=
   ⟨aA2,fun j oj _ l=>(by rw [getD_replicate_false]at l;cases l),fun t _ B=>getD_in (by simpa using B) (getD_replicate_false _ _)⟩
  have a4:Mid C (EU ops.toList k) T (Yq ops.size false) (T 0):=by
   refine⟨fun t j o _ _=> ?_,fun t _=>rfl,rfl,rfl,0,dL _,rfl,rfl,fun j o _ _=> ?_⟩
   ·rw [getD_replicate_false,aA aA2]
   ·rw [getD_replicate_false];simp
  have a6:(EU ops.toList k).length=k:=by rw [l,kR,Fl];exact NV g
  have s:∀w',Rel C w0 S0 I (T 0) F w'->xP C.P .any ops Q (fun _ _ _=>True) k (fun a w=>wpList C.P ops Q (ops.toList.drop k) a w) k (Yq ops.size false) (fr md F) w':=fun w' hR=>
   RH hE f l g d q hb K hW u v k (List.range k) _ _ _ _ _ List.length_range List.nodup_range (fun i=>by rw [List.mem_range,getD_replicate_false];simp) p a4 hR Nx.refl (fun _ _=>rfl)
  unfold Go.Wk.C CC;rw [f];refine wp_region_any hm ?_;have a2:Rel C w0 S0 I (T 0) F {w with drawn:=w.drawn+1}:=by rw [x];refine⟨y.gl,y.fr,y.fo,y.ho, ?_⟩;obtain⟨L,D,hM⟩:=y.mem;exact⟨L,D.MW,hM⟩
  have h1:=s _ a2;have E:=Vl (S:=fun _ _ _=>True) g (fun a w h=>h) k _ _ _ h1;rw [show k+(ops.size-k)=ops.size by omega,f]at E;exact E
 ·cases h
end
open Go.Wk
open Go.Ce (Tr)
theorem T2{C:Cx}{md:Md}{w0:World}{S0:List Nat}{k:If}(i:Env C md w0 S0 k)(h:md=⟨md.n,[],none⟩):∀c:Code,pN C md w0 S0 c:=by
 intro c;induction c with
 |region id j d=>cases d with
  |false=>exact OX i
  |true=>exact E9 i h
 |seq a b f e=>exact⟨f,e⟩
 |cond c a b f e=>exact⟨f,e⟩
 |block id a g=>exact g
 |loop a g=>exact g
 |scope a g=>exact g
 |_=>trivial
theorem Wr{a:Type}{f:SC->Option a}{l r:List SC}{x:a}{ss:List Src}(h:qs f l=some (x,r,ss)):l.length=1+r.length:=by obtain⟨c,rfl,_,_⟩:=nQ h;rw [bR,Gy]
theorem rd_cn(any:Bool)(H:List Ob):∀(t:Ty) (s:Nat) (l:List SC) (x:t.T) (r:List SC) (ss:List Src),t.rd any H s l=some (x,r,ss)->l.length=t.cn+r.length:=by
 intro t;induction t with
 |w' t c=>intro s l x r ss h;exact c s l x r ss h
 |pr a b f d=>
  intro s l x r ss h;simp only [Ty.rd]at h;split at h
  ·rename_i m g o q;split at h
   ·rename_i i u n p;cases h;have w:=f s l m g o q;have v:=d s g i _ n p;show l.length=a.cn+b.cn+r.length;omega
   ·cases h
  ·cases h
 |i' k=>intro s l x r ss h;exact Wr h
 |c'=>intro s l x r ss h;exact Wr h
 |s'=>intro s l x r ss h;exact Wr h
 |b'=>intro s l x r ss h;exact Wr h
 |u'=>intro s l x r ss h;cases h;exact(Gz _).symm
 |sm a b _ _=>intro s l x r ss h;cases h
 |l' e b t c=>
  intro s l x r ss h;simp only [Ty.rd]at h;split at h
  ·cases h;rw [bR,Gy];rfl
  ·split at h
   ·have h:=(dJ (dJ h).2).2;split at h
    ·cases h;rw [bR,Gy];rfl
    ·cases h
   ·cases h
  ·split at h
   ·have h:=(dJ (dJ (dJ h).2).2).2;split at h
    ·cases h;rw [bR,Gy];rfl
    ·cases h
   ·cases h
  ·cases h
 |y'=>
  intro s l x r ss h;simp only [Ty.rd]at h;split at h
  ·split at h
   ·cases h;rw [bR,Gy];rfl
   ·cases h
  ·cases h
 |r' t c=>
  intro s l x r ss h;simp only [Ty.rd]at h;split at h
  ·cases h;rw [bR,Gy];rfl
  ·split at h
   ·cases h;rw [bR,Gy];rfl
   ·cases h
  ·split at h
   ·split at h
    ·cases h;rw [bR,Gy];rfl
    ·cases h
   ·cases h
  ·cases h
 |p' e t c=>
  intro s l x r ss h;simp only [Ty.rd]at h;split at h
  ·split at h
   ·have h:=(dJ (dJ h).2).2;split at h
    ·cases h;rw [bR,Gy];rfl
    ·cases h
   ·cases h
  ·cases h
 |z'=>
  intro s l x r ss h;simp only [Ty.rd]at h;split at h
  ·have h:=(dJ h).2;cases h;rw [bR,Gy];rfl
  ·have h:=(dJ (dJ h).2).2;cases h;rw [bR,Gy];rfl
  ·have h:=(dJ h).2;split at h
   ·cases h;rw [bR,Gy];rfl
   ·cases h
  ·cases h
 |o' j=>
  intro s l x r ss h;simp only [Ty.rd]at h;split at h
  ·have h:=(dJ h).2;cases h;rw [bR,Gy];rfl
  ·cases h
 |f' k t c=>
  intro s l x r ss h;simp only [Ty.rd]at h;split at h
  ·have h:=(dJ h).2;split at h
   ·cases h;rw [bR,Gy];rfl
   ·cases h
  ·cases h
theorem Qu:∀{l vs:List SC},vs.length=l.length->uJ l 0 vs=some vs
 |[],[],_=>rfl
 |[],_::_,h=>by cases h
 |_::_,[],h=>by cases h
 |x::l,v::vs,h=>by simp only [uJ,Qu (l:=l) (vs:=vs) aA9]
theorem Rs{a:Type}:∀(l:List a),yZ l l.length=some l
 |[]=>rfl
 |x::l=>by simp only [bR,yZ,Rs l]
def KR(n0:Nat)(H0 H1:List Ob)(E:List Nat)(al:List Rg):Rk->Prop
 |.r' _=>True
 |.o' id _ x=>id<n0/\(∀j,j<x.cn->fE id j al=true)/\∃b a,H1[id]? =some (.bl b a)
 |.w' id _=>id<n0/\fE id 0 al=true/\id∉E/\vH H0[id]? =true
section
variable {n0:Nat}{H2 H0 H1:List Ob}{ρ cS ρ3:Nat->Ad}{F2:Nat->Value}{E:List Nat}{al:List Rg}{Fm:Tr SV}{done:List Src}
variable {q:Rk}{v:q.ty.T}
theorem PI.ft(h:PI n0 H2 ρ cS ρ3 F2 E H0 al Fm H1 done)(iN:IV cS H2)(c:IX H2)(d:H0.length<=n0)(k:Up n0 cS ρ3){vs g:List SV}{i:List Src}(a:q.rd H2 vs=some (v,i,g))(m:KR n0 H0 H1 E al q)
  (f:∀(j:Nat) (s:Src),i[j]? =some s->ρ3 (H1.length+j)=s.ad cS) (l:List SA):PI n0 H2 ρ cS ρ3 F2 E H0 al Fm (q.put (fun j=>j) (l,H1) v).2 (done++i)/\
   ∃B:List Value,vs.map (SV.v cS)=B.map some++g.map (SV.v cS)/\(q.put (fun j=>j) (l,H1) v).1.map (SA.v ρ3)=l.map (SA.v ρ3)++B:=by
 cases q with
 |r' x=>
  cases vs with
  |nil=>cases a
  |cons v0 vs=>
   simp only [Rk.rd]at a;split at a
   ·rename_i y C b;cases a;have D:=Vf c b;obtain⟨⟨u,p,_,A⟩,o⟩:=D.to cS ρ3 H1.length f;have H:i.length=(x.lay 0 H1.length v).2.length:=by rw [D.no];exact(Ty.eR x 0 H1.length v).symm
    refine⟨h.app iN c d H f o (cw x 0 H1.length v),[u],by rw [vS,p];rfl, ?_⟩;show(l++[x.sa (x.lay 0 H1.length v).1]).map _=_;rw [Yo,jK,A]
   ·cases a
 |o' id e x=>
  simp only [Rk.rd]at a;split at a
  ·rename_i y C b;cases a;obtain⟨p,A,I,K,o⟩:=m;unfold rdO at b;split at b
   ·rename_i N cs z;have b:=dJ b;have w:=iL b.1;subst w;have n:=rd_cn false H2 x id cs _ _ _ (uD b.2);rw [eO,Bm]at n;have r:rdB H2 id 0 x=some (v,i):=by unfold rdB;rw [z];simp only [nH,SR];rw [<-n,Rs];exact b.2
    have F:=h.fv iN c d k r p (fun j _ L=>A j aA0) f;rw [gQ]at z;obtain⟨J,G,M,_⟩:=h.ba id _ p o;rw [z]at G;cases G;have t:XO H1 id 0 x v=iS H1 id (.bl I (x.lay id H1.length v).1)++(x.lay id H1.length v).2:=by unfold XO;rw [gQ,o];simp only [Vh];rw [Qu ((Ty.Wh x id H1.length v).trans aA0)]
    rw [t]at F;exact⟨F,[],rfl,by rw [gA];rfl⟩
   ·cases b
  ·cases a
 |w' id x=>
  simp only [Rk.rd]at a;split at a
  ·rename_i y C b;cases a;exact⟨h.fs iN c d k b m.1 m.2.1 m.2.2.1 m.2.2.2,[],rfl,by rw [gA];rfl⟩
  ·cases a
variable {a:Nat}
theorem U3{l:List SA}{H1:List Ob}{o:Ob}(h:a∉Rk.ids [q])(b:H1[a]? =some o):(q.put (fun j=>j) (l,H1) v).2[a]? =some o:=by
 cases q with
 |r' x=>exact Ar b
 |o' j e x=>exact Ar (by rw [M9 (fun e=>h (by rw [<-e];exact aE.2 rfl))];exact b)
 |w' j x=>
  show(qF H1 j x v)[a]? =some o;unfold qF;split
  ·rw [M9 (fun e=>h (by rw [<-e];exact aE.2 rfl))];exact b
  ·exact b
variable {r:List Rk}
theorem Lz:Rk.ids (q::r)=Rk.ids [q]++Rk.ids r:=by cases q<;>rfl
theorem uA(h:q∈r)(hid:a∈Rk.ids [q]):a∈Rk.ids r:=by
 induction r with
 |nil=>cases h
 |cons x r b=>
  rw [Lz];rcases aP.1 h with rfl|h
  ·exact Bp _ hid
  ·exact SO _ (b h)
theorem PI.VW(iN:IV cS H2)(f:IX H2)(d:H0.length<=n0)(c:Up n0 cS ρ3):∀(r:List Rk) (H1:List Ob) (done:List Src) (y:(gG r).T) (ss:List Src) (vs:List SV) (l:List SA),PI n0 H2 ρ cS ρ3 F2 E H0 al Fm H1 done->rdR H2 r vs=some (y,ss)->(Rk.ids r).Nodup->
  (∀q∈r,KR n0 H0 H1 E al q)->(∀(j:Nat) (s:Src),ss[j]? =some s->ρ3 (H1.length+j)=s.ad cS)->PI n0 H2 ρ cS ρ3 F2 E H0 al Fm (fK (fun j=>j) (l,H1) r y).2 (done++ss)/\
   ∃g:List Value,vs.map (SV.v cS)=g.map some/\(fK (fun j=>j) (l,H1) r y).1.map (SA.v ρ3)=l.map (SA.v ρ3)++g
 |[],H1,done,y,ss,vs,l,h,a,_,_,_=>by
  cases vs with
  |nil=>cases a;exact⟨by rw [gA];exact h,[],rfl,by rw [gA];rfl⟩
  |cons _ _=>cases a
 |[q],H1,done,y,ss,vs,l,h,a,_,o,b=>by
  simp only [rdR]at a;split at a
  ·rename_i x F hx;cases a;obtain⟨t,g,B,A⟩:=h.ft iN f d c hx (o q fQ) b l;exact⟨t,g,by rw [B,eE,gA],A⟩
  ·cases a
 |q::H::r,H1,done,y,ss,vs,l,h,a,n,o,b=>by
  simp only [rdR]at a;split at a
  ·rename_i x F u hx;split at a
   ·rename_i z L M;cases a
    obtain⟨t,g,B,A⟩:=h.ft iN f d c hx (o q fQ) (fun j s p=>b j s (by rw [aH (aD.1 p).1];exact p)) l;have U:=t.len;have V:=h.len;rw [bM]at U;rw [Lz]at n;obtain⟨I,m,k⟩:=List.nodup_append.1 n;obtain⟨K,w,R,Q⟩:=PI.VW iN f d c (H::r) _ _ z L u (q.put (fun j=>j) (l,H1) x).1 t M m (fun G i=>by
     have J:=o G (fB _ i);cases G with
     |r' x=>trivial
     |o' id e x=>obtain⟨P,O,S,D,C⟩:=J;refine⟨P,O,S,D,U3 (fun N=> ?_) C⟩;exact k _ N _ (uA i (aE.2 rfl)) rfl
     |w' id x=>exact J) (fun j s p=>by
     rw [show(q.put (fun j=>j) (l,H1) x).2.length+j=H1.length+(F.length+j)by omega];exact b _ s (by rw [aN aA0,<-p];congr 1;omega))
    rw [gJ]at K;exact⟨K,g++w,by rw [B,R,Yo],by show(fK (fun j=>j) (q.put (fun j=>j) (l,H1) x) (H::r) z).1.map _=_;rw [Q,A,gJ]⟩
   ·cases a
  ·cases a
end
theorem UX{m:Nat}:∀{x:Ty} {v:x.T},Di x=true->∃o,P8 m x v=some o:=by intro x;cases x<;>intro v h<;>first|exact⟨_,rfl⟩|cases h
theorem PC:∀(r:List Rk) (y:(gG r).T) (l:List SA) (a b:List Ob),a.length=b.length->(∀id,fV a id=fV b id)->(∀id,id∉Rk.ids r->a[id]? =b[id]?)->(∀q∈r,∀id x,q=.w' id x->Di x=true)->
  fK (fun j=>j) (l,a) r y=fK (fun j=>j) (l,b) r y:=by
 have p:∀{a b:List Ob} {id:Nat} {o:Ob},a.length=b.length->(∀id,fV a id=fV b id)->∀k,fV (iS a id o) k=fV (iS b id o) k:=by
  intro a b id o c f k;rw [TD,TD,wV,wV,c];split
  ·rfl
  ·rw [<-TD,<-TD];exact f k
 have t:∀{a b B:List Ob},a.length=b.length->(∀id,fV a id=fV b id)->∀k,fV (a++B) k=fV (b++B) k:=by
  intro a b B c f k;rw [TD,TD];by_cases E:k<a.length
  ·rw [aH E,aH aA0,<-TD,<-TD];exact f k
  ·rw [aN aA0,aN aA0,c]
 have s:∀{a b B:List Ob} {k:Nat},a.length=b.length->a[k]? =b[k]? ->(a++B)[k]? =(b++B)[k]? :=by
  intro a b B k c g;by_cases E:k<a.length
  ·rw [aH E,aH aA0];exact g
  ·rw [aN aA0,aN aA0,c]
 have one:∀(q:Rk) (v:q.ty.T) (l:List SA) (a b:List Ob) (N:List Nat),a.length=b.length->(∀id,fV a id=fV b id)->(∀id,id∉Rk.ids [q]->id∉N->a[id]? =b[id]?)->(∀id x,q=.w' id x->Di x=true)->
   (q.put (fun j=>j) (l,a) v).1=(q.put (fun j=>j) (l,b) v).1/\(q.put (fun j=>j) (l,a) v).2.length=(q.put (fun j=>j) (l,b) v).2.length/\(∀id,fV (q.put (fun j=>j) (l,a) v).2 id=fV (q.put (fun j=>j) (l,b) v).2 id)/\∀id,id∉N->(q.put (fun j=>j) (l,a) v).2[id]? =(q.put (fun j=>j) (l,b) v).2[id]? :=by
  intro q v l a b N c f g w;cases q with
  |r' x=>show l++[x.sa (x.lay 0 a.length v).1]=l++[x.sa (x.lay 0 b.length v).1]/\(a++(x.lay 0 a.length v).2).length=(b++(x.lay 0 b.length v).2).length/\(∀id,fV (a++(x.lay 0 a.length v).2) id=fV (b++(x.lay 0 b.length v).2) id)/\∀id,id∉N->(a++(x.lay 0 a.length v).2)[id]? =(b++(x.lay 0 b.length v).2)[id]?;rw [c];exact⟨rfl,by simp [c],t c f,fun id hid=>s c (g id (fun h=>by cases h) hid)⟩
  |o' i e x=>
   show l=l/\(iS a i (.bl e (x.lay i a.length v).1)++(x.lay i a.length v).2).length=(iS b i (.bl e (x.lay i b.length v).1)++(x.lay i b.length v).2).length/\(∀id,fV (iS a i (.bl e (x.lay i a.length v).1)++(x.lay i a.length v).2) id=fV (iS b i (.bl e (x.lay i b.length v).1)++(x.lay i b.length v).2) id)/\∀id,id∉N->(iS a i (.bl e (x.lay i a.length v).1)++(x.lay i a.length v).2)[id]? =(iS b i (.bl e (x.lay i b.length v).1)++(x.lay i b.length v).2)[id]?;rw [c];have u:∀o:Ob,(iS a i o).length=(iS b i o).length:=fun o=>by rw [IP,IP,c]
   refine⟨rfl,by simp [u],t (u _) (p c f),fun id hid=>s (u _) ?_⟩;rw [wV,wV,c];by_cases n:id=i
   ·subst n;by_cases d:id<b.length
    ·rw [aB ⟨rfl,d⟩,aB ⟨rfl,d⟩]
    ·rw [aA (fun h=>d h.2),aA (fun h=>d h.2),bL aA0,bL aA0]
   ·rw [aA (fun h=>n h.1),aA (fun h=>n h.1)];exact g id (fun h=>n (aE.1 h)) hid
  |w' i x=>
   show l=l/\(qF a i x v).length=(qF b i x v).length/\(∀id,fV (qF a i x v) id=fV (qF b i x v) id)/\∀id,id∉N->(qF a i x v)[id]? =(qF b i x v)[id]?;have hx:=w i x rfl;unfold qF;rw [f i];split
   ·rename_i o H;refine⟨rfl,by rw [IP,IP,c],p c f,fun id hid=> ?_⟩;rw [wV,wV,c];by_cases n:id=i
    ·subst n;by_cases d:id<b.length
     ·rw [aB ⟨rfl,d⟩,aB ⟨rfl,d⟩]
     ·rw [aA (fun h=>d h.2),aA (fun h=>d h.2),bL aA0,bL aA0]
    ·rw [aA (fun h=>n h.1),aA (fun h=>n h.1)];exact g id (fun h=>n (aE.1 h)) hid
   ·rename_i D;exfalso;obtain⟨o,H⟩:=UX (m:=fV b i) (x:=x) (v:=v) hx;have z:=D.symm.trans H;cases z
 intro r;induction r with
 |nil=>intro y l a b c f g _;have e:a=b:=cL fun k=>g k (fun h=>by cases h);rw [e]
 |cons q r K=>
  intro y l a b c f g w;cases r with
  |nil=>obtain⟨G,A,I,F⟩:=one q y l a b [] c f (fun id h _=>g id h) (w q fQ);have e:(q.put (fun j=>j) (l,a) y).2=(q.put (fun j=>j) (l,b) y).2:=cL fun k=>F k (fun h=>by cases h);exact Prod.ext G e
  |cons C r=>
   obtain⟨G,A,I,F⟩:=one q y.1 l a b (Rk.ids (C::r)) c f (fun id h A=>g id (by rw [Lz];exact fun L=>(aS.1 L).elim h A)) (w q fQ);have:=K y.2 (q.put (fun j=>j) (l,a) y.1).1 (q.put (fun j=>j) (l,a) y.1).2 (q.put (fun j=>j) (l,b) y.1).2 A I F (fun J M=>w J (fB _ M));show fK (fun j=>j) (q.put (fun j=>j) (l,a) y.1) (C::r) y.2=fK (fun j=>j) (q.put (fun j=>j) (l,b) y.1) (C::r) y.2;have P:q.put (fun j=>j) (l,a) y.1=((q.put (fun j=>j) (l,a) y.1).1,(q.put (fun j=>j) (l,a) y.1).2):=rfl;have O:q.put (fun j=>j) (l,b) y.1=((q.put (fun j=>j) (l,a) y.1).1,(q.put (fun j=>j) (l,b) y.1).2):=by rw [G]
   rw [P,O];exact this
open Go.Wk
open Go.Ce (Tr)
open Nat renaming one_pos → Ha
theorem LU:∀(a:List Ty) (b:List Ob) (x:(gK a).T),GZ a=true->∃obs,(jE b a x).2=b++obs/\(jE b a x).1.length=a.length/\(∀v∈(jE b a x).1,v.ok (b.length+obs.length))/\∀(j e:Nat) (cs:List SC),obs[j]? =some (.bl e cs)->∀c∈cs,c.ok (b.length+obs.length)
 |[],b,x,h=>⟨[],by simp [jE],rfl,fun v n=>by simp [jE]at n,fun j e cs d=>by simp at d⟩
 |[t],b,x,h=>by
  have k:t.tz=false:=by
   simp only [GZ]at h;cases i:t.tz with
   |true=>rw [i]at h;cases h
   |false=>rfl
  refine⟨(t.lay 0 b.length x).2,rfl,rfl,fun v f=> ?_,cw t 0 b.length x⟩;rw [aE.1 (show v∈[t.sv (t.lay 0 b.length x).1]from f)];exact Ty.Er (vp t 0 b.length x k)
 |t::t2::a,b,x,h=>by
  have k:t.tz=false/\GZ (t2::a)=true:=by
   have h:(bif t.tz then false else GZ (t2::a))=true:=h;cases i:t.tz with
   |true=>rw [i]at h;cases h
   |false=>rw [i]at h;exact⟨rfl,h⟩
  obtain⟨obs,r,q,p,o⟩:=LU (t2::a) (b++(t.lay 0 b.length x.1).2) x.2 k.2;have g:(b++(t.lay 0 b.length x.1).2).length=b.length+(t.lay 0 b.length x.1).2.length:=bM;refine⟨(t.lay 0 b.length x.1).2++obs,by rw [<-gJ];exact r,by show(_::(jE (b++(t.lay 0 b.length x.1).2) (t2::a) x.2).1).length=_;rw [bR,q];rfl,fun v f=> ?_,fun j e cs d c m=> ?_⟩
  ·rw [bM,<-Bn,<-g];rcases aP.1 (show v∈t.sv (t.lay 0 b.length x.1).1::(jE (b++(t.lay 0 b.length x.1).2) (t2::a) x.2).1 from f)with rfl|f
   ·exact SV.cQ (Ty.Er (vp t 0 b.length x.1 k.1)) aA0
   ·exact p v f
  ·rw [bM,<-Bn,<-g];by_cases l:j<(t.lay 0 b.length x.1).2.length
   ·rw [aH l]at d;exact SC.cQ (cw t 0 b.length x.1 j e cs d c m) aA0
   ·rw [aN aA0]at d;exact o _ e cs d c m
def vf:List Ty->Nat
 |[]=>0
 |t::a=>t.no+vf a
theorem LV:∀(a:List Ty) (b:List Ob) (x:(gK a).T),(jE b a x).2.length=b.length+vf a
 |[],b,x=>rfl
 |[t],b,x=>by show(b++(t.lay 0 b.length x).2).length=_;rw [bM];have:=Ty.eR t 0 b.length x;show _=b.length+(t.no+0);omega
 |t::t2::a,b,x=>by show(jE (b++(t.lay 0 b.length x.1).2) (t2::a) x.2).2.length=_;rw [LV (t2::a),bM,Ty.eR];show _=b.length+(t.no+vf (t2::a));omega
theorem Zs:∀(vs:List SV) (F:Tr SV) (i t:Nat),Pn (GM F i vs) t=if i<=t/\t<i+vs.length then vs.getD (t-i) .u' else Pn F t
 |[],F,i,t=>by rw [aA aA2];rfl
 |v::vs,F,i,t=>by
  show Pn (GM (F.set i v) (i+1) vs) t=_;rw [Zs vs,Hw,bR];by_cases b:t=i
  ·subst b;rw [aA aA0,aB rfl,aB aA0,Gx];rfl
  ·by_cases a:i+1<=t/\t<i+1+vs.length
   ·rw [aB a,aB aA0,show t-i=(t-(i+1))+1 by omega];rfl
   ·rw [aA a,aA b,aA aA0]
theorem Nt{r:List Rk}{g:List Ob}{id j:Nat}:∀{l:List Ob} {i:Nat},fE id j (sU r g l i)=true->∃o,i<=id/\l[id-i]? =some o/\((vH (some o)=true/\j=0)\/(vH (some o)=false/\id∈Rk.ids r/\j<(sO g id).2.2))
 |[],i,h=>by simp [sU,fE]at h
 |o::l,i,h=>by
  simp only [sU]at h;rcases Fk.1 h with h|h
  ·cases d:vH (some o)with
   |true=>rw [d]at h;obtain⟨q,b,a,f,c⟩:=vL.1 h;have b:=aE.1 b;subst b;have a:i=id:=a;subst a;exact⟨o,eV _,aA2,.inl ⟨d,by have c:j<1:=c;omega⟩⟩
   |false=>
    rw [d]at h;cases e:lS i (Rk.ids r)with
    |false=>rw [e]at h;simp [fE]at h
    |true=>rw [e]at h;obtain⟨q,b,a,f,c⟩:=vL.1 h;have b:=aE.1 b;subst b;have a:i=id:=a;subst a;exact⟨o,eV _,aA2,.inr ⟨d,To.1 e,c⟩⟩
  ·obtain⟨k,a,f,c⟩:=Nt h;refine⟨k,aA0, ?_,c⟩;rw [show id-i=(id-(i+1))+1 by omega,bV];exact f
theorem jq{H:List Ob}:∀{r:List Rk},Ra H r=true->∀q∈r,match q with
  |.r' _=>True
  |.o' id e x=>∃cs,H[id]? =some (.bl e cs)/\cs.length=x.cn
  |.w' id x=>vH H[id]? =true/\Di x=true
 |d::r,h,q,b=>by
  have h:=iE (show(bif _ then Ra H r else false)=true from h);rcases aP.1 b with rfl|b
  ·cases q with
   |r' x=>trivial
   |o' id e x=>
    have a:=h.1;simp only [gQ]at a;split at a
    ·rename_i f cs c;have a:=iE a;rw [iL a.1]at c;exact⟨cs,c,iL a.2⟩
    ·cases a
   |w' id x=>have a:=iE h.1;rw [gQ]at a;exact a
  ·exact jq h.2 q b
def SU:List Rk->List Rg
 |[]=>[]
 |k::l=>match k with
  |.r' _=>SU l
  |.o' id _ x=>(id,0,x.cn)::SU l
  |.w' id _=>(id,0,1)::SU l
theorem Ch:∀{r:List Rk} {q:Rg},q∈SU r->(∃id e x,Rk.o' id e x∈r/\q=(id,0,x.cn))\/∃id x,Rk.w' id x∈r/\q=(id,0,1)
 |k::r,q,h=>by
  cases k with
  |r' x=>
   rcases Ch (show q∈SU r from h)with⟨id,e,x,b,a⟩|⟨id,x,b,a⟩
   ·exact .inl ⟨id,e,x,fB _ b,a⟩
   ·exact .inr ⟨id,x,fB _ b,a⟩
  |o' i e x=>
   rcases aP.1 (show q∈(i,0,x.cn)::SU r from h)with rfl|h
   ·exact .inl ⟨i,e,x,fQ,rfl⟩
   ·rcases Ch h with⟨id,e,x,b,a⟩|⟨id,x,b,a⟩
    ·exact .inl ⟨id,e,x,fB _ b,a⟩
    ·exact .inr ⟨id,x,fB _ b,a⟩
  |w' i x=>
   rcases aP.1 (show q∈(i,0,1)::SU r from h)with rfl|h
   ·exact .inr ⟨i,x,fQ,rfl⟩
   ·rcases Ch h with⟨id,e,x,b,a⟩|⟨id,x,b,a⟩
    ·exact .inl ⟨id,e,x,fB _ b,a⟩
    ·exact .inr ⟨id,x,fB _ b,a⟩
theorem AD{id e:Nat}{x:Ty}:∀{r:List Rk},Rk.o' id e x∈r->(id,0,x.cn)∈SU r
 |k::r,h=>by
  rcases aP.1 h with rfl|a
  ·exact fQ
  ·cases k with
   |r' _=>exact(show _∈SU r from AD a)
   |o' _ _ _=>exact fB _ (AD a)
   |w' _ _=>exact fB _ (AD a)
theorem AB{id:Nat}{x:Ty}:∀{r:List Rk},Rk.w' id x∈r->(id,0,1)∈SU r
 |k::r,h=>by
  rcases aP.1 h with rfl|a
  ·exact fQ
  ·cases k with
   |r' _=>exact(show _∈SU r from AB a)
   |o' _ _ _=>exact fB _ (AB a)
   |w' _ _=>exact fB _ (AB a)
theorem Ly{id:Nat}:∀{r:List Rk},id∈Rk.ids r->(∃e x,Rk.o' id e x∈r)\/∃x,Rk.w' id x∈r
 |k::r,h=>by
  cases k with
  |r' x=>
   rcases Ly (show id∈Rk.ids r from h)with⟨e,x,a⟩|⟨x,a⟩
   ·exact .inl ⟨e,x,fB _ a⟩
   ·exact .inr ⟨x,fB _ a⟩
  |o' i e x=>
   rcases aP.1 (show id∈i::Rk.ids r from h)with rfl|h
   ·exact .inl ⟨e,x,fQ⟩
   ·rcases Ly h with⟨e,x,a⟩|⟨x,a⟩
    ·exact .inl ⟨e,x,fB _ a⟩
    ·exact .inr ⟨x,fB _ a⟩
  |w' i x=>
   rcases aP.1 (show id∈i::Rk.ids r from h)with rfl|h
   ·exact .inr ⟨x,fQ⟩
   ·rcases Ly h with⟨e,x,a⟩|⟨x,a⟩
    ·exact .inl ⟨e,x,fB _ a⟩
    ·exact .inr ⟨x,fB _ a⟩
section
variable {C:Cx}{md:Md}{w0 w:World}{S0:List Nat}{GS:If}{ρ L8:Nat->Ad}{Se:St}{Fe:Nat->Value}{a:List Ty}{r:List Rk}{H gs:List Ob}
theorem sj(c3:md=⟨md.n,[],none⟩)(hn:C.nn=md.n)(hS:Rel C w0 S0 L8 Se Fe w)(W:IV ρ H)(b4:∀(id e:Nat) (cs:List SC),H[id]? =some (.bl e cs)->∀c∈cs,c.ok H.length)(a9:(Rk.ids r).Nodup)(d:Ra H r=true)
  (J:Le (H++gs).length (sU r H H 0) ρ (H++gs) L8 Se.H) {rs:List ResultVar} {y:(gG r).T} (h:Vd C (H++gs).length (sU r H H 0) rs r Se=some y):
  ∃(D:Nat->Ad) (L2:List cF) (us:List Value),Up H.length ρ D/\Hp w0 S0 L2 w/\Mt w0 S0 D (fK (fun j=>j) ([],kill H (Ge (Rk.ids r) H 0)) r y).2 L2/\(fK (fun j=>j) ([],kill H (Ge (Rk.ids r) H 0)) r y).1.map (SA.v D)=us/\
   (rs.map (Go.Oe.iH C Se)).map (SV.v L8)=us.map some:=by
 unfold Vd at h;split at h
 ·rename_i x N hr;have h:=dJ h;have S:=iE (show(bif Fx (gL N)then St.Bg ⟨Se.F,Se.H,(H++gs).length,sU r H H 0,[]⟩ (No Se.H (gL N))else false)=true from h.1);have b:=dJ h.2;have Z:=sJ.1 b.1;cases b.2;let E:=Ge (Rk.ids r) H 0;let R:=SU r
  let ρ3:Nat->Ad:=fun id=>if id<H.length then L8 id else match N[id-H.length]? with
   |some s=>s.ad L8
   |none=>L8 id
  have l:Up H.length L8 ρ3:=fun id hi=>by simp only [ρ3,hi,fM]
  have A:Up H.length ρ L8:=fun id hi=>J.up id aC2;have P:Up H.length ρ ρ3:=A.trans l (eV _);have a1:∀(j:Nat) (s:Src),N[j]? =some s->ρ3 (H.length+j)=s.ad L8:=by intro j s hj;have a:¬H.length+j<H.length:=aA0;have b:H.length+j-H.length=j:=aA0;simp only [ρ3,a,cX,b,hj]
  have f:∀id,id∈E↔∃o,H[id]? =some o/\vH (some o)=true/\id∉Rk.ids r:=by intro id;show id∈Ge (Rk.ids r) H 0↔_;rw [Aa];simp
  have O:∀q∈R,(∃e cs,H[q.1]? =some (.bl e cs)/\q.2.2<=cs.length)\/(vH H[q.1]? =true/\q.2=(0,1)):=by
   intro q k;rcases Ch k with⟨id,e,x,a,rfl⟩|⟨id,x,a,rfl⟩
   ·obtain⟨cs,g,B⟩:=jq d _ a;exact .inl ⟨e,cs,g,by rw [B];exact eV _⟩
   ·exact .inr ⟨(jq d _ a).1,rfl⟩
  have a3:∀id∈E,vH H[id]? =true\/∃e cs,H[id]? =some (.bl e cs):=by intro id hid;obtain⟨o,a,b,_⟩:=(f id).1 hid;exact .inl (by rw [a];exact b)
  have a0:∀id j,fE id j (sU r H H 0)=true->fE id j (R++No H E)=true:=by
   intro id j K;obtain⟨o,_,a,b⟩:=Nt K;rw [fN]at a;rcases b with⟨b,rfl⟩|⟨b,g,B⟩
   ·by_cases m:id∈Rk.ids r
    ·rcases Ly m with⟨e,x,p⟩|⟨x,p⟩
     ·obtain⟨cs,z,_⟩:=jq d _ p;rw [a]at z;cases z;cases b
     ·exact Fk.2 (.inl (vL.2 ⟨_,AB p,rfl,eV _,Ha⟩))
    ·exact Fk.2 (.inr (vy ((f id).2 ⟨o,a,b,m⟩)))
   ·rcases Ly g with⟨e,x,p⟩|⟨x,p⟩
    ·obtain⟨cs,z,h7⟩:=jq d _ p;refine Fk.2 (.inl (vL.2 ⟨_,AD p,rfl,dL _, ?_⟩));unfold sO at B;rw [gQ,z]at B;show j<x.cn;rw [<-h7];exact B
    ·have:=(jq d _ p).1;rw [a,b]at this;cases this
  have X:Le H.length (R++No H E) ρ H L8 Se.H:=by refine⟨by have:=J.len;rw [bM]at this;omega,A,fun id o hi m=> ?_⟩;have:=J.kp id o aC2 (by rw [aH hi];exact m);exact this.mono fun j K=>a0 id j K
  have h0:=PI.jo (F2:=Fe) (Fm:=(Tr.e:Tr SV)) (ρ3:=ρ3) W b4 O a3 X P (fun t u hu=>by
   have e:Pn (Tr.e:Tr SV) t=.u':=aF5;rw [e]at hu;cases hu) (fun t=>by
   have e:Pn (Tr.e:Tr SV) t=.u':=aF5;rw [e];trivial)
  have I:(kill (Tk H R) E).length=H.length:=by rw [tq,aza]
  have b6:∀q∈r,KR H.length H (kill (Tk H R) E) E (R++No H E) q:=by
   intro q k;have m:=jq d q k;cases q with
   |r' x=>trivial
   |o' id e x=>
    obtain⟨cs,g,B⟩:=m;refine⟨(aD.1 g).1,fun j hj=>Fk.2 (.inl (vL.2 ⟨_,AD k,rfl,dL _,hj⟩)), ?_⟩;obtain⟨o2,p,M,rfl,_⟩:=ub (rs:=R) g;have b1:id∉E:=fun hE=>by obtain⟨o,z,h7,_⟩:=(f id).1 hE;rw [g]at z;cases z;cases h7
    exact⟨e,M,by rw [NL,aA b1];exact p⟩
   |w' id x=>
    have m:vH H[id]? =true/\Di x=true:=m;have V:id<H.length:=by
     cases g:H[id]? with
     |none=>rw [g]at m;cases m.1
     |some _=>exact(aD.1 g).1
    refine⟨V,Fk.2 (.inl (vL.2 ⟨_,AB k,rfl,eV _,Ha⟩)),fun hE=> ?_,m.1⟩;obtain⟨o,_,_,z⟩:=(f id).1 hE;exact z (uA k (aE.2 rfl))
  obtain⟨hP,us,a7,Q⟩:=PI.VW (yH hS) (yI hS) (eV _) l r _ [] y N _ [] h0 hr a9 b6 (by rw [I];exact a1);rw [mQ]at hP;obtain⟨L,hH,hM⟩:=hS.mem;obtain⟨L3,b7,a2⟩:=hP.mem hH hM l a1 (nE.1 S.1) (fun id hid V=>by
   have K:fE id 0 (sU r H H 0)=true:=yR S.2 (by show id<(H++gs).length;rw [bM];omega) (vy hid);obtain⟨o,_,a,b⟩:=Nt K;rw [fN]at a;have U:=Z id hid;rcases b with⟨b,_⟩|⟨_,g,_⟩
   ·exact(f id).2 ⟨o,a,b,U⟩
   ·exact absurd g U)
  have G:fK (fun j=>j) (([]:List SA),kill (Tk H R) E) r y=fK (fun j=>j) ([],kill H E) r y:=by
   have b2:∀id,fV (kill (Tk H R) E) id=fV (kill H E) id:=by
    intro id;rw [TD,TD,NL,NL];cases Y:H[id]? with
    |none=>rw [Fa Y]
    |some o=>
     obtain⟨o2,a,b⟩:=ub (rs:=R) Y;rw [a];split
     ·exact b.len
     ·exact b.len
   refine PC r y [] _ _ (by rw [tq,aza,tq]) b2 (fun id hid=> ?_) (fun q k id x e=> ?_)
   ·rw [NL,NL];cases Y:H[id]? with
    |none=>rw [Fa Y]
    |some o=>
     have b0:∀j,fE id j R=false:=by
      intro j;cases K:fE id j R with
      |false=>rfl
      |true=>
       exfalso;obtain⟨q,k,a,_⟩:=vL.1 K;rcases Ch k with⟨i,e,x,g,rfl⟩|⟨i,x,g,rfl⟩
       ·have a:i=id:=a;subst a;exact hid (uA g (aE.2 rfl))
       ·have a:i=id:=a;subst a;exact hid (uA g (aE.2 rfl))
     have a8:∀q∈R,q.1≠id:=by
      intro q k e;rcases Ch k with⟨i,e2,x,g,rfl⟩|⟨i,x,g,rfl⟩
      ·have e:i=id:=e;subst e;exact hid (uA g (aE.2 rfl))
      ·have e:i=id:=e;subst e;exact hid (uA g (aE.2 rfl))
     obtain⟨o2,a,b⟩:=ub (rs:=R) Y;have e:o2=o:=by
      cases o with
      |bl e cs=>
       obtain⟨M,rfl,g,B⟩:=b;have:M=cs:=cL fun j=>by rw [B,b0 j,aA aA2]
       rw [this]
      |_=>
       rcases b with⟨b,_⟩|⟨_,q,k,g⟩
       ·exact b
       ·exact absurd g (a8 q k)
     rw [a,e]
   ·have:=jq d q k;rw [e]at this;exact this.2
  rw [G]at a2 Q;refine⟨ρ3,L3,us,P,b7,a2,by rw [Q];rfl,a7⟩
 ·cases h
end
open Go.Wk
open Go.Ce (Tr)
open List renaming length → aR, replicate → iZ
open Nat renaming beq → cV, blt → fZ
section
variable {C:Cx}{md:Md}{w0 w:World}{S0:List Nat}{GS:If}{ρ:Nat->Ad}{S:St}{F:Nat->Value}
variable {u:Value}
theorem HC{t : TypeId}{a : Operand}{p : Addr}(hx : aX md F a = .pointer (some p))(h : (execOp (aX md F) (⟨some 0, .load t a, 0, "", #[], none⟩ : Oper)).run C.P w = .ok (.value u) w) : (loadVar t p).run C.P w = .ok u w := by
 simp only [execOp,hx,Instr.loadAt,Instr.sureAddr,Sem.run_bind,Sem.run_pure,Result.andThen_ok]at h;cases b:(loadVar t p).run C.P w with
 |ok v w'=>rw [b]at h;simp only [Result.andThen_ok,Result.ok.injEq,Next.value.injEq]at h;rw [h.1,h.2]
 |halt x w'=>rw [b]at h;cases h
theorem OW(k:C.nn=md.n)(i:Rel C w0 S0 ρ S F w){rv:ResultVar}(h:(Go.Oe.iH C S rv).v ρ=some u):(Go.Wk.iH (fr md F).tmps rv).run C.P w=.ok u w:=by
 cases rv with
 |tmp t=>have h:(S.ev C (.tmp t)).v ρ=some u:=h;have:=(Xm i k (.tmp t)).2 u h;have e:(bif fZ t md.n then F t else undef)=u:=this;unfold Go.Wk.iH;simp only [oY,e,Sem.run_pure]
 |cell a t=>
  have h:((match S.ev C (.tmp a)with
   |.c' x=>match lC C S.H t x with
    |some ⟨[],v,_,_⟩=>v
    |_=>.u'
   |_=>.u'):SV).v ρ=some u:=h
  split at h
  ·rename_i x hx;have f:S.ev C (.tmp a)=.c' x:=hx;obtain⟨s,d⟩:=nW i k f;split at h
   ·rename_i v H m b;obtain⟨⟨_,l,c,r⟩,_⟩:=LK i (md:=md) (x:=.tmp a) d b trivial;have c:v.v ρ=some l:=c;rw [h]at c;cases c
    have q := r 0 0 "" #[];have g:∃p,x.v ρ=.pointer (some p):=by
     unfold lC at b;split at b
     ·rename_i n y _ _;cases j:cV n 0 with
      |true=>rw [j]at b;cases b
      |false=>rw [j]at b;cases x<;>first|exact⟨_,rfl⟩|cases b
     ·cases b
    obtain⟨p,g⟩:=g;rw [g]at d;have o:=HC d q;have e:(bif fZ a md.n then F a else undef)=.pointer (some p):=d;unfold Go.Wk.iH;simp only [oY,e,asAddr,Sem.run_bind,Sem.run_pure,Result.andThen_ok];exact o
   ·cases h
  ·cases h
end
def PN:List Value->Value
 |[u]=>u
 |a=>.tuple a.toArray
variable {k:Nat}{a:Func}
theorem Jq{P:Program}{F:Nat->Value}{w:World}(l:List ResultVar)(vs:List Value)(d:a.results=l.toArray)(f:aR l=aR vs)
  (c:∀(i:Nat) (x:ResultVar) (v:Value),l[i]? =some x->vs[i]? =some v->(Go.Wk.iH (fr ⟨k,[],none⟩ F).tmps x).run P w=.ok v w) (v:Value) (g:PN vs=v):
  (results a (fr ⟨k,[],none⟩ F).tmps).run P w=.ok v w:=by
 have e:=Jm (P:=P) (w:=w) (Go.Wk.iH (fr ⟨k,[],none⟩ F).tmps) l vs f c;unfold results;rw [d];change Sem.run P (do let vs<-l.toArray.mapM (Go.Wk.iH (fr ⟨k,[],none⟩ F).tmps);pure (if h:vs.size=1 then vs[0]else .tuple vs)) w=_;simp only [List.mapM_toArray,Sem.run_bind,Sem.run_map];rw [e];simp only [Result.andThen_ok,Sem.run_pure];subst g;congr 1;cases vs with
 |nil=>simp [PN]
 |cons u b=>cases b with
  |nil=>simp [PN]
  |cons u' b=>simp [PN]
theorem WZ{ρ:Nat->Ad}:∀(l:List SA),(mW l).v ρ=some (PN (l.map (SA.v ρ)))
 |[]=>rfl
 |[x]=>SA.R4 ρ x
 |_::_::_=>rfl
variable {s:If}
theorem rf{C:Cx}{k:Nat}{code:Code}{gl:List (Nat×Ob)}{rs:List ResultVar}{sc:Sc}{G:List Ty}{r:List Rk}{f:(gK G).T->Gv (gG r).T}(hf:C.P.funcs[k]? =some a)(hb:a.body=some code)(hn:a.ntmps=C.nn)(hr:a.results=rs.toArray)
  (F:∀x y,(f x).ok y->sx C (gl.map (·.2)) code rs sc G r x=some y) (c9:aR G<=C.nn) (hE:vb C) (hX:∀k,∀c∈C.X k,Enters C.P k/\IW C.P s k c) (c7:∀q∈gl,q∈s.gs/\∃t l,q.2=.ro t l)
  (hG:∀g id,C.G g=some id->∃i q,id=vf G+i/\gl[i]? =some q/\q.1=g):IW C.P s k ⟨G,r,f⟩:=by
 intro w S ρ L W x y b8 d1 d0 K hy;let H:List Ob:=(jE [] G x).2;have f6:uR ⟨G,r,f⟩ x=H:=rfl;let gs:List Ob:=gl.map (·.2);have hd:=F x y hy;have hd:(bif (bif GZ G then(bif Fx (Rk.ids r)then Ra H r else false)else false)then den C (gG r) (Vd C (H++gs).length (sU r H H 0) rs r) code sc ⟨GM Tr.e 0 (jE [] G x).1,H++gs,(H++gs).length,sU r H H 0,[]⟩ (gG r) some (sk (Vd C (H++gs).length (sU r H H 0) rs r))else none)=some y:=hd;have hd:=dJ hd;have hc:=iE hd.1;have b7:=iE hc.2;have c5:=hc.1;have c6:=nE.1 b7.1;have b1:=b7.2;have F:=hd.2;obtain⟨a8,b2,A,Z,M⟩:=LU G [] x c5;rw [mQ]at b2;have N:H=a8:=b2;have a0:aR H=vf G:=by have:=LV G [] x;rw [eO,Gz]at this;exact this
 have a3:([]:List Ob).length+aR a8=aR H:=by rw [N];simp
 rw [a3]at Z M;have hm:Mt w S ρ H L:=d0;have R:∀(i:Nat) (q:Nat×Ob),gl[i]? =some q->∃t l,q.2=.ro t l/\Rd w (some ⟨q.1,0,none⟩) (l.flatMap t.enc)/\q.1∉S:=by intro i q hq;obtain⟨g,o⟩:=q;obtain⟨d,t,l,b⟩:=c7 _ (aI hq);have b:o=.ro t l:=b;subst b;have:=s.rd b8 d;exact⟨t,l,rfl,this.1,this.2⟩
 let m:Nat->Ad:=fun id=>if id<aR H then ρ id else match gl[id-aR H]? with
  |some q=>⟨none,some ⟨q.1,0,none⟩,q.2.len,false,q.2.len⟩
  |none=>ρ id
 have T:Up H.length ρ m:=fun id E=>by simp only [m,E,fM]
 have b6:∀(i:Nat) (q:Nat×Ob),gl[i]? =some q->m (aR H+i)=⟨none,some ⟨q.1,0,none⟩,q.2.len,false,q.2.len⟩:=by intro i q hq;have e1:¬H.length+i<aR H:=aA0;have e2:aR H+i-aR H=i:=aA0;simp only [m,e1,cX,e2,hq]
 have c2:(jE [] G x).1.map (SV.v m)=W.map some:=by have K:(jE [] G x).1.map (SV.v ρ)=W.map some:=K;rw [<-K];refine L9 fun v hv=>SV.up T (Z v hv)
 have b3:aR W=aR G:=by have:=bD aR K;simp only [Hb]at this;rw [<-this];exact A
 let S1:St:=⟨GM Tr.e 0 (jE [] G x).1,H++gs,(H++gs).length,sU r H H 0,[]⟩;have b4:(H++gs).length=aR H+aR gl:=by simp [gs]
 have b0:Rel C w S m S1 (EV W) w:=by
  have kX:∀t,S1.at t=if t<aR G then(jE [] G x).1.getD t .u' else .u':=by intro t;rw [St.at_eq];show Pn (GM Tr.e 0 (jE [] G x).1) t=_;rw [Zs,A,Gz,fN];have e:Pn (Tr.e:Tr SV) t=.u':=aF5;rw [e];simp
  refine⟨fun g id hg=> ?_,fun t u Q=> ?_,fun t=> ?_,fun id e cs h c c8=> ?_,⟨L++iZ gl.length eG, ?_, ?_, ?_⟩⟩
  ·obtain⟨i,q,d,b,rfl⟩:=hG g id hg;have E:=(aD.1 b).1;rw [<-a0]at d;subst d;exact⟨by show H.length+i<(H++gs).length;omega,by rw [b6 i q b]⟩
  ·rw [kX]at Q;split at Q
   ·rename_i Y;have d:(jE [] G x).1[t]? =some ((jE [] G x).1[t]' aE1):=aM aE1;have b:=bD (fun l=>l[t]?) c2;simp only [bE,d,Yp]at b;have B:W[t]? =some (W[t]' aA0):=aM aA0;rw [B]at b;rw [bP,d]at Q;have O:=aJ b;rw [show((some ((jE [] G x).1[t]' aE1)).getD SV.u')=(jE [] G x).1[t]' aE1 from rfl,O]at Q;unfold EV;rw [bP,B];exact aJ Q
   ·cases Q
  ·rw [kX];split
   ·rename_i Y;have d:(jE [] G x).1[t]? =some ((jE [] G x).1[t]' aE1):=aM aE1;rw [bP,d];exact SV.cQ (Z _ (aI d)) (by show H.length<=(H++gs).length;omega)
   ·trivial
  ·have h:(H++gs)[id]? =some (.bl e cs):=h;by_cases E:id<aR H
   ·rw [aH E,N]at h;exact SC.cQ (M id e cs h c c8) (by show H.length<=(H++gs).length;omega)
   ·rw [aN aA0]at h;exfalso;obtain⟨q,d,b⟩:=map_some h;obtain⟨t,l,B,_⟩:=R _ q d;rw [B]at b;cases b
  ·have key:∀n,Hp w S (L++iZ n eG) w:=by
    intro n;induction n with
    |zero=>rw [List.replicate_zero,gA];exact d1
    |succ n ih=>have:=Go.Oe.Hp.rot (zR ih);rw [gJ]at this;rw [List.replicate_succ'];exact this
   exact key _
  ·show(L++_).length=(H++gs).length;rw [bM,List.length_replicate,b4,hm.1]
  ·intro id o h;have h:(H++gs)[id]? =some o:=h;by_cases E:id<aR H
   ·rw [aH E]at h;obtain⟨d,r1,b,B⟩:=hm.2 id o h;refine⟨by rw [T id E];exact d,r1,by rw [aH (by rw [hm.1];exact E)];exact b,B.up T E fun e cs he=> ?_⟩;rw [he,N]at h;exact M id e cs h
   ·rw [aN aA0]at h;obtain⟨q,d,b⟩:=map_some h;obtain⟨t,l,B,O,h5⟩:=R _ q d;have a1:=b6 _ q d;rw [show H.length+(id-aR H)=id by omega]at a1;rw [B]at b;subst b;have b5:=(aD.1 d).1;refine⟨by rw [a1,B],eG, ?_,rfl, ?_⟩
    ·rw [aN (by rw [hm.1];omega),FE,aB (by rw [hm.1];exact b5)]
    ·rw [a1];exact⟨O,fun _ p hp=>by cases hp;exact h5,by rw [B];exact eV _⟩
 let md:Md:=⟨C.nn,[],none⟩;have b9:Env C md w S s:=⟨hE,rfl,b8,hX⟩
 have a9:=RM (τ:=gG r) (res:=Vd C (H++gs).length (sU r H H 0) rs r) (md:=md) (w0:=w) (S0:=S) (C:=C) rfl ⟨_,rfl⟩ (od rfl) code (T2 b9 rfl code);have c0:∀U D F2 I,Vd C (H++gs).length (sU r H H 0) rs r U=some y->Rel C w S D U F2 I->Le S1.nb S1.al m S1.H D U.H->
   ∃J v,aR rs=aR J/\(∀(i:Nat) (x:ResultVar) (u:Value),rs[i]? =some x->J[i]? =some u->(Go.Wk.iH (fr md F2).tmps x).run C.P I=.ok u I)/\PN J=v/\
    ∃j V,Up H.length ρ j/\Hp w S V I/\Mt w S j (yD ⟨G,r,f⟩ x y).2 V/\(mW (yD ⟨G,r,f⟩ x y).1).v j=some v:=by
  intro U D F2 I d b B;obtain⟨j,V,J,O,h5,h6,h7,h8⟩:=sj (md:=md) (H:=H) (gs:=gs) (ρ:=m) rfl rfl b (fun id o h=>by have E:=(aD.1 h).1;rw [T id E];exact hm.lns id o h) (fun id e cs h=>by rw [N]at h;exact M id e cs h) c6 b1 B d;refine⟨J,_,by simpa using bD aR h8,fun i rv u E Q=> ?_,rfl,j,V,T.trans O (eV _),h5,h6, ?_⟩
  ·have h9:=bD (fun l=>l[i]?) h8;simp only [bE,E,Q,Yp]at h9;exact OW (md:=md) rfl b (aJ h9)
  ·rw [<-h7];exact WZ _
 refine enter (k:=C.nn) hf hb hn (by rw [b3];exact c9) ?_;refine a9 sc S1 (gG r) some (sk (Vd C (H++gs).length (sU r H H 0) rs r)) y m (EV W) w _ F b0 (fun e U D F2 I he a2 hN e8 d3=> ?_) (fun z U D F2 I hz c4 a2 hL=> ?_)
 ·cases e with
  |nm=>obtain⟨J,v,d,b,B,j,V,O⟩:=c0 U D F2 I he a2 hN.le;exact⟨rfl,v,Jq rs J hr d b v B,v,rfl,j,V,O⟩
  |xt i=>cases he
 ·cases c4;obtain⟨J,v,d,b,B,j,V,O⟩:=c0 U D F2 I hz a2 hL.le;exact⟨rfl,v,Jq rs J hr d b v B,v,rfl,j,V,O⟩
open Go.Wk
open Go.Ce (Tr)
open Nat renaming beq → cV, one_pos → Ha, succ → oA
structure KF (P:Program) (GS:If) where
 k:Nat
 c:Gt
 en:Enters P k
 ok:IW P GS k c
def Rw{P:Program}{a:If}:List (KF P a)->Nat->List Gt
 |[],_=>[]
 |q::l,k=>bif cV k q.k then q.c::Rw l k else Rw l k
theorem Kv{P:Program}{b:If}:∀(l:List (KF P b)) (k:Nat),∀c∈Rw l k,Enters P k/\IW P b k c
 |[],k,c,h=>by cases h
 |q::l,k,c,h=>by
  unfold Rw at h;cases a:cV k q.k with
  |false=>rw [a]at h;exact Kv l k c h
  |true=>
   rw [a]at h;rcases aP.1 (show c∈q.c::Rw l k from h)with rfl|h
   ·rw [iL a];exact⟨q.en,q.ok⟩
   ·exact Kv l k c h
def ah:List (Nat×Ob)->Nat->Nat->Option Nat
 |[],_,_=>none
 |q::l,n,g=>bif cV g q.1 then some n else ah l (oA n) g
theorem MP:∀(l:List (Nat×Ob)) (n g id:Nat),ah l n g=some id->∃i q,id=n+i/\l[i]? =some q/\q.1=g
 |[],n,g,id,h=>by cases h
 |q::l,n,g,id,h=>by
  unfold ah at h;cases a:cV g q.1 with
  |false=>rw [a]at h;obtain⟨i,b,e,d,c⟩:=MP l (oA n) g id h;exact⟨i+1,b,aA0,d,c⟩
  |true=>rw [a]at h;cases h;exact⟨0,q,rfl,rfl,(iL a).symm⟩
structure uz where
 P:Program
 GS:If
 E:Nat->Option (Nat×Nat×Ty)
 hE:∀t e b τ,E t=some (e,b,τ)->P.underlying t=some (.slice e)/\TI P e τ.sz b/\τ.flat=true/\0<b
 gt:∀q∈GS.gs,∃t l,q.2=.ro t l
abbrev uz.K(T:uz):Type:=KF T.P T.GS
abbrev uz.cx(T:uz)(fu n:Nat)(l:List T.K)(a:List Ty):Cx:=⟨T.P,Rw l,T.E,ah T.GS.gs (vf a),n,fu⟩
def uz.fn(T : uz)(fu k : Nat){fn : Func}(e : T.P.funcs[k]? = some fn){code : Code}(f : fn.body = some code)(nm : (fn.name == "runtime.NumGoroutine") = false)(l : List T.K)(a : List Ty)(r : List Rk)(g : (gK a).T -> Option (gG r).T)(sc : Sc)
  (c:Nat.ble a.length fn.ntmps=true) (b:∀x,sx (T.cx fu fn.ntmps l a) (T.GS.gs.map (·.2)) code fn.results.toList sc a r x=g x):T.K:=
 ⟨k,⟨a,r,fun x=>.one (g x)⟩,⟨fn,code,e,f,nm⟩,
  rf (C:=T.cx fu fn.ntmps l a) (gl:=T.GS.gs) e f rfl (rs:=fn.results.toList) aA2 (sc:=sc) (fun x y i=>(b x).trans i) (Ys c) T.hE (Kv l) (fun q d=>⟨d,T.gt q d⟩) (fun g id h=>MP _ _ _ _ h)⟩
variable {P:Program}{c:Gt}
theorem TF(V:(gK c.a).T->List Value)(R:(gG c.r).T->Value)(h:∀w S x y,s.p w S->(c.f x).ok y->CR P k (V x) w fun v j=>v=R y/\Hp w [] [] j)(C:∀x,uR c x=[]:=by intros;rfl)(z:∀ρ x,(jE [] c.a x).1.map (SV.v ρ)=(V x).map some:=by intros;rfl)(l:∀x y,(yD c x y).2=[]:=by intros;rfl)(A:∀ρ x y,(mW (yD c x y).1).v ρ=some (R y):=by intros;rfl):IW P s k c:=by intro w S ρ L m x y D i g d n;rw [z]at d;have e:V x=m:=(Oi (fun a b h=>aJ h)).1 d;subst e;have B:L=[]:=Fp (by rw [g.1,C];rfl);subst B;refine Calls.mono (h w S x y D n) ?_;rintro E j ⟨v,u,rfl,q⟩;refine⟨_,u,ρ,[],fun _ _=>rfl,i.call q, ?_,A ρ x y⟩;rw [l];exact⟨rfl,fun id o t=>by simp at t⟩
theorem C6{t:Ty}(X:(gK c.a).T->List t.T)(V:(gK c.a).T->List Value)(R:(gG c.r).T->Value)(h:∀w S x y a n cap,s.p w S->(c.f x).ok y->n=(X x).length->Rd w a ((X x).flatMap t.enc)->n<=cap->CR P k (Value.slice a n cap::V x) w fun v j=>v=R y/\Hp w [] [] j)(B:∀x,uR c x=[.ro t (X x)]:=by intros;rfl)(z:∀(ρ:Nat->Ad) x,(jE [] c.a x).1.map (SV.v ρ)=(Value.slice (ρ 0).a (ρ 0).ln (ρ 0).cap::V x).map some:=by intros;rfl)(m:∀x y,(yD c x y).2=[.ro t (X x)]:=by intros;rfl)(A:∀ρ x y,(mW (yD c x y).1).v ρ=some (R y):=by intros;rfl):IW P s k c:=by intro w S ρ L E x y C i d g o;rw [z]at g;have e:=(Oi (fun a b h=>aJ h)).1 g;subst e;rw [B]at d;obtain⟨D,r,G,F,l⟩:=d.2 0 _ rfl;have iN:(ρ 0).ln=(X x).length:=D.symm;refine Calls.mono (h w S x y _ _ _ C o iN l.1 (by rw [iN];exact l.2.2)) ?_;rintro H j ⟨v,u,rfl,q⟩;refine⟨_,u,ρ,L,fun _ _=>rfl,i.call q, ?_,A ρ x y⟩;rw [m];exact d
theorem ak{e b:Nat}{t:Ty}(Y:(gG c.r).T->List t.T)(V:(gK c.a).T->List Value)(h:∀w S x y,s.p w S->(c.f x).ok y->CR P k (V x) w fun v l=>∃o a cap,v=.slice a (Y y).length cap/\Hp w [] [aW t.enc e t.sz o a cap (Y y)] l)(q:∀x,uR c x=[]:=by intros;rfl)(C:∀(ρ:Nat->Ad) x,(jE [] c.a x).1.map (SV.v ρ)=(V x).map some:=by intros;rfl)(A:∀x y,(yD c x y).2=[.rw e b t (Y y)]:=by intros;rfl)(D:∀(ρ:Nat->Ad) x y,(mW (yD c x y).1).v ρ=some (.slice (ρ 0).a (ρ 0).ln (ρ 0).cap):=by intros;rfl):IW P s k c:=by
 intro w S ρ L G x y F j g d u;rw [C]at d;have e:=(Oi (fun a b h=>aJ h)).1 d;subst e;have E:L=[]:=Fp (by rw [g.1,q];rfl);subst E;refine Calls.mono (h w S x y F u) ?_;rintro H l ⟨v,B,o,a,cap,rfl,z⟩;refine⟨_,B,fun id=>⟨o,a,cap,false,(Y y).length⟩,_,(fun i n=>by rw [q]at n;cases n),j.mD z, ?_,D _ x y⟩;rw [A];refine⟨rfl,fun id ob m=> ?_⟩;cases id with
 |zero=>cases m;exact⟨rfl,_,rfl,rfl⟩
 |succ id=>simp at m
theorem Ss{e b:Nat}{t:Ty}(X:(gK c.a).T->List t.T)(Y:(gG c.r).T->List t.T)(h:∀w S x y a n cap,s.p w S->(c.f x).ok y->n=(X x).length->Rd w a ((X x).flatMap t.enc)->n<=cap->CR P k [Value.slice a n cap] w fun v B=>∃o a cap,v=.slice a (Y y).length cap/\Hp w [] [aW t.enc e t.sz o a cap (Y y)] B)(z:∀x,uR c x=[.ro t (X x)]:=by intros;rfl)(H:∀(ρ:Nat->Ad) x,(jE [] c.a x).1.map (SV.v ρ)=[Value.slice (ρ 0).a (ρ 0).ln (ρ 0).cap].map some:=by intros;rfl)(E:∀x y,(yD c x y).2=[.ro t (X x),.rw e b t (Y y)]:=by intros;rfl)(I:∀(ρ:Nat->Ad) x y,(mW (yD c x y).1).v ρ=some (.slice (ρ 1).a (ρ 1).ln (ρ 1).cap):=by intros;rfl):IW P s k c:=by
 intro w S ρ L N x y J m g j C;rw [H]at j;have e:=(Oi (fun a b h=>aJ h)).1 j;subst e;rw [z]at g;obtain⟨A,r,M,K,q⟩:=g.2 0 _ rfl;have iN:(ρ 0).ln=(X x).length:=A.symm;refine Calls.mono (h w S x y _ _ _ J C iN q.1 (by rw [iN];exact q.2.2)) ?_;rintro O B ⟨v,G,o,a,cap,rfl,D⟩;have F:=(m.mD D).perm (M0 (l₁:=[_]) (l₂:=L));have l:L.length=1:=g.1;refine⟨_,G,fun id=>if id=0 then ρ 0 else⟨o,a,cap,false,(Y y).length⟩,_,fun i u=> ?_,F, ?_,I _ x y⟩
 ·rw [z]at u;have:i=0:=Nat.lt_one_iff.1 u;subst this;rfl
 rw [E];refine⟨by simp [l],fun id ob d=> ?_⟩
 match id,d with
 |0,d=>cases d;exact⟨A,r,by rw [aH aA0];exact M,K,q⟩
 |1,d=>cases d;exact⟨rfl,_,by rw [aN aA0,l];rfl,rfl⟩
 |id+2,d=>simp at d
variable {w:World}
theorem HQ{e b q:Nat}{t:Ty}{G:List t.T->Option (List t.T)}(h:IW P s k ⟨[.l' e b t,.f' q .u'],[.w' 0 (.l' e b t)],fun x=>.one (G x.1)⟩){o:Option Nat}{a:Option Addr}{cap:Nat}{l r:List t.T}{S:List Nat}
  (y:G l=some r) (C:s.p w S) (A:Hp w S [aW t.enc e t.sz o a cap l] w):CR P k [Value.slice a l.length cap,Value.func (.func q) #[] #[]] w fun v w'=>v=.tuple #[]/\r.length=l.length/\Hp w S [aW t.enc e t.sz o a cap r] w':=by
 refine Calls.mono (h w S (fun _=>⟨o,a,cap,false,l.length⟩) _ [Value.slice a l.length cap,Value.func (.func q) #[] #[]] (l,()) r C A ?_ rfl y) ?_
 ·show Mt w S _ [.rw e b t l] _;refine⟨rfl,fun id ob n=> ?_⟩;cases id with
  |zero=>cases n;exact⟨rfl,_,rfl,rfl⟩
  |succ id=>simp at n
 ·rintro I H ⟨v,z,c,m,i,F,d,E⟩
  have i:c 0=⟨o,a,cap,false,l.length⟩:=i 0 Ha;have d:Mt w S c [.rw e b t r] m:=d;obtain⟨g,u,f,j⟩:=d.2 0 _ rfl;have g:r.length=(c 0).ln:=g;have j:u=aW t.enc e t.sz (c 0).o (c 0).a (c 0).cap r:=j;subst j;rw [i]at g f;have B:m=[aW t.enc e t.sz o a cap r]:=by
   have D:=d.1
   match m,D,f with
   |[x],_,f=>cases f;rfl
  subst B;exact⟨v,z,(aJ E).symm,g,F⟩
theorem M8(h:IW P s k c)(V:(gK c.a).T->List Value)(R:(gG c.r).T->Value){x:(gK c.a).T}{y:(gG c.r).T}(t:s.p w [])(j:(c.f x).ok y)(g:∀x,uR c x=[]:=by intros;rfl)(n:∀ρ x,(jE [] c.a x).1.map (SV.v ρ)=(V x).map some:=by intros;rfl)(q:∀ρ x y,(mW (yD c x y).1).v ρ=some (R y):=by intros;rfl):CR P k (V x) w fun v b=>v=R y/\Hp w [] [] b:=by
 refine Calls.mono (h w [] (fun _=>⟨none,none,0,false,0⟩) [] (V x) x y t (Hp.refl w) ?_ (n _ x) j) ?_
 ·rw [g];exact⟨rfl,fun id o l=>by simp at l⟩
 ·rintro e b ⟨v,m,i,z,_,u,_,d⟩;rw [q]at d;exact⟨v,m,(aJ d).symm,u.nil⟩
end Go.Oe
set_option maxRecDepth 20000
set_option maxHeartbeats 1000000
namespace Go.Wk
open Go.Px
open Int renaming toNat → aZ
open List renaming drop → bN
open Sum renaming elim → fC
def afo(fu:Nat)(a:Int):Option Bool:=
 (((if(0:Int)<=a then some (decide (a<(55296:Int)))else some false)).bind fun(b:Bool)=>(bif b then some true else(((if(57343:Int)<a then some (decide (a<=(1114111:Int)))else some false)).bind fun(c:Bool)=>(bif c then some true else some false))))
def afp(fu:Nat)(s_0:aC)(b:Nat->Option (Unit⊕Int))(a:Nat):Option (Unit⊕Int):=
 (if a<s_0.length then(if((Utf8.decode ⟨List.toArray s_0⟩ a).1:Int)=(65533:Int)then some (.inr (a:Int))else(b (a+(Utf8.decode ⟨List.toArray s_0⟩ a).2)))else some (.inl ()))
def agj(fu:Nat)(s_0:aC):Nat->Nat->Option (Unit⊕Int):=fun b a=>bT (fun(g:Nat->Option (Unit⊕Int)) v=>afp fu s_0 (fun a=>g a) v) b a
variable {a:Nat}{c:aC}{b d:Nat}
theorem aky:agj a c (b+1) d=afp a c (agj a c b) d:=rfl
def alu(fu:Nat)(s_0:aC)(b:Int)(c:Int)(d:Int->Option Int)(a:Int):Option Int:=
 (if a<(((Utf8.encode b).data.toList).length:Int)then(gd (bZ (c-a))<|(gd (0<=(c-a)/\(c-a)<(s_0.length:Int))<|(gd (bZ (((((Utf8.encode b).data.toList).length:Int)-1)-a))<|(gd (0<=(((((Utf8.encode b).data.toList).length:Int)-1)-a)/\(((((Utf8.encode b).data.toList).length:Int)-1)-a)<(((Utf8.encode b).data.toList).length:Int))<|(if(at_ s_0 (c-a))=(at_ ((Utf8.encode b).data.toList) (((((Utf8.encode b).data.toList).length:Int)-1)-a))then(gd (bZ (a+1))<|(d (a+1)))else none)))))else(gd (bZ (c-((((Utf8.encode b).data.toList).length:Int)-1)))<|some (c-((((Utf8.encode b).data.toList).length:Int)-1))))
def aiq(fu:Nat)(s_0:aC)(d:Int)(c:Int):Nat->Int->Option Int:=fun b a=>bT (fun(g:Int->Option Int) v=>alu fu s_0 d c (fun a=>g a) v) b a
variable {e:Int}
theorem ayi{f:Int}{d:Int}:aiq a c e f (b+1) d=alu a c e f (aiq a c e f b) d:=rfl
def aic(fu:Nat)(s_0:aC)(a:Int)(d:Option Int):Option Int:=
 (if((((Utf8.encode a).data.toList).length:Int)-1)<(s_0.length:Int)then(((gd (0<=((((Utf8.encode a).data.toList).length:Int)-1)/\((((Utf8.encode a).data.toList).length:Int)-1)<(s_0.length:Int))<|(gd (0<=((((Utf8.encode a).data.toList).length:Int)-1)/\((((Utf8.encode a).data.toList).length:Int)-1)<(((Utf8.encode a).data.toList).length:Int))<|(if(at_ s_0 ((((Utf8.encode a).data.toList).length:Int)-1))=(at_ ((Utf8.encode a).data.toList) ((((Utf8.encode a).data.toList).length:Int)-1))then some (.inl ((((Utf8.encode a).data.toList).length:Int)-1))else(gd (bZ (((((Utf8.encode a).data.toList).length:Int)-1)+1))<|(gd (0<=(((((Utf8.encode a).data.toList).length:Int)-1)+1)/\(((((Utf8.encode a).data.toList).length:Int)-1)+1)<=(s_0.length:Int))<|(gd (0<=((((Utf8.encode a).data.toList).length:Int)-1)/\((((Utf8.encode a).data.toList).length:Int)-1)<(((Utf8.encode a).data.toList).length:Int))<|(if(dT (·==(at_ ((Utf8.encode a).data.toList) ((((Utf8.encode a).data.toList).length:Int)-1))) (bN (aZ (((((Utf8.encode a).data.toList).length:Int)-1)+1)) s_0))<(0:Int)then some (.inr (-1:Int))else(gd (bZ ((dT (·==(at_ ((Utf8.encode a).data.toList) ((((Utf8.encode a).data.toList).length:Int)-1))) (bN (aZ (((((Utf8.encode a).data.toList).length:Int)-1)+1)) s_0))+1))<|(gd (bZ (((((Utf8.encode a).data.toList).length:Int)-1)+((dT (·==(at_ ((Utf8.encode a).data.toList) ((((Utf8.encode a).data.toList).length:Int)-1))) (bN (aZ (((((Utf8.encode a).data.toList).length:Int)-1)+1)) s_0))+1)))<|some (.inl (((((Utf8.encode a).data.toList).length:Int)-1)+((dT (·==(at_ ((Utf8.encode a).data.toList) ((((Utf8.encode a).data.toList).length:Int)-1))) (bN (aZ (((((Utf8.encode a).data.toList).length:Int)-1)+1)) s_0))+1))))))))))))).bind fun(c:(Int⊕Int))=>fC (fun(b:Int)=>(aiq fu s_0 a b fu (1:Int))) (fun q=>some q) c)else some (-1:Int))
def agi(fu:Nat)(s_0:aC)(b:Int):Nat->Option Int:=fun a=>bT (fun(g:Unit->Option Int) v=>aic fu s_0 b (g ())) a ()
theorem aqp:agi a c e (b+1)=aic a c e (agi a c e b):=rfl
def kg(fu:Nat)(s_0:aC)(a:Int):Option Int:=
 (((if(0:Int)<=a then some (decide (a<(128:Int)))else some false)).bind fun(b:Bool)=>(bif b then some (dT (·==(fq a)) s_0)else(if a=(65533:Int)then(((agj fu s_0 fu 0)).bind fun(d:(Unit⊕Int))=>fC (fun(e:Unit)=>some (-1:Int)) (fun q=>some q) d)else((afo fu a).bind fun(c:Bool)=>(bif (!c)then some (-1:Int)else(gd (bZ ((((Utf8.encode a).data.toList).length:Int)-1))<|(agi fu s_0 a fu)))))))
def agh(fu:Nat)(a:Int):Option Bool:=
 some (decide ((8:Int)<a))
def xy(fu:Nat)(s_0:aC)(d:aC)(c:Nat->Option (Unit⊕Int))(a:Nat):Option (Unit⊕Int):=
 (if a<s_0.length then((kg fu d ((Utf8.decode ⟨List.toArray s_0⟩ a).1:Int)).bind fun(b:Int)=>(if(0:Int)<=b then some (.inr (a:Int))else(c (a+(Utf8.decode ⟨List.toArray s_0⟩ a).2))))else some (.inl ()))
def ahc(fu:Nat)(s_0:aC)(c:aC):Nat->Nat->Option (Unit⊕Int):=fun b a=>bT (fun(g:Nat->Option (Unit⊕Int)) v=>xy fu s_0 c (fun a=>g a) v) b a
theorem aid{f:aC}:ahc a c f (b+1) d=xy a c f (ahc a c f b) d:=rfl
def aot(fu:Nat)(s_0:aC)(a:aC):Option Int:=
 (if a=([]:aC)then some (-1:Int)else(if(a.length:Int)=(1:Int)then(gd (0<=(0:Int)/\(0:Int)<(a.length:Int))<|(((if(128:Int)<=((at_ a (0:Int)).toNat:Int)then some (65533:Int)else some ((at_ a (0:Int)).toNat:Int))).bind fun(b:Int)=>((kg fu s_0 b).bind fun(e:Int)=>some e)))else((((agh fu (s_0.length:Int)).bind fun(d:Bool)=>(bif d then none else some ()))).bind fun(g:Unit)=>(((ahc fu s_0 a fu 0)).bind fun(c:(Unit⊕Int))=>fC (fun(f:Unit)=>some (-1:Int)) (fun q=>some q) c))))
end Go.Wk
namespace Go.Px
open Go.Wk
theorem get_at(l:List UInt8)(k:Nat)(h:k<l.length):(⟨l.toArray⟩:ByteArray).get! k=at_ l (k:Int):=by show l.toArray[k]! =_;simp [at_,h]
theorem Sy(l:List UInt8)(k:Nat)(h:k<l.length)(a:(at_ l (k:Int)).toNat<128):Utf8.decode ⟨l.toArray⟩ k=((at_ l (k:Int)).toNat,1):=by unfold Utf8.decode;simp only [Nat.add_zero,get_at l k h];rw [aB aA0]
theorem F5(l:List UInt8)(k:Nat)(h:k<l.length)(t:¬(at_ l (k:Int)).toNat<128):
  128<=(Utf8.decode ⟨l.toArray⟩ k).1/\1<=(Utf8.decode ⟨l.toArray⟩ k).2/\k+(Utf8.decode ⟨l.toArray⟩ k).2<=l.length/\
  ∀j:Nat,k<=j->j<k+(Utf8.decode ⟨l.toArray⟩ k).2->128<=(at_ l (j:Int)).toNat:=by
 have n:(⟨l.toArray⟩:ByteArray).size=l.length:=rfl;have a:∀c:Nat,128<=c->128<=((c,1):Nat×Nat).1/\1<=((c,1):Nat×Nat).2/\k+((c,1):Nat×Nat).2<=l.length/\∀j:Nat,k<=j->j<k+((c,1):Nat×Nat).2->128<=(at_ l (j:Int)).toNat:=
  fun c r=>⟨r,qD _,by simp;omega,fun j b e=>by
   have:j=k:=by simp at e;omega
   subst this;omega⟩
 have cont:∀i:Nat,(decide (k+i<l.length)&&((⟨l.toArray⟩:ByteArray).get! (k+i)).toNat/64==2)=true->k+i<l.length/\128<=(at_ l ((k+i:Nat):Int)).toNat:=by intro i o;simp only [dN,aV,beq_iff_eq]at o;rw [get_at l (k+i) o.1]at o;omega
 have d:128<=Utf8.runeError:=aA1;have f:128<=(at_ l (k:Int)).toNat:=aA0;unfold Utf8.decode;simp only [Nat.add_zero,get_at l k h,n];rw [aA aA0];split
 ·rename_i b;simp only [dN]at b;have m:=cont 1 (by simpa using b.2);split
  ·rename_i e;refine⟨aF0,aA2,by simp;omega,fun j q g=> ?_⟩;have:j=k\/j=k+1:=by simp at g;omega
   rcases this with rfl|rfl
   ·exact f
   ·exact m.2
  ·exact a _ d
 split
 ·rename_i b;simp only [dN]at b;have m:=cont 1 (by simpa using b.1.2);have p:=cont 2 (by simpa using b.2);split
  ·rename_i e;simp only [dN,aV]at e;refine⟨by have:=e.1;simp only [ge_iff_le]at this⊢;omega,aA2,by simp;omega,fun j q g=> ?_⟩;have:j=k\/j=k+1\/j=k+2:=by simp at g;omega
   rcases this with rfl|rfl|rfl
   ·exact f
   ·exact m.2
   ·exact p.2
  ·exact a _ d
 split
 ·rename_i b;simp only [dN]at b;have m:=cont 1 (by simpa using b.1.1.2);have p:=cont 2 (by simpa using b.1.2);have s:=cont 3 (by simpa using b.2);split
  ·rename_i e;simp only [dN,aV]at e;refine⟨by have:=e.1;simp only [ge_iff_le]at this⊢;omega,aA2,by simp;omega,fun j q g=> ?_⟩;have:j=k\/j=k+1\/j=k+2\/j=k+3:=by simp at g;omega
   rcases this with rfl|rfl|rfl|rfl
   ·exact f
   ·exact m.2
   ·exact p.2
   ·exact s.2
  ·exact a _ d
 ·exact a _ d
def Pq(r:Int):List UInt8:=(Utf8.encode r).data.toList
theorem RG(r:Int)(h:128<=r):2<=(Pq r).length/\(Pq r).length<=4/\128<=(at_ (Pq r) ((Pq r).length-1:Int)).toNat:=by
 have a:∀n:Nat,128<=(UInt8.ofNat (128+n%64)).toNat:=by intro n;rw [pO];omega
 unfold Pq Utf8.encode;have b:128<=(if Utf8.valid r=true then r.toNat else Utf8.runeError):=by
  split
  ·omega
  ·decide
 generalize(if Utf8.valid r=true then r.toNat else Utf8.runeError)=c at b;simp only;rw [aA aA0];split
 ·exact⟨aA2,aA2,a c⟩
 split
 ·exact⟨aA2,aA2,a c⟩
 ·exact⟨aA2,aA2,a c⟩
end Go.Px
namespace Go.Wk
open Go.Px
open Int renaming toNat → aZ
open List renaming drop → bN
open Sum renaming elim → fC
def anz(fu:Nat)(b:dB)(f:Int->Int->Option (Int⊕Bool))(c:Int)(a:Int):Option (Int⊕Bool):=
 (((if a<(b.length:Int)then some (decide (a<(20:Int)))else some false)).bind fun(e:Bool)=>(bif e then(((gd (0<=a/\a<(b.length:Int))<|(gd (0<=a/\a<(b.length:Int))<|(if(100:Int)<(((el b a).1).length:Int)then some true else(gd (0<=a/\a<(b.length:Int))<|(gd (0<=a/\a<(b.length:Int))<|some (decide ((20000:Int)<(((el b a).2).length:Int))))))))).bind fun(d:Bool)=>(bif d then some (.inr false)else(gd (0<=a/\a<(b.length:Int))<|(gd (0<=a/\a<(b.length:Int))<|(gd (bZ (c+(((el b a).1).length:Int)))<|(gd (bZ (a+1))<|(f (c+(((el b a).1).length:Int)) (a+1))))))))else some (.inl c)))
def wv(fu:Nat)(d:dB):Nat->Int->Int->Option (Int⊕Bool):=fun c b a=>bT (fun(g:(Int×Int)->Option (Int⊕Bool)) v=>anz fu d (fun b a=>g (b,a)) v.1 v.2) c (b,a)
variable {a b:Nat}{d:Int}
theorem auh{f:dB}{c:Int}:wv a f (b+1) d c=anz a f (wv a f b) d c:=rfl
def axa(fu:Nat)(a:dB):Option Bool:=
 (((wv fu a fu (0:Int) (0:Int))).bind fun(d:(Int⊕Bool))=>fC (fun(c:Int)=>(((if(a.length:Int)<=(20:Int)then some (decide (c<=(200:Int)))else some false)).bind fun(b:Bool)=>some b)) (fun q=>some q) d)
def aou(fu:Nat)(a:UInt8):Option Bool:=
 (((((if(97:UInt8)<=a then some (decide (a<=(122:UInt8)))else some false)).bind fun(c:Bool)=>(bif c then(bif c then some (.inr true)else some (.inl ()))else(((if(65:UInt8)<=a then some (decide (a<=(90:UInt8)))else some false)).bind fun(b:Bool)=>(bif b then(bif b then some (.inr true)else some (.inl ()))else(if(48:UInt8)<=a then(if a<=(57:UInt8)then some (.inr true)else some (.inl ()))else some (.inl ()))))))).bind fun(d:(Unit⊕Bool))=>fC (fun(e:Unit)=>(if a=45 then(if a=45 then some true else some false)else(if a=46 then(if a=46 then some true else some false)else(if a=33 then(if a=33 then some true else some false)else(if a=37 then(if a=37 then some true else some false)else(if a=42 then(if a=42 then some true else some false)else(if a=95 then(if a=95 then some true else some false)else(if a=43 then(if a=43 then some true else some false)else(if a=39 then(if a=39 then some true else some false)else(if a=126 then(if a=126 then some true else some false)else(if a=96 then some true else some false))))))))))) (fun q=>some q) d)
def adv(fu:Nat)(s_0:aC)(d:Int->Option Int)(a:Int):Option Int:=
 (((if a<(s_0.length:Int)then(gd (0<=a/\a<(s_0.length:Int))<|((aou fu (at_ s_0 a)).bind fun(c:Bool)=>some c))else some false)).bind fun(b:Bool)=>(bif b then(gd (bZ (a+1))<|(d (a+1)))else some a))
def aea(fu:Nat)(s_0:aC):Nat->Int->Option Int:=fun b a=>bT (fun(g:Int->Option Int) v=>adv fu s_0 (fun a=>g a) v) b a
variable {c:aC}
theorem ajk:aea a c (b+1) d=adv a c (aea a c b) d:=rfl
def aey(fu:Nat)(s_0:aC)(b:Int):Option Int:=
 (((aea fu s_0 fu (min (max b (0:Int)) (s_0.length:Int)))).bind fun(a:Int)=>some a)
def dr(fu:Nat)(s_0:aC)(b:Int):Option Int:=
 ((aey fu s_0 b).bind fun(a:Int)=>some a)
def TK(fu:Nat)(s_0:aC):Option Bool:=
 (((if s_0=([]:aC)then some false else((dr fu s_0 (0:Int)).bind fun(b:Int)=>some (decide (b=(s_0.length:Int)))))).bind fun(a:Bool)=>some a)
def wu(fu:Nat)(s_0:aC):Option Bool:=
 ((((TK fu s_0).bind fun(b:Bool)=>(bif b then some (decide ((s_0.length:Int)<=(70:Int)))else some false))).bind fun(a:Bool)=>some a)
def agv(fu:Nat)(s_0:aC)(a:aC):Option Bool:=
 (((if(a.length:Int)<=(s_0.length:Int)then(gd (bZ ((s_0.length:Int)-(a.length:Int)))<|(gd (0<=((s_0.length:Int)-(a.length:Int))/\((s_0.length:Int)-(a.length:Int))<=(s_0.length:Int))<|some (decide ((bN (aZ ((s_0.length:Int)-(a.length:Int))) s_0)=a))))else some false)).bind fun(b:Bool)=>some b)
def uw(fu:Nat)(s_0:aC)(b:aC):Option Bool:=
 ((agv fu s_0 b).bind fun(a:Bool)=>some a)
open Go.Lib renaming hasPrefix → eZ, index → cE, trimPrefix → eJ
open List renaming drop → bN, take → nZ
def ke(fu:Nat)(a:UInt8):Option Bool:=
 (((if a=32 then some true else some (decide (a=9)))).bind fun(b:Bool)=>some b)
def acm(fu:Nat)(s_0:aC)(d:Int->Option Int)(a:Int):Option Int:=
 (((if a<(s_0.length:Int)then(gd (0<=a/\a<(s_0.length:Int))<|((ke fu (at_ s_0 a)).bind fun(c:Bool)=>some c))else some false)).bind fun(b:Bool)=>(bif b then(gd (bZ (a+1))<|(d (a+1)))else some a))
def aeb(fu:Nat)(s_0:aC):Nat->Int->Option Int:=fun b a=>bT (fun(g:Int->Option Int) v=>acm fu s_0 (fun a=>g a) v) b a
theorem afh:aeb a c (b+1) d=acm a c (aeb a c b) d:=rfl
def aih(fu:Nat)(s_0:aC)(b:Int):Option Int:=
 (((aeb fu s_0 fu (min (max b (0:Int)) (s_0.length:Int)))).bind fun(a:Int)=>some a)
def O1(fu:Nat)(s_0:aC)(b:Int):Option Int:=
 ((aih fu s_0 b).bind fun(a:Int)=>some a)
def agw(fu:Nat)(s_0:aC)(a:aC):Option Bool:=
 (((if(a.length:Int)<=(s_0.length:Int)then(gd (0<=(a.length:Int)/\(a.length:Int)<=(s_0.length:Int))<|some (decide ((nZ (aZ (a.length:Int)) s_0)=a)))else some false)).bind fun(v6:Bool)=>some v6)
def ajg(fu:Nat)(s_0:aC)(b:aC):Option Bool:=
 ((agw fu s_0 b).bind fun(a:Bool)=>some a)
def aei(fu:Nat)(a:aC)(c:aC)(e:Int->Option ((Int×Int×Bool)×Bool))(b:Int):Option ((Int×Int×Bool)×Bool):=
 (gd (0<=(min b (a.length:Int))/\(min b (a.length:Int))<=(a.length:Int))<|(gd ((bN (aZ (min b (a.length:Int))) a).length<=1000000000)<|(if(cE (bN (aZ (min b (a.length:Int))) a) (([45,45]:aC)++c))<(0:Int)then some (((0:Int),(0:Int),false),false)else(gd (bZ (b+(cE (bN (aZ (min b (a.length:Int))) a) (([45,45]:aC)++c))))<|(((if(0:Int)<(b+(cE (bN (aZ (min b (a.length:Int))) a) (([45,45]:aC)++c)))then(gd (0<=(b+(cE (bN (aZ (min b (a.length:Int))) a) (([45,45]:aC)++c)))/\(b+(cE (bN (aZ (min b (a.length:Int))) a) (([45,45]:aC)++c)))<=(a.length:Int))<|((uw fu (nZ (aZ (b+(cE (bN (aZ (min b (a.length:Int))) a) (([45,45]:aC)++c)))) a) ([13,10]:aC)).bind fun(h:Bool)=>some (!h)))else some false)).bind fun(g:Bool)=>(bif g then(gd (bZ ((b+(cE (bN (aZ (min b (a.length:Int))) a) (([45,45]:aC)++c)))+1))<|(e ((b+(cE (bN (aZ (min b (a.length:Int))) a) (([45,45]:aC)++c)))+1)))else(gd (bZ ((b+(cE (bN (aZ (min b (a.length:Int))) a) (([45,45]:aC)++c)))+((([45,45]:aC)++c).length:Int)))<|(gd (0<=((b+(cE (bN (aZ (min b (a.length:Int))) a) (([45,45]:aC)++c)))+((([45,45]:aC)++c).length:Int))/\((b+(cE (bN (aZ (min b (a.length:Int))) a) (([45,45]:aC)++c)))+((([45,45]:aC)++c).length:Int))<=(a.length:Int))<|((O1 fu (eJ (bN (aZ ((b+(cE (bN (aZ (min b (a.length:Int))) a) (([45,45]:aC)++c)))+((([45,45]:aC)++c).length:Int))) a) ([45,45]:aC)) (0:Int)).bind fun(d:Int)=>(gd (0<=d/\d<=((eJ (bN (aZ ((b+(cE (bN (aZ (min b (a.length:Int))) a) (([45,45]:aC)++c)))+((([45,45]:aC)++c).length:Int))) a) ([45,45]:aC)).length:Int))<|(if(bN (aZ d) (eJ (bN (aZ ((b+(cE (bN (aZ (min b (a.length:Int))) a) (([45,45]:aC)++c)))+((([45,45]:aC)++c).length:Int))) a) ([45,45]:aC)))=([]:aC)then some ((b+(cE (bN (aZ (min b (a.length:Int))) a) (([45,45]:aC)++c)),(a.length:Int),(eZ (bN (aZ ((b+(cE (bN (aZ (min b (a.length:Int))) a) (([45,45]:aC)++c)))+((([45,45]:aC)++c).length:Int))) a) ([45,45]:aC))),true)else((ajg fu (bN (aZ d) (eJ (bN (aZ ((b+(cE (bN (aZ (min b (a.length:Int))) a) (([45,45]:aC)++c)))+((([45,45]:aC)++c).length:Int))) a) ([45,45]:aC))) ([13,10]:aC)).bind fun(f:Bool)=>(bif f then(gd (bZ ((a.length:Int)-((bN (aZ d) (eJ (bN (aZ ((b+(cE (bN (aZ (min b (a.length:Int))) a) (([45,45]:aC)++c)))+((([45,45]:aC)++c).length:Int))) a) ([45,45]:aC))).length:Int)))<|(gd (bZ (((a.length:Int)-((bN (aZ d) (eJ (bN (aZ ((b+(cE (bN (aZ (min b (a.length:Int))) a) (([45,45]:aC)++c)))+((([45,45]:aC)++c).length:Int))) a) ([45,45]:aC))).length:Int))+2))<|some ((b+(cE (bN (aZ (min b (a.length:Int))) a) (([45,45]:aC)++c)),((a.length:Int)-((bN (aZ d) (eJ (bN (aZ ((b+(cE (bN (aZ (min b (a.length:Int))) a) (([45,45]:aC)++c)))+((([45,45]:aC)++c).length:Int))) a) ([45,45]:aC))).length:Int))+2,(eZ (bN (aZ ((b+(cE (bN (aZ (min b (a.length:Int))) a) (([45,45]:aC)++c)))+((([45,45]:aC)++c).length:Int))) a) ([45,45]:aC))),true)))else(gd (bZ ((b+(cE (bN (aZ (min b (a.length:Int))) a) (([45,45]:aC)++c)))+1))<|(e ((b+(cE (bN (aZ (min b (a.length:Int))) a) (([45,45]:aC)++c)))+1))))))))))))))))
def yb(fu:Nat)(d:aC)(c:aC):Nat->Int->Option ((Int×Int×Bool)×Bool):=fun b a=>bT (fun(g:Int->Option ((Int×Int×Bool)×Bool)) v=>aei fu d c (fun a=>g a) v) b a
variable {e:aC}
theorem apa:yb a c e (b+1) d=aei a c e (yb a c e b) d:=rfl
def kj(fu:Nat)(c:aC)(b:Int)(a:aC):Option ((Int×Int×Bool)×Bool):=
 (gd (([45,45]:aC).length+a.length<=9223372036854775807)<|(yb fu c a fu b))
def xq(fu:Nat)(a:UInt8):Option Bool:=
 (((if a<(32:UInt8)then(if a=9 then some (decide (a=127))else some true)else some (decide (a=127)))).bind fun(v6:Bool)=>some v6)
def ake(fu:Nat)(s_0:aC)(b:Int->Option (Unit⊕(Int×Bool)))(a:Int):Option (Unit⊕(Int×Bool)):=
 (if a<(s_0.length:Int)then(gd (0<=a/\a<(s_0.length:Int))<|((xq fu (at_ s_0 a)).bind fun(c:Bool)=>(bif (!c)then(gd (bZ (a+1))<|(b (a+1)))else(gd (0<=a/\a<(s_0.length:Int))<|(if(at_ s_0 a)=13 then(gd (bZ (a+1))<|(if(a+1)=(s_0.length:Int)then some (.inr ((0:Int),false))else(gd (bZ (a+1))<|(gd (0<=(a+1)/\(a+1)<(s_0.length:Int))<|(if(at_ s_0 (a+1))=10 then(gd (bZ (a+1))<|(gd (bZ ((a+1)+1))<|(b ((a+1)+1))))else some (.inr (a,true)))))))else some (.inr (a,true)))))))else some (.inl ()))
def ur(fu:Nat)(s_0:aC):Nat->Int->Option (Unit⊕(Int×Bool)):=fun b a=>bT (fun(g:Int->Option (Unit⊕(Int×Bool))) v=>ake fu s_0 (fun a=>g a) v) b a
theorem arj:ur a c (b+1) d=ake a c (ur a c b) d:=rfl
def avu(fu:Nat)(s_0:aC):Option (Int×Bool):=
 (((ur fu s_0 fu (0:Int))).bind fun(a:(Unit⊕(Int×Bool)))=>fC (fun(b:Unit)=>some ((0:Int),false)) (fun q=>some q) a)
open Go.Lib renaming index → cE, join → dA
open List renaming drop → bN, set → jV, take → nZ
def aqv(fu:Nat)(s_0:aC):Option aC:=
 some s_0
def dt(fu:Nat)(g:Int)(c:aC)(d:List aC)(a:dP):Option (Nat×(List aC)×dP):=
 (((((if c=([]:aC)then some true else(gd (0<=(0:Int)/\(0:Int)<(c.length:Int))<|((ke fu (at_ c (0:Int))).bind fun(i:Bool)=>some (!i))))).bind fun(h:Bool)=>(bif h then(((if(0:Int)<(a.length:Int)then(gd (bZ ((a.length:Int)-1))<|(gd (d.length<=1000000000/\(dA d ([32]:aC)).length<=100000000000)<|(gd (0<=((a.length:Int)-1)/\((a.length:Int)-1)<(a.length:Int))<|(gd (0<=((a.length:Int)-1)/\((a.length:Int)-1)<(a.length:Int))<|some (jV a (aZ ((a.length:Int)-1)) ((el a ((a.length:Int)-1)).1,dA d ([32]:aC)))))))else some a)).bind fun(f:dP)=>(gd ((f.length+([(g,([]:aC))]:dP).length)*24<=140737488355328)<|(gd (0<=(0:Int)/\(0:Int)<=(d.length:Int))<|some (nZ (aZ (0:Int)) d,f++([(g,([]:aC))]:dP)))))else some (d,a)))).bind fun(e:((List aC)×dP))=>(gd (c.length<=1000000000)<|gd (([32,9]:aC).length<=1000/\([32,9]:aC).all (fun b=>decide (b.toNat<128))=true)<|(if(Lib.trimS c [32,9])=([]:aC)then some (0,e.1,e.2)else(gd ((e.1.length+([Lib.trimS c [32,9]]:List aC).length)*16<=140737488355328)<|some (0,e.1++([Lib.trimS c [32,9]]:List aC),e.2)))))
def ye(fu:Nat)(b:aC)(g:Int->(List aC)->dP->Option ((List aC)×dP×Nat))(a:Int)(f:List aC)(e:dP):Option ((List aC)×dP×Nat):=
 (if a<(b.length:Int)then(gd (0<=a/\a<=(b.length:Int))<|(gd ((bN (aZ a) b).length<=1000000000)<|(if(cE (bN (aZ a) b) ([13,10]:aC))<(0:Int)then(gd (0<=a/\a<=(b.length:Int))<|((dt fu a (bN (aZ a) b) f e).bind fun(d:(Nat×(List aC)×dP))=>(if d.1=0 then some (d.2.1,d.2.2,0)else some (d.2.1,d.2.2,d.1))))else(gd (bZ (a+(cE (bN (aZ a) b) ([13,10]:aC))))<|(gd (0<=a/\a<=(a+(cE (bN (aZ a) b) ([13,10]:aC)))/\(a+(cE (bN (aZ a) b) ([13,10]:aC)))<=(b.length:Int))<|((dt fu a (sub b a (a+(cE (bN (aZ a) b) ([13,10]:aC)))) f e).bind fun(c:(Nat×(List aC)×dP))=>(if c.1=0 then(gd (bZ ((cE (bN (aZ a) b) ([13,10]:aC))+2))<|(gd (bZ (a+((cE (bN (aZ a) b) ([13,10]:aC))+2)))<|(g (a+((cE (bN (aZ a) b) ([13,10]:aC))+2)) c.2.1 c.2.2)))else some (c.2.1,c.2.2,c.1))))))))else some (f,e,0))
def yd(fu:Nat)(e:aC):Nat->Int->(List aC)->dP->Option ((List aC)×dP×Nat):=fun d c b a=>bT (fun(g:(Int×(List aC)×dP)->Option ((List aC)×dP×Nat)) v=>ye fu e (fun c b a=>g (c,b,a)) v.1 v.2.1 v.2.2) d (c,b,a)
theorem ach{e:List aC}{f:dP}:yd a c (b+1) d e f=ye a c (yd a c b) d e f:=rfl
def adr(fu:Nat)(x_1:List aC)(x_4:dP)(a:aC):Option ((List aC)×dP×Nat):=
 (yd fu a fu (0:Int) x_1 x_4)
def aqq(fu:Nat)(s_0:aC):Option (dP×Int×UInt8):=
 (if s_0=([]:aC)then some (([]:dP),(0:Int),(0:UInt8))else(gd (0<=(0:Int)/\(0:Int)<(s_0.length:Int))<|((ke fu (at_ s_0 (0:Int))).bind fun(c:Bool)=>(bif c then some (([]:dP),(0:Int),(5:UInt8))else((avu fu s_0).bind fun(b:(Int×Bool))=>(bif b.2 then some (([]:dP),b.1,(5:UInt8))else((uw fu s_0 ([13,10]:aC)).bind fun(e:Bool)=>(bif (!e)then some (([]:dP),(s_0.length:Int),(6:UInt8))else((aqv fu s_0).bind fun(d:aC)=>((adr fu ([]:List aC) ([]:dP) d).bind fun(a:((List aC)×dP×Nat))=>(if a.2.2=0 then(gd (bZ ((a.2.1.length:Int)-1))<|(gd (a.1.length<=1000000000/\(dA a.1 ([32]:aC)).length<=100000000000)<|(gd (0<=((a.2.1.length:Int)-1)/\((a.2.1.length:Int)-1)<(a.2.1.length:Int))<|(gd (0<=((a.2.1.length:Int)-1)/\((a.2.1.length:Int)-1)<(a.2.1.length:Int))<|some (jV a.2.1 (aZ ((a.2.1.length:Int)-1)) ((el a.2.1 ((a.2.1.length:Int)-1)).1,dA a.1 ([32]:aC)),(0:Int),(0:UInt8))))))else none)))))))))))
def xj(fu:Nat)(a:UInt8):Option UInt8:=
 (((if(65:UInt8)<=a then some (decide (a<=(90:UInt8)))else some false)).bind fun(b:Bool)=>(bif b then some (a+(32:UInt8))else some a))
def apu(fu:Nat)(a:UInt8):Option aC:=
 (if a=98 then some ([82,101,102,101,114,114,101,100,45,66,121]:aC)else(if a=99 then some ([67,111,110,116,101,110,116,45,84,121,112,101]:aC)else(if a=101 then some ([67,111,110,116,101,110,116,45,69,110,99,111,100,105,110,103]:aC)else(if a=102 then some ([70,114,111,109]:aC)else(if a=105 then some ([67,97,108,108,45,73,68]:aC)else(if a=107 then some ([83,117,112,112,111,114,116,101,100]:aC)else(if a=108 then some ([67,111,110,116,101,110,116,45,76,101,110,103,116,104]:aC)else(if a=109 then some ([67,111,110,116,97,99,116]:aC)else(if a=111 then some ([69,118,101,110,116]:aC)else(if a=114 then some ([82,101,102,101,114,45,84,111]:aC)else(if a=115 then some ([83,117,98,106,101,99,116]:aC)else(if a=116 then some ([84,111]:aC)else(if a=117 then some ([65,108,108,111,119,45,69,118,101,110,116,115]:aC)else(if a=118 then some ([86,105,97]:aC)else(if a=120 then some ([83,101,115,115,105,111,110,45,69,120,112,105,114,101,115]:aC)else some ([]:aC))))))))))))))))
def acr(fu:Nat)(s_0:aC)(d:aC->Int->Option aC)(b:aC)(a:Int):Option aC:=
 (if a<(s_0.length:Int)then(gd (0<=a/\a<(b.length:Int))<|(gd (0<=a/\a<(b.length:Int))<|((xj fu (at_ b a)).bind fun(c:UInt8)=>(gd (0<=a/\a<(b.length:Int))<|(gd (0<=a/\a<(b.length:Int))<|(gd (bZ (a+1))<|(d (jV b (aZ a) c) (a+1))))))))else some b)
def acv(fu:Nat)(s_0:aC):Nat->aC->Int->Option aC:=fun c b a=>bT (fun(g:(aC×Int)->Option aC) v=>acr fu s_0 (fun b a=>g (b,a)) v.1 v.2) c (b,a)
theorem ahr:acv a c (b+1) e d=acr a c (acv a c b) e d:=rfl
def acn(fu:Nat)(s_0:aC):Option aC:=
 (((acv fu s_0 fu s_0 (0:Int))).bind fun(a:aC)=>some a)
def akh(fu:Nat)(a:UInt8):Option UInt8:=
 (((if(97:UInt8)<=a then some (decide (a<=(122:UInt8)))else some false)).bind fun(b:Bool)=>(bif b then some (a-(32:UInt8))else some a))
open List renaming set → jV
def aqx(fu:Nat)(c:UInt8)(x_1:Bool):Option (UInt8×Bool):=
 (bif x_1 then((akh fu c).bind fun(b:UInt8)=>some (b,(decide (b=45))))else((xj fu c).bind fun(a:UInt8)=>some (a,(decide (a=45)))))
def ada(fu:Nat)(s_0:aC)(e:aC->Int->Bool->Option (aC×Bool))(b:aC)(a:Int)(d:Bool):Option (aC×Bool):=
 (if a<(s_0.length:Int)then(gd (0<=a/\a<(b.length:Int))<|(gd (0<=a/\a<(b.length:Int))<|((aqx fu (at_ b a) d).bind fun(c:(UInt8×Bool))=>(gd (0<=a/\a<(b.length:Int))<|(gd (0<=a/\a<(b.length:Int))<|(gd (bZ (a+1))<|(e (jV b (aZ a) c.1) (a+1) c.2)))))))else some (b,d))
def adk(fu:Nat)(s_0:aC):Nat->aC->Int->Bool->Option (aC×Bool):=fun d c b a=>bT (fun(g:(aC×Int×Bool)->Option (aC×Bool)) v=>ada fu s_0 (fun c b a=>g (c,b,a)) v.1 v.2.1 v.2.2) d (c,b,a)
theorem aif{f:Bool}:adk a c (b+1) e d f=ada a c (adk a c b) e d f:=rfl
def acw(fu:Nat)(s_0:aC)(x_1:Bool):Option (aC×Bool):=
 (((adk fu s_0 fu s_0 (0:Int) x_1)).bind fun(a:(aC×Bool))=>some (a.1,a.2))
def uV(fu:Nat)(d:aC)(c:Int->Option (Unit⊕(aC×UInt8)))(a:Int):Option (Unit⊕(aC×UInt8)):=
 (if a<(7:Int)then(gd (0<=a/\a<(N9.length:Int))<|((acn fu (el N9 a)).bind fun(b:aC)=>(if b=d then some (.inr (el N9 a,(0:UInt8)))else(gd (bZ (a+1))<|(c (a+1))))))else some (.inl ()))
def aki(fu:Nat)(c:aC):Nat->Int->Option (Unit⊕(aC×UInt8)):=fun b a=>bT (fun(g:Int->Option (Unit⊕(aC×UInt8))) v=>uV fu c (fun a=>g a) v) b a
def jy(fu:Nat)(a:aC):Option (aC×UInt8):=
 ((((TK fu a).bind fun(i:Bool)=>(bif (!i)then some true else some (decide ((64:Int)<(a.length:Int)))))).bind fun(h:Bool)=>(bif h then some (([]:aC),(5:UInt8))else(((if(a.length:Int)=(1:Int)then(gd (0<=(0:Int)/\(0:Int)<(a.length:Int))<|((xj fu (at_ a (0:Int))).bind fun(g:UInt8)=>((apu fu g).bind fun(b:aC)=>(if b=([]:aC)then some (.inl ())else some (.inr (b,(0:UInt8)))))))else some (.inl ()))).bind fun(f:(Unit⊕(aC×UInt8)))=>fC (fun(k:Unit)=>((acn fu a).bind fun(e:aC)=>(((aki fu e fu (0:Int))).bind fun(d:(Unit⊕(aC×UInt8)))=>fC (fun(j:Unit)=>((acw fu a true).bind fun(c:(aC×Bool))=>some (c.1,(0:UInt8)))) (fun q=>some q) d))) (fun q=>some q) f)))
def alh(fu:Nat)(c:aC)(b:Int->Option (Unit⊕Int))(a:Int):Option (Unit⊕Int):=
 (if a<(31:Int)then(gd (0<=a/\a<(31:Int))<|(gd (0<=a/\a<(Gn.length:Int))<|(if((el Gn a).1)=c then(gd (0<=a/\a<(31:Int))<|(gd (0<=a/\a<(Gn.length:Int))<|some (.inr ((el Gn a).2))))else(gd (bZ (a+1))<|(b (a+1))))))else some (.inl ()))
def ank(fu:Nat)(c:aC):Nat->Int->Option (Unit⊕Int):=fun b a=>bT (fun(g:Int->Option (Unit⊕Int)) v=>alh fu c (fun a=>g a) v) b a
theorem auu:ank a c (b+1) d=alh a c (ank a c b) d:=rfl
def ka(fu:Nat)(b:aC):Option Int:=
 (((ank fu b fu (0:Int))).bind fun(a:(Unit⊕Int))=>fC (fun(c:Unit)=>some (0:Int)) (fun q=>some q) a)
def ug(fu:Nat)(a:aC):Option Bool:=
 (((if a=([67,111,110,116,97,99,116]:aC)then(if a=([67,111,110,116,97,99,116]:aC)then some (.inr true)else some (.inl ()))else(if a=([80,97,116,104]:aC)then(if a=([80,97,116,104]:aC)then some (.inr true)else some (.inl ()))else(if a=([82,101,99,111,114,100,45,82,111,117,116,101]:aC)then(if a=([82,101,99,111,114,100,45,82,111,117,116,101]:aC)then some (.inr true)else some (.inl ()))else(if a=([82,111,117,116,101]:aC)then(if a=([82,111,117,116,101]:aC)then some (.inr true)else some (.inl ()))else(if a=([83,101,114,118,105,99,101,45,82,111,117,116,101]:aC)then some (.inr true)else some (.inl ()))))))).bind fun(d:(Unit⊕Bool))=>fC (fun(e:Unit)=>((ka fu a).bind fun(b:Int)=>(((if b=(2:Int)then some true else some (decide (b=(7:Int))))).bind fun(c:Bool)=>some c))) (fun q=>some q) d)
def TJ(fu:Nat)(s_0:aC):Option aC:=
 (gd (s_0.length<=1000000000)<|gd (([32,9]:aC).length<=1000/\([32,9]:aC).all (fun b=>decide (b.toNat<128))=true)<|some (Lib.trimS s_0 [32,9]))
def O2(fu:Nat)(a:(aC×Int)):Option (aC×Int):=
 ((O1 fu a.1 a.2).bind fun(b:Int)=>some (a.1,b))
def ki(fu:Nat)(a:(aC×Int)):Option Bool:=
 some (decide ((a.1.length:Int)<=a.2))
end Go.Wk
