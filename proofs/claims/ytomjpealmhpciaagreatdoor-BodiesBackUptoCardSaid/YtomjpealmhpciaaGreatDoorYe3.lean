/-
  The law BodiesBack holds (part 3 of 9).
-/
import Derived.Test.YtomjpealmhpciaaGreatDoorYe2
import Derived.Orders
import GoSem.Core.Utf8
open Bool renaming false → η, true → ζ
open Go renaming Addr → χ, Oper → ψ, Operand → π, Program → ω, TypeId → φ, Value → θ, World → ν, execOp → ξ
open Go.Region renaming ready → Β
open Go.Utf8 renaming decode → Δ, encode → ο
open Go.Value renaming func → Γ, slice → μ
open List renaming length → γ
open Option renaming none → ε, some → δ
set_option linter.unusedVariables false
set_option linter.unusedSimpArgs false
namespace Go.Oe
open Go.Wk
open Go.Ce (Tr)
section
variable {C:Cx}{md:Md}{w0 w:ν}{S0:List Nat}{ρ:Nat->Ad}{S:St}{F:Nat->θ}
variable {d:Nat}{ty:φ}{pos:String}{after:Array Edge}
def adB(b:Nat):Ad:=⟨δ b,δ ⟨b,0,ε⟩,0,η,0⟩
variable {z:List SC}{e:Nat}
theorem Lg{op:Op}{x:SC}{V:Nat->θ}(h:Rel C w0 S0 ρ S F w)(f:∀c∈z,c.ok (γ S.H))(hx:x.ok (γ S.H+1))(n:nA op=η)
  (u:∀b,x.v (Hw ρ (γ S.H) (adB b))=V b) (a:(ξ (aZ md F) (⟨δ d,op,ty,pos,after,ε⟩)).run C.P w=.ok (.value (V w.heap.size)) (w.alloc (.cells (z.map (SC.v ρ)).toArray e (0,0)))):
  Step C md w0 S0 ρ S F w ⟨δ d,op,ty,pos,after,ε⟩ (St.set ⟨S.F,S.H++[.bl e z],S.nb,S.al,[]++S.m⟩ d (.c' x)):=by
 intro r Q l p;obtain⟨L,m,y⟩:=h.mem;refine iQ m _ e V rfl rfl a λb k i=> ?_
 have A:Rel C w0 S0 (Hw ρ (γ S.H) (adB b)) ⟨S.F,S.H++[.bl e z],S.nb,S.al,[]++S.m⟩ F k:=by
  refine zS (o:=.bl e z) h y i ⟨z.map _,by rw [oU];rfl,aA2,λj c q p=> ?_⟩ rfl (λD B s c t=> ?_) rfl rfl
  ·rw [bE,q,SC.up yC (f c (aG q))];rfl
  ·cases s;exact SC.cN (f c t) aA0
 refine p _ _ k (lq A (by show δ _=_;rw [u]) (by show x.ok (γ (S.H++[_]));simpa using hx)) (Mr h rfl rfl rfl rfl) RB λd2 _ g=> ?_;rw [show nA op=ζ from g]at n;cases n
variable {a:Ro}
theorem JB(k:Rel C w0 S0 ρ S F w)(h:jC C (S.ev C) S.H (.alloc e)=δ a):Step C md w0 S0 ρ S F w ⟨δ d,.alloc e,ty,pos,after,ε⟩ (St.set ⟨S.F,a.H,S.nb,S.al,a.m++S.m⟩ d a.v):=by
 have h:(match zC C e with
  |some z=>δ (Ro.mk [] (.c' (.p' (γ S.H) 0)) (S.H++[.bl e z]) [])
  |none=>ε)=δ a:=h
 split at h
 ·rename_i z g;cases h;obtain⟨o,n,l,f⟩:=XS g w;refine Lg (V:=λb=>.pointer (δ ⟨b,0,ε⟩)) k (λc j i m=>by rw [(l c j).1]at m;cases m) (λi m=>by have:i=γ S.H:=aE.1 m;omega) rfl (λb=>by show jH (Hw ρ _ _ _).b 0=_;rw [oU];rfl) ?_;have f:=f ρ;simp [ξ,Instr.alloc,n,newVar,newRow,f]
 ·cases h
theorem A2(c:Rel C w0 S0 ρ S F w)(f:C.nn=md.n){x:π}(h:jC C (S.ev C) S.H (.box e x)=δ a):Step C md w0 S0 ρ S F w ⟨δ d,.box e x,ty,pos,after,ε⟩ (St.set ⟨S.F,a.H,S.nb,S.al,a.m++S.m⟩ d a.v):=by
 have h:(match(S.ev C x).cells with
  |some cs=>δ (Ro.mk [] (.c' (.p' (γ S.H) 0)) (S.H++[.bl e cs]) [])
  |none=>ε)=δ a:=h
 split at h
 ·rename_i cs m;cases h;obtain⟨p,o⟩:=Sl c f x;obtain⟨u,l,k⟩:=SV.Kb (ρ:=ρ) m;have j:=o u l;refine Lg (V:=λb=>.pointer (δ ⟨b,0,ε⟩)) c (SV.Pn m p) (λi g=>by have:i=γ S.H:=aE.1 g;omega) rfl (λb=>by show jH (Hw ρ _ _ _).b 0=_;rw [oU];rfl) ?_;simp [ξ,Instr.box,j,newVar,newRow,k]
 ·cases h
theorem zQ(z:List SC):∀k,γ (zR z k)=k*γ z
 |0=>by simp [zR]
 |k+1=>by show(z++zR z k).length=_;rw [bP,zQ z k,dB,Jc]
theorem CY{z:List SC}{p:SC->Prop}(a:∀x∈z,p x):∀k,∀x∈zR z k,p x
 |0,x,h=>by cases h
 |k+1,x,h=>by
  rcases aR.1 (h)with h|h
  ·exact a x h
  ·exact CY a k x h
theorem CZ(z:List SC):∀k j,j<k*γ z->(zR z k)[j]? =z[j%γ z]?
 |0,j,h=>by omega
 |k+1,j,h=>by
  show(z++zR z k)[j]? =_;by_cases a:j<γ z
  ·rw [aI a,Nat.mod_eq_of_lt a]
  ·rw [aN aA0,CZ z k _ (by rw [dB]at h;omega)];rw [<-Nat.mod_eq_sub_mod aA0]
theorem ff{a:Array θ}(j:a=(z.map (SC.v ρ)).toArray):(Array.range (e*γ z)).map (a[·%a.size]!)=((zR z e).map (SC.v ρ)).toArray:=by
 subst j;apply ae
 ·simp [zQ]
 ·intro i l m;have b:i<e*γ z:=by simpa using l
  have f:0<γ z:=by
   rcases Nat.eq_zero_or_pos (γ z) with h|h
   ·rw [h]at b;simp at b
   ·exact h
  have k:=CZ z e i b;have d:i%γ z<γ z:=Nat.mod_lt _ f;have g:i<γ (zR z e):=by rw [zQ];exact b
  rw [aO d,aO g]at k;have c:=aJ k;simp only [List.getElem_toArray,List.getElem_map,c];simp [d]
theorem Ia(D:Rel C w0 S0 ρ S F w)(L:C.nn=md.n){len:Nat}{j:Array (Nat×π)}(h:jC C (S.ev C) S.H (.buildSlice e len j)=δ a):Step C md w0 S0 ρ S F w ⟨δ d,.buildSlice e len j,ty,pos,after,ε⟩ (St.set ⟨S.F,a.H,S.nb,S.al,a.m++S.m⟩ d a.v):=by
 have h:ari C _ S.H e len j.toList=δ a:=h;unfold ari at h;split at h
 ·rename_i m B;split at h
  ·rename_i z n K o;have I:=dK h;have G:=dK I.2;have A:=G.2;split at A
   ·rename_i cs x;cases A;have l:=iB I.1;have M:=BJ G.1;obtain⟨J,T,R,y⟩:=XS K w;have y:=y ρ;obtain⟨E,U,Q⟩:=Ox (ρ:=ρ) (md:=md) (F:=F) (k:=γ S.H) j.toList (zR z len) cs (λp _=>Sl D L p.2) (CY (λc O i s=>by rw [(R c O).1]at s;cases s) len) x;have f:(j.map λp=>(p.1,aZ md F p.2)).toList=j.toList.map λp=>(p.1,aZ md F p.2):=aA2;refine Lg (V:=λb=>.slice (δ ⟨b,0,ε⟩) len len) D Q (λi s=>by have:i=γ S.H:=aE.1 s;omega) rfl (λb=>by show μ (δ ⟨(Hw ρ _ _ _).b,0,ε⟩) len len=_;rw [oU];rfl) ?_;have r:¬len*n>2^24:=aA0
    have q:∀t:Array θ,(len*n≠0->t=(z.map (SC.v ρ)).toArray)->(Array.range (len*n)).map (t[·%t.size]!)=((zR z len).map (SC.v ρ)).toArray:=by
     intro t P;by_cases g:len*n=0
     ·have N:γ (zR z len)=0:=by rw [zQ,l,g]
      have:zR z len=[]:=vJ N;rw [g,this];simp
     ·rw [<-l];exact ff (P g)
    by_cases g:len*n=0
    ·have u:=q #[] (λh=>absurd g h);simp only [ξ,Instr.buildSlice,Sem.run_bind,run_underlying (ep B),Result.andThen_ok,Uf o w];rw [aA r,aB g];simp only [Sem.run_bind,Sem.run_pure,Result.andThen_ok];rw [f,u,E];simp [newRow]
    ·have u:=q J.cells (λ_=>y);simp only [ξ,Instr.buildSlice,Sem.run_bind,run_underlying (ep B),Result.andThen_ok,Uf o w];rw [aA r,aA g];simp only [Sem.run_bind,T,Sem.run_pure,Result.andThen_ok];rw [f,u,E];simp [newRow]
   ·cases A
  ·cases h
 ·cases h
end
open Go.Wk
open Go.Ce (Tr)
open List renaming length → aM
open Nat renaming beq → cV
theorem Bn{a:Type}{f:a->List θ}{sz:Nat}(b:oY f sz):∀(l:List a) i x,l[i]? =δ x->∃A B,l.flatMap f=A++(f x++B)/\γ A=i*sz
 |y::l,0,x,h=>by have:y=x:=aA8;subst this;exact⟨[],l.flatMap f,rfl,aA2⟩
 |y::l,i+1,x,h=>by obtain⟨A,B,d,c⟩:=Bn b l i x aA8;exact⟨f y++A,B,by rw [rZ,d,gH],by rw [bP,b.len,c,dB,Jc]⟩
theorem QK(t:Ty)(l:List t.T)(j:Int)(h:0<=j/\j<aM l):l[j.toNat]? =δ (Z7 t l j):=by have a:j.toNat<aM l:=aA0;rw [zx];unfold el;simp [aO a]
variable {j:Int}{t:Ty}
theorem Lb{sz:Nat}(h:CB sz j t=ζ):j.toNat*sz=j.toNat*t.sz:=by
 unfold CB at h;cases a:cV sz t.sz with
 |true=>rw [iB a]
 |false=>
  rw [a]at h;split at h
  ·show 0*sz=0*t.sz;simp
  ·cases h
theorem R3{l:List t.T}(a:t.flat=ζ)(b:0<=j/\j<aM l)(ρ:Nat->Ad):∃A B,l.flatMap t.enc=A++((ry t l j).map (SC.v ρ)++B)/\γ A=j.toNat*t.sz:=by obtain⟨A,B,d,c⟩:=Bn (Ty.wG a) l j.toNat _ (QK t l j b);refine⟨A,B, ?_,c⟩;rw [d];unfold ry;rw [(Ty.Aq t 0 0 _ a).2]
section
variable {C:Cx}{md:Md}{w0 w:ν}{S0:List Nat}{ρ:Nat->Ad}{S:St}{F:Nat->θ}
variable {d:Nat}{ty:φ}{pos:String}{after:Array Edge}
variable {x:π}{t:Nat}{a:Bool}
theorem OC{n off k:Nat}{g:Option χ}{f A B:List θ}{cs:List SC}{v:SV}(m:Rd w g f)(b:f=A++(cs.map (SC.v ρ)++B))(o:aM A=k)(p:Tj C t=δ n)(l:ZX C t=δ a)(j:wC cs off n a=δ v)(r:cs≠[])(e:a=ζ->0<n)
  (hx:aZ md F x=.pointer (δ (ea g (k+off)))) (h:∀c∈cs,c.ok (γ S.H)):vT C md ρ S F w (.load t x) v:=by
 refine⟨Ea j h, ?_⟩;rcases sS j with⟨rfl,c,i,_,rfl⟩|⟨rfl,i,_,rfl⟩|⟨rfl,rfl,rfl⟩
 ·refine⟨_,rfl,λd ty pos after=>oc g f _ _ m ?_ hx (TV l w)⟩;rw [b,aN aA0,o,zbM];have q:=(aD.1 i).1;rw [aI (by simpa using q),bE,i];rfl
 ·refine⟨_,rfl,λd ty pos after=>oa g f _ _ n m ?_ ?_ (e rfl) hx (TV l w) (Uf p w)⟩
  ·rw [b,<-o,List.drop_append,af aA0,vX,zbM,jF aA4,Cv aA4,List.map_take,List.map_drop]
  ·simp;omega
 ·exact absurd (e rfl) aA0
variable {c:Ty}
theorem R4{l:List c.T}{j:Int}(a:c.flat=ζ)(n:Nat):(∀t∈ry c l j,t.ok n)/\γ (ry c l j)=c.sz:=by have g:=Ty.Uw c 0 0 (Z7 c l j) a;refine⟨λt e i b=>(by rw [(g t e).1]at b;cases b), ?_⟩;have f:=(Ty.Aq c 0 0 (Z7 c l j) a).2 (λ_=>⟨ε,ε,0,η,0⟩);have d:=aV aM f;rw [Rf,Ty.Zu c _ a]at d;exact d
variable {j:Int}{b:Ro}
theorem Me{n off id sz:Nat}{τ:Ty}{l:List τ.T}(q:Rd w (ρ id).a (l.flatMap τ.enc))(k:Tj C t=δ n)(p:ZX C t=δ a)(g:cV n 0=η)(hx:aZ md F x=.pointer (δ (ea (ρ id).a (j.toNat*sz+off))))
  (h:sR S.H τ l j sz off n a=δ b) (o:Iy b.g):vT C md ρ S F w (.load t x) b.v/\b.H=S.H/\b.m=[]:=by
 unfold sR at h;split at h
 ·rename_i v i;have f:=dK h;have c:=iK f.1;cases f.2;obtain⟨A,B,u,s⟩:=R3 (ρ:=ρ) c.2 o.1;obtain⟨r,d⟩:=R4 c.2 (γ S.H);refine⟨OC q u s k p i (λe=> ?_) (λ_=> ?_) (by rw [hx,Lb c.1]) r,rfl,rfl⟩
  ·have:=Ty.Dm c.2;rw [e]at d;simp at d;omega
  ·exact Qo λe=>by rw [e]at g;cases g
 ·cases h
theorem RJ{t:Ty}(b:t.flat=ζ)(ρ:Nat->Ad)(n:Nat):∀l,(W5 t l).map (SC.v ρ)=l.flatMap t.enc/\∀c∈W5 t l,c.ok n
 |[]=>⟨rfl,λc a=>by cases a⟩
 |x::l=>by
  obtain⟨f,e⟩:=RJ b ρ n l;refine⟨?_,λc a=> ?_⟩
  ·show((t.lay 0 0 x).1++W5 t l).map _=_;rw [AY,f,(Ty.Aq t 0 0 x b).2,rZ]
  ·rcases aR.1 (a)with a|a
   ·intro i d;rw [(Ty.Uw t 0 0 x b c a).1]at d;cases d
   ·exact e c a
theorem RU{n off id sz:Nat}{l:List c.T}(o:Rd w (ρ id).a (l.flatMap c.enc))(g:Tj C t=δ n)(i:ZX C t=δ a)(τ:cV n 0=η)(hx:aZ md F x=.pointer (δ (ea (ρ id).a (j.toNat*sz+off))))
  (h:Km S.H c l j off n a=δ b):vT C md ρ S F w (.load t x) b.v/\b.H=S.H/\b.m=[]:=by
 unfold Km at h;split at h
 ·have d:=dK h;obtain⟨v,f,rfl⟩:=W3 d.2;obtain⟨q,p⟩:=RJ d.1 ρ (γ S.H) l;refine⟨OC (A:=[]) (B:=[]) (k:=0) o (by rw [q];simp) rfl g i f (λe=> ?_) (λ_=> ?_) (by rw [hx];simp) p,rfl,rfl⟩
  ·rcases sS f with⟨_,m,d,_⟩|⟨_,d,_⟩|⟨_,d,_⟩
   ·rw [e]at d;simp at d
   ·rw [e]at d;have:n=0:=by simp at d;omega
    rw [this]at τ;cases τ
   ·rw [d]at τ;cases τ
  ·exact Qo λe=>by rw [e]at τ;cases τ
 ·cases h
theorem OZ(N:Rel C w0 S0 ρ S F w){c:SC}(hx:aZ md F x=c.v ρ)(h:lJ C S.H t c=δ b)(G:Iy b.g):vT C md ρ S F w (.load t x) b.v/\b.H=S.H/\b.m=[]:=by
 obtain⟨L,z,B⟩:=N.mem;unfold lJ at h;split at h
 ·rename_i n a q o;cases f:cV n 0 with
  |true=>rw [f]at h;cases h
  |false=>
   rw [f]at h;split at h
   ·rename_i id off;split at h
    ·rename_i e cs i;rw [gV]at i;obtain⟨v,K,rfl⟩:=W3 h;obtain⟨_,r,p,D,rfl,M⟩:=B.2 id _ i;have k:=z.dG id p;refine⟨⟨Ea K (N.ho id e cs i), ?_⟩,rfl,rfl⟩;rcases sS K with⟨rfl,c,P,J,rfl⟩|⟨rfl,P,J,rfl⟩|⟨rfl,rfl,rfl⟩
     ·exact⟨_,rfl,λd ty pos after=>jW (ρ id).b off D e _ k (M.2 off c P J) hx (TV o w)⟩
     ·refine⟨_,rfl,λd ty pos after=>oh (ρ id).b off n D _ e k ?_ aA4 hx (TV o w) (Uf q w)⟩;apply bV;intro j;rw [bO,bE,bO];by_cases y:j<n
      ·rw [aB y,aB y,bZ,bZ];have E:off+j<aM cs:=by omega
       have A:=aO E;rw [A,M.2 _ _ A (J _ (aG (by rw [bO,aB y,bZ];exact A)))];rfl
      ·rw [aA y,aA y];rfl
     ·exact⟨_,rfl,λd ty pos after=>oh (ρ id).b off 0 D _ e k aA2 rfl hx (TV o w) (Uf q w)⟩
    ·cases h
   ·rename_i id j T off;split at h
    ·rename_i e g τ l i;rw [gV]at i;obtain⟨_,r,p,I⟩:=B.2 id _ i;subst I;exact Me (z.eV id p) q o f hx h G
    ·rename_i τ l i;rw [gV]at i;obtain⟨_,r,p,_,s,u,_⟩:=B.2 id _ i;split at h
     ·rename_i Q R;cases h;exact Me (s.XB z u) q o f hx R G
     ·exact RU (s.XB z u) q o f hx h
    ·rename_i m l i;rw [gV]at i;obtain⟨_,r,p,I⟩:=B.2 id _ i;subst I;have O:=z.kJ id p;have A:=(mO l).symm;rw [A]at O;exact Me (τ:=.c') O q o f hx h G
    ·cases h
   ·cases h
 ·cases h
end
open Go.Wk
open Go.Ce (Tr)
open Nat renaming beq → cV, one_pos → Jd
section
variable {C:Cx}{md:Md}{w0 w:ν}{S0:List Nat}{ρ:Nat->Ad}{S:St}{F:Nat->θ}
variable {L:List cB}{t:Nat}{d:St}
theorem Jh{r:cB}{n:ν}{o l:Ob}(h:Rel C w0 S0 ρ S F w)(j:Mt w0 S0 ρ S.H L)(s:S.H[t]? =δ l)(E:Hp w0 S0 (L.set t r) n)(z:RO w0 S0 ρ t o r)(B:o.len=l.len)(A:∀e cs,o=.bl e cs->∀c∈cs,c.ok (γ S.H))
  (G:d.F=S.F) (b:d.H=kA S.H t o):Rel C w0 S0 ρ d F n:=by
 have q:∀H,d.at H=S.at H:=λH=>by rw [St.at_eq,St.at_eq,G]
 have a:γ d.H=γ S.H:=by rw [b,LU]
 have M:=(aD.1 s).1;refine⟨λg i D=>by rw [a];exact h.gl g i D,λH u y=>h.fr H u (by rw [<-q];exact y),λH=>by rw [q,a];exact h.fo H,λi e cs f c p=> ?_,⟨L.set t r,E,by simp [j.1,a],λi x k=> ?_⟩⟩
 ·rw [b,yA]at f;rw [a];split at f
  ·cases f;exact A e cs rfl c p
  ·exact h.ho i e cs f c p
 ·rw [b,yA]at k;split at k
  ·rename_i m;cases k;rw [m.1];exact⟨by rw [B];exact(j.2 t l s).1,r,by rw [eH];simp [j.1,M],z⟩
  ·rename_i m;obtain⟨K,v,J,I⟩:=j.2 i x k;refine⟨K,v, ?_,I⟩;rw [eH,aA (λe=>m ⟨e.symm,M⟩)];exact J
theorem Yt{o n:Ob}{m:List Rg}(u:Rel C w0 S0 ρ S F w)(s:S.H[t]? =δ n)(g:S.Gu m=ζ)(r:∀b:List Rg,(∀j,eY t j m=ζ->eY t j b=ζ)->lS b t ρ ρ (δ o) n)(k:d.H=kA S.H t o)(f:d.nb=S.nb)(h:d.al=S.al)(p:d.m=m++S.m):Nx S ρ d ρ:=by
 have c:∀e b,(∀j,t<e->eY t j m=ζ->eY t j b=ζ)->Le e b ρ S.H ρ d.H:=by
  intro e b a;rw [k];refine⟨by rw [LU];exact eK _,Up.refl,λi v z l=> ?_⟩;rw [yA];split
  ·rename_i q;rw [q.1,s]at l;cases l;rw [q.1]at z⊢;exact r b λj=>a j z
  ·rw [l];exact lS.refl
 exact⟨⟨f,h,c _ _ λj z a=>Ae g z a⟩,c _ _ λj _ a=>by rw [p];exact Hv.2 (.inl a),λt j a=>by rw [p];exact Hv.2 (.inr a)⟩
variable {A E:List θ}
theorem JE(h:t+γ E<=γ A)(j:Nat):(xX A t E)[j]? =if t<=j/\j<t+γ E then E[j-t]? else A[j]? :=by
 unfold xX;by_cases b:j<t
 ·rw [aA aA0,gH,aI aA4,bO,aB b]
 ·by_cases a:j<t+γ E
  ·rw [aB ⟨aA0,a⟩,aI aA4,aN aA4];simp;congr 1;omega
  ·rw [aA aA0,aN aA4,bZ];congr 1;simp;omega
theorem Li(h:t+γ E<=γ A):γ (xX A t E)=γ A:=by unfold xX;simp;omega
variable {b:φ}{c:String}{a:Array Edge}{n e g:Nat}{x y:π}
theorem Rm(s:Rel C w0 S0 ρ S F w)(U:C.nn=md.n){off:Nat}{cs vs H:List SC}(z:S.H[e]? =δ (.bl g cs))(hx:aZ md F x=jH (ρ e).b off)(p:(S.ev C y).cells=δ vs)(B:Tj C t=δ n)(W:γ vs=n)(i:vL cs off vs=δ H)(V:S.Gu [(e,off,off+n)]=ζ):
  Step C md w0 S0 ρ S F w ⟨ε,.store t x y,b,c,a,ε⟩ ⟨S.F,kA S.H e (.bl g H),S.nb,S.al,[(e,off,off+n)]++S.m⟩:=by
 intro O Q K G;obtain⟨L,Z,N⟩:=s.mem;obtain⟨_,r,T,l,rfl,m⟩:=N.2 e _ z;obtain⟨h1,h2⟩:=Sl s U y;obtain⟨u,h3,h4⟩:=SV.Kb (ρ:=ρ) p;have h5:=h2 u h3;obtain⟨h6,h7⟩:=ayw i;have h:off+γ (vs.map (SC.v ρ))<=γ l:=by rw [m.1];simpa using h6
 have A:=SV.Pn p h1;obtain⟨w',q,J⟩:=Z.stored (P:=C.P) (off:=off) (vs:=vs.map (SC.v ρ)) T h (λv R=>by obtain⟨a0,_,rfl⟩:=cJ.1 R;exact SC.one ρ a0);have hx:aZ md F x=.pointer (δ ⟨(ρ e).b,off,ε⟩):=hx;have M:(sizeOf t).run C.P w=.ok (γ (vs.map (SC.v ρ))) w:=by rw [Rf,W];exact Uf B w
 refine pM (w':=w') rfl rfl ?_ (G ρ F w' ?_ ?_ (λ_ _=>rfl) (λd Y=>by cases Y))
 ·have D:(sizeOf t).run C.P w=.ok (γ vs) w:=by rw [Rf]at M;exact M
  simp [ξ,hx,h5,Instr.storeAt,Instr.sureAddr,storeVar,D,h4,q]
 ·refine Jh (o:=.bl g H) s N z J ⟨_,rfl,by rw [Li h,m.1,zX i],λj a0 f E=> ?_⟩ rfl (λe2 a6 X a0 I=> ?_) rfl rfl
  ·rw [sP i]at f;rw [JE h,Rf];split at f
   ·rename_i k;rw [aB k,bE,f];rfl
   ·rename_i k;rw [aA k];exact m.2 j a0 f E
  ·cases X;obtain⟨j,f⟩:=gD.1 I;rw [sP i]at f;split at f
   ·exact A a0 (aG f)
   ·exact s.ho e g cs z a0 (aG f)
 ·refine Yt s z V (λal I=>.inr ⟨H,rfl,zX i,λj a0 f=> ?_⟩) rfl rfl rfl rfl;by_cases k:off<=j/\j<off+γ vs
  ·left;refine I j (wO.2 ⟨_,aE.2 rfl,rfl,k.1, ?_⟩);show j<off+n;omega
  ·exact .inr ⟨a0,by rw [sP i,aA k];exact f,λG=>⟨G,rfl⟩⟩
theorem GH{a:Type}{f:a->List θ}{sz:Nat}(b:oY f sz):∀(l:List a) i y,l[i]? =δ y->∃A B,l.flatMap f=A++(f y++B)/\γ A=i*sz/\∀x,(l.set i x).flatMap f=A++(f x++B)
 |z::l,0,y,h=>by have:z=y:=aA8;subst this;exact⟨[],l.flatMap f,rfl,aA2,λx=>rfl⟩
 |z::l,i+1,y,h=>by obtain⟨A,B,e,d,c⟩:=GH b l i y aA8;exact⟨f z++A,B,by rw [rZ,e,gH],by rw [bP,b.len,d,dB,Jc],λx=>by rw [List.set_cons_succ,rZ,c,gH]⟩
theorem JD{B vs:List θ}(h:t+γ vs<=γ E):xX (A++(E++B)) (γ A+t) vs=A++(xX E t vs++B):=by unfold xX;rw [List.take_length_add_append,De,List.drop_length_add_append,Cv aA0,jF h];simp
theorem cy{b:Type}{f:b->List θ}{o:Option Nat}{l:List b}{k:Nat}(h:Hp w0 S0 L w)(d:L[k]? =δ (bA f t n o (δ ⟨g,0,ε⟩) e l))(c:l≠[]):o=δ g:=by
 obtain⟨j,_⟩:=h.res _ (aG d);rcases j with⟨_,a,_⟩|⟨p,m,i,a,_⟩
 ·exact absurd a c
 ·simp at a;rw [a];exact i
theorem Rj(O:Rel C w0 S0 ρ S F w)(hn:C.nn=md.n){off m a0:Nat}{τ:Ty}{l l2:List τ.T}{j:Int}{vs:List SC}(hb:S.H[e]? =δ (.rw m a0 τ l))(hx:aZ md F x=.pointer (δ (ea (ρ e).a (j.toNat*g+off))))(R:(S.ev C y).cells=δ vs)(U:Tj C t=δ n)(hl:γ vs=n)(J:cV n 0=η)
  (a1:CB g j τ=ζ) (N:τ.flat=ζ) (hj:0<=j/\j<γ l) (s:vn τ l j off vs=δ l2) (hm:S.Gu [(e,0,1)]=ζ):
  Step C md w0 S0 ρ S F w ⟨ε,.store t x y,b,c,a,ε⟩ ⟨S.F,kA S.H e (.rw m a0 τ l2),S.nb,S.al,[(e,0,1)]++S.m⟩:=by
 intro b3 Q a8 hk;obtain⟨L,hH,hM⟩:=O.mem;obtain⟨iX,r,I,K⟩:=hM.2 e _ hb;have K:=K;subst K;have hE:=Ty.wG N;obtain⟨h1,h2⟩:=Sl O hn y;obtain⟨u,h3,h4⟩:=SV.Kb (ρ:=ρ) R;have h5:=h2 u h3;unfold vn at s;split at s
 ·rename_i cs a5;split at s
  ·rename_i z hz;cases s;have a2:j.toNat<γ l:=aA0;obtain⟨A,B,f1,f2,f3⟩:=GH hE l j.toNat _ (QK τ l j hj);obtain⟨h6,h7⟩:=ayw a5;have a4:=(Ty.Aq τ 0 0 (Z7 τ l j) N).2 ρ;have E:=(D9 τ cs z [] hz).2 ρ;rw [eG,fI]at E;have Z:γ (ry τ l j)=τ.sz:=(R4 (l:=l) (j:=j) N 0).2;have V:xX (τ.enc (Z7 τ l j)) off (vs.map (SC.v ρ))=τ.enc z:=by rw [<-E,<-a4,h7];unfold xX ry;simp
   have q:γ (τ.enc (Z7 τ l j))=τ.sz:=τ.Zu _ N;have i:off+γ (vs.map (SC.v ρ))<=γ (τ.enc (Z7 τ l j)):=by rw [q,Rf,<-Z];exact h6
   cases Y:(ρ e).o with
   |none=>
    exfalso;rw [Y]at I;obtain⟨h8,_⟩:=hH.res _ (aG I);rcases h8 with⟨_,D,_⟩|⟨T,c9,D,_⟩
    ·subst D;simp at a2
    ·cases D
   |some T=>
    rw [Y]at I;obtain⟨ha,h8⟩:=hH.CO hE e I;have p:e<γ L:=(aD.1 I).1;have a3:γ (l.flatMap τ.enc)=γ A+(τ.sz+γ B):=by rw [f1];simp [q]
    obtain⟨w',G,D⟩:=h8.ZZ (P:=C.P) (k:=e) (vs:=vs.map (SC.v ρ)) (j:=γ A+off) (aY p) (by rw [a3];rw [q]at i;omega) (λv hv=>by
     obtain⟨H,_,rfl⟩:=cJ.1 hv;exact SC.one ρ H) (λf=>by
     have:vs=[]:=List.map_eq_nil_iff.1 f;rw [this]at hl;rw [<-hl]at J;cases J)
    rw [HL,f1,JD i,V,<-f3 z,show γ l=γ (l.set j.toNat z) by simp]at D;obtain⟨o',h⟩:=D.Lq (k:=e) (l:=l.set j.toNat z) (aY p);rw [HL]at h;have X:o'=δ T:=by
     rw [ha]at h;refine cy h (aY p) λf=> ?_;have:γ (l.set j.toNat z)=0:=by rw [f];rfl
     rw [pD]at this;omega
    rw [X,<-Y]at h;have W:(sizeOf t).run C.P w=.ok (γ vs) w:=by rw [hl];exact Uf U w
    refine pM (w':=w') rfl rfl ?_ (hk ρ F w' ?_ ?_ (λ_ _=>rfl) (λd hd=>by cases hd))
    ·have M:j.toNat*g+off=γ A+off:=by rw [Lb a1,f2]
     rw [M]at hx;simp [ξ,hx,h5,Instr.storeAt,Instr.sureAddr,storeVar,W,h4,G]
    ·exact Jh (o:=.rw m a0 τ _) O hM hb h rfl (by show(l.set j.toNat z).length=γ l;simp) (λ_ _ K=>by cases K) rfl rfl
    ·exact Yt O hb hm (λal hc=>.inl (hc 0 (wO.2 ⟨_,aE.2 rfl,rfl,eK _,Jd⟩))) rfl rfl rfl rfl
  ·cases s
 ·cases s
theorem Rl(R:Rel C w0 S0 ρ S F w)(D:C.nn=md.n){l:aC}{j:Int}{v:SC}{H:UInt8}(i:S.H[n]? =δ (.br g l))(hx:aZ md F x=.pointer (δ (ea (ρ n).a (j.toNat*e+0))))(m:S.ev C y=.c' v)(A:v.rC=δ H)(f:Tj C t=δ 1)
  (P:CB e j .c'=ζ) (I:0<=j/\j<γ l) (E:S.Gu [(n,0,1)]=ζ):
  Step C md w0 S0 ρ S F w ⟨ε,.store t x y,b,c,a,ε⟩ ⟨S.F,kA S.H n (.br g (l.set j.toNat H)),S.nb,S.al,[(n,0,1)]++S.m⟩:=by
 intro u Q p G;obtain⟨L,M,q⟩:=R.mem;obtain⟨iX,r,B,h⟩:=q.2 n _ i;subst h;obtain⟨N,s⟩:=Sl R D y;have z:aZ md F y=bt H:=by rw [m]at s;rw [s _ rfl,we A ρ]
 have hx:aZ md F x=.pointer (δ (ea (ρ n).a (j.toNat*1))):=by rw [hx,Lb P];rfl
 refine w_stB M n (ρ n).a g (ρ n).cap j l H B I hx z (Uf f w) λw' k=>G ρ F w' ?_ ?_ (λ_ _=>rfl) (λd J=>by cases J)
 ·exact Jh (o:=.br g _) R q i k rfl rfl (λ_ _ h=>by cases h) rfl rfl
 ·exact Yt R i E (λO K=>.inl (K 0 (wO.2 ⟨_,aE.2 rfl,rfl,eK _,Jd⟩))) rfl rfl rfl rfl
theorem JA{ty:φ}{pos:String}{after:Array Edge}(s:Rel C w0 S0 ρ S F w)(q:C.nn=md.n){ro:Ro}(h:jC C (S.ev C) S.H (.store t x y)=δ ro)(B:Iy ro.g)(z:S.Gu ro.m=ζ):
  Step C md w0 S0 ρ S F w ⟨ε,.store t x y,ty,pos,after,ε⟩ ⟨S.F,ro.H,S.nb,S.al,ro.m++S.m⟩/\ro.v=.u':=by
 obtain⟨a,E,h⟩:=mH (h);have hx:=(oT s q E).2;unfold Jm at h;split at h
 ·rename_i n M d k;have h:=dK h;have r:=iB h.1;have h:=h.2;split at h
  ·rename_i id off;split at h
   ·rename_i e cs i;rw [gV]at i;split at h
    ·rename_i K u;cases h;exact⟨Rm s q i hx k d r u z,rfl⟩
    ·cases h
   ·cases h
  ·rename_i id j N off;cases o:cV n 0 with
   |true=>rw [o]at h;cases h
   |false=>
    rw [o]at h;split at h
    ·rename_i e b L l i;rw [gV]at i;split at h
     ·rename_i O u;have h:=dK h;have p:=iK h.1;cases h.2;exact⟨Rj s q i hx k d r o p.1 p.2 B.1 u z,rfl⟩
     ·cases h
    ·rename_i m l i;rw [gV]at i;split at h
     ·rename_i v A;split at h
      ·rename_i c D;have h:=dK h;have p:=iK h.1;have G:=iB p.2;cases h.2;subst G;have f:(S.ev C y).cells=δ [v]:=by rw [A];rfl
       rw [k]at f;have J:=aJ f;rw [J]at r;have I:=r.symm;rw [I]at d;exact⟨Rl s q i hx A D d p.1 B.1 z,rfl⟩
      ·cases h
     ·cases h
    ·cases h
  ·cases h
 ·cases h
end
open Go.Wk
open Go.Ce (Tr)
open Nat renaming beq → cV, one_pos → Jd, succ → rY
def EOk(C:Cx):Prop:=∀t e b a,C.E t=δ (e,b,a)->C.P.underlying t=δ (.slice e)/\TI C.P e a.sz b/\a.flat=ζ/\0<b
section
variable {C:Cx}{md:Md}{w0 w:ν}{S0:List Nat}{ρ:Nat->Ad}{S:St}{F:Nat->θ}
variable {x:π}{t:φ}{c:SC}{g:List PD}{v:SV}
theorem xy(i:Rel C w0 S0 ρ S F w)(hx:aZ md F x=c.v ρ)(j:c.ok (γ S.H))(h:Yz C S.H t c=δ (g,v)):vT C md ρ S F w (.call ⟨.builtin .len, #[x], #[t]⟩) v:=by
 unfold Yz at h;split at h
 ·rename_i l;have h:=dK h;cases h.2;exact fV rfl rfl λd ty pos after=>og l (Eh h.1) hx
 ·split at h
  ·rename_i e b;split at h
   ·rename_i id _;split at h
    ·rename_i o f;cases h;rw [gV]at f;refine fV rfl rfl λd ty pos after=> ?_;rw [zT i id o f];exact Wx (ρ id).a (ρ id).ln (ρ id).cap e (ep b) hx
    ·cases h
   ·cases h;exact fV rfl rfl λd ty pos after=>Wx _ _ _ e (ep b) hx
   ·cases h;exact fV rfl rfl λd ty pos after=>Wx _ _ _ e (ep b) hx
   ·cases h
  ·cases h
theorem fk(o:Rel C w0 S0 ρ S F w){id m:Nat}(h:UF S.H id=δ m)(n:0<m):(ρ id).ln=m/\(ρ id).a≠ε:=by
 obtain⟨L,p,j⟩:=o.mem;unfold UF at h;split at h
 ·rename_i e b t l c;have h:=dK h;cases h.2;rw [gV]at c;obtain⟨d,r,f,i⟩:=j.2 id _ c;subst i;refine⟨d.symm,(p.eV id f).some_ ?_⟩;rw [(Ty.wG h.1).flat];exact Ww n (Ty.Dm h.1)
 ·rename_i t l c;have h:=dK h;cases h.2;rw [gV]at c;obtain⟨d,r,f,_,g,_⟩:=j.2 id _ c;refine⟨d.symm,g.some_ ?_⟩;rw [(Ty.wG h.1).flat];exact Ww n (Ty.Dm h.1)
 ·rename_i k l c;cases h;rw [gV]at c;obtain⟨d,r,f,i⟩:=j.2 id _ c;subst i;exact⟨by rw [<-d];exact(zU o id k l c).symm,(p.kJ id f).some_ (by simpa using n)⟩
 ·cases h
variable {u:π}
theorem Zk(G:Rel C w0 S0 ρ S F w){a:SC}{ro:Ro}(hx:aZ md F x=c.v ρ)(p:c.ok (γ S.H))(l:aZ md F u=a.v ρ)(h:sw C S.H t c a=δ ro)(o:Iy ro.g):vT C md ρ S F w (.indexAddr t x u) ro.v/\ro.H=S.H/\ro.m=[]:=by
 unfold sw at h;split at h
 ·rename_i j E;obtain⟨q,B⟩:=wM E ρ;rw [B]at l;split at h
  ·rename_i e y;split at h
   ·rename_i i f;split at h
    ·rename_i id;split at h
     ·rename_i m D;cases h;have L:=o.1;obtain⟨M,r⟩:=fk G D aA0;exact⟨⟨p,_,rfl,λd ty pos after=>YC (ρ id).a (ρ id).ln (ρ id).cap e i q j (ep y) (Uf f w) hx l aA0 r⟩,rfl,rfl⟩
     ·cases h
    ·rename_i id m;cases h;refine⟨⟨p,_,rfl,λd ty pos after=> ?_⟩,rfl,rfl⟩;have:=YC (P:=C.P) (w:=w) (d:=d) (ty:=ty) (pos:=pos) (after:=after) _ m m e i q j (ep y) (Uf f w) hx l o.1 aA2;rw [this];show _=Result.ok (Next.value (jH (ρ id).b _)) w;unfold ea jH;simp [LY]
    ·cases h
   ·cases h
  ·split at h
   ·rename_i n k;split at h
    ·rename_i i f;split at h
     ·rename_i id off;have h:=dK h;cases h.2;refine⟨⟨p,_,rfl,λd ty pos after=> ?_⟩,rfl,rfl⟩;have:=YB (P:=C.P) (w:=w) (d:=d) (ty:=ty) (pos:=pos) (after:=after) _ n.1 n.2 i q j (oAr k) (Uf f w) hx l o.1 (BJ h.1);rw [this];show _=Result.ok (Next.value (jH (ρ id).b _)) w;unfold ea jH;simp [LY]
     ·rename_i id K A s;have h:=dK h;have r:=dK h.2;have z:=dK r.2;cases z.2;refine⟨⟨p,_,rfl,λd ty pos after=> ?_⟩,rfl,rfl⟩;have J:=iB r.1;have I:=iB z.1;subst J;subst I;have:=YB (P:=C.P) (w:=w) (d:=d) (ty:=ty) (pos:=pos) (after:=after) _ n.1 n.2 i q j (oAr k) (Uf f w) (by rw [hx];rfl) l o.1 (BJ h.1);rw [this];show Result.ok (Next.value (.pointer (δ ((ea (ρ id).a 0).add _)))) w=Result.ok (Next.value (.pointer (δ (ea (ρ id).a (j.toNat*i+0))))) w;rw [KS,Ta,BG]
     ·cases h
    ·cases h
   ·cases h
 ·cases h
theorem Jz(s:Rel C w0 S0 ρ S F w){t:Ty}{l:List t.T}(h:wH S.H t c=δ l):∃a cap,c.v ρ=.slice a (γ l) cap/\Rd w a (l.flatMap t.enc):=by
 obtain⟨L,k,j⟩:=s.mem;unfold wH at h;split at h
 ·cases h;exact⟨ε,0,rfl,Rd.nil _ _⟩
 ·rename_i id;rw [gV]at h;unfold Hu at h;split at h
  ·rename_i e b t2 n d;split at h
   ·rename_i i;obtain rfl:=Ty.kM i;cases h;obtain⟨f,r,g,q⟩:=j.2 id _ d;subst q;exact⟨(ρ id).a,(ρ id).cap,by show μ _ (ρ id).ln _=_;rw [<-f];rfl,k.eV id g⟩
   ·cases h
  ·rename_i t2 n d;split at h
   ·rename_i i;obtain rfl:=Ty.kM i;cases h;obtain⟨f,r,g,_,o,p,_⟩:=j.2 id _ d;exact⟨(ρ id).a,(ρ id).cap,by show μ _ (ρ id).ln _=_;rw [<-f];rfl,o.XB k p⟩
   ·cases h
  ·rename_i m n d;unfold strOf at h;split at h
   ·rename_i i;obtain rfl:=Ty.kM i;cases h;obtain⟨f,r,g,q⟩:=j.2 id _ d;subst q;have z:=zU s id m n d;exact⟨(ρ id).a,(ρ id).cap,by show μ _ (ρ id).ln _=_;rw [<-f,<-z];rfl,Rd.jQ (k.kJ id g)⟩
   ·cases h
  ·cases h
 ·rename_i id m;split at h
  ·rename_i e cs d;rw [gV]at d;obtain⟨_,r,g,A,rfl,u⟩:=j.2 id _ d;obtain⟨f,_,y⟩:=y7 h;refine⟨δ _,m,by rw [f];rfl, ?_⟩;have x:=u.all (sN h);rw [<-y ρ,<-x];exact k.nP id g
  ·cases h
 ·cases h
theorem ZR(i:Rel C w0 S0 ρ S F w){s e:φ}{l:aC}(hx:aZ md F x=c.v ρ)(f:SR C t=δ e)(b:wJ C s=ζ)(g:KA C e=ζ)(h:wH S.H .c' c=δ l):vT C md ρ S F w (.convert t s x) (.c' (.s' l)):=by obtain⟨a,cap,k,j⟩:=Jz i h;rw [k]at hx;exact fV rfl rfl λd ty pos after=>pH l a (γ l) cap e (Rd.bytes j) rfl (ep f) (Eh b) (oU8 g) hx
theorem mm_ok{b:Builtin}{f:Array φ}{y:SC}(hx:aZ md F x=c.v ρ)(e:aZ md F u=y.v ρ)(h:mmC b c y=δ (g,v)):vT C md ρ S F w (.call ⟨.builtin b, #[x,u],f⟩) v:=by
 unfold mmC at h;split at h
 ·rename_i k r i a;have h:=dK h;cases h.2;rw [<-mY h.1]at e;exact fV rfl rfl λd ty pos after=>x_min k r a hx e
 ·rename_i k r i a;have h:=dK h;cases h.2;rw [<-mY h.1]at e;exact fV rfl rfl λd ty pos after=>oe k r a hx e
 ·cases h
theorem xj(hx:aZ md F x=c.v ρ)(a:c.ok (γ S.H))(h:DQ c=δ v):vT C md ρ S F w (.nilCheck x) v:=by
 unfold DQ at h;split at h
 ·rename_i id off;cases h;exact⟨a,_,rfl,λd ty pos after=>by simp [ξ,hx];rfl⟩
 ·rename_i id j e off;cases h;exact⟨a,_,rfl,λd ty pos after=>by simp [ξ,hx];rfl⟩
 ·rename_i k b;cases h;exact⟨a,_,rfl,λd ty pos after=>by simp [ξ,hx];rfl⟩
 ·cases h
theorem QU{c:π->SV}{n:Nat}:∀{l:List π} {a:List Nat},(∀x∈l,(c x).ok n/\∀u,(c x).v ρ=δ u->aZ md F x=u)->kq (l.map c)=δ a->l.map (aZ md F)=a.map (λid=>jH (ρ id).b 0)/\∀id∈a,id<n
 |[],a,_,h=>by cases h;exact⟨rfl,λ_ h=>by cases h⟩
 |x::l,a,hx,h=>by
  have h:(match c x with
   |.c' (.p' id off)=>bif cV off 0 then(match kq _ with
    |some q=>δ _
    |none=>ε)else ε
   |_=>ε)=δ a:=h
  split at h
  ·rename_i id off m;have h:=dK h;have e:=h.2;split at e
   ·rename_i q o;cases e;obtain⟨r,p⟩:=QU (λy k=>hx y (eT _ k)) o;obtain⟨j,g⟩:=hx x fE;rw [m]at j g;have f:=g _ rfl;rw [iB h.1]at f;refine⟨by rw [yS,r,f];rfl,λi d=> ?_⟩;rcases aP.1 d with rfl|d
    ·exact j i (aE.2 rfl)
    ·exact p i d
   ·cases e
  ·cases h
theorem jh(m:Rel C w0 S0 ρ S F w)(j:C.nn=md.n){f:Fn}{a b:Array π}(h:Ys (S.ev C) f a.toList b.toList=δ v):vT C md ρ S F w (.makeFunc f a b) v:=by
 unfold Ys at h;split at h
 ·rename_i k;split at h
  ·rename_i g;split at h
   ·rename_i c e;cases h;obtain⟨p,o⟩:=QU (ρ:=ρ) (md:=md) (F:=F) (n:=γ S.H) (λx _=>Sl m j x) e;have g:a= #[]:=Array.toList_inj.1 g;subst g;have l:b.map _=(c.map λid=>jH (ρ id).b 0).toArray:=Array.toList_inj.1 (by rw [Array.toList_map,p]);refine⟨λi e=>o i e,_,rfl,λd ty pos after=> ?_⟩;simp [ξ,Instr.makeFunc,l,SC.v]
   ·cases h
  ·cases h
 ·cases h
theorem ef(f:Rel C w0 S0 ρ S F w)(e:C.nn=md.n){b:π}{t:Bool}(j:S.ev C x=.c' (.b' t))(g:(bif t then S.ev C u else S.ev C b)=v)(i:v≠.u'):vT C md ρ S F w (.pick x u b) v:=by
 have k:=(oT f e j).2;have key:v.ok (γ S.H)/\∀a,v.v ρ=δ a->(bif t then aZ md F u else aZ md F b)=a:=by
  cases t with
  |true=>have:=Sl f e u;rw [show S.ev C u=v from g]at this;exact this
  |false=>have:=Sl f e b;rw [show S.ev C b=v from g]at this;exact this
 obtain⟨a,h⟩:∃a,v.v ρ=δ a:=by cases v<;>first|exact⟨_,rfl⟩|exact absurd rfl i
 exact⟨key.1,a,h,λd ty pos after=>XV t a k (key.2 a h)⟩
variable {d:Nat}{ty:φ}{pos:String}{after:Array Edge}
variable {L:List cB}
theorem uW(h:Hp w0 S0 L w):Hp w0 S0 (dQ::L) w:=by
 refine⟨h.os,h.tape,h.output,h.size,h.below,λr a=> ?_,List.Pairwise.cons (λr _ b c=>by cases c) h.sep⟩;rcases aP.1 a with rfl|a
 ·exact⟨trivial,λb c=>by cases c⟩
 ·exact h.res r a
theorem set_perm{a:Type}:∀{L:List a} {id:Nat} r,id<γ L->(L.set id r).Perm (r::L.eraseIdx id)
 |x::L,0,r,_=>List.Perm.refl _
 |x::L,id+1,r,h=>by exact(List.Perm.cons x (set_perm r aA8)).trans (List.Perm.swap r x _)
variable {e:Nat}{r:cB}
theorem M2(hid:e<γ L)(h:Hp w0 S0 (L.set e r) w):Hp w0 S0 (r::L.set e dQ) w:=by have b:=h.perm (set_perm r hid);have a:=(uW b).perm (List.Perm.swap r dQ _);exact a.perm ((set_perm dQ hid).symm.cons r)
variable {H:List Ob}{o:Ob}
theorem xl{d:Ob}(b:Mt w0 S0 ρ H L)(g:H[e]? =δ d)(k:RO w0 S0 ρ e o r)(l:o.len=d.len):Mt w0 S0 ρ (kA H e o) (L.set e r):=by
 have a:=(aD.1 g).1;refine⟨by simp [b.1,LU],λi j c=> ?_⟩;rw [yA]at c;split at c
 ·rename_i f;cases c;rw [f.1];exact⟨by rw [l];exact(b.2 e d g).1,r,by rw [eH];simp [b.1,a],k⟩
 ·rename_i f;obtain⟨p,h,n,m⟩:=b.2 i j c;refine⟨p,h, ?_,m⟩;rw [eH,aA (λq=>f ⟨q.symm,a⟩)];exact n
variable {k:ν}{s:Nat}{c:Option Nat}
theorem Yb{b:Nat}{τ:Ty}{l:List τ.T}{a:Ob}{a':Option χ}{cap':Nat}{m:List Rg}(x:Rel C w0 S0 ρ S F w)(v:Mt w0 S0 ρ S.H L)(n:S.H[e]? =δ a)(G:Hp w0 S0 (L.set e (bA τ.enc s τ.sz c a' cap' l)) k)(B:S.Gu m=ζ)
  (D:∀A:List Rg,(∀j,eY e j m=ζ->eY e j A=ζ)->lS A e ρ ρ (δ (.dd a.len)) a):
  Rel C w0 S0 (Hw ρ (γ S.H) ⟨c,a',cap',η,γ l⟩) (St.set ⟨S.F,kA S.H e (.dd a.len)++[.rw s b τ l],S.nb,S.al,m++S.m⟩ d (.c' (.l' (γ S.H)))) (dV F d (.slice a' (γ l) cap')) k/\
  Nx S ρ (St.set ⟨S.F,kA S.H e (.dd a.len)++[.rw s b τ l],S.nb,S.al,m++S.m⟩ d (.c' (.l' (γ S.H)))) (Hw ρ (γ S.H) ⟨c,a',cap',η,γ l⟩):=by
 have p:e<γ L:=by rw [v.1];exact(aD.1 n).1
 have h:=M2 p G;have J:γ (kA S.H e (.dd a.len))=γ S.H:=LU;let f:St:=⟨S.F,kA S.H e (.dd a.len),S.nb,S.al,m++S.m⟩;have g:Rel C w0 S0 ρ f F k:=Jh (o:=.dd a.len) (r:=dQ) x v n h.tail trivial rfl (λ_ _ I=>by cases I) rfl rfl;have u:Mt w0 S0 ρ f.H (L.set e dQ):=xl v n trivial rfl;have t:Nx S ρ f ρ:=Yt (o:=.dd a.len) (m:=m) x n B D rfl rfl rfl rfl;have q:=J;have z:Rel C w0 S0 (Hw ρ (γ f.H) ⟨c,a',cap',η,γ l⟩) ⟨S.F,kA S.H e (.dd a.len)++[.rw s b τ l],S.nb,S.al,m++S.m⟩ F k:=zS (o:=.rw s b τ l) g u h (by show _=_;rw [oU]) rfl (λ_ _ I=>by cases I) rfl rfl;have y:Nx f ρ ⟨S.F,kA S.H e _++[.rw s b τ l],S.nb,S.al,m++S.m⟩ (Hw ρ (γ f.H) ⟨c,a',cap',η,γ l⟩):=Mr (o:=.rw s b τ l) (m:=[]) g rfl rfl rfl rfl;rw [q]at z y;refine⟨lq z aC5 (λi E=> ?_), ?_⟩
 ·have:i=γ S.H:=aE.1 E;subst this;rw [bP,J];simp
 ·have:=t.trans y;exact⟨⟨this.nb,this.al,this.le⟩,this.lg,this.mm⟩
theorem Lv{b:Nat}{τ:Ty}{l:List τ.T}{a':Option χ}(f:Rel C w0 S0 ρ S F w)(j:Mt w0 S0 ρ S.H L)(p:Hp w0 S0 (bA τ.enc e τ.sz c a' s l::L) k):
  Rel C w0 S0 (Hw ρ (γ S.H) ⟨c,a',s,η,γ l⟩) (St.set ⟨S.F,S.H++[.rw e b τ l],S.nb,S.al,[]++S.m⟩ d (.c' (.l' (γ S.H)))) (dV F d (.slice a' (γ l) s)) k/\
  Nx S ρ (St.set ⟨S.F,S.H++[.rw e b τ l],S.nb,S.al,[]++S.m⟩ d (.c' (.l' (γ S.H)))) (Hw ρ (γ S.H) ⟨c,a',s,η,γ l⟩):=by
 have n:Rel C w0 S0 (Hw ρ (γ S.H) ⟨c,a',s,η,γ l⟩) ⟨S.F,S.H++[.rw e b τ l],S.nb,S.al,[]++S.m⟩ F k:=zS (o:=.rw e b τ l) f j p (by show _=_;rw [oU]) rfl (λ_ _ h=>by cases h) rfl rfl;have a:Nx S ρ ⟨S.F,S.H++[.rw e b τ l],S.nb,S.al,[]++S.m⟩ (Hw ρ (γ S.H) ⟨c,a',s,η,γ l⟩):=Mr (o:=.rw e b τ l) (m:=[]) f rfl rfl rfl rfl;refine⟨lq n aC5 (λi g=> ?_),⟨⟨a.nb,a.al,a.le⟩,a.lg,a.mm⟩⟩;have:i=γ S.H:=aE.1 g;subst this;simp
variable {t:φ}{x y:π}{f g:SC}{a:Ro}
theorem step_append(hE:EOk C)(K:Rel C w0 S0 ρ S F w)(hn:C.nn=md.n)(hx:aZ md F x=f.v ρ)(M:aZ md F y=g.v ρ)(h:sU C S.H t f g=δ a)(hg:Iy a.g)(hm:S.Gu a.m=ζ):
  Step C md w0 S0 ρ S F w ⟨δ d,.call ⟨.builtin .append, #[x,y], #[t,t]⟩,ty,pos,after,ε⟩ (St.set ⟨S.F,a.H,S.nb,S.al,a.m++S.m⟩ d a.v):=by
 intro b5 Q b1 hk;have np:∀d2:Nat,(δ d)=δ d2->nA (.call ⟨.builtin .append, #[x,y], #[t,t]⟩)=ζ->∀F2:Nat->θ,∃w3,(ξ (aZ md F) (⟨δ d,.call ⟨.builtin .append, #[x,y], #[t,t]⟩,ty,pos,after,ε⟩:ψ)).run C.P w=.ok (.value (F2 d2)) w3:=λd2 _ h=>by cases h
 obtain⟨L,hH,V⟩:=K.mem;unfold sU at h;split at h
 ·rename_i e b B b0;obtain⟨ht,hT,I,J⟩:=hE _ _ _ _ b0;split at h
  ·split at h
   ·rename_i N p;cases h;obtain⟨X,W,k,U⟩:=Jz K p;rw [k]at M;refine RH (Hp.dF hH B.enc e B.sz ε) 0 ε ε X 0 W e B.sz b [] N (Ty.wG I) rfl ht hT (Ty.Dm I) J hx M U hg.1 λo' a' E w' u=> ?_;obtain⟨s,A⟩:=Lv K V u;exact hk _ _ w' s A RB λd2 T O=>np d2 T O _
   ·cases h
  ·rename_i id;split at h
   ·rename_i l N z p;cases h
    obtain⟨X,W,k,U⟩:=Jz K p;rw [k]at M;have c:S.H[id]? =δ (.rw e b B l):=by
     unfold oz at z;simp only at z;split at z
     ·rename_i q hq;have i:=dK z;have u:=dK i.2;have s:=uM hq u.2;rw [gV,iB i.1,iB u.1]at s;exact s
     ·cases z
    obtain⟨i,r,Y,he⟩:=V.2 id _ c;subst he;have i:γ l=(ρ id).ln:=i;have G:aZ md F x=.slice (ρ id).a (γ l) (ρ id).cap:=by rw [hx,i];rfl
    refine RH hH id (ρ id).o (ρ id).a X (ρ id).cap W e B.sz b l N (Ty.wG I) Y ht hT (Ty.Dm I) J G M U hg.1 λo' a' E w' u=> ?_;obtain⟨s,A⟩:=Yb K V c u hm (λal hc=>.inl (hc 0 (wO.2 ⟨_,aE.2 rfl,rfl,eK _,Jd⟩)));exact hk _ _ w' s A RB λd2 T O=>np d2 T O _
   ·cases h
  ·rename_i id m;split at h
   ·rename_i l c2 b4 N z p;cases h
    obtain⟨X,W,k,U⟩:=Jz K p;rw [k]at M;have c:∃cs,S.H[id]? =δ (.bl e cs)/\m<=1048576/\qR B m cs=δ l:=by
     simp only [Ty.rd]at z;split at z
     ·rename_i e2 cs hb;rw [gV]at hb;have i:=dK z;have u:=dK i.2;have s:=dK u.2;have A:=s.2;split at A
      ·rename_i y Z;cases A;rw [iB i.1]at hb;exact⟨cs,hb,BJ s.1,Z⟩
      ·cases A
     ·cases z
    obtain⟨cs,c,b7,D⟩:=c;obtain⟨_,r,Y,vs,rfl,R⟩:=V.2 id _ c;obtain⟨i,_,s⟩:=y7 D;have A:=R.all (sN D);have a8:=hH.Wf id B.sz m l Y (Ty.wG I) (by rw [A,s ρ]) i aE6;have a1:=(aD.1 Y).1;have G:aZ md F x=.slice (δ ⟨(ρ id).b,0,ε⟩) (γ l) m:=by rw [hx,i];rfl
    refine RH a8 id _ _ X m W e B.sz b l N (Ty.wG I) (aY a1) ht hT (Ty.Dm I) J G M U hg.1 λo' a' E w' u=> ?_;rw [HL]at u;have a2:blL (fU S.H id)=rY (γ cs):=by rw [gV,c];rfl
    obtain⟨h5,h6⟩:=Yb K V c u hm (λal hc=>.inl λj hj=>hc j (wO.2 ⟨_,aE.2 rfl,rfl,cO _,by show j<blL _;rw [a2];omega⟩));exact hk _ _ w' h5 h6 RB λd2 T O=>np d2 T O _
   ·cases h
  ·cases h
 ·cases h
theorem OA{τ:Ty}{l:List τ.T}{a':Option χ}{cap':Nat}(b:Rel C w0 S0 ρ S F w)(g:Mt w0 S0 ρ S.H L)(h:Hp w0 S0 L w)(c:Wu w0 S0 ⟨ε,a',cap',η,γ l⟩ τ l):
  Rel C w0 S0 (Hw ρ (γ S.H) ⟨ε,a',cap',η,γ l⟩) (St.set ⟨S.F,S.H++[.ro τ l],S.nb,S.al,[]++S.m⟩ d (.c' (.l' (γ S.H)))) (dV F d (.slice a' (γ l) cap')) w/\
  Nx S ρ (St.set ⟨S.F,S.H++[.ro τ l],S.nb,S.al,[]++S.m⟩ d (.c' (.l' (γ S.H)))) (Hw ρ (γ S.H) ⟨ε,a',cap',η,γ l⟩):=by
 have j:Rel C w0 S0 _ ⟨S.F,S.H++[.ro τ l],S.nb,S.al,[]++S.m⟩ F w:=zS (o:=.ro τ l) b g (uW h) ⟨rfl,by rw [oU];exact c⟩ rfl (λ_ _ f=>by cases f) rfl rfl;have a:Nx S ρ ⟨S.F,S.H++[.ro τ l],S.nb,S.al,[]++S.m⟩ (Hw ρ (γ S.H) ⟨ε,a',cap',η,γ l⟩):=Mr (o:=.ro τ l) (m:=[]) b rfl rfl rfl rfl;refine⟨lq j aC5 (λi e=> ?_),⟨⟨a.nb,a.al,a.le⟩,a.lg,a.mm⟩⟩;have:i=γ S.H:=aE.1 e;subst this;simp
theorem Ee{d i:Option SC}(h:Ie C H e f d i=δ a):∃(id n:Nat) (τ:Ty) (l:List τ.T),f=.l' id/\H[id]? =δ (.ro τ l)/\C.P.underlying e=δ (.slice n)/\Tj C n=δ τ.sz/\τ.flat=ζ/\
  ((∃b j,d=ε/\i=δ b/\RC b=δ j/\a=⟨[⟨0<=j/\j<=(γ l:Int),inferInstance⟩],.c' (.l' (γ H)),H++[.ro τ (l.take j.toNat)],[]⟩)\/
   ∃b j,d=δ b/\i=ε/\RC b=δ j/\a=⟨[⟨0<=j/\j<=(γ l:Int),inferInstance⟩],.c' (.l' (γ H)),H++[.ro τ (l.drop j.toNat)],[]⟩):=by
 unfold Ie at h;split at h
 ·rename_i id;split at h
  ·rename_i τ l c;rw [gV]at c;split at h
   ·rename_i n t;have t:C.P.underlying e=δ (.slice n):=by
     unfold SR at t;split at t
     ·rename_i k;cases t;exact k
     ·cases t
    split at h
    ·rename_i sz x;have h:=dK h;have m:=iB h.1;subst m;have h:=dK h.2;refine⟨_,n,τ,l,rfl,c,t,x,h.1, ?_⟩;have h:=h.2;split at h
     ·rename_i b;split at h
      ·rename_i j g;cases h;exact .inl ⟨_,j,rfl,rfl,g,rfl⟩
      ·cases h
     ·rename_i b;split at h
      ·rename_i j g;cases h;exact .inr ⟨_,j,rfl,rfl,g,rfl⟩
      ·cases h
     ·cases h
    ·cases h
   ·cases h
  ·cases h
 ·cases h
theorem ca (B : Rel C w0 S0 ρ S F w) (W : C.nn = md.n)   {M N : Option π}  (T : wJ C t = η) (h : jC C (S.ev C) S.H (.slice t x M N ε) = δ a) (hg : Iy a.g) :
    Step C md w0 S0 ρ S F w ⟨δ d, .slice t x M N ε, ty, pos, after, ε⟩ (St.set ⟨S.F, a.H, S.nb, S.al, a.m ++ S.m⟩ d a.v) := by
  have h : (bif wJ C t then Ly S.H _ else hY _ λm => If _ M λi => If _ N λj => Ie C S.H t m i j) = δ a := h;rw [T] at h;obtain ⟨c, h1, h2⟩ := mH (h);have hx := (oT B W h1).2;obtain ⟨L, hH, hM⟩ := B.mem;have key : ∀ (i j), Ie C S.H t c i j = δ a -> (M = ε /\ i = ε \/ ∃ o b, M = δ o /\ i = δ b /\ aZ md F o = b.v ρ) -> (N = ε /\ j = ε \/ ∃ o b, N = δ o /\ j = δ b /\ aZ md F o = b.v ρ) ->
      Step C md w0 S0 ρ S F w ⟨δ d, .slice t x M N ε, ty, pos, after, ε⟩ (St.set ⟨S.F, a.H, S.nb, S.al, a.m ++ S.m⟩ d a.v) := by
    intro i j a7 X Z;obtain ⟨id, e, τ, l, rfl, a8, hu, R, hf, hc⟩ := Ee a7;obtain ⟨Y, r, hr, b9, U, D, A⟩ := hM.2 id _ a8;have Y : γ l = (ρ id).ln := Y;rcases hc with ⟨b, k, rfl, rfl, hk, rfl⟩ | ⟨b, k, rfl, rfl, hk, rfl⟩
    · rcases X with ⟨rfl, _⟩ | ⟨o, K, _, z, _⟩
      rotate_left
      · cases z
      rcases Z with ⟨_, z⟩ | ⟨o, K, rfl, z, ho⟩
      · cases z
      cases z;obtain ⟨kk, G⟩ := wM hk ρ;have hb := hg.1;have f : ∀ d2 : Nat, (ξ (aZ md F) (⟨δ d2, .slice t x ε (δ o) ε, ty, pos, after, ε⟩ : ψ)).run C.P w = .ok (.value (.slice (ρ id).a k.toNat (ρ id).cap)) w := λd2 => IN (d := d2) (ρ id).a (ρ id).ln (ρ id).cap e τ.sz kk k hu (Uf R w) hx (ho.trans G) l Y.symm hb (by rw [<- Y]; exact A);have s : γ (l.take k.toNat) = k.toNat := by rw [kX]; omega
      have hR : Wu w0 S0 ⟨ε, (ρ id).a, (ρ id).cap, η, γ (l.take k.toNat)⟩ τ (l.take k.toNat) := by
       refine ⟨?_, λE => D (λe0 => E ?_), ?_⟩
       · intro j v hv;have e1 : (l.flatMap τ.enc)[j]? = δ v := by rw [<- IL k.toNat l, IK, aI (aD.1 hv).1]; exact hv
         exact U j v e1
       · rw [<- IL k.toNat l, IK] at e0;exact (List.append_eq_nil_iff.1 e0).1
       · show γ (l.take k.toNat) <= (ρ id).cap;omega
      obtain ⟨h3, y⟩ := OA (d := d) (τ := τ) (l := l.take k.toNat) (a' := (ρ id).a) (cap' := (ρ id).cap) B hM hH hR;intro a4 Q O u;rw [s] at h3 y;refine gN rfl rfl (f d) (u _ _ w h3 y RB λd2 hd _ => ⟨w, ?_⟩);cases hd;rw [lz]; exact f d
    · rcases Z with ⟨rfl, _⟩ | ⟨o, K, _, z, _⟩
      rotate_left
      · cases z
      rcases X with ⟨_, z⟩ | ⟨o, K, rfl, z, ho⟩
      · cases z
      cases z;obtain ⟨kk, G⟩ := wM hk ρ;have hb := hg.1;have f : ∀ d2 : Nat, (ξ (aZ md F) (⟨δ d2, .slice t x (δ o) ε ε, ty, pos, after, ε⟩ : ψ)).run C.P w = .ok (.value (.slice (Rp (ρ id).a (ρ id).cap k.toNat τ.sz) ((ρ id).ln - k.toNat) ((ρ id).cap - k.toNat))) w := λd2 => Kj (d := d2) (ρ id).a (ρ id).ln (ρ id).cap e τ.sz kk k hu (Uf R w) hx (ho.trans G) l Y.symm hb;have s : γ (l.drop k.toNat) = (ρ id).ln - k.toNat := by rw [gZ]; omega
      have hR : Wu w0 S0 ⟨ε, Rp (ρ id).a (ρ id).cap k.toNat τ.sz, (ρ id).cap - k.toNat, η, γ (l.drop k.toNat)⟩ τ (l.drop k.toNat) := by
       refine ⟨Rd.Hl (Ty.wG hf) _ _ A U, λE p hp => ?_, ?_⟩
       · have V : l.flatMap τ.enc ≠ [] := λe0 => E (by rw [<- IL k.toNat l, IK] at e0;exact (List.append_eq_nil_iff.1 e0).2);unfold Rp at hp;split at hp
         · exact D V p hp
         · obtain ⟨q, hq, rfl⟩ := bT.1 hp;have := D V q hq;rw [bbw]; exact this
       · show γ (l.drop k.toNat) <= (ρ id).cap - k.toNat;omega
      obtain ⟨h3, y⟩ := OA (τ := τ) (l := l.drop k.toNat) (a' := Rp (ρ id).a (ρ id).cap k.toNat τ.sz) (cap' := (ρ id).cap - k.toNat) B hM hH hR;intro a4 Q O u;rw [s] at h3 y;refine gN rfl rfl (f d) (u _ _ w h3 y RB λd2 hd _ => ⟨w, ?_⟩);cases hd;rw [lz]; exact f d
  rcases XI h2 with ⟨y, h5⟩ | ⟨o, b, y, h5, h6⟩
  · rcases XI h5 with ⟨J, I⟩ | ⟨o2, K, J, I, h9⟩
    · exact key _ _ I (.inl ⟨y, rfl⟩) (.inl ⟨J, rfl⟩)
    · exact key _ _ h9 (.inl ⟨y, rfl⟩) (.inr ⟨o2, K, J, rfl, (oT B W I).2⟩)
  · rcases XI h6 with ⟨J, I⟩ | ⟨o2, K, J, I, h9⟩
    · exact key _ _ I (.inr ⟨o, b, y, rfl, (oT B W h5).2⟩) (.inl ⟨J, rfl⟩)
    · exact key _ _ h9 (.inr ⟨o, b, y, rfl, (oT B W h5).2⟩) (.inr ⟨o2, K, J, rfl, (oT B W I).2⟩)
theorem Fw(h:Xm C H e s f g=δ a):∃t p,g=.s' t/\wJ C s=ζ/\C.E e=δ (p,1,.c')/\zU8 C p=ζ/\
  ((f=.n'/\a=⟨[⟨(γ ([]:aC)+γ t)*1<=140737488355328,inferInstance⟩],.c' (.l' (γ H)),H++[.rw p 1 .c' ([]++t)],[]⟩)\/
   ∃(id:Nat) (l:aC),f=.l' id/\H[id]? =δ (.rw p 1 .c' l)/\a=⟨[⟨(γ l+γ t)*1<=140737488355328,inferInstance⟩],.c' (.l' (γ H)),kA H id (.dd (γ l))++[.rw p 1 .c' (l++t)],[(id,0,1)]⟩):=by
 unfold Xm at h;split at h
 ·rename_i t;unfold Ud at h;have h:=dK h;have x:=h.1;have h:=h.2;split at h
  ·rename_i p b c;have h:=dK h;have n:=iB h.1;subst n;have h:=dK h.2;have k:=h.1;have h:=h.2;refine⟨t,p,rfl,x,c,k, ?_⟩;split at h
   ·cases h;exact .inl ⟨rfl,rfl⟩
   ·rename_i id;split at h
    ·rename_i l d;cases h;refine .inr ⟨_,l,rfl, ?_,rfl⟩;unfold oz at d;simp only at d;split at d
     ·rename_i q m;have x:=dK d;have j:=dK x.2;have i:=uM m j.2;rw [gV,iB x.1,iB j.1]at i;exact i
     ·cases d
    ·cases h
   ·cases h
  ·cases h
 ·cases h
theorem XR(h:zU8 C e=ζ):(C.P.info? e).bind (·.zero)=δ (.int .u8 0):=by
 unfold zU8 at h;split at h
 ·rename_i i b;split at h
  ·rename_i a;rw [b];exact a
  ·cases h
 ·cases h
theorem Xp(hE:EOk C)(u:Rel C w0 S0 ρ S F w)(hn:C.nn=md.n){s:φ}(hx:aZ md F x=f.v ρ)(M:aZ md F y=g.v ρ)(h:Xm C S.H t s f g=δ a)(T:Iy a.g)(Z:S.Gu a.m=ζ):
  Step C md w0 S0 ρ S F w ⟨δ d,.call ⟨.builtin .append, #[x,y], #[t,s]⟩,ty,pos,after,ε⟩ (St.set ⟨S.F,a.H,S.nb,S.al,a.m++S.m⟩ d a.v):=by
 intro X Q I R;have np:∀d2:Nat,(δ d)=δ d2->nA (.call ⟨.builtin .append, #[x,y], #[t,s]⟩)=ζ->∀F2:Nat->θ,∃W,(ξ (aZ md F) (⟨δ d,.call ⟨.builtin .append, #[x,y], #[t,s]⟩,ty,pos,after,ε⟩:ψ)).run C.P w=.ok (.value (F2 d2)) W:=λd2 _ h=>by cases h
 obtain⟨L,V,z⟩:=u.mem;obtain⟨J,e,rfl,O,A,K,q⟩:=Fw h;obtain⟨N,U,hf,a1⟩:=hE _ _ _ _ A;rcases q with⟨rfl,rfl⟩|⟨id,l,rfl,c,rfl⟩
 ·refine wV (Hp.dF V (Ty.c').enc e 1 ε) 0 ε ε 0 e [] J rfl N (Eh O) U (XR K) hx M T.1 λo' a' i w' E=> ?_;obtain⟨D,B⟩:=Lv (τ:=.c') (b:=1) (d:=d) u z E;exact R _ _ w' D B RB λd2 p k=>np d2 p k _
 ·obtain⟨G,r,Y,he⟩:=z.2 id _ c;subst he;have G:γ l=(ρ id).ln:=G;have j:aZ md F x=.slice (ρ id).a (γ l) (ρ id).cap:=by rw [hx,G];rfl
  refine wV V id (ρ id).o (ρ id).a (ρ id).cap e l J Y N (Eh O) U (XR K) j M T.1 λo' a' i w' E=> ?_;obtain⟨D,B⟩:=Yb (τ:=.c') (b:=1) (d:=d) (m:=[(id,0,1)]) u z c E Z (λal q=>.inl (q 0 (wO.2 ⟨_,aE.2 rfl,rfl,eK _,Jd⟩)));exact R _ _ w' D B RB λd2 p k=>np d2 p k _
theorem SN(N:EOk C)(s:Rel C w0 S0 ρ S F w)(T:C.nn=md.n){c:SC}(r:aZ md F y=g.v ρ)(h:Ef C S.H t (isZ x) c g=δ a)(G:Iy a.g):
  Step C md w0 S0 ρ S F w ⟨δ d,.makeSlice t x y,ty,pos,after,ε⟩ (St.set ⟨S.F,a.H,S.nb,S.al,a.m++S.m⟩ d a.v):=by
 intro u Q q D;obtain⟨L,M,K⟩:=s.mem;unfold Ef at h;split at h
 ·rename_i e b p l;obtain⟨A,J,U,k⟩:=N _ _ _ _ l;have h:=dK h;have j:=h.1;have h:=h.2;split at h
  ·rename_i i E;cases h
   obtain⟨z,I⟩:=wM E ρ;rw [I]at r;obtain⟨kl,hx⟩:∃kl,aZ md F x=.int kl 0:=by
    unfold isZ at j;split at j
    ·exact⟨_,rfl⟩
    ·cases j
   refine ao (f:=p.enc) M e p.sz b kl z i A J k hx r G.1 λo c cap w' R=> ?_;obtain⟨P,O⟩:=Lv s K R;exact D _ _ w' P O RB λd2 V B=>by cases B
  ·cases h
 ·cases h
theorem Xo(g:Rel C w0 S0 ρ S F w){s e:φ}{l:aC}(hx:aZ md F x=str l)(n:C.P.underlying t=δ .string)(k:SR C s=δ e)(f:KA C e=ζ):
  Step C md w0 S0 ρ S F w ⟨δ d,.convert t s x,ty,pos,after,ε⟩ (St.set ⟨S.F,S.H++[.br (γ l) l],S.nb,S.al,[]++S.m⟩ d (.c' (.l' (γ S.H)))):=by
 intro j Q h p;obtain⟨L,v,u⟩:=g.mem;refine Kn v l e n (ep k) (oU8 f) hx λa cap w' b z=> ?_;have y:Rel C w0 S0 (Hw ρ (γ S.H) ⟨ε,a,cap,η,γ l⟩) ⟨S.F,S.H++[.br (γ l) l],S.nb,S.al,[]++S.m⟩ F w':=zS (o:=.br (γ l) l) g u z (by show _=_;rw [oU]) rfl (λ_ _ f=>by cases f) rfl rfl;have c:Nx S ρ ⟨S.F,S.H++[.br (γ l) l],S.nb,S.al,[]++S.m⟩ (Hw ρ (γ S.H) ⟨ε,a,cap,η,γ l⟩):=Mr (o:=.br (γ l) l) (m:=[]) g rfl rfl rfl rfl;refine p _ _ w' (lq y aC5 (λi q=> ?_)) ⟨⟨c.nb,c.al,c.le⟩,c.lg,c.mm⟩ RB λd2 r _=>⟨w', ?_⟩
 ·have:i=γ S.H:=aE.1 q;subst this;simp
 ·cases r;rw [lz];exact b
end
open Go.Wk
open Go.Ce (Tr)
open Nat renaming beq → cV
section
variable {C:Cx}{md:Md}{w0 w:ν}{S0:List Nat}{ρ:Nat->Ad}{S:St}{F:Nat->θ}
variable {ty:φ}{pos:String}{after:Array Edge}
variable {a:Option Nat}{v:SV}
theorem GO(h:Pd a v=ζ)(b:v≠.u'):∃d,a=δ d:=by
 cases a with
 |some d=>exact⟨d,rfl⟩
 |none=>cases v<;>first|exact absurd rfl b|cases h
variable {c:Op}{b:Ro}
theorem Wp(g:Rel C w0 S0 ρ S F w)(h:vT C md ρ S F w c b.v/\b.H=S.H/\b.m=[])(f:Pd a b.v=ζ):Step C md w0 S0 ρ S F w ⟨a,c,ty,pos,after,ε⟩ (St.xB ⟨S.F,b.H,S.nb,S.al,b.m++S.m⟩ a b.v):=by obtain⟨k,j,i⟩:=h;obtain⟨d,rfl⟩:=GO f (λe=>by obtain⟨_,u,l,_⟩:=k;rw [e]at l;cases l);rw [j,i];exact A1 g k
theorem sk{S2:Nat->St}(f:Pd a v=ζ)(g:v≠.u')(h:∀d,Step C md w0 S0 ρ S F w ⟨δ d,c,ty,pos,after,ε⟩ (S2 d)){b:St}(e:∀d,a=δ d->S2 d=b):Step C md w0 S0 ρ S F w ⟨a,c,ty,pos,after,ε⟩ b:=by obtain⟨d,rfl⟩:=GO f g;rw [<-e d rfl];exact h d
theorem Pz{b:Type}{a:Array b}{l:List b}(h:a.toList=l):a=l.toArray:=by rw [<-h]
theorem LH(I:EOk C)(j:C.nn=md.n)(i:Rel C w0 S0 ρ S F w){m:Builtin}{gK:Array π}{D:Array φ}(h:LZ C (S.ev C) S.H m gK.toList D.toList=δ b)(G:Iy b.g)(E:S.Gu b.m=ζ)(u:Pd a b.v=ζ):
  Step C md w0 S0 ρ S F w ⟨a,.call ⟨.builtin m,gK,D⟩,ty,pos,after,ε⟩ (St.xB ⟨S.F,b.H,S.nb,S.al,b.m++S.m⟩ a b.v):=by
 unfold LZ at h;split at h
 ·rename_i x t s z;obtain rfl:=Pz s;obtain rfl:=Pz z;obtain⟨g,v,B,rfl⟩:=IE h;obtain⟨c,q,p⟩:=mH B;obtain⟨o,f⟩:=oT i j q;exact Wp i ⟨xy i f o p,rfl,rfl⟩ u
 ·rename_i x y t t2 s z;obtain rfl:=Pz s;obtain rfl:=Pz z;cases k:cV t t2 with
  |true=>
   rw [k]at h;have J:=iB k;subst J;obtain⟨r,q,p⟩:=mH h;obtain⟨c,o,f⟩:=mH p;have A:b.v≠.u':=by
    intro e;unfold sU at f;split at f
    ·split at f
     ·split at f
      ·cases f;cases e
      ·cases f
     ·split at f
      ·cases f;cases e
      ·cases f
     ·split at f
      ·cases f;cases e
      ·cases f
     ·cases f
    ·cases f
   exact sk u A (λd=>step_append (d:=d) I i j (oT i j q).2 (oT i j o).2 f G E) (λd e=>by rw [e];rfl)
  |false=>
   rw [k]at h;obtain⟨r,q,p⟩:=mH h;obtain⟨c,o,f⟩:=mH p;have A:b.v≠.u':=by intro e;obtain⟨L,z,_,_,_,_,K⟩:=Fw f;rcases K with⟨_,rfl⟩|⟨id,l,_,_,rfl⟩<;>cases e
   exact sk u A (λd=>Xp (d:=d) I i j (oT i j q).2 (oT i j o).2 f G E) (λd e=>by rw [e];rfl)
 ·rename_i x y _ s _;obtain rfl:=Pz s;obtain⟨g,v,B,rfl⟩:=IE h;obtain⟨r,q,p⟩:=mH B;obtain⟨c,o,f⟩:=mH p;exact Wp i ⟨mm_ok (oT i j q).2 (oT i j o).2 f,rfl,rfl⟩ u
 ·cases h
theorem cf(hE:EOk C)(r:C.nn=md.n)(p:Rel C w0 S0 ρ S F w){op:Op}(h:jC C (S.ev C) S.H op=δ b)(D:Iy b.g)(hm:S.Gu b.m=ζ)(q:Pd a b.v=ζ):
  Step C md w0 S0 ρ S F w ⟨a,op,ty,pos,after,ε⟩ (St.xB ⟨S.F,b.H,S.nb,S.al,b.m++S.m⟩ a b.v):=by
 cases op<;>first|cases h|skip
 case move x=>exact Wp p (V6 r p (op:=.move x) rfl h D w) q
 case assign x=>exact Wp p (V6 r p (op:=.assign x) rfl h D w) q
 case binOp H t x y t'=>exact Wp p (V6 r p (op:=.binOp H t x y t') rfl h D w) q
 case unOp u t x=>exact Wp p (V6 r p (op:=.unOp u t x) rfl h D w) q
 case index t x Q=>exact Wp p (V6 r p (op:=.index t x Q) rfl h D w) q
 case slice t x L M P=>
  cases J:wJ C t with
  |true=>exact Wp p (V6 r p (op:=.slice t x L M P) rfl (show(bif wJ C t then jC C (S.ev C) S.H (.slice t x L M P)else ε)=δ b by rw [J];exact h) D w) q
  |false=>
   cases P with
   |some m=>cases h
   |none=>
    refine sk q (λe=> ?_) (λd=>ca (d:=d) p r J h D) (λd e=>by rw [e];rfl);have h:(bif wJ C t then Ly S.H (hY (S.ev C x) λK=>If (S.ev C) L λi=>If (S.ev C) M λj=>T1 K i j)else hY (S.ev C x) λK=>If (S.ev C) L λi=>If (S.ev C) M λj=>Ie C S.H t K i j)=δ b:=h;rw [J]at h;obtain⟨c,I,E⟩:=mH (show hY (S.ev C x) (λK=>If (S.ev C) L λi=>If (S.ev C) M λj=>Ie C S.H t K i j)=δ b from h);have key:∀i j,Ie C S.H t c i j=δ b->False:=λi j T=>by obtain⟨id,e2,τ,l,_,_,_,_,_,V⟩:=Ee T;rcases V with⟨H,k,_,_,_,rfl⟩|⟨H,k,_,_,_,rfl⟩<;>cases e
    rcases XI E with⟨B,G⟩|⟨o,H,B,G,Y⟩
    ·rcases XI G with⟨X,N⟩|⟨o2,b2,X,N,W⟩
     ·exact key _ _ N
     ·exact key _ _ W
    ·rcases XI Y with⟨X,N⟩|⟨o2,b2,X,N,W⟩
     ·exact key _ _ N
     ·exact key _ _ W
 case extract x i=>exact Wp p (V6 r p (op:=.extract x i) rfl h D w) q
 case field t x f=>exact Wp p (V6 r p (op:=.field t x f) rfl h D w) q
 case build t O=>exact Wp p (V6 r p (op:=.build t O) rfl h D w) q
 case fieldAddr t x f=>exact Wp p (V6 r p (op:=.fieldAddr t x f) rfl h D w) q
 case pick c K H=>
  obtain⟨x,I,E⟩:=mH (show hY (S.ev C c) (λx=>match x with
   |.b' t=>nJ S.H (match(bif t then S.ev C K else S.ev C H)with
    |.u'=>ε
    |v=>δ v)
   |_=>ε)=δ b from h)
  split at E
  ·rename_i t;obtain⟨v,A,rfl⟩:=W3 E;obtain⟨B,u,G⟩:=Zd (ρ:=ρ) A;exact Wp p ⟨ef p r I B (λe=>by have e:v=.u':=e;subst e;cases G),rfl,rfl⟩ q
  ·cases E
 case convert s t x=>
  obtain⟨c,V,h⟩:=mH (show hY (S.ev C x) (AB C S.H s t)=δ b from h);have hx:=(oT p r V).2;unfold AB at h;split at h
  ·rename_i e U;have A:=dK h;have B:=dK A.2;have G:=B.2;split at G
   ·rename_i l hl;cases G;exact Wp p ⟨ZR p hx U A.1 B.1 hl,rfl,rfl⟩ q
   ·cases G
  ·split at h
   ·rename_i l;split at h
    ·rename_i e U;have A:=dK h;have B:=dK A.2;cases B.2;exact sk q aA2 (λd=>Xo (d:=d) p hx (Eh A.1) U B.1) (λd e=>by rw [e];rfl)
    ·obtain⟨g,v,A,rfl⟩:=IE h;exact Wp p ⟨AD hx A D,rfl,rfl⟩ q
   ·obtain⟨g,v,A,rfl⟩:=IE h;exact Wp p ⟨AD hx A D,rfl,rfl⟩ q
 case alloc e=>
  have Z:=h;have h:(match zC C e with
   |some z=>δ (Ro.mk [] (.c' (.p' (γ S.H) 0)) (S.H++[.bl e z]) [])
   |none=>ε)=δ b:=h
  split at h
  ·cases h;exact sk q aA2 (λd=>JB (d:=d) p Z) (λd e=>by rw [e];rfl)
  ·cases h
 case box e x=>
  have Z:=h;have h:(match(S.ev C x).cells with
   |some cs=>δ (Ro.mk [] (.c' (.p' (γ S.H) 0)) (S.H++[.bl e cs]) [])
   |none=>ε)=δ b:=h
  split at h
  ·cases h;exact sk q aA2 (λd=>A2 (d:=d) p r Z) (λd e=>by rw [e];rfl)
  ·cases h
 case buildSlice t n O=>
  have R:b.v≠.u':=by
   intro e;have h:ari C (S.ev C) S.H t n O.toList=δ b:=h;unfold ari at h;split at h
   ·split at h
    ·have I:=dK h;have E:=dK I.2;have A:=E.2;split at A
     ·cases A;cases e
     ·cases A
    ·cases h
   ·cases h
  exact sk q R (λd=>Ia (d:=d) p r h) (λd e=>by rw [e];rfl)
 case load t x=>
  obtain⟨c,I,E⟩:=mH (show hY (S.ev C x) (λK=>lJ C S.H t K)=δ b from h);exact Wp p (OZ p (oT p r I).2 E D) q
 case store t x y=>
  obtain⟨I,E⟩:=JA (ty:=ty) (pos:=pos) (after:=after) p r h D hm;rw [E]at q⊢;cases a with
  |none=>exact I
  |some d=>cases q
 case indexAddr t x Q=>
  obtain⟨K,I,E⟩:=mH (show hY (S.ev C x) (λK=>hY (S.ev C Q) λi=>sw C S.H t K i)=δ b from h);obtain⟨c,A,B⟩:=mH E;obtain⟨G,Y⟩:=oT p r I;exact Wp p (Zk p Y G (oT p r A).2 B D) q
 case makeSlice t x y=>
  obtain⟨K,I,E⟩:=mH (show hY (S.ev C x) (λK=>hY (S.ev C y) λi=>Ef C S.H t (isZ x) K i)=δ b from h);obtain⟨c,A,B⟩:=mH E;have R:b.v≠.u':=by
   intro e;unfold Ef at B;split at B
   ·have G:=(dK B).2;split at G
    ·cases G;cases e
    ·cases G
   ·cases B
  exact sk q R (λd=>SN (d:=d) hE p r (oT p r A).2 B D) (λd e=>by rw [e];rfl)
 case makeFunc f K H=>
  obtain⟨v,I,rfl⟩:=W3 h;exact Wp p ⟨jh p r I,rfl,rfl⟩ q
 case nilCheck x=>
  obtain⟨c,I,E⟩:=mH (show hY (S.ev C x) (λK=>nJ S.H (DQ K))=δ b from h);obtain⟨v,A,rfl⟩:=W3 E;obtain⟨B,G⟩:=oT p r I;exact Wp p ⟨xj G B A,rfl,rfl⟩ q
 case call c=>
  obtain⟨a0,gK,ts⟩:=c;cases a0<;>first|cases h|skip
  exact LH hE r p h D hm q
end
open Go.Wk
open Go.Ce (Tr)
open Nat renaming one_pos → Jd
def tp(ρ b:Nat->Ad):Ob->Ob->Prop
 |.bl e cs,d=>∃a,d=.bl e a/\cs.map (SC.v ρ)=a.map (SC.v b)/\∀(j:Nat) (c f),cs[j]? =δ c->a[j]? =δ f->c.kn=f.kn
 |o,d=>d=o
structure LR (ρ cT:Nat->Ad) (a b:List SC×List Ob):Prop where
 c:a.1.map (SC.v ρ)=b.1.map (SC.v cT)
 p:(pW a.1).map (λid=>(ρ id).b)=(pW b.1).map (λid=>(cT id).b)
 o:∀(j:Nat) (o:Ob),a.2[j]? =δ o->∃o2,b.2[j]? =δ o2/\tp ρ cT o o2
variable {t:Ty}{s:Nat}
theorem K3{n b d:Nat}{x:t.T}{j:Nat}{c a:SC}(h:(t.lay s n x).1[j]? =δ c)(e:(t.lay b d x).1[j]? =δ a):c.kn=a.kn:=by rw [(Ty.Eo t s n x c (aG h)).1,(Ty.Eo t b d x a (aG e)).1]
theorem PF:∀(t:Ty) (s n i g) x (ρ d),(t.tz=ζ->(ρ s).b=(d i).b)->(∀j,j<t.no->ρ (n+j)=d (g+j))->LR ρ d (t.lay s n x) (t.lay i g x):=by
 intro t;induction t with
 |w' t y=>intro s n i g x ρ d r m;exact y s n i g x ρ d r m
 |pr a b A z=>
  intro s n i g x ρ d r m;have u:=A s n i g x.1 ρ d (λh=>r (by simp [Ty.tz,h])) (λj B=>m j (by show j<a.no+b.no;omega));have w:=z s (n+a.no) i (g+a.no) x.2 ρ d (λh=>r (by simp [Ty.tz,h])) (λj B=>by have:=m (a.no+j) (by show a.no+j<a.no+b.no;omega);rw [De,De];exact this);refine⟨?_, ?_,λj o f=> ?_⟩
  ·show((a.lay s n x.1).1++(b.lay s _ x.2).1).map _=((a.lay i g x.1).1++(b.lay i _ x.2).1).map _;rw [AY,AY,u.c,w.c]
  ·show(pW ((a.lay s n x.1).1++(b.lay s _ x.2).1)).map _=(pW ((a.lay i g x.1).1++(b.lay i (g+a.no) x.2).1)).map _;rw [zY,zY,AY,AY,u.p,w.p]
  ·have f:((a.lay s n x.1).2++(b.lay s _ x.2).2)[j]? =δ o:=f;show∃C,((a.lay i g x.1).2++(b.lay i (g+a.no) x.2).2)[j]? =δ C/\_;have E:=a.eL s n x.1;have D:=a.eL i g x.1;by_cases B:j<a.no
   ·rw [aI aA0]at f⊢;exact u.o j o f
   ·rw [aN aA0]at f⊢;rw [E]at f;rw [D];exact w.o _ o f
 |l' e b t y=>
  intro s n i g x ρ d r m;have q:=m 0 Jd;rw [BG]at q;refine⟨by simp [Ty.lay,SC.v,q],rfl,λj o f=>⟨o,f, ?_⟩⟩;cases j with
  |zero=>have:Ob.rw e b t x=o:=aJ f;subst this;rfl
  |succ j=>simp [Ty.lay]at f
 |y'=>
  intro s n i g x ρ d r m;have q:=m 0 Jd;rw [BG]at q;refine⟨by simp [Ty.lay,SC.v,q],rfl,λj o f=>⟨o,f, ?_⟩⟩;cases j with
  |zero=>have:Ob.br (γ x) x=o:=aJ f;subst this;rfl
  |succ j=>simp [Ty.lay]at f
 |r' t y=>
  intro s n i g x ρ d r m;have q:=m 0 Jd;rw [BG]at q;refine⟨by simp [Ty.lay,SC.v,q],rfl,λj o f=>⟨o,f, ?_⟩⟩;cases j with
  |zero=>have:Ob.ro t x=o:=aJ f;subst this;rfl
  |succ j=>simp [Ty.lay]at f
 |p' e t y=>
  intro s n i g x ρ d r m;have q:=m 0 (Nat.succ_pos _);rw [BG,BG]at q;have u:=y n (n+1) g (g+1) x ρ d (λ_=>by rw [q]) (λj B=>by have:=m (j+1) (by show j+1<t.no+1;omega);rw [Qp,Qp g];exact this);refine⟨by simp [Ty.lay,SC.v,q],by simp [Ty.lay,pW,q],λj o f=> ?_⟩;cases j with
  |zero=>have:Ob.bl e (t.lay n _ x).1=o:=aJ f;subst this;exact⟨_,rfl,_,rfl,u.c,λj c F h w=>K3 h w⟩
  |succ j=>exact u.o j o f
 |z'=>
  intro s n i g x ρ d r m;have q:=m 0 Jd;rw [BG]at q;refine⟨by simp [Ty.lay,SC.v,q,r rfl],rfl,λj o f=>⟨o,f, ?_⟩⟩;cases j with
  |zero=>have:Ob.dd 0=o:=aJ f;subst this;rfl
  |succ j=>simp [Ty.lay]at f
 |f' k t y=>
  intro s n i g x ρ d r m;have u:=y s n i g x ρ d r m;refine⟨?_,rfl,u.o⟩;have:=u.p;have w:∀(ρ:Nat->Ad) (l:List Nat),(l.map λid=>jH (ρ id).b 0)=(l.map λid=>(ρ id).b).map (λb=>jH b 0):=λρ l=>by rw [jN];rfl
  show [Γ _ #[] ((pW (t.lay s n x).1).map λid=>jH (ρ id).b 0).toArray]=[Γ _ #[] ((pW (t.lay i g x).1).map λid=>jH (d id).b 0).toArray];rw [w,w,this]
 |sm a b _ _=>intro s n i g x ρ d r m;exact⟨rfl,rfl,λj o f=>by simp [Ty.lay]at f⟩
 |_=>intro s n i g x ρ d r m;exact⟨rfl,rfl,λj o f=>by simp [Ty.lay]at f⟩
theorem K2:∀(t:Ty) (s n) x,t.nb=ζ->∀(j:Nat) e l,(t.lay s n x).2[j]? ≠δ (.ro e l):=by
 intro t;induction t with
 |w' t d=>intro s n x h;exact d s n x h
 |pr a b i g=>
  intro s n x h j e l c;have h:=iK h;have c:((a.lay s n x.1).2++(b.lay s _ x.2).2)[j]? =δ _:=c;by_cases m:j<γ (a.lay s n x.1).2
  ·rw [aI m]at c;exact i _ _ _ h.1 _ _ _ c
  ·rw [aN aA0]at c;exact g _ _ _ h.2 _ _ _ c
 |p' e t d=>
  intro s n x h j f l c;cases j with
  |zero=>cases aJ c
  |succ j=>exact d _ _ _ h j f l c
 |f' k t d=>intro s n x h;exact d s n x h
 |r' t d=>intro s n x h;cases h
 |l' e b t d=>
  intro s n x h j f l c;cases j with
  |zero=>cases aJ c
  |succ j=>simp [Ty.lay]at c
 |y'=>
  intro s n x h j f l c;cases j with
  |zero=>cases aJ c
  |succ j=>simp [Ty.lay]at c
 |z'=>
  intro s n x h j f l c;cases j with
  |zero=>cases aJ c
  |succ j=>simp [Ty.lay]at c
 |_=>intro s n x h j e l c;simp [Ty.lay]at c
theorem D8{H:List Ob}(A:MD H):∀(l:List Ty) (vs:List SV) (a:(gL l).T) (ss:List Src) (d:List Ob),OD H l vs=δ (a,ss)->
  ∃obs,(jZ d l a).2=d++obs/\γ obs=γ ss/\(∀v∈(jZ d l a).1,v.ok (γ d+γ obs))/\(∀(j e:Nat) (cs:List SC),obs[j]? =δ (.bl e cs)->∀c∈cs,c.ok (γ d+γ obs))/\
   ∀(ρ f:Nat->Ad),(∀(j:Nat) (s:Src),ss[j]? =δ s->f (γ d+j)=s.ad ρ)->
    (∃r:List θ,vs.map (SV.v ρ)=r.map δ/\(jZ d l a).1.map (SV.v f)=r.map δ)/\∀(j:Nat) (s:Src) (o:Ob),ss[j]? =δ s->obs[j]? =δ o->WM ζ ρ H f s o
 |[],vs,a,ss,d,h=>by
  cases vs with
  |cons v vs=>cases h
  |nil=>cases h;exact⟨[],by simp [jZ],rfl,λv k=>by simp [jZ]at k,λj e cs g=>by simp at g,λρ f _=>⟨⟨[],rfl,rfl⟩,λj s o g=>by simp at g⟩⟩
 |[x],vs,a,ss,d,h=>by
  simp only [OD]at h;split at h
  ·rename_i v;have k:=Yc A h;refine⟨(x.lay 0 (γ d) a).2,rfl,by rw [k.no,Ty.eL],λv q=> ?_,λj e cs g=>lj x 0 (γ d) a j e cs g,λρ f m=> ?_⟩
   ·rw [aE.1 (show v∈[x.sv (x.lay 0 (γ d) a).1]from q)];exact Ty.Gq (bbi x 0 (γ d) a k.tz)
   ·obtain⟨⟨u,F,C,_⟩,B⟩:=k.to ρ f (γ d) m;exact⟨⟨[u],by simp [F],by simp [jZ,C]⟩,B⟩
  ·cases h
 |x::y::l,vs,a,ss,d,h=>by
  simp only [OD]at h;split at h
  ·rename_i v vs;split at h
   ·rename_i i G hx;split at h
    ·rename_i b J K;cases h;have k:=Yc A hx;have z:γ (x.lay 0 (γ d) i).2=γ G:=by rw [k.no,Ty.eL]
     obtain⟨obs,F,C,B,Q,P⟩:=D8 A (y::l) vs b J (d++(x.lay 0 (γ d) i).2) K;have p:γ (d++(x.lay 0 (γ d) i).2)=γ d+γ (x.lay 0 (γ d) i).2:=bP;refine⟨(x.lay 0 (γ d) i).2++obs,by rw [<-gH];exact F,by simp [z,C],λv q=> ?_,λj e cs g c I=> ?_,λρ f m=> ?_⟩
     ·rw [bP,<-De,<-p];rcases aP.1 (show v∈x.sv (x.lay 0 (γ d) i).1::(jZ (d++(x.lay 0 (γ d) i).2) (y::l) b).1 from q)with rfl|q
      ·exact SV.cN (Ty.Gq (bbi x 0 (γ d) i k.tz)) aA0
      ·exact B v q
     ·rw [bP,<-De,<-p];by_cases n:j<γ (x.lay 0 (γ d) i).2
      ·rw [aI n]at g;exact SC.cN (lj x 0 (γ d) i j e cs g c I) aA0
      ·rw [aN aA0]at g;exact Q _ e cs g c I
     ·obtain⟨⟨u,O,N,_⟩,M⟩:=k.to ρ f (γ d) (λj s g=>m j s (by rw [aI (aD.1 g).1];exact g));obtain⟨⟨r,L,E⟩,D⟩:=P ρ f (λj s g=>by rw [p,z,De];exact m _ s (by rw [aN aA0,<-g];congr 1;omega));refine⟨⟨u::r,by simp [O,L], ?_⟩,λj s o t w=> ?_⟩
      ·show(x.sv (x.lay 0 (γ d) i).1::(jZ (d++(x.lay 0 (γ d) i).2) (y::l) b).1).map _=_;rw [yS,N,E];rfl
      ·by_cases n:j<γ G
       ·rw [aI n]at t;rw [aI aA0]at w;exact M j s o t w
       ·rw [aN aA0]at t;rw [aN aA0,z]at w;exact D _ s o t w
    ·cases h
   ·cases h
  ·cases h
def mG(c:Ct)(x:(gL c.a).T):List Ob:=(jZ [] c.a x).2
def Io(outs:List Nat):List Ob->Nat->List Nat
 |[],_=>[]
 |o::a,j=>(bif wI (δ o)then(bif mF j outs then []else [j])else [])++Io outs a (j+1)
structure Db where
 gs:List (Nat×Ob)
 p:ν->List Nat->Prop
 st:∀{w0 w:ν} {S0 S1:List Nat} {L:List cB},Hp w0 S0 L w->p w0 S0->(∀b∈S1,w0.heap.size<=b\/b∈S0)->p w S1
 rd:∀{w:ν} {S:List Nat} {g:Nat} {t:Ty} {l:List t.T},p w S->(g,.ro t l)∈gs->Rd w (δ ⟨g,0,ε⟩) (l.flatMap t.enc)/\g∉S
def Gw(G:Db)(w:ν)(S:List Nat):Prop:=G.p w S
variable {a:Type}
def Gv.ok:Gv a->a->Prop
 |.one o,y=>o=δ y
 |.gs l z,y=>Iy l/\z=y
theorem Ot{ρ:Type}{x:Option ρ}{r:ρ}:∀{l:List PD},gdL l x=δ r->Iy l/\x=δ r
 |[],h=>⟨trivial,h⟩
 |⟨p,e⟩::l,h=>by obtain⟨d,c⟩:=O6 h;obtain⟨b,a⟩:=Ot c;exact⟨⟨d,b⟩,a⟩
theorem Gv.lf{ρ:Type}{g:Gv a}{k:a->Option ρ}{r:ρ}(h:g.bd k=δ r):∃y,g.ok y/\k y=δ r:=by
 cases g with
 |one o=>obtain⟨y,b,c⟩:=Ca (h);exact⟨y,b,c⟩
 |gs l z=>obtain⟨b,c⟩:=Ot (h);exact⟨z,⟨b,rfl⟩,c⟩
def lZ(c:Ct)(x:(gL c.a).T)(y:(iF c.r).T):List SA×List Ob:=gM (λj=>j) ([],kill (mG c x) (Io (Rk.ids c.r) (mG c x) 0)) c.r y
def AV(P:ω)(i:Db)(k:Nat)(c:Ct):Prop:=∀w S d L e x y,Gw i w S->Hp w S L w->Mt w S d (mG c x) L->
 (jZ [] c.a x).1.map (SV.v d)=e.map δ->(c.f x).ok y->CR P k e w λv h=>∃b g,Up (γ (mG c x)) d b/\Hp w S g h/\Mt w S b (lZ c x y).2 g/\(mA (lZ c x y).1).v b=δ v
theorem Bp{outs:List Nat}:∀{obs:List Ob} {i j:Nat},j∈Io outs obs i↔∃o,i<=j/\obs[j-i]? =δ o/\wI (δ o)=ζ/\j∉outs
 |[],i,j=>by simp [Io]
 |o::obs,i,j=>by
  have l:=Bp (outs:=outs) (obs:=obs) (i:=i+1) (j:=j);simp only [Io,aR,l];constructor
  ·rintro(h|⟨c,n,b,d⟩)
   ·cases f:wI _ with
    |false=>rw [f]at h;cases h
    |true=>
     rw [f]at h;cases a:mF i outs with
     |true=>rw [a]at h;cases h
     |false=>rw [a]at h;simp at h;subst h;exact⟨o,eK _,aA2,f,λm=>by rw [Wo.2 m]at a;cases a⟩
   ·refine⟨c,aA0, ?_,d⟩;rw [show j-i=(j-(i+1))+1 by omega];exact b
  ·rintro⟨c,n,b,d,k⟩;by_cases g:i=j
   ·subst g;have e:o=c:=by simpa using b
    subst e;have a:mF i outs=η:=by
     cases a:mF i outs with
     |false=>rfl
     |true=>exact absurd (Wo.1 a) k
    rw [d,a];simp
   ·right;refine⟨c,aA0, ?_,d,k⟩;rw [show j-i=(j-(i+1))+1 by omega]at b;exact b
theorem Fs{outs:List Nat}:∀{obs:List Ob} {ss:List Src} {i id:Nat},id∈lN outs obs i ss↔∃j o s,i<=j/\obs[j-i]? =δ o/\ss[j-i]? =δ s/\wI (δ o)=ζ/\j∉outs/\id∈s.own
 |[],ss,i,id=>by simp [lN]
 |o::obs,[],i,id=>by simp [lN]
 |o::obs,s::ss,i,id=>by
  have p:=Fs (outs:=outs) (obs:=obs) (ss:=ss) (i:=i+1) (id:=id);simp only [lN,aR,p];constructor
  ·rintro(h|⟨j,f,d,r,c,b,g⟩)
   ·cases k:wI _ with
    |false=>rw [k]at h;cases h
    |true=>
     rw [k]at h;cases a:mF i outs with
     |true=>rw [a]at h;cases h
     |false=>rw [a]at h;exact⟨i,o,s,eK _,aA2,aA2,k,(λq=>by rw [Wo.2 q]at a;cases a),h⟩
   ·refine⟨j,f,d,aA0, ?_, ?_,g⟩
    ·rw [show j-i=(j-(i+1))+1 by omega];exact c
    ·rw [show j-i=(j-(i+1))+1 by omega];exact b
  ·rintro⟨j,f,d,r,c,b,g,n,m⟩;by_cases l:i=j
   ·subst l;left;have e:o=f:=aC2;have t:s=d:=aB6
    subst e;subst t;have a:mF i outs=η:=by
     cases a:mF i outs with
     |false=>rfl
     |true=>exact absurd (Wo.1 a) n
    rw [g,a];exact m
   ·right;refine⟨j,f,d,aA0, ?_, ?_,g,n,m⟩
    ·rw [show j-i=(j-(i+1))+1 by omega]at c;exact c
    ·rw [show j-i=(j-(i+1))+1 by omega]at b;exact b
open Nat renaming beq → cV, one_pos → Jd
structure PR (n nc:Nat) (H:List Ob) (ρ cT ρ3:Nat->Ad) (ss:List Src) (rg:List Rg) (Hc Hk:List Ob) (lc lk:List SA) (k:Nat):Prop where
 ec:γ Hc=nc+k
 ek:γ Hk=n+k
 nw:∀(i:Nat) (o:Ob),i<k->Hc[nc+i]? =δ o->(∃o3,Hk[n+i]? =δ o3/\tp cT ρ3 o o3)/\∀(t:Ty) (l:List t.T),o≠.ro t l
 ow:∀(j id:Nat) (o:Ob),ss[j]? =δ (.o' id ζ)->Hc[j]? =δ o->(∃o3,Hk[id]? =δ o3/\tp cT ρ3 o o3)/\∀(t:Ty) (l:List t.T),o≠.ro t l
 ok:∀(j id m:Nat),ss[j]? =δ (.k' id m ζ)->Hk[id]? =δ (.dd 0)
 ot:∀id,id<n->id∉iG ss->Hk[id]? =H[id]?
 ho:∀(id e:Nat) (cs:List SC),Hk[id]? =δ (.bl e cs)->∀c∈cs,c.ok (n+k)
 kp:∀(id:Nat) (o:Ob),H[id]? =δ o->lS rg id ρ ρ3 Hk[id]? o
 vl:lc.map (SA.v cT)=lk.map (SA.v ρ3)
 vo:∀v∈lk,v.ok (n+k)
theorem tp.len{ρ cT:Nat->Ad}{o a:Ob}(h:tp ρ cT o a):a.len=o.len:=by
 cases o with
 |bl e cs=>obtain⟨b,rfl,_⟩:=h;rfl
 |_=>have h:=h;rw [h]
theorem vq{ρ cT:Nat->Ad}{a b:List SC}(h:a.map (SC.v ρ)=b.map (SC.v cT)):(t.sa a).v ρ=(t.sa b).v cT:=by
 unfold Ty.sa;cases t.agg with
 |true=>simp only [aQ,SA.v,h]
 |false=>
  simp
  match a,b,h with
  |[],[],_=>rfl
  |[t],[y],h=>simpa [SA.v] using h
  |t::y::a,u::v::b,h=>simp only [SA.v,h]
  |[],_::_,h=>simp at h
  |_::_,[],h=>simp at h
  |[_],_::_::_,h=>simp at h
  |_::_::_,[_],h=>simp at h
theorem RY:∀{x:Ty} {v:x.T} {o:Ob},aw s x v=δ o->(∀t l,o≠.ro t l)/\∀e cs,o≠.bl e cs:=by intro x;cases x<;>intro v o h<;>first|(cases h;exact⟨(λt l e=>by cases e),(λe cs a=>by cases a)⟩)|cases h
theorem pt{b:Src}(h:b.ow=δ s):b=.o' s ζ\/∃m,b=.k' s m ζ:=by
 cases b with
 |o' i w=>cases w<;>simp [Src.ow]at h;subst h;exact .inl rfl
 |n'=>simp [Src.ow]at h
 |k' i m w=>cases w<;>simp [Src.ow]at h;subst h;exact .inr ⟨m,rfl⟩
 |z' t=>simp [Src.ow]at h
section
variable {n nc:Nat}{H:List Ob}{ρ cT ρ3:Nat->Ad}{ss:List Src}{rg:List Rg}{Hc Hk:List Ob}{lc lk:List SA}{k:Nat}
theorem PR.app(h:PR n nc H ρ cT ρ3 ss rg Hc Hk lc lk k)(E:γ ss<=nc)(hid:∀(j:Nat) s i,ss[j]? =δ s->s.ow=δ i->i<n)(F:γ H=n){a b:List SC×List Ob}(u:LR cT ρ3 a b)(C:γ a.2=γ b.2)
  (q:∀(j:Nat) t l,a.2[j]? ≠δ (.ro t l)) (p:∀(j e:Nat) cs,b.2[j]? =δ (.bl e cs)->∀c∈cs,c.ok (n+(k+γ b.2))):
  PR n nc H ρ cT ρ3 ss rg (Hc++a.2) (Hk++b.2) lc lk (k+γ b.2):=by
 have z:=h.ec;have y:=h.ek;refine⟨by simp [z,C,De],by simp [y,De],λi o g d=> ?_,λj id o f d=> ?_,λj id m f=> ?_,λid g B=> ?_,λid e cs d c w=> ?_,λid o d=> ?_,h.vl,λv A=> ?_⟩
 ·by_cases r:i<k
  ·rw [aI aA0]at d⊢;exact h.nw i o r d
  ·rw [aN aA0,z,show nc+i-(nc+k)=i-k by omega]at d;rw [aN aA0,y,show n+i-(n+k)=i-k by omega];exact⟨u.o _ o d,λt l e=>q _ t l (by rw [d,e])⟩
 ·have D:=(aD.1 f).1;have:=hid j _ id f rfl;rw [aI aA0]at d⊢;exact h.ow j id o f d
 ·have:=hid j _ id f rfl;rw [aI aA0];exact h.ok j id m f
 ·rw [aI aA0];exact h.ot id g B
 ·by_cases g:id<γ Hk
  ·rw [aI g]at d;exact SC.cN (h.ho id e cs d c w) aA0
  ·rw [aN aA0]at d;exact p _ e cs d c w
 ·have:=(aD.1 d).1;rw [aI aA0];exact h.kp id o d
 ·have:=h.vo v A;cases v with
  |c' x=>exact SC.cN this aA0
  |a' l=>exact λx hx=>SC.cN (this x hx) aA0
theorem PR.dV(h:PR n nc H ρ cT ρ3 ss rg Hc Hk lc lk k)(B:(iG ss).Nodup)(hid:∀(j:Nat) s i,ss[j]? =δ s->s.ow=δ i->i<n){j id:Nat}{o o3:Ob}(r:ss[j]? =δ (.o' id ζ))(E:tp cT ρ3 o o3)(y:∀t l,o≠.ro t l)(z:∀A,H[id]? =δ A->lS rg id ρ ρ3 (δ o3) A)(I:γ ss<=nc)
  (x:∀e cs,o3=.bl e cs->∀c∈cs,c.ok (n+k)):PR n nc H ρ cT ρ3 ss rg (kA Hc j o) (kA Hk id o3) lc lk k:=by
 have G:=h.ec;have F:=h.ek;have J:=hid j _ id r rfl;have D:=(aD.1 r).1;refine⟨by rw [LU,G],by rw [LU,F],λi p u d=> ?_,λw a p b d=> ?_,λw a m b=> ?_,λa u v=> ?_,λa e cs d c C=> ?_,λa p d=> ?_,h.vl,h.vo⟩
 ·rw [yA,aA aA0]at d;rw [yA,aA aA0];exact h.nw i p u d
 ·by_cases q:w=j
  ·subst q;rw [r]at b;cases b;rw [yA,aB ⟨rfl,aA0⟩]at d;cases d;rw [yA,aB ⟨rfl,aA0⟩];exact⟨⟨o3,rfl,E⟩,y⟩
  ·have f:a≠id:=λe=>q (Ml B b aE7 r rfl);rw [yA,aA (λg=>q g.1)]at d;rw [yA,aA (λg=>f g.1)];exact h.ow w a p b d
 ·have f:a≠id:=λe=>by have:=Ml B b aE7 r rfl;subst this;rw [r]at b;cases b
  rw [yA,aA (λg=>f g.1)];exact h.ok w a m b
 ·have f:a≠id:=λe=>v (by rw [e];exact sT r rfl);rw [yA,aA (λg=>f g.1)];exact h.ot a u v
 ·rw [yA]at d;split at d
  ·cases d;exact x e cs rfl c C
  ·exact h.ho a e cs d c C
 ·rw [yA];split
  ·rename_i g;rw [g.1]at d⊢;exact z p d
  ·exact h.kp a p d
theorem PR.steps(hn:(iG ss).Nodup)(R:γ ss<=nc)(hid:∀(j:Nat) s i,ss[j]? =δ s->s.ow=δ i->i<n)(hH:γ H=n)(b6:γ ss=nc)
  (O:∀i,ρ3 (n+i)=cT (nc+i)) (a3:∀j id,ss[j]? =δ (.o' id ζ)->ρ3 id=cT j):∀r y (Hc Hk) (lc lk) k,PR n nc H ρ cT ρ3 ss rg Hc Hk lc lk k->Lt H ss r=ζ->(∀id∈lI ss (Rk.ids r),∀q,q=tN H id->∀j,j<q.2.2->eY id j rg=ζ)->
  ∃F,PR n nc H ρ cT ρ3 ss rg (gM (λj=>j) (lc,Hc) r y).2 (gM (Jv ss) (lk,Hk) r y).2 (gM (λj=>j) (lc,Hc) r y).1 (gM (Jv ss) (lk,Hk) r y).1 F:=by
 have one:∀q v (Hc Hk) (lc lk) k,PR n nc H ρ cT ρ3 ss rg Hc Hk lc lk k->Lt H ss [q]=ζ->(∀id∈lI ss (Rk.ids [q]),∀q,q=tN H id->∀j,j<q.2.2->eY id j rg=ζ)->
   ∃F,PR n nc H ρ cT ρ3 ss rg (q.put (λj=>j) (lc,Hc) v).2 (q.put (Jv ss) (lk,Hk) v).2 (q.put (λj=>j) (lc,Hc) v).1 (q.put (Jv ss) (lk,Hk) v).1 F:=by
  intro q v Hc Hk lc lk k h a b;have h1:=h.ec;have z:=h.ek;simp only [Lt]at a;have a:=(iK a).1;cases q with
  |r' x=>
   have a:(bif x.tz then η else x.nb)=ζ:=a;cases A:x.tz with
   |true=>rw [A]at a;cases a
   |false=>
    rw [A]at a;have a:=a;have m:=PF x 0 (γ Hc) 0 (γ Hk) v cT ρ3 (λe=>by rw [A]at e;cases e) (λj _=>by rw [h1,z,De,De];exact(O _).symm);have g:=h.app R hid hH m ((Ty.eL x 0 (γ Hc) v).trans (Ty.eL x 0 (γ Hk) v).symm) (K2 x 0 (γ Hc) v a) (λj e cs L=>by have:=lj x 0 (γ Hk) v j e cs L;rw [z,De]at this;rw [z];exact this);refine⟨_,g.ec,g.ek,g.nw,g.ow,g.ok,g.ot,g.ho,g.kp, ?_,λu G=> ?_⟩
    ·show(lc++[x.sa (x.lay 0 (γ Hc) v).1]).map _=(lk++[x.sa (x.lay 0 (γ Hk) v).1]).map _;rw [AY,AY,h.vl,jM,jM,vq m.c]
    ·rcases aR.1 (G)with G|G
     ·exact g.vo u G
     ·rw [aE.1 G];have:=Ty.sa_ok (x:=x) (bbi x 0 (γ Hk) v A);rw [<-De,<-z];exact this
  |o' j e x=>
   have a:(bif x.nb then(match fU ss j with
    |some (.o' id w)=>bif w then(match fU H id with
     |some (.bl S cs)=>bif cV S e then cV (γ cs) x.cn else η
     |_=>η)else η
    |_=>η)else η)=ζ:=a
   have a:=iK a;have W:=a.1;have a:=a.2;split at a
   ·rename_i id w f;have a:=iK a;have V:=a.1;subst V;have a:=a.2;split at a
    ·rename_i S c0 hb;have a:=iK a;rw [gV]at f hb;have a1:=iB a.1;have a4:=iB a.2;subst a1;have N:=hid j _ id f rfl;have X:=(aD.1 f).1;have p:Jv ss j=id:=by unfold Jv;rw [gV,f]
     have m:=PF x j (γ Hc) id (γ Hk) v cT ρ3 (λ_=>by rw [a3 j id f]) (λj _=>by rw [h1,z,De,De];exact(O _).symm);have K:∀c∈(x.lay id (γ Hk) v).1,c.ok (n+(k+γ (x.lay id (γ Hk) v).2)):=λc Q i a0=>by
      rcases(Ty.Eo x id (γ Hk) v c Q).2 i a0 with h3|h3
      ·omega
      ·omega
     have g:=h.app R hid hH m ((Ty.eL x j (γ Hc) v).trans (Ty.eL x id (γ Hk) v).symm) (K2 x j (γ Hc) v W) (λj e cs L=>by have:=lj x id (γ Hk) v j e cs L;rw [z,De]at this;rw [z];exact this);have J:=g.dV (o:=.bl S (x.lay j (γ Hc) v).1) (o3:=.bl S (x.lay id (γ Hk) v).1) hn hid f ⟨_,rfl,m.c,λj c c2 h z=>K3 h z⟩ (λt l e=>by cases e) (λU E=> ?_) R (λe cs he c Q=>by cases he;exact K c Q)
     ·refine⟨k+γ (x.lay id (γ Hk) v).2, ?_⟩;have e1:∀{Z B:List Ob} {i:Nat} {o:Ob},i<γ Z->kA (Z++B) i o=kA Z i o++B:=λhl=>by rw [pY,pY,Y4 _ _ hl]
      rw [e1 aA0,e1 aA0]at J;show PR n nc H ρ cT ρ3 ss rg _ (kA Hk _ _++(x.lay _ (γ Hk) v).2) lc lk _;rw [p];exact J
     ·rw [hb]at E;cases E;refine .inr ⟨_,rfl,(Ty.Zb x id (γ Hk) v).trans a4.symm,λjj c Q=>.inl ?_⟩;have Y:=(aD.1 Q).1;refine b id ?_ _ rfl jj ?_
      ·show id∈[Jv ss j];rw [p];exact aE.2 rfl
      ·unfold tN;rw [gV,hb];exact Y
    ·cases a
   ·cases a
  |w' j x=>
   have a:(match fU ss j with
    |some (.o' id w)=>bif w then wI _ else η
    |_=>η)=ζ:=a
   split at a
   ·rename_i id w f;have a:=iK a;have V:=a.1;subst V;have d:=a.2;rw [gV]at f d;have N:=hid j _ id f rfl;have X:=(aD.1 f).1;have p:Jv ss j=id:=by unfold Jv;rw [gV,f]
    have P:Hc[j]? =δ _:=aO aA0;obtain⟨⟨o3,h3,h4⟩,_⟩:=h.ow j id _ f P;have M:gJ Hk id=gJ Hc j:=by rw [oB h3,oB P,h4.len]
    refine⟨k, ?_⟩;show PR n nc H ρ cT ρ3 ss rg (rK Hc j x v) (rK Hk (Jv ss j) x v) lc lk k;rw [p];unfold rK;rw [M];split
    ·rename_i o L;have D:(∀(t:Ty) (l:List t.T),o≠.ro t l)/\tp cT ρ3 o o/\∀(e:Nat) (cs:List SC),o≠.bl e cs:=by
      obtain⟨h5,h6⟩:=RY L;refine⟨h5, ?_,h6⟩;cases o with
      |bl e cs=>exact absurd rfl (h6 e cs)
      |_=>rfl
     refine h.dV hn hid f D.2.1 D.1 (λU E=> ?_) R (λe cs he=>absurd he (D.2.2 e cs));have a5:eY id 0 rg=ζ:=by
      refine b id ?_ _ rfl 0 ?_
      ·show id∈[Jv ss j];rw [p];exact aE.2 rfl
      ·unfold tN;rw [gV,E];rw [E]at d;cases U<;>first|exact Jd|cases d
     rw [E]at d;cases U<;>first|exact .inl a5|cases d
    ·exact h
   ·cases a
 intro r;induction r with
 |nil=>intro y Hc Hk lc lk k h _ _;exact⟨k,h⟩
 |cons q r ih=>
  intro y Hc Hk lc lk k h a b;cases r with
  |nil=>exact one q y Hc Hk lc lk k h a b
  |cons q2 r=>
   have I:=iK (a);have C:∀id,id∈lI ss (Rk.ids [q])\/id∈lI ss (Rk.ids (q2::r))->id∈lI ss (Rk.ids (q::q2::r)):=by
    intro id hid;cases q with
    |r' x=>
     rcases hid with hid|hid
     ·cases hid
     ·exact hid
    |o' i e x=>
     rcases hid with hid|hid
     ·exact aP.2 (.inl (aE.1 hid))
     ·exact eT _ hid
    |w' i x=>
     rcases hid with hid|hid
     ·exact aP.2 (.inl (aE.1 hid))
     ·exact eT _ hid
   obtain⟨F,z⟩:=one q y.1 Hc Hk lc lk k h (by have:=I.1;simp only [Lt];rw [this];rfl) (λid N=>b id (C id (.inl N)));exact ih y.2 _ _ _ _ F z I.2 (λid N=>b id (C id (.inr N)))
end
open Go.Wk
open Go.Ce (Tr)
open Go.Value renaming ownBlock → Dd
open List renaming length → aM
theorem map_some{b a:Type}{f:b->a}{l:List b}{j:Nat}{r:a}(h:(l.map f)[j]? =δ r):∃x,l[j]? =δ x/\f x=r:=by
 rw [bE]at h;cases c:l[j]? with
 |none=>rw [c]at h;cases h
 |some x=>rw [c]at h;exact⟨x,rfl,aJ h⟩
variable {w b:ν}{S:List Nat}{L:List cB}{j c:Nat}{r:cB}
theorem G9(p:Hp w S L b){i:Nat}{g:cB}(h:L[j]? =δ r)(q:L[c]? =δ g)(l:r.own=δ i)(a:g.own=δ i):j=c:=by
 obtain⟨d,n⟩:=aD.1 h;obtain⟨t,m⟩:=aD.1 q;have k:=eM.1 p.sep;rcases Nat.lt_trichotomy j c with e|o|f
 ·exact absurd (by rw [m];exact a) (k j c d t e i (by rw [n];exact l))
 ·exact o
 ·exact absurd (by rw [n];exact l) (k c j t d f i (by rw [m];exact a))
variable {a n:Nat->Ad}{H:List Ob}{s:Src}{o:Ob}
theorem ph(h:WM ζ a H n s o)(b:∀t l,o≠.ro t l):WM η a H n s o:=by
 cases o with
 |ro t l=>exact absurd rfl (b t l)
 |_=>exact h
theorem CH(c:MC a H)(d:MD H)(h:WM ζ a H n s o):o.len=(s.ad a).ln:=by
 cases o with
 |ro t l=>
  rcases h with⟨id,rfl,f⟩|⟨rfl,rfl⟩|⟨_,id,m,e,cs,rfl,f,b⟩
  ·obtain⟨ob,b,g⟩:=Wn (λm x hx=>d id m x hx) (f);have:=c id ob b;show γ l=(a id).ln;rw [<-g];exact this
  ·rfl
  ·exact(y7 b).1
 |_=>exact NJ c d (ph h (λt l e=>by cases e))
theorem vv{S1:List Nat}(h:RO w S a j o r)(ρ:∀t l,o≠.ro t l):RO b S1 a j o r:=by
 cases o with
 |ro t l=>exact absurd rfl (ρ t l)
 |_=>exact h
theorem ch{S1:List Nat}(ρ:Hp w S L b)(D:Mt w S a H L)(W:∀a0∈S1,w.heap.size<=a0\/a0∈S)(E:∀id∈s.bor,∀r a0,L[id]? =δ r->r.own=δ a0->a0∉S1)(h:WM ζ a H n s o)(R:n j=s.ad a):
  ∃r,RO b S1 n j o r/\r.holds b/\∀a0,r.own=δ a0->∃i Q,s.ow=δ i/\L[i]? =δ Q/\Q.own=δ a0:=by
 cases o with
 |ro t l=>
  refine⟨dQ,⟨rfl, ?_⟩,trivial,λa0 u=>by cases u⟩;rw [R];rcases h with⟨id,rfl,k⟩|⟨rfl,rfl⟩|⟨_,id,m,e,cs,rfl,k,J⟩
  ·have k:=k;have E:=E id (by simp [Src.bor]);show Wu b S1 (a id) t l;unfold Hu at k;split at k
   ·rename_i e a0 t2 x u;split at k
    ·rename_i q;obtain rfl:=Ty.kM q;cases k;obtain⟨_,r,c,N⟩:=D.2 id _ u;subst N;refine⟨ρ.eV id c,λd p f=> ?_,ρ.sK id c⟩;have M:x≠[]:=λe=>by rw [e]at d;exact d rfl
     obtain⟨z,_⟩:=ρ.res _ (aG c);rcases z with⟨_,y,_⟩|⟨g,P,Z,y,_⟩
     ·exact absurd y M
     ·rw [f]at y;cases y;exact E _ _ c Z
    ·cases k
   ·rename_i t2 x u;split at k
    ·rename_i q;obtain rfl:=Ty.kM q;cases k;obtain⟨_,r,c,_,B,d,C⟩:=D.2 id _ u;refine⟨B.XB ρ d,λG p f O=> ?_,C⟩;have K:=d G p f;rcases W _ O with A|A
     ·obtain⟨v,U⟩:∃v,(x.flatMap t2.enc)[0]? =δ v:=by
       cases q:x.flatMap t2.enc with
       |nil=>exact absurd q G
       |cons v T=>exact⟨v,rfl⟩
      obtain⟨X,I,F⟩:=B 0 v U;rw [f]at I;cases I;have:=By F;rw [bbw]at this;omega
     ·exact K A
    ·cases k
   ·rename_i m x u;unfold strOf at k;split at k
    ·rename_i q;obtain rfl:=Ty.kM q;cases k;obtain⟨_,r,c,N⟩:=D.2 id _ u;subst N;obtain⟨⟨F,g,cap,P,e,Y,z,Z,y,_⟩,_⟩:=ρ.res _ (aG c);simp only [Value.slice.injEq]at z;refine⟨Rd.jQ (ρ.kJ id c),λG p f=> ?_, ?_⟩
     ·rw [z.1]at f;cases f;exact E _ g c (by simp [iY,Dd,z.1])
     ·show γ x<=(a id).cap;rw [F,z.2.2];exact y
    ·cases k
   ·cases k
  ·exact⟨Rd.nil _ _,λh=>absurd rfl h,cO _⟩
  ·obtain⟨_,r,c,T,rfl,V⟩:=D.2 id _ k;obtain⟨A,_,I⟩:=y7 J;have F:=V.all (sN J);refine⟨?_,λG p f=> ?_,by rw [A];exact eK _⟩
   ·rw [<-I a,<-F];exact ρ.nP id c
   ·cases f;exact E id (by simp [Src.bor]) _ _ c rfl
 |_=>obtain⟨r,k,J,A⟩:=B1 ρ D (ph h (λt l e=>by cases e)) R;exact⟨r,vv k (λt l e=>by cases e),J,A⟩
theorem zK(h:WM ζ a H n s o)(d:s.ow=δ j):
  (s=.o' j ζ/\((∃e cs g,o=.bl e cs/\H[j]? =δ (.bl e g)/\g.map (SC.v a)=cs.map (SC.v n)/\(∀c∈g,c.kn=ζ)/\∀c∈cs,c.kn=ζ)\/(∃e b t l,o=.rw e b t l/\H[j]? =δ (.rw e b t l))\/∃p l m,o=.br p l/\p=aM l/\H[j]? =δ (.br m l)))\/
  ∃m e b t l cs,s=.k' j m ζ/\o=.rw e b t l/\H[j]? =δ (.bl e cs):=by
 cases o with
 |bl e cs=>obtain⟨i,g,rfl,f⟩:=h;cases d;exact .inl ⟨rfl,.inl ⟨e,cs,g,rfl,f⟩⟩
 |rw e b t l=>
  rcases h with⟨i,rfl,f⟩|⟨rfl,_⟩|⟨i,m,cs,rfl,f,_⟩
  ·cases d;exact .inl ⟨rfl,.inr (.inl ⟨e,b,t,l,rfl,f⟩)⟩
  ·cases d
  ·cases d;exact .inr ⟨m,e,b,t,l,cs,rfl,rfl,f⟩
 |ro t l=>rcases h with⟨i,rfl,_⟩|⟨rfl,_⟩|⟨_,i,m,e,cs,rfl,_⟩<;>cases d
 |br p l=>obtain⟨f,i,m,rfl,ρ⟩:=h;cases d;exact .inl ⟨rfl,.inr (.inr ⟨p,l,m,rfl,f,ρ⟩)⟩
 |dd p=>rcases h with⟨_,⟨t,rfl⟩|⟨k,rfl,_⟩⟩<;>cases d
theorem Q7{S0:List Nat}{o3:Ob}(h:tp a n o o3)(f:n c=a j)(u:∀t l,o≠.ro t l)(C:RO w S a j o r):RO b S0 n c o3 r:=by
 cases o with
 |bl e cs=>
  obtain⟨m,rfl,q,A⟩:=h;obtain⟨s,rfl,z,y⟩:=C;have x:aM cs=aM m:=by simpa using aV aM q
  refine⟨s,by rw [f],by rw [z,x],λi B g d=> ?_⟩;have v:=(aD.1 g).1;have k:cs[i]? =δ _:=aO aA0;rw [y i _ k (by rw [A i _ B k g];exact d)];have p:=aV (λl=>l[i]?) q;simp only [bE,k,g]at p;exact p
 |rw e D t l=>subst h;show r=_;rw [f];exact C
 |ro t l=>exact absurd rfl (u t l)
 |br E l=>subst h;show r=_;rw [f];exact C
 |dd E=>subst h;trivial
theorem U8{ss:List Src}(h:ss[j]? =δ s)(b:c∈s.bor):c∈ky ss:=by
 induction ss generalizing j with
 |nil=>simp at h
 |cons x ss a=>
  cases j with
  |zero=>have e:x=s:=aA8;subst e;exact yT _ b
  |succ j=>exact XP _ (a aA8)
def rOf(L:List cB):Option Nat->cB
 |some id=>(L[id]?).getD dQ
 |none=>dQ
variable {l:List SA}
theorem D0{b:List SA}{v:θ}(h:l.map (SA.v a)=b.map (SA.v n))(c:(mA l).v a=δ v):(mA b).v n=δ v:=by
 match l,b,h with
 |[],[],_=>exact c
 |[x],[y],h=>have h:x.v a=y.v n:=aA8;show y.sv.v n=δ v;rw [SA.bx,<-h,<-SA.bx];exact c
 |x::y::l,u::z::b,h=>show δ _=δ v;rw [<-h];exact c
 |[],_::_,h=>simp at h
 |_::_,[],h=>simp at h
 |[_],_::_::_,h=>simp at h
 |_::_::_,[_],h=>simp at h
theorem dh(h:∀v∈l,v.ok j):(mA l).ok j:=by
 match l,h with
 |[],_=>exact λx hx=>by cases hx
 |[x],h=>exact SA.Gq (h x fE)
 |x::y::l,h=>exact λz a=>h z a
section
variable {C:Cx}{md:Md}{w0 w:ν}{S0:List Nat}{ρ:Nat->Ad}{S:St}{F:Nat->θ}{GS:Db}
theorem yv{L:List cB}{S1:List Nat}(d:Gw GS w0 S0)(c:Hp w0 S0 L w)(a:∀b∈S1,w0.heap.size<=b\/b∈S0):Gw GS w S1:=GS.st c d a
theorem kr(hS:Rel C w0 S0 ρ S F w)(hG:Gw GS w0 S0){c:Ct}{k:Nat}(hF:AV C.P GS k c){vs:List SV}{a:(gL c.a).T}{ss:List Src}{y:(iF c.r).T}(h:OD S.H c.a vs=δ (a,ss))(V:nB c S a ss=ζ)(hy:(c.f a).ok y):
  ∃us,vs.map (SV.v ρ)=us.map δ/\CR C.P k us w λv w2=>∃ρ3,∀d:Option Nat,Rel C w0 S0 ρ3 (lP c S d a ss y) (match d with
   |some d=>dV F d v
   |none=>F) w2/\Nx S ρ (lP c S d a ss y) ρ3:=by
 obtain⟨L,hH,hM⟩:=hS.mem;have iX:=zT hS;have d3:=zU hS;unfold nB at V;have V:=iK V;have c0:=nY.1 V.1;have V:=iK V.2;have i2:=tI.1 V.1;have V:=iK V.2;have g1:=V.1;have g5:=V.2;obtain⟨K,h1,h2,h3,h4,h5⟩:=D8 d3 c.a vs a ss [] h;rw [vX]at h1
 let b4:Nat->Ad:=λj=>match ss[j]? with
  |some s=>s.ad ρ
  |none=>⟨ε,ε,0,η,0⟩
 have b1:∀(j:Nat) (s:Src),ss[j]? =δ s->b4 j=s.ad ρ:=λj s p=>by simp only [b4,p]
 obtain⟨⟨us,h6,h7⟩,h8⟩:=h5 ρ b4 (λj s p=>by rw [fT,Ta];exact b1 j s p);refine⟨us,h6, ?_⟩;have l0:=hM.1;let L1:List cB:=ss.map λs=>rOf L s.ow;let Lr:List cB:=(List.range (γ S.H)).map λid=>bif mF id (iG ss)then dQ else(L[id]?).getD dQ;have l9:γ L1=aM ss:=by simp [L1]
 have n2:γ Lr=γ S.H:=by simp [Lr]
 have d5:∀(j:Nat) (r:cB) (b:Nat),L1[j]? =δ r->r.own=δ b->∃s id W,ss[j]? =δ s/\s.ow=δ id/\L[id]? =δ W/\W.own=δ b/\r=W:=by
  intro j r b p O;obtain⟨s,E,A⟩:=map_some p;subst A;cases M:s.ow with
  |none=>rw [M]at O;cases O
  |some id=>
   cases hl:L[id]? with
   |none=>
    have e:rOf L s.ow=dQ:=by rw [M];show(L[id]?).getD dQ=_;rw [hl];rfl
    rw [e]at O;cases O
   |some W=>
    have e:rOf L (δ id)=W:=by show(L[id]?).getD dQ=_;rw [hl];rfl
    rw [M]at O;exact⟨s,id,W,E,M,hl,by rw [<-e];exact O,e⟩
 have e6:Hp w0 S0 (L1++Lr) w:=by
  refine Go.Oe.Hp.pick (ss.map Src.ow++(List.range (γ S.H)).map λid=>bif mF id (iG ss)then ε else δ id) hH (λj r p=> ?_) (λj k i p hk=> ?_)
  ·by_cases G:j<aM ss
   ·rw [aI aA0]at p;refine⟨?_,λb O=> ?_⟩
    ·obtain⟨s,E,A⟩:=map_some p;subst A;cases M:s.ow with
     |none=>trivial
     |some id=>
      show cB.holds ((L[id]?).getD dQ) w;cases hl:L[id]? with
      |none=>trivial
      |some W=>exact(hH.res _ (aG hl)).1
    ·obtain⟨s,id,W,E,A,J,D,rfl⟩:=d5 j r b p O;refine⟨id,r, ?_,J,D⟩;rw [aI (by simpa using G),bE,E];exact aV δ A
   ·rw [aN aA0,l9]at p;have p:((List.range (γ S.H)).map _)[j-aM ss]? =δ r:=p;rw [bE]at p;by_cases X:j-aM ss<γ S.H
    ·rw [cX X]at p;have p:(bif mF (j-aM ss) (iG ss)then dQ else(L[j-aM ss]?).getD dQ)=r:=aJ p;have e8:L[j-aM ss]? =δ (L[j-aM ss]' aA0):=aO aA0;cases hm:mF (j-aM ss) (iG ss)with
     |true=>rw [hm]at p;rw [<-p];exact⟨trivial,λb O=>by cases O⟩
     |false=>rw [hm,e8]at p;have p:L[j-aM ss]=r:=p;rw [<-p];refine⟨(hH.res _ (aG e8)).1,λb O=>⟨j-aM ss,_, ?_,e8,O⟩⟩;rw [aN aA4,Rf,bE,cX X];simp only [WW,hm,aH]
    ·rw [bM (by simpa using yK X)]at p;cases p
  ·have key:∀j,(ss.map Src.ow++(List.range (γ S.H)).map λid=>bif mF id (iG ss)then ε else δ id)[j]? =δ (δ i)->(j<aM ss/\∃s,ss[j]? =δ s/\s.ow=δ i)\/(aM ss<=j/\j-aM ss=i/\i∉iG ss):=by
    intro j p;by_cases G:j<aM ss
    ·rw [aI (by simpa using G),bE]at p;cases R:ss[j]? with
     |none=>rw [R]at p;cases p
     |some s=>rw [R]at p;exact .inl ⟨G,s,rfl,aJ p⟩
    ·rw [aN (by simpa using yK G),Rf,bE]at p;by_cases X:j-aM ss<γ S.H
     ·rw [cX X]at p;have p:(bif mF (j-aM ss) (iG ss)then ε else δ (j-aM ss))=δ i:=aJ p;cases hm:mF (j-aM ss) (iG ss)with
      |true=>rw [hm]at p;cases p
      |false=>rw [hm]at p;have p:j-aM ss=i:=aJ p;refine .inr ⟨aA0,p,λhc=> ?_⟩;rw [<-p]at hc;rw [Wo.2 hc]at hm;cases hm
     ·rw [bM (by simpa using yK X)]at p;cases p
   rcases key j p with⟨E,s,A,J⟩|⟨E,A,J⟩<;>rcases key k hk with⟨D,s2,I,N⟩|⟨D,I,N⟩
   ·exact Ml c0 A J I N
   ·exact absurd (sT A J) N
   ·exact absurd (sT I N) J
   ·omega
 have hX:∀b∈dE L1,w0.heap.size<=b\/b∈S0:=by intro b O;obtain⟨r,hr,e⟩:=nZ O;exact((e6.res r (aR.2 (.inl hr))).2 b e).2
 have hB:∀id∈ky ss,∀(r:cB) (b:Nat),L[id]? =δ r->r.own=δ b->b∉dE L1:=by intro id hid r b hr O hm;obtain⟨r2,k4,e⟩:=nZ hm;obtain⟨j,p⟩:=gD.1 k4;obtain⟨s,m6,W,E,A,J,D,_⟩:=d5 j r2 b p e;have:=G9 hH hr J O D;subst this;exact i2 id hid (sT E A)
 have i3:=e6.hand;have a9:mG c a=K:=h1;have hp:∀j,j<aM K->∃r,(∀o,K[j]? =δ o->RO w (dE L1) b4 j o r)/\r.holds w/\∀b,r.own=δ b->∃W,L1[j]? =δ W/\W.own=δ b:=by intro j p;have M:=aO p;have R:ss[j]? =δ (ss[j]' aA0):=aO aA0;obtain⟨r,E,A,J⟩:=ch (S1:=dE L1) hH hM hX (λid hid=>hB id (U8 R hid)) (h8 j _ _ R M) (b1 j _ R);refine⟨r,λo D=>by rw [M]at D;cases D;exact E,A,λb O=> ?_⟩;obtain⟨i,W,D,I,N⟩:=J b O;refine⟨W, ?_,N⟩;show(ss.map _)[j]? =_;rw [bE,R,WW,D];show δ ((L[i]?).getD dQ)=_;rw [I];rfl
 obtain⟨Lc,l1,g2⟩:=Jr (γ K) hp;have k7:Hp w (dE L1) Lc w:=by
  refine Go.Oe.Hp.pick ((List.range (γ K)).map δ) i3 (λj r p=> ?_) (λj k i p hk=> ?_)
  ·obtain⟨_,E,A⟩:=g2 j r p;refine⟨E,λb O=> ?_⟩;obtain⟨W,J,D⟩:=A b O;have G:=(aD.1 p).1;exact⟨j,W,by rw [bE,cX aA0];rfl,J,D⟩
  ·have key:∀j,((List.range (γ K)).map δ)[j]? =δ (δ i)->j=i:=by
    intro j p;rw [bE]at p;by_cases G:j<aM K
    ·rw [cX G]at p;simpa using p
    ·rw [bM (by simpa using yK G)]at p;cases p
   rw [key j p,key k hk]
 have k8:Mt w (dE L1) b4 (mG c a) Lc:=by rw [a9];refine⟨l1,λj o M=> ?_⟩;have G:=(aD.1 M).1;have R:ss[j]? =δ (ss[j]' aA0):=aO aA0;have hl:Lc[j]? =δ (Lc[j]' aA0):=aO aA0;refine⟨?_,_,hl,(g2 j _ hl).1 o M⟩;rw [b1 j _ R];exact CH iX d3 (h8 j _ _ R M)
 refine(hF w (dE L1) b4 Lc us a y (yv hG hH hX) k7 k8 h7 hy).mono λv w2=> ?_;rintro⟨b8,L2,f9,e5,d1,hv⟩;have c4:=e6.dL e5;have g7:aM ss=aM K:=h2.symm;let ρ3:Nat->Ad:=λid=>if id<γ S.H then ρ id else b8 (aM K+(id-γ S.H));have Q:Up (γ S.H) ρ ρ3:=λid hi=>by simp only [ρ3,hi,iL]
 have l3:∀i,ρ3 (γ S.H+i)=b8 (aM K+i):=λi=>by have e1:¬γ S.H+i<γ S.H:=aA0;have e2:γ S.H+i-γ S.H=i:=aA0;simp only [ρ3,e1,oZ,e2]
 have b2:∀(j:Nat) (s:Src) (i:Nat),ss[j]? =δ s->s.ow=δ i->i<γ S.H:=by intro j s i p hi;have a6:=(aD.1 p).1;have a5:=h8 j s _ p (aO aA0);rcases zK a5 hi with⟨_,⟨e,cs,d4,_,E,_⟩|⟨e,b,t,l,_,E⟩|⟨n,l,m,_,_,E⟩⟩|⟨m,e,b,t,l,cs,_,_,E⟩<;>exact(aD.1 E).1
 have d2:∀(j id:Nat),ss[j]? =δ (.o' id ζ)->ρ3 id=b8 j:=by intro j id p;have a6:=(aD.1 p).1;have hi:=b2 j _ id p rfl;rw [Q id hi,f9 j (by rw [a9];omega),b1 j _ p];rfl
 let EC:=Io (Rk.ids c.r) (mG c a) 0;let EK:=lN (Rk.ids c.r) (jZ [] c.a a).2 0 ss;have i5:EK=lN (Rk.ids c.r) K 0 ss:=by show lN _ (mG c a) 0 ss=_;rw [a9]
 have i6:EC=Io (Rk.ids c.r) K 0:=by show Io _ (mG c a) 0=_;rw [a9]
 have b0:∀(j id:Nat) (s:Src),ss[j]? =δ s->s.ow=δ id->(id∈EK↔j∈EC):=by
  intro j id s p R;have a6:=(aD.1 p).1;rw [i5,i6,Fs,Bp];constructor
  ·rintro⟨j2,o,s2,_,E,A,J,D,I⟩
   rw [jJ]at E A;have c9:s2.ow=δ id:=by
    rw [xG]at I;cases M:s2.ow with
    |none=>rw [M]at I;simp at I
    |some i=>rw [M]at I;simp at I;rw [I]
   have:=Ml c0 p R A c9;subst this;exact⟨o,cO _,by rw [jJ];exact E,J,D⟩
  ·rintro⟨o,_,E,A,J⟩;rw [jJ]at E;exact⟨j,o,s,cO _,by rw [jJ];exact E,by rw [jJ];exact p,A,J,by rw [xG,R];simp⟩
 let rg:List Rg:=lQ c S a ss;have c7:∀{id j:Nat},eY id j (Wm S.H EK)=ζ->eY id j rg=ζ:=λh=>Hv.2 (.inl h)
 have a3:∀id,id∈EK->(wI S.H[id]? =ζ\/∃e cs,S.H[id]? =δ (.bl e cs))/\id∈iG ss:=by
  intro id hid;rw [i5,Fs]at hid;obtain⟨j,o,s,_,E,A,J,D,I⟩:=hid;rw [jJ]at E A;have c9:s.ow=δ id:=by
   rw [xG]at I;cases M:s.ow with
   |none=>rw [M]at I;simp at I
   |some i=>rw [M]at I;simp at I;rw [I]
  refine⟨?_,sT A c9⟩;rcases zK (h8 j s o A E) c9 with⟨_,⟨e,cs,d4,rfl,_⟩|⟨e,b,t,l,_,N⟩|⟨n,l,m,_,_,N⟩⟩|⟨m,e,b,t,l,cs,_,_,N⟩
  ·cases J
  ·left;rw [N];rfl
  ·left;rw [N];rfl
  ·exact .inr ⟨_,_,N⟩
 have h0:PR (γ S.H) (γ K) S.H ρ b8 ρ3 ss rg (kill (mG c a) EC) (kill S.H EK) [] [] 0:=by
  refine⟨by rw [bci,a9];rfl,by rw [bci];rfl,λi o hi=>by omega,λj id o p M=> ?_,λj id m p=> ?_,λid hi hn=> ?_,λid e cs M cc hc=> ?_,λid o M=> ?_,rfl,λv hv=>by cases hv⟩
  ·have a6:=(aD.1 p).1;have hi:=b2 j _ id p rfl;have Y:K[j]? =δ (K[j]' aA0):=aO aA0;have a5:=h8 j _ _ p Y;have hid:=aO hi;have g8:S.H[id].len=(K[j]' aA0).len:=by rw [iX id _ hid,CH iX d3 a5];rfl
   rw [RD,a9,Y]at M;rw [RD,hid];by_cases hE:j∈EC
   ·rw [aB hE]at M;rw [aB ((b0 j id _ p rfl).2 hE)];cases M;refine⟨⟨_,rfl, ?_⟩,λt l e=>by cases e⟩;show Ob.dd _=Ob.dd _;rw [g8]
   ·rw [aA hE]at M;rw [aA (λhh=>hE ((b0 j id _ p rfl).1 hh))];have M:=aJ M;rw [M]at a5 Y;rcases zK a5 rfl with⟨_,⟨e,cs,d4,rfl,E,A,J,D⟩|⟨e,b,t,l,rfl,E⟩|⟨n,l,m,rfl,E,A⟩⟩|⟨m,e,b,t,l,cs,he,_⟩
    ·refine⟨⟨_,rfl,d4,by rw [hid]at E;exact aJ E, ?_,λjj c1 c2 I N=>by rw [D c1 (aG I),J c2 (aG N)]⟩,λt l e=>by cases e⟩;rw [Xx Q (λx hx=>hS.ho id e d4 E x hx),A];refine Xx f9 λx hx=> ?_;have:=h4 j e cs Y x hx;rw [a9];simpa using this
    ·refine⟨⟨_,rfl, ?_⟩,λt l e=>by cases e⟩;rw [hid]at E;exact aJ E
    ·refine⟨⟨_,rfl, ?_⟩,λt l e=>by cases e⟩;have J:=d3 id m l A;rw [hid]at A;show S.H[id]=Ob.br n l;rw [aJ A,E,J]
    ·cases he
  ·have a6:=(aD.1 p).1;have hi:=b2 j _ id p rfl;have Y:K[j]? =δ (K[j]' aA0):=aO aA0;have a5:=h8 j _ _ p Y;obtain⟨g0,e0,o5,l5⟩:wI (δ (K[j]' aA0))=ζ/\∃e cs,S.H[id]? =δ (.bl e cs):=by
    rcases zK a5 rfl with⟨he,_⟩|⟨m,e,b,t,l,cs,_,he,E⟩
    ·cases he
    ·rw [he];exact⟨rfl,e,cs,E⟩
   have g4:j∉Rk.ids c.r:=by
    intro hm;have key:∀r:List Rk,Lt S.H ss r=ζ->j∈Rk.ids r->False:=by
     intro r;induction r with
     |nil=>intro _ h;cases h
     |cons q r ih=>
      intro hq a7;have hq:=iK (show(bif _ then Lt S.H ss r else η)=ζ from hq);cases q with
      |r' x=>exact ih hq.2 a7
      |o' i e x=>
       rcases aP.1 (show j∈i::Rk.ids r from a7)with rfl|a7
       ·have E:=(iK hq.1).2;rw [gV,p]at E;cases E
       ·exact ih hq.2 a7
      |w' i x=>
       rcases aP.1 (show j∈i::Rk.ids r from a7)with rfl|a7
       ·have E:=hq.1;simp only [gV,p]at E;cases E
       ·exact ih hq.2 a7
    exact key c.r g1 hm
   have hE:j∈EC:=by rw [i6,Bp];exact⟨_,cO _,by rw [jJ];exact Y,g0,g4⟩
   rw [RD,aB ((b0 j id _ p rfl).2 hE),l5];rfl
  ·rw [RD,aA (λhE=>hn (a3 id hE).2)]
  ·rw [RD]at M;split at M
   ·cases hg:S.H[id]? with
    |none=>rw [hg]at M;cases M
    |some o=>rw [hg]at M;cases M
   ·exact hS.ho id e cs M cc hc
  ·rw [RD];by_cases hE:id∈EK
   ·rw [aB hE,M];have:=(a3 id hE).1;cases o with
    |bl e cs=>exact .inl λj p=>c7 (Kl M hE p)
    |rw e b t l=>exact .inl (c7 (avu hE))
    |br m l=>exact .inl (c7 (avu hE))
    |ro t l=>rcases this with E|⟨_,_,E⟩<;>rw [M]at E<;>cases E
    |dd n=>rcases this with E|⟨_,_,E⟩<;>rw [M]at E<;>cases E
   ·rw [aA hE,M];cases o with
    |bl e cs=>exact .inr ⟨cs,rfl,rfl,λj cc p=>.inr ⟨cc,p,λhk=>⟨hk,SC.up Q (hS.ho id e cs M cc (aG p))⟩⟩⟩
    |rw e b t l=>exact .inr rfl
    |br m l=>exact .inr rfl
    |ro t l=>rfl
    |dd n=>rfl
 obtain⟨k2,hP⟩:=PR.steps c0 aA0 b2 rfl g7 l3 d2 c.r y _ _ [] [] 0 h0 g1 (λid hid q hq j p=>by
  subst hq;refine Hv.2 (.inr ?_);have key:∀l:List Nat,id∈l->eY id j (AG S.H l)=ζ:=by
   intro l;induction l with
   |nil=>intro h;cases h
   |cons x l ih=>
    intro h;rcases aP.1 h with rfl|h
    ·exact wO.2 ⟨_,fE,rfl,cO _,p⟩
    ·obtain⟨q,E,A⟩:=wO.1 (ih h);exact wO.2 ⟨q,eT _ E,A⟩
  exact key _ hid)
 let U:=(gM (Jv ss) ([],kill S.H EK) c.r y).2;let Hc:=(lZ c a y).2;have m0:γ Hc=aM K+k2:=hP.ec;have i4:γ U=γ S.H+k2:=hP.ek;have n3:γ L2=aM K+k2:=by rw [d1.1];exact m0
 let b9:Nat->Option Nat:=λid=>(List.range (γ ss)).find? λj=>decide ((ss[j]?).bind Src.ow=δ id)
 have d7:∀id j,b9 id=δ j->∃s,ss[j]? =δ s/\s.ow=δ id:=by
  intro id j p;have:=RR p;have E:(ss[j]?).bind Src.ow=δ id:=bU this;cases R:ss[j]? with
  |none=>rw [R]at E;cases E
  |some s=>rw [R]at E;exact⟨s,rfl,E⟩
 have i1:∀id,b9 id=ε->id∉iG ss:=by
  intro id p hm;have key:∀l:List Src,id∈iG l->∃(j:Nat) (s:Src),l[j]? =δ s/\s.ow=δ id:=by
   intro l;induction l with
   |nil=>intro h;cases h
   |cons x l ih=>
    intro h;rcases aR.1 (show id∈x.own++iG l from h)with h|h
    ·refine⟨0,x,rfl, ?_⟩;rw [xG]at h;cases M:x.ow with
     |none=>rw [M]at h;simp at h
     |some i=>rw [M]at h;simp at h;rw [h]
    ·obtain⟨j,s,h1,h2⟩:=ih h;exact⟨j+1,s,by simpa using h1,h2⟩
  obtain⟨j,s,E,A⟩:=key ss hm;have G:=(aD.1 E).1;have:=List.find?_eq_none.1 p j (by simpa using G);rw [E]at this;simp [A]at this
 let src:Nat->Option Nat:=λid=>if id<γ S.H then(match b9 id with
  |some j=>(match U[id]? with
   |some o=>bif FD o then ε else δ j
   |none=>ε)
  |none=>δ (γ L2+id))else δ (aM K+(id-γ S.H))
 have k6:∀id,id<γ U->∃r,(∀o,U[id]? =δ o->o.len=(ρ3 id).ln/\RO w0 S0 ρ3 id o r)/\r.holds w2/\∀b,r.own=δ b->∃i W,src id=δ i/\(L2++Lr)[i]? =δ W/\W.own=δ b:=by
  intro id hid;have M:=aO hid;by_cases G:id<γ S.H
  ·cases p:b9 id with
   |some j=>
    obtain⟨s,E,A⟩:=d7 id j p;have a6:=(aD.1 E).1;cases hd:FD U[id]with
    |true=>
     refine⟨dQ,λo J=>⟨?_, ?_⟩,trivial,λb O=>by cases O⟩
     ·rw [M]at J;cases J;rcases pt A with rfl|⟨m,rfl⟩
      ·have a1:Hc[j]? =δ (Hc[j]' aA0):=aO aA0;obtain⟨⟨o3,D,I⟩,_⟩:=hP.ow j id _ E a1;have D:U[id]? =δ o3:=D;rw [M]at D;have D:=aJ D;rw [D,I.len,d1.lns j _ a1,d2 j id E]
      ·have D:U[id]? =δ (.dd 0):=hP.ok j id m E;have Y:K[j]? =δ (K[j]' aA0):=aO aA0;rcases zK (h8 j _ _ E Y) rfl with⟨he,_⟩|⟨m,e,b,t,l,cs,_,_,I⟩
       ·cases he
       ·rw [M]at D;rw [aJ D,Q id G];have N:=iX id _ I;exact N
     ·rw [M]at J;cases J;cases hx:U[id]<;>rw [hx]at hd<;>first|trivial|cases hd
    |false=>
     rcases pt A with rfl|⟨m,rfl⟩
     ·have a1:Hc[j]? =δ (Hc[j]' aA0):=aO aA0;obtain⟨⟨o3,D,I⟩,e7⟩:=hP.ow j id _ E a1;have D:U[id]? =δ o3:=D;obtain⟨N,r,Z,c6⟩:=d1.2 j _ a1;have he:U[id]=o3:=by rw [M]at D;exact aJ D
      refine⟨r,λo a2=> ?_, ?_,λb O=>⟨j,r, ?_, ?_,O⟩⟩
      ·rw [D]at a2;cases a2;exact⟨by rw [I.len,N,d2 j id E],Q7 I (d2 j id E) e7 c6⟩
      ·exact(e5.res r (aG Z)).1
      ·simp only [src,G,iL,p,M,hd,aH]
      ·rw [aI (aD.1 Z).1];exact Z
     ·have J:U[id]? =δ (.dd 0):=hP.ok j id m E;rw [M]at J;rw [aJ J]at hd;cases hd
   |none=>
    have g6:=i1 id p;have e4:U[id]? =S.H[id]? :=hP.ot id G g6;obtain⟨N,r,Z,c6⟩:=hM.2 id _ (aO G);have k9:Lr[id]? =δ r:=by
     show((List.range (γ S.H)).map _)[id]? =_
     rw [bE,cX G];have hm:mF id (iG ss)=η:=by
      cases hm:mF id (iG ss)with
      |false=>rfl
      |true=>exact absurd (Wo.1 hm) g6
     simp only [WW,hm,aH,Z,HQ]
    have d6:(L2++Lr)[γ L2+id]? =δ r:=by rw [aN aA0,zbM];exact k9
    refine⟨r,λo a2=> ?_,(c4.res r (aG d6)).1,λb O=>⟨γ L2+id,r, ?_,d6,O⟩⟩
    ·rw [e4,aO G]at a2;cases a2;exact⟨by rw [Q id G];exact N,c6.up Q G λe cs he=>hS.ho id e cs (by rw [aO G,he])⟩
    ·simp only [src,G,iL,p]
  ·have hi:id-γ S.H<k2:=by omega
   have a1:Hc[aM K+(id-γ S.H)]? =δ (Hc[aM K+(id-γ S.H)]' aA0):=aO aA0;obtain⟨⟨o3,D,I⟩,e7⟩:=hP.nw (id-γ S.H) _ hi a1;have D:U[γ S.H+(id-γ S.H)]? =δ o3:=D;rw [show γ S.H+(id-γ S.H)=id by omega]at D;have f7:ρ3 id=b8 (aM K+(id-γ S.H)):=by simp only [ρ3,G,oZ]
   obtain⟨N,r,Z,c6⟩:=d1.2 _ _ a1;refine⟨r,λo a2=> ?_,(e5.res r (aG Z)).1,λb O=>⟨aM K+(id-γ S.H),r, ?_, ?_,O⟩⟩
   ·rw [D]at a2;cases a2;exact⟨by rw [I.len,N,f7],Q7 I f7 e7 c6⟩
   ·simp only [src,G,oZ]
   ·rw [aI (aD.1 Z).1];exact Z
 obtain⟨L3,l2,g3⟩:=Jr (γ U) k6;have m1:Hp w0 S0 L3 w2:=by
  refine Go.Oe.Hp.pick ((List.range (γ U)).map src) c4 (λid r p=> ?_) (λx z i hx hz=> ?_)
  ·obtain⟨_,E,A⟩:=g3 id r p;refine⟨E,λb O=> ?_⟩;obtain⟨i,W,J,D⟩:=A b O;have G:=(aD.1 p).1;exact⟨i,W,by rw [bE,cX aA0];exact aV δ J,D⟩
  ·have key:∀x,((List.range (γ U)).map src)[x]? =δ (δ i)->x<γ U/\src x=δ i:=by intro x hx;obtain⟨q,E,A⟩:=map_some hx;have G:=(aD.1 E).1;rw [List.length_range]at G;rw [cX G]at E;have e:=aJ E;subst e;exact⟨G,A⟩
   have cl:∀x,x<γ U->src x=δ i->(∃s:Src,i<aM ss/\ss[i]? =δ s/\s.ow=δ x)\/i=γ L2+x\/(¬x<γ S.H/\i=aM K+(x-γ S.H)):=by
    intro x hx R;by_cases G:x<γ S.H
    ·simp only [src,G]at R;cases p:b9 x with
     |none=>rw [p]at R;exact .inr (.inl (aJ R).symm)
     |some j=>
      rw [p]at R;obtain⟨s,E,A⟩:=d7 x j p;have a6:=(aD.1 E).1;rw [aO hx]at R;simp only at R;cases hd:FD U[x]with
      |true=>rw [hd]at R;cases R
      |false=>rw [hd]at R;have e:j=i:=aJ R;subst e;exact .inl ⟨s,a6,E,A⟩
    ·simp only [src,G]at R;exact .inr (.inr ⟨G,(aJ R).symm⟩)
   obtain⟨k3,k1⟩:=key x hx;obtain⟨k0,j9⟩:=key z hz;rcases cl x k3 k1 with⟨s,E,A,J⟩|E|⟨E,A⟩<;>rcases cl z k0 j9 with⟨s2,D,I,N⟩|D|⟨D,I⟩
   ·rw [A]at I;cases I;rw [J]at N;exact aJ N
   all_goals omega
 have l7:Mt w0 S0 ρ3 U L3:=by refine⟨l2,λid o M=> ?_⟩;have G:=(aD.1 M).1;have hl:L3[id]? =δ (L3[id]' aA0):=aO aA0;have:=(g3 id _ hl).1 o M;exact⟨this.1,_,hl,this.2⟩
 let B:St:=⟨S.F,U,S.nb,S.al,rg++S.m⟩
 have i7:Rel C w0 S0 ρ3 B F w2:=by
  refine⟨λg id hg=> ?_,λt u hu=> ?_,λt=> ?_,λid e cs M c hc=> ?_,⟨L3,m1,l7⟩⟩
  ·obtain⟨E,A⟩:=hS.gl g id hg;exact⟨by show id<γ U;omega,by rw [Q id E];exact A⟩
  ·have hu:(S.at t).v ρ3=δ u:=hu;rw [SV.up Q (hS.fo t)]at hu;exact hS.fr t u hu
  ·exact SV.cN (hS.fo t) (by show γ S.H<=γ U;omega)
  ·show c.ok (γ U);rw [i4];exact hP.ho id e cs M c hc
 have b5:Nx S ρ B ρ3:=by
  have g9:∀nb al,(∀id j,id<nb->eY id j rg=ζ->eY id j al=ζ)->Le nb al ρ S.H ρ3 B.H:=λnb al l6=>
   ⟨by show γ S.H<=γ U;omega,Q,λid o hi M=>(hP.kp id o M).mono λj hc=>l6 id j hi hc⟩
  exact⟨⟨rfl,rfl,g9 _ _ λid j hi hc=>Ae g5 hi hc⟩,g9 _ _ λid j _ hc=>Hv.2 (.inl hc),λid j hc=>Hv.2 (.inr hc)⟩
 refine⟨ρ3,λd=> ?_⟩;have l4:lP c S d a ss y=B.xB d (mA (gM (Jv ss) ([],kill S.H EK) c.r y).1):=rfl;rw [l4];cases d with
 |none=>exact⟨i7,b5⟩
 |some d=>refine⟨lq i7 (D0 hP.vl hv) (dh λv hv=> ?_),⟨⟨b5.nb,b5.al,b5.le⟩,b5.lg,b5.mm⟩⟩;show v.ok (γ U);rw [i4];exact hP.vo v hv
end
open Go.Wk
open Go.Ce (Tr)
open Nat renaming blt → gA, succ → rY
structure Env (C:Cx) (md:Md) (w0:ν) (S0:List Nat) (GS:Db):Prop where
 e:EOk C
 n:C.nn=md.n
 g:Gw GS w0 S0
 x:∀k,∀c∈C.X k,Enters C.P k/\AV C.P GS k c
inductive WO (C:Cx) (ops:List ψ) (S:St) (o:ψ):Bool->Prop
 |none (h:o.guard=ε):WO C ops S o ζ
 |yes (q:Nat×Bool) (dg:Nat) (h:o.guard=δ q) (h1:GA ops q.1=δ dg) (h2:gA dg C.nn=ζ) (h3:S.at dg=.c' (.b' q.2)):WO C ops S o ζ
 |no (q:Nat×Bool) (dg:Nat) (h:o.guard=δ q) (h1:GA ops q.1=δ dg) (h2:gA dg C.nn=ζ) (h3:S.at dg=.c' (.b' (!q.2))):WO C ops S o η
 |un (q:Nat×Bool) (dg:Nat) (h:o.guard=δ q) (h1:GA ops q.1=δ dg) (h2:gA dg C.nn=ζ) (h3:S.at dg=.n'):WO C ops S o η
inductive Tv:SV->Bool->Prop
 |b (x:Bool):Tv (.c' (.b' x)) x
 |d (p:Prop) (h:Decidable p):Tv (.c' (.d' p h)) (@decide p h)
 |e (p:Prop) (h:Decidable p):Tv (.c' (.e' p h)) (!@decide p h)
variable {v:SV}
theorem tv_v{b:Bool}(h:Tv v b)(ρ:Nat->Ad):v.v ρ=δ (.bool b):=by cases h<;>rfl
theorem brB_tv{T:Type}{y n:Option T}{r:T}(h:U7 v y n=δ r):∃b,Tv v b/\(b=ζ->y=δ r)/\(b=η->n=δ r):=by
 unfold U7 at h;split at h
 ·rename_i x;exact⟨x,.b x,λe=>by subst e;exact h,λe=>by subst e;exact h⟩
 ·rename_i p a;refine⟨_,.d p a,λe=> ?_,λe=> ?_⟩
  ·rw [aB (bU e)]at h;exact h
  ·rw [aA (fY e)]at h;exact h
 ·rename_i p a;refine⟨_,.e p a,λe=> ?_,λe=> ?_⟩
  ·have:¬p:=by simpa using e
   rw [aA this]at h;exact h
  ·have:p:=by simpa using e
   rw [aB this]at h;exact h
 ·cases h
structure tq (C:Cx) (S:St) (o:ψ) (S2:St):Prop where
 ex:∃(cal:Call) (f:π) (k:Nat) (ids:List Nat) (c:Ct) (a:(gL c.a).T) (ss:List Src) (y:(iF c.r).T),o.op=.call cal/\cal.callee=.value f/\S.ev C f=.c' (.f' k ids)/\c∈C.X k/\
  OD S.H c.a (cal.args.toList.map (S.ev C)++VU ids)=δ (a,ss)/\nB c S a ss=ζ/\(c.f a).ok y/\S2=lP c S o.dst a ss y
inductive IH (C:Cx) (ops:List ψ) (S:St) (o:ψ):St->Prop
 |op (hg:WO C ops S o ζ) (ro:Ro) (h:jC C (S.ev C) S.H o.op=δ ro) (ha:Iy ro.g) (hd:Pd o.dst ro.v=ζ) (hm:S.Gu ro.m=ζ):IH C ops S o (St.xB ⟨S.F,ro.H,S.nb,S.al,ro.m++S.m⟩ o.dst ro.v)
 |mv (hg:WO C ops S o ζ) (x:π) (d:Nat) (b:Bool) (hx:L7 o.op=δ x) (hd:o.dst=δ d) (hb:Tv (S.ev C x) b):IH C ops S o (S.set d (.c' (.b' b)))
 |skip (hg:WO C ops S o η) (d:Nat) (hd:o.dst=δ d):IH C ops S o (S.set d .n')
 |call (hg:WO C ops S o ζ) (S2:St) (h:tq C S o S2):IH C ops S o S2
section
variable {C:Cx}{ρ':Ty}
theorem Pr{S:St}{d:Option Nat}{vs:List SV}{g:St->Option ρ'.T}{r:ρ'.T}:∀{l:List Ct},mQ S d vs g l=δ r->∃c∈l,∃a ss y,OD S.H c.a vs=δ (a,ss)/\nB c S a ss=ζ/\(c.f a).ok y/\g (lP c S d a ss y)=δ r
 |[],h=>by cases h
 |c::l,h=>by
  simp only [mQ]at h;split at h
  ·rename_i a ss i;have h:=dK h;obtain⟨y,e,b⟩:=Gv.lf h.2;exact⟨c,fE,a,ss,y,i,h.1,e,b⟩
  ·obtain⟨j,e,b⟩:=Pr h;exact⟨j,eT _ e,b⟩
theorem P5{v:SV}{q:Nat×List Nat}(h:fnV v=δ q):v=.c' (.f' q.1 q.2):=by
 unfold fnV at h;split at h
 ·cases h;rfl
 ·cases h
variable {d:List ψ}{S:St}{o:ψ}{q:St->Option ρ'.T}{r:ρ'.T}
theorem CS(s:WO C d S o ζ)(h:da C S o.dst o.op q=δ r):∃S2,IH C d S o S2/\q S2=δ r:=by
 unfold da at h;split at h
 ·rename_i g v H m b;split at h
  ·rename_i S2 i;have i:=dK i;have e:=dK i.2;cases e.2;obtain⟨n,l⟩:=Ot h;exact⟨_,.op s _ b n i.1 e.1,l⟩
  ·cases h
 ·split at h
  ·rename_i p b;split at h
   ·rename_i f w;split at h
    ·rename_i k j u;obtain⟨c,n,a,t,y,l,A,z,x⟩:=Pr h;exact⟨_,.call s _ ⟨p,f,k,j,c,a,t,y,b,w,P5 u,n,l,A,z,rfl⟩,x⟩
    ·cases h
   ·cases h
  ·cases h
variable {i:Nat}
theorem CQ(c:WO C d S o ζ)(h:cz C d i S o q=δ r):∃S2,IH C d S o S2/\q S2=δ r:=by
 unfold cz at h;cases f:isG d i with
 |false=>rw [f]at h;exact CS c h
 |true=>
  rw [f]at h;split at h
  ·rename_i x hx;split at h
   ·rename_i a g;obtain⟨b,l,k,j⟩:=brB_tv h;refine⟨_,.mv c x a b hx g l, ?_⟩;cases b with
    |true=>exact k rfl
    |false=>exact j rfl
   ·cases h
  ·exact CS c h
theorem CP(h:TB C d i S o q=δ r):∃S2,IH C d S o S2/\q S2=δ r:=by
 unfold TB at h;split at h
 ·rename_i m;exact CQ (.none m) h
 ·rename_i g j;split at h
  ·rename_i dg c;have h:=dK h;have a:=h.2;split at a
   ·rename_i x hx;cases f:beqB x g.2 with
    |true=>
     rw [f]at a;have e:x=g.2:=by cases x<;>cases b:g.2<;>rw [b]at f<;>first|rfl|cases f
     rw [e]at hx;exact CQ (.yes g dg j c h.1 hx) a
    |false=>
     rw [f]at a;have e:x= !g.2:=by cases x<;>cases b:g.2<;>rw [b]at f<;>first|rfl|cases f
     rw [e]at hx;split at a
     ·rename_i l k;exact⟨_,.skip (.no g dg j c h.1 hx) l k,a⟩
     ·cases a
   ·rename_i hx;split at a
    ·rename_i l k;exact⟨_,.skip (.un g dg j c h.1 hx) l k,a⟩
    ·cases a
   ·cases a
  ·cases h
end
section
variable {C:Cx}{md:Md}{w0 w:ν}{S0:List Nat}{ρ:Nat->Ad}{S:St}{F:Nat->θ}{GS:Db}
variable {a:Array ψ}{g:Nat}
theorem Oq{dg:Nat}(h:GA a.toList g=δ dg):(a[g]?).bind (·.dst)=δ dg:=by
 unfold GA at h;rw [gV]at h;cases b:a[g]? with
 |none=>rw [show a.toList[g]? =ε by simpa using b]at h;cases h
 |some o=>rw [show a.toList[g]? =δ o by simpa using b]at h;exact h
theorem MX(c:C.nn=md.n)(d:Rel C w0 S0 ρ S F w):∀{l:List π} {r:List (Option θ)} {a:List θ},(l.map (S.ev C)).map (SV.v ρ)++r=a.map δ->∃b,a=l.map (aZ md F)++b/\r=b.map δ
 |[],r,a,h=>⟨a,rfl,h⟩
 |x::l,r,a,h=>by
  cases a with
  |nil=>cases h
  |cons u a=>simp only [yS,Kg,cU]at h;obtain⟨b,f,e⟩:=MX c d h.2;refine⟨b, ?_,e⟩;rw [f,yS,Kg,(Sl d c x).2 u h.1]
theorem T9:∀a,(VU a).map (SV.v ρ)=(a.map λid=>jH (ρ id).b 0).map δ
 |[]=>rfl
 |id::a=>by show δ _::(VU a).map _=_;rw [T9 a];rfl
theorem Al{c:Type}:∀{a b:List c},a.map δ=b.map δ->a=b
 |[],[],_=>rfl
 |[],_::_,h=>by cases h
 |_::_,[],h=>by cases h
 |x::a,y::b,h=>by simp at h;rw [h.1,Al h.2]
variable {o:ψ}
theorem HM(hE:Env C md w0 S0 GS){S2:St}(h:IH C a.toList S o S2)(B:Rel C w0 S0 ρ S F w)(Q:Exit->Act->ν->Prop)(l:List ψ)
  (T:∀D F2 G,Rel C w0 S0 D S2 F2 G->Nx S ρ S2 D->(∀t,o.dst≠δ t->F2 t=F t)->(∀d,o.guard=ε->o.dst=δ d->nA o.op=ζ->∃w3,(ξ (aZ md F) o).run C.P w=.ok (.value (F2 d)) w3)->W C.P md a Q l F2 G):W C.P md a Q (o::l) F w:=by
 have L:=hE.n;obtain⟨p,op,Z,pos,after,gd⟩:=o;have N:WO C a.toList S ⟨p,op,Z,pos,after,gd⟩ ζ->W C.P md a Q (⟨p,op,Z,pos,after,ε⟩::l) F w->W C.P md a Q (⟨p,op,Z,pos,after,gd⟩::l) F w:=by
  intro A V;cases A with
  |none h=>have h:gd=ε:=h;subst h;exact V
  |yes q dg h z r E=>have h:gd=δ q:=h;subst h;obtain⟨g,b⟩:=q;exact IV dg (Oq z) (by rw [<-L];exact r) (B.fr dg (.bool b) (by rw [E];rfl)) V
 cases h with
 |op A ro h ha u hm=>refine N A (cf hE.e L B h ha hm u a Q l λD F2 G z r E h4=>T D F2 G z r E λd j M hp=> ?_);have j:gd=ε:=j;subst j;exact h4 d M hp
 |mv A x d b hx u hb=>
  have u:p=δ d:=u;subst u;obtain⟨z,r⟩:=Sl B L x;have R:aZ md F x=.bool b:=r _ (tv_v hb ρ);refine N A ?_;have s:Rel C w0 S0 ρ (S.set d (.c' (.b' b))) (dV F d (.bool b)) w:=lq B rfl (λi hi=>by cases hi);have H:(ξ (aZ md F) (⟨δ d,op,Z,pos,after,ε⟩:ψ)).run C.P w=.ok (.value (.bool b)) w:=by
   cases op<;>first|cases hx|skip
   ·rw [<-R];rfl
   ·rw [<-R];rfl
  refine gN rfl rfl H (T ρ _ w s ⟨⟨rfl,rfl,Le.refl⟩,Le.refl,λ_ _ h=>h⟩ RB λd2 j M _=>⟨w, ?_⟩);have j:gd=ε:=j;subst j;cases M;rw [lz];exact H
 |skip A d u=>
  have u:p=δ d:=u;subst u;have s:Rel C w0 S0 ρ (S.set d .n') (dV F d undef) w:=lq B rfl trivial;have V:=T ρ _ w s ⟨⟨rfl,rfl,Le.refl⟩,Le.refl,λ_ _ h=>h⟩ RB (λd2 j _ _=>by cases A<;>(rename_i h _ _ _;rw [h]at j;cases j));cases A with
  |no q dg h z r E=>have h:gd=δ q:=h;subst h;obtain⟨g,b⟩:=q;exact oy dg (Oq z) (by rw [<-L];exact r) (B.fr dg (.bool (!b)) (by rw [E];rfl)) V
  |un q dg h z r E=>have h:gd=δ q:=h;subst h;obtain⟨g,b⟩:=q;exact ox dg (Oq z) (by rw [<-L];exact r) (B.fr dg undef (by rw [E];rfl)) V
 |call A _ h=>
  obtain⟨Y,f,k,O,c,m,ss,y,K,hf,a5,hc,hr,a4,hy,rfl⟩:=h;have K:op=.call Y:=K;subst K;obtain⟨callee,gK,ts⟩:=Y;have hf:callee=.value f:=hf;subst hf;refine N A ?_;obtain⟨X,hF⟩:=hE.x k c hc;obtain⟨us,z,r⟩:=kr B hE.g hF hr a4 hy;rw [AY,T9]at z;obtain⟨u2,E,h4⟩:=MX L B z;have h5:=Al h4;have U:aZ md F f=.func (.func k) #[] (O.map λid=>jH (ρ id).b 0).toArray:=(oT B L a5).2;have ha: #[]++gK.map (aZ md F)++(O.map λid=>jH (ρ id).b 0).toArray=us.toArray:=by rw [E,<-h5];apply Array.toList_inj.1;simp
  cases p with
  |none=>refine av k _ us _ X U ha r λv G J=> ?_;obtain⟨I,J⟩:=J;obtain⟨h6,h7⟩:=J ε;exact T I F G h6 h7 (λ_ _=>rfl) (λd _ u=>by cases u)
  |some d=>refine pA k _ us _ X U ha r λv G J=> ?_;obtain⟨I,J⟩:=J;obtain⟨h6,h7⟩:=J (δ d);exact T I _ G h6 h7 RB (λd2 _ _ hp=>by cases hp)
theorem zD{l:List ψ}:g∈Gj (o::l)↔o.dst=δ g\/g∈Gj l:=by
 simp only [Gj];cases a:o.dst with
 |none=>simp
 |some d=>simp;exact or_congr_left ⟨λh=>h.symm,λh=>h.symm⟩
theorem Ed{t:Nat}:∀{l:List π},t∈Ac l↔Operand.tmp t∈l
 |[]=>by simp [Ac]
 |x::l=>by cases x<;>simp [Ac,Ed]
def RanL(C:Cx)(md:Md)(a:List ψ)(e:Nat)(F:Nat->θ):Prop:=∀(i d:Nat) o,e<=i->H6 a i=ζ->a[i]? =δ o->o.dst=δ d->∃c b,(ξ (aZ md F) o).run C.P c=.ok (.value (F d)) b
theorem E8{op:Op}(h:nA op=ζ):∀cs b,op≠.select cs b:=λcs b e=>by subst e;cases h
theorem Q5{F2:Nat->θ}{x:π}(h:∀t,x=.tmp t->F2 t=F t):aZ md F2 x=aZ md F x:=by
 cases x with
 |tmp t=>simp only [aZ,h t rfl]
 |_=>rfl
theorem Yq(R:Env C md w0 S0 GS){a:Array ψ}{ρ':Ty}{B:St->Option ρ'.T}{r:ρ'.T}{Q:Exit->Act->ν->Prop}:∀l i S ρ F w,l=a.toList.drop i->TR C a.toList l i S B=δ r->Rel C w0 S0 ρ S F w->
  (∀S2 e F2 u,B S2=δ r->Rel C w0 S0 e S2 F2 u->Nx S ρ S2 e->(∀t,t∉Gj l->F2 t=F t)->RanL C md a.toList i F2->Q .normal (fr md F2) u)->W C.P md a Q l F w
 |[],i,S,ρ,F,w,y,h,K,D=>kS (D S ρ F w h K Nx.refl (λ_ _=>rfl) (λj d o hj _ n _=>by have:a.toList.drop i=[]:=y.symm;rw [List.drop_eq_nil_iff]at this;have:=(aD.1 n).1;omega))
 |o::l,i,S,ρ,F,w,y,h,K,D=>by
  obtain⟨S2,h1,h2⟩:=CP (show TB C a.toList i S o (λS2=>TR C a.toList l (rY i) S2 B)=δ r from h);have m:a.toList[i]? =δ o:=by have:=aV (λl=>l[0]?) y;simpa using this.symm
  have p:l=a.toList.drop (i+1):=by have:=aV List.tail y;simpa using this
  refine HM R h1 K Q l λe F2 u J hN O hp=>Yq R l (i+1) S2 e F2 u p h2 J λS3 A V Y h3 I L f k=> ?_;refine D S3 A V Y h3 I (hN.trans L) (λt g=> ?_) (λj d Z hj b n z=> ?_)
  ·rw [zD]at g;rw [f t (λc=>g (.inr c)),O t (λc=>g (.inl c))]
  ·by_cases E:j=i
   ·subst E;rw [m]at n;cases n
    unfold H6 at b;rw [gV,m]at b;simp only [z]at b;have N:=iK b;have M:=iK N.2;have s:=M.2;have G:o.guard=ε:=by
     cases hg:o.guard with
     |none=>rfl
     |some q=>rw [hg]at N;cases N.1
    rw [oC,<-p]at s;cases v:mF d (Gj l)with
    |true=>rw [v]at s;cases s
    |false=>
     rw [v]at s;have h7:=tI.1 s;obtain⟨X,h8⟩:=hp d G z M.1;have H:V d=F2 d:=f d λc=>by rw [Wo.2 c]at v;cases v
     refine⟨w,X, ?_⟩;rw [H,execOp_congr o (E8 M.1) (ρ':=aZ md F) λx hx=> ?_]
     ·exact h8
     ·refine Q5 λt g=> ?_;subst g;have U:=h7 t (Ed.2 aD7);rw [f t (λc=>U (eT _ c)),O t (λc=>U (by rw [z]at c;cases c;exact fE))]
   ·exact k j d Z aA0 b n z
theorem TE(m:Env C md w0 S0 GS):Y1 C md w0 S0 g a η:=by intro ρ' S x r ρ F w Q h l y;have k:=Yq m a.toList 0 S ρ F w aA2 h l λu b v e t s q p n=>y u b v e t s q p λi d o c f j=>n i d o (cO _) c f j;exact LP k
end
open Go.Wk
open Go.Ce (Tr)
open Go.Op renaming operands → mL
open Nat renaming beq → cV
section
variable {C:Cx}{ev XC:π->SV}
theorem tH{sz:Nat->Option (Nat×Nat)}:∀{a:List (Nat×π)} {l:List SC},(∀p∈a,ev p.2=XC p.2)->Hj sz ev a l=Hj sz XC a l
 |[],l,h=>rfl
 |p::a,l,h=>by
  simp only [Hj];rw [h p fE];split
  ·split
   ·rw [tH λq b=>h q (eT _ b)]
   ·rfl
  ·rfl
variable {l:List π}
theorem map_congr(h:∀x∈l,ev x=XC x):l.map ev=l.map XC:=Y9 h
variable {H:List Ob}
theorem U9{b:Builtin}{a:List Nat}(h:∀x∈l,ev x=XC x):LZ C ev H b l a=LZ C XC H b l a:=by
 match l with
 |[]=>cases b<;>rfl
 |[x]=>
  have e:=h x aA2;cases b<;>simp only [LZ]
  ·match a with
   |[]=>rfl
   |[t]=>simp only [e]
   |_::_::_=>rfl
 |[x,y]=>have e:=h x aA2;have c:=h y aA2;cases b<;>first|(rcases a with _|⟨t,_|⟨t2,_|⟨t3,a⟩⟩⟩<;>simp only [LZ,e,c];done)|simp only [LZ,e,c]
 |_::_::_::_=>cases b<;>rfl
theorem Uc{op:Op}(h:∀x∈op.operands,ev x=XC x):jC C ev H op=jC C XC H op:=by
 cases op<;>first|rfl|skip
 case move x=>simp only [jC,h x aB1]
 case assign x=>simp only [jC,h x aB1]
 case pick c a b=>simp only [jC,h c aB1,h a aB1,h b aB1]
 case binOp b t x y t'=>simp only [jC,h x aB1,h y aB1]
 case unOp u t x=>cases u<;>first|rfl|simp only [jC,h x aB1]
 case convert s t x=>simp only [jC,h x aB1]
 case index t x g=>simp only [jC,h x aB1,h g aB1]
 case slice t x r o q=>
  cases q with
  |some m=>rfl
  |none=>
   have e:=h x aB1;cases r with
   |none=>cases o with
    |none=>simp only [jC,If,e]
    |some j=>simp only [jC,If,e,h j aB1]
   |some i=>cases o with
    |none=>simp only [jC,If,e,h i aB1]
    |some j=>simp only [jC,If,e,h i aB1,h j aB1]
 case extract x i=>simp only [jC,h x aB1]
 case field t x f=>simp only [jC,h x aB1]
 case box e x=>simp only [jC,h x aB1]
 case load t x=>simp only [jC,h x aB1]
 case store t x y=>simp only [jC,h x aB1,h y aB1]
 case fieldAddr t x f=>simp only [jC,h x aB1]
 case indexAddr t x g=>simp only [jC,h x aB1,h g aB1]
 case nilCheck x=>simp only [jC,h x aB1]
 case makeSlice t x y=>simp only [jC,h x aB1,h y aB1]
 case build t d=>
  have e:∀p∈d.toList,ev p.2=XC p.2:=λp k=>h p.2 (by simp only [mL,List.mem_toArray,cJ];exact⟨p,k,rfl⟩);simp only [jC,Jn];split
  ·rw [tH e]
  ·rfl
 case buildSlice t n d=>
  have e:∀p∈d.toList,ev p.2=XC p.2:=λp k=>h p.2 (by simp only [mL,List.mem_toArray,cJ];exact⟨p,k,rfl⟩);simp only [jC,ari];split
  ·split
   ·rw [tH e]
   ·rfl
  ·rfl
 case makeFunc f a b=>
  have e:b.toList.map ev=b.toList.map XC:=map_congr λx hx=>h x (by simp only [mL,yQ];exact .inr aD7);simp only [jC,Ys,e]
 case call c=>
  obtain⟨callee,gK,l⟩:=c;cases callee<;>first|rfl|skip
  rename_i b;show LZ C ev H b gK.toList l.toList=LZ C XC H b gK.toList l.toList;exact U9 λx hx=>h x (by simp only [mL,Call.operands,yQ];exact .inr aD7)
end
def nr(H H2:List Ob)(a:List Nat):Prop:=∀id∈a,∀o,fU H id=δ o->fU H2 id=δ o
section
variable {C:Cx}{ev:π->SV}{H H2:List Ob}
variable {a:Ro}
theorem Gt{r:Rv}(h:Ly H r=δ a):a.H=H/\a.m=[]/\Ly H2 r=δ ⟨a.g,a.v,H2,[]⟩:=by obtain⟨g,v,c,rfl⟩:=IE h;rw [c];exact⟨rfl,rfl,rfl⟩
theorem mW{r:Option SV}(h:nJ H r=δ a):a.H=H/\a.m=[]/\nJ H2 r=δ ⟨a.g,a.v,H2,[]⟩:=by obtain⟨v,c,rfl⟩:=W3 h;rw [c];exact⟨rfl,rfl,rfl⟩
variable {b:Ty}{t m:Nat}{l:List b.T}
theorem Yo{j:Int}{n:Nat}{c:Bool}(h:sR H b l j t m n c=δ a):a.H=H/\a.m=[]/\sR H2 b l j t m n c=δ ⟨a.g,a.v,H2,[]⟩:=by
 unfold sR at h⊢;split at h
 ·rename_i v d;have h:=dK h;cases h.2;simp only [h.1,aQ,and_self]
 ·cases h
variable {x:SC}
theorem xx(h:lJ C H t x=δ a)(p:nr H H2 (Wg (.c' x))):a.H=H/\a.m=[]/\lJ C H2 t x=δ ⟨a.g,a.v,H2,[]⟩:=by
 unfold lJ at h⊢;split at h
 ·rename_i n c g y;cases o:cV n 0 with
  |true=>rw [o]at h;cases h
  |false=>
   rw [o]at h;split at h
   ·rename_i id off;split at h
    ·rename_i e cs f;rw [p id aF1 _ f];exact mW h
    ·cases h
   ·rename_i id j i off;have key:=p id aF1;split at h
    ·rename_i e b t' l f;rw [key _ f];exact Yo h
    ·rename_i t' l f;rw [key _ f];simp only;cases d:sR H t' l j i off n c with
     |some r=>rw [d]at h;cases h;obtain⟨w,u,s⟩:=Yo d;rw [s];exact⟨w,u,rfl⟩
     |none=>
      rw [d]at h;have e:sR H2 t' l j i off n c=ε:=by
       unfold sR at d⊢;split
       ·rename_i v q;rw [q]at d;cases k:(bif CB i j t' then t'.flat else η)with
        |true=>rw [k]at d;cases d
        |false=>rfl
       ·rfl
      rw [e];have h:Km H t' l j off n c=δ a:=h;unfold Km at h⊢;split at h
      ·have h:=dK h;simp only [h.1];exact mW h.2
      ·cases h
    ·rename_i m l f;rw [key _ f];exact Yo h
    ·cases h
   ·cases h
 ·cases h
theorem xz(h:UF H t=δ m)(b:∀o,fU H t=δ o->fU H2 t=δ o):UF H2 t=δ m:=by
 unfold UF at h⊢;split at h
 ·rename_i a;rw [b _ a];exact h
 ·rename_i a;rw [b _ a];exact h
 ·rename_i a;rw [b _ a];exact h
 ·cases h
theorem ixa_H{b:SC}(h:sw C H t x b=δ a)(k:nr H H2 (Wg (.c' x))):a.H=H/\a.m=[]/\sw C H2 t x b=δ ⟨a.g,a.v,H2,[]⟩:=by
 unfold sw at h⊢;split at h
 ·rename_i j o;split at h
  ·rename_i e l;split at h
   ·rename_i f g;split at h
    ·rename_i id;split at h
     ·rename_i m i;cases h;rw [xz i (k id aF1)];exact⟨rfl,rfl,rfl⟩
     ·cases h
    ·cases h;exact⟨rfl,rfl,rfl⟩
    ·cases h
   ·cases h
  ·rename_i l;split at h
   ·rename_i q n;split at h
    ·rename_i f g;split at h
     ·have h:=dK h;cases h.2;simp only [h.1,aQ,and_self]
     ·have h:=dK h;have d:=dK h.2;have c:=dK d.2;cases c.2;simp only [h.1,d.1,c.1,aQ,and_self]
     ·cases h
    ·cases h
   ·cases h
 ·cases h
theorem cont_H(h:wH H b x=δ l)(t:nr H H2 (Wg (.c' x))):wH H2 b x=δ l:=by
 unfold wH at h⊢;split at h
 ·exact h
 ·rename_i id;have key:=t id aF1;cases a:fU H id with
  |none=>rw [a]at h;cases h
  |some o=>rw [a]at h;rw [key o a];exact h
 ·rename_i id m;have key:=t id aF1;split at h
  ·rename_i e cs a;rw [key _ a];exact h
  ·cases h
 ·cases h
theorem yg(h:(!FB C t)=ζ):SR C t=ε:=by
 unfold FB at h;unfold SR;split at h
 ·cases h
 ·rfl
theorem conS_H(d:(!FB C m)=ζ)(h:AB C H t m x=δ a)(i:nr H H2 (Wg (.c' x))):a.H=H/\a.m=[]/\AB C H2 t m x=δ ⟨a.g,a.v,H2,[]⟩:=by
 have s:=yg d;unfold AB at h⊢;split at h
 ·rename_i e j;have h:=dK h;have c:=dK h.2;have b:=c.2;simp only [h.1,c.1];split at b
  ·rename_i l f;cases b;rw [cont_H f i];exact⟨rfl,rfl,rfl⟩
  ·cases b
 ·cases x with
  |s' l=>simp only [s]at h⊢;exact Gt h
  |_=>exact Gt h
theorem ya{r:List PD×SV}(h:Yz C H t x=δ r)(b:nr H H2 (Wg (.c' x))):Yz C H2 t x=δ r:=by
 unfold Yz at h⊢;split at h
 ·exact h
 ·split at h
  ·rename_i e c;split at h
   ·rename_i id _;cases a:fU H id with
    |none=>rw [a]at h;cases h
    |some o=>rw [a]at h;rw [b id aF1 o a];exact h
   ·exact h
   ·exact h
   ·cases h
  ·cases h
theorem Vo{x:π}{id:Nat}(hid:id∈Wg (ev x)):∀{l:List π},x∈l->id∈GC ev l
 |y::l,h=>by
  rcases aP.1 h with rfl|h
  ·exact yT _ hid
  ·exact XP _ (Vo hid h)
theorem Ji{op:Op}{ro:Ro}(l:Dw C op=ζ)(h:jC C ev H op=δ ro)(o:nr H H2 (Vn ev op)):ro.H=H/\ro.m=[]/\jC C ev H2 op=δ ⟨ro.g,ro.v,H2,[]⟩:=by
 cases op<;>first|cases l|skip
 case move x=>exact mW h
 case assign x=>exact mW h
 case pick c a b=>
  obtain⟨x,k,j⟩:=mH (show hY (ev c) (λx=>match x with
   |.b' t=>nJ H (match(bif t then ev a else ev b)with
    |.u'=>ε
    |v=>δ v)
   |_=>ε)=δ ro from h)
  split at j
  ·rename_i t;have:=mW (H2:=H2) j;simp only [jC,k,hY];exact this
  ·cases j
 case binOp b t x y t'=>exact Gt h
 case unOp u t x=>cases u<;>first|cases h|exact Gt h
 case convert s t x=>
  obtain⟨c,k,j⟩:=mH (show hY (ev x) (AB C H s t)=δ ro from h);have:=conS_H (H2:=H2) l j (by rw [<-k];exact o);simp only [jC,k,hY];exact this
 case index t x r=>
  simp only [jC]at h⊢;cases p:wJ C t with
  |true=>rw [p]at h;exact Gt h
  |false=>
   rw [p]at h;simp only [aH]at h⊢;split at h
   ·exact Gt h
   ·cases h
 case slice t x E F w=>
  cases w with
  |some m=>cases h
  |none=>have l:wJ C t=ζ:=l;simp only [jC,l,aQ]at h⊢;exact Gt h
 case extract x i=>
  simp only [jC]at h⊢;split at h
  ·split at h
   ·cases h;exact⟨rfl,rfl,rfl⟩
   ·cases h
  ·cases h
 case field t x f=>
  simp only [jC]at h⊢;split at h
  ·split at h
   ·exact mW h
   ·cases h
  ·cases h
 case build t D=>exact mW h
 case fieldAddr t x f=>
  obtain⟨c,k,j⟩:=mH (show hY (ev x) (λa=>nJ H (bcf C t f a))=δ ro from h);have:=mW (H2:=H2) j;simp only [jC,k,hY];exact this
 case load t x=>
  obtain⟨c,k,j⟩:=mH (show hY (ev x) (λa=>lJ C H t a)=δ ro from h);have:=xx (H2:=H2) j (by rw [<-k];exact o);simp only [jC,k,hY];exact this
 case indexAddr t x r=>
  obtain⟨c,k,j⟩:=mH (show hY (ev x) (λa=>hY (ev r) λi=>sw C H t a i)=δ ro from h);obtain⟨d,q,B⟩:=mH j;have:=ixa_H (H2:=H2) B (by rw [<-k];exact o);simp only [jC,k,q,hY];exact this
 case makeFunc f a b=>exact mW h
 case nilCheck x=>
  obtain⟨c,k,j⟩:=mH (show hY (ev x) (λa=>nJ H (DQ a))=δ ro from h);have:=mW (H2:=H2) j;simp only [jC,k,hY];exact this
 case call c=>
  obtain⟨callee,gK,n⟩:=c;cases callee<;>first|cases l|skip
  rename_i b;have key:∀(gK:List π) (n:List Nat),nr H H2 (GC ev gK)->LZ C ev H b gK n=δ ro->ro.H=H/\ro.m=[]/\LZ C ev H2 b gK n=δ ⟨ro.g,ro.v,H2,[]⟩:=by
   clear h o;intro gK n o h;have A:∀x y,b≠.append->gK=[x,y]->ro.H=H/\ro.m=[]/\LZ C ev H2 b gK n=δ ⟨ro.g,ro.v,H2,[]⟩:=by intro x y p e;subst e;cases b<;>first|exact absurd rfl p|exact Gt h
   rcases gK with _|⟨x,_|⟨y,_|⟨z,gK⟩⟩⟩
   ·cases b<;>cases h
   ·cases b<;>first|cases l|skip
    ·rcases n with _|⟨t,_|⟨t2,n⟩⟩
     ·cases h
     ·obtain⟨g,v,k,rfl⟩:=IE (show Ly H (hY (ev x) (Yz C H t))=δ ro from h);obtain⟨c,j,q⟩:=mH k;refine⟨rfl,rfl, ?_⟩;show Ly H2 (hY (ev x) (Yz C H2 t))=_;rw [j];show Ly H2 (Yz C H2 t c)=_;rw [ya q (λid hid=>o id (Vo (x:=x) (by rw [j];exact hid) fE))];rfl
     ·cases h
    ·cases h
    ·cases h
   ·exact A x y (λe=>by subst e;cases l) rfl
   ·cases b<;>cases h
  exact key _ _ o h
end
open Go.Wk
open Go.Ce (Tr)
open Go.Op renaming operands → mL
open Nat renaming beq → cV, blt → gA
section
variable {C:Cx}{ev:π->SV}{H:List Ob}
variable {a:Ob}{k:Nat}
theorem V3{x:Ob}(h:H[k]? =δ a):(H++[x])[k]? =δ a:=by rw [aI (aD.1 h).1];exact h
theorem x1{a:Type}{l:List a}{j:Nat}{y:a}(h:k≠j):(kA l k y)[j]? =l[j]? :=by rw [yA,aA (λb=>h b.1.symm)]
theorem ej{op:Op}{ro:Ro}(h:jC C ev H op=δ ro)(r:∀q∈ro.m,q.1≠k)(hid:H[k]? =δ a):ro.H[k]? =δ a:=by
 cases G:Dw C op with
 |true=>have:=(Ji (H2:=H) G h (λ_ _ _ h=>h)).1;rw [this];exact hid
 |false=>
  cases op<;>first|exact absurd (show ζ=η from G) aA2|cases h|skip
  case convert s t x=>
   obtain⟨c,E,d⟩:=mH (show hY (ev x) (AB C H s t)=δ ro from h);unfold AB at d;split at d
   ·have p:=(dK (dK d).2).2;split at p
    ·cases p;exact hid
    ·cases p
   ·split at d
    ·split at d
     ·have p:=(dK (dK d).2).2;cases p;exact V3 hid
     ·obtain⟨g,v,_,rfl⟩:=IE d;exact hid
    ·obtain⟨g,v,_,rfl⟩:=IE d;exact hid
  case slice t x F J Q=>
   have A:wJ C t=η:=G;cases Q with
   |some m=>cases h
   |none=>
    have h:(bif wJ C t then Ly H (hY (ev x) λw=>If ev F λi=>If ev J λj=>T1 w i j)else hY (ev x) λw=>If ev F λi=>If ev J λj=>Ie C H t w i j)=δ ro:=h;rw [A]at h;obtain⟨c,E,d⟩:=mH (show hY (ev x) (λw=>If ev F λi=>If ev J λj=>Ie C H t w i j)=δ ro from h);have key:∀i j,Ie C H t c i j=δ ro->ro.H[k]? =δ a:=λi j I=>by obtain⟨z,O,T,l,_,_,_,_,_,K⟩:=Ee I;rcases K with⟨b,a0,_,_,_,rfl⟩|⟨b,a0,_,_,_,rfl⟩<;>exact V3 hid
    rcases XI d with⟨f,u⟩|⟨o,b,f,u,R⟩
    ·rcases XI u with⟨M,D⟩|⟨a,S,M,D,L⟩
     ·exact key _ _ D
     ·exact key _ _ L
    ·rcases XI R with⟨M,D⟩|⟨a,S,M,D,L⟩
     ·exact key _ _ D
     ·exact key _ _ L
  case alloc e=>
   simp only [jC]at h;split at h
   ·cases h;exact V3 hid
   ·cases h
  case box e x=>
   simp only [jC]at h;split at h
   ·cases h;exact V3 hid
   ·cases h
  case buildSlice t n W=>
   simp only [jC,ari]at h;split at h
   ·split at h
    ·have p:=(dK (dK h).2).2;split at p
     ·cases p;exact V3 hid
     ·cases p
    ·cases h
   ·cases h
  case store t x y=>
   obtain⟨c,E,d⟩:=mH (show hY (ev x) (λw=>Jm C H t w (ev y))=δ ro from h);unfold Jm at d;split at d
   ·rename_i n U _ _;have d:=(dK d).2;split at d
    ·split at d
     ·split at d
      ·cases d;rw [x1 (r _ fE)];exact hid
      ·cases d
     ·cases d
    ·rename_i z j V off;cases N:cV n 0 with
     |true=>rw [N]at d;cases d
     |false=>
      rw [N]at d;simp only [aH]at d;split at d
      ·split at d
       ·have p:=(dK d).2;cases p;rw [x1 (r _ fE)];exact hid
       ·cases d
      ·split at d
       ·split at d
        ·have p:=(dK d).2;cases p;rw [x1 (r _ fE)];exact hid
        ·cases d
       ·cases d
      ·cases d
    ·cases d
   ·cases d
  case makeSlice t x y=>
   obtain⟨w,E,d⟩:=mH (h);obtain⟨c,p,f⟩:=mH d;unfold Ef at f;split at f
   ·have u:=(dK f).2;split at u
    ·cases u;exact V3 hid
    ·cases u
   ·cases f
  case call c=>
   obtain⟨callee,gK,P⟩:=c;cases callee<;>first|cases h|skip
   rename_i b;have h:LZ C ev H b gK.toList P.toList=δ ro:=h;unfold LZ at h;split at h
   ·obtain⟨g,v,_,rfl⟩:=IE h;exact hid
   ·rename_i x y t t2 Z O Y;cases B:cV t t2 with
    |true=>
     rw [B]at h;obtain⟨w,E,d⟩:=mH h;obtain⟨c,p,f⟩:=mH d;unfold sU at f;split at f
     ·split at f
      ·split at f
       ·cases f;exact V3 hid
       ·cases f
      ·split at f
       ·cases f;exact V3 aF3
       ·cases f
      ·split at f
       ·cases f;exact V3 aF3
       ·cases f
      ·cases f
     ·cases f
    |false=>
     rw [B]at h;obtain⟨w,E,d⟩:=mH h;obtain⟨c,p,f⟩:=mH d;obtain⟨X,O,_,_,_,_,K⟩:=Fw f;rcases K with⟨_,rfl⟩|⟨z,l,_,_,rfl⟩
     ·exact V3 hid
     ·exact V3 aF3
   ·obtain⟨g,v,_,rfl⟩:=IE h;exact hid
   ·cases h
end
variable {H:List Ob}{o:Ob}{a:Nat}
theorem Cd{obs:List Ob}(h:H[a]? =δ o):(H++obs)[a]? =δ o:=by rw [aI (aD.1 h).1];exact h
theorem E6{ss:List Src}:∀{r:List Rk} {y:(iF r).T} {l:List SA} {H:List Ob},a∉lI ss (Rk.ids r)->H[a]? =δ o->(gM (Jv ss) (l,H) r y).2[a]? =δ o:=by
 have one:∀q v l (H:List Ob),a∉lI ss (Rk.ids [q])->H[a]? =δ o->(q.put (Jv ss) (l,H) v).2[a]? =δ o:=by
  intro q v l H b g;cases q with
  |r' x=>exact Cd g
  |o' j e x=>exact Cd (by rw [x1 (λe=>b (by show a∈[Jv ss j];rw [e];exact aE.2 rfl))];exact g)
  |w' j x=>
   show(rK H _ x v)[a]? =δ o;unfold rK;split
   ·rw [x1 (λe=>b (by show a∈[Jv ss j];rw [e];exact aE.2 rfl))];exact g
   ·exact g
 intro r;induction r with
 |nil=>intro y l H _ g;exact g
 |cons q r f=>
  intro y l H b g;cases r with
  |nil=>exact one q y l H b g
  |cons d r=>
   have c:a∉lI ss (Rk.ids [q])/\a∉lI ss (Rk.ids (d::r)):=by
    cases q with
    |r' x=>exact⟨(λh=>by cases h),b⟩
    |o' i e x=>exact⟨λh=>b (aP.2 (.inl (aE.1 h))),λh=>b (eT _ h)⟩
    |w' i x=>exact⟨λh=>b (aP.2 (.inl (aE.1 h))),λh=>b (eT _ h)⟩
   exact f c.2 (one q y.1 l H c.1 g)
theorem IS{l:List Nat}(h:a∈l):∃q∈Wm H l,q.1=a:=⟨_,bbd h,rfl⟩
theorem Po{H:List Ob}:∀{l:List Nat} {id:Nat},id∈l->∃q∈AG H l,q.1=id
 |x::l,id,h=>by
  rcases aP.1 h with rfl|h
  ·exact⟨_,fE,rfl⟩
  ·obtain⟨q,b,a⟩:=Po h;exact⟨q,eT _ b,a⟩
section
variable {C:Cx}{ops:List ψ}{S S1:St}{o:ψ}
theorem Ux:∀(t:Ty) (s n c) x,t.no=0->(t.lay s n x).1=(t.lay s c x).1:=by
 intro t;induction t with
 |w' t d=>intro s n c x h;exact d s n c x h
 |pr a b g f=>
  intro s n c x h;have j:a.no=0:=by have:a.no+b.no=0:=h;omega
  have i:b.no=0:=by have:a.no+b.no=0:=h;omega
  show(a.lay s n x.1).1++(b.lay s _ x.2).1=(a.lay s c x.1).1++(b.lay s _ x.2).1;rw [g s n c x.1 j,f s _ _ x.2 i]
 |f' k t d=>intro s n c x h;show [SC.f' k _]=[SC.f' k _];rw [d s n c x h]
 |l' e b t d=>intro s n c x h;cases h
 |y'=>intro s n c x h;cases h
 |r' t d=>intro s n c x h;cases h
 |p' e t d=>intro s n c x h;cases h
 |z'=>intro s n c x h;cases h
 |_=>intro s n c x h;rfl
variable {e:Bool}{H:List Ob}
theorem dn{H2:List Ob}:∀(t:Ty) s l,t.no=0->t.rd e H2 s l=t.rd e H s l/\∀x r ss,t.rd e H s l=δ (x,r,ss)->ss=[]:=by
 intro t;induction t with
 |w' t d=>intro s l h;exact d s l h
 |pr a b i g=>
  intro s l h;have y:a.no=0:=by have:a.no+b.no=0:=h;omega
  have w:b.no=0:=by have:a.no+b.no=0:=h;omega
  obtain⟨o,n⟩:=i s l y;simp only [Ty.rd];rw [o];cases u:a.rd e H s l with
  |none=>exact⟨rfl,λx r ss h=>by cases h⟩
  |some q=>
   obtain⟨x,f,D⟩:=q;obtain⟨A,z⟩:=g s f w;simp only;rw [A];cases m:b.rd e H s f with
   |none=>exact⟨rfl,λx r ss h=>by cases h⟩
   |some E=>refine⟨rfl,λx r ss h=> ?_⟩;cases h;rw [n _ _ _ u,z _ _ _ m];rfl
 |sm a b _ _=>intro s l h;exact⟨rfl,λx r ss h=>by cases h⟩
 |l' F b t d=>intro s l h;cases h
 |y'=>intro s l h;cases h
 |r' t d=>intro s l h;cases h
 |p' F t d=>intro s l h;cases h
 |z'=>intro s l h;cases h
 |u'=>intro s l h;exact⟨rfl,λx r ss h=>by cases h;rfl⟩
 |o' j=>
  intro s l h;refine⟨rfl,λx r ss h=> ?_⟩;simp only [Ty.rd]at h;split at h
  ·have:=dK h;cases this.2;rfl
  ·cases h
 |f' k t d=>
  intro s l h;simp only [Ty.rd];split
  ·rename_i k' p f;obtain⟨o,n⟩:=d s _ h;rw [o];refine⟨rfl,λx r ss h=> ?_⟩;have h:=(dK h).2;split at h
   ·rename_i B C m;cases h;have:=dK m;exact n _ _ _ this.2
   ·cases h
  ·exact⟨rfl,λx r ss h=>by cases h⟩
 |_=>intro s l h;refine⟨rfl,λx r ss h=> ?_⟩;obtain⟨c,_,_,v⟩:=oL h;exact v
variable {v:SV}
theorem DB{H2:List Ob}{x:Ty}(h:x.no=0):TF e H2 x v=TF e H x v/\∀y ss,TF e H x v=δ (y,ss)->ss=[]:=by
 have key:∀l,Sd (x.rd e H2 0 l)=Sd (x.rd e H 0 l)/\∀y ss,Sd (x.rd e H 0 l)=δ (y,ss)->ss=[]:=by
  intro l;obtain⟨d,b⟩:=dn x 0 l h;rw [d];refine⟨rfl,λy ss h=> ?_⟩;unfold Sd at h;split at h
  ·rename_i a;cases h;exact b _ _ _ a
  ·cases h
 cases v with
 |c' c=>simp only [TF];cases x.tz<;>cases x.agg<;>simp<;>first|exact key _|exact⟨rfl,λy ss h=>by cases h⟩|exact⟨trivial,λy ss h=>by cases h⟩
 |a' l=>simp only [TF];cases x.tz<;>cases x.agg<;>simp<;>first|exact key _|exact⟨rfl,λy ss h=>by cases h⟩|exact⟨trivial,λy ss h=>by cases h⟩
 |_=>exact⟨rfl,λy ss h=>by cases h⟩
theorem Lw{H H2:List Ob}:∀l vs,Bo l=ζ->OD H2 l vs=OD H l vs/\∀y ss,OD H l vs=δ (y,ss)->ss=[]
 |[],vs,h=>by
  cases vs with
  |nil=>exact⟨rfl,λy ss h=>by cases h;rfl⟩
  |cons v vs=>exact⟨rfl,λy ss h=>by cases h⟩
 |[x],vs,h=>by
  have h:=iK (h);have hx:=iB h.1
  match vs with
  |[]=>exact⟨rfl,λy ss h=>by cases h⟩
  |[v]=>exact DB hx
  |_::_::_=>exact⟨rfl,λy ss h=>by cases h⟩
 |x::y::l,vs,h=>by
  have h:=iK (h);have hx:=iB h.1
  match vs with
  |[]=>exact⟨rfl,λy ss h=>by cases h⟩
  |v::vs=>
   obtain⟨f,e⟩:=DB hx;obtain⟨d,c⟩:=Lw _ vs h.2;simp only [OD];rw [f];cases b:TF ζ H x v with
   |none=>exact⟨rfl,λy ss h=>by cases h⟩
   |some q=>
    rw [d];cases a:OD H _ vs with
    |none=>exact⟨rfl,λy ss h=>by cases h⟩
    |some g=>refine⟨rfl,λy ss h=> ?_⟩;cases h;rw [e _ _ b,c _ _ a];rfl
theorem Uy:∀l H x,Bo l=ζ->(jZ H l x).2=H
 |[],H,x,h=>rfl
 |[t],H,x,h=>by have h:=iK (show(bif cV t.no 0 then Bo []else η)=ζ from h);show H++(t.lay 0 (γ H) x).2=H;rw [vJ ((Ty.eL t 0 (γ H) x).trans (iB h.1)),fI]
 |t::y::l,H,x,h=>by have h:=iK (show(bif cV t.no 0 then Bo (y::l)else η)=ζ from h);show(jZ (H++(t.lay 0 (γ H) x.1).2) (y::l) x.2).2=H;rw [vJ ((Ty.eL t 0 (γ H) x.1).trans (iB h.1)),fI];exact Uy _ H x.2 h.2
theorem qB{k:Rk}{l:List Rk}(h:wF (k::l)=ζ):∃x,k=.r' x/\x.no=0/\wF l=ζ:=by
 cases k with
 |r' x=>have h:=iK (h);exact⟨x,rfl,iB h.1,h.2⟩
 |_=>cases h
theorem Dx{a:Nat->Nat}:∀r y l H,wF r=ζ->(gM a (l,H) r y).2=H/\∀H2,(gM a (l,H2) r y).1=(gM a (l,H) r y).1
 |[],y,l,H,h=>⟨rfl,λ_=>rfl⟩
 |[k],y,l,H,h=>by
  obtain⟨x,rfl,hx,_⟩:=qB h;have e:∀n,(x.lay 0 n y).2=[]:=λn=>vJ ((Ty.eL x 0 n y).trans hx);refine⟨?_,λH2=> ?_⟩
  ·show H++(x.lay 0 (γ H) y).2=H;rw [e,fI]
  ·show l++[x.sa (x.lay 0 (γ H2) y).1]=l++[x.sa (x.lay 0 (γ H) y).1];rw [Ux x 0 (γ H2) (γ H) y hx]
 |k::b::r,y,l,H,h=>by
  obtain⟨x,rfl,hx,d⟩:=qB h;have e:∀n,(x.lay 0 n y.1).2=[]:=λn=>vJ ((Ty.eL x 0 n y.1).trans hx);have c:∀H,gM a (l,H) (.r' x::b::r) y=gM a (l++[x.sa (x.lay 0 0 y.1).1],H) (b::r) y.2:=λH=>by show gM a (l++[x.sa (x.lay 0 (γ H) y.1).1],H++(x.lay 0 (γ H) y.1).2) (b::r) y.2=_;rw [e,fI,Ux x 0 (γ H) 0 y.1 hx]
  rw [c];obtain⟨g,f⟩:=Dx _ y.2 _ H d;refine⟨g,λH2=> ?_⟩;rw [c];exact f H2
theorem FI:∀r,wF r=ζ->Rk.ids r=[]
 |[],h=>rfl
 |k::r,h=>by obtain⟨x,rfl,_,a⟩:=qB h;exact FI r a
theorem Tp{H H2:List Ob}{ss:List Src}:∀r,wF r=ζ->Lt H2 ss r=Lt H ss r
 |[],h=>rfl
 |k::r,h=>by obtain⟨x,rfl,_,a⟩:=qB h;simp only [Lt];rw [Tp r a]
theorem Vt:∀{l:List Ct} {c:Ct},c∈l->Q1 l=ζ->Bo c.a=ζ/\wF c.r=ζ
 |x::l,c,b,h=>by
  have h:=iK (h);have d:=iK h.2;rcases aP.1 b with rfl|b
  ·exact⟨h.1,d.1⟩
  ·exact Vt b d.2
variable {c:Ct}{d:Option Nat}{b:List Src}{a:(gL c.a).T}{y:(iF c.r).T}
theorem tO{t:Nat}:(lP c S d a b y).at t=if d=δ t then mA (gM (Jv b) ([],kill S.H (lN (Rk.ids c.r) (jZ [] c.a a).2 0 b)) c.r y).1 else S.at t:=by have e:lP c S d a b y=St.xB _ d _:=rfl;rw [e,vF];rfl
theorem AN{S:St}:(S.xB d v).H=S.H/\(S.xB d v).m=S.m/\(S.xB d v).nb=S.nb/\(S.xB d v).al=S.al:=by cases d<;>exact⟨rfl,rfl,rfl,rfl⟩
theorem WB:(lP c S d a b y).H=(gM (Jv b) ([],kill S.H (lN (Rk.ids c.r) (jZ [] c.a a).2 0 b)) c.r y).2/\(lP c S d a b y).m=lQ c S a b++S.m/\(lP c S d a b y).nb=S.nb/\(lP c S d a b y).al=S.al:=by exact⟨AN.1,AN.2.1,AN.2.2.1,AN.2.2.2⟩
theorem ayo{d:Option Nat}{y:(iF c.r).T}(g:Bo c.a=ζ)(b:wF c.r=ζ):(lP c S d a [] y).H=S.H/\(lP c S d a [] y).m=S.m/\lQ c S a []=[]/\∀S2:St,mA (gM (Jv []) ([],kill S2.H (lN (Rk.ids c.r) (jZ [] c.a a).2 0 [])) c.r y).1=mA (gM (Jv []) ([],kill S.H (lN (Rk.ids c.r) (jZ [] c.a a).2 0 [])) c.r y).1:=by
 have e:lN (Rk.ids c.r) (jZ [] c.a a).2 0 []=[]:=by rw [Uy c.a [] a g];rfl
 have f:lQ c S a []=[]:=by unfold lQ;rw [e,FI c.r b];rfl
 refine⟨?_, ?_,f,λS2=> ?_⟩
 ·rw [WB.1,e];exact(Dx c.r y [] S.H b).1
 ·rw [WB.2.1,f];rfl
 ·rw [e];show mA (gM _ ([],S2.H) c.r y).1=mA (gM (Jv []) ([],S.H) c.r y).1;rw [(Dx c.r y [] S.H b).2 S2.H]
theorem H5{ev:π->SV}{op:Op}{ro:Ro}(h:jC C ev H op=δ ro)(a:qt C op=ζ):Dw C op=ζ:=by
 unfold qt at a;cases b:Dw C op with
 |true=>rfl
 |false=>
  rw [b]at a;split at a
  ·rename_i c;split at a
   ·rename_i k d;simp only [jC,d]at h;cases h
   ·cases a
  ·cases a
theorem Pq(h:tq C S o S1)(e:qt C o.op=ζ):∃b f k d c a y,o.op=.call b/\b.callee=.value f/\S.ev C f=.c' (.f' k d)/\c∈C.X k/\OD S.H c.a (b.args.toList.map (S.ev C)++VU d)=δ (a,[])/\nB c S a []=ζ/\(c.f a).ok y/\S1=lP c S o.dst a [] y/\Bo c.a=ζ/\wF c.r=ζ:=by
 obtain⟨b,f,k,d,c,a,w,y,g,p,n,u,t,l,x,q⟩:=h.ex;unfold qt at e;rw [g]at e;have j:Dw C (.call b)=η:=by
  show(match b.callee with
   |.builtin .len=>ζ
   |.builtin .min=>ζ
   |.builtin .max=>ζ
   |_=>η)=η
  rw [p]
 rw [j]at e;simp only [p]at e;split at e
 ·rename_i s m;cases m;have i:S.ev C (.func s)=.c' (.f' s []):=rfl;cases n;obtain⟨v,z⟩:=Vt u e;obtain rfl:=(Lw (H:=S.H) (H2:=S.H) c.a _ v).2 a w t;exact⟨b,_,_,_,c,a,y,g,p,i,u,t,l,x,q,v,z⟩
 ·cases e
theorem W9(h:IH C ops S o S1):(∀t,o.dst≠δ t->S1.at t=S.at t)/\S1.nb=S.nb/\S1.al=S.al:=by
 cases h with
 |op j ro h r i p=>refine⟨λt g=> ?_,AN.2.2.1,AN.2.2.2⟩;rw [vF,aA g];rfl
 |mv j x d b hx i q=>exact⟨λt g=>by rw [lR,aA (λe=>g (by rw [i,e]))],rfl,rfl⟩
 |skip j d i=>exact⟨λt g=>by rw [lR,aA (λe=>g (by rw [i,e]))],rfl,rfl⟩
 |call j _ h=>obtain⟨m,f,k,l,c,a,n,y,_,_,_,_,_,_,_,rfl⟩:=h;exact⟨λt g=>by rw [tO,aA g],WB.2.2.1,WB.2.2.2⟩
theorem Wq(h:IH C ops S o S1)(g:qt C o.op=ζ):S1.H=S.H/\S1.m=S.m:=by
 cases h with
 |op e ro h s i q=>have:=Ji (H5 h g) h (λ_ _ _ h=>h);refine⟨AN.1.trans this.1,AN.2.1.trans ?_⟩;rw [this.2.1];rfl
 |mv e x d b hx i r=>exact⟨rfl,rfl⟩
 |skip e d i=>exact⟨rfl,rfl⟩
 |call e _ h=>obtain⟨p,f,k,n,c,a,y,_,_,_,_,_,_,_,rfl,l,j⟩:=Pq h g;exact⟨(ayo l j).1,(ayo l j).2.1⟩
theorem RM(h:IH C ops S o S1):∃p,S1.m=p++S.m/\∀id e,(∀q∈p,q.1≠id)->fU S.H id=δ e->fU S1.H id=δ e:=by
 cases h with
 |op j ro h z r v=>refine⟨ro.m,AN.2.1,λid e g hid=> ?_⟩;rw [gV]at hid⊢;rw [AN.1];exact ej h g hid
 |mv j x d b hx r w=>exact⟨[],rfl,λid e _ h=>h⟩
 |skip j d r=>exact⟨[],rfl,λid e _ h=>h⟩
 |call j _ h=>
  obtain⟨u,f,k,t,c,a,s,y,_,_,_,_,_,_,_,rfl⟩:=h;refine⟨lQ c S a s,WB.2.1,λid e g hid=> ?_⟩;rw [gV]at hid⊢;rw [WB.1];refine E6 (λi=> ?_) ?_
  ·obtain⟨q,n,l⟩:=Po i;exact g q (XP _ n) l
  ·rw [RD,aA (λi=> ?_)]
   ·exact hid
   ·obtain⟨q,n,l⟩:=IS i;exact g q (yT _ n) l
theorem Eg{S S2:St}(a:S2.nb=S.nb)(b:S2.al=S.al):∀l,S2.Gu l=S.Gu l
 |[]=>rfl
 |x::l=>by show(bif S2.ok x then S2.Gu l else η)=(bif S.ok x then S.Gu l else η);rw [Eg a b l];unfold St.ok;rw [a,b]
theorem W8(h:IH C ops S o S1){S2:St}(ho:∀t,Operand.tmp t∈o.op.operands->S2.at t=S.at t)(a0:∀t∈Vj ops o,S2.at t=S.at t)(l:S2.nb=S.nb)(n:S2.al=S.al)
  (hq:qt C o.op=ζ->nr S.H S2.H (Vn (S.ev C) o.op)) (M:qt C o.op=η->S2.H=S.H):
  ∃K,IH C ops S2 o K/\(∀t,K.at t=if o.dst=δ t then S1.at t else S2.at t)/\K.nb=S.nb/\K.al=S.al/\(qt C o.op=ζ->K.H=S2.H/\K.m=S2.m)/\(qt C o.op=η->K.H=S1.H/\∀R,S1.m=R++S.m->K.m=R++S2.m):=by
 have s:∀x∈o.op.operands,S2.ev C x=S.ev C x:=by
  intro x hx;cases x with
  |tmp t=>show(bif gA t C.nn then S2.at t else .u')=(bif gA t C.nn then S.at t else .u');rw [ho t hx]
  |_=>rfl
 have z:∀b,WO C ops S o b->WO C ops S2 o b:=by
  intro b D;have gs:∀q dg,o.guard=δ q->GA ops q.1=δ dg->S2.at dg=S.at dg:=by intro q dg A G;refine a0 dg ?_;unfold Vj;rw [A];simp only [G,aE]
  cases D with
  |none h=>exact .none h
  |yes q dg h A G U=>exact .yes q dg h A G aF6
  |no q dg h A G U=>exact .no q dg h A G aF6
  |un q dg h A G U=>exact .un q dg h A G aF6
 have X:= @Ji C;cases h with
 |op D ro h ha I hm=>
  cases i:qt C o.op with
  |true=>
   have A:=Ji (H5 h i) h (hq i);have G:jC C (S2.ev C) S2.H o.op=δ ⟨ro.g,ro.v,S2.H,[]⟩:=by rw [Uc s];exact A.2.2
   refine⟨_,.op (z _ D) _ G ha I rfl,λt=> ?_,AN.2.2.1.trans l,AN.2.2.2.trans n,λ_=>⟨AN.1,AN.2.1⟩,λe=>by cases e⟩;rw [vF,vF];split<;>rfl
  |false=>
   have J:=M i;have G:jC C (S2.ev C) S2.H o.op=δ ro:=by rw [Uc s,J];exact h
   refine⟨_,.op (z _ D) ro G ha I (by rw [Eg l n];exact hm),λt=> ?_,AN.2.2.1.trans l,AN.2.2.2.trans n,(λe=>by cases e),λ_=>⟨by rw [AN.1,AN.1],λR j=> ?_⟩⟩
   ·rw [vF,vF];split<;>rfl
   ·rw [AN.2.1]at j⊢;have:=List.append_cancel_right j;show ro.m++S2.m=_;rw [this]
 |mv D x d b hx I hb=>
  have W:x∈o.op.operands:=by
   obtain⟨a4,op,ty,pos,after,gd⟩:=o;cases op<;>first|cases hx|skip
   ·simp [mL]
   ·simp [mL]
  have i:qt C o.op=ζ:=by
   obtain⟨a4,op,ty,pos,after,gd⟩:=o;cases op<;>first|cases hx|skip
   ·rfl
   ·rfl
  refine⟨_,.mv (z _ D) x d b hx I (by rw [s x W];exact hb),λt=> ?_,l,n,λ_=>⟨rfl,rfl⟩,λe=>by rw [i]at e;cases e⟩;rw [lR,lR,I];by_cases e:t=d
  ·subst e;simp
  ·have e2:¬(δ d)=δ t:=λM=>e (aJ M).symm;rw [aA e,aA e2]
 |skip D d I=>
  have a2:∀t,(S2.set d .n').at t=if o.dst=δ t then(S.set d .n').at t else S2.at t:=by
   intro t;rw [lR,lR,I];by_cases e:t=d
   ·subst e;simp
   ·have e2:¬(δ d)=δ t:=λM=>e (aJ M).symm;rw [aA e,aA e2]
  exact⟨_,.skip (z _ D) d I,a2,l,n,λ_=>⟨rfl,rfl⟩,λi=>⟨M i,λR j=>by have j:=j;have:R=[]:=List.append_left_eq_self.1 j.symm;rw [this];rfl⟩⟩
 |call D _ h=>
  cases i:qt C o.op with
  |true=>
   obtain⟨u,f,k,L,c,a,y,p,T,N,hc,Y,w,V,rfl,F,E⟩:=Pq h i;have O:f∈o.op.operands:=by rw [p];simp [mL,Call.operands,T]
   have P:u.args.toList.map _=u.args.toList.map _:=map_congr λx hx=>s x (by rw [p];simp only [mL,Call.operands,yQ];exact .inr aD7);have e0:∀Z:St,lQ c Z a []=[]:=λZ=>(ayo (S:=Z) (d:=ε) (y:=y) F E).2.2.1;have B:nB c S2 a []=ζ:=by unfold nB at w⊢;rw [e0,Tp c.r E];rw [e0]at w;exact w
   refine⟨_,.call (z _ D) _ ⟨u,f,k,L,c,a,[],y,p,T,by rw [s f O];exact N,hc,by rw [P,(Lw c.a _ F).1];exact Y,B,V,rfl⟩,λt=> ?_,WB.2.2.1.trans l,WB.2.2.2.trans n,λ_=>⟨(ayo F E).1,(ayo F E).2.1⟩,(λe=>by cases e)⟩;rw [tO,tO];by_cases e:o.dst=δ t
   ·rw [aB e,aB e,aB e];exact(ayo (S:=S) (d:=ε) F E).2.2.2 S2
   ·rw [aA e,aA e]
  |false=>
  have J:=M i;obtain⟨u,f,k,L,c,a,Q,y,p,T,N,hc,Y,w,V,rfl⟩:=h;have O:f∈o.op.operands:=by rw [p];simp [mL,Call.operands,T]
  have P:u.args.toList.map _=u.args.toList.map _:=map_congr λx hx=>s x (by rw [p];simp only [mL,Call.operands,yQ];exact .inr aD7)
  have B:nB c S2 a Q=ζ:=by
   unfold nB at w⊢;rw [Eg l n,J];have e:lQ c S2 a Q=lQ c S a Q:=by unfold lQ;rw [J]
   rw [e];exact w
  refine⟨_,.call (z _ D) _ ⟨u,f,k,L,c,a,Q,y,p,T,by rw [s f O];exact N,hc,by rw [P,J];exact Y,B,V,rfl⟩,λt=> ?_,WB.2.2.1.trans l,WB.2.2.2.trans n,(λe=>by cases e),λ_=>⟨?_,λR j=> ?_⟩⟩
  ·rw [tO,tO,J];split<;>rfl
  ·rw [WB.1,WB.1,J]
  ·rw [WB.2.1]at j⊢;have:=List.append_cancel_right j;have e:lQ c S2 a Q=lQ c S a Q:=by unfold lQ;rw [J]
   rw [e,this]
end
open Go.Wk
open Go.Ce (Tr)
open Go.Op renaming operands → mL
open Nat renaming beq → cV, succ → rY
theorem HJ:∀l A,(∃B,iA l A=A++B)/\∀i o,l[i]? =δ o->(iA l A)[γ A+i]? =δ (Qc ((iA l A).take (γ A+i)) o.after.toList)
 |[],A=>⟨⟨[],by simp [iA]⟩,λi o h=>by simp at h⟩
 |o::l,A=>by
  obtain⟨⟨B,b⟩,c⟩:=HJ l (A++[Qc A o.after.toList]);have e:iA (o::l) A=iA l (A++[Qc A o.after.toList]):=rfl;refine⟨⟨[Qc A o.after.toList]++B,by rw [e,b,gH]⟩,λi a h=> ?_⟩;cases i with
  |zero=>have h:o=a:=aA8;subst h;rw [e,b];simp
  |succ i=>have:=c i a aA8;rw [bP,fD,De,Jc 1 i]at this;exact this
theorem Ks{j:Nat}:∀{l r:List Nat},j∈SG l r↔j∈l\/j∈r
 |[],r=>by simp [SG]
 |x::l,r=>by
  unfold SG;cases h:mF x r with
  |true=>have hx:=Wo.1 h;rw [aQ,Ks,WU];exact⟨λh=>h.elim (λh=>.inl (.inr h)) .inr,λh=>h.elim (λh=>h.elim (λe=>.inr (e▸hx)) .inl) .inr⟩
  |false=>rw [aH,Ks,WU,WU];exact⟨λh=>h.elim (λh=>.inl (.inr h)) (λh=>h.elim (λe=>.inl (.inl e)) .inr),λh=>h.elim (λh=>h.elim (λe=>.inr (.inl e)) .inl) (λh=>.inr (.inr h))⟩
theorem HK{A:List (List Nat)}{j:Nat}:∀{l:List Edge},j∈Qc A l↔∃e∈l,Region.binds .any e=ζ/\(j=e.on\/j∈Pu A e.on)
 |[]=>by simp [Qc]
 |e::l=>by
  have a:=HK (A:=A) (j:=j) (l:=l);simp only [Qc];cases b:Region.binds .any e with
  |true=>simp only [aQ,Ks,WU,a,exists_eq_or_imp,b,true_and];exact Iff.rfl
  |false=>simp only [aH,a,WU,exists_eq_or_imp,b,Bool.false_eq_true,false_and,false_or]
theorem oR:∀{l:List ψ} {i:Nat},Pt l i=ζ->∀j o,l[j]? =δ o->∀e∈o.after,Region.binds .any e=ζ->e.on<i+j
 |[],i,_,j,o,a=>by simp at a
 |x::l,i,h,j,o,a=>by
  have h:=iK (h);intro e b c;cases j with
  |zero=>have a:x=o:=aB9;subst a;have:=aT.1 h.1 e aB6;rw [c]at this;simpa [jK] using this
  |succ j=>have:=oR h.2 j o aB9 e b c;omega
theorem Qd{A:List (List Nat)}{k i:Nat}(h:i<k):Pu (A.take k) i=Pu A i:=by unfold Pu;rw [gV,gV,bO,aB h]
section
variable {l:List ψ}
variable {i:Nat}
theorem RF(g:Pt l 0=ζ){o:ψ}(f:l[i]? =δ o){j:Nat}:j∈Pu (iA l []) i↔∃e∈o.after,Region.binds .any e=ζ/\(j=e.on\/j∈Pu (iA l []) e.on):=by
 have h:=(HJ l []).2 i o f;rw [fT,Ta]at h;have e:Pu (iA l []) i=Qc ((iA l []).take i) o.after.toList:=by unfold Pu;rw [gV,h]
 rw [e,HK];constructor
 ·rintro⟨e,c,b,d⟩;have a:e∈o.after:=aC2;have:=oR g i o f e a b;rw [Qd aA0]at d;exact⟨e,a,b,d⟩
 ·rintro⟨e,c,b,d⟩;have:=oR g i o f e c b;refine⟨e,aC2,b, ?_⟩;rw [Qd aA0];exact d
theorem LW(h:l[i]? =ε):Pu (iA l []) i=[]:=by
 have key:∀l A,γ (iA l A)=γ A+γ l:=by
  intro l;induction l with
  |nil=>intro A;rfl
  |cons o l a=>intro A;rw [show iA (o::l) A=iA l _ from rfl,a];simp;omega
 unfold Pu;have c:=List.getElem?_eq_none_iff.1 h;have b:=key l [];rw [gV,bM aE4]
theorem LV(d:Pt l 0=ζ):∀i j,j∈Pu (iA l []) i->j<i:=by
 intro i;induction i using Nat.strongRecOn with
 |_ i f=>
  intro j b;cases a:l[i]? with
  |none=>rw [LW a]at b;cases b
  |some o=>
   obtain⟨e,g,h,c⟩:=(RF d a).1 b;have k:=oR d i o a e g h;rcases c with rfl|c
   ·omega
   ·have:=f e.on aA0 j c;omega
theorem Qb{ops:Array ψ}{listed:Array Bool}(w:l=ops.toList.take i)(s:Pt l 0=ζ)(g:HeadInv .any ops i listed):∀k o,l[k]? =δ o->(∀e∈o.after,Region.binds .any e=ζ->listed.getD e.on η=ζ)->∀j∈Pu (iA l []) k,listed.getD j η=ζ:=by
 intro k;induction k using Nat.strongRecOn with
 |_ k v=>
  intro o m d j x;obtain⟨e,r,u,q⟩:=(RF s m).1 x;have A:=oR s k o m e r u;have t:=d e r u;rcases q with rfl|q
  ·exact t
  ·have z:=(aD.1 m).1;have c:e.on<γ l:=by omega
   obtain⟨f,b⟩:∃f,l[e.on]? =δ f:=⟨_,aO c⟩
   have h:ops[e.on]? =δ f:=by
    have a:=b;rw [w,bO]at a;split at a
    ·simpa using a
    ·cases a
   exact v e.on aA0 _ b (λy n p=>g.closed e.on _ h t y n p) j q
end
theorem Ub{A:List (List Nat)}{i:Nat}{rd:List Nat}:∀{l:List ψ} {a:Nat},Yr A i rd l a=ζ->∀j (o:ψ) (d:Nat),l[j]? =δ o->o.dst=δ d->d∈rd->i=a+j\/DP A i (a+j)=ζ
 |[],a,_,j,o,d,b=>by simp at b
 |x::l,a,h,j,o,d,b=>by
  have h:=iK (h);intro f e;cases j with
  |zero=>
   have b:x=o:=aB6;subst b;have c:=h.1;rw [f]at c;simp only [Wo.2 e]at c;cases g:cV i a with
   |true=>exact .inl (iB g)
   |false=>rw [g]at c;exact .inr c
  |succ j=>have:=Ub h.2 j o d aB6 f e;rw [show rY a+j=a+(j+1)by omega]at this;exact this
theorem Mm{ops:List ψ}{A:List (List Nat)}{all:List ψ}:∀{l:List ψ} {a:Nat},Jl ops A all l a=ζ->∀i o,l[i]? =δ o->Yr A (a+i) (Ac o.op.operands.toList++Vj ops o) all 0=ζ
 |[],a,_,i,o,b=>by simp at b
 |x::l,a,h,i,o,b=>by
  have h:=iK (h);cases i with
  |zero=>have b:x=o:=aB6;subst b;exact h.1
  |succ i=>have:=Mm h.2 i o aB6;rw [show rY a+i=a+(i+1)by omega]at this;exact this
theorem Um{A:List (List Nat)}{i:Nat}{q:Bool×List Nat}:∀{l:List (Bool×List Nat)} {a:Nat},Yu A i q l a=ζ->∀j p,l[j]? =δ p->i≠a+j->DP A i (a+j)=η->p.1=ζ->q.1=η/\∀x∈q.2,x∉p.2
 |[],a,_,j,p,b=>by simp at b
 |x::l,a,h,j,p,b=>by
  have h:=iK (h);intro g d f;cases j with
  |zero=>
   have b:x=p:=aB6;subst b;have c:=h.1;have k:cV i a=η:=by rw [beqN];simp;omega
   rw [BG]at d;rw [k,d,f]at c;cases e:q.1 with
   |true=>rw [e]at c;cases c
   |false=>rw [e]at c;exact⟨rfl,tI.1 c⟩
  |succ j=>refine Um h.2 j p aB6 aA0 ?_ f;rw [show rY a+j=a+(j+1)by omega];exact d
theorem DV{A:List (List Nat)}{all:List (Bool×List Nat)}:∀{l:List (Bool×List Nat)} {a:Nat},OV A all l a=ζ->∀i q,l[i]? =δ q->Yu A (a+i) q all 0=ζ
 |[],a,_,i,q,b=>by simp at b
 |x::l,a,h,i,q,b=>by
  have h:=iK (h);cases i with
  |zero=>have b:x=q:=aB6;subst b;exact h.1
  |succ i=>have:=DV h.2 i q aB6;rw [show rY a+i=a+(i+1)by omega]at this;exact this
theorem Ua{C:Cx}{ops:List ψ}{ρ':Ty}{d:St->List (Bool×List Nat)->Option ρ'.T}{r:ρ'.T}:∀(l:List ψ) (i:Nat) (S:St) (c:List (Bool×List Nat)),ei C ops l i S c d=δ r->
  ∃(T:Nat->St) (es:List (Bool×List Nat)),T 0=S/\(∀(j:Nat) (o:ψ),l[j]? =δ o->IH C ops (T j) o (T (j+1))/\es[j]? =δ (entry C (T j) (T (j+1)) o))/\d (T (γ l)) (c++es)=δ r
 |[],i,S,c,h=>⟨λ_=>S,[],rfl,λj o a=>by simp at a,by rw [fI];exact h⟩
 |o::l,i,S,c,h=>by
  obtain⟨b,n,m⟩:=CP (show TB C ops i S o (λb=>ei C ops l (rY i) b (c++[entry C S b o]) d)=δ r from h);obtain⟨T,es,k,g,f⟩:=Ua l (rY i) b _ m;refine⟨λj=>match j with
   |0=>S
   |j+1=>T j,entry C S b o::es,rfl,λj e a=> ?_,by rw [gH]at f;exact f⟩
  cases j with
  |zero=>have a:o=e:=aB9;subst a;show IH C ops S o (T 0)/\δ (entry C S b o)=δ (entry C S (T 0) o);rw [k];exact⟨n,rfl⟩
  |succ j=>exact g j e aB9
theorem Yy:∀l:List Rg,fm l=γ l
 |[]=>rfl
 |_::l=>by show rY _=_;rw [Yy l];rfl
theorem GB:∀{a m:List Rg} {q:Rg},q∈a->q.1∈ji (γ a) (a++m)
 |x::a,m,q,h=>by
  rcases aP.1 h with rfl|h
  ·exact fE
  ·exact eT _ (GB h)
section
variable {C:Cx}{md:Md}{w0:ν}{S0:List Nat}{GS:Db}
structure Way (C:Cx) (ops:List ψ) (l:List ψ) (T:Nat->St) (es:List (Bool×List Nat)):Prop where
 st:∀(j:Nat) (o:ψ),l[j]? =δ o->IH C ops (T j) o (T (j+1))/\es[j]? =δ (entry C (T j) (T (j+1)) o)
 nd:∀(i j:Nat) (o o2:ψ) (t:Nat),l[i]? =δ o->l[j]? =δ o2->o.dst=δ t->o2.dst=δ t->i=j
variable {ops l:List ψ}{T:Nat->St}{es:List (Bool×List Nat)}
theorem Way.at(h:Way C ops l T es)(t:Nat):∀i,i<=γ l->(∀j (o:ψ),l[j]? =δ o->o.dst=δ t->(T i).at t=if j<i then(T (j+1)).at t else(T 0).at t)/\((∀(j:Nat) o,l[j]? =δ o->o.dst≠δ t)->(T i).at t=(T 0).at t)
 |0,_=>⟨λj o _ _=>by simp,λ_=>rfl⟩
 |i+1,q=>by
  obtain⟨p,n⟩:=h.at t i aA0;have a:l[i]? =δ _:=aO aA0;have b:=(W9 (h.st i _ a).1).1;refine⟨λj o k m=> ?_,λg=> ?_⟩
  ·by_cases d:j=i
   ·subst d;rw [aB aA0]
   ·have f:(l[i]' aA0).dst≠δ t:=λe=>d (h.nd j i _ _ t k a m e);rw [b t f,p j o k m];by_cases c:j<i
    ·rw [aB c,aB aA0]
    ·rw [aA c,aA aA0]
  ·rw [b t (g i _ a)];exact n g
theorem Way.nb(h:Way C ops l T es):∀i,i<=γ l->(T i).nb=(T 0).nb/\(T i).al=(T 0).al
 |0,_=>⟨rfl,rfl⟩
 |i+1,f=>by have a:l[i]? =δ _:=aO aA0;obtain⟨_,e,d⟩:=W9 (h.st i _ a).1;obtain⟨c,b⟩:=h.nb i aA0;exact⟨e.trans c,d.trans b⟩
theorem Way.still(h:Way C ops l T es):∀d i,i+d<=γ l->(∀j o,i<=j->j<i+d->l[j]? =δ o->qt C o.op=ζ)->(T (i+d)).H=(T i).H/\(T (i+d)).m=(T i).m
 |0,i,_,_=>⟨rfl,rfl⟩
 |d+1,i,k,c=>by obtain⟨b,e⟩:=h.still d i aA0 (λj o b e=>c j o b aA0);have a:l[i+d]? =δ _:=aO aA0;obtain⟨g,f⟩:=Wq (h.st _ _ a).1 (c _ _ aA0 aA0 a);exact⟨g.trans b,f.trans e⟩
theorem Way.Ze(h:Way C ops l T es){id:Nat}{n:Ob}:∀(d i:Nat),i+d<=γ l->(∀(j:Nat) (o:ψ) (p:Bool×List Nat),i<=j->j<i+d->l[j]? =δ o->es[j]? =δ p->p.1=ζ->id∉p.2)->fU (T i).H id=δ n->fU (T (i+d)).H id=δ n
 |0,i,_,_,r=>r
 |d+1,i,w,g,r=>by
  have k:=h.Ze d i aA0 (λj o p k s=>g j o p k aA0) r;have c:l[i+d]? =δ (l[i+d]' aA0):=aO aA0;obtain⟨s,v⟩:=h.st (i+d) _ c;have b:=g (i+d) _ _ aA0 aA0 c v;unfold entry at b;cases a:qt C (l[i+d]' aA0).op with
  |true=>show fU (T (i+d+1)).H id=_;rw [(Wq s a).1];exact k
  |false=>rw [a]at b;have b:=b rfl;obtain⟨f,u,t⟩:=RM s;refine t id n (λq g e=>b ?_) k;rw [Yy,Yy,u,bP];show id∈ji (Nat.sub (γ f+γ (T (i+d)).m) (γ (T (i+d)).m)) (f++(T (i+d)).m);rw [show Nat.sub (γ f+γ (T (i+d)).m) (γ (T (i+d)).m)=γ f from Nat.add_sub_cancel _ _,<-e];exact GB g
theorem vx{ρ:Nat->Ad}{S S2:St}{F:Nat->θ}{w:ν}(h:Rel C w0 S0 ρ S F w)(b:∀t,S2.at t=S.at t)(a:S2.H=S.H):Rel C w0 S0 ρ S2 F w:=by
 refine⟨?_,λt v c=>h.fr t v (by rw [<-b];exact c),λt=>by rw [b,a];exact h.fo t, ?_, ?_⟩
 ·rw [a];exact h.gl
 ·rw [a];exact h.ho
 ·rw [a];exact h.mem
variable {n:Nat}
theorem P0{v:SV}{id:Nat}(h:v.ok n)(hid:id∈Wg v):id<n:=by unfold Wg at hid;split at hid;all_goals first|(cases hid;done)|(have e:=aE.1 hid;subst e;exact h _ (aE.2 rfl))
theorem VG{a:π->SV}{op:Op}(h:n∈Vn a op):∃x∈op.operands,n∈Wg (a x):=by
 have key:∀l:List π,n∈GC a l->∃x∈l,n∈Wg (a x):=by
  intro l;induction l with
  |nil=>intro h;cases h
  |cons x l e=>
   intro h;rcases aR.1 (h)with h|h
   ·exact⟨x,fE,h⟩
   ·obtain⟨y,d,b⟩:=e h;exact⟨y,eT _ d,b⟩
 cases op<;>first|(cases h;done)|skip
 case load t x=>exact⟨x,by simp [mL],h⟩
 case indexAddr t x f=>exact⟨x,by simp [mL],h⟩
 case convert s t x=>exact⟨x,by simp [mL],h⟩
 case call c=>
  obtain⟨x,d,b⟩:=key _ h;refine⟨x, ?_,b⟩;simp only [mL,Call.operands,yQ];exact .inr aC9
theorem min_mem:∀{U:List Nat},U≠[]->∃i∈U,∀j∈U,i<=j
 |[x],_=>⟨x,fE,λj a=>by rw [aE.1 a];exact eK _⟩
 |x::y::U,_=>by
  obtain⟨i,c,b⟩:=min_mem (U:=y::U) aA2;by_cases h:x<=i
  ·exact⟨x,fE,λj a=>(aP.1 a).elim (λe=>by rw [e];exact eK _) λa=>lE h (b j a)⟩
  ·exact⟨i,eT _ c,λj a=>(aP.1 a).elim (λe=>by rw [e];omega) (b j)⟩
theorem Ur{a:Type}:∀(l:List a) k,QY l k=l.take k
 |[],k=>by simp [QY]
 |x::l,0=>rfl
 |x::l,k+1=>by simp [QY,Ur l k]
theorem Hm{ops:Array ψ}:∀{k j:Nat},R7 ops k=δ j->Fx ops j=ζ
 |0,j,h=>by have h:=dK h;cases h.2;exact h.1
 |k+1,j,h=>by
  have h:=dK h;have a:=h.2;split at a
  ·rename_i i b;cases a;exact Hm b
  ·cases a;exact h.1
theorem YQ:∀{l:List ψ},(Gj l).Nodup->∀(i j:Nat) (o b) (t:Nat),l[i]? =δ o->l[j]? =δ b->o.dst=δ t->b.dst=δ t->i=j
 |[],_,i,j,o,b,t,a=>by simp at a
 |x::l,h,i,j,o,b,t,a=>by
  intro f g c;have m:∀(i:Nat) (o:ψ),l[i]? =δ o->o.dst=δ t->t∈Gj l:=by
   intro i o a g;have p:∀{l:List ψ},o∈l->t∈Gj l:=by
    intro l;induction l with
    |nil=>intro h;cases h
    |cons y l n=>
     intro h;rw [zD];rcases aP.1 h with rfl|h
     ·exact .inl g
     ·exact .inr (n h)
   exact p (aG a)
  have k:(Gj l).Nodup/\(x.dst=δ t->t∉Gj l):=by
   simp only [Gj]at h;cases hx:x.dst with
   |none=>rw [hx]at h;exact⟨h,λe=>by cases e⟩
   |some d=>rw [hx]at h;simp at h;exact⟨h.2,λe=>by cases e;exact h.1⟩
  cases i with
  |zero=>
   have a:x=o:=aB9;subst a;cases j with
   |zero=>rfl
   |succ j=>exact absurd (m j b aE0 c) (k.2 g)
  |succ i=>
   cases j with
   |zero=>have f:x=b:=aE0;subst f;exact absurd (m i o aB9 g) (k.2 c)
   |succ j=>have:=YQ k.1 i j o b t aB9 aE0 g c;omega
end
open Go.Wk
open Go.Ce (Tr)
open List renaming replicate → fH
open Nat renaming blt → gA
open _root_.Array renaming replicate → HU
section
variable {C:Cx}{md:Md}{w0:ν}{S0:List Nat}{GS:Db}
variable {ops:Array ψ}{l:List ψ}{T:Nat->St}{es:List (Bool×List Nat)}{k:Nat}
structure Mid (C:Cx) (l:List ψ) (T:Nat->St) (listed:Array Bool) (X:St):Prop where
 at1:∀(t j:Nat) (o:ψ),l[j]? =δ o->o.dst=δ t->X.at t=if listed.getD j η=ζ then(T (j+1)).at t else(T 0).at t
 at2:∀t,(∀(j:Nat) (o:ψ),l[j]? =δ o->o.dst≠δ t)->X.at t=(T 0).at t
 nb:X.nb=(T 0).nb
 al:X.al=(T 0).al
 hv:∃h,h<=γ l/\X.H=(T h).H/\X.m=(T h).m/\∀(j:Nat) (o:ψ),l[j]? =δ o->qt C o.op=η->(listed.getD j η=ζ↔j<h)
variable {a:Nat->Ad}
theorem VM(hE:Env C md w0 S0 GS)(b9:md=⟨md.n,[],ε⟩)(hl:l=ops.toList.take k)(hk:k<=ops.size)(g3:Fx ops k=ζ)(d4:Region.seqB .any ops (ops.size-k) k (fH k ζ++fH (ops.size-k) η).toArray=ζ)
  (hb:Pt l 0=ζ) (g5:Jl ops.toList (iA l []) l l 0=ζ) (Y:Way C ops.toList l T es) (e0:OV (iA l []) es es 0=ζ) {Q:Exit->Act->ν->Prop}  {F0:Nat->θ}
  (e9:∀X ρ F w,Rel C w0 S0 ρ X F w->Nx (T 0) a X ρ->(∀t,X.at t=(T (γ l)).at t)->X.H=(T (γ l)).H->X.nb=(T (γ l)).nb->X.al=(T (γ l)).al->X.m=(T (γ l)).m->(∀t,t∉Gj l->F t=F0 t)->W C.P md ops Q (ops.toList.drop k) F w):
  ∀f (U:List Nat) listed X ρ F w,γ U=f->U.Nodup->(∀i,i∈U↔i<k/\listed.getD i η=η)->HeadInv .any ops k listed->Mid C l T listed X->Rel C w0 S0 ρ X F w->Nx (T 0) a X ρ->(∀t,t∉Gj l->F t=F0 t)->
   zE C.P .any ops Q (λ_ _ _=>True) k (λm w=>wpList C.P ops Q (ops.toList.drop k) m w) f listed (fr md F) w:=by
 have k0:γ l=k:=by rw [hl,kX,Array.length_toList];exact kB hk
 have a2:∀i,i<k->∃o,l[i]? =δ o/\ops[i]? =δ o:=by
  intro i hi;have e5:i<ops.size:=Tb hi hk;refine⟨ops[i], ?_,gP e5⟩;have e:l[i]? =ops.toList[i]? :=by rw [hl,bO,aB hi]
  rw [e,gF];exact gP e5
 have i9:∀{F:Nat->θ} {w:ν},W C.P md ops Q (ops.toList.drop k) F w->wpList C.P ops Q (ops.toList.drop k) (fr md F) w:=by intro F w h;unfold W WR at h;rw [b9]at h;rw [b9];exact h
 intro f;induction f with
 |zero=>
  intro U listed X ρ F w hU b7 R g Z hR hN hF;have j0:U=[]:=vJ hU;have I:∀i,i<k->listed.getD i η=ζ:=by
   intro i hi;cases hg:listed.getD i η with
   |true=>rfl
   |false=>have:=(R i).2 ⟨hi,hg⟩;rw [j0]at this;cases this
  have c1:listed=(fH k ζ++fH (ops.size-k) η).toArray:=by
   apply ae
   ·rw [g.size];simp;omega
   ·intro i r s;rw [g.size]at r;by_cases v:i<k
    ·have:=I i v;have e:listed.getD i η=listed[i]:=by simp [Array.getD,g.size,r]
     rw [e]at this;rw [this];simp [v]
    ·have:=g.tail i aA0 r;have e:listed.getD i ζ=listed[i]:=by simp [Array.getD,g.size,r]
     rw [e]at this;rw [this];simp [List.getElem_append,v]
  refine⟨by rw [c1];exact d4,i9 ?_⟩
  obtain⟨h,r,s,h3,h4⟩:=Z.hv;have b4:=Y.still (γ l-h) h aA0 (λj o k9 k8 b=>by
   cases z:qt C o.op with
   |true=>rfl
   |false=>have S:=(aD.1 b).1;have:=(h4 j o b z).1 (I j aA0);omega)
  rw [show h+(γ l-h)=γ l by omega]at b4;have d8:=Y.nb (γ l) (eK _);refine e9 X ρ F w hR hN (λt=> ?_) (s.trans b4.1.symm) (Z.nb.trans d8.1.symm) (Z.al.trans d8.2.symm) (h3.trans b4.2.symm) hF;obtain⟨h5,h6⟩:=Y.at t (γ l) (eK _);by_cases hw:∃(j:Nat) (o:ψ),l[j]? =δ o/\o.dst=δ t
  ·obtain⟨j,o,b,N⟩:=hw;have S:=(aD.1 b).1;rw [Z.at1 t j o b N,h5 j o b N,aB (I j aA0),aB S]
  ·have hn:∀(j:Nat) (o:ψ),l[j]? =δ o->o.dst≠δ t:=λj o b N=>hw ⟨j,o,b,N⟩;rw [Z.at2 t hn,h6 hn]
 |succ f ih=>
  intro U listed X ρ F w hU b7 R g Z hR hN hF;have f2:U≠[]:=λe=>by rw [e]at hU;cases hU
  obtain⟨i0,i1,d9⟩:=min_mem f2;have L:=(R i0).1 i1;refine⟨λhe=> ?_,λi hi=> ?_⟩
  ·
   obtain⟨o,O,a6⟩:=a2 i0 L.1
   have:i0∈Β .any ops listed:=by
    refine mem_ready.2 ⟨getD_in (by rw [g.size];omega) L.2,o,a6,λe c2 c4=> ?_⟩;have r:=oR hb i0 o O e c2 c4;cases hg:listed.getD e.on η with
    |true=>rfl
    |false=>have s:=(R e.on).2 ⟨aA0,hg⟩;have:=d9 e.on s;omega
   rw [he]at this;cases this
  ·obtain⟨g1,o,a6,I⟩:=mem_ready.1 hi;have B:listed.getD i η=η:=getD_both g1;have v:i<k:=by
    by_cases v:i<k
    ·exact v
    ·exact absurd hi (sJ g3 L.1 listed g (getD_in (by rw [g.size];omega) L.2) i aA0)
   refine⟨v, ?_⟩;obtain⟨o',O,a1⟩:=a2 i v;rw [a6]at a1;cases a1;have h0:i∈U:=(R i).2 ⟨v,B⟩;obtain⟨b3,e8⟩:=Y.st i o O;have d3:∀j∈Pu (iA l []) i,listed.getD j η=ζ:=Qb hl hb g i o O I;have f0:∀(j:Nat),j<k->listed.getD j η=ζ->i∉Pu (iA l []) j:=by intro j b c0 E;obtain⟨c,g6,d6⟩:=a2 j b;have:=Qb hl hb g j c g6 (λe he c4=>g.closed j c d6 c0 e he c4) i E;rw [B]at this;cases this
   have e4:∀j∈Pu (iA l []) i,j<i:=λj b=>LV hb i j b
   have a0:∀t,t∈Ac o.op.operands.toList++Vj ops.toList o->X.at t=(T i).at t:=by
    intro t ht;obtain⟨h5,h6⟩:=Y.at t i aA0;by_cases hw:∃(j:Nat) (o:ψ),l[j]? =δ o/\o.dst=δ t
    ·obtain⟨j,c,b,N⟩:=hw;have S:=(aD.1 b).1;rw [Z.at1 t j c b N,h5 j c b N];have h7:=Mm g5 i o O;rw [Ta]at h7;have h8:=Ub h7 j c t b N ht;rw [Ta]at h8;rcases h8 with rfl|h8
     ·rw [B,aA aA2,aA aA0]
     ·unfold DP at h8;cases E:mF i (Pu (iA l []) j)with
      |true=>
       have E:=Wo.1 E;have l0:=LV hb j i E
       have:listed.getD j η=η:=by
        cases hg:listed.getD j η with
        |false=>rfl
        |true=>exact absurd E (f0 j aA0 hg)
       rw [this,aA aA2,aA aA0]
      |false=>rw [E]at h8;have e3:=Wo.1 (show mF j (Pu (iA l []) i)=ζ from h8);rw [d3 j e3,aB rfl,aB (e4 j e3)]
    ·have hn:∀(j:Nat) (o:ψ),l[j]? =δ o->o.dst≠δ t:=λj o b N=>hw ⟨j,o,b,N⟩;rw [Z.at2 t hn,h6 hn]
   have a9:∀t,Operand.tmp t∈o.op.operands->X.at t=(T i).at t:=λt ht=>a0 t (yT _ (Ed.2 (by simpa using ht)));have i3:∀t∈Vj ops.toList o,X.at t=(T i).at t:=λt ht=>a0 t (XP _ ht)
   obtain⟨h,i2,a7,e7,V⟩:=Z.hv;have K:=Y.nb i aA0;have a3:∀j c,l[j]? =δ c->qt C c.op=η->((h<=j/\j<i)\/(i<=j/\j<h))->j≠i->DP (iA l []) i j=η:=by
    intro j c b z c3 q;have S:=(aD.1 b).1;unfold DP;rcases c3 with⟨r,s⟩|⟨r,s⟩
    ·have g7:listed.getD j η=η:=by
      cases hg:listed.getD j η with
      |false=>rfl
      |true=>have:=(V j c b z).1 hg;omega
     have e1:mF i (Pu (iA l []) j)=η:=by
      cases E:mF i _ with
      |false=>rfl
      |true=>have:=LV hb j i (Wo.1 E);omega
     have e2:mF j (Pu (iA l []) i)=η:=by
      cases E:mF j _ with
      |false=>rfl
      |true=>have:=d3 j (Wo.1 E);rw [g7]at this;cases this
     rw [e1,e2];rfl
    ·have c0:=(V j c b z).2 s;have e1:mF i (Pu (iA l []) j)=η:=by
      cases E:mF i _ with
      |false=>rfl
      |true=>exact absurd (Wo.1 E) (f0 j aA0 c0)
     have e2:mF j (Pu (iA l []) i)=η:=by
      cases E:mF j _ with
      |false=>rfl
      |true=>have:=e4 j (Wo.1 E);omega
     rw [e1,e2];rfl
   have b8:∀j c (p:Bool×List Nat),l[j]? =δ c->es[j]? =δ p->p.1=ζ->j≠i->DP (iA l []) i j=η->(entry C (T i) (T (i+1)) o).1=η/\∀x∈(entry C (T i) (T (i+1)) o).2,x∉p.2:=by intro j c p b J D q u;have r:=DV e0 i _ e8;rw [Ta]at r;have s:=Um r j p J aA0 (by rw [Ta];exact u) D;exact s
   have b6:∀(j:Nat) (c:ψ) (p:Bool×List Nat),l[j]? =δ c->es[j]? =δ p->p.1= !(qt C c.op):=by intro j c p b J;obtain⟨_,r⟩:=Y.st j c b;rw [J]at r;cases r;unfold entry;cases qt C c.op<;>rfl
   have M:qt C o.op=η->X.H=(T i).H/\X.m=(T i).m:=by
    intro z;have i7:(entry C (T i) (T (i+1)) o).1=ζ:=by unfold entry;rw [z];rfl
    have ε:∀j c,l[j]? =δ c->((h<=j/\j<i)\/(i<j/\j<h))->qt C c.op=ζ:=by
     intro j c b hc;cases d:qt C c.op with
     |true=>rfl
     |false=>exfalso;have S:=(aD.1 b).1;obtain⟨p,J⟩:∃p,es[j]? =δ p:=⟨_,(Y.st j c b).2⟩;have q:j≠i:=aA0;have u:=a3 j c b d aA0 q;have:=(b8 j c p b J (by rw [b6 j c p b J,d];rfl) q u).1;rw [i7]at this;cases this
    have h9:¬i<h:=λG=>by have:=(V i o O z).2 G;rw [B]at this;cases this
    have:=Y.still (i-h) h aA0 (λj c r s b=>ε j c b (.inl ⟨r,aA0⟩));rw [show h+(i-h)=i by omega]at this;exact⟨a7.trans this.1.symm,e7.trans this.2.symm⟩
   have a5:qt C o.op=ζ->nr (T i).H X.H (Vn ((T i).ev C) o.op):=by
    intro z id hid o2 hg;have c2:(entry C (T i) (T (i+1)) o).2=Vn ((T i).ev C) o.op:=by unfold entry;rw [z];rfl
    rw [a7];have f4:∀j c p,((h<=j/\j<i)\/(i<=j/\j<h))->l[j]? =δ c->es[j]? =δ p->p.1=ζ->id∉p.2:=by
     intro j c p hc b J D;have d:qt C c.op=η:=by
      have:=b6 j c p b J;rw [D]at this;cases d:qt C c.op with
      |false=>rfl
      |true=>rw [d]at this;cases this
     have q:j≠i:=λe=>by subst e;rw [O]at b;cases b;rw [z]at d;cases d
     have u:=a3 j c b d hc q;exact(b8 j c p b J D q u).2 id (by rw [c2];exact hid)
    by_cases l1:h<=i
    ·
     have G:id<γ (T h).H:=by
      obtain⟨x,hx,i4⟩:=VG hid;have i6:X.ev C x=(T i).ev C x:=by
       cases x with
       |tmp t=>show(bif gA t C.nn then X.at t else .u')=(bif gA t C.nn then(T i).at t else .u');rw [a9 t hx]
       |_=>rfl
      have d5:=(Sl hR hE.n x).1;rw [i6,a7]at d5;exact P0 d5 i4
     obtain⟨o3,a1⟩:∃o3,fU (T h).H id=δ o3:=by rw [gV];exact⟨_,aO G⟩
     have:=Y.Ze (i-h) h aA0 (λj c p r s b J D=>f4 j c p (.inl ⟨r,aA0⟩) b J D) a1;rw [show h+(i-h)=i by omega,hg]at this;rw [a1,this]
    ·have:=Y.Ze (h-i) i aA0 (λj c p r s b J D=>f4 j c p (.inr ⟨r,aA0⟩) b J D) hg;rw [show i+(h-i)=h by omega]at this;exact this
   obtain⟨X3,c5,b2,d7,f1,g4,e6⟩:=W8 b3 a9 i3 (Z.nb.trans K.1.symm) (Z.al.trans K.2.symm) a5 (λz=>(M z).1);have d1:=g.set hi v;have b5:i<listed.size:=by rw [g.size];omega
   have A:∀j,(listed.setIfInBounds i ζ).getD j η=if j=i then ζ else listed.getD j η:=by
    intro j;simp only [Array.getD_eq_getD_getElem?,Array.getElem?_setIfInBounds];by_cases e:i=j
    ·subst e;simp [b5]
    ·rw [aA e,aA (λh=>e h.symm)]
   have c6:W C.P md ops (Exit.then (λa' w'=>True/\zE C.P .any ops Q (λ_ _ _=>True) k (λm w=>wpList C.P ops Q (ops.toList.drop k) m w) f (listed.setIfInBounds i ζ) a' w') Q) [o] F w:=by
    refine HM hE c5 hR _ [] λf9 F2 w2 j1 j2 i5 _=>kS ⟨trivial, ?_⟩;refine ih _ _ X3 f9 F2 w2 (by rw [List.length_erase_of_mem h0,hU];rfl) (b7.erase i) (λj=> ?_) d1 ?_ j1 (hN.trans j2) (λt ht=> ?_)
    ·rw [b7.mem_erase_iff,R,A];constructor
     ·rintro⟨r,s,h3⟩;rw [aA r];exact⟨s,h3⟩
     ·rintro⟨r,s⟩;by_cases e:j=i
      ·rw [aB e]at s;cases s
      ·rw [aA e]at s;exact⟨e,r,s⟩
    ·refine⟨λt j c b N=> ?_,λt hn=> ?_,d7.trans K.1,f1.trans K.2, ?_⟩
     ·rw [b2 t,A];by_cases e:j=i
      ·subst e;rw [O]at b;cases b;rw [aB N,aB rfl,aB rfl]
      ·have g8:¬o.dst=δ t:=λe2=>e (Y.nd j i c o t b O N e2);rw [aA g8,aA e];exact Z.at1 t j c b N
     ·rw [b2 t,aA (hn i o O)];exact Z.at2 t hn
     ·cases z:qt C o.op with
      |true=>
       obtain⟨r,s⟩:=g4 z;refine⟨h,i2,r.trans a7,s.trans e7,λj c b d=> ?_⟩;rw [A];have q:j≠i:=λe=>by subst e;rw [O]at b;cases b;rw [z]at d;cases d
       rw [aA q];exact V j c b d
      |false=>
       obtain⟨r,s⟩:=e6 z;obtain⟨mn,h3,_⟩:=RM b3;refine⟨i+1,aA0,r, ?_,λj c b d=> ?_⟩
       ·rw [s mn h3,(M z).2,h3]
       ·rw [A];have S:=(aD.1 b).1;by_cases q:j=i
        ·subst q;simp
        ·rw [aA q,V j c b d];have h9:¬i<h:=λG=>by have:=(V i o O z).2 G;rw [B]at this;cases this
         constructor
         ·intro h4;omega
         ·intro h4;by_cases g9:j<h
          ·exact g9
          ·exfalso;obtain⟨p,J⟩:∃p,es[j]? =δ p:=⟨_,(Y.st j c b).2⟩;have u:=a3 j c b d (.inl ⟨aA0,aA0⟩) q;have:=(b8 j c p b J (by rw [b6 j c p b J,d];rfl) q u).1;unfold entry at this;rw [z]at this;cases this
    ·have g2:o.dst≠δ t:=λe=>ht (by
      have E:∀{l:List ψ},o∈l->t∈Gj l:=by
       intro l;induction l with
       |nil=>intro h;cases h
       |cons y l ih=>
        intro h;rw [zD];rcases aP.1 h with rfl|h
        ·exact .inl e
        ·exact .inr (ih h)
      exact E (aG O))
     rw [i5 t g2,hF t ht]
   unfold W WR at c6;rw [b9]at c6⊢;refine wpOp_mono ?_ (Mn a6 c6);rintro a' w' ⟨_,s⟩;exact⟨trivial,s⟩
theorem zA{t:Nat}:∀{l:List ψ},t∈Gj l↔∃o∈l,o.dst=δ t
 |[]=>by simp [Gj]
 |x::l=>by rw [zD,zA];simp
theorem nx_as{S X Y:St}{ρ:Nat->Ad}(h:Nx S a X ρ)(e:Y.H=X.H)(b:Y.nb=X.nb)(c:Y.al=X.al)(d:Y.m=X.m):Nx S a Y ρ:=
 ⟨⟨b.trans h.nb,c.trans h.al,by rw [e];exact h.le⟩,by rw [e,d];exact h.lg,λid j f=>by rw [d];exact h.mm id j f⟩
theorem R6(hE:Env C md w0 S0 GS)(f:md=⟨md.n,[],ε⟩){id:Nat}{ops:Array ψ}:Y1 C md w0 S0 id ops ζ:=by
 intro a8 S κ r I F w Q h y hk;have h:=h;unfold KT at h;have h:=dK h;have hm:=h.1;have h:=h.2;split at h
 ·rename_i k Y;have d:=Hm Y;have u:k<=ops.size:=by simp only [Fx,hO,bD]at d;exact d.1.2
  have h:=dK h;have l:=h.1;have h:=dK h.2;have hb:=h.1;have h:=dK h.2;have N:=nY.1 h.1;have h:=dK h.2;have K:=h.1;obtain⟨T,es,x,J,b⟩:=Ua _ _ _ _ h.2;have b:=dK b;have q:=b.1;have b:=b.2;have s:QY ops.toList k=ops.toList.take k:=Ur _ _;have hW:Way C ops.toList _ T es:=⟨J,YQ N⟩
  have v:∀X c z A,Rel C w0 S0 c X z A->Nx (T 0) I X c->(∀t,X.at t=(T (γ (QY ops.toList k))).at t)->X.H=(T (γ (QY ops.toList k))).H->X.nb=(T (γ (QY ops.toList k))).nb->X.al=(T (γ (QY ops.toList k))).al->X.m=(T (γ (QY ops.toList k))).m->(∀t,t∉Gj (QY ops.toList k)->z t=F t)->W C.P md ops Q (ops.toList.drop k) z A:=by
   intro X c z A hR hN kV D O a1 V hF;rw [oC]at b;refine Yq hE _ k _ c z A rfl b (vx hR (λt=>(kV t).symm) D.symm) λS2 G F3 w3 h1 E h3 h4 h5=> ?_;rw [x]at hN;refine hk S2 G F3 w3 h1 E ((nx_as hN D.symm O.symm a1.symm V.symm).trans h3) (λt B=> ?_) (V8 rfl);have e:ops.toList=QY ops.toList k++ops.toList.drop k:=by rw [s,IL]
   have U:t∉Gj _:=λZ=>B (by obtain⟨o,M,hd⟩:=zA.1 Z;exact zA.2 ⟨o,by rw [e];exact yT _ M,hd⟩);have R:t∉Gj (ops.toList.drop k):=λZ=>B (by obtain⟨o,M,hd⟩:=zA.1 Z;exact zA.2 ⟨o,Rh M,hd⟩);rw [h4 t R,hF t U]
  have g:HeadInv .any ops k (HU ops.size η):=
   ⟨aA2,λj oj _ s=>(by rw [getD_replicate_false]at s;cases s),λt _ B=>getD_in aE8 (getD_replicate_false _ _)⟩
  have a4:Mid C (QY ops.toList k) T (HU ops.size η) (T 0):=by
   refine⟨λt j o _ _=> ?_,λt _=>rfl,rfl,rfl,0,cO _,rfl,rfl,λj o _ _=> ?_⟩
   ·rw [getD_replicate_false,aA aA2]
   ·rw [getD_replicate_false];simp
  have p:∀w',Rel C w0 S0 I _ F w'->zE C.P .any ops Q _ k _ k _ _ w':=λw' hR=>
   VM hE f s u d l hb K hW q v k _ _ _ _ _ _ List.length_range List.nodup_range (λi=>by rw [getD_replicate_false];simp) g a4 hR Nx.refl (λ_ _=>rfl)
  unfold Go.Wk.C CC;rw [f];refine wp_region_any hm ?_;have a2:Rel C w0 S0 I (T 0) F {w with drawn:=w.drawn+1}:=by rw [x];refine⟨y.gl,y.fr,y.fo,y.ho, ?_⟩;obtain⟨L,D,hM⟩:=y.mem;exact⟨L,D.QM,hM⟩
  have h1:=p _ a2;have E:=Yh u (λa w h=>h) k _ _ _ h1;rw [show k+(ops.size-k)=ops.size by omega,f]at E;exact E
 ·cases h
end
open Go.Wk
open Go.Ce (Tr)
theorem di{C:Cx}{md:Md}{w0:ν}{S0:List Nat}{k:Db}(i:Env C md w0 S0 k)(h:md=⟨md.n,[],ε⟩):∀c:Code,qK C md w0 S0 c:=by
 intro c;induction c with
 |region id j d=>cases d with
  |false=>exact TE i
  |true=>exact R6 i h
 |seq a b f e=>exact⟨f,e⟩
 |cond c a b f e=>exact⟨f,e⟩
 |block id a g=>exact g
 |loop a g=>exact g
 |scope a g=>exact g
 |_=>trivial
theorem Zo{a:Type}{f:SC->Option a}{l r:List SC}{x:a}{ss:List Src}(h:qp f l=δ (x,r,ss)):γ l=1+γ r:=by obtain⟨c,rfl,_,_⟩:=oL h;rw [bX,Jc]
theorem rd_cn(any:Bool)(H:List Ob):∀(t:Ty) s l x r ss,t.rd any H s l=δ (x,r,ss)->γ l=t.cn+γ r:=by
 intro t;induction t with
 |w' t c=>intro s l x r ss h;exact c s l x r ss h
 |pr a b f d=>
  intro s l x r ss h;simp only [Ty.rd]at h;split at h
  ·rename_i m g o q;split at h
   ·rename_i i u n p;cases h;have w:=f s l m g o q;have v:=d s g i _ n p;show γ l=a.cn+b.cn+γ r;omega
   ·cases h
  ·cases h
 |i' k=>intro s l x r ss h;exact Zo h
 |c'=>intro s l x r ss h;exact Zo h
 |s'=>intro s l x r ss h;exact Zo h
 |b'=>intro s l x r ss h;exact Zo h
 |u'=>intro s l x r ss h;cases h;exact(Ta _).symm
 |sm a b _ _=>intro s l x r ss h;cases h
 |l' e b t c=>
  intro s l x r ss h;simp only [Ty.rd]at h;split at h
  ·cases h;rw [Jc];rfl
  ·split at h
   ·have h:=(dK (dK h).2).2;split at h
    ·cases h;rw [Jc];rfl
    ·cases h
   ·cases h
  ·split at h
   ·have h:=(dK (dK (dK h).2).2).2;split at h
    ·cases h;rw [Jc];rfl
    ·cases h
   ·cases h
  ·cases h
 |y'=>
  intro s l x r ss h;simp only [Ty.rd]at h;split at h
  ·split at h
   ·cases h;rw [Jc];rfl
   ·cases h
  ·cases h
 |r' t c=>
  intro s l x r ss h;simp only [Ty.rd]at h;split at h
  ·cases h;rw [Jc];rfl
  ·split at h
   ·cases h;rw [Jc];rfl
   ·cases h
  ·split at h
   ·split at h
    ·cases h;rw [Jc];rfl
    ·cases h
   ·cases h
  ·cases h
 |p' e t c=>
  intro s l x r ss h;simp only [Ty.rd]at h;split at h
  ·split at h
   ·have h:=(dK (dK h).2).2;split at h
    ·cases h;rw [Jc];rfl
    ·cases h
   ·cases h
  ·cases h
 |z'=>
  intro s l x r ss h;simp only [Ty.rd]at h;split at h
  ·have h:=(dK h).2;cases h;rw [Jc];rfl
  ·have h:=(dK (dK h).2).2;cases h;rw [Jc];rfl
  ·have h:=(dK h).2;split at h
   ·cases h;rw [Jc];rfl
   ·cases h
  ·cases h
 |o' j=>
  intro s l x r ss h;simp only [Ty.rd]at h;split at h
  ·have h:=(dK h).2;cases h;rw [Jc];rfl
  ·cases h
 |f' k t c=>
  intro s l x r ss h;simp only [Ty.rd]at h;split at h
  ·have h:=(dK h).2;split at h
   ·cases h;rw [Jc];rfl
   ·cases h
  ·cases h
theorem Tq:∀{l vs:List SC},γ vs=γ l->vL l 0 vs=δ vs
 |[],[],_=>rfl
 |[],_::_,h=>by cases h
 |_::_,[],h=>by cases h
 |x::l,v::vs,h=>by simp only [vL,Tq aA8]
theorem Uq{a:Type}:∀(l:List a),Am l (γ l)=δ l
 |[]=>rfl
 |x::l=>by simp only [bX,Am,Uq l]
def KR(n0:Nat)(H0 H1:List Ob)(E:List Nat)(al:List Rg):Rk->Prop
 |.r' _=>True
 |.o' id _ x=>id<n0/\(∀j,j<x.cn->eY id j al=ζ)/\∃b a,H1[id]? =δ (.bl b a)
 |.w' id _=>id<n0/\eY id 0 al=ζ/\id∉E/\wI H0[id]? =ζ
section
variable {n0:Nat}{H2 H0 H1:List Ob}{ρ cT ρ3:Nat->Ad}{F2:Nat->θ}{E:List Nat}{al:List Rg}{Fm:Tr SV}{done:List Src}
variable {q:Rk}{v:q.ty.T}
theorem PI.pf(h:PI n0 H2 ρ cT ρ3 F2 E H0 al Fm H1 done)(iX:MC cT H2)(c:MD H2)(d:γ H0<=n0)(k:Up n0 cT ρ3){vs g:List SV}{i:List Src}(a:q.rd H2 vs=δ (v,i,g))(m:KR n0 H0 H1 E al q)
  (f:∀j s,i[j]? =δ s->ρ3 (γ H1+j)=s.ad cT) (l:List SA):PI n0 H2 ρ cT ρ3 F2 E H0 al Fm (q.put (λj=>j) (l,H1) v).2 (done++i)/\
   ∃B:List θ,vs.map (SV.v cT)=B.map δ++g.map (SV.v cT)/\(q.put (λj=>j) (l,H1) v).1.map (SA.v ρ3)=l.map (SA.v ρ3)++B:=by
 cases q with
 |r' x=>
  cases vs with
  |nil=>cases a
  |cons v0 vs=>
   simp only [Rk.rd]at a;split at a
   ·rename_i y C b;cases a;have D:=Yc c b;obtain⟨⟨u,p,_,A⟩,o⟩:=D.to cT ρ3 (γ H1) f;have H:γ i=γ (x.lay 0 (γ H1) v).2:=by rw [D.no];exact(Ty.eL x 0 (γ H1) v).symm
    refine⟨h.app iX c d H f o (lj x 0 (γ H1) v),[u],by rw [yS,p];rfl, ?_⟩;show(l++[x.sa (x.lay 0 (γ H1) v).1]).map _=_;rw [AY,jM,A]
   ·cases a
 |o' id e x=>
  simp only [Rk.rd]at a;split at a
  ·rename_i y C b;cases a;obtain⟨p,A,I,K,o⟩:=m;unfold rdO at b;split at b
   ·rename_i N cs z;have b:=dK b;have w:=iB b.1;subst w;have n:=rd_cn η H2 x id cs _ _ _ (uZ b.2);rw [fT,BG]at n;have r:rdB H2 id 0 x=δ (v,i):=by unfold rdB;rw [z];simp only [oC,WV];rw [<-n,Uq];exact b.2
    have F:=h.pg iX c d k r p (λj _ L=>A j aA0) f;rw [gV]at z;obtain⟨J,G,M,_⟩:=h.ba id _ p o;rw [z]at G;cases G;have t:E7 H1 id 0 x v=kA H1 id (.bl I (x.lay id (γ H1) v).1)++(x.lay id (γ H1) v).2:=by unfold E7;rw [gV,o];simp only [Ye];rw [Tq ((Ty.Zb x id (γ H1) v).trans aA0)]
    rw [t]at F;exact⟨F,[],rfl,by rw [fI];rfl⟩
   ·cases b
  ·cases a
 |w' id x=>
  simp only [Rk.rd]at a;split at a
  ·rename_i y C b;cases a;exact⟨h.pe iX c d k b m.1 m.2.1 m.2.2.1 m.2.2.2,[],rfl,by rw [fI];rfl⟩
  ·cases a
variable {a:Nat}
theorem dx{l:List SA}{H1:List Ob}{o:Ob}(h:a∉Rk.ids [q])(b:H1[a]? =δ o):(q.put (λj=>j) (l,H1) v).2[a]? =δ o:=by
 cases q with
 |r' x=>exact Cd b
 |o' j e x=>exact Cd (by rw [x1 (λe=>h (by rw [<-e];exact aE.2 rfl))];exact b)
 |w' j x=>
  show(rK H1 j x v)[a]? =δ o;unfold rK;split
  ·rw [x1 (λe=>h (by rw [<-e];exact aE.2 rfl))];exact b
  ·exact b
variable {r:List Rk}
theorem Og:Rk.ids (q::r)=Rk.ids [q]++Rk.ids r:=by cases q<;>rfl
theorem uV(h:q∈r)(hid:a∈Rk.ids [q]):a∈Rk.ids r:=by
 induction r with
 |nil=>cases h
 |cons x r b=>
  rw [Og];rcases aP.1 h with rfl|h
  ·exact yT _ hid
  ·exact XP _ (b h)
theorem PI.A0(iX:MC cT H2)(f:MD H2)(d:γ H0<=n0)(c:Up n0 cT ρ3):∀r H1 done y ss vs l,PI n0 H2 ρ cT ρ3 F2 E H0 al Fm H1 done->rdR H2 r vs=δ (y,ss)->(Rk.ids r).Nodup->
  (∀q∈r,KR n0 H0 H1 E al q)->(∀j s,ss[j]? =δ s->ρ3 (γ H1+j)=s.ad cT)->PI n0 H2 ρ cT ρ3 F2 E H0 al Fm (gM (λj=>j) (l,H1) r y).2 (done++ss)/\
   ∃g:List θ,vs.map (SV.v cT)=g.map δ/\(gM (λj=>j) (l,H1) r y).1.map (SA.v ρ3)=l.map (SA.v ρ3)++g
 |[],H1,done,y,ss,vs,l,h,a,_,_,_=>by
  cases vs with
  |nil=>cases a;exact⟨by rw [fI];exact h,[],rfl,by rw [fI];rfl⟩
  |cons _ _=>cases a
 |[q],H1,done,y,ss,vs,l,h,a,_,o,b=>by
  simp only [rdR]at a;split at a
  ·rename_i x F hx;cases a;obtain⟨t,g,B,A⟩:=h.pf iX f d c hx (o q fE) b l;exact⟨t,g,by rw [B,eG,fI],A⟩
  ·cases a
 |q::T::r,H1,done,y,ss,vs,l,h,a,n,o,b=>by
  simp only [rdR]at a;split at a
  ·rename_i x F u hx;split at a
   ·rename_i z K L;cases a
    obtain⟨t,g,B,A⟩:=h.pf iX f d c hx (o q fE) (λj s p=>b j s (by rw [aI (aD.1 p).1];exact p)) l;have S:=t.len;have U:=h.len;rw [bP]at S;rw [Og]at n;obtain⟨H,m,k⟩:=List.nodup_append.1 n;obtain⟨J,w,Q,P⟩:=PI.A0 iX f d c _ _ _ z K u (q.put _ _ x).1 t L m (λG i=>by
     have I:=o G (eT _ i);cases G with
     |r' x=>trivial
     |o' id e x=>obtain⟨O,N,R,D,C⟩:=I;refine⟨O,N,R,D,dx (λM=> ?_) C⟩;exact k _ M _ (uV i (aE.2 rfl)) rfl
     |w' id x=>exact I) (λj s p=>by
     rw [show(q.put _ _ x).2.length+j=γ H1+(γ F+j)by omega];exact b _ s (by rw [aN aA0,<-p];congr 1;omega))
    rw [gH]at J;exact⟨J,g++w,by rw [B,Q,AY],by show(gM _ _ _ z).1.map _=_;rw [P,A,gH]⟩
   ·cases a
  ·cases a
end
theorem YZ{m:Nat}:∀{x:Ty} {v:x.T},Ff x=ζ->∃o,aw m x v=δ o:=by intro x;cases x<;>intro v h<;>first|exact⟨_,rfl⟩|cases h
theorem TJ:∀r y l (a b),γ a=γ b->(∀id,gJ a id=gJ b id)->(∀id,id∉Rk.ids r->a[id]? =b[id]?)->(∀q∈r,∀id x,q=.w' id x->Ff x=ζ)->
  gM (λj=>j) (l,a) r y=gM (λj=>j) (l,b) r y:=by
 have n:∀{a b:List Ob} {id:Nat} {o:Ob},γ a=γ b->(∀id,gJ a id=gJ b id)->∀k,gJ (kA a id o) k=gJ (kA b id o) k:=by
  intro a b id o c f k;rw [XG,XG,yA,yA,c];split
  ·rfl
  ·rw [<-XG,<-XG];exact f k
 have s:∀{a b B:List Ob},γ a=γ b->(∀id,gJ a id=gJ b id)->∀k,gJ (a++B) k=gJ (b++B) k:=by
  intro a b B c f k;rw [XG,XG];by_cases C:k<γ a
  ·rw [aI C,aI aA0,<-XG,<-XG];exact f k
  ·rw [aN aA0,aN aA0,c]
 have p:∀{a b B:List Ob} {k:Nat},γ a=γ b->a[k]? =b[k]? ->(a++B)[k]? =(b++B)[k]? :=by
  intro a b B k c g;by_cases C:k<γ a
  ·rw [aI C,aI aA0];exact g
  ·rw [aN aA0,aN aA0,c]
 have one:∀q v l (a b) (N:List Nat),γ a=γ b->(∀id,gJ a id=gJ b id)->(∀id,id∉Rk.ids [q]->id∉N->a[id]? =b[id]?)->(∀id x,q=.w' id x->Ff x=ζ)->
   (q.put (λj=>j) (l,a) v).1=(q.put (λj=>j) (l,b) v).1/\γ (q.put (λj=>j) (l,a) v).2=γ (q.put (λj=>j) (l,b) v).2/\(∀id,gJ (q.put (λj=>j) (l,a) v).2 id=gJ (q.put (λj=>j) (l,b) v).2 id)/\∀id,id∉N->(q.put (λj=>j) (l,a) v).2[id]? =(q.put (λj=>j) (l,b) v).2[id]? :=by
  intro q v l a b N c f g u;cases q with
  |r' x=>show l++[x.sa (x.lay 0 (γ a) v).1]=l++[x.sa (x.lay 0 (γ b) v).1]/\γ (a++(x.lay 0 (γ a) v).2)=γ (b++(x.lay 0 (γ b) v).2)/\(∀id,gJ (a++(x.lay 0 (γ a) v).2) id=gJ (b++(x.lay 0 (γ b) v).2) id)/\∀id,id∉N->(a++(x.lay 0 (γ a) v).2)[id]? =(b++(x.lay 0 (γ b) v).2)[id]?;rw [c];exact⟨rfl,by simp [c],s c f,λid hid=>p c (g id (λh=>by cases h) hid)⟩
  |o' i e x=>
   show l=l/\γ (kA a i _++(x.lay i (γ a) v).2)=γ (kA b i _++(x.lay i (γ b) v).2)/\(∀id,gJ (kA a i _++(x.lay i (γ a) v).2) id=gJ (kA b i (.bl e (x.lay i (γ b) v).1)++(x.lay i (γ b) v).2) id)/\∀id,id∉N->(kA a i (.bl e (x.lay i (γ a) v).1)++(x.lay i (γ a) v).2)[id]? =(kA b i (.bl e (x.lay i (γ b) v).1)++(x.lay i (γ b) v).2)[id]?;rw [c];have t:∀o:Ob,γ (kA a i o)=γ (kA b i o):=λo=>by rw [LU,LU,c]
   refine⟨rfl,by simp [t],s (t _) (n c f),λid hid=>p (t _) ?_⟩;rw [yA,yA,c];by_cases m:id=i
   ·subst m;by_cases d:id<γ b
    ·rw [aB ⟨rfl,d⟩,aB ⟨rfl,d⟩]
    ·rw [aA (λh=>d h.2),aA (λh=>d h.2),bM aA0,bM aA0]
   ·rw [aA (λh=>m h.1),aA (λh=>m h.1)];exact g id (λh=>m (aE.1 h)) hid
  |w' i x=>
   show l=l/\γ (rK a i x v)=γ (rK b i x v)/\(∀id,gJ (rK a i x v) id=gJ (rK b i x v) id)/\∀id,id∉N->(rK a i x v)[id]? =(rK b i x v)[id]?;have hx:=u i x rfl;unfold rK;rw [f i];split
   ·rename_i o G;refine⟨rfl,by rw [LU,LU,c],n c f,λid hid=> ?_⟩;rw [yA,yA,c];by_cases m:id=i
    ·subst m;by_cases d:id<γ b
     ·rw [aB ⟨rfl,d⟩,aB ⟨rfl,d⟩]
     ·rw [aA (λh=>d h.2),aA (λh=>d h.2),bM aA0,bM aA0]
    ·rw [aA (λh=>m h.1),aA (λh=>m h.1)];exact g id (λh=>m (aE.1 h)) hid
   ·rename_i A;obtain⟨o,G⟩:=YZ hx;have w:=A.symm.trans G;cases w
 intro r;induction r with
 |nil=>intro y l a b c f g _;have e:=bV λk=>g k (λh=>by cases h);rw [e]
 |cons q r J=>
  intro y l a b c f g u;cases r with
  |nil=>obtain⟨E,z,H,D⟩:=one q y l a b [] c f (λid h _=>g id h) (u q fE);have e:=bV λk=>D k (λh=>by cases h);exact Prod.ext E e
  |cons F r=>
   obtain⟨E,z,H,D⟩:=one q y.1 l a b _ c f (λid h z=>g id (by rw [Og];exact λK=>(aR.1 K).elim h z)) (u q fE);have:=J y.2 (q.put (λj=>j) (l,a) y.1).1 (q.put _ _ y.1).2 (q.put _ _ y.1).2 z H D (λI L=>u I (eT _ L));show gM _ _ (F::r) y.2=gM _ _ (F::r) y.2;have O:q.put (λj=>j) (l,a) y.1=((q.put (λj=>j) (l,a) y.1).1,(q.put (λj=>j) (l,a) y.1).2):=rfl;have M:q.put (λj=>j) (l,b) y.1=((q.put (λj=>j) (l,a) y.1).1,(q.put (λj=>j) (l,b) y.1).2):=by rw [E]
   rw [O,M];exact this
open Go.Wk
open Go.Ce (Tr)
open Nat renaming one_pos → Jd
theorem PG:∀a b x,TY a=ζ->∃obs,(jZ b a x).2=b++obs/\γ (jZ b a x).1=γ a/\(∀v∈(jZ b a x).1,v.ok (γ b+γ obs))/\∀(j e:Nat) cs,obs[j]? =δ (.bl e cs)->∀c∈cs,c.ok (γ b+γ obs)
 |[],b,x,h=>⟨[],by simp [jZ],rfl,λv n=>by simp [jZ]at n,λj e cs d=>by simp at d⟩
 |[t],b,x,h=>by
  have k:t.tz=η:=by
   simp only [TY]at h;cases i:t.tz with
   |true=>rw [i]at h;cases h
   |false=>rfl
  refine⟨(t.lay 0 (γ b) x).2,rfl,rfl,λv f=> ?_,lj t 0 (γ b) x⟩;rw [aE.1 (f)];exact Ty.Gq (bbi t 0 (γ b) x k)
 |t::t2::a,b,x,h=>by
  have k:t.tz=η/\TY (t2::a)=ζ:=by
   have h:(bif t.tz then η else TY _)=ζ:=h;cases i:t.tz with
   |true=>rw [i]at h;cases h
   |false=>rw [i]at h;exact⟨rfl,h⟩
  obtain⟨obs,r,q,p,o⟩:=PG _ _ x.2 k.2;have g:γ (b++(t.lay 0 (γ b) x.1).2)=γ b+γ (t.lay 0 (γ b) x.1).2:=bP;refine⟨(t.lay 0 (γ b) x.1).2++obs,by rw [<-gH];exact r,by show(_::(jZ _ _ x.2).1).length=_;rw [bX,q];rfl,λv f=> ?_,λj e cs d c m=> ?_⟩
  ·rw [bP,<-De,<-g];rcases aP.1 (f)with rfl|f
   ·exact SV.cN (Ty.Gq (bbi t 0 (γ b) x.1 k.1)) aA0
   ·exact p v f
  ·rw [bP,<-De,<-g];by_cases l:j<γ (t.lay 0 (γ b) x.1).2
   ·rw [aI l]at d;exact SC.cN (lj t 0 (γ b) x.1 j e cs d c m) aA0
   ·rw [aN aA0]at d;exact o _ e cs d c m
def noA:List Ty->Nat
 |[]=>0
 |t::a=>t.no+noA a
theorem PH:∀a b x,γ (jZ b a x).2=γ b+noA a
 |[],b,x=>rfl
 |[t],b,x=>by show(b++(t.lay 0 (γ b) x).2).length=_;rw [bP];have:=Ty.eL t 0 (γ b) x;show _=γ b+(t.no+0);omega
 |t::t2::a,b,x=>by show(jZ _ _ x.2).2.length=_;rw [PH _,bP,Ty.eL];show _=γ b+(t.no+noA _);omega
theorem CL:∀vs F (i t),Sa (SX F i vs) t=if i<=t/\t<i+γ vs then vs.getD (t-i) .u' else Sa F t
 |[],F,i,t=>by rw [aA aA2];rfl
 |v::vs,F,i,t=>by
  show Sa (SX _ _ vs) t=_;rw [CL vs,Jw,bX];by_cases b:t=i
  ·subst b;rw [aA aA0,aB rfl,aB aA0,Iz];rfl
  ·by_cases a:i+1<=t/\t<i+1+γ vs
   ·rw [aB a,aB aA0,show t-i=(t-(i+1))+1 by omega];rfl
   ·rw [aA a,aA b,aA aA0]
theorem Qg{r:List Rk}{g:List Ob}{id j:Nat}:∀{l:List Ob} {i:Nat},eY id j (Ss r g l i)=ζ->∃o,i<=id/\l[id-i]? =δ o/\((wI (δ o)=ζ/\j=0)\/(wI (δ o)=η/\id∈Rk.ids r/\j<(tN g id).2.2))
 |[],i,h=>by simp [Ss,eY]at h
 |o::l,i,h=>by
  rcases Hv.1 h with h|h
  ·cases d:wI _ with
   |true=>rw [d]at h;obtain⟨q,a,c,f,b⟩:=wO.1 h;have a:=aE.1 a;subst a;subst c;exact⟨o,eK _,aA2,.inl ⟨d,by have b:j<1:=b;omega⟩⟩
   |false=>
    rw [d]at h;cases e:mF i _ with
    |false=>rw [e]at h;simp [eY]at h
    |true=>rw [e]at h;obtain⟨q,a,c,f,b⟩:=wO.1 h;have a:=aE.1 a;subst a;have c:i=id:=c;subst c;exact⟨o,eK _,aA2,.inr ⟨d,Wo.1 e,b⟩⟩
  ·obtain⟨k,c,f,b⟩:=Qg h;refine⟨k,aA0, ?_,b⟩;rw [show id-i=(id-(i+1))+1 by omega];exact f
theorem sj{H:List Ob}:∀{r:List Rk},OO H r=ζ->∀q∈r,match q with
  |.r' _=>True
  |.o' id e x=>∃cs,H[id]? =δ (.bl e cs)/\γ cs=x.cn
  |.w' id x=>wI H[id]? =ζ/\Ff x=ζ
 |d::r,h,q,b=>by
  have h:=iK (h);rcases aP.1 b with rfl|b
  ·cases q with
   |r' x=>trivial
   |o' id e x=>
    have a:=h.1;simp only [gV]at a;split at a
    ·rename_i f cs c;have a:=iK a;rw [iB a.1]at c;exact⟨cs,c,iB a.2⟩
    ·cases a
   |w' id x=>have a:=iK h.1;rw [gV]at a;exact a
  ·exact sj h.2 q b
def Z4:List Rk->List Rg
 |[]=>[]
 |k::l=>match k with
  |.r' _=>Z4 l
  |.o' id _ x=>(id,0,x.cn)::Z4 l
  |.w' id _=>(id,0,1)::Z4 l
theorem Dv:∀{r:List Rk} {q:Rg},q∈Z4 r->(∃id e x,Rk.o' id e x∈r/\q=(id,0,x.cn))\/∃id x,Rk.w' id x∈r/\q=(id,0,1)
 |k::r,q,h=>by
  cases k with
  |r' x=>
   rcases Dv (show q∈Z4 r from h)with⟨id,e,x,b,a⟩|⟨id,x,b,a⟩
   ·exact .inl ⟨id,e,x,eT _ b,a⟩
   ·exact .inr ⟨id,x,eT _ b,a⟩
  |o' i e x=>
   rcases aP.1 (h)with rfl|h
   ·exact .inl ⟨i,e,x,fE,rfl⟩
   ·rcases Dv h with⟨id,e,x,b,a⟩|⟨id,x,b,a⟩
    ·exact .inl ⟨id,e,x,eT _ b,a⟩
    ·exact .inr ⟨id,x,eT _ b,a⟩
  |w' i x=>
   rcases aP.1 (h)with rfl|h
   ·exact .inr ⟨i,x,fE,rfl⟩
   ·rcases Dv h with⟨id,e,x,b,a⟩|⟨id,x,b,a⟩
    ·exact .inl ⟨id,e,x,eT _ b,a⟩
    ·exact .inr ⟨id,x,eT _ b,a⟩
theorem CV{id e:Nat}{x:Ty}:∀{r:List Rk},Rk.o' id e x∈r->(id,0,x.cn)∈Z4 r
 |k::r,h=>by
  rcases aP.1 h with rfl|a
  ·exact fE
  ·cases k with
   |r' _=>exact(show _∈Z4 r from CV a)
   |o' _ _ _=>exact eT _ (CV a)
   |w' _ _=>exact eT _ (CV a)
theorem CU{id:Nat}{x:Ty}:∀{r:List Rk},Rk.w' id x∈r->(id,0,1)∈Z4 r
 |k::r,h=>by
  rcases aP.1 h with rfl|a
  ·exact fE
  ·cases k with
   |r' _=>exact(show _∈Z4 r from CU a)
   |o' _ _ _=>exact eT _ (CU a)
   |w' _ _=>exact eT _ (CU a)
theorem Of{id:Nat}:∀{r:List Rk},id∈Rk.ids r->(∃e x,Rk.o' id e x∈r)\/∃x,Rk.w' id x∈r
 |k::r,h=>by
  cases k with
  |r' x=>
   rcases Of (show id∈Rk.ids r from h)with⟨e,x,a⟩|⟨x,a⟩
   ·exact .inl ⟨e,x,eT _ a⟩
   ·exact .inr ⟨x,eT _ a⟩
  |o' i e x=>
   rcases aP.1 (h)with rfl|h
   ·exact .inl ⟨e,x,fE⟩
   ·rcases Of h with⟨e,x,a⟩|⟨x,a⟩
    ·exact .inl ⟨e,x,eT _ a⟩
    ·exact .inr ⟨x,eT _ a⟩
  |w' i x=>
   rcases aP.1 (h)with rfl|h
   ·exact .inr ⟨x,fE⟩
   ·rcases Of h with⟨e,x,a⟩|⟨x,a⟩
    ·exact .inl ⟨e,x,eT _ a⟩
    ·exact .inr ⟨x,eT _ a⟩
section
variable {C:Cx}{md:Md}{w0 w:ν}{S0:List Nat}{GS:Db}{ρ Y8:Nat->Ad}{Se:St}{Fe:Nat->θ}{a:List Ty}{r:List Rk}{H gs:List Ob}
theorem zv(c2:md=⟨md.n,[],ε⟩)(hn:C.nn=md.n)(hS:Rel C w0 S0 Y8 Se Fe w)(U:MC ρ H)(b3:∀(id e:Nat) cs,H[id]? =δ (.bl e cs)->∀c∈cs,c.ok (γ H))(a8:(Rk.ids r).Nodup)(d:OO H r=ζ)
  (I:Le (γ (H++gs)) (Ss r H H 0) ρ (H++gs) Y8 Se.H) {rs:List ResultVar} {y:(iF r).T} (h:TD C (γ (H++gs)) (Ss r H H 0) rs r Se=δ y):
  ∃D L2 us,Up (γ H) ρ D/\Hp w0 S0 L2 w/\Mt w0 S0 D (gM (λj=>j) ([],kill H (Io (Rk.ids r) H 0)) r y).2 L2/\(gM (λj=>j) ([],kill H (Io (Rk.ids r) H 0)) r y).1.map (SA.v D)=us/\
   (rs.map (Go.Oe.jB C Se)).map (SV.v Y8)=us.map δ:=by
 unfold TD at h;split at h
 ·rename_i x ss hr;have h:=dK h;have P:=iK (h.1);have b:=dK h.2;have X:=tI.1 b.1;cases b.2;let E:=Io (Rk.ids r) H 0;let R:=Z4 r
  let ρ3:Nat->Ad:=λid=>if id<γ H then Y8 id else match ss[id-γ H]? with
   |some s=>s.ad Y8
   |none=>Y8 id
  have l:Up (γ H) Y8 ρ3:=λid hi=>by simp only [ρ3,hi,iL]
  have A:Up (γ H) ρ Y8:=λid hi=>I.up id aC1;have N:=A.trans l (eK _);have Z:∀j s,ss[j]? =δ s->ρ3 (γ H+j)=s.ad Y8:=by intro j s hj;have a:¬γ H+j<γ H:=aA0;have b:γ H+j-γ H=j:=aA0;simp only [ρ3,a,oZ,b,hj]
  have f:∀id,id∈E↔∃o,H[id]? =δ o/\wI (δ o)=ζ/\id∉Rk.ids r:=by intro id;show id∈Io _ H 0↔_;rw [Bp];simp
  have M:∀q∈R,(∃e cs,H[q.1]? =δ (.bl e cs)/\q.2.2<=γ cs)\/(wI H[q.1]? =ζ/\q.2=(0,1)):=by
   intro q k;rcases Dv k with⟨id,e,x,a,rfl⟩|⟨id,x,a,rfl⟩
   ·obtain⟨cs,g,B⟩:=sj d _ a;exact .inl ⟨e,cs,g,by rw [B];exact eK _⟩
   ·exact .inr ⟨(sj d _ a).1,rfl⟩
  have a1:∀id∈E,wI H[id]? =ζ\/∃e cs,H[id]? =δ (.bl e cs):=by intro id hid;obtain⟨o,a,b,_⟩:=(f id).1 hid;exact .inl (by rw [a];exact b)
  have Y:∀id j,eY id j (Ss r H H 0)=ζ->eY id j (R++Wm H E)=ζ:=by
   intro id j J;obtain⟨o,_,a,b⟩:=Qg J;rw [jJ]at a;rcases b with⟨b,rfl⟩|⟨b,g,B⟩
   ·by_cases m:id∈Rk.ids r
    ·rcases Of m with⟨e,x,p⟩|⟨x,p⟩
     ·obtain⟨cs,z,_⟩:=sj d _ p;rw [a]at z;cases z;cases b
     ·exact Hv.2 (.inl (wO.2 ⟨_,CU p,rfl,eK _,Jd⟩))
    ·exact Hv.2 (.inr (avu ((f id).2 ⟨o,a,b,m⟩)))
   ·rcases Of g with⟨e,x,p⟩|⟨x,p⟩
    ·obtain⟨cs,z,h7⟩:=sj d _ p;refine Hv.2 (.inl (wO.2 ⟨_,CV p,rfl,cO _, ?_⟩));unfold tN at B;rw [gV,z]at B;show j<x.cn;rw [<-h7];exact B
    ·have:=(sj d _ p).1;rw [a,b]at this;cases this
  have V:Le (γ H) (R++Wm H E) ρ H Y8 Se.H:=by refine⟨by have:=I.len;rw [bP]at this;omega,A,λid o hi m=> ?_⟩;have:=I.kp id o aC1 (by rw [aI hi];exact m);exact this.mono λj J=>Y id j J
  have h0:=PI.si (F2:=Fe) (Fm:=(Tr.e:Tr SV)) (ρ3:=ρ3) U b3 M a1 V N (λt u hu=>by
   have e:Sa (Tr.e:Tr SV) t=.u':=aF2;rw [e]at hu;cases hu) (λt=>by
   have e:Sa Tr.e t=.u':=aF2;rw [e];trivial)
  have G:γ (kill (Wj H R) E)=γ H:=by rw [bci,bbt]
  have b5:∀q∈r,KR (γ H) H (kill (Wj H R) E) E (R++Wm H E) q:=by
   intro q k;have m:=sj d q k;cases q with
   |r' x=>trivial
   |o' id e x=>
    obtain⟨cs,g,B⟩:=m;refine⟨(aD.1 g).1,λj hj=>Hv.2 (.inl (wO.2 ⟨_,CV k,rfl,cO _,hj⟩)), ?_⟩;obtain⟨o2,p,K,rfl,_⟩:=awc g;have b0:id∉E:=λhE=>by obtain⟨o,z,h7,_⟩:=(f id).1 hE;rw [g]at z;cases z;cases h7
    exact⟨e,K,by rw [RD,aA b0];exact p⟩
   |w' id x=>
    have m:wI H[id]? =ζ/\Ff x=ζ:=m;have S:id<γ H:=by
     cases g:H[id]? with
     |none=>rw [g]at m;cases m.1
     |some _=>exact(aD.1 g).1
    refine⟨S,Hv.2 (.inl (wO.2 ⟨_,CU k,rfl,eK _,Jd⟩)),λhE=> ?_,m.1⟩;obtain⟨o,_,_,z⟩:=(f id).1 hE;exact z (uV k (aE.2 rfl))
  obtain⟨hP,us,a6,O⟩:=PI.A0 (zT hS) (zU hS) (eK _) l r _ [] y ss _ [] h0 hr a8 b5 (by rw [G];exact Z);rw [vX]at hP;obtain⟨L,hH,hM⟩:=hS.mem;obtain⟨L3,b6,a0⟩:=hP.mem hH hM l Z (nY.1 P.1) (λid hid S=>by
   have J:=Ae P.2 (by show id<γ (H++gs);rw [bP];omega) (avu hid);obtain⟨o,_,a,b⟩:=Qg J;rw [jJ]at a;have Q:=X id hid;rcases b with⟨b,_⟩|⟨_,g,_⟩
   ·exact(f id).2 ⟨o,a,b,Q⟩
   ·exact absurd g Q)
  have F:gM (λj=>j) ([],kill (Wj H R) E) r y=gM (λj=>j) ([],kill H E) r y:=by
   have b1:∀id,gJ (kill (Wj H R) E) id=gJ (kill H E) id:=by
    intro id;rw [XG,XG,RD,RD];cases W:H[id]? with
    |none=>rw [Hg W]
    |some o=>
     obtain⟨o2,a,b⟩:=awc W;rw [a];split
     ·exact b.len
     ·exact b.len
   refine TJ r y [] _ _ (by rw [bci,bbt,bci]) b1 (λid hid=> ?_) (λq k id x e=> ?_)
   ·rw [RD,RD];cases W:H[id]? with
    |none=>rw [Hg W]
    |some o=>
     have a9:∀j,eY id j R=η:=by
      intro j;cases J:eY id j R with
      |false=>rfl
      |true=>
       exfalso;obtain⟨q,k,a,_⟩:=wO.1 J;rcases Dv k with⟨i,e,x,g,rfl⟩|⟨i,x,g,rfl⟩
       ·have a:=a;subst a;exact hid (uV g (aE.2 rfl))
       ·have a:=a;subst a;exact hid (uV g (aE.2 rfl))
     have a7:∀q∈R,q.1≠id:=by
      intro q k e;rcases Dv k with⟨i,e2,x,g,rfl⟩|⟨i,x,g,rfl⟩
      ·have e:=e;subst e;exact hid (uV g (aE.2 rfl))
      ·have e:=e;subst e;exact hid (uV g (aE.2 rfl))
     obtain⟨o2,a,b⟩:=awc W;have e:o2=o:=by
      cases o with
      |bl e cs=>
       obtain⟨K,rfl,g,B⟩:=b;have:K=cs:=bV λj=>by rw [B,a9 j,aA aA2]
       rw [this]
      |_=>
       rcases b with⟨b,_⟩|⟨_,q,k,g⟩
       ·exact b
       ·exact absurd g (a7 q k)
     rw [a,e]
   ·have:=sj d q k;rw [e]at this;exact this.2
  rw [F]at a0 O;refine⟨ρ3,L3,us,N,b6,a0,by rw [O];rfl,a6⟩
 ·cases h
end
open Go.Wk
open Go.Ce (Tr)
open List renaming length → aM, replicate → fH
open Nat renaming beq → cV, blt → gA
section
variable {C:Cx}{md:Md}{w0 w:ν}{S0:List Nat}{GS:Db}{ρ:Nat->Ad}{S:St}{F:Nat->θ}
variable {u:θ}
theorem JW{t : φ}{a : π}{p : χ}(hx : aZ md F a = .pointer (δ p))(h : (ξ (aZ md F) (⟨δ 0, .load t a, 0, "", #[], ε⟩)).run C.P w = .ok (.value u) w) : (loadVar t p).run C.P w = .ok u w := by
 simp only [ξ,hx,Instr.loadAt,Instr.sureAddr,Sem.run_bind,Sem.run_pure,Result.andThen_ok]at h;cases b:(loadVar t p).run C.P w with
 |ok v w'=>rw [b]at h;simp at h;rw [h.1,h.2]
 |halt x w'=>rw [b]at h;cases h
theorem TC(j:C.nn=md.n)(g:Rel C w0 S0 ρ S F w){rv:ResultVar}(h:(Go.Oe.jB C S rv).v ρ=δ u):(Go.Wk.jB (fr md F).tmps rv).run C.P w=.ok u w:=by
 cases rv with
 |tmp t=>have:=(Sl g j (.tmp t)).2 u h;have e:(bif gA t md.n then F t else undef)=u:=this;unfold Go.Wk.jB;simp only [qA,e,Sem.run_pure]
 |cell a t=>
  have h:((match S.ev C (.tmp a)with
   |.c' x=>match lJ C S.H t x with
    |some ⟨[],v,_,_⟩=>v
    |_=>.u'
   |_=>.u'):SV).v ρ=δ u:=h
  split at h
  ·rename_i x hx;have d:=hx;obtain⟨s,c⟩:=oT g j d;split at h
   ·rename_i v H m b;obtain⟨⟨_,r,k,q⟩,_⟩:=OZ g c b trivial;rw [h]at k;cases k
    have o := q 0 0 "" #[];have f:∃p,x.v ρ=.pointer (δ p):=by
     unfold lJ at b;split at b
     ·rename_i n y _ _;cases i:cV n 0 with
      |true=>rw [i]at b;cases b
      |false=>rw [i]at b;cases x<;>first|exact⟨_,rfl⟩|cases b
     ·cases b
    obtain⟨p,f⟩:=f;rw [f]at c;have l:=JW c o;have e:(bif gA a md.n then F a else undef)=.pointer _:=c;unfold Go.Wk.jB;simp only [qA,e];exact l
   ·cases h
  ·cases h
end
def TS:List θ->θ
 |[u]=>u
 |a=>.tuple a.toArray
variable {P:ω}{k:Nat}{w:ν}{a:Func}
theorem Lu{F:Nat->θ}(l:List ResultVar)(vs:List θ)(e:a.results=l.toArray)(g:aM l=aM vs)
  (d:∀(i:Nat) x v,l[i]? =δ x->vs[i]? =δ v->(Go.Wk.jB (fr ⟨k,[],ε⟩ F).tmps x).run P w=.ok v w) (v:θ) (c:TS vs=v):
  (results a (fr ⟨k,[],ε⟩ F).tmps).run P w=.ok v w:=by
 have f:=Lp _ l vs g d;unfold results;rw [e];change Sem.run P (do let vs<-l.toArray.mapM (Go.Wk.jB (fr _ F).tmps);pure (if h:vs.size=1 then vs[0]else .tuple vs)) w=_;simp;rw [f];subst c;cases vs with
 |nil=>simp [TS]
 |cons u b=>cases b with
  |nil=>simp [TS]
  |cons u' b=>simp [TS]
theorem D1{ρ:Nat->Ad}:∀l,(mA l).v ρ=δ (TS (l.map (SA.v ρ)))
 |[]=>rfl
 |[x]=>SA.bx ρ x
 |_::_::_=>rfl
variable {s:Db}
theorem zd{C:Cx}{code:Code}{gl:List (Nat×Ob)}{rs:List ResultVar}{sc:Sc}{G:List Ty}{r:List Rk}{f:(gL G).T->Gv (iF r).T}(hf:C.P.funcs[k]? =δ a)(hb:a.body=δ code)(hn:a.ntmps=C.nn)(hr:a.results=rs.toArray)
  (F:∀x y,(f x).ok y->denF C (gl.map (·.2)) code rs sc G r x=δ y) (c9:aM G<=C.nn) (hE:EOk C) (hX:∀k,∀c∈C.X k,Enters C.P k/\AV C.P s k c) (c7:∀q∈gl,q∈s.gs/\∃t l,q.2=.ro t l)
  (hG:∀g id,C.G g=δ id->∃i q,id=noA G+i/\gl[i]? =δ q/\q.1=g):AV C.P s k ⟨G,r,f⟩:=by
 intro w S ρ L us x y b8 d1 d0 K hy;let H:List Ob:=(jZ [] G x).2;have f6:mG _ x=H:=rfl;let gs:List Ob:=gl.map (·.2);have hd:=F x y hy;have hd:=hd;have hd:=dK hd;have hc:=iK hd.1;have b7:=iK hc.2;have c5:=hc.1;have c6:=nY.1 b7.1;have b1:=b7.2;have F:=hd.2;obtain⟨a8,b2,A,Y,M⟩:=PG G [] x c5;rw [vX]at b2;have N:H=a8:=b2;have Z:aM H=noA G:=by have:=PH G [] x;rw [fT,Ta]at this;exact this
 have a2:γ ([]:List Ob)+aM a8=aM H:=by rw [N];simp
 rw [a2]at Y M;have hm:Mt w S ρ H L:=d0;have R:∀(i:Nat) (q:Nat×Ob),gl[i]? =δ q->∃t l,q.2=.ro t l/\Rd w (δ ⟨q.1,0,ε⟩) (l.flatMap t.enc)/\q.1∉S:=by intro i q hq;obtain⟨g,o⟩:=q;obtain⟨d,t,l,b⟩:=c7 _ (aG hq);have b:o=.ro t l:=b;subst b;have:=s.rd b8 d;exact⟨t,l,rfl,this.1,this.2⟩
 let m:Nat->Ad:=λid=>if id<aM H then ρ id else match gl[id-aM H]? with
  |some q=>⟨ε,δ ⟨q.1,0,ε⟩,q.2.len,η,q.2.len⟩
  |none=>ρ id
 have T:Up (γ H) ρ m:=λid E=>by simp only [m,E,iL]
 have b6:∀(i:Nat) (q:Nat×Ob),gl[i]? =δ q->m (aM H+i)=⟨ε,δ ⟨q.1,0,ε⟩,q.2.len,η,q.2.len⟩:=by intro i q hq;have e1:¬γ H+i<aM H:=aA0;have e2:aM H+i-aM H=i:=aA0;simp only [m,e1,oZ,e2,hq]
 have c2:(jZ [] G x).1.map (SV.v m)=us.map δ:=by have K:(jZ [] G x).1.map (SV.v ρ)=us.map δ:=K;rw [<-K];refine Y9 λv hv=>SV.up T (Y v hv)
 have b3:aM us=aM G:=by have:=aV aM K;simp at this;rw [<-this];exact A
 let S1:St:=⟨SX Tr.e 0 (jZ [] G x).1,H++gs,γ (H++gs),Ss r H H 0,[]⟩;have b4:γ (H++gs)=aM H+aM gl:=by simp [gs]
 have b0:Rel C w S m S1 (LN us) w:=by
  have kV:∀t,S1.at t=if t<aM G then(jZ [] G x).1.getD t .u' else .u':=by intro t;rw [St.at_eq];show Sa (SX Tr.e 0 (jZ [] G x).1) t=_;rw [CL,A];have e:Sa (Tr.e:Tr SV) t=.u':=aF2;rw [e];simp
  refine⟨λg id hg=> ?_,λt u Q=> ?_,λt=> ?_,λid e cs h c c8=> ?_,⟨L++fH (γ gl) dQ, ?_, ?_, ?_⟩⟩
  ·obtain⟨i,q,d,b,rfl⟩:=hG g id hg;have E:=(aD.1 b).1;rw [<-Z]at d;subst d;exact⟨by show γ H+i<γ (H++gs);omega,by rw [b6 i q b]⟩
  ·rw [kV]at Q;split at Q
   ·rename_i W;have d:(jZ [] G x).1[t]? =δ ((jZ [] G x).1[t]' aD8):=aO aD8;have b:=aV (λl=>l[t]?) c2;simp only [bE,d]at b;have B:us[t]? =δ (us[t]' aA0):=aO aA0;rw [B]at b;rw [bQ,d]at Q;have O:=aJ b;rw [show((δ ((jZ [] G x).1[t]' aD8)).getD SV.u')=(jZ [] G x).1[t]' aD8 from rfl,O]at Q;unfold LN;rw [bQ,B];exact aJ Q
   ·cases Q
  ·rw [kV];split
   ·rename_i W;have d:(jZ [] G x).1[t]? =δ ((jZ [] G x).1[t]' aD8):=aO aD8;rw [bQ,d];exact SV.cN (Y _ (aG d)) (by show γ H<=γ (H++gs);omega)
   ·trivial
  ·have h:(H++gs)[id]? =δ (.bl e cs):=h;by_cases E:id<aM H
   ·rw [aI E,N]at h;exact SC.cN (M id e cs h c c8) (by show γ H<=γ (H++gs);omega)
   ·rw [aN aA0]at h;exfalso;obtain⟨q,d,b⟩:=map_some h;obtain⟨t,l,B,_⟩:=R _ q d;rw [B]at b;cases b
  ·have key:∀n,Hp w S (L++fH n dQ) w:=by
    intro n;induction n with
    |zero=>rw [List.replicate_zero,fI];exact d1
    |succ n ih=>have:=Go.Oe.Hp.rot (uW ih);rw [gH]at this;rw [List.replicate_succ'];exact this
   exact key _
  ·show(L++_).length=γ (H++gs);rw [bP,List.length_replicate,b4,hm.1]
  ·intro id o h;have h:=h;by_cases E:id<aM H
   ·rw [aI E]at h;obtain⟨d,r1,b,B⟩:=hm.2 id o h;refine⟨by rw [T id E];exact d,r1,by rw [aI (by rw [hm.1];exact E)];exact b,B.up T E λe cs he=> ?_⟩;rw [he,N]at h;exact M id e cs h
   ·rw [aN aA0]at h;obtain⟨q,d,b⟩:=map_some h;obtain⟨t,l,B,O,h5⟩:=R _ q d;have a0:=b6 _ q d;rw [show γ H+(id-aM H)=id by omega]at a0;rw [B]at b;subst b;have b5:=(aD.1 d).1;refine⟨by rw [a0,B],dQ, ?_,rfl, ?_⟩
    ·rw [aN (by rw [hm.1];omega),rG,aB (by rw [hm.1];exact b5)]
    ·rw [a0];exact⟨O,λ_ p hp=>by cases hp;exact h5,by rw [B];exact eK _⟩
 let md:Md:=⟨C.nn,[],ε⟩;have b9:Env C md w S s:=⟨hE,rfl,b8,hX⟩
 have a9:=VQ (τ:=iF r) (res:=TD C (γ (H++gs)) (Ss r H H 0) rs r) (md:=md) (w0:=w) (S0:=S) (C:=C) rfl ⟨_,rfl⟩ (wm rfl) code (di b9 rfl code);have c0:∀U D F2 I,TD C (γ (H++gs)) (Ss r H H 0) rs r U=δ y->Rel C w S D U F2 I->Le S1.nb S1.al m S1.H D U.H->
   ∃J v,aM rs=aM J/\(∀(i:Nat) (x:ResultVar) (u:θ),rs[i]? =δ x->J[i]? =δ u->(Go.Wk.jB (fr md F2).tmps x).run C.P I=.ok u I)/\TS J=v/\
    ∃j V,Up (γ H) ρ j/\Hp w S V I/\Mt w S j (lZ _ x y).2 V/\(mA (lZ _ x y).1).v j=δ v:=by
  intro U D F2 I d b B;obtain⟨j,V,J,O,h5,h6,h7,h8⟩:=zv (md:=md) (H:=H) (gs:=gs) (ρ:=m) rfl rfl b (λid o h=>by have E:=(aD.1 h).1;rw [T id E];exact hm.lns id o h) (λid e cs h=>by rw [N]at h;exact M id e cs h) c6 b1 B d;refine⟨J,_,by simpa using aV aM h8,λi rv u E Q=> ?_,rfl,j,V,T.trans O (eK _),h5,h6, ?_⟩
  ·have h9:=aV (λl=>l[i]?) h8;simp only [bE,E,Q]at h9;exact TC rfl b (aJ h9)
  ·rw [<-h7];exact D1 _
 refine enter hf hb hn (by rw [b3];exact c9) ?_;refine a9 sc S1 _ δ _ y m _ w _ F b0 (λe U D F2 I he a1 hN e8 d3=> ?_) (λz U D F2 I hz c4 a1 hL=> ?_)
 ·cases e with
  |nm=>obtain⟨J,v,d,b,B,j,V,O⟩:=c0 U D F2 I he a1 hN.le;exact⟨rfl,v,Lu rs J hr d b v B,v,rfl,j,V,O⟩
  |xt i=>cases he
 ·cases c4;obtain⟨J,v,d,b,B,j,V,O⟩:=c0 U D F2 I hz a1 hL.le;exact⟨rfl,v,Lu rs J hr d b v B,v,rfl,j,V,O⟩
open Go.Wk
open Go.Ce (Tr)
open List renaming replicate → fH
open Nat renaming beq → cV, one_pos → Jd, succ → rY
structure KF (P:ω) (GS:Db) where
 k:Nat
 c:Ct
 en:Enters P k
 ok:AV P GS k c
def Uu{P:ω}{a:Db}:List (KF P a)->Nat->List Ct
 |[],_=>[]
 |q::l,k=>bif cV k q.k then q.c::Uu l k else Uu l k
theorem Na{P:ω}{b:Db}:∀(l:List (KF P b)) (k:Nat),∀c∈Uu l k,Enters P k/\AV P b k c
 |[],k,c,h=>by cases h
 |q::l,k,c,h=>by
  unfold Uu at h;cases a:cV k q.k with
  |false=>rw [a]at h;exact Na l k c h
  |true=>
   rw [a]at h;rcases aP.1 (show c∈q.c::Uu l k from h)with rfl|h
   ·rw [iB a];exact⟨q.en,q.ok⟩
   ·exact Na l k c h
def jf:List (Nat×Ob)->Nat->Nat->Option Nat
 |[],_,_=>ε
 |q::l,n,g=>bif cV g q.1 then δ n else jf l (rY n) g
theorem QH:∀(l:List (Nat×Ob)) (n g id:Nat),jf l n g=δ id->∃i q,id=n+i/\l[i]? =δ q/\q.1=g
 |[],n,g,id,h=>by cases h
 |q::l,n,g,id,h=>by
  unfold jf at h;cases a:cV g q.1 with
  |false=>rw [a]at h;obtain⟨i,b,e,d,c⟩:=QH l (rY n) g id h;exact⟨i+1,b,aA0,d,c⟩
  |true=>rw [a]at h;cases h;exact⟨0,q,rfl,rfl,(iB a).symm⟩
structure Sea where
 P:ω
 GS:Db
 E:Nat->Option (Nat×Nat×Ty)
 hE:∀t e b τ,E t=δ (e,b,τ)->P.underlying t=δ (.slice e)/\TI P e τ.sz b/\τ.flat=ζ/\0<b
 gt:∀q∈GS.gs,∃t l,q.2=.ro t l
abbrev Sea.K(T:Sea):Type:=KF T.P T.GS
abbrev Sea.cx(T:Sea)(fu n:Nat)(l:List T.K)(a:List Ty):Cx:=⟨T.P,Uu l,T.E,jf T.GS.gs (noA a),n,fu⟩
def Sea.fn(T : Sea)(fu k : Nat){fn : Func}(e : T.P.funcs[k]? = δ fn){code : Code}(f : fn.body = δ code)(nm : (fn.name == "runtime.NumGoroutine") = η)(l : List T.K)(a : List Ty)(r : List Rk)(g : (gL a).T -> Option (iF r).T)(sc : Sc)
  (c:Nat.ble (γ a) fn.ntmps=ζ) (b:∀x,denF (T.cx fu fn.ntmps l a) (T.GS.gs.map (·.2)) code fn.results.toList sc a r x=g x):T.K:=
 ⟨k,⟨a,r,λx=>.one (g x)⟩,⟨fn,code,e,f,nm⟩,
  zd (C:=T.cx fu fn.ntmps l a) (gl:=T.GS.gs) e f rfl (rs:=fn.results.toList) aA2 (sc:=sc) (λx y i=>(b x).trans i) (BJ c) T.hE (Na l) (λq d=>⟨d,T.gt q d⟩) (λg id h=>QH _ _ _ _ h)⟩
variable {c:Ct}
theorem WD(V:(gL c.a).T->List θ)(R:(iF c.r).T->θ)(h:∀w S x y,s.p w S->(c.f x).ok y->CR P k (V x) w λv j=>v=R y/\Hp w [] [] j)(C:∀x,mG c x=[]:=by intros;rfl)(z:∀ρ x,(jZ [] c.a x).1.map (SV.v ρ)=(V x).map δ:=by intros;rfl)(l:∀x y,(lZ c x y).2=[]:=by intros;rfl)(A:∀ρ x y,(mA (lZ c x y).1).v ρ=δ (R y):=by intros;rfl):AV P s k c:=by intro w S ρ L m x y D i g d n;rw [z]at d;have e:V x=m:=(Qr (λa b h=>aJ h)).1 d;subst e;have B:L=[]:=vJ (by rw [g.1,C];rfl);subst B;refine Calls.mono (h w S x y D n) ?_;rintro E j ⟨v,u,rfl,q⟩;refine⟨_,u,ρ,[],λ_ _=>rfl,i.call q, ?_,A ρ x y⟩;rw [l];exact⟨rfl,λid o t=>by simp at t⟩
theorem P3{t:Ty}(X:(gL c.a).T->List t.T)(V:(gL c.a).T->List θ)(R:(iF c.r).T->θ)(h:∀w S x y a n cap,s.p w S->(c.f x).ok y->n=γ (X x)->Rd w a ((X x).flatMap t.enc)->n<=cap->CR P k (μ a n cap::V x) w λv j=>v=R y/\Hp w [] [] j)(B:∀x,mG c x=[.ro t (X x)]:=by intros;rfl)(z:∀(ρ:Nat->Ad) x,(jZ [] c.a x).1.map (SV.v ρ)=(μ (ρ 0).a (ρ 0).ln (ρ 0).cap::V x).map δ:=by intros;rfl)(m:∀x y,(lZ c x y).2=[.ro t (X x)]:=by intros;rfl)(A:∀ρ x y,(mA (lZ c x y).1).v ρ=δ (R y):=by intros;rfl):AV P s k c:=by intro w S ρ L E x y C i d g o;rw [z]at g;have e:=(Qr (λa b h=>aJ h)).1 g;subst e;rw [B]at d;obtain⟨D,r,G,F,l⟩:=d.2 0 _ rfl;have iX:(ρ 0).ln=γ (X x):=D.symm;refine Calls.mono (h w S x y _ _ _ C o iX l.1 (by rw [iX];exact l.2.2)) ?_;rintro H j ⟨v,u,rfl,q⟩;refine⟨_,u,ρ,L,λ_ _=>rfl,i.call q, ?_,A ρ x y⟩;rw [m];exact d
theorem jk{e b:Nat}{t:Ty}(Y:(iF c.r).T->List t.T)(V:(gL c.a).T->List θ)(h:∀w S x y,s.p w S->(c.f x).ok y->CR P k (V x) w λv l=>∃o a cap,v=.slice a (γ (Y y)) cap/\Hp w [] [bA t.enc e t.sz o a cap (Y y)] l)(q:∀x,mG c x=[]:=by intros;rfl)(C:∀(ρ:Nat->Ad) x,(jZ [] c.a x).1.map (SV.v ρ)=(V x).map δ:=by intros;rfl)(A:∀x y,(lZ c x y).2=[.rw e b t (Y y)]:=by intros;rfl)(D:∀(ρ:Nat->Ad) x y,(mA (lZ c x y).1).v ρ=δ (.slice (ρ 0).a (ρ 0).ln (ρ 0).cap):=by intros;rfl):AV P s k c:=by
 intro w S ρ L G x y F j g d u;rw [C]at d;have e:=(Qr (λa b h=>aJ h)).1 d;subst e;have E:L=[]:=vJ (by rw [g.1,q];rfl);subst E;refine Calls.mono (h w S x y F u) ?_;rintro H l ⟨v,B,o,a,cap,rfl,z⟩;refine⟨_,B,λid=>⟨o,a,cap,η,γ (Y y)⟩,_,(λi n=>by rw [q]at n;cases n),j.mQ z, ?_,D _ x y⟩;rw [A];refine⟨rfl,λid ob m=> ?_⟩;cases id with
 |zero=>cases m;exact⟨rfl,_,rfl,rfl⟩
 |succ id=>simp at m
theorem Fj{e b:Nat}{t:Ty}(X:(gL c.a).T->List t.T)(Y:(iF c.r).T->List t.T)(h:∀w S x y a n cap,s.p w S->(c.f x).ok y->n=γ (X x)->Rd w a ((X x).flatMap t.enc)->n<=cap->CR P k [μ a n cap] w λv B=>∃o a cap,v=.slice a (γ (Y y)) cap/\Hp w [] [bA t.enc e t.sz o a cap (Y y)] B)(z:∀x,mG c x=[.ro t (X x)]:=by intros;rfl)(H:∀(ρ:Nat->Ad) x,(jZ [] c.a x).1.map (SV.v ρ)=[μ (ρ 0).a (ρ 0).ln (ρ 0).cap].map δ:=by intros;rfl)(E:∀x y,(lZ c x y).2=[.ro t (X x),.rw e b t (Y y)]:=by intros;rfl)(I:∀(ρ:Nat->Ad) x y,(mA (lZ c x y).1).v ρ=δ (.slice (ρ 1).a (ρ 1).ln (ρ 1).cap):=by intros;rfl):AV P s k c:=by
 intro w S ρ L N x y J m g j C;rw [H]at j;have e:=(Qr (λa b h=>aJ h)).1 j;subst e;rw [z]at g;obtain⟨A,r,M,K,q⟩:=g.2 0 _ rfl;have iX:(ρ 0).ln=γ (X x):=A.symm;refine Calls.mono (h w S x y _ _ _ J C iX q.1 (by rw [iX];exact q.2.2)) ?_;rintro O B ⟨v,G,o,a,cap,rfl,D⟩;have F:=(m.mQ D).perm (XQ (l₁:=[_]) (l₂:=L));have l:γ L=1:=g.1;refine⟨_,G,λid=>if id=0 then ρ 0 else⟨o,a,cap,η,γ (Y y)⟩,_,λi u=> ?_,F, ?_,I _ x y⟩
 ·rw [z]at u;have:i=0:=Nat.lt_one_iff.1 u;subst this;rfl
 rw [E];refine⟨by simp [l],λid ob d=> ?_⟩
 match id,d with
 |0,d=>cases d;exact⟨A,r,by rw [aI aA0];exact M,K,q⟩
 |1,d=>cases d;exact⟨rfl,_,by rw [aN aA0,l];rfl,rfl⟩
 |id+2,d=>simp at d
theorem KN{e b q:Nat}{t:Ty}{G:List t.T->Option (List t.T)}(h:AV P s k ⟨[.l' e b t,.f' q .u'],[.w' 0 (.l' e b t)],λx=>.one (G x.1)⟩){o:Option Nat}{a:Option χ}{cap:Nat}{l r:List t.T}{S:List Nat}
  (y:G l=δ r) (C:s.p w S) (A:Hp w S [bA t.enc e t.sz o a cap l] w):CR P k [μ a (γ l) cap,Γ (.func q) #[] #[]] w λv w'=>v=.tuple #[]/\γ r=γ l/\Hp w S [bA t.enc e t.sz o a cap r] w':=by
 refine Calls.mono (h w S (λ_=>⟨o,a,cap,η,γ l⟩) _ [μ a (γ l) cap,Γ (.func q) #[] #[]] (l,()) r C A ?_ rfl y) ?_
 ·show Mt w S _ [.rw e b t l] _;refine⟨rfl,λid ob n=> ?_⟩;cases id with
  |zero=>cases n;exact⟨rfl,_,rfl,rfl⟩
  |succ id=>simp at n
 ·rintro I H ⟨v,z,c,m,i,F,d,E⟩
  have i:c 0=⟨o,a,cap,η,γ l⟩:=i 0 Jd;have d:Mt w S c [.rw e b t r] m:=d;obtain⟨g,u,f,j⟩:=d.2 0 _ rfl;have g:γ r=(c 0).ln:=g;have j:u=bA t.enc e t.sz (c 0).o (c 0).a (c 0).cap r:=j;subst j;rw [i]at g f;have B:m=[bA t.enc e t.sz o a cap r]:=by
   have D:=d.1
   match m,D,f with
   |[x],_,f=>cases f;rfl
  subst B;exact⟨v,z,(aJ E).symm,g,F⟩
theorem XF(h:AV P s k c)(V:(gL c.a).T->List θ)(R:(iF c.r).T->θ){x:(gL c.a).T}{y:(iF c.r).T}(t:s.p w [])(j:(c.f x).ok y)(g:∀x,mG c x=[]:=by intros;rfl)(n:∀ρ x,(jZ [] c.a x).1.map (SV.v ρ)=(V x).map δ:=by intros;rfl)(q:∀ρ x y,(mA (lZ c x y).1).v ρ=δ (R y):=by intros;rfl):CR P k (V x) w λv b=>v=R y/\Hp w [] [] b:=by
 refine Calls.mono (h w [] (λ_=>⟨ε,ε,0,η,0⟩) [] (V x) x y t (Hp.refl w) ?_ (n _ x) j) ?_
 ·rw [g];exact⟨rfl,λid o l=>by simp at l⟩
 ·rintro e b ⟨v,m,i,z,_,u,_,d⟩;rw [q]at d;exact⟨v,m,(aJ d).symm,u.nil⟩
def tl:List (Option χ×Nat×Nat)->Nat->Ad
 |[],_=>⟨ε,ε,0,η,0⟩
 |p::A,id=>match id with
  |0=>⟨ε,p.1,p.2.2,η,p.2.1⟩
  |id+1=>tl A id
def roP(w:ν):List (Option χ×Nat×Nat)->List Ob->Prop
 |p::A,.ro t l::H=>(p.2.1=γ l/\Rd w p.1 (l.flatMap t.enc)/\p.2.1<=p.2.2)/\roP w A H
 |[],[]=>True
 |_,_=>False
theorem C8{w:ν}:∀(A:List (Option χ×Nat×Nat)) (H:List Ob),roP w A H->∀(id:Nat) (o:Ob),H[id]? =δ o->∃t l,o=.ro t l/\γ l=(tl A id).ln/\Wu w [] (tl A id) t l
 |[],[],_,id,o,a=>by simp at a
 |p::A,.ro t l::H,h,0,o,a=>by cases a;exact⟨t,l,rfl,h.1.1.symm,h.1.2.1,λ_ _ _ b=>(nomatch b),show γ l<=p.2.2 from h.1.1▸h.1.2.2⟩
 |p::A,.ro t l::H,h,id+1,o,a=>C8 A H h.2 id o a
theorem Ov(h:AV P s k c)(A:List (Option χ×Nat×Nat))(V:List θ){x:(gL c.a).T}{y:(iF c.r).T}(z:s.p w [])(q:(c.f x).ok y)(B:roP w A (mG c x))(u:(jZ [] c.a x).1.map (SV.v (tl A))=V.map δ):CR P k V w λv g=>∃ρ L,Hp w [] L g/\Mt w [] ρ (lZ c x y).2 L/\(mA (lZ c x y).1).v ρ=δ v:=by
 refine Calls.mono (h w [] (tl A) (fH (γ (mG c x)) dQ) V x y z ?_ ⟨List.length_replicate,λid o i=> ?_⟩ u q) ?_
 ·generalize(mG c x).length=n;induction n with
  |zero=>exact Hp.refl w
  |succ n m=>exact uW m
 ·obtain⟨t,l,rfl,E,d⟩:=C8 A _ B id o i;exact⟨E,dQ,by rw [rG,aB (aD.1 i).1],rfl,d⟩
 ·rintro e g ⟨v,j,b,F,_,d,D,C⟩;exact⟨v,j,b,F,d,D,C⟩
theorem bcq(h:AV P s k c)(A:List (Option χ×Nat×Nat))(V:List θ)(R:θ){x:(gL c.a).T}{y:(iF c.r).T}(n:s.p w [])(i:(c.f x).ok y)(o:roP w A (mG c x))(l:(jZ [] c.a x).1.map (SV.v (tl A))=V.map δ:=by rfl)(m:∀ρ,(mA (lZ c x y).1).v ρ=δ R:=by intros;rfl):CR P k V w λv b=>v=R/\Hp w [] [] b:=by refine Calls.mono (Ov h A V n i o l) ?_;rintro e b ⟨v,j,ρ,L,q,_,d⟩;rw [m]at d;exact⟨v,j,(aJ d).symm,q.nil⟩
theorem P2(h:AV P s k c)(A:List (Option χ×Nat×Nat))(V:List θ)(e b:Nat)(t:Ty)(l:List t.T)(R:Option χ->Nat->Nat->θ){x:(gL c.a).T}{y:(iF c.r).T}(z:s.p w [])(j:(c.f x).ok y)(B:roP w A (mG c x))(i:(jZ [] c.a x).1.map (SV.v (tl A))=V.map δ:=by rfl)(m:(lZ c x y).2[γ A]? =δ (.rw e b t l):=by rfl)(u:∀ρ:Nat->Ad,(mA (lZ c x y).1).v ρ=δ (R (ρ (γ A)).a (ρ (γ A)).ln (ρ (γ A)).cap):=by intros;rfl):CR P k V w λv d=>∃o a cap,v=R a (γ l) cap/\Hp w [] [bA t.enc e t.sz o a cap l] d:=by refine Calls.mono (Ov h A V z j B i) ?_;rintro G d ⟨v,n,ρ,L,D,C,g⟩;obtain⟨F,q,E,rfl⟩:=C.2 _ _ m;rw [u ρ,<-show γ l=_ from F]at g;exact⟨v,n,_,_,_,(aJ g).symm,D.sub (List.singleton_sublist.2 (aG E))⟩
theorem P1(h:AV P s k c)(A:List (Option χ×Nat×Nat))(V:List θ)(e b:Nat)(t:Ty)(l:List t.T)(m O:Nat)(t2:Ty)(g:List t2.T)(R:Option χ->Nat->Nat->Option χ->Nat->Nat->θ){x:(gL c.a).T}{y:(iF c.r).T}(J:s.p w [])(E:(c.f x).ok y)(K:roP w A (mG c x))(H:(jZ [] c.a x).1.map (SV.v (tl A))=V.map δ:=by rfl)(F:(lZ c x y).2[γ A]? =δ (.rw e b t l):=by rfl)(j:(lZ c x y).2[γ A+1]? =δ (.rw m O t2 g):=by rfl)(I:∀ρ:Nat->Ad,(mA (lZ c x y).1).v ρ=δ (R (ρ (γ A)).a (ρ (γ A)).ln (ρ (γ A)).cap (ρ (γ A+1)).a (ρ (γ A+1)).ln (ρ (γ A+1)).cap):=by intros;rfl):CR P k V w λv n=>∃o a cap D B d,v=R a (γ l) cap B (γ g) d/\Hp w [] [bA t.enc e t.sz o a cap l,bA t2.enc m t2.sz D B d g] n:=by refine Calls.mono (Ov h A V J E K H) ?_;rintro m n ⟨v,G,ρ,L,M,u,C⟩;obtain⟨N,q,z,rfl⟩:=u.2 _ _ F;obtain⟨f1,q,f2,rfl⟩:=u.2 _ _ j;rw [I ρ,<-show γ l=_ from N,<-show γ g=_ from f1]at C;refine⟨v,G,(ρ (γ A)).o,_,_,(ρ (γ A+1)).o,_,_,(aJ C).symm,M.sub (Qt ?_ (List.drop_sublist (γ A) L))⟩;rw [zbF (aD.1 z).1,(aD.1 z).2];exact List.Sublist.cons_cons _ (List.singleton_sublist.2 (aG (i:=0) (by rw [bZ];exact f2)))
end Go.Oe
set_option maxRecDepth 20000
set_option maxHeartbeats 1000000
namespace Go.Wk
open Go.Px
open Int renaming toNat → bF
open List renaming drop → cG
open Sum renaming elim → eN
def ago(fu:Nat)(a:Int):Option Bool:=
 (((if 0<=a then δ (decide (a<55296))else δ η)).bind λb=>(bif b then δ ζ else(((if 57343<a then δ (decide (a<=1114111))else δ η)).bind λc=>(bif c then δ ζ else δ η))))
def agp(fu:Nat)(s_0:aC)(b:Nat->Option (Unit⊕Int))(a:Nat):Option (Unit⊕Int):=
 (if a<γ s_0 then(if((Δ ⟨List.toArray s_0⟩ a).1)=(65533:Int)then δ (.inr a)else(b (a+(Δ ⟨List.toArray s_0⟩ a).2)))else δ (.inl ()))
def ahj(fu:Nat)(s_0:aC):Nat->Nat->Option (Unit⊕Int):=λb a=>bN (λg v=>agp fu s_0 (λa=>g a) v) b a
variable {a:Nat}{c:aC}{b d:Nat}
theorem amt:ahj a c (b+1) d=agp a c (ahj a c b) d:=rfl
def ant(fu:Nat)(s_0:aC)(b:Int)(c:Int)(d:Int->Option Int)(a:Int):Option Int:=
 (if a<(γ ((ο b).data.toList))then(gd (acl (c-a))<|(gd (0<=(c-a)/\(c-a)<γ s_0)<|(gd (acl (((γ ((ο b).data.toList))-1)-a))<|(gd (0<=(((γ ((ο b).data.toList))-1)-a)/\(((γ ((ο b).data.toList))-1)-a)<(γ ((ο b).data.toList)))<|(if(at_ s_0 (c-a))=(at_ ((ο b).data.toList) (((γ ((ο b).data.toList))-1)-a))then(gd (acl (a+1))<|(d (a+1)))else ε)))))else(gd (acl (c-((γ ((ο b).data.toList))-1)))<|some (c-((γ ((ο b).data.toList))-1))))
def akd(fu:Nat)(s_0:aC)(d:Int)(c:Int):Nat->Int->Option Int:=λb a=>bN (λg v=>ant fu s_0 d c (λa=>g a) v) b a
variable {e:Int}
theorem bba{f:Int}{d:Int}:akd a c e f (b+1) d=ant a c e f (akd a c e f b) d:=rfl
def ajk(fu:Nat)(s_0:aC)(a:Int)(d:Option Int):Option Int:=
 (if((γ ((ο a).data.toList))-1)<(γ s_0:Int)then(((gd (0<=((γ ((ο a).data.toList))-(1:Int))/\((γ ((ο a).data.toList))-1)<(γ s_0:Int))<|(gd (0<=((γ ((ο a).data.toList))-(1:Int))/\((γ ((ο a).data.toList))-1)<(γ ((ο a).data.toList):Int))<|(if(at_ s_0 ((γ ((ο a).data.toList))-1))=(at_ ((ο a).data.toList) ((γ ((ο a).data.toList))-1))then δ (.inl ((γ ((ο a).data.toList))-1))else(gd (acl (((γ ((ο a).data.toList))-1)+1))<|(gd (0<=(((γ ((ο a).data.toList))-1)+(1:Int))/\(((γ ((ο a).data.toList))-1)+1)<=(γ s_0:Int))<|(gd (0<=((γ ((ο a).data.toList))-(1:Int))/\((γ ((ο a).data.toList))-1)<(γ ((ο a).data.toList):Int))<|(if(dP (·==(at_ ((ο a).data.toList) ((γ ((ο a).data.toList))-1))) (cG (bF (((γ ((ο a).data.toList))-1)+1)) s_0))<0 then δ (.inr (-1))else(gd (acl ((dP (·==(at_ ((ο a).data.toList) ((γ ((ο a).data.toList))-1))) (cG (bF (((γ ((ο a).data.toList))-1)+1)) s_0))+1))<|(gd (acl (((γ ((ο a).data.toList))-1)+((dP (·==(at_ ((ο a).data.toList) ((γ ((ο a).data.toList))-1))) (cG (bF (((γ ((ο a).data.toList))-1)+1)) s_0))+1)))<|some (.inl (((γ ((ο a).data.toList))-1)+((dP (·==(at_ ((ο a).data.toList) ((γ ((ο a).data.toList))-1))) (cG (bF (((γ ((ο a).data.toList))-1)+1)) s_0))+1))))))))))))).bind λc=>eN (λb=>(akd fu s_0 a b fu 1)) (λq=>δ q) c)else δ (-1))
def ahi(fu:Nat)(s_0:aC)(b:Int):Nat->Option Int:=λa=>bN (λg v=>ajk fu s_0 b (g ())) a ()
theorem asu:ahi a c e (b+1)=ajk a c e (ahi a c e b):=rfl
def th(fu:Nat)(s_0:aC)(a:Int):Option Int:=
 (((if 0<=a then δ (decide (a<128))else δ η)).bind λb=>(bif b then δ (dP (·==(pb a)) s_0)else(if a=65533 then(((ahj fu s_0 fu 0)).bind λd=>eN (λe=>δ (-1)) (λq=>δ q) d)else((ago fu a).bind λc=>(bif (!c)then δ (-1)else(gd (acl ((γ ((ο a).data.toList))-1))<|(ahi fu s_0 a fu)))))))
def ahh(fu:Nat)(a:Int):Option Bool:=
 δ (decide (8<a))
def afi(fu:Nat)(s_0:aC)(d:aC)(c:Nat->Option (Unit⊕Int))(a:Nat):Option (Unit⊕Int):=
 (if a<γ s_0 then((th fu d ((Δ ⟨List.toArray s_0⟩ a).1)).bind λb=>(if 0<=b then δ (.inr a)else(c (a+(Δ ⟨List.toArray s_0⟩ a).2))))else δ (.inl ()))
def aie(fu:Nat)(s_0:aC)(c:aC):Nat->Nat->Option (Unit⊕Int):=λb a=>bN (λg v=>afi fu s_0 c (λa=>g a) v) b a
theorem ajl{f:aC}:aie a c f (b+1) d=afi a c f (aie a c f b) d:=rfl
def aqq(fu:Nat)(s_0:aC)(a:aC):Option Int:=
 (if a=[]then δ (-1)else(if γ a=(1:Int)then(gd (0<=(0:Int)/\0<(γ a:Int))<|(((if 128<=((at_ a (0:Int)).toNat:Int)then δ 65533 else δ ((at_ a (0:Int)).toNat:Int))).bind λb=>((th fu s_0 b).bind λe=>δ e)))else((((ahh fu (γ s_0)).bind λd=>(bif d then ε else δ ()))).bind λg=>(((aie fu s_0 a fu 0)).bind λc=>eN (λf=>δ (-1)) (λq=>δ q) c))))
end Go.Wk
namespace Go.Px
open Go.Wk
theorem get_at(l:List UInt8)(k:Nat)(h:k<γ l):(⟨l.toArray⟩:ByteArray).get! k=at_ l k:=by show l.toArray[k]! =_;simp [at_,h]
theorem Vw(l:List UInt8)(k:Nat)(h:k<γ l)(a:(at_ l k).toNat<128):Δ ⟨l.toArray⟩ k=((at_ l k).toNat,1):=by unfold Δ;simp only [Nat.add_zero,get_at l k h];rw [aB aA0]
theorem S4(l:List UInt8)(k:Nat)(h:k<γ l)(t:¬(at_ l k).toNat<128):
  128<=(Δ ⟨l.toArray⟩ k).1/\1<=(Δ ⟨l.toArray⟩ k).2/\k+(Δ ⟨l.toArray⟩ k).2<=γ l/\
  ∀j:Nat,k<=j->j<k+(Δ ⟨l.toArray⟩ k).2->128<=(at_ l j).toNat:=by
 have n:(⟨l.toArray⟩:ByteArray).size=γ l:=rfl;have a:∀c:Nat,128<=c->128<=(c,1).1/\1<=(c,1).2/\k+(c,1).2<=γ l/\∀j:Nat,k<=j->j<k+(c,1).2->128<=(at_ l j).toNat:=
  λc r=>⟨r,rE _,by simp;omega,λj b e=>by
   have:j=k:=by simp at e;omega
   subst this;omega⟩
 have cont:∀i:Nat,(decide (k+i<γ l)&&((⟨l.toArray⟩:ByteArray).get! (k+i)).toNat/64==2)=ζ->k+i<γ l/\128<=(at_ l (k+i:Nat)).toNat:=by intro i o;simp at o;rw [get_at l _ o.1]at o;omega
 have d:128<=Utf8.runeError:=aA1;have f:128<=(at_ l k).toNat:=aA0;unfold Δ;simp only [Nat.add_zero,get_at l k h,n];rw [aA aA0];split
 ·rename_i b;simp at b;have m:=cont 1 (by simpa using b.2);split
  ·rename_i e;refine⟨aD2,aA2,by simp;omega,λj q g=> ?_⟩;have:j=k\/j=k+1:=by simp at g;omega
   rcases this with rfl|rfl
   ·exact f
   ·exact m.2
  ·exact a _ d
 split
 ·rename_i b;simp at b;have m:=cont 1 (by simpa using b.1.2);have p:=cont 2 (by simpa using b.2);split
  ·rename_i e;simp at e;refine⟨by have:=e.1;simp at this⊢;omega,aA2,by simp;omega,λj q g=> ?_⟩;have:j=k\/j=k+1\/j=k+2:=by simp at g;omega
   rcases this with rfl|rfl|rfl
   ·exact f
   ·exact m.2
   ·exact p.2
  ·exact a _ d
 split
 ·rename_i b;simp at b;have m:=cont 1 (by simpa using b.1.1.2);have p:=cont 2 (by simpa using b.1.2);have s:=cont 3 (by simpa using b.2);split
  ·rename_i e;simp at e;refine⟨by have:=e.1;simp at this⊢;omega,aA2,by simp;omega,λj q g=> ?_⟩;have:j=k\/j=k+1\/j=k+2\/j=k+3:=by simp at g;omega
   rcases this with rfl|rfl|rfl|rfl
   ·exact f
   ·exact m.2
   ·exact p.2
   ·exact s.2
  ·exact a _ d
 ·exact a _ d
def Sg(r:Int):List UInt8:=(ο r).data.toList
theorem VL(r:Int)(h:128<=r):2<=γ (Sg r)/\γ (Sg r)<=4/\128<=(at_ (Sg r) (γ (Sg r)-1)).toNat:=by
 have a:∀n:Nat,128<=(UInt8.ofNat (128+n%64)).toNat:=by intro n;rw [qO];omega
 unfold Sg ο;have b:128<=(if Utf8.valid r=ζ then r.toNat else Utf8.runeError):=by
  split
  ·omega
  ·decide
 generalize(if Utf8.valid r=ζ then r.toNat else Utf8.runeError)=c at b;rw [aA aA0];split
 ·exact⟨aA2,aA2,a c⟩
 split
 ·exact⟨aA2,aA2,a c⟩
 ·exact⟨aA2,aA2,a c⟩
end Go.Px
namespace Go.Wk
open Go.Px
open Int renaming toNat → bF
open List renaming drop → cG
open Sum renaming elim → eN
def apw(fu:Nat)(b:dO)(f:Int->Int->Option (Int⊕Bool))(c:Int)(a:Int):Option (Int⊕Bool):=
 (((if a<γ b then δ (decide (a<20))else δ η)).bind λe=>(bif e then(((gd (0<=a/\a<γ b)<|(gd (0<=a/\a<γ b)<|(if 100<(γ ((el b a).1):Int)then δ ζ else(gd (0<=a/\a<γ b)<|(gd (0<=a/\a<γ b)<|some (decide (20000<(γ ((el b a).2):Int))))))))).bind λd=>(bif d then δ (.inr η)else(gd (0<=a/\a<γ b)<|(gd (0<=a/\a<γ b)<|(gd (acl (c+(γ ((el b a).1))))<|(gd (acl (a+1))<|(f (c+(γ ((el b a).1))) (a+1))))))))else δ (.inl c)))
def aoa(fu:Nat)(d:dO):Nat->Int->Int->Option (Int⊕Bool):=λc b a=>bN (λg v=>apw fu d (λb a=>g (b,a)) v.1 v.2) c (b,a)
variable {a b:Nat}{d:Int}
theorem awg{f:dO}{c:Int}:aoa a f (b+1) d c=apw a f (aoa a f b) d c:=rfl
def azl(fu:Nat)(a:dO):Option Bool:=
 (((aoa fu a fu 0 0)).bind λd=>eN (λc=>(((if γ a<=(20:Int)then δ (decide (c<=200))else δ η)).bind λb=>δ b)) (λq=>δ q) d)
def aqr(fu:Nat)(a:UInt8):Option Bool:=
 (((((if 97<=a then δ (decide (a<=122))else δ η)).bind λc=>(bif c then(bif c then δ (.inr ζ)else δ (.inl ()))else(((if 65<=a then δ (decide (a<=90))else δ η)).bind λb=>(bif b then(bif b then δ (.inr ζ)else δ (.inl ()))else(if 48<=a then(if a<=57 then δ (.inr ζ)else δ (.inl ()))else δ (.inl ()))))))).bind λd=>eN (λe=>(if a=45 then(if a=45 then δ ζ else δ η)else(if a=46 then(if a=46 then δ ζ else δ η)else(if a=33 then(if a=33 then δ ζ else δ η)else(if a=37 then(if a=37 then δ ζ else δ η)else(if a=42 then(if a=42 then δ ζ else δ η)else(if a=95 then(if a=95 then δ ζ else δ η)else(if a=43 then(if a=43 then δ ζ else δ η)else(if a=39 then(if a=39 then δ ζ else δ η)else(if a=126 then(if a=126 then δ ζ else δ η)else(if a=96 then δ ζ else δ η))))))))))) (λq=>δ q) d)
def aeo(fu:Nat)(s_0:aC)(d:Int->Option Int)(a:Int):Option Int:=
 (((if a<γ s_0 then(gd (0<=a/\a<γ s_0)<|((aqr fu (at_ s_0 a)).bind λc=>δ c))else δ η)).bind λb=>(bif b then(gd (acl (a+1))<|(d (a+1)))else δ a))
def aeu(fu:Nat)(s_0:aC):Nat->Int->Option Int:=λb a=>bN (λg v=>aeo fu s_0 (λa=>g a) v) b a
variable {c:aC}
theorem ala:aeu a c (b+1) d=aeo a c (aeu a c b) d:=rfl
def afx(fu:Nat)(s_0:aC)(b:Int):Option Int:=
 (((aeu fu s_0 fu (min (max b 0) (γ s_0)))).bind λa=>δ a)
def mo(fu:Nat)(s_0:aC)(b:Int):Option Int:=
 ((afx fu s_0 b).bind λa=>δ a)
def XL(fu:Nat)(s_0:aC):Option Bool:=
 (((if s_0=[]then δ η else((mo fu s_0 0).bind λb=>δ (decide (b=γ s_0))))).bind λa=>δ a)
def aoi(fu:Nat)(s_0:aC):Option Bool:=
 ((((XL fu s_0).bind λb=>(bif b then δ (decide (γ s_0<=(70:Int)))else δ η))).bind λa=>δ a)
def ahw(fu:Nat)(s_0:aC)(a:aC):Option Bool:=
 (((if γ a<=(γ s_0:Int)then(gd (acl (γ s_0-γ a))<|(gd (0<=(γ s_0-(γ a:Int))/\(γ s_0-γ a)<=(γ s_0:Int))<|some (decide ((cG (bF (γ s_0-γ a)) s_0)=a))))else δ η)).bind λb=>δ b)
def agf(fu:Nat)(s_0:aC)(b:aC):Option Bool:=
 ((ahw fu s_0 b).bind λa=>δ a)
open Go.Lib renaming hasPrefix → fW, index → cK, trimPrefix → fK
open List renaming drop → cG, take → jV
def mw(fu:Nat)(a:UInt8):Option Bool:=
 (((if a=32 then δ ζ else δ (decide (a=9)))).bind λb=>δ b)
def adb(fu:Nat)(s_0:aC)(d:Int->Option Int)(a:Int):Option Int:=
 (((if a<γ s_0 then(gd (0<=a/\a<γ s_0)<|((mw fu (at_ s_0 a)).bind λc=>δ c))else δ η)).bind λb=>(bif b then(gd (acl (a+1))<|(d (a+1)))else δ a))
def aev(fu:Nat)(s_0:aC):Nat->Int->Option Int:=λb a=>bN (λg v=>adb fu s_0 (λa=>g a) v) b a
theorem agh:aev a c (b+1) d=adb a c (aev a c b) d:=rfl
def ajr(fu:Nat)(s_0:aC)(b:Int):Option Int:=
 (((aev fu s_0 fu (min (max b 0) (γ s_0)))).bind λa=>δ a)
def mi(fu:Nat)(s_0:aC)(b:Int):Option Int:=
 ((ajr fu s_0 b).bind λa=>δ a)
def ahx(fu:Nat)(s_0:aC)(a:aC):Option Bool:=
 (((if γ a<=(γ s_0:Int)then(gd (0<=(γ a:Int)/\γ a<=(γ s_0:Int))<|some (decide ((jV (bF (γ a)) s_0)=a)))else δ η)).bind λv6=>δ v6)
def tg(fu:Nat)(s_0:aC)(b:aC):Option Bool:=
 ((ahx fu s_0 b).bind λa=>δ a)
def afe(fu:Nat)(a:aC)(c:aC)(e:Int->Option ((Int×Int×Bool)×Bool))(b:Int):Option ((Int×Int×Bool)×Bool):=
 (gd (0<=(min b (γ a))/\(min b (γ a))<=γ a)<|(gd (γ (cG (bF (min b (γ a))) a)<=1000000000)<|(if(cK (cG (bF (min b (γ a))) a) (([45,45])++c))<0 then δ ((0,0,η),η)else(gd (acl (b+(cK (cG (bF (min b (γ a))) a) (([45,45])++c))))<|(((if 0<(b+(cK (cG (bF (min b (γ a))) a) (([45,45])++c)))then(gd (0<=(b+(cK (cG (bF (min b (γ a))) a) (([45,45])++c)))/\(b+(cK (cG (bF (min b (γ a))) a) (([45,45])++c)))<=γ a)<|((agf fu (jV (bF (b+(cK (cG (bF (min b (γ a))) a) (([45,45])++c)))) a) ([13,10])).bind λh=>δ (!h)))else δ η)).bind λg=>(bif g then(gd (acl ((b+(cK (cG (bF (min b (γ a))) a) (([45,45])++c)))+1))<|(e ((b+(cK (cG (bF (min b (γ a))) a) (([45,45])++c)))+1)))else(gd (acl ((b+(cK (cG (bF (min b (γ a))) a) (([45,45])++c)))+(γ (([45,45]:aC)++c))))<|(gd (0<=((b+(cK (cG (bF (min b (γ a))) a) (([45,45])++c)))+(γ (([45,45]:aC)++c)))/\((b+(cK (cG (bF (min b (γ a))) a) (([45,45])++c)))+(γ (([45,45]:aC)++c)))<=γ a)<|((mi fu (fK (cG (bF ((b+(cK (cG (bF (min b (γ a))) a) (([45,45])++c)))+(γ (([45,45]:aC)++c)))) a) ([45,45])) 0).bind λd=>(gd (0<=d/\d<=(γ (fK (cG (bF ((b+(cK (cG (bF (min b (γ a:Int))) a) (([45,45]:aC)++c)))+(γ (([45,45]:aC)++c):Int))) a) ([45,45]:aC))))<|(if(cG (bF d) (fK (cG (bF ((b+(cK (cG (bF (min b (γ a))) a) (([45,45])++c)))+(γ (([45,45]:aC)++c)))) a) ([45,45])))=[]then δ ((b+(cK (cG (bF (min b (γ a))) a) (([45,45])++c)),γ a,(fW (cG (bF ((b+(cK (cG (bF (min b (γ a))) a) (([45,45])++c)))+(γ (([45,45]:aC)++c)))) a) ([45,45]))),ζ)else((tg fu (cG (bF d) (fK (cG (bF ((b+(cK (cG (bF (min b (γ a))) a) (([45,45])++c)))+(γ (([45,45])++c)))) a) ([45,45]))) ([13,10])).bind λf=>(bif f then(gd (acl (γ a-(γ (cG (bF d) (fK (cG (bF ((b+(cK (cG (bF (min b (γ a:Int))) a) (([45,45]:aC)++c)))+(γ (([45,45]:aC)++c):Int))) a) ([45,45]))))))<|(gd (acl ((γ a-(γ (cG (bF d) (fK (cG (bF ((b+(cK (cG (bF (min b (γ a:Int))) a) (([45,45])++c)))+(γ (([45,45]:aC)++c):Int))) a) ([45,45])))))+2))<|some ((b+(cK (cG (bF (min b (γ a))) a) (([45,45])++c)),(γ a-(γ (cG (bF d) (fK (cG (bF ((b+(cK (cG (bF (min b (γ a:Int))) a) (([45,45]:aC)++c)))+(γ (([45,45]:aC)++c):Int))) a) ([45,45])))))+2,(fW (cG (bF ((b+(cK (cG (bF (min b (γ a))) a) (([45,45])++c)))+(γ (([45,45])++c)))) a) ([45,45]))),ζ)))else(gd (acl ((b+(cK (cG (bF (min b (γ a))) a) (([45,45])++c)))+1))<|(e ((b+(cK (cG (bF (min b (γ a))) a) (([45,45])++c)))+1))))))))))))))))
def ade(fu:Nat)(d:aC)(c:aC):Nat->Int->Option ((Int×Int×Bool)×Bool):=λb a=>bN (λg v=>afe fu d c (λa=>g a) v) b a
variable {e:aC}
theorem ake:ade a c e (b+1) d=afe a c e (ade a c e b) d:=rfl
def X5(fu:Nat)(c:aC)(b:Int)(a:aC):Option ((Int×Int×Bool)×Bool):=
 (gd (γ ([45,45]:aC)+γ a<=9223372036854775807)<|(ade fu c a fu b))
def ahr(fu:Nat)(a:UInt8):Option Bool:=
 (((if a<32 then(if a=9 then δ (decide (a=127))else δ ζ)else δ (decide (a=127)))).bind λv6=>δ v6)
def ajm(fu:Nat)(s_0:aC)(b:Int->Option (Unit⊕(Int×Bool)))(a:Int):Option (Unit⊕(Int×Bool)):=
 (if a<γ s_0 then(gd (0<=a/\a<γ s_0)<|((ahr fu (at_ s_0 a)).bind λc=>(bif (!c)then(gd (acl (a+1))<|(b (a+1)))else(gd (0<=a/\a<γ s_0)<|(if(at_ s_0 a)=13 then(gd (acl (a+1))<|(if(a+1)=γ s_0 then δ (.inr (0,η))else(gd (acl (a+1))<|(gd (0<=(a+1)/\(a+1)<γ s_0)<|(if(at_ s_0 (a+1))=10 then(gd (acl (a+1))<|(gd (acl ((a+1)+1))<|(b ((a+1)+1))))else δ (.inr (a,ζ)))))))else δ (.inr (a,ζ)))))))else δ (.inl ()))
def mr(fu:Nat)(s_0:aC):Nat->Int->Option (Unit⊕(Int×Bool)):=λb a=>bN (λg v=>ajm fu s_0 (λa=>g a) v) b a
theorem apb:mr a c (b+1) d=ajm a c (mr a c b) d:=rfl
def arv(fu:Nat)(s_0:aC):Option (Int×Bool):=
 (((mr fu s_0 fu 0)).bind λa=>eN (λb=>δ (0,η)) (λq=>δ q) a)
open Go.Lib renaming index → cK, join → cY
open List renaming drop → cG, set → gQ, take → jV
def apv(fu:Nat)(s_0:aC):Option aC:=
 δ s_0
def X2(fu:Nat)(g:Int)(c:aC)(d:List aC)(a:jU):Option (Nat×(List aC)×jU):=
 (((((if c=[]then δ ζ else(gd (0<=(0:Int)/\0<(γ c:Int))<|((mw fu (at_ c 0)).bind λi=>δ (!i))))).bind λh=>(bif h then(((if 0<(γ a:Int)then(gd (acl (γ a-1))<|(gd (γ d<=1000000000/\γ (cY d [32])<=100000000000)<|(gd (0<=(γ a-(1:Int))/\(γ a-1)<(γ a:Int))<|(gd (0<=(γ a-(1:Int))/\(γ a-1)<(γ a:Int))<|some (gQ a (bF (γ a-1)) ((el a (γ a-1)).1,cY d [32]))))))else δ a)).bind λf=>(gd ((γ f+γ ([(g,([]:aC))]:jU))*24<=140737488355328)<|(gd (0<=(0:Int)/\0<=(γ d:Int))<|some (jV (bF 0) d,f++([(g,([]:aC))]:jU)))))else δ (d,a)))).bind λe=>(gd (γ c<=1000000000)<|gd (γ ([32,9]:aC)<=1000/\([32,9]:aC).all (λb=>decide (b.toNat<128))=ζ)<|(if(Lib.trimS c ([32,9]))=[]then δ (0,e.1,e.2)else(gd ((γ e.1+γ ([Lib.trimS c ([32,9]:aC)]:List aC))*16<=140737488355328)<|some (0,e.1++([Lib.trimS c ([32,9]:aC)]:List aC),e.2)))))
def nj(fu:Nat)(b:aC)(g:Int->(List aC)->jU->Option ((List aC)×jU×Nat))(a:Int)(f:List aC)(e:jU):Option ((List aC)×jU×Nat):=
 (if a<γ b then(gd (0<=a/\a<=γ b)<|(gd (γ (cG (bF a) b)<=1000000000)<|(if(cK (cG (bF a) b) ([13,10]))<0 then(gd (0<=a/\a<=γ b)<|((X2 fu a (cG (bF a) b) f e).bind λd=>(if d.1=0 then δ (d.2.1,d.2.2,0)else δ (d.2.1,d.2.2,d.1))))else(gd (acl (a+(cK (cG (bF a) b) ([13,10]))))<|(gd (0<=a/\a<=(a+(cK (cG (bF a) b) ([13,10])))/\(a+(cK (cG (bF a) b) ([13,10])))<=γ b)<|((X2 fu a (sub b a (a+(cK (cG (bF a) b) ([13,10])))) f e).bind λc=>(if c.1=0 then(gd (acl ((cK (cG (bF a) b) ([13,10]))+2))<|(gd (acl (a+((cK (cG (bF a) b) ([13,10]))+2)))<|(g (a+((cK (cG (bF a) b) ([13,10]))+2)) c.2.1 c.2.2)))else δ (c.2.1,c.2.2,c.1))))))))else δ (f,e,0))
def tm(fu:Nat)(e:aC):Nat->Int->(List aC)->jU->Option ((List aC)×jU×Nat):=λd c b a=>bN (λg v=>nj fu e (λc b a=>g (c,b,a)) v.1 v.2.1 v.2.2) d (c,b,a)
theorem aaz{e:List aC}{f:jU}:tm a c (b+1) d e f=nj a c (tm a c b) d e f:=rfl
def acv(fu:Nat)(c:List aC)(b:jU)(a:aC):Option ((List aC)×jU×Nat):=
 (tm fu a fu 0 c b)
def amu(fu:Nat)(s_0:aC):Option (jU×Int×UInt8):=
 (if s_0=[]then δ ([],0,0)else(gd (0<=(0:Int)/\0<(γ s_0:Int))<|((mw fu (at_ s_0 0)).bind λc=>(bif c then δ ([],0,5)else((arv fu s_0).bind λb=>(bif b.2 then δ ([],b.1,5)else((agf fu s_0 ([13,10])).bind λe=>(bif (!e)then δ ([],γ s_0,6)else((apv fu s_0).bind λd=>((acv fu [] [] d).bind λa=>(if a.2.2=0 then(gd (acl (γ a.2.1-1))<|(gd (γ a.1<=1000000000/\γ (cY a.1 [32])<=100000000000)<|(gd (0<=(γ a.2.1-(1:Int))/\(γ a.2.1-1)<(γ a.2.1:Int))<|(gd (0<=(γ a.2.1-(1:Int))/\(γ a.2.1-1)<(γ a.2.1:Int))<|some (gQ a.2.1 (bF (γ a.2.1-1)) ((el a.2.1 (γ a.2.1-1)).1,cY a.1 [32]),0,0)))))else ε)))))))))))
def ajn(fu:Nat)(a:UInt8):Option UInt8:=
 (((if 65<=a then δ (decide (a<=90))else δ η)).bind λb=>(bif b then δ (a+32)else δ a))
def arx(fu:Nat)(a:UInt8):Option aC:=
 (if a=98 then δ ([82,101,102,101,114,114,101,100,45,66,121])else(if a=99 then δ ([67,111,110,116,101,110,116,45,84,121,112,101])else(if a=101 then δ ([67,111,110,116,101,110,116,45,69,110,99,111,100,105,110,103])else(if a=102 then δ ([70,114,111,109])else(if a=105 then δ ([67,97,108,108,45,73,68])else(if a=107 then δ ([83,117,112,112,111,114,116,101,100])else(if a=108 then δ ([67,111,110,116,101,110,116,45,76,101,110,103,116,104])else(if a=109 then δ ([67,111,110,116,97,99,116])else(if a=111 then δ ([69,118,101,110,116])else(if a=114 then δ ([82,101,102,101,114,45,84,111])else(if a=115 then δ ([83,117,98,106,101,99,116])else(if a=116 then δ ([84,111])else(if a=117 then δ ([65,108,108,111,119,45,69,118,101,110,116,115])else(if a=118 then δ ([86,105,97])else(if a=120 then δ ([83,101,115,115,105,111,110,45,69,120,112,105,114,101,115])else δ [])))))))))))))))
def adh(fu:Nat)(s_0:aC)(d:aC->Int->Option aC)(b:aC)(a:Int):Option aC:=
 (if a<γ s_0 then(gd (0<=a/\a<γ b)<|(gd (0<=a/\a<γ b)<|((ajn fu (at_ b a)).bind λc=>(gd (0<=a/\a<γ b)<|(gd (0<=a/\a<γ b)<|(gd (acl (a+1))<|(d (gQ b (bF a) c) (a+1))))))))else δ b)
def adl(fu:Nat)(s_0:aC):Nat->aC->Int->Option aC:=λc b a=>bN (λg v=>adh fu s_0 (λb a=>g (b,a)) v.1 v.2) c (b,a)
theorem aiu:adl a c (b+1) e d=adh a c (adl a c b) e d:=rfl
def adc(fu:Nat)(s_0:aC):Option aC:=
 (((adl fu s_0 fu s_0 0)).bind λa=>δ a)
def amd(fu:Nat)(a:UInt8):Option UInt8:=
 (((if 97<=a then δ (decide (a<=122))else δ η)).bind λb=>(bif b then δ (a-32)else δ a))
end Go.Wk
