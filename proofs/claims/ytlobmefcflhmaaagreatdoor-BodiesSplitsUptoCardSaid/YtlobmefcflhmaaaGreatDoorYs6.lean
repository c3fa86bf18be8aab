/-
  The law BodiesSplits holds (part 6 of 9).
-/
import Derived.Test.YtlobmefcflhmaaaGreatDoorYs5
import Derived.Lib.IndexMore
open Bool renaming false → ν, true → μ
open List renaming length → γ
open Option renaming none → ι, some → θ
set_option linter.unusedVariables false
set_option linter.unusedSimpArgs false
set_option maxRecDepth 100000
namespace Go.Wk
open Go.Px
open Go.Lib renaming itoa → gK, join → cK
open Int renaming toNat → bL
open List renaming length → aL, set → jH
def pI(c:aC):Int:=(wa FU c).getD 0
theorem mf:∀x∈vD,wa FU x.1=θ (pI x.1):=aA5
theorem mg(c:aC):wa FU c=θ (pI c):=by
 by_cases h:∃x∈vD,x.1=c
 ·obtain⟨x,hx,rfl⟩:=h;exact mf x hx
 ·have a:∀x∈vD,x.1≠c:=λx hx e=>h ⟨x,hx,e⟩;have:=Nj c a;unfold pI;rw[this];rfl
theorem Yd(n:Nat):∀l:δ PP,hY n l->Rx l<=aL l*(2*n)
 |[],_=>cH _
 |p::l,h=>by have c:=h p gQ;have b:=Yd n l (λq a=>h q (fB _ a));rw[mR,cM,kW];omega
theorem Vc(n:Nat):∀l:δ PP,hY n l->γ (kF l)<=aL l*(6*n+2)
 |[],_=>cH _
 |p::l,h=>by
  have e:=h p gQ;have d:=Vc n l (λq a=>h q (fB _ a));have g:=Xh 1 p.1;have f:=Xh 1 p.2.1;have b:kF (p::l)=59::(Zt p++kF l):=by unfold kF;rfl
  have c:γ (Zt p)<=6*n+1:=by
   unfold Zt;rw[cE];cases p.2.2 with
   |true=>rw[aM,cM];omega
   |false=>rw[aG,iH];omega
  rw[b,cM,cE,cM,kW];omega
theorem GV(n:Nat):∀l:δ PP,hY n l->γ (vA l)<=aL l*(6*n+2)
 |[],_=>cH _
 |p::l,h=>by
  have e:=h p gQ;have d:=GV n l (λq a=>h q (fB _ a));have g:=Xh 2 p.1;have f:=Xh 2 p.2.1;have b:vA (p::l)=38::(Fb p++vA l):=by unfold vA;rfl
  have c:γ (Fb p)<=6*n+1:=by unfold Fb;rw[cE,cM];omega
  rw[b,cM,cE,cM,kW];omega
theorem WM(n:Nat)(l:δ PP)(h:hY n l):γ (Te l)<=aL l*(6*n+2):=by
 have:=GV n l h;cases l with
 |nil=>exact cH _
 |cons p l=>exact this
theorem M4(n:Nat)(u:UU)(b:Good u)(h:rD n u):γ (dc u)<=197*n+80:=by
 obtain⟨k,j,i,f,e⟩:=h;have p:=Vc n _ f;have o:=WM n _ e;have g:=Xh 0 u.2.1;have a:0<=u.2.2.2.1/\u.2.2.2.1<=65535:=by
  rcases b.tp with⟨_,_,d,c,_⟩|⟨_,_,h,_⟩
  ·exact⟨d,c⟩
  ·omega
 have hit:=bgj u.2.2.2.1 a.1 a.2;have m:aL u.2.2.2.2.1*(6*n+2)<=16*(6*n+2):=ZI _ b.pl;have l:aL u.2.2.2.2.2*(6*n+2)<=16*(6*n+2):=ZI _ b.hl;have d:γ (Ub u)<=3*n+1:=by
  unfold Ub;split
  ·omega
  ·split
   ·exact cH _
   ·rw[cE,eG];omega
 have c:γ (JF u.2.2.2.1)<=6:=by
  unfold JF;split
  ·exact cH _
  ·rw[cM];omega
 unfold dc;simp;omega
theorem Mn(s:aC):rD (aL s+252) (Fv s).2:=by
 unfold Fv;split
 ·exact CN _
 ·have c:γ (cN (s.take (bP [58] s 0)))<=aL s:=by unfold cN;rw[Gk,iI];omega
  have b:=QH s (bP [58] s 0+1);have a:=DA s (bP [58] s 0+1);split
  ·split
   ·split
    ·exact zT _ _ s _ _ _ _ _ aA0 aA0 aA0 aA0
    ·exact CN _
   ·split
    ·split
     ·exact zT _ _ s _ _ _ _ _ aA0 aA0 (cH _) aA0
     ·exact CN _
    ·exact CN _
  ·exact CN _
variable{m:Nat}
theorem rD.mono{n:Nat}{u:UU}(h:rD n u)(a:n<=m):rD m u:=
 ⟨qT h.1 a,qT h.2.1 a,qT h.2.2.1 a,λp b=>⟨qT (h.2.2.2.1 p b).1 a,qT (h.2.2.2.1 p b).2 a⟩,λp b=>⟨qT (h.2.2.2.2 p b).1 a,qT (h.2.2.2.2 p b).2 a⟩⟩
theorem Mz(s:aC):∀f i (a:δ aC),i<=aL s->γ (cK a [32])<=2*i->γ (cK (kU s f i a).2.2 [32])<=2*aL s
 |0,_,_,_,_=>cH _
 |f+1,i,a,d,g=>by
  have j:=Ci cL s i d;have e:=jD cL s i;have h:=Ci bR s _ e;rw[kU];split
  ·dsimp only;omega
  ·split
   ·exact cH _
   ·rename_i c;have b:γ (sub s i ((bT cL s i):Int))=bT cL s i-i:=by rw[Hw];omega
    refine Mz s f _ _ (jD _ _ _) ?_;rw[Bj];split
    ·omega
    ·rw[cE,cE,eG];omega
theorem XJ(s:aC)(i:Nat)(a:i<=aL s):γ (pH s i).2.1<=2*aL s:=by
 unfold pH;split
 ·rename_i h;have:=zI s i (wL h).2 (wL h).1;split
  ·split
   ·dsimp only;omega
   ·exact cH _
  ·exact cH _
 ·split
  ·exact Mz s _ i [] a (cH _)
  ·exact cH _
theorem bz(s:aC):rD (aL s+252) (fY s).2.2.1/\γ (fY s).2.1<=2*aL s/\hY (aL s+252) (fY s).2.2.2:=by
 have a:rD (aL s+252) nA.2.1/\γ nA.1<=2*aL s/\hY (aL s+252) nA.2.2:=⟨CN _,cH _,λp b=>by cases b⟩;unfold fY;split
 ·exact a
 ·rename_i c;split
  ·split
   ·split
    ·refine⟨?_,XJ s _ (jD _ _ _),?_⟩
     ·show rD _ (fL s (pH s _).2.2).2.1;generalize(pH s _).2.2=j;unfold fL;split
      ·split
       ·exact CN _
       ·exact(Mn _).mono (by have:=sub_le s (j+1:Nat) (bP [62] s (j+1));omega)
      ·split
       ·exact CN _
       ·exact(Mn _).mono (by have:=sub_le s j (bP [59,32,9] s j);omega)
     ·intro p b;have d:γ (s.drop (fL s (pH s (bT bR s 0)).2.2).2.2)<=aL s:=by rw[dY];omega
      have f:=bci _ aA0 p b;have e:=Ag _ p b;exact⟨aA0,aA0⟩
    ·exact a
   ·exact a
  ·exact a
theorem jz(n:Nat)(a:AA)(b:Good a.2.1)(e:rD n a.2.1)(f:aL a.1<=2*n)(d:hY n a.2.2)(c:aL a.2.2<=16):γ (zh a).1<=265*n+200:=by
 have m:=M4 n a.2.1 b e;have l:=bkt a.1;have k:=Mk (fS a.2.2);have j:=Kz (dw a.2.2);have i:=Yd n a.2.2 d;have h:aL a.2.2*(2*n)<=16*(2*n):=ZI _ c;have g:γ (dsT a.1)<=4*n+3:=by
  unfold dsT;split
  ·exact cH _
  ·rw[cE,eG];omega
 unfold zh;split
 ·simp;omega
 ·exact cH _
theorem KB(v:aC)(q:aL v<=4194304):γ (lZ v).1.1<=aL v/\γ (lZ v).1.2.1<=aL v+252/\γ (lZ v).1.2.2.2.1<=aL v+252/\hY (aL v+252) (lZ v).1.2.2.2.2:=by
 have e:aL qX.1<=aL v/\γ qX.2.1<=aL v+252/\γ qX.2.2.2.1<=aL v+252/\hY (aL v+252) qX.2.2.2.2:=⟨cH _,cH _,cH _,λp g=>by cases g⟩
 have r:=Tp v;have l:∀(f h) d c,aL f<=aL v->aL h<=aL v+252->aL c<=aL v->γ (wU f h d c).1.1<=aL v/\γ (wU f h d c).1.2.1<=aL v+252/\γ (wU f h d c).1.2.2.2.1<=aL v+252/\hY (aL v+252) (wU f h d c).1.2.2.2.2:=by
  intro f h d c o n w;have j:hY (aL v+252) (fM c).1:=λp g=>by have a:=bci c aA0 p g;have b:=Ag c p g;exact⟨aA0,aA0⟩
  unfold wU;split
  ·refine⟨o,n,?_,j⟩;unfold Is;split
   ·rename_i p g;exact(j p (List.mem_of_find?_eq_some g)).2
   ·exact cH _
  ·exact e
 unfold lZ;split
 ·exact e
 ·split
  ·exact e
  ·split
   ·exact e
   ·split
    ·exact e
    ·have i:γ (Xf (sub (cI v) 8 (bT cL (cI v) 8)))<=aL v:=by have:=sub_le (cI v) 8 (bT cL (cI v) 8);rw[oN];omega
     have m:∀P c:aC,aL P<=aL v->aL c<=aL v->γ (De (Xf (sub (cI v) 8 (bT cL (cI v) 8))) P c).1.1<=aL v/\γ (De (Xf (sub (cI v) 8 (bT cL (cI v) 8))) P c).1.2.1<=aL v+252/\γ (De (Xf (sub (cI v) 8 (bT cL (cI v) 8))) P c).1.2.2.2.1<=aL v+252/\hY (aL v+252) (De (Xf (sub (cI v) 8 (bT cL (cI v) 8))) P c).1.2.2.2.2:=by
      intro P c u k;have s:=uK (iZ P).1;have t:=(HZ P).1;unfold De;split
      ·exact e
      ·split
       ·split
        ·exact l _ _ _ _ i aA0 k
        ·exact e
       ·exact l _ _ _ _ i aA0 k
     refine m _ _ ?_ ?_
     ·rw[iI,dY];omega
     ·rw[dY,dY];omega
theorem AO(v:aC)(d:aL v<=4194304):γ (BS v).1.1<=aL v/\hY (aL v+252) (BS v).1.2:=by
 have e:=Tp v;unfold BS;split
 ·exact⟨cH _,λp c=>by cases c⟩
 ·split
  ·refine⟨by dsimp only;rw[iI];omega,λp c=> ?_⟩;have f:γ ((cI v).drop (kJ (cI v)))<=aL v:=aB1;have a:=bci _ aA0 p c;have b:=Ag _ p c;exact⟨aA0,aA0⟩
  ·exact⟨cH _,λp c=>by cases c⟩
theorem ds(n:Int)(a:0<=n)(h:n<=2147483647):γ (gK n)<=10:=(R7 n a h).2.2.1
theorem Ca(v:aC):0<=(Kb v).1/\(Kb v).1<=2147483647/\γ (Kb v).2.1<=aL v:=by
 have a:=QO (cI v);have c:=bjm (cI v);have b:=Tp v;unfold Kb;split
 ·split
  ·exact⟨a.1,a.2,by dsimp only;omega⟩
  ·exact⟨eZ 0,(show 0<=2147483647 by decide),cH _⟩
 ·exact⟨eZ 0,(show 0<=2147483647 by decide),cH _⟩
theorem Mh(v:aC):(0<=(Xd v).1/\(Xd v).1<=2147483647)/\(0<=(Xd v).2.1/\(Xd v).2.1<=2147483647)/\γ (Xd v).2.2.1<=aL v:=by
 have b:=QO (cI v);have a:=Ca (yB (cI v)).2.1;have d:=bjm (cI v);have c:=Tp v;unfold Xd;generalize Kb (yB _).2.1=C at a⊢;split
 ·split
  ·exact⟨b,⟨a.1,a.2.1⟩,by dsimp only;omega⟩
  ·exact⟨⟨eZ 0,(show 0<=2147483647 by decide)⟩,⟨eZ 0,(show 0<=2147483647 by decide)⟩,cH _⟩
 ·exact⟨⟨eZ 0,(show 0<=2147483647 by decide)⟩,⟨eZ 0,(show 0<=2147483647 by decide)⟩,cH _⟩
theorem Yc(k:Int)(ct:η)(v:aC)(r:aL v<=4194000):γ (Jj k ct v).1<=265*aL v+80000:=by
 have s:=Tp v;have z:∀e:ζ,γ (([]:aC),e).1<=265*aL v+80000:=λe=>cH _;unfold Jj;split
 ·split
  ·show 1<=_;omega
  ·split
   ·rename_i j;obtain⟨m,l,_⟩:=Qw _ j;obtain⟨p,u,o⟩:=bz _;have:=jz _ _ m p aA0 o l;omega
   ·exact z _
 ·split
  ·split
   ·obtain⟨v1,h,q,v4⟩:=KB v aA0;have a:=VI (lZ v).1;have b:=Yd _ _ v4;have c:=Kq v;have d:γ (lZ v).1.2.2.2.2*(2*(aL v+252))<=16*(2*(aL v+252)):=ZI _ c;omega
   ·exact z _
  ·split
   ·split
    ·obtain⟨g,f,i⟩:=Ca v;have:=ds _ g f;simp;omega
    ·exact z _
   ·split
    ·split
     ·obtain⟨⟨g,f⟩,⟨i,n⟩,t⟩:=Mh v;have:=ds _ g f;have:=ds _ i n;simp;omega
     ·exact z _
    ·split
     ·split
      ·obtain⟨g,f⟩:=Jr (cI v);have:=ds _ g f;dsimp only;omega
      ·exact z _
     ·split
      ·split
       ·obtain⟨v1,h⟩:=AO v aA0;have a:=LG (BS v).1;have b:=Yd _ _ h;have c:=Ev v;have d:γ (BS v).1.2*(2*(aL v+252))<=16*(2*(aL v+252)):=ZI _ c;omega
       ·exact z _
      ·split
       ·exact z _
       ·dsimp only;omega
def Ry(l:δ aC):Nat:=(l.map aL).sum
theorem qk(x:aC)(l:δ aC):Ry (x::l)=aL x+Ry l:=rfl
theorem GG:∀(l:δ aC),γ (cK l [44,32])<=Ry l+2*aL l
 |[]=>cH _
 |[a]=>by rw[jn1,qk];omega
 |a::b::l=>by have:=GG (b::l);rw[jn2,qk];simp at this⊢;omega
theorem OO(k:Int)(ct:η):∀l:δ aC,(∀x∈l,aL x<=4194000)->Ry (yU k ct l).1<=265*Ry l+80000*aL l
 |[],_=>cH _
 |x::l,h=>by
  have c:=Yc k ct x (h x gQ);have b:=OO k ct l (λy a=>h y (fB _ a));rw[yU,qk,cM];split
  ·split
   ·rw[qk];omega
   ·exact cH _
  ·exact cH _
theorem kC:∀s m a l,fA m a s=.inl l->Ry l<=aL a+aL s/\γ l<=aL s+1
 |[],0,a,l,h=>by have:=cm h;subst this;have:=Tp a;exact⟨by rw[qk];show _+0<=_;omega,aA2⟩
 |[],m+1,a,l,h=>by cases h
 |c::s,0,a,l,h=>by
  have b:γ (a++[c])=aL a+1:=aA2;rw[s0c]at h;rw[cM];split at h
  ·have:=kC s _ _ l h;omega
  ·split at h
   ·have:=kC s _ _ l h;omega
   ·split at h
    ·cases h
    ·split at h
     ·obtain⟨m,d,rfl⟩:=Wv h;have:=kC s _ _ m d;have:=Tp a;rw[qk];simp at*
      omega
     ·have:=kC s _ _ l h;omega
 |c::s,1,a,l,h=>by
  have b:γ (a++[c])=aL a+1:=aA2;rw[s1c]at h;rw[cM];split at h
  ·have:=kC s _ _ l h;omega
  ·split at h
   ·have:=kC s _ _ l h;omega
   ·split at h
    ·cases h
    ·have:=kC s _ _ l h;omega
 |c::s,2,a,l,h=>by
  have b:γ (a++[c])=aL a+1:=aA2;rw[s2c]at h;rw[cM];split at h
  ·have:=kC s _ _ l h;omega
  ·cases h
 |c::s,m+3,a,l,h=>by
  have b:γ (a++[c])=aL a+1:=aA2;rw[s3c]at h;rw[cM];split at h
  ·have:=kC s _ _ l h;omega
  ·have:=kC s _ _ l h;omega
theorem FJ(v:aC):Ry (iW v).1<=aL v/\γ (iW v).1<=aL v+1:=by
 unfold iW;cases a:fA 0 [] v with
 |inr e=>exact⟨cH _,cH _⟩
 |inl l=>
  have:=kC v 0 [] l a;dsimp only;split
  ·exact⟨cH _,cH _⟩
  ·dsimp only;simp at this;omega
theorem Ld:∀l,∀x∈l,aL x<=Ry l
 |[],x,hx=>by cases hx
 |a::l,x,hx=>by
  rw[qk];rcases aQ.1 hx with h|h
  ·rw[h];omega
  ·have:=Ld l x h;omega
def CONT:aC:=[67,111,110,116,97,99,116]
def qL(c:aC):η:=decide (c=CONT)
theorem CZ(c v:aC)(C:aL v<=4190000):bbj FU c v=θ (Jj (pI c) (qL c) v):=by
 unfold bbj Jj;rw[mg,aR];generalize pI c=k;by_cases m:k=1
 ·rw[aB m,aB m];have e:(if c=([67,111,110,116,97,99,116]:aC)then((ZA FU v).bind λ(d:aC)=>θ (decide (d=([42]:aC))))else θ ν)=θ (decide (qL c=μ/\cI v=[42])):=by
   unfold qL;by_cases o:c=CONT
   ·rw[aB (show c=([67,111,110,116,97,99,116]:aC)from o),lO v aA0,aR,aE o];congr 1;rw[bY];exact⟨λh=>⟨Τ,h⟩,λh=>h.2⟩
   ·rw[aA (show¬c=([67,111,110,116,97,99,116]:aC)from o),aD o,aD (λh=>absurd h.1 aA1)]
  rw[e,aR];by_cases n:qL c=μ/\cI v=[42]
  ·rw[aE n,aM,aB n]
  ·rw[aD n,aG,aA n,U4 v aA0,aR];dsimp only;by_cases a:(fY (cI v)).1=0
   ·obtain⟨x,G,F⟩:=Qw _ a;obtain⟨A,I,z⟩:=TC (cI v);rw[aB a,aB a,Zj _ x (A.sml aA1) aA0 aA0 (λp f=>by have:=z p f;omega),aR]
   ·rw[aA a,aA a]
 ·rw[aA m,aA m];by_cases l:k=2
  ·rw[aB l,aB l,xq v aA0,aR];by_cases a:(lZ v).2=0
   ·obtain⟨v1,s,B,v4⟩:=KB v aA0;have u:=Kq v;rw[aB a,aB a,ER _ aA0 aA0 aA0 (λp f=>by have:=v4 p f;omega) aA0,aR]
   ·rw[aA a,aA a]
  ·rw[aA l,aA l];by_cases j:k=3
   ·obtain⟨r,q,t⟩:=Ca v;have w:=ds _ r q;rw[aB j,aB j,IA v aA0,aR];by_cases a:(Kb v).2.2=0
    ·rw[aB a,aB a,aS (bW _ aA0 aA0),aS aC3,aS aB5,jI];rfl
    ·rw[aA a,aA a]
   ·rw[aA j,aA j];by_cases i:k=4
    ·obtain⟨⟨r,q⟩,⟨t,y⟩,H⟩:=Mh v;have w:=ds _ r q;have E:=ds _ t y;rw[aB i,aB i,K8 v aA0,aR];by_cases a:(Xd v).2.2.2=0
     ·rw[aB a,aB a,aS (bW _ aA0 aA0),aS aC3,aS (bW _ aA0 aA0),aS aB5,aS aA3,aS aA3];simp
     ·rw[aA a,aA a]
    ·rw[aA i,aA i];by_cases g:k=5
     ·obtain⟨r,q⟩:=Jr (cI v);rw[aB g,aB g,T6 v aA0,aR];by_cases a:(eV (cI v)).2=0
      ·rw[aB a,aB a,aS (bW _ aA0 aA0)]
      ·rw[aA a,aA a]
     ·rw[aA g,aA g];have e:(if k=(6:Int)then θ (decide (k=(6:Int)))else θ (decide (k=(7:Int))))=θ (decide (k=6\/k=7)):=by
       by_cases b:k=6
       ·rw[aB b,aE b,aE (.inl b)]
       ·rw[aA b];congr 1;rw[bY];exact⟨.inr,λh=>h.resolve_left b⟩
      rw[e,aR];by_cases b:k=6\/k=7
      ·rw[aE b,aM,aB b,mo v aA0,aR];by_cases a:(BS v).2=0
       ·obtain⟨v1,s⟩:=AO v aA0;have u:=Ev v;rw[aB a,aB a,Zi _ aA0 aA0 (λp f=>by have:=s p f;omega),aR]
       ·rw[aA a,aA a]
      ·have D:=Tp v;rw[aD b,aG,aA b,lO v aA0,aR,Mi _ aA0,aR];unfold xF;by_cases a:(cI v).any dQ=μ
       ·rw[aB a,aB a];rfl
       ·rw[aA a,aA a,aB rfl]
theorem gh(a:aC×ζ)(d:δ aC×ζ)(n:aL d.1<=4194304)(r:δ aC):∀P c,aL P+aL r=aL d.1->aL r<c->(∀x∈r,aL x<=4190000)->
  aqf FU a d c (P++r) (γ P)=θ (if(yU (pI a.1) (qL a.1) r).2=0 then .inl (P++(yU (pI a.1) (qL a.1) r).1)else .inr ([],(yU (pI a.1) (qL a.1) r).2)):=by
 induction r with
 |nil=>intro P c h i hx;obtain⟨c,rfl⟩:=cB c;rw[iH]at h;rw[bhd,aue,aA aA0];rfl
 |cons x r j=>
  intro P c h i hx;obtain⟨c,rfl⟩:=cB c;rw[cM]at h i;have g:γ (P++x::r)=aL P+(aL r+1):=by rw[cE,cM]
  have b:0<=(aL P:Int)/\(aL P:Int)<(γ (P++x::r):Int):=aA0;have m:el (P++x::r) (aL P:Int)=x:=by simp[el]
  rw[bhd,aue,aB aA0,aS b,aS b,m,CZ _ x (hx x gQ),aR,aS b,aS b,yU];by_cases f:(Jj (pI a.1) (qL a.1) x).2=0
  ·have l:jH (P++x::r) (bL (aL P:Int)) (Jj (pI a.1) (qL a.1) x).1=(P++[(Jj (pI a.1) (qL a.1) x).1])++r:=by simp
   have:=j (P++[(Jj (pI a.1) (qL a.1) x).1]) c aB5 aA0 (λy k=>hx y (fB _ k));rw[show(γ (P++[(Jj (pI a.1) (qL a.1) x).1]):Int)=(aL P:Int)+1 by rw[cE];rfl]at this;rw[aB f,aB f,aS (bW _ aA0 aA0),l,this];by_cases e:(yU (pI a.1) (qL a.1) r).2=0
   ·rw[aB e,aB e,jI];rfl
   ·rw[aA e,aA e,aA e]
  ·rw[aA f,aA f,aA f]
def pQ(nm v:aC):aC×ζ:=if(gS nm).2=0 then D9 (Ap (gS nm).1) (pI (gS nm).1) (qL (gS nm).1) v else([],5)
theorem U3(nm v:aC)(j:aL nm<=4194304)(g:aL v<=1100000):bfo FU nm v=θ (pQ nm v):=by
 unfold bfo pQ;rw[IG nm aA0,aR];by_cases d:(gS nm).2=0
 ·rw[aB d,aB d,kv,aR];unfold D9;cases k:Ap (gS nm).1 with
  |false=>rw[oF,aM,CZ _ v aA0,aR,aA aA1]
  |true=>
   obtain⟨f,e⟩:=FJ v;have hx:∀x∈(iW v).1,aL x<=4190000:=λx hx=>by have:=Ld _ x hx;omega
   have:=gh (gS nm) (iW v) aA0 (iW v).1 [] FU aA2 aA4 hx;have a:aqf FU _ _ FU (iW v).1 0=_:=this;have i:=OO (pI (gS nm).1) (qL (gS nm).1) (iW v).1 (λx h=>by have:=hx x h;omega);rw[eY,aG,P9 v aA0,aR,aB rfl];by_cases c:(iW v).2=0
   ·rw[aB c,aB c,a,aR];by_cases b:(yU (pI (gS nm).1) (qL (gS nm).1) (iW v).1).2=0
    ·have l:=OP _ _ _ b;have m:=GG (yU (pI (gS nm).1) (qL (gS nm).1) (iW v).1).1;rw[aB b,aB b,lB,Ic,aS (by constructor<;>omega)]
    ·rw[aA b,aA b,Rt]
   ·rw[aA c,aA c]
 ·rw[aA d,aA d]
open Go.Lib renaming hasPrefix → jF, trimPrefix → eH
def QP(y:aC):aC:=45::45::y
def Z5(R:aC):aC:=(eH R [45,45]).dropWhile bR
theorem Ae(p s:aC)(h:jF s p=μ):∃r,s=p++r:=by obtain⟨r,a⟩:=Ri.1 (h);exact⟨r,a.symm⟩
theorem jy(p r:aC):jF (p++r) p=μ:=Ri.2 ⟨r,Τ⟩
theorem xw(p r:aC)(h:jF r p=ν):eH r p=r:=by unfold eH;rw[h];simp
theorem IH:∀c:ζ,nC c≠[]->gS (nC c)=(nC c,0):=fP _ aA5
theorem Qd:∀n∈bo,gS n=(n,0):=aA5
theorem oP(y:aC):∀(l:δ aC){q},mT l y=θ (.inr q)->q.1∈l/\q.2=0
 |[],q,h=>by cases h
 |n::l,q,h=>by
  unfold mT at h;split at h
  ·cases h;exact⟨gQ,Τ⟩
  ·have:=oP y l h;exact⟨fB _ this.1,this.2⟩
theorem xx:∀c:ζ,cL (Ht c)=cL c:=fP _ aA5
theorem gf:∀c:ζ,cL (eQ c)=cL c:=fP _ aA5
theorem fx:∀c:ζ,(Ht c==45)=(c==45):=fP _ aA5
theorem upup:∀c:ζ,Ht (Ht c)=Ht c:=fP _ aA5
theorem P5:∀c:ζ,eQ (eQ c)=eQ c:=fP _ aA5
theorem ua:∀c:ζ,eQ (Ht c)=eQ c:=fP _ aA5
theorem Df:∀(l:aC) (f:η),γ (yD f l)=γ l
 |[],_=>rfl
 |c::l,f=>by rw[yD,cM,cM,Df l]
theorem Uh:∀(l:aC) (f:η),(yD f l).all cL=l.all cL
 |[],_=>rfl
 |c::l,f=>by
  rw[yD,Jg,Jg,Uh l];cases f
  ·rw[aA aA1,gf]
  ·rw[aB rfl,xx]
theorem Gs:∀(l:aC) (f:η),cN (yD f l)=cN l
 |[],_=>rfl
 |c::l,f=>by
  have:=Gs l (c==45);simp only[cN]at this⊢;rw[yD,tR,tR,this];cases f
  ·rw[aA aA1,P5]
  ·rw[aB rfl,ua]
theorem Gr:∀(l:aC) (f:η),yD f (yD f l)=yD f l
 |[],_=>rfl
 |c::l,f=>by
  have:=Gr l (c==45);cases f
  ·simp only[yD,aA (show¬(ν=μ)by decide),P5,uc,this]
  ·simp only[yD,eW,upup,fx,this]
theorem GM(l:aC)(f:η):jG (yD f l)=jG l:=by unfold jG;rw[Uh];cases l<;>rfl
theorem pE(s:aC)(h:(gS s).2=0):gS (gS s).1=((gS s).1,0):=by
 by_cases f:jG s=ν\/64<γ s
 ·have e:gS s=([],5):=by unfold gS;rw[aB f]
  rw[e]at h;exact absurd h aA1
 ·by_cases d:γ s=1/\nC (eQ (Κ s 0))≠[]
  ·have e:gS s=(nC (eQ (Κ s 0)),0):=by unfold gS;rw[aA f,aB d]
   rw[e];exact IH _ d.2
  ·have e:gS s=((ajw FU (cN s) FU 0).getD (.inl ())).elim (λ_=>(yD μ s,0)) id:=by unfold gS;rw[aA f,aA d]
   obtain⟨r,g⟩:=bex (cN s) bo;rw[bhn,g,IY]at e;cases r with
   |inr q=>have i:=oP _ _ g;have e':gS s=q:=e;rw[e',Qd q.1 i.1]
   |inl u=>
    have e':gS s=(yD μ s,0):=e;rw[e'];have k:¬(jG (yD μ s)=ν\/64<γ (yD μ s)):=by rw[GM,Df];exact f
    have j:¬(γ (yD μ s)=1/\nC (eQ (Κ (yD μ s) 0))≠[]):=by
     rintro⟨a,b⟩;rw[Df]at a
     match s,a with
     |[c],_=>exact d ⟨Τ,λx=>b (by show nC (eQ (Ht c))=[];rw[ua];exact x)⟩
    unfold gS;rw[aA k,aA j,Gs,Gr,bhn,g];rfl
abbrev PL:=eK
open Go.Lib renaming hasPrefix → jF
abbrev PU:=jY×δ ζ
theorem Fl(s:aC)(h:(gS s).2=0):γ (gS s).1<=64:=by
 have e:=pE s h;by_cases a:64<γ (gS s).1
 ·have b:gS (gS s).1=([],5):=by rw[gS,aB (Or.inr a)]
  rw[b]at e;exact absurd (bA Prod.snd e) (show¬(5=0)by decide)
 ·omega
theorem zm(s p:aC):arl FU s p=θ (jF s p):=by
 unfold arl aib;cases h:jF s p with
 |true=>obtain⟨r,rfl⟩:=Ae _ _ h;rw[aB aD3,aS ⟨aA0,by rw[cE];omega⟩,gJ,ZJ,aE Τ];rfl
 |false=>
  by_cases a:γ p<=(γ s:Int)
  ·rw[aB a,aS aA0,gJ,aD]
   ·rfl
   ·intro e;have:=NZ (γ p) s;rw[e]at this;rw[<-this,jy]at h;cases h
  ·rw[aA a];rfl
theorem bdN_eq(y:aC)(a:γ y<=9223372036854775807):aqj FU y=θ (jG y&&decide (γ y<=70)):=by
 unfold aqj;rw[vj y a];cases jG y with
 |true=>simp;omega
 |false=>rfl
theorem HK(k:Int)(l:δ PP)(T:aC):lA k l T=if(lA k [] T).1=0 then(yC l (lA k [] T).2.1,(lA k [] T).2)else(5,([],[],ν)):=by
 unfold lA;cases fE k _ with
 |some j=>rfl
 |none=>
  by_cases c:dT T=0
  ·rw[aB c,aB c];rfl
  ·rw[aA c,aA c];by_cases b:dT T<γ T
   ·rw[aB b,aB b];cases fE k _ with
    |some j=>rfl
    |none=>
     by_cases a:T.drop (dT T+1)=[]/\k=1
     ·rw[aB a,aB a];rfl
     ·rw[aA a,aA a];rfl
   ·rw[aA b,aA b];by_cases a:k=2
    ·rw[aB a,aB a];rfl
    ·rw[aA a,aA a];rfl
theorem fld_5(k:Int)(T:aC):(lA k [] T).1=0\/(lA k [] T).1=5:=by
 rw[HK k [] T];split
 ·exact .inl Τ
 ·exact .inr Τ
theorem Bv(s:aC)(i a x:Int)(b e:ζ)(h:¬b=0):Qi (s,i,a,b) x e=(s,i,a,b):=aA h
theorem N7(s:aC)(m:γ s<=4194303)(g a:Int)(l:ζ)(e:Nat)(o:e<=γ s)(n:Nat):∀k b,k+n=e->n<b->
  ajp FU (s,g,a,l) e b k=θ ((k+cD (λc=> !(c==61)) (sub s (k:Int) (e:Int)):Nat):Int):=by
 induction n with
 |zero=>intro k b i j;obtain⟨b,rfl⟩:=cB b;obtain rfl:k=e:=aA0;rw[awy,aiu,aA aA0,bc];rfl
 |succ n f=>
  intro k b i j;obtain⟨b,rfl⟩:=cB b;have d:sub s k e=Κ s k::sub s (k+1:Nat) e:=by unfold sub;simp;rw[yZ s k aA0,show e-k=(e-(k+1))+1 by omega,sd]
  rw[awy,aiu,aB aA0,aS aD7,aR,d,cD];by_cases h:Κ s k=61
  ·rw[h];rfl
  ·rw[aD h,oF,aM,aS (bW _ aA0 aA0),mL,f _ b aA0 aA0,aB (by simp[h])];congr 1;omega
theorem KY(s:aC)(hs:γ s<=4194303)(i e:Nat)(a5:i<=e)(V:e<=γ s)(a:Int)(W:0<=a/\a<=5000000)(k:Int)(P:k=1\/k=2):
  ∃p a',(0<=a'/\a'<=5000000)/\aoq FU (s,i,a,0) e k=θ (p,(s,(e:Int),a',(lA k [] (sub s i e)).1))/\cN p.1=p.1/\γ p.1<=γ s/\
   ((lA k [] (sub s i e)).1=0->p=(lA k [] (sub s i e)).2/\a'=a):=by
 have H:k=0\/k=1\/k=2:=.inr P;have hT:γ (sub s i e)=e-i:=aC4;have E:=λn h=>DC s i e n h;have F:=λn=>Uk s i e n
 have N:=N7 s hs i a 0 e V (e-i) i FU aA0 aA4;unfold aoq;dsimp only;rw[N,aR];generalize a9:sub s i _=T at hT E F⊢;have hn:cD _ T=dT T:=Τ;have a3:dT T<=γ T:=Kf _ _;rw[hn,rM s aA0 i _ aA0 aA0 a 0 k H,E _ aA0,aR];have tail:∀(x b:Int) (l:ζ) (nm:aC),0<=b->b<=5000000->∃v h b',(0<=b'/\b'<=5000000)/\((((if k=(2:Int)then θ (decide (((i+dT T:Nat):Int)=(e:Int)))else θ ν).bind λ(D:η)=>(bif D then((Kg FU (s,x,b,l) (e:Int) (5:ζ)).bind λ(r:RR)=>θ (r.1,r.2.1,r.2.2.1,r.2.2.2))else θ (s,x,b,l))).bind λ(g:RR)=>(((if((i+dT T:Nat):Int)<(e:Int)then(gd (bJ (((i+dT T:Nat):Int)+(1:Int)))<|((wm FU (g.1,((i+dT T:Nat):Int)+(1:Int),g.2.2.1,g.2.2.2) (e:Int) k).bind λ(f:(aC×RR))=>(((if k=(1:Int)then θ (decide (f.1=([]:aC)))else θ ν)).bind λ(C:η)=>(bif C then(gd (bJ ((i+dT T:Nat)+1))<|((Kg FU f.2 ((i+dT T:Nat)+1) 5).bind λq=>θ (q.1,q.2.1,q.2.2.1,q.2.2.2,f.1,μ)))else θ (f.2.1,f.2.2.1,f.2.2.2.1,f.2.2.2.2,f.1,μ)))))else θ (g.1,g.2.1,g.2.2.1,g.2.2.2,[],ν))).bind λo=>θ ((nm,o.2.2.2.2.1,o.2.2.2.2.2),((o.1,e,o.2.2.1,o.2.2.2.1):RR)))))=θ ((nm,v,h),(s,(e:Int),b',if l=0 then(if dT T<γ T then(match fE k (T.drop (dT T+1))with|some _=>5|none=>if T.drop (dT T+1)=[]/\k=1 then 5 else 0)else if k=2 then 5 else 0)else l))/\
   (l=0->(if dT T<γ T then(match fE k (T.drop (dT T+1))with|some _=>(5:ζ)|none=>if T.drop (dT T+1)=[]/\k=1 then 5 else 0)else if k=2 then 5 else 0)=0->b'=b/\v=(if dT T<γ T then kO k (T.drop (dT T+1))else [])/\h=decide (dT T<γ T)):=by
  intro x b l nm a8 a7;by_cases c:dT T<γ T
  ·have M:¬((i+dT T:Nat):Int)=(e:Int):=by omega
   have S:(if k=(2:Int)then θ (decide (((i+dT T:Nat):Int)=(e:Int)))else θ ν)=θ ν:=by rw[aD M];split<;>rfl
   rw[S,aR,aG,aR,aB aA0,aS (bW _ aA0 aA0)];simp only[aB c];rw[mL,rM s aA0 (i+dT T+1) e aA0 V b l k H,F (dT T),aR];cases y:fE k (T.drop (dT T+1))with
   |some j=>
    have U:=ar _ _ _ j y;rw[dY]at U;dsimp only;by_cases d:l=0
    ·have A:Qi (s,((i+dT T+1:Nat):Int),b,l) ((i+dT T+1+j:Nat):Int) 5=(s,((i+dT T+1:Nat):Int),((i+dT T+1+j:Nat):Int),5):=aB d;rw[A,aB d];rcases P with rfl|rfl
     ·rw[aB rfl,aE rfl,aR,aM,aS (bW _ aA0 aA0),Rs,aR,aR];exact⟨_,_,_,qV,Τ,λ_ h=>absurd h (show¬(5:ζ)=0 by decide)⟩
     ·rw[aA aA1,aR,aG,aR];exact⟨_,_,_,qV,Τ,λ_ h=>absurd h (show¬(5:ζ)=0 by decide)⟩
    ·rw[Bv _ _ _ _ _ _ d,aA d];rcases P with rfl|rfl
     ·rw[aB rfl,aE rfl,aR,aM,aS (bW _ aA0 aA0),Rs,Bv _ _ _ _ _ _ d,aR,aR];exact⟨_,_,_,qV,Τ,λh=>absurd h d⟩
     ·rw[aA aA1,aR,aG,aR];exact⟨_,_,_,qV,Τ,λh=>absurd h d⟩
   |none=>
    have w:=sW k (T.drop (dT T+1)) y;dsimp only;have e2:(if k=(1:Int)then θ (decide (kO k (T.drop (dT T+1))=[]))else θ ν)=θ (decide (T.drop (dT T+1)=[]/\k=1)):=by
     by_cases J:k=1
     ·rw[aB J];congr 1;rw[bY,w];exact⟨λh=>⟨h,J⟩,λh=>h.1⟩
     ·rw[aA J,aD (λh=>J h.2)]
    rw[e2,aR];by_cases m:T.drop (dT T+1)=[]/\k=1
    ·rw[aE m,aM,aS (bW _ aA0 aA0),Rs,aR,aR,aB m];by_cases d:l=0
     ·have A:Qi (s,(e:Int),b,l) ((i+dT T+1:Nat):Int) 5=(s,(e:Int),((i+dT T+1:Nat):Int),5):=aB d;rw[A,aB d];exact⟨_,_,_,qV,Τ,λ_ h=>absurd h (show¬(5:ζ)=0 by decide)⟩
     ·rw[Bv _ _ _ _ _ _ d,aA d];exact⟨_,_,_,qV,Τ,λh=>absurd h d⟩
    ·rw[aD m,aG,aR,aA m];by_cases d:l=0
     ·subst d;rw[aB rfl];exact⟨_,_,_,qV,Τ,λ_ _=>⟨Τ,Τ,(aE c).symm⟩⟩
     ·rw[aA d];exact⟨_,_,_,qV,Τ,λh=>absurd h d⟩
  ·have heq:(i+dT T:Nat)=(e:Int):=by omega
   have S:(if k=(2:Int)then θ (decide (((i+dT T:Nat):Int)=(e:Int)))else θ ν)=θ (decide (k=2)):=by
    rw[aE heq];by_cases z:k=2
    ·rw[aB z,aE z]
    ·rw[aA z,aD z]
   simp only[aA c];rw[S,aR];by_cases z:k=2
   ·rw[aE z,aM,Rs,aR,aR,aA aA0,aB z];by_cases d:l=0
    ·have A:Qi (s,x,b,l) (e:Int) 5=(s,x,(e:Int),5):=aB d;rw[A,aB d];exact⟨_,_,_,qV,Τ,λ_ h=>absurd h (show¬5=0 by decide)⟩
    ·rw[Bv _ _ _ _ _ _ d,aA d];exact⟨_,_,_,qV,Τ,λh=>absurd h d⟩
   ·rw[aD z,aG,aR,aA aA0,aA z];by_cases d:l=0
    ·subst d;rw[aB rfl];exact⟨_,_,_,qV,Τ,λ_ _=>⟨Τ,Τ,(aD c).symm⟩⟩
    ·rw[aA d];exact⟨_,_,_,qV,Τ,λh=>absurd h d⟩
 have K:γ (T.take (dT T))=dT T:=aB3;have a6:=sX k (T.take (dT T));have Y:∀l:ζ,¬l=0->∀X:ζ,(if l=0 then X else l)=l:=λl h X=>aA h;have B:¬(5:ζ)=0:=aA1;cases y:fE k (T.take (dT T))with
 |some j=>
  have R:lA k [] T=(5,([],[],ν)):=by unfold lA;rw[y]
  have A:Qi (s,(i:Int),a,0) ((i+j:Nat):Int) 5=(s,(i:Int),((i+j:Nat):Int),5):=Τ;dsimp only;rw[A,Rs,aR];have U:=ar _ _ _ j y;obtain⟨v,h,b',u,t1,t2⟩:=tail i (i+j:Nat) 5 _ aA0 aA0;rw[Y 5 B]at t1;rw[R];exact⟨_,_,u,t1,Τ,cH _,λh=>absurd h B⟩
 |none=>
  have w:=sW k _ y;dsimp only;by_cases d:dT T=0
  ·have G:T.take (dT T)=[]:=qR aA0;have R:lA k [] T=(5,([],[],ν)):=by unfold lA;rw[y];dsimp only;rw[aB d]
   have Q:=w.2 G;have A:Qi (s,(i+dT T:Nat),a,0) (i:Int) 5=(s,((i+dT T:Nat):Int),(i:Int),5):=Τ;rw[Q,Rs,aR];obtain⟨v,h,b',u,t1,t2⟩:=tail _ i 5 _ aA0 aA0;rw[Y 5 B]at t1;rw[R];exact⟨_,_,u,t1,Τ,cH _,λh=>absurd h B⟩
  ·have L:¬kO k _=[]:=λe=>d (by rw[<-K,w.1 e];rfl)
   rw[aA L,YA _ aA0];obtain⟨v,h,b',u,t1,t2⟩:=tail (i+dT T:Nat) a 0 _ W.1 W.2;rw[aB rfl]at t1;have hE:(lA k [] T).1=(if dT T<γ T then(match fE k (T.drop (dT T+1))with|some _=>5|none=>if T.drop (dT T+1)=[]/\k=1 then 5 else 0)else if k=2 then 5 else 0):=by
    unfold lA;rw[y];dsimp only;rw[aA d];by_cases c:dT T<γ T
    ·rw[aB c,aB c];cases fE k _ with
     |some j=>rfl
     |none=>
      dsimp only;by_cases m:T.drop (dT T+1)=[]/\k=1
      ·rw[aB m,aB m]
      ·rw[aA m,aA m];rfl
    ·rw[aA c,aA c];by_cases m:k=2
     ·rw[aB m,aB m]
     ·rw[aA m,aA m];rfl
   have O:γ (cN (kO k (T.take (dT T))))<=γ s:=by unfold cN;rw[Gk];omega
   rw[hE];refine⟨_,_,u,t1,lR _,O,λt=> ?_⟩;obtain⟨q1,q2,Z⟩:=t2 Τ t;refine⟨?_,q1⟩;rw[q2,Z];unfold lA;rw[y];dsimp only;rw[aA d];by_cases c:dT T<γ T
   ·rw[aB c]at t⊢;rw[aB c];cases I:fE k _ with
    |some j=>rw[I]at t;exact absurd t B
    |none=>
     rw[I]at t;dsimp only at t⊢;by_cases m:T.drop (dT T+1)=[]/\k=1
     ·rw[aB m]at t;exact absurd t B
     ·rw[aA m,aE c]
   ·rw[aA c]at t⊢;rw[aA c];by_cases m:k=2
    ·rw[aB m]at t;exact absurd t B
    ·rw[aA m,aD c]
def VY(l:δ PP):Prop:=∀p∈l,cN p.1=p.1/\γ p.1<=4194304
theorem VY.snoc{l:δ PP}(h:VY l)(p:PP)(d:cN p.1=p.1)(c:γ p.1<=4194304):VY (l++[p]):=λq b=>by
 rcases aV.1 b with a|a
 ·exact h q a
 ·rw[aH.1 a];exact⟨d,c⟩
theorem I8(s:aC)(B:γ s<=4194303)(Xa v:ζ)(st:aC)(F:γ st<=1000)(k:Int)(C:k=1\/k=2)(y i:Nat)(l:δ PP)(a:Int)(D:0<=a/\a<=5000000)(b:cV s i v=μ)(H:γ l<=16)(x:VY l):
  ∃p a',(0<=a'/\a'<=5000000)/\rn FU Xa st k (y+1) l v s i a 0=rn FU Xa st k y (l++[p]) Xa s (bP st s (i+1)) a' (lA k l (sub s ((i+1:Nat)) (bP st s (i+1)))).1/\cN p.1=p.1/\γ p.1<=γ s/\
   ((lA k l (sub s ((i+1:Nat)) (bP st s (i+1)))).1=0->p=(lA k l (sub s ((i+1:Nat)) (bP st s (i+1)))).2/\a'=a):=by
 have f:=(wL b).1;have o:=Ke st s (i+1);have n:=Fz st s (i+1) f;obtain⟨p,m,d,G,e,g,u⟩:=KY s B (i+1) (bP st s (i+1)) o n a D k C;rw[axv,ajq,wA,aR,b,aS (bW _ aA0 aA0),mL,bcf s aA0 (i+1) f a 0 st F,aR,G,aR];rw[tZ l aA0 (λq r=>(x q r).2) p.1 aA0 (λq r=>(x q r).1) e,aR,HK k l];have j:(γ l+[p].length)*40<=140737488355328:=aC3;generalize sub s _ (bP st s (i+1))=T at u⊢;by_cases t:(lA k [] T).1=0
 ·obtain⟨A,z⟩:=u t;rw[<-A,t];by_cases c:yC l p.1=0
  ·rw[aB c,aR,aS j,c];exact⟨p,m,d,Τ,e,g,λ_=>⟨Τ,z⟩⟩
  ·have I:Qi (s,(bP st s (i+1)),m,0) ((i+1:Nat):Int) (yC l p.1)=(s,(bP st s (i+1):Int),((i+1:Nat):Int),yC l p.1):=Τ;rw[aA c,Rs,aR,aR,aS j];exact⟨p,_,qV,Τ,e,g,λh=>absurd h c⟩
 ·have E:=(fld_5 k T).resolve_left t;have w:¬(5:ζ)=0:=by decide
  rw[E];by_cases c:yC l p.1=0
  ·rw[aB c,aR,aS j];exact⟨p,m,d,Τ,e,g,λh=>absurd h w⟩
  ·rw[aA c,Rs,aR,aR,aS j];exact⟨p,m,d,Τ,e,g,λh=>absurd h w⟩
theorem xB(s:aC)(Xa c:ζ)(st:aC)(k:Int)(d:Nat)(i:Int)(l:δ PP)(a:Int)(b:ζ)(h:NN FU (s,i,a,b) c=θ ν):rn FU Xa st k (d+1) l c s i a b=θ (l,s,i,a,b):=by rw[axv,ajq,h,aR,aG]
theorem jb(s:aC)(y:γ s<=4194303)(st:aC)(D:γ st<=1000)(a:Int)(C:0<=a/\a<=5000000)(n:Nat):∀i b f l,γ s-i<=n->n+1<b->n<f->i<=γ s->γ l<=16->VY l->
  ∃l' i' a',(0<=a'/\a'<=5000000)/\rn FU 59 st 1 b l 59 s i a 0=θ (l',s,i',a',(iV st s f i l).1)/\γ l'<=17/\((iV st s f i l).1=0->l'=(iV st s f i l).2.2/\i'=((iV st s f i l).2.1)/\a'=a):=by
 induction n with
 |zero=>
  intro i b f l z A k j q o;obtain⟨b,rfl⟩:=cB b;obtain⟨f,rfl⟩:∃m,f=m+1:=⟨f-1,aA0⟩;have c:cV s i 59=ν:=by unfold cV;rw[aD aA0];rfl
  rw[xB _ _ _ _ _ _ _ _ _ _ (by rw[wA,c]),iV,c];exact⟨_,_,_,qV,Τ,aA0,λ_=>⟨Τ,Τ,Τ⟩⟩
 |succ n w=>
  intro i b f l z A k j q o;obtain⟨b,rfl⟩:=cB b;obtain⟨f,rfl⟩:∃m,f=m+1:=⟨f-1,aA0⟩;cases c:cV s i 59 with
  |false=>rw[xB _ _ _ _ _ _ _ _ _ _ (by rw[wA,c]),iV,c];exact⟨_,_,_,qV,Τ,aA0,λ_=>⟨Τ,Τ,Τ⟩⟩
  |true=>
   have g:=(wL c).1;have x:=Ke st s (i+1);have e:=Fz st s (i+1) g;obtain⟨p,G,B,E,v,F,u⟩:=I8 s y 59 59 st D 1 (.inl Τ) b i l a C c q o;rw[E,iV,c];by_cases d:(lA 1 l (sub s ((i+1:Nat):Int) (bP st s (i+1):Int))).1=0
   ·obtain⟨t,r⟩:=u d;have:=uO d;rw[d,r,<-t];exact w (bP st s (i+1)) b f _ aA0 aA0 aA0 e aA3 (o.snoc p v aA0)
   ·rw[aA d];obtain⟨b,rfl⟩:=cB b;rw[xB _ _ _ _ _ _ _ _ _ _ (Wb s _ _ _ d _)];exact⟨_,_,_,qV,Τ,by simp;omega,λh=>absurd h d⟩
theorem jf(s:aC)(B:γ s<=4194303)(a:Int)(G:0<=a/\a<=5000000)(n:Nat):∀i b f d l,γ s-i<=n->n+1<b->n<f->i<=γ s->(i=γ s\/cV s i d=μ)->γ l<=16->VY l->
  ∃l' i' a',(0<=a'/\a'<=5000000)/\rn FU 38 [38] 2 b l d s i a 0=θ (l',s,i',a',(yV s f i l).1)/\γ l'<=17/\((yV s f i l).1=0->l'=(yV s f i l).2):=by
 induction n with
 |zero=>
  intro i b f d l C D r q k u t;obtain⟨b,rfl⟩:=cB b;obtain⟨f,rfl⟩:∃m,f=m+1:=⟨f-1,aA0⟩;have j:cV s i d=ν:=by unfold cV;rw[aD aA0];rfl
  rw[xB _ _ _ _ _ _ _ _ _ _ (by rw[wA,j]),yV,aA aA0];exact⟨_,_,_,qV,Τ,aA0,λ_=>rfl⟩
 |succ n z=>
  intro i b f d l C D r q k u t;obtain⟨b,rfl⟩:=cB b;obtain⟨f,rfl⟩:∃m,f=m+1:=⟨f-1,aA0⟩;by_cases c:i<γ s
  ·have j:cV s i d=μ:=k.resolve_left aA0;have A:=Ke [38] s (i+1);have o:=Fz [38] s (i+1) c;obtain⟨p,K,F,I,y,J,x⟩:=I8 s B 38 d [38] aA1 2 (.inr Τ) b i l a G j u t;rw[I,yV,aB c];by_cases g:(lA 2 l (sub s ((i+1:Nat):Int) (bP [38] s (i+1):Int))).1=0
   ·obtain⟨w,v⟩:=x g;have:=uO g;rw[g,v,<-w];refine z (bP [38] s (i+1)) b f 38 _ aA0 aA0 aA0 o ?_ aA3 (t.snoc p y aA0);by_cases E:bP [38] s (i+1)=γ s
    ·exact .inl E
    ·have e:=bkm [38] s (i+1) c aA0;refine .inr ?_;unfold cV;rw[aE aA0];unfold fO at e;rw[Xr,lL,gP]at e;have H:=eq_of_beq e;rw[<-H];rfl
   ·rw[aA g];obtain⟨b,rfl⟩:=cB b;rw[xB _ _ _ _ _ _ _ _ _ _ (Wb s _ _ _ g _)];exact⟨_,_,_,qV,Τ,by simp;omega,λh=>absurd h g⟩
  ·have j:cV s i d=ν:=by unfold cV;rw[aD aA0];rfl
   rw[xB _ _ _ _ _ _ _ _ _ _ (by rw[wA,j]),yV,aA c];exact⟨_,_,_,qV,Τ,aA0,λ_=>rfl⟩
theorem PN(s:aC)(c:γ s<=4194303)(st:aC)(j:γ st<=1000)(a:Int)(g:0<=a/\a<=5000000)(i:Nat)(f:i<=γ s):
  ∃l' i' a',(0<=a'/\a'<=5000000)/\BY FU (s,i,a,0) 59 59 st 1=θ (fS l',(s,i',a',(iV st s (γ s+1) i []).1))/\((iV st s (γ s+1) i []).1=0->l'=(iV st s (γ s+1) i []).2.2/\i'=((iV st s (γ s+1) i []).2.1)/\a'=a):=by
 obtain⟨l',i',a',b,e,k,h⟩:=jb s c st j a g (γ s) i FU (γ s+1) [] aA0 aA4 aA0 f aA1 (λp d=>by cases d);unfold BY;rw[e,aR];rw[bcg l' aA0];exact⟨l',i',a',b,Τ,h⟩
theorem jc(s:aC)(d:γ s<=4194303)(a:Int)(h:0<=a/\a<=5000000)(i:Nat)(g:i<=γ s)(b:i=γ s\/cV s i 63=μ):
  ∃l' r',(0<=r'.2.2.1/\r'.2.2.1<=5000000)/\BY FU (s,i,a,0) 63 38 [38] 2=θ (fS l',r')/\r'.2.2.2=(yV s (γ s+1) i []).1/\((yV s (γ s+1) i []).1=0->l'=(yV s (γ s+1) i []).2):=by
 obtain⟨l',i',a',c,e,k,j⟩:=jf s d a h (γ s) i FU (γ s+1) 63 [] aA0 aA4 aA0 g b aA1 (λp f=>by cases f);unfold BY;rw[e,aR];rw[bcg l' aA0];exact⟨l',_,c,Τ,Τ,j⟩
theorem zS(r:RR)(c:¬r.2.2.2=0)(f g:ζ)(st:aC)(k:Int):BY FU r f g st k=θ ([],r):=by
 obtain⟨s,i,a,b⟩:=r;obtain⟨m,d⟩:∃m,FU=m+1:=⟨FU-1,by rw[dJ]⟩;have e:rn FU g st k FU [] f s i a b=θ ([],s,i,a,b):=by have:=xB s g f st k m i [] a b (Wb s i a b c f);rw[<-d]at this;exact this
 unfold BY;rw[e,aR];rfl
theorem EV(s:aC):∀f i l,i<=γ s->γ s-i<f->(i=γ s\/cV s i 59=μ\/cV s i 63=μ)->(iV [59,63] s f i l).1=0->(iV [59,63] s f i l).2.1=γ s\/cV s (iV [59,63] s f i l).2.1 63=μ
 |0,i,l,p,o,k,b=>by omega
 |f+1,i,l,p,o,k,b=>by
  rw[iV]at b⊢;by_cases d:cV s i 59=μ
  ·rw[aB d]at b⊢;have c:=(wL d).1;have m:=Ke [59,63] s (i+1);have e:=Fz [59,63] s (i+1) c;by_cases g:(lA 1 l (sub s ((i+1:Nat):Int) (bP [59,63] s (i+1):Int))).1=0
   ·rw[aB g]at b⊢;refine EV s f _ _ e aA0 ?_ b;by_cases n:bP [59,63] s (i+1)=γ s
    ·exact .inl n
    ·have a:=bkm [59,63] s (i+1) c aA0;refine .inr ?_;unfold cV;rw[aE aA0,Je];unfold fO at a;rw[Xr,Xr,lL,gP,gE]at a;rcases a with h|h
     ·left;have j:=eq_of_beq h;rw[<-j];rfl
     ·right;have j:=eq_of_beq h;rw[<-j];rfl
   ·rw[aA g]at b;exact absurd b g
  ·rw[aA d];rcases k with h|h|h
   ·exact .inl h
   ·exact absurd h d
   ·exact .inr h
theorem nh(s:aC)(i:Nat)(k:i<=γ s)(h:(jQ s i).1=0):(jQ s i).2.2.2=γ s\/cV s (jQ s i).2.2.2 59=μ\/cV s (jQ s i).2.2.2 63=μ:=by
 have l:=Bl s i k;unfold jQ at h⊢;generalize fX s i=e at l h⊢;split
 ·rename_i x;rw[aB x]at h;exact absurd h aA1
 ·rename_i x;rw[aA x]at h;split
  ·rename_i y;rw[aB y]at h;have b:=(wL y).1;have j:=Fz [59,63] s (e+1) b;split
   ·dsimp only;by_cases c:bP [59,63] s (e+1)=γ s
    ·exact .inl c
    ·have a:=bkm [59,63] s (e+1) b aA0;refine .inr ?_;unfold cV;rw[aE aA0,Je];unfold fO at a;rw[Xr,Xr,lL,gP,gE]at a;rcases a with h|h
     ·left;have g:=eq_of_beq h;rw[<-g];rfl
     ·right;have g:=eq_of_beq h;rw[<-g];rfl
   ·rename_i z;rw[aA z]at h;exact absurd h z
  ·rename_i y;rw[aA y]at h;split
   ·rename_i z;rw[aB z]at h;exact absurd h aA1
   ·rename_i z;by_cases c:e=γ s
    ·exact .inl c
    ·refine .inr ?_;cases f:cV s e 59 with
     |true=>exact .inl Τ
     |false=>
      cases d:cV s e 63 with
      |true=>exact .inr Τ
      |false=>exact absurd ⟨aA0,f,d⟩ z
theorem J6(d:η)(c:ζ)(b:η)(e:b=ν):((YE FU c).bind λa=>(bif a then θ μ else(bif (!d)then(if c=42 then θ μ else(if c=35 then θ μ else(bif d then θ b else θ ν)))else(bif d then θ b else θ ν))))=θ (lT d c):=by subst e;revert c;cases d<;>exact fP _ aA5
theorem DW(s:aC)(z:γ s<=4194303)(m:Int)(e:Nat)(B:e<=γ s)(f:η)(n:Nat):∀k g (b:aC),k+n=e->n<g->γ b<=k->(f=μ->m<k)->
  ∃j,wq FU (s,m,0,0) e f g b k=θ j/\
   (match yA f (sub s k e)with
   |some d=>j=.inl (b++d)
   |none=>∃a,(0<=a/\a<=5000000)/\j=.inr ([],(s,m,a,5))):=by
 induction n with
 |zero=>intro k g b v w x i;obtain⟨g,rfl⟩:=cB g;obtain rfl:k=e:=aA0;rw[aja,aem,aA aA0,bc];exact⟨_,Τ,by simp only[yA,gH]⟩
 |succ n u=>
  intro k g b v w x i;obtain⟨g,rfl⟩:=cB g;have r:sub s (k:Int) (e:Int)=Κ s (k:Int)::sub s ((k+1:Nat):Int) (e:Int):=by unfold sub;simp;rw[yZ s k aA0,show e-k=(e-(k+1))+1 by omega,sd]
  have t:((YE FU (Κ s (k:Int))).bind λ(l:η)=>(bif l then θ μ else(bif (!f)then(if(Κ s (k:Int))=(42:ζ)then θ μ else(if(Κ s (k:Int))=(35:ζ)then θ μ else(bif f then θ (decide ((k:Int)=m))else θ ν)))else(bif f then θ (decide ((k:Int)=m))else θ ν))))=θ (lT f (Κ s (k:Int))):=by
   cases f with
   |true=>exact J6 μ _ _ (aD (by have:=i Τ;omega))
   |false=>exact J6 ν _ ν Τ
  rw[aja,aem,aB aA0,aS aD7];rw[t,aR,r];unfold yA;cases C:lT f (Κ s (k:Int))with
  |true=>
   rw[aS aA3,aS (bW _ aA0 aA0)];obtain⟨j,y,q⟩:=u (k+1) g (b++[Κ s (k:Int)]) aA0 aA0 aA3 (λh=>by have:=i h;omega);refine⟨j,y,?_⟩;cases o:yA f (sub s ((k+1:Nat):Int) (e:Int))with
   |none=>rw[o]at q;exact q
   |some d=>rw[o]at q;rw[q,jI];rfl
  |false=>
   have p:fO [45,46,40,41] (Κ s (k:Int))=V7 (Κ s (k:Int)):=by generalize Κ s (k:Int)=c;revert c;exact fP _ aA5
   rw[aG,ayz _ _ aA1,p,aR];cases A:V7 (Κ s (k:Int))with
   |true=>rw[aS (bW _ aA0 aA0),mL];exact u _ g b aA0 aA0 aA0 (λh=>by have:=i h;omega)
   |false=>exact⟨_,Τ,_,aA0,Τ⟩
theorem DX(s:aC)(A:γ s<=4194303)(i:Nat)(B:i<=γ s):∃u r,afb FU (s,i,0,0)=θ (u,r)/\r.1=s/\(0<=r.2.2.1/\r.2.2.1<=5000000)/\r.2.2.2=(jV s i).1/\((jV s i).1=0->u=(jV s i).2/\r=(s,(bP [59] s i:Int),0,0)):=by
 have E:=Ke [59] s i;have l:=Fz [59] s i B;have v:¬(5:ζ)=0:=aA1
 have p:∀(d out:aC) (m:Int),m=(γ d:Int)->∃u r,((if m<(1:Int)then((Kg FU (s,(i:Int),0,0) (i:Int) (5:ζ)).bind λ(e:RR)=>θ (e.1,e.2.1,e.2.2.1,e.2.2.2))else θ (s,(i:Int),(0:Int),(0:ζ))).bind λ(b:RR)=>(((if(30:Int)<m then((Kg FU b (i:Int) (4:ζ)).bind λ(c:RR)=>θ (c.1,c.2.1,c.2.2.1,c.2.2.2))else θ (b.1,b.2.1,b.2.2.1,b.2.2.2))).bind λ(f:RR)=>θ (out,((f.1,((bP [59] s i:Nat):Int),f.2.2.1,f.2.2.2):RR))))=θ (u,r)/\r.1=s/\(0<=r.2.2.1/\r.2.2.1<=5000000)/\r.2.2.2=(if d=[]then((5,[]):ζ×aC)else if 30<γ d then(4,[])else(0,out)).1/\((if d=[]then((5,[]):ζ×aC)else if 30<γ d then(4,[])else(0,out)).1=0->u=(if d=[]then((5,[]):ζ×aC)else if 30<γ d then(4,[])else(0,out)).2/\r=(s,(bP [59] s i:Int),0,0)):=by
  intro d out m q;by_cases t:d=[]
  ·have H:m=0:=by rw[q,t];rfl
   have C:Qi (s,(i:Int),0,0) (i:Int) 5=(s,(i:Int),(i:Int),5):=Τ;rw[aB aA0,Rs,C,aR,aR,aA aA0,aR,aB t];exact⟨_,_,Τ,Τ,qV,Τ,λh=>absurd h v⟩
  ·have J:=bN.2 t;rw[aA aA0,aR,aA t];by_cases o:30<γ d
   ·have C:Qi (s,(i:Int),0,0) (i:Int) 4=(s,(i:Int),(i:Int),4):=Τ;rw[aB aA0,Rs,aR,aB o];exact⟨_,_,Τ,Τ,qV,Τ,λh=>absurd h (show¬(4:ζ)=0 by decide)⟩
   ·rw[aA aA0,aA o];exact⟨_,_,Τ,Τ,qV,Τ,λ_=>⟨Τ,Τ⟩⟩
 unfold afb jV;rw[bcf s aA0 i B 0 0 _ aA1,aR,wA,aR];dsimp only;cases n:cV s i 43 with
 |true=>
  have w:=(wL n).1;have hZ:=(wL n).2;have F:=rA [59] s i w (by rw[hZ];decide);have D:=Ke [59] s (i+1);obtain⟨m,q⟩:∃m,FU=m+1:=⟨FU-1,by rw[dJ]⟩;have step:wq FU (s,(i:Int),0,0) (bP [59] s i:Int) μ FU [] (i:Int)=wq FU (s,(i:Int),0,0) (bP [59] s i:Int) μ m [43] ((i+1:Nat):Int):=by rw[show wq FU (s,(i:Int),0,0) (bP [59] s i:Int) μ FU [] (i:Int)=wq FU (s,(i:Int),0,0) (bP [59] s i:Int) μ (m+1) [] (i:Int)by rw[<-q]];have y:YE FU 43=θ ν:=aA5;rw[aja,aem,aB aA0,aS aD7];dsimp only;rw[hZ,y,aR,aG,aE rfl,aS (bW _ aA0 aA0)];rfl
  obtain⟨j,z,g⟩:=DW s A (i:Int) (bP [59] s i) l μ (bP [59] s i-(i+1)) (i+1) m [43] aA0 (by rw[dJ]at q;omega) aB9 (λ_=>by omega);rw[step,z,aR,aB rfl];cases k:yA μ (sub s ((i+1:Nat):Int) ((bP [59] s i:Nat):Int))with
  |none=>rw[k]at g;obtain⟨a,x,rfl⟩:=g;rw[Rt];exact⟨_,_,Τ,Τ,qV,Τ,λh=>absurd h v⟩
  |some d=>rw[k]at g;dsimp only at g;have I:=Es μ _ _ k;have G:=sub_le s ((i+1:Nat):Int) ((bP [59] s i:Nat):Int);subst g;rw[lB];dsimp only;rw[aS (bW _ (by simp only[cE,cM];omega) aA3)];have:=p d ([43]++d) ((γ ([43]++d))-1) aB8;rw[aB rfl];exact this
 |false=>
  obtain⟨j,z,g⟩:=DW s A i _ l ν (bP [59] s i-i) i FU [] aA0 aA4 aA2 (λh=>by cases h);rw[z,aR,aA aA1];cases k:yA ν _ with
  |none=>rw[k]at g;obtain⟨a,x,rfl⟩:=g;rw[Rt];exact⟨_,_,Τ,Τ,qV,Τ,λh=>absurd h v⟩
  |some d=>rw[k]at g;dsimp only at g;subst g;rw[lB];dsimp only;rw[Ic];exact p d d (γ d:Int) Τ
theorem yv(s:aC)(o:γ s<=4194303)(b g h:aC)(a:Int)(i:Nat)(l:i<=γ s)(j:i=γ s\/cV s i 59=μ\/cV s i 63=μ):∃x y,BY FU (s,i,0,0) 59 59 [59,63] 1=θ x/\BY FU x.2 63 38 [38] 2=θ y/\(0<=y.2.2.2.1/\y.2.2.2.1<=5000000)/\y.2.2.2.2=(wI [59,63] s b g h a i).1/\((wI [59,63] s b g h a i).1=0->(b,g,h,a,x.1,y.1)=(wI [59,63] s b g h a i).2):=by
 obtain⟨D,u,A,m,n,v⟩:=PN s o [59,63] aA1 0 aA1 i l;unfold wI;by_cases c:(iV [59,63] s (γ s+1) i []).1=0
 ·obtain⟨t,r,q⟩:=v c;subst t r q;rw[aB c];rw[c]at n;have k:=LH _ s _ i [] l c;have d:=EV s _ i [] l aA0 j c;obtain⟨C,B,e,z,p,w⟩:=jc s o 0 aA1 _ k d;refine⟨_,_,n,z,e,?_⟩;by_cases f:(yV s (γ s+1) (iV [59,63] s (γ s+1) i []).2.1 []).1=0
  ·rw[aB f];refine⟨p.trans f,λ_=> ?_⟩;rw[w f]
  ·rw[aA f];exact⟨p,λh=>absurd h f⟩
 ·rw[aA c];have:=zS (s,u,A,(iV _ s _ i []).1) c 63 38 [38] 2;exact⟨_,_,n,this,m,Τ,λh=>absurd h c⟩
theorem DY(r:RR)(a:¬r.2.2.2=0):∃x y,BY FU r 59 59 [59,63] 1=θ x/\BY FU x.2 63 38 [38] 2=θ y/\y.2.2.2.1=r.2.2.1/\y.2.2.2.2=r.2.2.2:=
 ⟨_,_,zS r a 59 59 _ 1,zS r a 63 38 _ 2,Τ,Τ⟩
theorem J1(r:RR)(a:¬r.2.2.2=0):ri FU r=θ ([],r):=by unfold ri;rw[aA a]
theorem ja(s:aC)(H:γ s<=4194303)(i:Nat)(I:i<=γ s)(a:aC):∃u h p x y,alp FU (s,i,0,0)=θ u/\ri FU u.2=θ h/\ei FU h.2=θ p/\BY FU p.2 59 59 [59,63] 1=θ x/\BY FU x.2 63 38 [38] 2=θ y/\(0<=y.2.2.2.1/\y.2.2.2.1<=5000000)/\
  y.2.2.2.2=(if(gB s i).1=0 then wI [59,63] s a (gB s i).2.1 (gB s i).2.2.1 (gB s i).2.2.2.1 (gB s i).2.2.2.2 else((gB s i).1,hV)).1/\
  ((if(gB s i).1=0 then wI [59,63] s a (gB s i).2.1 (gB s i).2.2.1 (gB s i).2.2.2.1 (gB s i).2.2.2.2 else((gB s i).1,hV)).1=0->(a,u.1,h.1,p.1,x.1,y.1)=(if(gB s i).1=0 then wI [59,63] s a (gB s i).2.1 (gB s i).2.2.1 (gB s i).2.2.2.1 (gB s i).2.2.2.2 else((gB s i).1,hV)).2):=by
 obtain⟨u,r,E,K,C,t⟩:=UP s H i I;have go:∀m j,j<=γ s->∃h p x y,ri FU (s,j,0,0)=θ h/\ei FU h.2=θ p/\BY FU p.2 59 59 [59,63] 1=θ x/\BY FU x.2 63 38 [38] 2=θ y/\(0<=y.2.2.2.1/\y.2.2.2.1<=5000000)/\
   y.2.2.2.2=(if(jQ s j).1=0 then wI [59,63] s a m (jQ s j).2.1 (jQ s j).2.2.1 (jQ s j).2.2.2 else((jQ s j).1,hV)).1/\
   ((if(jQ s j).1=0 then wI [59,63] s a m (jQ s j).2.1 (jQ s j).2.2.1 (jQ s j).2.2.2 else((jQ s j).1,hV)).1=0->(a,m,h.1,p.1,x.1,y.1)=(if(jQ s j).1=0 then wI [59,63] s a m (jQ s j).2.1 (jQ s j).2.2.1 (jQ s j).2.2.2 else((jQ s j).1,hV)).2):=by
  intro m j B;obtain⟨h,p,l,k,L,z,G,J⟩:=jd s aA0 j B;by_cases b:(jQ s j).1=0
  ·obtain⟨t1,t2,t3⟩:=J b;have A:=LZ s j B;have o:=nh s j B b;obtain⟨x,y,g,f,d,e,q⟩:=yv s H a m (jQ s j).2.1 (jQ s j).2.2.1 (jQ s j).2.2.2 A o;rw[aB b];refine⟨h,p,x,y,l,k,by rw[t3];exact g,f,d,e,λn=> ?_⟩;rw[t1,t2];exact q n
  ·rw[aA b];obtain⟨x,y,g,f,d,e⟩:=DY p.2 (by rw[G];exact b);exact⟨h,p,x,y,l,k,g,f,by rw[d];exact z,by rw[e,G],λn=>absurd n b⟩
 unfold gB;by_cases c:bP [64] s i<γ s
 ·rw[aB c]at t;obtain⟨v,F⟩:=t;rw[aB c];by_cases b:(mP (sub s i (bP [64] s i))).1=0
  ·obtain⟨d1,d2⟩:=F b;obtain⟨h,p,x,y,l,k,g,f,d,e,q⟩:=go u _ c;rw[aB b];subst d2;rw[<-d1];exact⟨(u,_),h,p,x,y,E,l,k,g,f,d,e,q⟩
  ·rw[aA b];rw[aA b];have w:¬r.2.2.2=0:=by rw[v];exact b
   have l:=J1 r w;obtain⟨s',i',a',D⟩:=r;have k:=Uv s' i' a' D w;obtain⟨x,y,g,f,d,e⟩:=DY _ w;exact⟨(u,_),_,_,x,y,E,l,k,g,f,by rw[d];exact C,by rw[e];exact v,λn=>absurd n b⟩
 ·rw[aA c]at t;obtain⟨v,F⟩:=t;rw[aA c];subst v F;obtain⟨h,p,x,y,l,k,g,f,d,e,q⟩:=go [] i I;exact⟨([],_),h,p,x,y,E,l,k,g,f,d,e,q⟩
theorem EE(st s b d h:aC)(a:Int)(i:Nat)(c:¬(wI st s b d h a i).1=0):(wI st s b d h a i).2=hV:=by
 unfold wI at c⊢;split
 ·rename_i f;rw[aB f]at c;split
  ·rename_i e;rw[aB e]at c;exact absurd Τ c
  ·rfl
 ·rfl
theorem UR(s:aC)(l:γ s<=4194303)(a g:aC)(c:Nat)(j:c<γ s):∃x,BY FU (s,(bP [59] s (c+1)),0,0) 59 59 [59] 1=θ x/\(0<=x.2.2.2.1/\x.2.2.2.1<=5000000)/\x.2.2.2.2=(wI [59] s a g [] 0 (bP [59] s (c+1))).1/\((wI [59] s a g [] 0 (bP [59] s (c+1))).1=0->(a,g,[],0,x.1,[])=(wI [59] s a g [] 0 (bP [59] s (c+1))).2):=by
 have e:=Fz [59] s (c+1) j;obtain⟨u,v,w,i,q,o⟩:=PN s l [59] aA1 0 aA1 (bP [59] s (c+1)) e;refine⟨_,q,i,?_⟩;unfold wI;by_cases d:(iV [59] s (γ s+1) (bP [59] s (c+1)) []).1=0
 ·obtain⟨k,t,r⟩:=o d;have f:=Zo s (γ s+1) (bP [59] s (c+1)) [] e aA0 (by
   by_cases m:bP [59] s (c+1)=γ s
   ·exact .inl m
   ·have b:=bkm [59] s (c+1) j aA0;refine .inr ?_;unfold cV;rw[aE aA0];unfold fO at b;rw[Xr,lL,gP]at b;have p:=eq_of_beq b;rw[<-p];rfl) d
  have n:yV s (γ s+1) (γ s) []=(0,[]):=by rw[yV,aA (Nat.lt_irrefl _)]
  rw[aB d,f,n];refine⟨d,λ_=> ?_⟩;rw[k];rfl
 ·rw[aA d];exact⟨Τ,λh=>absurd h d⟩
theorem KX(s:aC):∃a,(0<=a/\a<=5000000)/\bfk FU s=θ ((Fv s).2,a,(Fv s).1):=by
 unfold bfk Fv;by_cases B:1024<γ s
 ·rw[aB aA0,aB B];exact⟨_,aC1,Τ⟩
 ·rw[aA aA0,aA B];have n:=Fz [58] s 0 (cH _);have I:ZF FU (s,0,0,0) [58]=θ ((bP [58] s 0:Nat):Int):=bcf s aA0 0 (cH _) 0 0 [58] aA1;rw[I,aR];generalize bP [58] s 0=c at n⊢;by_cases j:c<γ s
  ·rw[aA aA0,aB j,aS aA0,gJ,YA _ aB3,aR,aS (bW _ aA0 aA0),mL];generalize cN (s.take c)=b;have q:(if b=([115,105,112]:aC)then θ (decide (b=([115,105,112]:aC)))else θ (decide (b=([115,105,112,115]:aC))))=θ (decide (b=ZH\/b=CA)):=by
    by_cases k:b=ZH
    ·rw[aB (show b=([115,105,112]:aC)from k),aE (show b=([115,105,112]:aC)from k),aE (Or.inl k)]
    ·rw[aA (show¬b=([115,105,112]:aC)from k)];congr 1;rw[bY];exact⟨Or.inr,λh=>h.resolve_left k⟩
   rw[q,aR];by_cases f:b=ZH\/b=CA
   ·obtain⟨u,h,p,x,y,v,t,H,G,F,o,i,m⟩:=ja s aA0 (c+1) j b;rw[aE f,aM,aB f,v,aR,t,aR,H,aR,G,aR,F,aR,aR,lB];dsimp only;have d:¬(if(gB s (c+1)).1=0 then wI [59,63] s b (gB s (c+1)).2.1 (gB s (c+1)).2.2.1 (gB s (c+1)).2.2.2.1 (gB s (c+1)).2.2.2.2 else((gB s (c+1)).1,hV)).1=0->(if(gB s (c+1)).1=0 then wI [59,63] s b (gB s (c+1)).2.1 (gB s (c+1)).2.2.1 (gB s (c+1)).2.2.2.1 (gB s (c+1)).2.2.2.2 else((gB s (c+1)).1,hV)).2=hV:=by
     intro A;split
     ·rename_i D;rw[aB D]at A;exact EE _ _ _ _ _ _ _ A
     ·rfl
    generalize(if(gB s (c+1)).1=0 then wI [59,63] s b (gB s (c+1)).2.1 (gB s (c+1)).2.2.1 (gB s (c+1)).2.2.2.1 (gB s (c+1)).2.2.2.2 else((gB s (c+1)).1,hV))=R at i m d⊢;by_cases g:R.1=0
    ·rw[aB (i.trans g),g,<-m g];exact⟨_,aC1,Τ⟩
    ·rw[aA (λh=>g (i.symm.trans h)),d g,i];exact⟨_,aC1,Τ⟩
   ·rw[aD f,aG,aA f];by_cases e:b=ru
    ·obtain⟨u,r,v,J,o,w,E⟩:=DX s aA0 (c+1) j;rw[aB (show b=[116,101,108]from e),aB e,v,aR];by_cases g:(jV s (c+1)).1=0
     ·obtain⟨rfl,rfl⟩:=E g;obtain⟨x,t,C,i,m⟩:=UR s aA0 b (jV s _).2 c j;rw[aB g,t,aR,aR,lB];dsimp only;have d:=EE [59] s b (jV s (c+1)).2 [] 0 (bP [59] s (c+1));generalize wI _ s b (jV s _).2 [] 0 _=R at i m d⊢;by_cases l:R.1=0
      ·rw[aB (i.trans l),l,<-m l];exact⟨_,aC1,Τ⟩
      ·rw[aA (λh=>l (i.symm.trans h)),d l,i];exact⟨_,aC1,Τ⟩
     ·have z:¬r.2.2.2=0:=by rw[w];exact g
      rw[aA g,zS r z,aR,aR,lB];dsimp only;rw[aA z,w];exact⟨_,aC1,Τ⟩
    ·rw[aA (show¬b=[116,101,108]from e),aA e];exact⟨_,aC1,Τ⟩
  ·rw[aB aA0,aA j];exact⟨_,aC1,Τ⟩
open Go.Lib renaming decDigits → NY, hasPrefix → jF, itoa → gK, trimPrefix → eH
open List renaming length → aL
theorem Fk(s:aC):IK s= !s.any dQ:=by unfold IK;rw[JB]
theorem KZ(k:Int)(B:k=1\/k=2)(l:δ PP)(H:aL l<=16)(j:LS k l)(n:∀p∈l,aL p.1<=4194304/\γ p.2.1<=4194304)(q:δ PP):∀p c,l=p++q->aL q<c->
  apx FU l k c (γ p)=θ (.inl ()):=by
 induction q with
 |nil=>intro p c h m;obtain⟨c,rfl⟩:=cB c;rw[bgu,atu,aA aA6]
 |cons a q A=>
  intro p c h m;obtain⟨c,rfl⟩:=cB c;have g:=bA aL h;simp at g m;have f:(0:Int)<=(aL p:Int)/\(aL p:Int)<(aL l:Int):=aA0;have C:el l (aL p:Int)=a:=aB2;have r:a∈l:=aA6;obtain⟨z,y,w,v,u,t⟩:=j.2 a r;obtain⟨s,G⟩:=n a r;have i:l.take (bL (aL p:Int))=p:=by rw[gJ,h,ZJ]
  have e:=H5 p q a (by rw[<-h];exact j.1) aA0;have D:IS FU p a.1=θ 0:=by rw[tZ p aA0 (λx hx=>(n x (by rw[h];simp[hx])).1) a.1 s (λx hx=>(j.2 x (by rw[h];simp[hx])).2.1) y,e]
  have b:=A (p++[a]) c aA6 aA0;rw[show(γ (p++[a]))=aL p+1 by simp]at b;have F:(!a.1.any dQ)=μ:=by rw[<-Fk];exact w
  have E:(!a.2.1.any dQ)=μ:=by rw[<-Fk];exact v
  rw[bgu,atu,aB f.2,aS f,aS f,C,i,aA z,Af _ s,aR,F,eY,aG,Af _ G,aR,E,eY,aG,D,aS aA0];rcases B with rfl|rfl
  ·have o:=u Τ;by_cases d:a.2.1=[]
   ·rw[d]at o;have o':a.2.2=ν:=o;rw[o',aB d,aG,aS (bW _ aA0 aA0)];exact b
   ·rw[aD d]at o;have o':a.2.2=μ:=o;rw[o',eY,aG,aA d,aS (bW _ aA0 aA0)];exact b
  ·rw[t rfl,eY,aG];by_cases d:a.2.1=[]
   ·rw[aB d,aS (bW _ aA0 aA0)];exact b
   ·rw[aA d,aS (bW _ aA0 aA0)];exact b
theorem Lz(k:Int)(b:k=1\/k=2)(l:δ PP)(a:aL l<=16)(d:LS k l)(c:∀p∈l,aL p.1<=4194304/\γ p.2.1<=4194304):bbc FU l k=θ μ:=by unfold bbc;have h:apx FU l k FU 0=θ _:=KZ k b l a d c l [] FU Τ aA4;rw[h,aR,lB]
theorem J0(l:δ PP)(n:aL l<=1000)(k:∀p∈l,cN p.1=p.1/\γ p.1<=4194304)(q:δ PP):∀p b,l=p++q->aL q<b->
  alq FU l b p (γ p)=θ l:=by
 induction q with
 |nil=>intro p b h f;obtain⟨b,rfl⟩:=cB b;rw[bdq,aor,aA aA6,h,gH]
 |cons a q i=>intro p b h f;obtain⟨b,rfl⟩:=cB b;have d:=bA aL h;simp at d f;have c:(0:Int)<=(aL p:Int)/\(aL p:Int)<(aL l:Int):=aA0;have j:el l (aL p:Int)=a:=aB2;obtain⟨g,m⟩:=k a aA6;have e:=i (p++[a]) b aA6 aA0;rw[show(γ (p++[a]):Int)=(aL p:Int)+1 by simp]at e;rw[bdq,aor,aB c.2,aS c,aS c,j,YA _ aA0,aR,g];rw[aS aA3,aS (bW _ aA0 aA0)];exact e
theorem EB(l:δ PP)(b:aL l<=16)(a:∀p∈l,cN p.1=p.1/\γ p.1<=4194304):avc FU l=θ (fS l):=by unfold avc;have h:alq FU l FU [] 0=θ l:=J0 l aA0 a l [] FU Τ aA4;rw[h,aR,bcg l aA0,aR]
theorem iz(a:aC)(h:aL a<=4194303)(g:jR a=μ):att FU a=θ μ:=by obtain⟨t1,t2⟩:=telA a [] a [] aA2 (λc i=>by cases i) g;rw[iH]at t1;obtain⟨u,r,k,m,j,l,d⟩:=DX a h 0 (cH _);have b:afb FU (a,0,0,0)=θ (u,r):=k;obtain⟨f,e⟩:=d (by rw[t1]);unfold att;rw[b,aR,e,f,t1];rw[aE rfl];rfl
theorem XM(u:aC)(h:jR u=μ):∀c∈u,dQ c=ν:=by
 unfold jR at h;simp only[lX]at h;have g:=h.2;intro c f;have i:∀d c,lT d c=μ->dQ c=ν:=by intro d;cases d<;>exact fP _ aA5
 cases u with
 |nil=>cases f
 |cons a u=>
  by_cases b:a=43
  ·subst b;rcases aQ.1 f with h|h
   ·rw[h];decide
   ·exact i _ c (aT.1 g c h)
  ·have j:¬43=a:=λe=>b e.symm;have k:eH (a::u) [43]=a::u:=by unfold eH jF;simp[j]
   rw[k]at g;exact i _ c (aT.1 g c f)
theorem Z2(u:aC)(h:jR u=μ):aL u<=31:=by
 unfold jR at h;simp at h;have d:=h.1.2;cases u with
 |nil=>exact cH _
 |cons a u=>
  by_cases b:a=43
  ·subst b;have c:eH (43::u) [43]=u:=by unfold eH jF;simp
   rw[c]at d;rw[cM];omega
  ·have f:¬43=a:=λe=>b e.symm;have c:eH (a::u) [43]=a::u:=by unfold eH jF;simp[f]
   rw[c]at d;omega
theorem EA(u:UU)(a:Good u)(t:wv u):bdc FU u=θ (u,0):=by
 obtain⟨y,s,r,n,m⟩:=t;have e:cN u.1=u.1:=by rcases a.tp with⟨h|h,_⟩|⟨h,_⟩<;>rw[h]<;>rfl
 have i:∀p∈u.2.2.2.2.1,cN p.1=p.1/\γ p.1<=4194304:=λp d=>⟨(a.ps.2 p d).2.1,(n p d).1⟩;have g:∀p∈u.2.2.2.2.2,cN p.1=p.1/\γ p.1<=4194304:=λp d=>⟨(a.hs.2 p d).2.1,(m p d).1⟩
 have f:(!u.2.1.any dQ)=μ:=by
  rcases a.tp with⟨_,_,_,_,h⟩|⟨_,_,_,_,h⟩
  ·rw[<-Fk];exact h
  ·have v:u.2.1.any dQ=ν:=by rw[dC];intro c x;have w:=XM u.2.1 h c x;rw[w];decide
   rw[v];rfl
 unfold bdc;rw[YA _ aA0,aR,e,Lz 1 (.inl rfl) _ a.pl a.ps n,aR,eY,aG,Lz 2 (.inr rfl) _ a.hl a.hs m,aR,eY,aG,Af _ s,aR,aR,f,eY,aG,EB _ a.pl i,aR,EB _ a.hl g,aR,a.pi,a.hi];rcases a.tp with⟨h,l,q,o,k⟩|⟨h,l,q,o,k⟩
 ·have b:(if u.1=[115,105,112]then θ (decide (u.1=[115,105,112]))else θ (decide (u.1=[115,105,112,115])))=θ μ:=by rcases h with h|h<;>rw[h]<;>rfl
  rw[b,aR,aM,bfx _ r,aR,l];rw[eY,aG,aA aA0,aD aA0,aR,aG]
 ·have b:(if u.1=[115,105,112]then θ (decide (u.1=[115,105,112]))else θ (decide (u.1=[115,105,112,115])))=θ ν:=by rw[h];rfl
  have j:(aL u.2.2.2.2.2:Int)=0:=by rw[o];rfl
  rw[b,aR,aG,aB (show u.1=([116,101,108]:aC)from h),aB l,aB q,aB j,iz _ (by have:=Z2 _ k;omega) k,aR,aR,aM]
theorem J3(s:aC)(r:aL s<=4194304)(k:Int)(l:k=0\/k=1\/k=2)(q:aC):∀p d,s=p++q->aL q<d->
  ang FU s k d (kL k p) (γ p)=θ (kL k s):=by
 induction q with
 |nil=>intro p d h f;obtain⟨d,rfl⟩:=cB d;rw[bes,ars,aA aA6,h,gH]
 |cons c q j=>
  intro p d h f;obtain⟨d,rfl⟩:=cB d;have e:=bA aL h;simp at e f;have b:(0:Int)<=(aL p:Int)/\(aL p:Int)<(aL s:Int):=aA0;have n:Κ s (aL p:Int)=c:=by rw[h];simp[Κ]
  have a:=j (p++[c]) d aA6 aA0;have m:=Xh k p;have o:kL k (p++[c])=kL k p++MJ k c:=by unfold kL;rw[NW,iT]
  rw[show(γ (p++[c]):Int)=(aL p:Int)+1 by simp,o]at a;rw[bes,ars,aB b.2,aS b,PO _ k l,n,aR];unfold MJ at a;cases g:Ir c k with
  |true=>rw[g]at a;rw[aS b,aS aA3,aS (bW _ aA0 aA0)];exact a
  |false=>rw[g]at a;have t:=fG c;have i:(γ ([48,49,50,51,52,53,54,55,56,57,65,66,67,68,69,70]:aC))=16:=Τ;have v:(c/16).toNat=c.toNat/16:=UInt8.toNat_div c 16;have u:(c%16).toNat=c.toNat%16:=UInt8.toNat_mod c 16;rw[aG,aS b,aS aA1,aS aA0,aS b,aS aA1,aS aA0,aS aA3,aS (bW _ aA0 aA0)];exact a
theorem rK(s:aC)(a:aL s<=4194304)(k:Int)(b:k=0\/k=1\/k=2):aof FU s k=θ (kL k s):=by unfold aof;have h:ang FU s k FU [] 0=θ _:=J3 s a k b s [] FU Τ aA4;rw[h,aR]
def sx(k:Int)(p:PP):aC:=kL k p.1++(bif p.2.2 then 61::kL k p.2.1 else [])
def TK(k:Int)(a:aC):aC->δ PP->aC
 |_,[]=>[]
 |m,p::r=>m++(sx k p++TK k a a r)
theorem KT(k:Int)(w:k=1\/k=2)(c:aC)(m:aL c<=1)(l:δ PP)(z:aL l<=16)(y:∀p∈l,aL p.1<=4194304/\γ p.2.1<=4194304)(r:δ PP):∀pre b (out mk),l=pre++r->aL r<b->aL mk<=1->aL out<=aL pre*30000000->
  ala FU l c k b out mk (γ pre)=θ (out++TK k c mk r):=by
 have g:k=0\/k=1\/k=2:=.inr w;induction r with
 |nil=>intro pre b out mk h q v u;obtain⟨b,rfl⟩:=cB b;rw[gH]at h;rw[bgt,atr,aA aA6];simp[TK]
 |cons p r s=>
  intro pre b out mk h q v u;obtain⟨b,rfl⟩:=cB b;have f:=bA aL h;simp at f q;have a:0<=(aL pre:Int)/\(aL pre:Int)<(aL l:Int):=aA0;have x:el l (aL pre:Int)=p:=aB2
  have j:=y p aA6;have B:=Xh k p.1;have A:=Xh k p.2.1;have d:bJ ((aL pre:Int)+1):=bW _ aA0 aA0;have next:∀o:aC,o=out++(mk++sx k p)->ala FU l c k b o c ((aL pre:Int)+1)=θ (out++TK k c mk (p::r)):=by
   intro o e;have t:γ (sx k p)<=25165830:=by
    unfold sx;rw[cE];cases p.2.2 with
    |true=>rw[aM,cM];omega
    |false=>rw[aG,iH];omega
   have i:=s (pre++[p]) b o c aA6 aA0 m (by rw[e];simp;omega);rw[show(γ (pre++[p]):Int)=(aL pre:Int)+1 by simp]at i;rw[i,e];simp[TK]
  rw[bgt,atr,aB a.2,aS aA0,aS a,aS a,x,rK _ j.1 k g,aR,aS aA3,aS a,aS a];cases n:p.2.2 with
  |true=>
   rw[aS aA3,aS a,aS a,rK _ j.2 k g,aR,aS aA3,aS d];refine next _ ?_
   unfold sx;rw[n];simp
  |false=>
   rw[aS d];refine next _ ?_
   unfold sx;rw[n];simp
theorem Lu(k:Int)(f:k=1\/k=2)(a b:aC)(c:aL a<=1)(d:aL b<=1)(l:δ PP)(e:aL l<=16)(g:∀p∈l,aL p.1<=4194304/\γ p.2.1<=4194304):vw FU l a b k=θ (TK k b a l):=by unfold vw;have h:ala FU l b k FU [] a 0=θ ([]++TK k b a l):=KT k f b d l e g l [] FU [] a Τ aA4 c (cH _);rw[h,aR,Ic]
theorem OF:∀l:δ PP,TK 1 [59] [59] l=kF l
 |[]=>rfl
 |p::l=>by unfold TK kF;rw[OF l];rfl
theorem OG:∀l:δ PP,(∀p∈l,p.2.2=μ)->TK 2 [38] [38] l=vA l
 |[],_=>rfl
 |p::l,h=>by unfold TK vA;rw[OG l (λq a=>h q (fB _ a))];unfold sx Fb;rw[h p gQ];rfl
theorem xm(l:δ PP)(h:∀p∈l,p.2.2=μ):TK 2 [38] [63] l=Te l:=by
 cases l with
 |nil=>rfl
 |cons p l=>unfold TK Te;rw[OG l (λq a=>h q (fB _ a))];unfold sx Fb;rw[h p gQ];rfl
theorem J7:∀(k n a:Nat),n<10^(k+1)->k+1<a->k<=15->qy a n=θ (NY n):=by
 intro k;induction k with
 |zero=>intro n a h g c;obtain⟨a,rfl⟩:=cB a;rw[qy,aB aA0,dU,aS aA3,(pC n h).2.2,NY,dif_pos h]
 |succ k f=>
  intro n a h g c;obtain⟨a,rfl⟩:=cB a;have j:10^(k+1+1)<=10^17:=Nat.pow_le_pow_right aA1 aA0;rw[qy,NY];by_cases d:n<10
  ·rw[aB aA0,dif_pos d,dU,aS aA3,(pC n d).2.2]
  ·have m:n/10=((n/10:Nat):Int):=by omega
   have l:(n:Int)%10=((n%10:Nat):Int):=aA0;have e:n/10<10^(k+1):=aE9;have o:=(SB k _ e).2.2.2;have b:0<=(n:Int)/\0<(10:Int)/\bJ (n:Int):=⟨aA0,aA0,bW _ aA0 aA0⟩;have i:=pC (n%10) (Nat.mod_lt _ aA1);rw[aA aA0,dif_neg d,aS b,m,f (n/10) a e aA0 aA0,aR,aS b,aS b,l,aS (bW _ aA0 aA0),aS aA3,i.2.2,aS aA3]
theorem J8(n:Int)(a:0<=n)(h:n<=65535):qy FU n=θ (gK n):=by obtain⟨m,rfl⟩:∃m:Nat,n=m:=⟨n.toNat,aA0⟩;exact J7 15 m FU aA0 aA4 aA1
theorem KW(u:UU)(e:Good u)(q:wv u):bfj FU u=θ (dc u,0):=by
 have y:=EA u e q;obtain⟨E,t,D,o,n⟩:=q;have G:=uC _ o;have F:=Pd _ n;have i:=e.pl;have j:=e.hl;have v:=Xh 0 u.2.1;have a:0<=u.2.2.2.1/\u.2.2.2.1<=65535:=by
  rcases e.tp with⟨_,_,l,k,_⟩|⟨_,_,h,_⟩
  ·exact⟨l,k⟩
  ·omega
 have hit:=bgj u.2.2.2.1 a.1 a.2;have m:vw FU u.2.2.2.2.1 ([59]:aC) ([59]:aC) 1=θ (kF u.2.2.2.2.1):=by rw[Lu 1 (.inl rfl) _ _ aA1 aA1 _ i o,OF]
 have s:vw FU u.2.2.2.2.2 ([63]:aC) ([38]:aC) 2=θ (Te u.2.2.2.2.2):=by rw[Lu 2 (.inr rfl) _ _ aA1 aA1 _ j n,xm _ (λp x=>(e.hs.2 p x).2.2.2.2.2 rfl)]
 unfold bfj;rw[y,aR];dsimp only;rw[aB rfl];by_cases b:u.1=ru
 ·rw[aB (show u.1=([116,101,108]:aC)from b),aS aB9,m,aR,aS aB8];rcases e.tp with⟨h|h,_⟩|⟨h,l,k,z,H⟩
  ·rw[h]at b;exact absurd b aA1
  ·rw[h]at b;exact absurd b aA1
  ·have g:Ub u=u.2.1:=aB b;have A:JF u.2.2.2.1=[]:=aB k;unfold dc;rw[g,A,l,z,h];unfold ru Te;simp
 ·have g:Ub u=if u.2.1=[]then []else kL 0 u.2.1++[64]:=aA b
  rw[aA (show¬u.1=[116,101,108]from b),aS aC3];have C:(if u.2.1=([]:aC)then θ (u.1++([58]:aC))else((aof FU u.2.1 (0:Int)).bind λ(c:aC)=>(gd (γ (u.1++([58]:aC))+aL c<=9223372036854775807)<|(gd (γ ((u.1++[58])++c)+γ ([64]:aC)<=9223372036854775807)<|some (((u.1++([58]:aC))++c)++([64]:aC))))))=θ (u.1++([58]:aC)++Ub u):=by
   rw[g];by_cases d:u.2.1=[]
   ·rw[aB d,aB d,gH]
   ·rw[aA d,aA d,rK _ t 0 (.inl rfl),aR,aS aA3,aS aA3,jI]
  have w:γ (Ub u)<=12582913:=by
   rw[g];split
   ·exact cH _
   ·rw[cE,eG];omega
  rw[C,aR,aS aA3];have B:(if(0:Int)<u.2.2.2.1 then(gd (γ ((u.1++([58]:aC)++Ub u)++u.2.2.1)+γ ([58]:aC)<=9223372036854775807)<|((qy FU u.2.2.2.1).bind λ(f:aC)=>(gd (γ (((u.1++[58]++Ub u)++u.2.2.1)++[58])+aL f<=9223372036854775807)<|some ((((u.1++[58]++Ub u)++u.2.2.1)++[58])++f))))else θ ((u.1++[58]++Ub u)++u.2.2.1))=θ ((u.1++[58]++Ub u)++u.2.2.1++JF u.2.2.2.1):=by
   unfold JF;by_cases d:u.2.2.2.1=0
   ·rw[aA aA0,aB d,gH]
   ·rw[aB aA0,aA d,aS aA3,J8 _ a.1 a.2,aR,aS aA3];simp
  have r:γ (JF u.2.2.2.1)<=6:=by
   unfold JF;split
   ·exact cH _
   ·rw[cM];omega
  rw[B,aR,m,aR,aS aA3,s,aR,aS aA3];unfold dc;simp
open Go.Lib renaming join → cK
theorem GX(c b:ζ):fO [c] b=decide (b=c):=by
 unfold fO;simp;by_cases h:b=c
 ·subst h;simp
 ·rw[aD h];exact dX.2 (λe=>h e.symm)
theorem Ks(c:ζ)(s:aC)(k:Nat)(a:k<aL s)(h:Κ s k=c):bP [c] s k=k:=by unfold bP;rw[yZ s k a,lP _ _ _ (by rw[GX,h,aE rfl];rfl),Ru]
theorem Kr(c:ζ)(s:aC)(k:Nat)(a:k<aL s)(h:¬Κ s k=c):bP [c] s k=bP [c] s (k+1):=rA [c] s k a (by rw[GX,aD h])
theorem C5(c:ζ)(s:aC)(k:Nat)(a:aL s<=k):bP [c] s k=k:=by unfold bP;rw[Da a];rfl
theorem LA(s:aC)(f:aL s<=4194304)(c:ζ)(n:Nat):∀k a,k+n=aL s->n<a->
  awa FU s c a k=θ (if bP [c] s k<aL s then .inr (bP [c] s k)else .inl ()):=by
 induction n with
 |zero=>intro k a d e;obtain⟨a,rfl⟩:=cB a;rw[bgw,atw,aA aA0,C5 c s k aA0,aA aA0]
 |succ n b=>
  intro k a d e;obtain⟨a,rfl⟩:=cB a;rw[bgw,atw,aB aA0,aS aA0];by_cases h:Κ s k=c
  ·rw[aB h,Ks c s k aA0 h,aB aA0]
  ·rw[aA h,aS (bW _ aA0 aA0),mL,b _ a aA0 aA0,Kr c s k aA0 h]
theorem Ma(s:aC)(a:aL s<=4194304)(k:Nat)(b:k<=aL s)(c:ζ):awb FU s k c=θ (if bP [c] s k<aL s then(bP [c] s k:Int)else-1):=by
 unfold awb;rw[LA s a c (aL s-k) k FU aA0 aA4,aR];split
 ·rw[Rt]
 ·rw[lB]
theorem Lm(p:ζ->η)(c:ζ)(e:p c=ν):∀(a b:aC),cD p (a++c::b)<=aL a
 |[],b=>by rw[Ic,lP _ _ _ e];exact dK _
 |d::a,b=>by have:=Lm p c e a b;rw[NU,cD,cM];split<;>omega
theorem wZ(p:ζ->η)(s:aC)(i m:Nat)(b:i<=m)(a:m<aL s)(h:p (Κ s m)=ν):bT p s i<=m:=by
 have e:s.drop i=(s.drop i).take (m-i)++Κ s m::s.drop (m+1):=by
  conv=>lhs;rw[<-NZ (m-i) (s.drop i)]
  rw[Gj,show i+(m-i)=m by omega,yZ s m a]
 unfold bT;rw[vy i (γ s) aA0,e];have:=Lm p _ h ((s.drop i).take (m-i)) (s.drop (m+1));rw[iI]at this;omega
theorem R2(sep:aC):∀c:δ aC,(∀x∈c,x≠[])->(cK c sep=[]↔c=[])
 |[],_=>⟨λ_=>rfl,λ_=>rfl⟩
 |[a],h=>by rw[jn1];exact⟨λe=>absurd e (h a gQ),λe=>by cases e⟩
 |a::b::c,h=>by refine⟨λe=> ?_,λe=>by cases e⟩;have:=tP.1 e;exact absurd this.1 (h a gQ)
theorem UX(s:aC)(V:aL s<=1024)(m:Nat)(v:m<aL s)(l:Κ s m=60)(n:Nat):∀i o f (b:δ aC),m-i<=n->n<o->n<f->i<=m->bP [60] s i=m->(∀x∈b,x≠[])->γ (cK b [32])<=2*i->
  ∃j,alr FU s m o i (cK b [32])=θ j/\
   ((kU s f i b).1=0->j=.inl (cK (kU s f i b).2.2 [32])/\(kU s f i b).2.1=m)/\(¬(kU s f i b).1=0->∃a,j=.inr ([],0,a,(kU s f i b).1)):=by
 induction n with
 |zero=>
  intro i o f b S T J y D C U;obtain⟨o,rfl⟩:=cB o;obtain⟨f,rfl⟩:∃m,f=m+1:=⟨f-1,aA0⟩;obtain rfl:i=m:=aA0;have q:cV s i 60=μ:=by unfold cV;rw[aE v,l];rfl
  have r:kU s (f+1) i b=(0,i,b):=by rw[kU,q,aB rfl]
  rw[avd,akf,aA aA0,r];exact⟨_,Τ,λ_=>⟨Τ,Τ⟩,λh=>absurd Τ h⟩
 |succ n N=>
  intro i o f b S T J y D C U;by_cases A:i=m
  ·subst A;obtain⟨o,rfl⟩:=cB o;obtain⟨f,rfl⟩:∃m,f=m+1:=⟨f-1,aA0⟩;have q:cV s i 60=μ:=by unfold cV;rw[aE v,l];rfl
   have r:kU s (f+1) i b=(0,i,b):=by rw[kU,q,aB rfl]
   rw[avd,akf,aA aA0,r];exact⟨_,Τ,λ_=>⟨Τ,Τ⟩,λh=>absurd Τ h⟩
  ·obtain⟨o,rfl⟩:=cB o;obtain⟨f,rfl⟩:∃m,f=m+1:=⟨f-1,aA0⟩;have P:i<m:=aA0
   have q:cV s i 60=ν:=by
    cases q:cV s i 60 with
    |false=>rfl
    |true=>have L:=(wL q);rw[Ks 60 s i L.1 L.2]at D;exact absurd D A
   have t1:=Ci cL s i aA0;have t2:=wZ cL s i m y v (by rw[l];decide);have t3:=Ci bR s (bT cL s i) aA0;have t4:=wZ bR s _ m t2 v (by rw[l];decide);have I:∀k:Nat,i<=k->k<=m->bP [60] s k=m:=by
    intro k F Q;have M:bP [60] s i=i+cD (λc=> !fO _ c) _:=Τ;have key:∀d k,d+k=m->i<=k->bP [60] s k=m:=by
     intro d;induction d with
     |zero=>intro k R z;rw[show k=m by omega];exact Ks 60 s m v l
     |succ d B=>
      intro k R z;have E:¬Κ s k=60:=λe=>by
       have:bP [60] s i<=k:=by have:=wZ (λc=> !fO [60] c) s i k z aA0 (by rw[e];decide);unfold bT at this;rw[vy i (γ s) aA0]at this;exact this
       omega
      rw[Kr 60 s k aA0 E];exact B _ aA0 aA0
    exact key (m-k) k aA0 F
   rw[avd,akf,aB aA0,aut s aA0,aR];by_cases K:bT cL s i=i
   ·have r:kU s (f+1) i b=(5,0,[]):=by rw[kU,q,aA aA1,aB K]
    rw[aB aA0,r];exact⟨_,Τ,λh=>absurd h (show¬5=0 by decide),λ_=>⟨_,Τ⟩⟩
   ·have r:kU s (f+1) i b=kU s f (bT bR s ((bT cL s (i:Int)):Int)) (b++[sub s i ((bT cL s (i:Int)):Int)]):=by rw[kU,q,aA aA1,aA K]
    have u:γ (sub s i ((bT cL s (i:Int)):Int))=bT cL s i-i:=aC4;have t:sub s i _≠[]:=λe=>by rw[e]at u;simp at u;omega
    have G:=Bj [32] b (sub s i ((bT cL s (i:Int)):Int));have g:=R2 [32] b C;rw[aA aA0,r];have M:(if cK b [32]=([]:aC)then θ (cK b [32])else(gd (γ (cK b [32])+γ ([32]:aC)<=9223372036854775807)<|some (cK b [32]++([32]:aC))))=θ (if b=[]then []else cK b [32]++[32]):=by
     by_cases p:b=[]
     ·rw[aB (g.2 p),aB p,g.2 p]
     ·rw[aA (λe=>p (g.1 e)),aA p,aS aC3]
    have w:(if b=[]then []else cK b [32]++[32])++sub s (i:Int) ((bT cL s (i:Int):Nat):Int)=cK (b++[sub s (i:Int) ((bT cL s (i:Int):Nat):Int)]) [32]:=by
     rw[G];by_cases p:b=[]
     ·rw[aB p,aB p];rfl
     ·rw[aA p,aA p,jI]
    have O:γ (if b=[]then([]:aC)else cK b [32]++[32])<=2*i+1:=by
     split
     ·exact cH _
     ·rw[cE,eG];omega
    have H:=bA aL w;rw[cE]at H;rw[M,aR,aS aA0,aS aA0,YD s aA0,w];refine N _ o f _ aA0 aA0 aA0 t4 (I _ aA0 t4) (λx hx=> ?_) aA0;rcases aV.1 hx with h|h
    ·exact C x h
    ·rw[aH.1 h];exact t
theorem PM(s:aC)(m:aL s<=1024)(nm:aC)(b e k:Nat)(p:b<=e)(o:e<=aL s)(n:k<=aL s):∃a,azp FU s nm b e k=θ (if(Fv (sub s b e)).1=0 then(if(fM (s.drop k)).2.2=0 then((nm,(Fv (sub s b e)).2,(fM (s.drop k)).1),a,0)else(nA,a,(fM (s.drop k)).2.2))else(nA,a,(Fv (sub s b e)).1)):=by
 obtain⟨a,⟨j,i⟩,l⟩:=KX (sub s (b:Int) (e:Int));have h:γ (s.drop k)=aL s-k:=dY;obtain⟨g,f⟩:=QK (s.drop k) aA0;unfold azp;rw[aS aA0,l,aR];dsimp only;by_cases c:(Fv (sub s (b:Int) (e:Int))).1=0
 ·rw[aB c,aS aA0,gJ,rH _ aA0,aR];by_cases d:(fM (s.drop k)).2.2=0
  ·exact⟨0,by rw[aB d,aB c,aB d]⟩
  ·refine⟨(k:Int)+(fM (s.drop k)).2.1,?_⟩;rw[aA d,aS (bW _ aA0 aA0),aB c,aA d];rfl
 ·refine⟨(b:Int)+a,?_⟩;rw[aA c,aS (bW _ aA0 aA0),aA c];rfl
theorem aq(s:aC)(i:aL s<=1024)(n:Nat):∀k a,k+n=aL s->n<a->ayj FU s a k=θ (bP [59,32,9] s k:Int):=by
 induction n with
 |zero=>
  intro k a f g;obtain⟨a,rfl⟩:=cB a;have:bP [59,32,9] s k=k:=by unfold bP;rw[Da aA0];rfl
  rw[bil,awf,aA aA0,aR,aG,this]
 |succ n e=>
  intro k a f g;obtain⟨a,rfl⟩:=cB a;have h:(if(Κ s (k:Int))=(59:ζ)then θ ν else(gd (0<=(k:Int)/\(k:Int)<(aL s:Int))<|((TA FU (Κ s (k:Int))).bind λ(b:η)=>θ (!b))))=θ (!fO [59,32,9] (Κ s (k:Int))):=by rw[aS aA0];generalize Κ s (k:Int)=c;revert c;exact fP _ aA5
  rw[bil,awf,aB aA0,aS aA0,h,aR];cases d:fO [59,32,9] (Κ s (k:Int))with
  |true=>
   have:bP [59,32,9] s k=k:=by unfold bP;rw[yZ s k aA0,lP _ _ _ (by rw[d];rfl),Ru]
   rw[eY,aG,this]
  |false=>rw[oF,aM,aS (bW _ aA0 aA0),mL,e _ a aA0 aA0,rA _ s k aA0 d]
theorem ao(s:aC)(l:aL s<=1024)(e:Nat)(m:e<=aL s)(n:Nat):∀k b,k+n=e->n<b->∃a,ayi FU s e b k=θ (if bP [63,44] s k<e then .inr (nA,a,5)else .inl ()):=by
 induction n with
 |zero=>intro k b g h;obtain⟨b,rfl⟩:=cB b;have:=Ke [63,44] s k;exact⟨0,by rw[bik,awe,aA aA0,aA aA0]⟩
 |succ n f=>
  intro k b g h;obtain⟨b,rfl⟩:=cB b;have i:(gd (0<=(k:Int)/\(k:Int)<(aL s:Int))<|(if(Κ s (k:Int))=(63:ζ)then θ μ else(gd (0<=(k:Int)/\(k:Int)<(aL s:Int))<|some (decide ((Κ s (k:Int))=(44:ζ))))))=θ (fO [63,44] (Κ s (k:Int))):=by rw[aS aA0,aS aA0];generalize Κ s (k:Int)=c;revert c;exact fP _ aA5
  rw[bik,awe,aB aA0,i,aR];cases d:fO _ _ with
  |true=>
   have:bP [63,44] s k=k:=by unfold bP;rw[yZ s k aA0,lP _ _ _ (by rw[d];rfl),Ru]
   exact⟨k,by rw[aB aA0];rfl⟩
  |false=>obtain⟨a,j⟩:=f (k+1) b aA0 aA0;exact⟨a,by rw[aG,aS (bW _ aA0 aA0),mL,j,rA _ s k aA0 d]⟩
def pR(s nm:aC)(i:Nat):AA×ζ:=
 if(fL s i).1=0 then(if(fM (s.drop (fL s i).2.2)).2.2=0 then((nm,(fL s i).2.1,(fM (s.drop (fL s i).2.2)).1),0)else(nA,(fM (s.drop (fL s i).2.2)).2.2))else(nA,(fL s i).1)
theorem bx(s:aC)(a:¬1024<aL s):((fY s).2,(fY s).1)=if(pH s (bT bR s 0)).1=0 then pR s (pH s (bT bR s 0)).2.1 (pH s (bT bR s 0)).2.2 else(nA,(pH s (bT bR s 0)).1):=by
 unfold fY pR;rw[aA a];split
 ·split
  ·split<;>rfl
  ·rfl
 ·rfl
theorem Uu(s:aC)(k:aL s<=1024)(nm:aC)(i:Nat)(e:cV s i 60=μ):∃a,((awb FU s i 62).bind λb=>(if b<0 then θ (nA,(aL s:Int),5)else(gd (bJ (i+1))<|(gd (bJ (b+1))<|((azp FU s nm (i+1) b (b+1)).bind λ(c:(AA×Int×ζ))=>θ (c.1,c.2.1,c.2.2))))))=θ ((pR s nm i).1,a,(pR s nm i).2):=by
 obtain⟨d,hZ⟩:=wL e;have g:=Ke [62] s (i+1);have f:=Fz [62] s (i+1) d;rw[Ma s aA0 i aA0,aR,Kr 62 s i d (by rw[hZ];decide)];unfold pR fL;rw[e,aB rfl];by_cases j:bP [62] s (i+1)=aL s
 ·have h:(if bP [62] s (i+1)<aL s then((bP [62] s (i+1):Nat):Int)else-1)= -1:=aA aA0;rw[h,aB j];exact⟨_,Τ⟩
 ·have h:(if bP [62] s (i+1)<aL s then((bP [62] s (i+1):Nat):Int)else-1)=((bP [62] s (i+1):Nat):Int):=aB aA0;obtain⟨a,l⟩:=PM s k nm _ _ (bP [62] s (i+1)+1) g f aA0;rw[h,aA (show¬((bP [62] s (i+1):Nat):Int)<0 by omega),aA j,aS (bW _ aA0 aA0),aS (bW _ aA0 aA0),mL,mL,l];split
  ·split
   ·exact⟨_,Τ⟩
   ·exact⟨_,Τ⟩
  ·exact⟨_,Τ⟩
theorem UY(s:aC)(f:aL s<=1024)(i:Nat)(h:i<=aL s)(c:cV s i 60=ν):∃a,bim FU s i=θ ((pR s [] i).1,a,(pR s [] i).2):=by
 have d:=Ke [59,32,9] s i;have b:=Fz [59,32,9] s i h;obtain⟨a,l⟩:=ao s f _ b (bP [59,32,9] s i-i) i FU aA0 aA4;unfold bim;rw[aq s f (aL s-i) i FU aA0 aA4,aR,l,aR];by_cases g:bP [63,44] s i<bP [59,32,9] s i
 ·have e:fL s i=(5,hV,0):=by unfold fL;rw[c,aA (show¬(ν=μ)by decide),aB g]
  have j:pR s [] i=(nA,5):=by unfold pR;rw[e];exact aA (show¬(5:ζ)=0 by decide)
  rw[aB g,j];exact⟨_,Τ⟩
 ·have e:fL s i=((Fv (sub s (i:Int) (bP [59,32,9] s i:Int))).1,(Fv (sub s (i:Int) (bP [59,32,9] s i:Int))).2,bP [59,32,9] s i):=by unfold fL;rw[c,aA (show¬(ν=μ)by decide),aA g]
  obtain⟨m,k⟩:=PM s f [] i _ _ d b b;rw[k];unfold pR;rw[e];split
  ·split
   ·exact⟨_,Τ⟩
   ·exact⟨_,Τ⟩
  ·exact⟨_,Τ⟩
theorem MB(p:ζ->η)(c:ζ)(i:p c=ν)(s:aC)(b:Nat)(n:b<=aL s)(h:(s.take b).all p=μ):fO s c=decide (bP [c] s b<aL s):=by
 have e:=(NZ b s).symm;have g:fO (s.take b) c=ν:=by unfold fO;rw[dC];intro x hx a;have:=aT.1 h x hx;rw[eq_of_beq a,i]at this;cases this
 have k:fO s c=fO (s.drop b) c:=by
  conv=>lhs;rw[e]
  unfold fO at g⊢;rw[List.any_append,g,CI]
 have m:γ (s.drop b)=aL s-b:=dY;have f:=bkq (λx=> !fO [c] x) (s.drop b);have o:=Kf (λx=> !fO [c] x) (s.drop b);rw[k];have l:bP [c] s b=b+cD _ _:=Τ;cases d:fO _ c with
 |true=>
  rw[aE];have:¬(s.drop b).all (λx=> !fO [c] x)=μ:=λj=>by obtain⟨x,hx,a⟩:=dS.1 d;have:=aT.1 j x hx;rw[GX,aE (eq_of_beq a)]at this;cases this
  have:¬cD (λx=> !fO [c] x) (s.drop b)=γ (s.drop b):=λe=>this (f.1 e);omega
 |false=>rw[aD];have:(s.drop b).all (λx=> !fO [c] x)=μ:=aT.2 (λx hx=>by have:=dC.1 d x hx;rw[GX,aD (λe=>this (by rw[e];simp))];rfl);have:=f.2 this;omega
theorem Ui(p:ζ->η):∀s:aC,(s.take (cD p s)).all p=μ
 |[]=>rfl
 |c::s=>by
  unfold cD;cases a:p c with
  |true=>rw[aB rfl,sd,Jg,a,Ui p s];rfl
  |false=>rw[aA aA1];rfl
theorem Ly(s:aC):∃a,akg FU s=θ ((fY s).2,a,(fY s).1):=by
 by_cases w:1024<aL s
 ·unfold akg fY;rw[aB aA0,aB w];exact⟨_,Τ⟩
 ·have h:=bx s w;have A:(fY s).2=(if(pH s (bT bR s 0)).1=0 then pR s (pH s (bT bR s 0)).2.1 (pH s (bT bR s 0)).2.2 else(nA,(pH s (bT bR s 0)).1)).1:=bA Prod.fst h;have z:(fY s).1=(if(pH s (bT bR s 0)).1=0 then pR s (pH s (bT bR s 0)).2.1 (pH s (bT bR s 0)).2.2 else(nA,(pH s (bT bR s 0)).1)).2:=bA Prod.snd h;rw[A,z];clear A z h;unfold akg;rw[aA aA0,YD s aA0,aR];have k:=jD bR s 0;have m:(s.take (bT bR s 0)).all bR=μ:=by rw[bjj];exact Ui bR s
  generalize bT bR s 0=b at k m⊢;have t:=MB bR 60 aA1 s b k m;have J:=Fz [60] s b k;have q:=Ke [60] s b;rw[Ma s aA0 b k,aR];have G:(if(if bP [60] s b<aL s then(bP [60] s b:Int)else-1)<(0:Int)then(if(b:Int)=(aL s:Int)then θ μ else(gd (0<=(b:Int)/\(b:Int)<(aL s:Int))<|some (!decide ((Κ s (b:Int))=(34:ζ)))))else θ ν)=θ (!fO s 60&& !cV s b 34):=by
   rw[t];by_cases i:bP [60] s b<aL s
   ·have o:(if bP [60] s b<aL s then((bP [60] s b:Nat):Int)else-1)=((bP [60] s b:Nat):Int):=aB i;rw[o,aA (show¬((bP [60] s b:Nat):Int)<0 by omega),aE i];rfl
   ·have o:(if bP [60] s b<aL s then((bP [60] s b:Nat):Int)else-1)= -1:=aA i;rw[o,aB (show(-1:Int)<0 by decide),aD i];unfold cV;by_cases n:b=aL s
    ·rw[aB aA0,aD aA0];rfl
    ·rw[aA aA0,aS aA0,aE (show b<aL s by omega)];by_cases d:Κ s (b:Int)=34
     ·rw[aE d,d];rfl
     ·rw[aD d,dX.2 d];rfl
  rw[G,aR];unfold pH;cases d:cV s b 34 with
  |true=>
   obtain⟨g,hZ⟩:=wL d;rw[eY,eL,aG,aB rfl];unfold bbe;rw[aS aA0,aB hZ,oV s aA0,aR];by_cases f:(tE s (b:Int)).2.2=0
   ·have D:=jD bR s (tE s (b:Int)).2.1;rw[aB f,aB f,YD s aA0,aR];have H:(if((bT bR s (tE s (b:Int)).2.1:Nat):Int)=(aL s:Int)then θ μ else(gd (0<=((bT bR s (tE s (b:Int)).2.1:Nat):Int)/\((bT bR s (tE s (b:Int)).2.1:Nat):Int)<(aL s:Int))<|some (!decide ((Κ s ((bT bR s (tE s (b:Int)).2.1:Nat):Int))=(60:ζ)))))=θ (!cV s (bT bR s (tE s (b:Int)).2.1) 60):=by
     generalize bT bR s (tE s (b:Int)).2.1=y at D⊢;unfold cV;by_cases C:y=aL s
     ·rw[aB aA0,aD aA0];rfl
     ·rw[aA aA0,aS aA0,aE (show y<aL s by omega)];by_cases c:Κ s (y:Int)=60
      ·rw[c];rfl
      ·rw[aD c,dX.2 c];rfl
    rw[H,aR];cases c:cV s (bT bR s (tE s (b:Int)).2.1) 60 with
    |true=>obtain⟨a,ea⟩:=Uu s aA0 (tE s (b:Int)).1 _ c;rw[aB rfl];exact⟨a,ea⟩
    |false=>rw[oF,aM,aR];dsimp only;rw[aA (show¬(5:ζ)=0 by decide)];exact⟨_,Τ⟩
   ·rw[aA f,aA f,aR];dsimp only;rw[aA f,aA f];exact⟨_,Τ⟩
  |false=>
   rw[aA (show¬(ν=μ)by decide)];cases i:fO s 60 with
   |false=>
    rw[aA (show¬(ν=μ)by decide)];dsimp only;rw[aB rfl];have c:cV s b 60=ν:=by
     cases B:cV s b 60 with
     |false=>rfl
     |true=>obtain⟨l,p⟩:=wL B;have v:=at_mem s b l;rw[p]at v;unfold fO at i;exact absurd (dC.1 i 60 v) aA2
    obtain⟨a,ea⟩:=UY s aA0 b k c;rw[ea];exact⟨_,Τ⟩
   |true=>
    rw[i]at t;have g:=bX t.symm;have hZ:Κ s (bP [60] s b:Nat)=60:=by have:=bkm _ s b k g;rw[GX]at this;exact bX this
    rw[aB rfl];have o:(if bP _ s b<aL s then((bP [60] s b):Int)else-1)=(bP [60] s b:Nat):=aB g;rw[o];have n:b<aL s:=aA0;have r:¬Κ s _=34:=λe=>by unfold cV at d;rw[aE n,e]at d;cases d
    obtain⟨j,I,F,E⟩:=UX s aA0 _ g hZ (bP [60] s b-b) b FU (aL s+1) [] aA0 aA4 aA0 q Τ (λx hx=>by cases hx) (cH _);have u:alr FU s (bP [60] s b:Nat) FU _ []=θ j:=I;unfold bbe;rw[aS aA0,aA r,u,aR];by_cases f:(kU s (aL s+1) b []).1=0
    ·obtain⟨l,p⟩:=F f;have c:cV s (bP [60] s b) 60=μ:=by unfold cV;rw[aE g,hZ];rfl
     rw[l];dsimp only;rw[aB f,p];obtain⟨a,ea⟩:=Uu s aA0 _ _ c;exact⟨a,ea⟩
    ·obtain⟨a,l⟩:=E f;rw[l,Rt,aR];dsimp only;rw[aA f,aA f];exact⟨_,Τ⟩
theorem L6(v:aC)(b:aL v<=4194304):bbb FU v=θ ((fY (cI v)).2,(fY (cI v)).1):=by obtain⟨a,e⟩:=Ly _;unfold bbb;rw[dx v b,aR,e,aR]
theorem Uq(s:aC)(c:aL s<=4194304)(b e:Nat)(a:b<=e)(g:e<=aL s):∃k,bbf FU s (b:Int) (e:Int)=θ (k,cI (sub s (b:Int) (e:Int))):=by
 have d:=sub_le s (b:Int) (e:Int);have f:bT bR (sub s (b:Int) (e:Int)) 0<=γ (sub s (b:Int) (e:Int)):=by have:=Kf bR ((sub s (b:Int) (e:Int)).drop 0);unfold bT;rw[show Cv 0 (γ (sub s (b:Int) (e:Int)))=0 from vy 0 _ (cH _)];simp only[NT]at this⊢;omega
 unfold bbf;rw[aS aA0,YD _ aA0,aR,aS (bW _ aA0 aA0),dx _ aA0];exact⟨_,Τ⟩
theorem jn(s:aC)(j:aL s<=4194303)(n:Nat):∀(i a:Nat),aL s-i<=n->n<a->i<=aL s->
  awk FU s a (i:Int)=θ ((i+cD (λc=> !(c==(62:ζ))) (s.drop i):Nat):Int):=by
 induction n with
 |zero=>intro i a f g d;obtain⟨a,rfl⟩:=cB a;obtain rfl:i=aL s:=aA0;rw[azf,ani,aA aA0,aR,aG,Da (dK _)];rfl
 |succ n e=>
  intro i a f g d;obtain⟨a,rfl⟩:=cB a;by_cases b:i<aL s
  ·rw[azf,ani,aB aA0,aS aA0,aR,yZ s i b,cD];by_cases h:Κ s (i:Int)=62
   ·rw[aE h,eY,aG,h,aA aA1];rfl
   ·rw[aD h,oF,aM,aS (bW _ aA0 aA0),mL,e (i+1) a aA0 aA0 b,aB aA7];congr 2;omega
  ·obtain rfl:i=aL s:=by omega
   rw[azf,ani,aA aA0,aR,aG,Da (dK _)];rfl
theorem UM(s:aC)(T:aL s<=4194303)(n:Nat):∀(i t:Nat) (d:eR) (b:Nat),aL s-i<=n->n<t->b<=i->i<=aL s->aL d<=i->
  ∃j,aqb FU s 44 t d (b:Int) (i:Int)=θ j/\
   (match fA 0 (sub s (b:Int) (i:Int)) (s.drop i)with
   |.inl l=>∃(g:eR) (b':Nat),j=.inl (g,(b':Int))/\b'<=aL s/\γ g<=aL s/\g.map (·.2)++[cI (sub s (b':Int) (aL s:Int))]=d.map (·.2)++l
   |.inr e=>∃q a,j=.inr (q,a,e)):=by
 induction n with
 |zero=>intro i t d b W X E y J;obtain⟨t,rfl⟩:=cB t;obtain rfl:i=aL s:=aA0;rw[azg,anj,aA aA0,Da (dK _),s0n];exact⟨_,Τ,d,b,Τ,aA0,J,Τ⟩
 |succ n D=>
  intro i t d b W X E y J;obtain⟨t,rfl⟩:=cB t;by_cases w:i<aL s
  ·have I:=yZ s i w;have v:sub s (b:Int) ((i+1:Nat):Int)=sub s (b:Int) (i:Int)++[Κ s (i:Int)]:=by rw[mS s b i 1 E,I];rfl
   rw[azg,anj,aB aA0,aS aA0,I,s0c];by_cases p:Κ s (i:Int)=44
   ·obtain⟨k,V⟩:=Uq s aA0 b i E y;have r:¬Κ s (i:Int)=34:=by rw[p];decide
    have f:¬Κ s (i:Int)=60:=by rw[p];decide
    have m:¬Κ s (i:Int)=62:=by rw[p];decide
    rw[aB p,aA r,aA f,aA m,aB p,V,aR,aS aC3,aS (bW _ aA0 aA0),aS (bW _ aA0 aA0),mL];obtain⟨j,Y,C⟩:=D (i+1) t (d++[(k,cI (sub s (b:Int) (i:Int)))]) (i+1) aA0 aA0 (dK _) w aB5;refine⟨j,Y,?_⟩;rw[bc]at C;cases K:fA 0 [] (s.drop (i+1))with
    |inr e=>rw[K]at C;exact C
    |inl l=>rw[K]at C;obtain⟨g,b',P,O,N,M⟩:=C;refine⟨g,b',P,O,N,?_⟩;rw[M,Rp,eu,jI];rfl
   ·rw[aA p];by_cases r:Κ s (i:Int)=34
    ·rw[aB r,aB r,oV s aA0,aR];have Q:tE s (i:Int)=fT (s.drop (i+1)) (i+1) []:=by unfold tE;rw[aA aA0,aA (by rintro(h|h);omega;exact h r),gJ]
     have F:=L7 (γ (s.drop (i+1))) (s.drop (i+1)) (i+1) [] (sub s (b:Int) (i:Int)++[Κ s (i:Int)]) (dK _);have A:=(zJ (γ (s.drop (i+1))) (s.drop (i+1)) (i+1) [] (dK _)).2;have H:γ (s.drop (i+1))=aL s-(i+1):=dY;rw[Q];generalize fT (s.drop (i+1)) (i+1) []=U at F A⊢;by_cases B:U.2.2=0
     ·obtain⟨b1,Z⟩:=A B;obtain⟨o,G⟩:∃o:Nat,U.2.1=(o:Int):=⟨U.2.1.toNat,aA0⟩;rw[G]at b1 Z;have L:=F.1 B;rw[G,gJ,<-v,<-mS s b (i+1) (o-(i+1)) aA0,Gj,show i+1+(o-(i+1))=o by omega]at L;rw[aB B,G,<-v,L];exact D o t d b aA0 aA0 aA0 aA0 aA0
     ·rw[aA B,F.2 B];exact⟨_,Τ,_,_,Τ⟩
    ·rw[aA r,aA r];by_cases m:Κ s (i:Int)=62
     ·have f:¬Κ s (i:Int)=60:=by rw[m];decide
      rw[aB m,aA f,aB m];exact⟨_,Τ,_,_,Τ⟩
     ·rw[aA m];by_cases f:Κ s (i:Int)=60
      ·have hx:fA 3 (sub s (b:Int) (i:Int)) (s.drop i)=fA 3 (sub s (b:Int) (i:Int)++[Κ s (i:Int)]) (s.drop (i+1)):=by rw[I,ym,aA (by rw[f];decide)]
       obtain⟨a1,a2⟩:=ang1 (s.drop i) (sub s (b:Int) (i:Int));have H:γ (s.drop i)=aL s-i:=dY;have u:=Oo (·==(62:ζ)) (s.drop i);have S:=Kf (λc=> !(c==(62:ζ))) (s.drop i);rw[aB f,aB f,jn s T (aL s-i) i FU (dK _) aA4 y,aR,<-hx];by_cases z:cD (λc=> !(c==(62:ζ))) (s.drop i)=γ (s.drop i)
       ·rw[aB z]at u;rw[aB aA0,a1 aA0];exact⟨_,Τ,_,_,Τ⟩
       ·rw[aA z]at u;have R:(dM (·==(62:ζ)) (s.drop i)).toNat=cD (λc=> !(c==(62:ζ))) (s.drop i):=by rw[u];simp
        rw[aA aA0,a2 aA0,R];generalize cD (λc=> !(c==(62:ζ))) (s.drop i)=x at*;rw[<-mS s b i (x+1) E,Gj,aS (bW _ aA0 aA0),show((i+x:Nat):Int)+1=((i+(x+1):Nat):Int)by omega];exact D (i+(x+1)) t d b aA0 aA0 aA0 aA0 aA0
      ·rw[aA f,aA f,aA m,aA p,aS (bW _ aA0 aA0),mL,<-v];exact D (i+1) t d b aA0 aA0 aA0 w aA0
  ·obtain rfl:i=aL s:=by omega
   rw[azg,anj,aA aA0,Da (dK _),s0n];exact⟨_,Τ,d,b,Τ,aA0,J,Τ⟩
theorem UN(s:aC)(n:aL s<=4194303):∃q a,bfl FU s 44=θ (q,a,(match fA 0 [] s with|.inl _=>0|.inr e=>e))/\(∀l,fA 0 [] s=.inl l->q.map (·.2)=l/\γ q<=aL s+1):=by
 obtain⟨j,p,b⟩:=UM s n (γ s) 0 FU [] 0 aA0 aA4 (dK _) (cH _) (dK _);have d:aqb FU s 44 FU [] (0:Int) (0:Int)=θ j:=p;rw[bc,NT]at b;unfold bfl;have e:(((TA FU 44).bind λ(c:η)=>(bif c then θ μ else(if(44:ζ)=(34:ζ)then θ μ else(if(44:ζ)=(60:ζ)then θ μ else θ (decide ((44:ζ)=(62:ζ))))))))=θ ν:=by kernel_rfl
 rw[e,aR,aG,d,aR];cases f:fA 0 [] s with
 |inr e=>rw[f]at b;obtain⟨q,a,rfl⟩:=b;rw[Rt];exact⟨q,a,Τ,λl h=>by cases h⟩
 |inl l=>rw[f]at b;obtain⟨g,b',rfl,m,r,i⟩:=b;obtain⟨k,o⟩:=Uq s aA0 b' (γ s) m (dK _);rw[lB];dsimp only;rw[o,aR,aS aC3];refine⟨_,_,Τ,λl' h=> ?_⟩;have:=cm h;subst this;rw[Rp,eu,i];exact⟨Τ,by rw[cE,eG];omega⟩
theorem I0(c:(eR×Int×ζ))(k:aL c.1<=4194304)(q:eR):∀(p:eR) (b:Nat),c.1=p++q->aL q<b->
  asj FU c b (p.map (·.2)) (aL p:Int)=θ (if(q.map (·.2)).any (λx=>decide (x=[]))=μ then .inr ([],5)else .inl (c.1.map (·.2))):=by
 induction q with
 |nil=>intro p b h f;obtain⟨b,rfl⟩:=cB b;rw[gH]at h;rw[bih,avw,aA aC6,h];rfl
 |cons a q g=>
  intro p b h f;obtain⟨b,rfl⟩:=cB b;have i:=bA aL h;simp only[cE,cM]at i f;have d:(0:Int)<=(aL p:Int)/\(aL p:Int)<(aL c.1:Int):=aA0;have j:el c.1 (aL p:Int)=a:=aB2;rw[bih,avw,aB d.2,aS d,aS d,j,tR,Xr];by_cases e:a.2=[]
  ·rw[aB e,aE e,iU,aB rfl]
  ·rw[aA e,aD e,CI,aS d,aS d,aS (by simp only[Gk,eG];omega),aS (bW _ aA0 aA0)];have:=g (p++[a]) b aA6 aA0;rw[Rp,eu]at this;rw[show((aL p:Int)+1)=(γ (p++[a]):Int)by simp];exact this
theorem I1(v:aC)(g:aL v<=4194303):bii FU v=θ (iW v):=by
 obtain⟨q,a,j,i⟩:=UN v g;unfold bii iW;rw[j,aR];have d:=F5 v 0 [];cases f:fA 0 [] v with
 |inr e=>dsimp only;rw[aA (d e f)]
 |inl l=>
  obtain⟨h,k⟩:=i l f;dsimp only;have:=I0 (q,a,0) aD7 q [] FU Τ aA4;have b:asj FU (q,a,0) FU [] (0:Int)=_:=this;rw[aB rfl,b,aR,h];by_cases c:l.any (λx=>decide (x=[]))=μ
  ·rw[aB c,aB c,Rt]
  ·rw[aA c,aA c,lB]
theorem I3:∀x∈vD,vt FU x.1=θ (pI x.1):=aA5
theorem I4(c:aC):vt FU c=θ (pI c):=by
 by_cases h:∃x∈vD,x.1=c
 ·obtain⟨x,hx,rfl⟩:=h;exact I3 x hx
 ·have a:∀x∈vD,x.1≠c:=λx hx e=>h ⟨x,hx,e⟩;have:=Nj c a;unfold pI;rw[this,Gz c a];rfl
theorem iu(s:aC)(e:γ s<=4194304):apv FU s FU 0=θ ((cD (λc=> !bR c) s:Nat):Int):=by
 have:=mV (λc=> !bR c) s (apv FU s) ?_ ?_ ?_ (γ s) 0 FU aA0 aA4
 ·rw[Kh]at this;exact this
 ·intro a;rw[aza,amr,aA aA0];rfl
 ·intro a k b h;have d:bR (Κ s k)=μ:=by simpa using h
  rw[aza,amr,aB aA0,aS aA0,dt,d];rfl
 ·intro a k b h;rw[aza,amr,aB aA0,aS aA0,dt,aR,aR,h,aM,dU]
theorem PK(v:aC)(a:γ v<=4194304):bax FU v=θ (yB (cI v)):=by have b:=Tp v;have d:=Kf (λc=> !bR c) (cI v);have e:=jD bR (cI v) (cD (λc=> !bR c) (cI v):Int);unfold bax yB;rw[dx v a,aR,iu _ aA0,aR,aS aA0,gJ,bho _ aB3,aR,YD _ aA0,aR,aS aA0,gJ]
theorem EP(v:aC)(b:γ v<=4194304):bdp FU v=θ (Kb v):=by
 have c:=Tp v;have d:=bjm (cI v);unfold bdp Kb;rw[PK v b,aR];by_cases a:(yB (cI v)).2.2=0
 ·rw[aB a,aB a,bch _ aA0];cases jG (yB _).2.1<;>rfl
 ·rw[aA a,aA a]
theorem G8(v:aC)(c:γ v<=4194304):bie FU v=θ (Xd v):=by
 have d:=Tp v;have e:=bjm (cI v);unfold bie Xd;rw[PK v c,aR];by_cases b:(yB (cI v)).2.2=0
 ·rw[aB b,aB b,EP _ aA0,aR];by_cases a:(Kb (yB (cI v)).2.1).2.2=0
  ·rw[aB a,aB a]
  ·rw[aA a,aA a]
 ·rw[aA b,aA b]
theorem ir(v:aC)(a:γ v<=4194304):bcz FU v=θ (eV (cI v)):=by have b:=Tp v;unfold bcz;rw[dx v a,aR,bho _ aA0,aR]
theorem im(a:AA)(i:Good a.2.1)(g:wv a.2.1)(o:γ a.1<=4194304)(r:γ a.2.2<20)(q:∀p∈a.2.2,γ p.1<=4194304/\γ p.2.1<=4194304):aot FU a=θ (zh a):=by
 have c:∀p∈fS a.2.2,γ p.1<=4194304/\γ p.2.1<=4194304:=λp n=>q p (vk _ p n);have k:=QF a.2.1 i g;have m:=uB (fS a.2.2) c;have l:=bkt a.1;have f:γ (fS a.2.2)<=100:=by rw[(dw a.2.2).length_eq];omega
 unfold aot zh;rw[KW _ i g,aR,bcg _ aA0,aR,bdx _ f c,aR,Lw _ o,aR,aB rfl];by_cases d:(rR (fS a.2.2)).2=0
 ·rw[aB d];cases j:a.1.any dQ with
  |true=>
   have e:xF a.1=([],5):=by unfold xF;rw[j,aB rfl]
   rw[e,aR,show(!decide ((([]:aC),(5:ζ)).2=0))=μ from Τ,aM,aA (λh=>absurd h.1 aA1)]
  |false=>
   have e:xF a.1=(Zf a.1,0):=by unfold xF;rw[j,aA aA1]
   rw[e,aB (show ν=ν/\(rR _).2=0 from⟨rfl,d⟩)];unfold dsT;dsimp only;by_cases b:a.1=[]
   ·rw[aB b,aB b,aS aC3,aS aA3,aS aA3];simp
   ·have s:[32,60].length=2:=Τ;rw[aA b,aA b,aS aA0,aS aD3,aS aA3,aS aA3];simp
 ·rw[aA d,aR,aM,aA (λh=>d h.2)]
theorem ik(s:aC)(f:γ s<=4194304)(n:Nat):∀k a,k+n=γ s->n<a->ash FU s a k=θ (if(s.drop k).any dQ=μ then .inr ([],5)else .inl ()):=by
 induction n with
 |zero=>intro k a c d;obtain⟨a,rfl⟩:=cB a;rw[bib,avt,aA aA0,Da aA0];rfl
 |succ n b=>
  intro k a c d;obtain⟨a,rfl⟩:=cB a;have e:=yZ s k aA0;rw[bib,avt,aB aA0,aS aA0,qp,aR,e,Xr];cases dQ _ with
  |true=>rfl
  |false=>rw[aG,CI,dU,show(k+1)=((k+1:Nat):Int)from rfl,b (k+1) a aA0 aA0]
theorem il(s:aC)(a:γ s<=4194304):ash FU s FU 0=θ (if s.any dQ=μ then .inr ([],5)else .inl ()):=
 ik s a (γ s) 0 FU aA0 aA4
theorem Dk(c v:aC)(C:γ v<=4190000)(r:cI v=v):bdo FU c v=θ (Jj (pI c) (qL c) v):=by
 unfold bdo Jj;rw[I4,aR,r];generalize pI c=k;by_cases n:k=1
 ·rw[aB n,aB n];have e:(if c=([67,111,110,116,97,99,116]:aC)then θ (decide (v=([42]:aC)))else θ ν)=θ (decide (qL c=μ/\v=[42])):=by
   unfold qL;by_cases o:c=CONT
   ·rw[aB (show c=([67,111,110,116,97,99,116]:aC)from o),aE o];congr 1;rw[bY];exact⟨λh=>⟨Τ,h⟩,λh=>h.2⟩
   ·rw[aA (show¬c=([67,111,110,116,97,99,116]:aC)from o),aD o,aD (λh=>absurd h.1 aA1)]
  rw[e,aR];by_cases f:qL c=μ/\v=[42]
  ·rw[aE f,aM,aB f,f.2]
  ·rw[aD f,aG,aA f,L6 v aA0,aR,r];dsimp only;by_cases a:(fY v).1=0
   ·obtain⟨x,F,E⟩:=Qw _ a;obtain⟨A,H,z⟩:=TC v;rw[aB a,aB a,im _ x (A.sml aA1) aA0 aA0 (λp g=>by have:=z p g;omega),aR]
   ·rw[aA a,aA a]
 ·rw[aA n,aA n];by_cases m:k=2
  ·rw[aB m,aB m,I6 v aA0,aR];by_cases a:(lZ v).2=0
   ·obtain⟨v1,t,B,v4⟩:=KB v aA0;have u:=Kq v;rw[aB a,aB a,Sh _ aA0 aA0 aA0 (λp g=>by have:=v4 p g;omega) aA0,aR]
   ·rw[aA a,aA a]
  ·rw[aA m,aA m];by_cases l:k=3
   ·obtain⟨d,q,s⟩:=Ca v;have w:=ds _ d q;rw[aB l,aB l,EP v aA0,aR];by_cases a:(Kb v).2.2=0
    ·rw[aB a,aB a,bdd _ d aA0,aR,aS aC3,aS aB5,jI];rfl
    ·rw[aA a,aA a]
   ·rw[aA l,aA l];by_cases j:k=4
    ·obtain⟨⟨d,q⟩,⟨s,y⟩,G⟩:=Mh v;have w:=ds _ d q;have D:=ds _ s y;rw[aB j,aB j,G8 v aA0,aR];by_cases a:(Xd v).2.2.2=0
     ·rw[aB a,aB a,bdd _ d aA0,aR,aS aC3,bdd _ s aA0,aR,aS aB5,aS aA3,aS aA3];simp
     ·rw[aA a,aA a]
    ·rw[aA j,aA j];by_cases i:k=5
     ·obtain⟨d,q⟩:=Jr v;rw[aB i,aB i,ir v aA0,aR,r];by_cases a:(eV v).2=0
      ·rw[aB a,aB a,bdd _ d aA0,aR]
      ·rw[aA a,aA a]
     ·rw[aA i,aA i];have e:(if k=(6:Int)then θ (decide (k=(6:Int)))else θ (decide (k=(7:Int))))=θ (decide (k=6\/k=7)):=by
       by_cases b:k=6
       ·rw[aB b,aE b,aE (.inl b)]
       ·rw[aA b];congr 1;rw[bY];exact⟨.inr,λh=>h.resolve_left b⟩
      rw[e,aR];by_cases b:k=6\/k=7
      ·rw[aE b,aM,aB b,UW v aA0,aR];by_cases a:(BS v).2=0
       ·obtain⟨v1,t⟩:=AO v aA0;have u:=Ev v;rw[aB a,aB a,Lx _ aA0 aA0 (λp g=>by have:=t p g;omega),aR]
       ·rw[aA a,aA a]
      ·rw[aD b,aG,aA b,il v aA0,aR];by_cases a:v.any dQ=μ
       ·rw[aB a,aB a,Rt]
       ·rw[aA a,aA a,lB]
theorem P2(v:aC):∀x∈(iW v).1,cI x=x:=by
 unfold iW;cases a:fA 0 [] v with
 |inr e=>intro x hx;cases hx
 |inl l=>
  dsimp only;split
  ·intro x hx;cases hx
  ·intro x hx;obtain⟨y,rfl⟩:=(ak v 0 [] l a).2 x hx;exact tT y
def jnC:δ aC->aC
 |[]=>[]
 |x::l=>[44,32]++x++jnC l
theorem GH(x:aC):∀l:δ aC,cK (x::l) [44,32]=x++jnC l
 |[]=>by rw[jn1,jnC,gH]
 |y::l=>by rw[jn2,GH y l,jnC];simp
theorem G6(a:aC×ζ)(L:δ aC×ζ)(u:γ L.1<=4194304)(r:δ aC):∀P o b,L.1=P++r->γ r<b->P≠[]->(∀x∈r,γ x<=4190000/\cI x=x)->γ o+265*Ry r+80002*γ r<=1000000000000000000->
  aml FU a L b o (γ P)=θ (if(yU (pI a.1) (qL a.1) r).2=0 then .inl (o++jnC (yU (pI a.1) (qL a.1) r).1)else .inr ([],(yU (pI a.1) (qL a.1) r).2)):=by
 induction r with
 |nil=>intro P o b h j k hx f;obtain⟨b,rfl⟩:=cB b;rw[gH]at h;rw[atq,akz,aA aC6];show _=θ (Sum.inl (o++[]));rw[gH]
 |cons x r n=>
  intro P o b h j k hx f;obtain⟨b,rfl⟩:=cB b;have i:γ L.1=γ P+(γ r+1):=by rw[h,cE,cM]
  have c:0<=(γ P:Int)/\(γ P:Int)<(γ L.1:Int):=aA0;have s:el L.1 (γ P:Int)=x:=aB2;have t:0<γ P:=bN.2 k;obtain⟨m,l⟩:=hx x gQ;rw[cM]at j f;rw[qk]at f;have q:=Yc (pI a.1) (qL a.1) x aA0;have v:γ (o++[44,32])=γ o+2:=by rw[cE];rfl
  have g:(γ (P++[x]):Int)=(γ P:Int)+1:=by rw[cE];rfl
  have:=n (P++[x]) (o++[44,32]++(Jj (pI a.1) (qL a.1) x).1) b aA6 aA0 aA2 (λy p=>hx y (fB _ p)) aD3;rw[atq,akz,aB c.2,aS c,aS c,s,Dk _ x m l,aR,yU];by_cases e:(Jj (pI a.1) (qL a.1) x).2=0
  ·rw[aB e,aB e,aB aA0,aS (by show γ o+2<=_;omega),aR,aS aA0,aS (bW _ aA0 aA0),<-g,this];by_cases d:(yU (pI a.1) (qL a.1) r).2=0
   ·rw[aB d,aB d,jnC];simp
   ·rw[aA d,aA d,aA d]
  ·rw[aA e,aA e,aA e]
theorem G7(a:aC×ζ)(L:δ aC×ζ)(o:γ L.1<=4194304)(l:δ aC)(d:Nat)(h:L.1=l)(p:γ l<d)(hx:∀x∈l,γ x<=4190000/\cI x=x)(i:265*Ry l+80002*γ l<=1000000000000000000):
  aml FU a L d [] 0=θ (if(yU (pI a.1) (qL a.1) l).2=0 then .inl (cK (yU (pI a.1) (qL a.1) l).1 [44,32])else .inr ([],(yU (pI a.1) (qL a.1) l).2)):=by
 obtain⟨d,rfl⟩:=cB d;cases l with
 |nil=>rw[atq,akz,aA (by rw[h];decide)];rfl
 |cons x r=>
  have g:γ L.1=γ r+1:=by rw[h,cM]
  have c:0<=(0:Int)/\(0:Int)<(γ L.1:Int):=aA0;have q:el L.1 (0:Int)=x:=by rw[h];rfl
  obtain⟨k,j⟩:=hx x gQ;rw[cM]at p i;rw[qk]at i;have n:=Yc (pI a.1) (qL a.1) x aA0;have:=G6 a L o r [x] ([]++(Jj (pI a.1) (qL a.1) x).1) d h aA0 aA2 (λy m=>hx y (fB _ m)) (by rw[Ic];omega);have b:aml FU a L d ([]++(Jj (pI a.1) (qL a.1) x).1) (0+1)=_:=this;rw[atq,akz,aB c.2,aS c,aS c,q,Dk _ x k j,aR,yU];by_cases f:(Jj (pI a.1) (qL a.1) x).2=0
  ·rw[aB f,aB f,aA aA0,aR,aS (by rw[iH];omega),aS (bW _ aA0 aA0),b];by_cases e:(yU (pI a.1) (qL a.1) r).2=0
   ·rw[aB e,aB e,aB rfl,GH,Ic]
   ·rw[aA e,aA e,aA e]
  ·rw[aA f,aA f,aA f]
theorem L4(nm v:aC)(j:γ nm<=4194304)(c:(gS nm).2=0)(h:γ v<=1100000):bid FU nm v=θ (pQ nm v):=by
 have i:=Tp v;have d:=pE nm c;have e:γ (gS nm).1<=64:=Fl nm c;unfold bid pQ;rw[rO nm aA0,aR,aB c,aB c,Sk _ aA0,aR,d,aB rfl];unfold D9;cases k:Ap (gS nm).1 with
 |false=>rw[oF,aM,dx v aA0,aR,Dk _ _ aA0 (tT v),aR,aA aA1,E0 _ _ _ v (tT v)]
 |true=>
  obtain⟨g,f⟩:=FJ v;have hx:∀x∈(iW v).1,γ x<=4190000/\cI x=x:=λx hx=>⟨by have:=Ld _ x hx;omega,P2 v x hx⟩;have:=G7 (gS nm) _ aA0 (iW v).1 FU Τ aA4 hx aA0;rw[eY,aG,I1 v aA0,aR,aB rfl];by_cases b:(iW v).2=0
  ·rw[aB b,aB b,this,aR];by_cases a:(yU (pI (gS nm).1) (qL (gS nm).1) (iW v).1).2=0
   ·rw[aB a,aB a,lB]
   ·rw[aA a,aA a,Rt]
  ·rw[aA b,aA b]
open Go.Lib renaming occAt → Ib
theorem FC(s t:aC)(i:Nat):Ib s t i=decide (i+γ t<=γ s/\(s.drop i).take (γ t)=t)\/t=[]:=by
 by_cases h:i+γ t<=γ s
 ·left;rw[Lib.occAt_iff_take s t i h];by_cases e:(s.drop i).take (γ t)=t
  ·rw[aE ⟨h,e⟩];simpa using e
  ·rw[aD (λk=>e k.2)];simpa using e
 ·cases a:Ib s t i with
  |false=>left;rw[aD (λk=>h k.1)]
  |true=>
   rcases Lib.occAt_room a with k|k
   ·exact absurd k h
   ·exact .inr k
theorem xD(s t:aC)(i:Nat)(c:γ s<=1000000000)(b:γ t<=1000000000)(d:i<=1000000000)(a:t≠[]):XZ FU s i t=θ (Ib s t i):=by
 rw[(FC s t i).resolve_right a];unfold XZ;rw[aB aA0,aS (bW _ aA0 aA0)];by_cases h:i+γ t<=γ s
 ·have e:sub s (i:Int) ((i:Int)+(γ t:Int))=(s.drop i).take (γ t):=by unfold sub;congr 1;omega
  rw[aB aA0,aS (bW _ aA0 aA0),aS ⟨aA0,aA0,aA0⟩,aR,e];congr 1;rw[bY];exact⟨λk=>⟨h,k⟩,λk=>k.2⟩
 ·rw[aA aA0,aR,aD (λk=>h k.1)]
theorem jm(s t:aC)(i:Int)(a:i<0):XZ FU s i t=θ ν:=by unfold XZ;rw[aA aA0];rfl
def mkA(s y:aC)(k:Nat):η:=Ib s (QP y) k&&(decide (k=0)||(decide (2<=k)&&Ib s [13,10] (k-2)))
theorem kt(y:aC):γ (QP y)=γ y+2:=rfl
theorem yt(s y:aC)(k:Nat)(a:γ s<=1000000000)(g:γ y<=70)(f:k<=1000000000):bff FU s k y=θ (mkA s y k):=by
 have d:=kt y;have e:(([45,45]:aC)++y)=QP y:=Τ;unfold bff mkA;rw[aS aA3,e,xD s (QP y) k a (by rw[d];omega) f (λh=>by cases h),aR];cases Ib s _ k with
 |false=>rfl
 |true=>
  by_cases c:k=0
  ·rw[aB aA0,aE c];rfl
  ·rw[aA aA0,aD c,aS ⟨aA0,aA0⟩];by_cases b:2<=k
   ·rw[show((k:Int)-2)=((k-2:Nat):Int)by omega,xD s [13,10] (k-2) a aA1 aA0 (λh=>by cases h),aE b];rfl
   ·rw[jm s _ _ aA0,aD b];rfl
theorem yz(y:aC)(a:γ y<=9223372036854775807):bas FU y=θ (jG y&&decide (γ y<=70)):=by
 unfold bas;rw[bch y a];cases jG y with
 |false=>rfl
 |true=>
  have e:decide ((γ y:Int)<=70)=decide (γ y<=70):=by rw[bY];omega
  rw[e];rfl
open Go.Lib renaming hasPrefix → jF, index → cO, occAt → Ib, trimPrefix → eH
open List renaming drop → cC, length → aL
def gN(s:aC):η:=decide (s.drop (aL s-2)=[13,10])
theorem Y4(t:aC):gN (t++[13,10])=μ:=by unfold gN;rw[cE,show([13,10]:aC).length=2 from Τ,Nat.add_sub_cancel,TH];exact aE Τ
theorem XF(s:aC)(h:gN s=μ):∃t,s=t++[13,10]:=by have:=NZ (aL s-2) s;rw[bX h]at this;exact⟨_,this.symm⟩
theorem KP(s:aC)(b:aL s<=1000000):agk FU s [13,10]=θ (gN s):=by
 unfold agk aia gN;have a:((γ ([13,10]:aC):Nat):Int)=2:=Τ;rw[a];by_cases h:(2:Int)<=(aL s:Int)
 ·have e:bL ((aL s:Int)-2)=aL s-2:=by omega
  rw[aB h,aS ⟨aA0,aA0⟩,aS aA0,e];rfl
 ·rw[aA h,aD]
  ·rfl
  ·intro e;have:=bA aL e;rw[dY]at this;simp only[cM,iH]at this;omega
def pb(T y:aC)(a:Nat):ε (Int×Int×η):=
 if 0<a/\gN (T.take a)=ν then ι
 else if Z5 (T.drop (a+(aL y+2)))=[]then θ (a,aL T,jF (T.drop (a+(aL y+2))) [45,45])
 else if jF (Z5 (T.drop (a+(aL y+2)))) [13,10]=μ then θ (a,aL T-(γ (Z5 (T.drop (a+(aL y+2)))))+2,jF (T.drop (a+(aL y+2))) [45,45])
 else ι
def dRs(rec:Int->ε ((Int×Int×η)×η))(a:Nat):ε (Int×Int×η)->ε ((Int×Int×η)×η)
 |some d=>θ (d,μ)
 |none=>rec (a+1)
theorem BF(R:aC):γ (Z5 R)<=aL R:=by
 unfold Z5;have b:=avm bR (eH R [45,45]);have a:γ (eH R [45,45])<=aL R:=by
  unfold eH;split
  ·rw[dY];omega
  ·exact dK _
 omega
theorem kr(T y:aC)(x:aL T<=100000)(u:aL y<=100000)(rec:Int->ε ((Int×Int×η)×η))(b i:Nat)(h:b<=aL T)(n:cO (T.drop b) (QP y)=(i:Int))(l:b+i+(aL y+2)<=aL T):
  afg FU T y rec (b:Int)=dRs rec (b+i) (pb T y (b+i)):=by
 have t:([45,45]:aC)++y=QP y:=Τ;have s:min (b:Int) (aL T:Int)=(b:Int):=aA0;have r:(b:Int)+(i:Int)=((b+i:Nat):Int):=aA0;have q:(γ (QP y):Int)=((aL y+2:Nat):Int):=Τ;unfold afg;simp only[t,s,gJ,n,r,q];have p:((b+i:Nat):Int)+((aL y+2:Nat):Int)=((b+i+(aL y+2):Nat):Int):=aA0;simp only[p,gJ];generalize b+i=a at l;have w:γ (T.drop b)<=aL T:=aB1
 have o:qw FU (eH (T.drop (a+(aL y+2))) [45,45]) 0=θ ((cD bR (eH (T.drop (a+(aL y+2))) [45,45]):Nat):Int):=by
  have v:γ (eH (T.drop (a+(aL y+2))) [45,45])<=aL T:=by
   unfold eH;split
   ·rw[dY,dY];omega
   ·rw[dY];omega
  rw[nT _ aA0,bjj]
 have k:cD bR (eH (T.drop (a+(aL y+2))) [45,45])<=γ (eH (T.drop (a+(aL y+2))) [45,45]):=by
  have:=jD bR (eH (T.drop (a+(aL y+2))) [45,45]) 0
  rwa [bjj]at this
 have m:cC (cD bR (eH (T.drop (a+(aL y+2))) [45,45])) (eH (T.drop (a+(aL y+2))) [45,45])=Z5 (T.drop (a+(aL y+2))):=axr _ _;have g:=BF (T.drop (a+(aL y+2)));rw[dY]at g;have d:(((if(0:Int)<(a:Int)then(gd (0<=(a:Int)/\(a:Int)<=(aL T:Int))<|((agk FU (T.take a) ([13,10]:aC)).bind λ(c:η)=>θ (!c)))else θ ν)))=θ (decide (0<a/\gN (T.take a)=ν)):=by
  by_cases j:0<a
  ·rw[aB aA0,aS aA0,KP _ aB3,aR];cases gN (T.take a)<;>simp[j]
  ·rw[aA aA0,aD (λh=>j h.1)]
 rw[aS aA0,aS aA0,aA aA0,aS ⟨aA0,aA0⟩,d,aR];unfold pb;by_cases f:0<a/\gN (T.take a)=ν
 ·rw[aB f,aE f,aM,aS ⟨aA0,aA0⟩];rfl
 ·rw[aA f,aD f,aG,aS ⟨aA0,aA0⟩,aS aA0,o,aR,gJ,aS aA0,m];by_cases e:Z5 (T.drop (a+(aL y+2)))=[]
  ·rw[aB e,aB e];rfl
  ·rw[aA e,aA e,zm,aR];cases z:jF (Z5 (T.drop (a+(aL y+2)))) [13,10]with
   |true=>rw[aM,aS ⟨aA0,aA0⟩,aS ⟨aA0,aA0⟩,aB rfl];rfl
   |false=>rw[aG,aS ⟨aA0,aA0⟩,aA aA1];rfl
theorem Mw(T p:aC)(a j:Nat):Ib (T.drop a) p j=Ib T p (a+j):=by unfold Ib;rw[Gj]
theorem dAt_ok(T y:aC)(a:Nat)(d:Int×Int×η)(h:pb T y a=θ d):d.1=(a:Int)/\∃e:Nat,d.2.1=(e:Int)/\e<=aL T:=by
 unfold pb at h;split at h
 ·cases h
 ·split at h
  ·cases h;exact⟨Τ,aL T,Τ,dK _⟩
  ·split at h
   ·rename_i g;cases h;obtain⟨r,b⟩:=Ae _ _ g;have f:=BF (T.drop (a+(aL y+2)));rw[dY]at f;have c:=bA aL b;rw[cE,show([13,10]:aC).length=2 from Τ]at c;refine⟨Τ,aL T-γ (Z5 (T.drop (a+(aL y+2))))+2,?_,aA0⟩;dsimp only;omega
   ·cases h
theorem KH(s:aC)(b:aL s<=100000):∀(n i a:Nat),aL s-i<=n->n<a->i<=aL s->∃r,ain FU s a (i:Int)=θ r/\∀q,r=.inr q->0<=q.1/\q.1<=(aL s:Int)
 |n,i,0,_,h,_=>absurd h (YM _)
 |n,i,a+1,l,k,j=>by
  rw[bhb,aub];by_cases c:(i:Int)<(aL s:Int)
  ·rw[aB c,aS aA0,bhx,aR];cases dQ (Κ s (i:Int))with
   |false=>rw[oF,aM,aS (bW _ aA0 aA0)];exact KH s b (n-1) (i+1) a aA0 aA0 aA0
   |true=>
    rw[eY,aG,aS aA0];by_cases g:Κ s (i:Int)=13
    ·rw[aB g,aS (bW _ aA0 aA0)];by_cases f:(i:Int)+1=(aL s:Int)
     ·rw[aB f];exact⟨_,Τ,λq e=>by cases e;exact⟨eZ _,by dsimp only;omega⟩⟩
     ·rw[aA f,aS (bW _ aA0 aA0),aS aA0];by_cases d:Κ s ((i:Int)+1)=10
      ·rw[aB d,aS (bW _ aA0 aA0),aS (bW _ aA0 aA0),show((i:Int)+1+1)=((i+2:Nat):Int)by omega];exact KH s b (n-2) (i+2) a aA0 aA0 aA0
      ·rw[aA d];exact⟨_,Τ,λq e=>by cases e;exact⟨by dsimp only;omega,by dsimp only;omega⟩⟩
    ·rw[aA g];exact⟨_,Τ,λq e=>by cases e;exact⟨by dsimp only;omega,by dsimp only;omega⟩⟩
  ·rw[aA c];exact⟨_,Τ,λq e=>(nomatch e)⟩
theorem gw(s:aC)(a:aL s<=100000):∃r,aru FU s=θ r/\0<=r.1/\r.1<=(aL s:Int):=by
 obtain⟨r,h,b⟩:=KH s a (γ s) 0 FU aA0 aA4 aA0;have c:ain FU s FU (0:Int)=θ r:=h;unfold aru;rw[c,aR];cases r with
 |inl u=>exact⟨_,Τ,eZ _,by dsimp only;omega⟩
 |inr q=>exact⟨_,Τ,b q Τ⟩
open Go.Lib renaming hasPrefix → jF, occAt → Ib, trimPrefix → eH
def LJ{a:Type}(f:Nat->ε a):Nat->Nat->ε a
 |_,0=>ι
 |k,n+1=>match f k with
  |some x=>θ x
  |none=>LJ f (k+1) n
theorem FD{a:Type}(f:Nat->ε a):∀(i k n:Nat),(∀j,k<=j->j<k+i->f j=ι)->i<=n->LJ f k n=LJ f (k+i) (n-i)
 |0,k,n,_,_=>rfl
 |i+1,k,0,_,h=>absurd h (Nat.not_succ_le_zero _)
 |i+1,k,n+1,h,b=>by rw[LJ,h k (dK _) aA0];dsimp only;rw[FD f i (k+1) n (λj d c=>h j aA0 aA0) aA0,show k+1+i=k+(i+1)by omega,show n+1-(i+1)=n-i by omega]
theorem FE{a:Type}(f:Nat->ε a):∀n k,(∀j,k<=j->j<k+n->f j=ι)->LJ f k n=ι
 |0,k,_=>rfl
 |n+1,k,h=>by rw[LJ,h k (dK _) aA0];exact FE f n _ λj c b=>h j aA0 aA0
def SD(T y:aC)(a:Nat):ε (Int×Int×η):=if Ib T (QP y) a=μ then pb T y a else ι
def dh(T y:aC)(a:Nat):ε (Int×Int×η):=LJ (SD T y) a (aL T-a)
def ndR:ε (Int×Int×η)->(Int×Int×η)×η
 |some d=>(d,μ)
 |none=>((0,0,ν),ν)
theorem O9(T y:aC)(o:aL T<=100000)(l:aL y<=100000):∀(n a b:Nat),a<=aL T->aL T-a<=n->n<b->afq FU T y b (a:Int)=θ (ndR (dh T y a))
 |n,a,0,_,_,h=>absurd h (YM _)
 |n,a,b+1,w,D,C=>by
  have g:γ (T.drop a)=aL T-a:=dY;rcases Lib.index_spec (T.drop a) (QP y)with⟨f,t⟩|⟨i,f,_,c,e⟩
  ·have z:min (a:Int) (aL T:Int)=(a:Int):=by omega
   have A:([45,45]:aC)++y=QP y:=Τ;have k:dh T y a=ι:=by refine FE _ _ _ λj q p=> ?_;have:=t (j-a) aA0;rw[Mw,show a+(j-a)=j by omega]at this;unfold SD;rw[aA (by rw[this];decide)]
   rw[aui,afg,k];simp only[A,z,gJ,f];rw[aS aA0,aS aA0,aB aA0];rfl
  ·obtain⟨r,s⟩:=Ae _ _ (show jF ((T.drop a).drop i) (QP y)=μ from c);have v:=bA aL s;rw[cE,dY,g,show(QP y).length=aL y+2 from rfl]at v;have k:dh T y a=LJ (SD T y) (a+i) (aL T-a-i):=by refine FD _ i a _ (λj q p=> ?_) aA0;have:=e (j-a) aA0;rw[Mw,show a+(j-a)=j by omega]at this;unfold SD;rw[aA (by rw[this];decide)]
   rw[Mw]at c;have x:SD T y (a+i)=pb T y (a+i):=aB c;obtain⟨m,u⟩:∃m,aL T-a-i=m+1:=⟨aL T-a-i-1,aA0⟩;rw[aui,kr T y o l _ a i w f aA0,k,u,LJ,x];cases B:pb T y (a+i)with
   |some d=>rfl
   |none=>show afq FU T y b (((a+i:Nat):Int)+1)=θ (ndR (LJ (SD T y) (a+i+1) m));rw[show(((a+i:Nat):Int)+1)=((a+i+1:Nat):Int)by omega,O9 T y o l (n-1) (a+i+1) b aA0 aA0 aA0];unfold dh;rw[show γ T-(a+i+1)=m by omega]
theorem P0(T y:aC)(c:aL T<=100000)(b:aL y<=100000)(a:Nat)(h:a<=aL T):aes FU T (a:Int) y=θ (ndR (dh T y a)):=by unfold aes;rw[aS aB9];exact O9 T y c b (γ T) a FU h aA0 aA4
theorem XH(p:ζ->η)(l:aC):l.dropWhile p=l.drop (cD p l):=(axr p l).symm
theorem om(T:aC)(a:Nat)(h:a<=aL T):gN (T.take a)=(decide (2<=a)&&Ib T [13,10] (a-2)):=by
 have b:γ (T.take a)=a:=aB3;unfold gN;rw[b];by_cases c:2<=a
 ·rw[aE c,Je,(FC T [13,10] (a-2)).resolve_right (λk=>by cases k),bY];have e:(T.take a).drop (a-2)=(T.drop (a-2)).take 2:=by rw[tO];congr 1;omega
  rw[e];exact⟨λk=>⟨by show a-2+2<=_;omega,k⟩,λk=>k.2⟩
 ·rw[aD c,kY,bK];intro k;have:=bA aL k;rw[dY,b]at this;simp at this;omega
theorem mkA_eq(T y:aC)(a:Nat)(h:a<=aL T):mkA T y a=(Ib T (QP y) a&& !(decide (0<a)&& !gN (T.take a))):=by
 unfold mkA;rw[om T a h];by_cases b:a=0
 ·subst b;rfl
 ·rw[aD b,aE (show 0<a by omega),CI,Je,NS]
def dlR:ε (Int×Int×η)->Int×η
 |some d=>(d.2.1,d.2.2)
 |none=>(0,ν)
theorem F9(p:ζ->η)(T:aC)(v:Nat)(h:v<=aL T):bT p T v=v+cD p (T.drop v):=by unfold bT Cv;rw[show(min (max (v:Int) 0) (aL T:Int)).toNat=v by omega]
theorem yx(T y:aC)(C:aL T<=100000)(q:aL y<=70)(a:Nat)(x:a<=aL T):avp FU T (a:Int) y=θ (dlR (SD T y a)):=by
 unfold avp SD;rw[yt T y a aA0 q aA0,aR,mkA_eq T y a x];cases s:Ib T (QP y) a with
 |false=>rfl
 |true=>
  have c:a+(aL y+2)<=aL T:=by
   rcases Lib.occAt_room s with k|k
   ·exact k
   ·cases k
  rw[aB rfl,Je];unfold pb;by_cases f:0<a/\gN (T.take a)=ν
  ·rw[aB f,aE f.1,f.2];rfl
  ·have w:(decide (0<a)&& !gN (T.take a))=ν:=by
    rw[Bool.and_eq_false_iff,bK,Bool.not_eq_false'];by_cases p:0<a
    ·right;cases t:gN (T.take a)with
     |true=>rfl
     |false=>exact absurd ⟨p,t⟩ f
    ·exact .inl p
   have A:((a:Int)+2)+(aL y:Int)=((a+(aL y+2):Nat):Int):=aA0
   rw[aA f,w,oF,eY,aG,aS (bW _ aA0 aA0),aS (bW _ aA0 aA0),A];generalize a+(aL y+2)=k at c⊢;rw[xD T [45,45] k aA0 aA1 aA0 (λh=>by cases h),aR];have b:Ib T [45,45] k=jF (T.drop k) [45,45]:=Τ;obtain⟨v,l,j,i⟩:∃v:Nat,(bif Ib T [45,45] k then(gd (bJ ((k:Int)+(2:Int)))<|some ((k:Int)+(2:Int)))else θ (k:Int))=θ (v:Int)/\v<=aL T/\eH (T.drop k) [45,45]=T.drop v:=by
    cases n:Ib T [45,45] k with
    |false=>exact⟨k,Τ,c,xw _ _ (b▸n)⟩
    |true=>
     have r:k+2<=aL T:=by
      rcases Lib.occAt_room n with h|h
      ·exact h
      ·cases h
     refine⟨k+2,by rw[aM,aS (bW _ aA0 aA0)];rfl,r,?_⟩;unfold eH;rw[<-b,n,aB rfl,Gj];rfl
   have u:Z5 (T.drop k)=T.drop (v+cD bR (T.drop v)):=by unfold Z5;rw[i,XH,Gj]
   have e:v+cD bR (T.drop v)<=aL T:=by have:=Kf bR (T.drop v);rw[dY]at this;omega
   rw[l,aR,YD T aA0,aR,F9 bR T v j,u,<-b];generalize v+cD bR (T.drop v)=z at e⊢;have B:z<=aL T:=e;have d:γ (T.drop z)=aL T-z:=dY;by_cases g:z=aL T
   ·rw[aB aA0,aB (Da aA0)];show θ ((z:Int),_)=θ ((aL T:Int),_);rw[g]
   ·have m:T.drop z≠[]:=λh=>by have:=bA aL h;rw[d,iH]at this;omega
    rw[aA aA0,aA m,xD T [13,10] z aA0 aA1 aA0 (λh=>by cases h),aR];have o:Ib T [13,10] z=jF (T.drop z) [13,10]:=Τ;rw[o];cases jF (T.drop z) [13,10]with
    |false=>rfl
    |true=>rw[aM,aS (bW _ aA0 aA0),aB rfl];show θ ((z:Int)+2,_)=θ ((aL T:Int)-(γ (T.drop z):Int)+2,_);rw[d,show(aL T:Int)-((aL T-z:Nat):Int)=(z:Int)by omega]
def nxR:ε (Int×Int×η)->Int×Int×η
 |some d=>d
 |none=>(-1,0,ν)
def nxS:ε (Int×Int×η)->Unit⊕(Int×Int×η)
 |some d=>.inr d
 |none=>.inl ()
theorem Z4(T y:aC)(a:Nat)(d:Int×Int×η)(h:SD T y a=θ d):d.1=a/\∃e:Nat,d.2.1=e/\e<=aL T/\a<e:=by
 unfold SD at h;split at h
 ·rename_i f;obtain⟨j,e,c,i⟩:=dAt_ok T y a d h;have b:a+(aL y+2)<=aL T:=by
   rcases Lib.occAt_room f with k|k
   ·exact k
   ·cases k
  refine⟨j,e,c,i,?_⟩;have g:=BF (T.drop (a+(aL y+2)));rw[dY]at g;unfold pb at h;split at h
  ·cases h
  ·split at h
   ·cases h;dsimp only at c;omega
   ·split at h
    ·cases h;dsimp only at c;omega
    ·cases h
 ·cases h
theorem H8(T y:aC)(f:aL T<=100000)(c:aL y<=70):∀n a b,a+n=aL T->n<b->ayd FU T y b a=θ (nxS (LJ (SD T y) a n))
 |0,a,b,h,g=>by obtain⟨b,rfl⟩:=cB b;rw[bhy,avn,aA aA0];rfl
 |n+1,a,b,h,g=>by
  obtain⟨b,rfl⟩:=cB b;rw[bhy,avn,aB aA0,yx T y f c a aA0,aR,LJ];cases i:SD T y a with
  |none=>rw[aA aA1,aS (bW _ aA0 aA0),mL,H8 T y f c n (a+1) b aA0 aA0]
  |some d=>obtain⟨j,e,o,m,l⟩:=Z4 T y a d i;have k:dlR (θ d)=(d.2.1,d.2.2):=Τ;rw[k,aB aD7];show θ (Sum.inr ((a:Int),d.2.1,d.2.2))=θ (Sum.inr d);rw[<-j]
theorem H9(T y:aC)(c:aL T<=100000)(b:aL y<=70)(a:Nat)(h:a<=aL T):ava FU T a y=θ (nxR (dh T y a)):=by unfold ava dh;rw[H8 T y c b (aL T-a) a FU aA0 aA4];cases LJ _ a _<;>rfl
theorem O4(T y:aC)(a:Nat)(d:Int×Int×η)(h:dh T y a=θ d):∃b e:Nat,d.1=b/\d.2.1=e/\b<=aL T/\e<=aL T:=by
 have key:∀n k,LJ (SD T y) k n=θ d->k+n<=aL T\/n=0->∃j,SD T y j=θ d/\j<=aL T:=by
  intro n;induction n with
  |zero=>intro k h;cases h
  |succ n c=>
   intro k h o;rw[LJ]at h;split at h
   ·rename_i x hx;cases h;exact⟨k,hx,aA0⟩
   ·exact c _ h aA0
 obtain⟨j,g,f⟩:=key _ _ h aA0;obtain⟨m,e,l,i,p⟩:=Z4 T y j d g;exact⟨j,e,m,l,f,i⟩
open Go.Lib renaming hasPrefix → jF, join → cK
open List renaming length → aL, set → jH, take → eN
theorem RS{a:Type}[Inhabited a](l:δ a)(i:Int)(d:0<=i)(c:i<aL l):el l i∈l:=by have b:i.toNat<aL l:=aA0;simp[el,b]
theorem mh(s:aC)(f:δ aC)(t:aC):γ (cK (f++[t]) s)<=γ (cK f s)+aL s+aL t:=by
 cases f with
 |nil=>rw[Ic,Lib.join_one];omega
 |cons x r=>rw[NU,Lib.join_cons,Lib.join_cons];simp only[Lib.joinTail,Rp,List.flatten_append,cE,tR,iS,List.flatten_cons,List.flatten_nil,iH];omega
def zB(a:Nat)(z:Int×aC):Prop:=aL z.2<=a/\0<=z.1/\z.1<=a
theorem zB.mono{b:Nat}{z:Int×aC}(h:zB m z)(c:m<=b):zB b z:=⟨by have:=h.1;omega,h.2.1,by have:=h.2.2;omega⟩
theorem Zd(L:aC)(f:δ aC)(g:eR)(a:Nat)(C:aL L<=100000)(B:a<=100000)(r:aL f<=a)(p:γ (cK f [32])<=a)(A:aL g<=a)(l:∀z∈g,zB a z):
  ∃f' o,rf FU (a:Int) L f g=θ (0,f',o)/\γ f'<=a+1/\γ (cK f' [32])<=a+1+aL L/\γ o<=a+1/\(∀z∈o,zB a z)/\(g≠[]\/(L=[]\/bR (Κ L 0)=ν)->o≠[]):=by
 have s:(if L=([]:aC)then θ μ else(gd (0<=(0:Int)/\(0:Int)<(aL L:Int))<|((eh FU (Κ L (0:Int))).bind λ(i:η)=>θ (!i))))=θ (decide (L=[])|| !bR (Κ L 0)):=by
  by_cases k:L=[]
  ·rw[aB k,aE k,iU]
  ·have:aL L≠0:=λe=>k (qR e);rw[aA k,aS aA0,bcq,aR,aD k,CI]
 have q:∃f1 d,(bif (decide (L=[])|| !bR (Κ L 0))then(((if(0:Int)<(aL g:Int)then(gd (bJ ((aL g:Int)-(1:Int)))<|(gd (aL f<=1000000000/\γ (cK f ([32]:aC))<=100000000000)<|(gd (0<=((aL g:Int)-(1:Int))/\((aL g:Int)-(1:Int))<(aL g:Int))<|(gd (0<=((aL g:Int)-(1:Int))/\((aL g:Int)-(1:Int))<(aL g:Int))<|some (jH g (bL ((aL g:Int)-(1:Int))) ((el g ((aL g:Int)-(1:Int))).1,cK f ([32]:aC)))))))else θ g)).bind λ(b:eR)=>(gd ((aL b+γ ([((a:Int),([]:aC))]:eR))*24<=140737488355328)<|(gd (0<=(0:Int)/\(0:Int)<=(aL f:Int))<|some (eN (bL (0:Int)) f,b++([((a:Int),([]:aC))]:eR)))))else θ (f,g))=θ (f1,d)/\γ f1<=a/\γ (cK f1 [32])<=a/\γ d<=a+1/\(∀z∈d,zB a z)/\(g≠[]\/(L=[]\/bR (Κ L 0)=ν)->d≠[]):=by
  cases n:(decide (L=[])|| !bR (Κ L 0))with
  |false=>
   refine⟨f,g,Τ,r,p,aA0,l,λh=>h.elim id λh=> ?_⟩;rw[cq,bK]at n;rcases h with h|h
   ·exact absurd h n.1
   ·rw[h]at n;cases n.2
  |true=>
   rw[aM];by_cases j:(0:Int)<(aL g:Int)
   ·rw[aB j,aS (bW _ aA0 aA0),aS aA0,aS aA0,aS aA0,aR,aS aA3,aS aA0];refine⟨[],_,Τ,cH _,cH _,by simp;omega,λz c=> ?_,λ_=>by simp⟩;rcases aV.1 c with h|h
    ·rcases List.mem_or_eq_of_mem_set h with h|h
     ·exact l z h
     ·rw[h];exact⟨p,(l _ (RS g _ aA0 aA0)).2⟩
    ·rw[rz]at h;rw[h];exact⟨cH _,aA0,aA0⟩
   ·rw[aA j,aR,aS aA3,aS aA0];refine⟨[],_,Τ,cH _,cH _,by simp;omega,λz c=> ?_,λ_=>by simp⟩;rcases aV.1 c with h|h
    ·exact l z h
    ·rw[rz]at h;rw[h];exact⟨cH _,aA0,aA0⟩
 obtain⟨f1,d,y,F,E,w,v,u⟩:=q;unfold rf;refine Exists.intro (if Lib.trimS L [32,9]=[]then f1 else f1++[Lib.trimS L [32,9]]) ⟨d,?_,?_,?_,w,v,u⟩
 ·rw[s,aR];refine(bA (λx=>Option.bind x _) y).trans ?_;rw[aR,aS aA0,aS aA1];by_cases m:Lib.trimS L [32,9]=[]
  ·rw[aB m,aB m]
  ·rw[aA m,aA m,aS aA3]
 ·split
  ·omega
  ·rw[cE];simp;omega
 ·have t:=mh [32] f1 (Lib.trimS L [32,9]);have D:=TW L [32,9];rw[show([32]:aC).length=1 from Τ]at t;split<;>omega
theorem Zq(T:aC)(O:aL T<=100000):∀(n a o:Nat) (f:δ aC) (g:eR),a<=aL T->aL T-a<=n->n<o->aL f<=a->γ (cK f [32])<=a->aL g<=a->(∀z∈g,zB a z)->
  ∃f' j,rq FU T o (a:Int) f g=θ (f',j,0)/\γ f'<=aL T+1/\γ (cK f' [32])<=aL T+1/\γ j<=aL T+1/\(∀z∈j,zB (aL T+1) z)/\(g≠[]\/(a=0/\T≠[]/\bR (Κ T 0)=ν)->j≠[])
 |n,a,0,_,_,_,_,h,_,_,_,_=>absurd h (YM _)
 |n,a,o+1,f,g,W,V,U,y,w,x,t=>by
  have k:γ (T.drop a)=aL T-a:=dY;by_cases v:(a:Int)<(aL T:Int)
  ·have d:a=0/\T≠[]/\bR (Κ T 0)=ν->bR (Κ (T.drop a) 0)=ν:=λ⟨e,_,S⟩=>by rw[e,NT];exact S
   rcases Lib.index_spec (T.drop a) [13,10]with⟨u,_⟩|⟨i,u,M,K,_⟩
   ·obtain⟨f',j,s,I,H,G,q,p⟩:=Zd (T.drop a) f g a aA0 aA0 y w x t;rw[aba,rr,aB v,aS aA0,gJ,aS aA0,u,aB aA0,aS aA0,s,aR,aB rfl];exact⟨f',j,Τ,aA0,aA0,aA0,λz b=>(q z b).mono aA0,λh=>p (h.imp id λh=>.inr (d h))⟩
   ·obtain⟨r,J⟩:=Ae _ _ (show jF ((T.drop a).drop i) [13,10]=μ from K);have Q:=bA aL J;rw[cE,dY,k,show([13,10]:aC).length=2 from Τ]at Q;have m:sub T (a:Int) ((a:Int)+(i:Int))=(T.drop a).take i:=by unfold sub;rw[gJ,show((a:Int)+(i:Int)).toNat-a=i by omega]
    have L:γ ((T.drop a).take i)=i:=aB3;obtain⟨f',j,s,I,H,G,q,p⟩:=Zd ((T.drop a).take i) f g a aA0 aA0 y w x t;obtain⟨f2,R,F,E,D,C,B,A⟩:=Zq T O (n-2) (a+(i+2)) o f' j aA0 aA0 aA0 aA0 aA0 aA0 (λz b=>(q z b).mono aA0);refine⟨f2,R,?_,E,D,C,B,λh=>A (.inl (p (h.imp id λh=> ?_)))⟩
    ·rw[aba,rr,aB v,aS aA0,gJ,aS aA0,u,aA aA0,aS (bW _ aA0 aA0),aS aA0,m,s,aR];dsimp only;rw[aB rfl,aS (bW _ aA0 aA0),aS (bW _ aA0 aA0),show((a:Int)+((i:Int)+2))=((a+(i+2):Nat):Int)by omega];exact F
    ·have P:=d h;cases i with
     |zero=>exact .inl Τ
     |succ i=>
      refine .inr ?_;rw[<-P];congr 1;cases N:T.drop a with
      |nil=>rw[N]at k;simp at k;omega
      |cons c l=>rfl
  ·rw[aba,rr,aA v];refine⟨f,g,Τ,aA0,aA0,aA0,λz b=>(t z b).mono aA0,λh=>h.elim id λh=> ?_⟩;exact absurd (qR aA0) h.2.1
theorem fz(s:aC)(d:aL s<=100000):∃r,aoh FU s=θ r/\(0<=r.2.1/\r.2.1<=200000)/\γ r.1<=200000/\∀z∈r.1,zB 200000 z:=by
 unfold aoh;by_cases b:s=[]
 ·rw[aB b];exact⟨_,Τ,⟨by dsimp only;omega,by dsimp only;omega⟩,cH _,λz a=>(nomatch a)⟩
 ·have t:aL s≠0:=λe=>b (qR e);rw[aA b,aS aA0,bcq,aR];cases n:bR (Κ s 0)with
  |true=>exact⟨_,Τ,⟨by dsimp only;omega,by dsimp only;omega⟩,cH _,λz a=>(nomatch a)⟩
  |false=>
   obtain⟨q,l,k,j⟩:=gw s d;rw[aG,l,aR];cases q.2 with
   |true=>exact⟨_,Τ,⟨by dsimp only;omega,by dsimp only;omega⟩,cH _,λz a=>(nomatch a)⟩
   |false=>
    rw[aG,KP s aA0,aR];cases gN s with
    |false=>exact⟨_,Τ,⟨by dsimp only;omega,by dsimp only;omega⟩,cH _,λz a=>(nomatch a)⟩
    |true=>
     obtain⟨f,g,p,x,w,v,i,o⟩:=Zq s d (γ s) 0 FU [] [] aA0 aA0 aA4 (cH _) (cH _) (cH _) (λz a=>(nomatch a));have c:rq FU s FU (0:Int) [] []=θ (f,g,0):=p;have u:aL g≠0:=λe=>o (.inr ⟨Τ,b,n⟩) (qR e);have m:asm FU s=θ s:=by kernel_rfl
     unfold acs;rw[eY,aG,m,aR,c,aR];dsimp only;rw[aB rfl,aS (bW _ aA0 aA0),aS aA0,aS aA0,aS aA0];refine⟨_,Τ,⟨eZ _,by dsimp only;omega⟩,by simp;omega,λz a=> ?_⟩;rcases List.mem_or_eq_of_mem_set a with h|h
     ·exact(i z h).mono aA0
     ·rw[h];exact⟨by dsimp only;omega,((i _ (RS g _ aA0 aA0)).mono (by omega:aL s+1<=200000)).2⟩
open Go.Lib renaming index → cO, join → cK
open List renaming isPrefixOf → NX, set → jH
open Sum renaming elim → dA
def Kc:aC->ε (aC×aC)
 |[]=>ι
 |[_]=>ι
 |c::d::t=>if c=13/\d=10 then θ ([],t)else(Kc (d::t)).map λq=>(c::q.1,q.2)
def yY:aC->ε Nat
 |[]=>ι
 |[c]=>if dQ c=μ/\¬c=13 then θ 0 else ι
 |c::d::t=>if dQ c=μ then(if c=13/\d=10 then(yY t).map (·+2)else θ 0)else(yY (d::t)).map (·+1)
def qK:aC->Nat⊕(Nat×ζ)
 |[]=>.inr (0,6)
 |[c]=>if dQ c=μ/\¬c=13 then .inr (0,5)else .inr (1,6)
 |c::d::t=>if c=13/\d=10 then .inl 0 else if dQ c=μ then .inr (0,5)else(qK (d::t)).map (·+1) λq=>(q.1+1,q.2)
def endP(s:aC):Nat⊕(Nat×ζ)->Prop
 |.inl k=>∃L r,Kc s=θ (L,r)/\γ L=k/\s=L++13::10::r/\yY s=(yY r).map (·+(k+2))
 |.inr q=>(q.2=5/\yY s=θ q.1)\/(q.2=6/\q.1=γ s/\yY s=ι/\Kc s=ι)
theorem Wr:∀s:aC,endP s (qK s)
 |[]=>.inr ⟨Τ,Τ,Τ,Τ⟩
 |[c]=>by
  unfold qK;by_cases h:dQ c=μ/\¬c=13
  ·rw[aB h];exact .inl ⟨Τ,aB h⟩
  ·rw[aA h];exact .inr ⟨Τ,Τ,aA h,Τ⟩
 |c::d::t=>by
  have e:=Wr (d::t);rw[qK];by_cases h:c=13/\d=10
  ·rw[aB h];obtain⟨rfl,rfl⟩:=h;exact⟨[],t,by rw[Kc,aB ⟨rfl,rfl⟩],Τ,Τ,by rw[yY,aB aA1,aB ⟨rfl,rfl⟩]⟩
  ·rw[aA h];by_cases f:dQ c=μ
   ·rw[aB f];exact .inl ⟨Τ,by rw[yY,aB f,aA h]⟩
   ·have j:yY (c::d::t)=(yY (d::t)).map (·+1):=by rw[yY,aA f]
    have m:Kc (c::d::t)=(Kc (d::t)).map λq=>(c::q.1,q.2):=by rw[Kc,aA h]
    rw[aA f];cases l:qK _ with
    |inl k=>
     rw[l]at e;obtain⟨L,r,b,a,i,g⟩:=e;refine⟨c::L,r,by rw[m,b];rfl,by rw[cM,a],by rw[i];rfl,?_⟩;rw[j,g];cases yY r with
     |none=>rfl
     |some x=>exact bA θ (show x+(k+2)+1=x+(k+1+2)by omega)
    |inr q=>
     rw[l]at e;rcases e with⟨b,a⟩|⟨b,a,i,g⟩
     ·exact .inl ⟨b,by rw[j,a];rfl⟩
     ·exact .inr ⟨b,by show q.1+1=_;rw[a];rfl,by rw[j,i];rfl,by rw[m,g];rfl⟩
theorem FN:∀s:aC,cO s [13,10]=match Kc s with
  |none=> -1
  |some q=>(γ q.1:Int)
 |[]=>rfl
 |[c]=>by rw[qm,aA (by cases h:(c==13)<;>simp[NX])];rfl
 |c::d::t=>by
  rw[qm,FN (d::t),Kc];by_cases h:c=13/\d=10
  ·rw[aB h,aB (by rw[h.1,h.2];rfl)];rfl
  ·rw[aA h,aA (by intro k;simp[NX]at k;exact h ⟨k.1.symm,k.2.symm⟩)];cases Kc (d::t)with
   |none=>rfl
   |some q=>show(if(γ q.1:Int)= -1 then _ else _)=(γ (c::q.1):Int);rw[aA aA0,cM];rfl
theorem uH:∀s L r,Kc s=θ (L,r)->s=L++13::10::r
 |[],_,_,h=>by cases h
 |[_],_,_,h=>by cases h
 |c::d::t,L,r,h=>by
  rw[Kc]at h;split at h
  ·rename_i a;cases h;rw[a.1,a.2];rfl
  ·obtain⟨q,a,b⟩:=bU.1 h;cases b;rw[uH _ q.1 q.2 a];rfl
theorem He:∀(t r:aC),Kc (t++13::10::r)≠ι
 |[],r,h=>by rw[Ic,Kc,aB ⟨rfl,rfl⟩]at h;cases h
 |[c],r,h=>by have h:Kc (c::13::10::r)=ι:=h;rw[Kc,aA (by intro k;exact absurd k.2 aA1),Kc,aB ⟨Τ,Τ⟩]at h;cases h
 |c::d::t,r,h=>by
  have a:=He (d::t) r;have h:Kc (c::d::(t++13::10::r))=ι:=h;rw[Kc]at h;split at h
  ·cases h
  ·exact a (iO.1 h)
theorem Y3(s:aC)(h:Kc s=ι):gN s=ν:=by
 cases a:gN s with
 |false=>rfl
 |true=>obtain⟨t,rfl⟩:=XF s a;exact absurd h (He t [])
theorem XE(A r:aC):gN (A++13::10::r)=(decide (r=[])||gN r):=by
 have e:A++13::10::r=(A++[13,10])++r:=aA2;cases r with
 |nil=>rw[aE rfl,iU];exact Y4 A
 |cons x r=>
  rw[aD aA2,CI,e];cases r with
  |nil=>unfold gN;rw[show((A++[13,10])++[x])=A++[13]++[10,x]by simp,cE,show([10,x]:aC).length=2 from Τ,Nat.add_sub_cancel,TH];simp
  |cons z r=>
   have a:γ (A++[13,10]++x::z::r)-2=γ (A++[13,10])+(γ (x::z::r)-2):=by simp only[cE,cM];omega
   unfold gN;rw[a,<-Gj,TH]
def gq(i:Nat):ε Nat->Int×η
 |some j=>((i+j:Nat),μ)
 |none=>(0,ν)
theorem DE(i n:Nat)(x:ε Nat):gq i (x.map (·+n))=gq (i+n) x:=by
 cases x with
 |none=>rfl
 |some j=>show(((i+(j+n):Nat):Int),μ)=(((i+n+j:Nat):Int),μ);congr 2;omega
theorem E4(c:ζ)(l:aC)(h:dQ c=ν):yY (c::l)=(yY l).map (·+1):=by
 cases l with
 |nil=>have e:yY [c]=(if dQ c=μ/\¬c=13 then θ 0 else ι):=Τ;rw[e,aA aA6];rfl
 |cons d t=>rw[yY,aA aA6]
theorem gp(c:ζ)(l:aC)(h:dQ c=μ)(a:¬c=13):yY (c::l)=θ 0:=by
 cases l with
 |nil=>rw[yY,aB ⟨h,a⟩]
 |cons d t=>rw[yY,aB h,aA (λk=>a k.1)]
abbrev elS:Unit⊕(Int×η)->ε (Int×η):=dA (λ_=>θ (0,ν)) (λq=>θ q)
theorem Yh(s:aC)(j:γ s<=100000):∀(n i a:Nat),γ s-i<=n->n<a->i<=γ s->∃r,ain FU s a (i:Int)=θ r/\elS r=θ (gq i (yY (s.drop i)))
 |n,i,0,_,h,_=>absurd h (YM _)
 |n,i,a+1,t,q,p=>by
  rw[bhb,aub];by_cases l:(i:Int)<(γ s:Int)
  ·have o:=yZ s i aA0;rw[aB l,aS aA0,bhx,aR,o];cases e:dQ (Κ s (i:Int))with
   |false=>obtain⟨r,g,f⟩:=Yh s j (n-1) (i+1) a aA0 aA0 aA0;rw[oF,aM,aS (bW _ aA0 aA0)];exact⟨r,g,by rw[f,E4 _ _ e,DE]⟩
   |true=>
    rw[eY,aG,aS aA0];by_cases b:Κ s (i:Int)=13
    ·rw[aB b,aS (bW _ aA0 aA0)];by_cases m:(i:Int)+1=(γ s:Int)
     ·rw[aB m,Da (show γ s<=i+1 by omega)];exact⟨_,Τ,by rw[yY,aA (λk=>k.2 b)];rfl⟩
     ·have d:=yZ s (i+1) aA0;rw[aA m,aS (bW _ aA0 aA0),aS aA0,d,show((i:Int)+1)=((i+1:Nat):Int)from rfl,yY,aB e];by_cases c:Κ s ((i+1:Nat):Int)=10
      ·obtain⟨r,g,f⟩:=Yh s j (n-2) (i+2) a aA0 aA0 aA0;rw[aB c,aS (bW _ aA0 aA0),aS (bW _ aA0 aA0),show(((i+1:Nat):Int)+1)=((i+2:Nat):Int)by omega,aB ⟨b,c⟩];exact⟨r,g,by rw[f,DE]⟩
      ·rw[aA c,aA (λk=>c k.2)];exact⟨_,Τ,Τ⟩
    ·rw[aA b,gp _ _ e b];exact⟨_,Τ,Τ⟩
  ·rw[aA l,Da aA0];exact⟨_,Τ,Τ⟩
theorem gr(s:aC)(a:γ s<=100000):aru FU s=θ (gq 0 (yY s)):=by obtain⟨r,h,b⟩:=Yh s a (γ s) 0 FU aA0 aA4 aA0;have c:ain FU s FU 0=θ r:=h;unfold aru;rw[c];exact b
def vb(k:Nat):Nat⊕(Nat×ζ)->Int×Int×ζ
 |.inl j=>((k+j:Nat),0,0)
 |.inr q=>(0,(k+q.1:Nat),q.2)
theorem oq(k:Nat)(x:Nat⊕(Nat×ζ)):vb k (x.map (·+1) λq=>(q.1+1,q.2))=vb (k+1) x:=by
 cases x with
 |inl j=>show(((k+(j+1):Nat):Int),(0:Int),(0:ζ))=(((k+1+j:Nat):Int),0,0);congr 2;omega
 |inr q=>show((0:Int),((k+(q.1+1):Nat):Int),q.2)=(0,((k+1+q.1:Nat):Int),q.2);congr 3;omega
abbrev elE(s:aC):Unit⊕(Int×Int×ζ)->ε (Int×Int×ζ):=dA (λ_=>θ (0,γ s,6)) (λq=>θ q)
theorem end_nc(c:ζ)(l:aC)(h:dQ c=ν):qK (c::l)=(qK l).map (·+1) λq=>(q.1+1,q.2):=by
 have a:¬c=13:=λe=>by rw[e]at h;exact absurd h aA1
 cases l with
 |nil=>have e:qK [c]=(if dQ c=μ/\¬c=13 then .inr _ else .inr _):=Τ;rw[e,aA aA6];rfl
 |cons d t=>rw[qK,aA (λk=>a k.1),aA aA6]
theorem end_c(c:ζ)(l:aC)(h:dQ c=μ)(a:¬c=13):qK (c::l)=.inr (0,5):=by
 cases l with
 |nil=>rw[qK,aB ⟨h,a⟩]
 |cons d t=>rw[qK,aA (λk=>a k.1),aB h]
theorem Yy(s:aC)(j:γ s<=100000):∀(n i b:Nat),i+n=γ s->n<b->∃r,bbg FU s b (i:Int)=θ r/\elE s r=θ (vb i (qK (s.drop i)))
 |n,i,0,_,h=>absurd h (YM _)
 |0,i,b+1,l,p=>by rw[bki,ayk,aA aA0,Da aA0];refine⟨_,Τ,?_⟩;show θ ((0:Int),(γ s:Int),(6:ζ))=θ (0,((i+0:Nat):Int),6);rw[<-l]
 |n+1,i,b+1,l,p=>by
  have o:=yZ s i aA0;rw[bki,ayk,aB aA0,aS aA0,o];by_cases a:Κ s (i:Int)=13
  ·rw[aB a,aS (bW _ aA0 aA0)];have c:dQ (Κ s (i:Int))=μ:=by rw[a];decide
   by_cases m:(i:Int)+1<(γ s:Int)
   ·have e:=yZ s (i+1) aA0;rw[aB m,aS (bW _ aA0 aA0),aS aA0,aR,e,show((i:Int)+1)=((i+1:Nat):Int)from rfl,qK];by_cases d:Κ s ((i+1:Nat):Int)=10
    ·rw[aE d,aM,aB ⟨a,d⟩];exact⟨_,Τ,Τ⟩
    ·rw[aD d,aG,aS aA0,qp,aR,c,aM,aS aA0,aB a,aS (bW _ aA0 aA0),aE aA0,aR,aM,aA (λk=>d k.2),aB rfl];exact⟨_,Τ,Τ⟩
   ·obtain⟨r,g,f⟩:=Yy s j n (i+1) b aA0 aA0;rw[aA m,aR,aG,aS aA0,qp,aR,c,aM,aS aA0,aB a,aS (bW _ aA0 aA0),aD aA0,aR,aG,aS (bW _ aA0 aA0)];refine⟨r,g,?_⟩;rw[f,Da (show γ s<=i+1 by omega)];show θ (vb (i+1) (.inr (0,6)))=θ (vb i (qK [Κ s (i:Int)]));rw[qK,aA (λk=>k.2 a)];rfl
  ·rw[aA a,aR,aG,aS aA0,qp,aR];cases c:dQ (Κ s (i:Int))with
   |true=>rw[aM,aS aA0,aA a,aR,aM,end_c _ _ c a];exact⟨_,Τ,Τ⟩
   |false=>obtain⟨r,g,f⟩:=Yy s j n (i+1) b aA0 aA0;rw[aG,aR,aG,aS (bW _ aA0 aA0),end_nc _ _ c,oq];exact⟨r,g,f⟩
theorem jh(s:aC)(a:γ s<=100000)(i:Nat)(c:i<=γ s):blm FU s i=θ (vb i (qK (s.drop i))):=by obtain⟨r,h,b⟩:=Yy s a (γ s-i) i FU aA0 aA4;unfold blm;rw[h];exact b
abbrev GL:=eR
def rG(g:GL)(t:aC):GL:=jH g (bL (γ g-1)) ((el g (γ g-1)).1,t)
def Ea(g:GL):aC:=(el g ((γ g:Int)-1)).2
theorem AU(g:GL)(h:g≠[]):∃p z,g=p++[z]:=⟨_,_,(List.dropLast_concat_getLast h).symm⟩
theorem mW(p:GL)(z:Int×aC)(t:aC):rG (p++[z]) t=p++[(z.1,t)]:=by unfold rG;simp[el]
theorem uF(p:GL)(z:Int×aC):Ea (p++[z])=z.2:=by unfold Ea;simp[el]
def JI(L:aC):η:= !(decide (L=[])|| !bR (Κ L 0))
def tr(a:Nat)(L:aC)(o:GL):GL:=
 if JI L=μ then(if cI L=[]then o else rG o (if Ea o=[]then cI L else Ea o++32::cI L))else o++[((a:Int),cI L)]
def JH(a:Nat)(L:aC)(q:δ aC×GL):δ aC×GL:=
 (if cI L=[]then(if JI L=μ then q.1 else [])else(if JI L=μ then q.1 else [])++[cI L],if JI L=μ then q.2 else(if q.2=[]then []else rG q.2 (cK q.1 [32]))++[((a:Int),[])])
def Bu(q:δ aC×GL):GL:=if q.2=[]then []else rG q.2 (cK q.1 [32])
theorem joinNe(f:δ aC)(a:∀x∈f,x≠[])(h:f≠[]):cK f [32]≠[]:=by
 cases f with
 |nil=>exact absurd Τ h
 |cons x r=>intro e;rw[Lib.join_cons]at e;exact a x gQ (tP.1 e).1
theorem X4(a:Nat)(L:aC)(q:δ aC×GL)(i:q.2≠[]\/JI L=ν)(d:∀x∈q.1,x≠[]):Bu (JH a L q)=tr a L (Bu q)/\(JH a L q).2≠[]/\∀x∈(JH a L q).1,x≠[]:=by
 obtain⟨f,g⟩:=q;unfold JH tr;cases l:JI L with
 |false=>
  have j:cK (if cI L=[]then []else []++[cI L]) [32]=cI L:=by
   by_cases h:cI L=[]
   ·rw[h];rfl
   ·rw[aA h,Ic,Lib.join_one]
  refine⟨?_,aA2,λx hx=> ?_⟩
  ·show Bu (_,Bu (f,g)++[((a:Int),[])])=Bu (f,g)++[((a:Int),cI L)];unfold Bu;rw[aA aA2,mW];simp only[pP,tL];rw[j]
  ·dsimp only at hx;simp only[pP,tL]at hx;by_cases h:cI L=[]
   ·rw[aB h]at hx;cases hx
   ·rw[aA h,Ic,rz]at hx;rw[hx];exact h
 |true=>
  have k:=i.elim id λh=>by rw[l]at h;cases h
  obtain⟨p,z,rfl⟩:=AU g k;have c:p++[z]≠[]:=aA2;simp only[eW];have e:∀f',Bu (f',p++[z])=p++[(z.1,cK f' [32])]:=λf'=>by unfold Bu;rw[aA c,mW]
  by_cases h:cI L=[]
  ·rw[aB h,aB h];exact⟨Τ,c,d⟩
  ·rw[aA h,aA h,e,e,uF,mW,Bj];refine⟨?_,c,λx hx=> ?_⟩
   ·by_cases b:f=[]
    ·rw[aB b,b,aB (show cK [] _=[]from Τ)]
    ·rw[aA b,aA (joinNe f d b)];rfl
   ·rcases aV.1 hx with hx|hx
    ·exact d x hx
    ·rw[rz]at hx;rw[hx];exact h
def xL:Nat->Nat->aC->δ (Nat×aC)
 |0,_,_=>[]
 |n+1,a,s=>if s=[]then []else match Kc s with
  |none=>[(a,s)]
  |some q=>(a,q.1)::xL n (a+(γ q.1+2)) q.2
theorem HI:∀(l:δ (Nat×aC)) (q:δ aC×GL),(q.2≠[]\/∀z,l.head? =θ z->JI z.2=ν)->(∀x∈q.1,x≠[])->Bu (l.foldl (λq z=>JH z.1 z.2 q) q)=l.foldl (λo z=>tr z.1 z.2 o) (Bu q)/\(l≠[]\/q.2≠[]->(l.foldl (λq z=>JH z.1 z.2 q) q).2≠[])
 |[],q,_,_=>⟨Τ,λh=>h.elim (λh=>absurd Τ h) id⟩
 |z::l,q,b,c=>by obtain⟨g,a,f⟩:=X4 z.1 z.2 q (b.imp id λh=>h z Τ) c;obtain⟨e,d⟩:=HI l _ (.inl a) f;exact⟨by rw[Gf,Gf,e,g],λ_=>d (.inr a)⟩
theorem rduN(L:aC)(f:δ aC)(g:GL)(a:Nat)(q:aL L<=100000)(p:a<=100000)(n:aL f<=a)(l:γ (cK f [32])<=a)(m:aL g<=a):
  rf FU a L f g=θ (0,(JH a L (f,g)).1,(JH a L (f,g)).2):=by
 have k:(if L=([]:aC)then θ μ else(gd (0<=(0:Int)/\(0:Int)<(aL L:Int))<|((eh FU (Κ L (0:Int))).bind λ(d:η)=>θ (!d))))=θ (!JI L):=by
  unfold JI;by_cases h:L=[]
  ·rw[aB h,aE h];rfl
  ·have:aL L≠0:=λe=>h (qR e);rw[aA h,aS aA0,bcq,aR,aD h,CI,NS]
 unfold rf JH;rw[k,aR];cases o:JI L with
 |true=>
  rw[eY,aG,aR,aS aA0,aS aA1,zK];simp only[eW];by_cases c:cI L=[]
  ·rw[aB c,aB c]
  ·rw[aA c,aA c,aS aA3]
 |false=>
  rw[oF,aM];simp only[pP,tL];have i:(if(0:Int)<(aL g:Int)then(gd (bJ ((aL g:Int)-(1:Int)))<|(gd (aL f<=1000000000/\γ (cK f ([32]:aC))<=100000000000)<|(gd (0<=((aL g:Int)-(1:Int))/\((aL g:Int)-(1:Int))<(aL g:Int))<|(gd (0<=((aL g:Int)-(1:Int))/\((aL g:Int)-(1:Int))<(aL g:Int))<|some (jH g (bL ((aL g:Int)-(1:Int))) ((el g ((aL g:Int)-(1:Int))).1,cK f ([32]:aC)))))))else θ g)=θ (if g=[]then []else rG g (cK f [32])):=by
   by_cases b:g=[]
   ·rw[aA (by rw[b];decide),aB b,b]
   ·have:aL g≠0:=λe=>b (qR e);rw[aB aA0,aA b,aS (bW _ aA0 aA0),aS aA0,aS aA0,aS aA0];rfl
  have j:γ (if g=[]then []else rG g (cK f [32]))<=100000:=by
   split
   ·exact cH _
   ·unfold rG;rw[gD];omega
  rw[i,aR,aS aA3,aS aA0,aR,aS aA0,aS aA1,zK,show eN _ f=[]from Τ];by_cases c:cI L=[]
  ·rw[aB c,aB c]
  ·rw[aA c,aA c,aS aA2]
abbrev XB(l:δ (Nat×aC))(q:δ aC×GL):δ aC×GL:=l.foldl (λq z=>JH z.1 z.2 q) q
theorem N2(T:aC)(C:aL T<=100000):∀(n a j:Nat) (f:δ aC) (g:GL),a<=aL T->aL T-a<n->aL T-a<j->aL f<=a->γ (cK f [32])<=a->aL g<=a->(∀z∈g,zB a z)->
  rq FU T j (a:Int) f g=θ ((XB (xL n a (T.drop a)) (f,g)).1,(XB (xL n a (T.drop a)) (f,g)).2,0)
 |0,a,j,_,_,_,h,_,_,_,_,_=>absurd h (YM _)
 |n+1,a,0,_,_,_,_,h,_,_,_,_=>absurd h (YM _)
 |n+1,a,j+1,f,g,M,L,K,s,p,r,A=>by
  have i:γ (T.drop a)=aL T-a:=dY;have b:=FN (T.drop a);rw[xL];by_cases t:(a:Int)<(aL T:Int)
  ·have o:T.drop a≠[]:=λe=>by rw[e,iH]at i;omega
   rw[aA o];cases m:Kc (T.drop a)with
   |none=>rw[m]at b;have b:cO (T.drop a) [13,10]= -1:=b;rw[aba,rr,aB t,aS aA0,gJ,aS aA0,b,aB aA0,aS aA0,rduN (T.drop a) f g a aA0 aA0 s p r,aR,aB rfl];rfl
   |some q=>
    rw[m]at b;have b:cO (T.drop a) [13,10]=(aL q.1:Int):=b;have c:=uH _ q.1 q.2 m;have l:=bA aL c;rw[i,cE,cM,cM]at l;have d:sub T (a:Int) ((a:Int)+(aL q.1:Int))=q.1:=by unfold sub;rw[gJ,show((a:Int)+(aL q.1:Int)).toNat-a=aL q.1 by omega,c,ZJ]
    have B:T.drop (a+(aL q.1+2))=q.2:=by rw[<-Gj,c,show q.1++13::10::q.2=(q.1++[13,10])++q.2 by simp,show γ q.1+2=γ (q.1++[13,10]) by simp,TH]
    have F:=rduN q.1 f g a aA0 aA0 s p r;obtain⟨f',u,v,J,I,H,y,G⟩:=Zd q.1 f g a aA0 aA0 s p r A;have E:=F.symm.trans v;have x:(JH a q.1 (f,g)).1=f'/\(JH a q.1 (f,g)).2=u:=by have:=aP E;exact⟨bA (λz=>z.2.1) this,bA (λz=>z.2.2) this⟩
    have w:=N2 T C n (a+(aL q.1+2)) j f' u aA0 aA0 aA0 aA0 aA0 aA0 (λz k=>(y z k).mono aA0);rw[B]at w;have D:JH a q.1 (f,g)=(f',u):=Prod.ext x.1 x.2;rw[aba,rr,aB t,aS aA0,gJ,aS aA0,b,aA aA0,aS (bW _ aA0 aA0),aS aA0,d,v,aR];dsimp only;rw[aB rfl,aS (bW _ aA0 aA0),aS (bW _ aA0 aA0),show((a:Int)+((aL q.1:Int)+2))=((a+(aL q.1+2):Nat):Int)by omega,w];show _=θ ((XB _ (JH a q.1 (f,g))).1,(XB _ (JH a q.1 (f,g))).2,0);rw[D]
  ·rw[aba,rr,aA t,aB (qR aA0)];rfl
abbrev og(l:δ (Nat×aC))(o:GL):GL:=l.foldl (λo z=>tr z.1 z.2 o) o
def OM(s:aC):GL×Int×ζ:=
 if s=[]then([],0,0)else if bR (Κ s 0)=μ then([],0,5)else match yY s with
  |some k=>([],k,5)
  |none=>if gN s=ν then([],aL s,6)else(og (xL (aL s+1) 0 s) [],0,0)
theorem S6(s L r:aC)(h:s=L++13::10::r):JI L=bR (Κ s 0):=by
 unfold JI;cases L with
 |nil=>rw[h];rfl
 |cons c L=>rw[aD aA2,CI,NS,h];rfl
theorem VZ(n a:Nat)(s:aC)(d:s≠[])(c:bR (Κ s 0)=ν):xL (n+1) a s≠[]/\∀z,(xL (n+1) a s).head? =θ z->JI z.2=ν:=by
 rw[xL,aA d];cases e:Kc s with
 |none=>refine⟨aA2,λz b=> ?_⟩;cases b;unfold JI;rw[aD d,CI,NS];exact c
 |some q=>refine⟨aA2,λz b=> ?_⟩;cases b;rw[S6 s q.1 q.2 (uH s q.1 q.2 e)];exact c
theorem D1(s:aC)(d:aL s<=100000):aoh FU s=θ (OM s):=by
 unfold aoh OM;by_cases a:s=[]
 ·rw[aB a,aB a]
 ·have p:aL s≠0:=λe=>a (qR e);rw[aA a,aA a,aS aA0,bcq,aR];cases l:bR (Κ s 0)with
  |true=>rfl
  |false=>
   rw[aA aA1,gr s d,aR];cases yY s with
   |some k=>exact bA (λz:Int=>θ (([]:GL),z,(5:ζ))) (show((0+k:Nat):Int)=(k:Int)by omega)
   |none=>
    rw[KP s aA0,aR];cases t:gN s with
    |false=>rfl
    |true=>
     have m:=N2 s d (aL s+1) 0 FU [] [] aA0 aA0 aA4 (cH _) (cH _) (cH _) (λz c=>(nomatch c));have f:rq FU s FU (0:Int) [] []=_:=m;obtain⟨o,n⟩:=VZ (γ s) 0 s a l;obtain⟨f1,f2⟩:=HI (xL (aL s+1) 0 s) ([],[]) (.inr n) (λx hx=>(nomatch hx));have f2:=f2 (.inl o);obtain⟨F,G,t1,t2,t3,t4,t5,t6⟩:=Zq s d (γ s) 0 FU [] [] aA0 aA0 aA4 (cH _) (cH _) (cH _) (λz c=>(nomatch c));have b:rq FU s FU (0:Int) [] []=θ (F,G,0):=t1;have i:=aP (f.symm.trans b);have h:(XB (xL (aL s+1) 0 s) ([],[]))=(F,G):=Prod.ext (bA (λz=>z.1) i) (bA (λz=>z.2.1) i);have g:G≠[]:=by have:=f2;rw[show(xL (aL s+1) 0 s).foldl (λq z=>JH z.1 z.2 q) ([],[])=(F,G)from h]at this;exact this
     have r:aL G≠0:=λe=>g (qR e);have j:asm FU s=θ s:=by kernel_rfl
     unfold acs;rw[j,aR,b,aR,aA (show¬(μ=ν)by decide)];dsimp only;rw[aS (bW _ aA0 aA0),aS aA0,aS aA0,aS aA0];have f1:Bu (XB (xL (aL s+1) 0 s) ([],[]))=og (xL (aL s+1) 0 s) (Bu ([],[])):=f1;rw[h]at f1;have f3:Bu ([],[])=[]:=Τ;rw[f3]at f1;rw[<-f1];show θ (rG G _,0,0)=θ _;unfold Bu;rw[aA g]
def DQ(s:aC)(n a:Nat)(o:GL):GL⊕(GL×Int×ζ):=match yY (s.drop a)with
 |some k=>.inr ([],((a+k:Nat)),5)
 |none=>if s.drop a≠[]/\gN (s.drop a)=ν then .inr ([],aL s,6)else .inl (og (xL n a (s.drop a)) o)
theorem UL(s:aC)(n a:Nat)(o:GL)(L r:aC)(h:Kc (s.drop a)=θ (L,r))(f:yY (s.drop a)=(yY r).map (·+(aL L+2)))(i:s.drop (a+(aL L+2))=r):DQ s (n+1) a o=DQ s n (a+(aL L+2)) (tr a L o):=by
 have c:=uH _ L r h;have d:s.drop a≠[]:=by rw[c];simp
 unfold DQ;rw[f,i];cases yY r with
 |some k=>show Sum.inr (_,((a+(k+(aL L+2)):Nat):Int),_)=Sum.inr (_,((a+(aL L+2)+k:Nat):Int),_);congr 3;omega
 |none=>
  show(if s.drop a≠[]/\gN _=ν then _ else Sum.inl _)=_;rw[xL,aA d,h];have g:gN (s.drop a)=(decide (r=[])||gN r):=by rw[c];exact XE L r
  by_cases b:r=[]
  ·rw[g,aE b,aA (λk=>by cases k.2),aA (λk=>k.1 b)];rfl
  ·rw[g,aD b];by_cases e:gN r=ν
   ·rw[aB ⟨d,e⟩,aB ⟨b,e⟩]
   ·rw[aA (λk=>e k.2),aA (λk=>e k.2)];rfl
theorem Yt(s:aC)(w:aL s<=100000):∀(n a i:Nat) (o:GL),a<=aL s->aL s-a<n->aL s-a<i->(s.drop a≠[]->(a=0/\bR (Κ s 0)=ν)\/(0<a/\o≠[]))->aL o<=a->(o≠[]->γ (Ea o)<=a)->
  aho FU s i o (a:Int)=θ (DQ s n a o)
 |0,a,i,_,_,h,_,_,_,_=>absurd h (YM _)
 |n+1,a,0,_,_,_,h,_,_,_=>absurd h (YM _)
 |n+1,a,i+1,o,X,h2,h3,y,I,H=>by
  have f:γ (s.drop a)=aL s-a:=dY;by_cases O:(a:Int)<(aL s:Int)
  ·have u:s.drop a≠[]:=λe=>by rw[e,iH]at f;omega
   have y:=y u;have S:(if(a:Int)=(0:Int)then(gd (0<=(0:Int)/\(0:Int)<(aL s:Int))<|((TA FU (Κ s (0:Int))).bind λ(j:η)=>θ j))else θ ν)=θ ν:=by
    rcases y with⟨K,C⟩|⟨K,C⟩
    ·rw[aB aA0,aS aA0,dt,aR,C]
    ·rw[aA aA0]
   have A:=Wr (s.drop a);rw[axd,alt,aB O,S,aR,aG,jh s w a X,aR];cases N:qK (s.drop a)with
   |inr q=>
    rw[N]at A;have J:vb a (.inr q)=(0,((a+q.1:Nat):Int),q.2):=Τ;rw[J];dsimp only;rcases A with⟨l,D⟩|⟨l,D,Q,P⟩
    ·rw[aA (by rw[l];decide)];unfold DQ;rw[D,l]
    ·rw[aA (by rw[l];decide)];unfold DQ;rw[Q,l,D,f];show _=θ (if s.drop a≠[]/\gN (s.drop a)=ν then _ else _);rw[aB ⟨u,Y3 _ P⟩,show a+(aL s-a)=aL s by omega]
   |inl k=>
    rw[N]at A;obtain⟨L,r,e1,e2,B,Z⟩:=A;subst e2;have G:=bA aL B;rw[f,cE,cM,cM]at G;have U:s.drop (a+(aL L+2))=r:=by rw[<-Gj,B,show L++13::10::r=(L++[13,10])++r by simp,show γ L+2=γ (L++[13,10]) by simp,TH]
    have J:vb a (.inl (γ L))=(((a+aL L:Nat):Int),0,0):=Τ;have m:sub s (a:Int) ((a+aL L:Nat):Int)=L:=by unfold sub;rw[gJ,gJ,show a+aL L-a=aL L by omega,B,ZJ]
    have g:bR (Κ s (a:Int))=JI L:=by rw[S6 _ L r B,Qm]
    have T:=Tp L;have d:((a+aL L:Nat):Int)+2=((a+(aL L+2):Nat):Int):=aA0;rw[UL s n a o L r e1 Z U,J];dsimp only;rw[aB rfl,aS ⟨aA0,aA0,aA0⟩,m,dx L aA0,aR,aS aA0,dt,aR,g];unfold tr;cases W:JI L with
    |false=>
     have M:∀t:aC,o++[((a:Int),t)]≠[]:=λt=>by simp
     rw[oF,aM,aS aA3,aS (bW _ aA0 aA0),d,aA aA1];exact Yt s w n (a+(aL L+2)) i _ aA0 aA0 aA0 (λ_=>.inr ⟨aA0,M _⟩) aA3 (λ_=>by rw[uF];dsimp only;omega)
    |true=>
     have b:0<a/\o≠[]:=by
      rcases y with⟨K,C⟩|c
      ·rw[K]at g;have:bR (Κ s 0)=μ:=g.trans W;rw[C]at this;cases this
      ·exact c
     have M:=H b.2;have V:aL o≠0:=λe=>b.2 (qR e);rw[eY,aG,aB rfl];by_cases v:cI L=[]
     ·rw[aB v,aB v,aS (bW _ aA0 aA0),d];exact Yt s w n (a+(aL L+2)) i o aA0 aA0 aA0 (λ_=>.inr ⟨aA0,b.2⟩) aA0 (λ_=>by omega)
     ·obtain⟨p,z,rfl⟩:=AU o b.2;have F:(el (p++[z]) ((γ (p++[z]):Int)-1)).2=Ea (p++[z]):=Τ;have E:∀t:aC,jH (p++[z]) (bL ((γ (p++[z]):Int)-1)) ((el (p++[z]) ((γ (p++[z]):Int)-1)).1,t)=rG (p++[z]) t:=λ_=>rfl
      rw[aA v,aA v,aS (bW _ aA0 aA0),aS aA0,aS aA0,F];have R:(if Ea (p++[z])=([]:aC)then θ (cI L)else(gd (0<=((γ (p++[z]):Int)-(1:Int))/\((γ (p++[z]):Int)-(1:Int))<(γ (p++[z]):Int))<|(gd (0<=((γ (p++[z]):Int)-(1:Int))/\((γ (p++[z]):Int)-(1:Int))<(γ (p++[z]):Int))<|(gd (γ (Ea (p++[z]))+γ ([32]:aC)<=9223372036854775807)<|(gd (γ ((Ea (p++[z]))++([32]:aC))+γ (cI L)<=9223372036854775807)<|some (((Ea (p++[z]))++([32]:aC))++(cI L)))))))=θ (if Ea (p++[z])=[]then cI L else Ea (p++[z])++32::cI L):=by
       by_cases x:Ea (p++[z])=[]
       ·rw[aB x,aB x]
       ·rw[aA x,aA x,aS aA0,aS aA0,aS aA3,aS aA3,jI];rfl
      rw[R,aR,aS aA0,aS aA0,aS (bW _ aA0 aA0),d,E,mW];refine Yt s w n (a+(aL L+2)) i _ aA0 aA0 aA0 (λ_=>.inr ⟨aA0,aA2⟩) (by simp at I⊢;omega) (λ_=> ?_);rw[uF];dsimp only;split
      ·omega
      ·rw[cE,cM];omega
  ·have Y:s.drop a=[]:=qR aA0;rw[axd,alt,aA O];unfold DQ;rw[Y];rfl
theorem yp(s:aC)(f:aL s<=100000):axz FU s=θ (OM s):=by
 unfold axz OM;by_cases a:s=[]
 ·subst a;kernel_rfl
 ·have i:aL s≠0:=λe=>a (qR e);rw[aA a];cases c:bR (Κ s 0)with
  |true=>
   have e:∀d,aho FU s (d+1) [] (0:Int)=θ (.inr ([],0,5)):=λd=>by rw[axd,alt,aB aA0,aB rfl,aS aA0,dt,aR,c];rfl
   have e':aho FU s FU [] (0:Int)=_:=e (FU-1);rw[e',aB rfl];rfl
  |false=>
   have g:=Yt s f (aL s+1) 0 FU [] aA0 aA0 aA4 (λ_=>.inl ⟨Τ,c⟩) (cH _) (λh=>absurd Τ h);have b:aho FU s FU [] (0:Int)=_:=g;rw[b,aR,aA aA1];unfold DQ;rw[NT];cases yY s with
   |some k=>show θ _=θ _;rw[Kh]
   |none=>
    dsimp only;cases j:gN s with
    |false=>rw[aB ⟨a,rfl⟩,aB rfl];rfl
    |true=>rw[aA (λk=>by cases k.2),aA aA1];rfl
theorem s4_lp(x:PU)(hx:aL x.1<=64)(q:jY):∀(p:jY) (b:Nat),x.1=p++q->aL q<b->asf FU (([]:aC),([]:aC),(0:Int),([]:aC),x.1,x.2) (([]:aC),([]:aC),(0:Int),([]:aC),x.1,x.2) b (aL p:Int)=θ (.inl ()):=by
 induction q with
 |nil=>intro p b h e;obtain⟨b,rfl⟩:=cB b;rw[bia,avq,aA (by dsimp only;rw[h];simp)]
 |cons a q f=>intro p b h e;obtain⟨b,rfl⟩:=cB b;have d:=bA aL h;simp only[cE,cM]at d e;have c:(0:Int)<=(aL p:Int)/\(aL p:Int)<(aL x.1:Int):=aA0;rw[bia,avq,aB c.2,aS c,aS c,aS c,aS c,aB rfl,aS (bW _ aU aU),show((aL p:Int)+1)=(γ (p++[a]):Int)by simp];exact f (p++[a]) b aA6 aU
theorem s5_eq(x:PU)(hx:aL x.1<=64):ase FU x x=θ μ:=by have b:=s4_lp x hx x.1 [] FU Τ aA4;have a:asf FU (([]:aC),([]:aC),(0:Int),([]:aC),x.1,x.2) (([]:aC),([]:aC),(0:Int),([]:aC),x.1,x.2) FU (0:Int)=θ (.inl ()):=b;unfold ase pM;dsimp only;rw[aB rfl,aB rfl,aB rfl,aB rfl,aB rfl,aE rfl,eY,aR,aG,a];rfl
theorem s5_lp(v:PL)(i:aL v<=8)(hx:∀x∈v,aL x.1<=64)(q:PL):∀(p:PL) (b:Nat),v=p++q->aL q<b->amk FU v v b (aL p:Int)=θ (.inl ()):=by
 induction q with
 |nil=>intro p b h e;obtain⟨b,rfl⟩:=cB b;rw[bau,apu,aA aA6]
 |cons a q f=>intro p b h e;obtain⟨b,rfl⟩:=cB b;have d:=bA aL h;simp only[cE,cM]at d e;have c:(0:Int)<=(aL p:Int)/\(aL p:Int)<(aL v:Int):=aA0;have g:el v (aL p:Int)=a:=aB2;rw[bau,apu,aB c.2,aS c,aS c,aS c,aS c,g,s5_eq a (hx a aA6),aR,eY,aG,aS (bW _ aU aU),show((aL p:Int)+1)=(γ (p++[a]):Int)by simp];exact f (p++[a]) b aA6 aU
theorem yl(v:PL)(b:aL v<=8)(hx:∀x∈v,aL x.1<=64):azo FU v v=θ μ:=by have c:=s5_lp v b hx v [] FU Τ aA4;have a:amk FU v v FU (0:Int)=θ (.inl ()):=c;unfold azo;rw[aB rfl,a,aR];rfl
open List renaming isPrefixOf → NX, length → aL
abbrev So:aC×aC:=([],[])
theorem XT(s:aC)(h:¬(gS s).2=0):(gS s).2=5:=by
 unfold gS at h⊢;split
 ·rfl
 ·rename_i c;rw[aA c]at h;split
  ·rename_i a;rw[aB a]at h;exact absurd Τ h
  ·rename_i a;rw[aA a]at h;obtain⟨r,b⟩:=bex _ bo;rw[bhn,b]at h⊢;cases r with
   |inl u=>exact absurd Τ h
   |inr q=>exact absurd (oP _ _ b).2 h
def nhP(nm v:aC):(aC×aC)×ζ:=
 if 1024<aL v then(So,4)else if(pQ nm v).2=0 then(if 1024<γ (pQ nm v).1 then(So,4)else((nm,(pQ nm v).1),0))else(So,(pQ nm v).2)
theorem zx(nm v:aC)(d:aL nm<=4194304):aje FU nm v=θ (nhP nm v):=by
 unfold aje nhP;by_cases c:1024<aL v
 ·rw[aB aA0,aB c]
 ·rw[aA aA0,aA c,U3 nm v d aA0,aR];by_cases a:(pQ nm v).2=0
  ·rw[aB a,aB a];by_cases b:1024<γ (pQ nm v).1
   ·rw[aB aA0,aB b]
   ·rw[aA aA0,aA b]
  ·rw[aA a,aA a]
def mC(i:Nat)(r:(aC×aC)×ζ):(aC×aC)×ζ:=if r.2=0/\64<=i then(So,4)else r
theorem rhd2(h:aC×aC)(i:Nat)(j:aL h.1<=4194304):bcy FU h i=θ (if(gS h.1).2=0 then mC i (nhP (gS h.1).1 h.2)else(So,5)):=by
 unfold bcy;rw[rO _ aA0,aR];by_cases a:(gS h.1).2=0
 ·have g:=Fl _ a;have c:=pE h.1 a;rw[aB a,aB a];unfold nhP;by_cases f:1024<aL h.2
  ·rw[aB aA0,aB f];unfold mC;rw[aA (λk=>absurd k.1 aA1)]
  ·rw[aA aA0,aA f,L4 _ _ aA0 (by rw[c]) aA0,aR];by_cases b:(pQ (gS h.1).1 h.2).2=0
   ·rw[aB b,aB b];by_cases e:1024<γ (pQ (gS h.1).1 h.2).1
    ·rw[aB aA0,aB e];unfold mC;rw[aA (λk=>absurd k.1 aA1)];rfl
    ·rw[aA aA0,aA e];unfold mC;by_cases d:64<=i
     ·rw[aE aA0,aB ⟨rfl,d⟩];rfl
     ·rw[aD aA0,aA (λk=>d k.2)];rfl
   ·rw[aA b,aA b];unfold mC;rw[aA (λk=>b k.1)]
 ·rw[aA a,aA a,XT _ a]
def iX(s:aC):(aC×aC)×ζ:=
 if cO s [58]= -1 then(So,5)else
  if(gS (Jl bR (s.take (cO s [58]).toNat))).2=0 then nhP (gS (Jl bR (s.take (cO s [58]).toNat))).1 (cI (s.drop ((cO s [58]).toNat+1)))else(So,5)
theorem Q1(s:aC)(e:aL s<=1000000):aqi FU s=θ (iX s):=by
 unfold aqi iX;rw[aS aA0,sU];by_cases b:cO s [58]= -1
 ·rw[aB b,aB b];rfl
 ·have f:=Zc bR (s.take (cO s [58]).toNat);have d:γ (s.take (cO s [58]).toNat)<=aL s:=by rw[iI];omega
  have g:γ (s.drop ((cO s [58]).toNat+1))<=aL s:=aB1;rw[aA b,aA b];dsimp only;rw[eY,aG,aS aA0,aS aA1,CY,IG _ aA0,aR];by_cases a:(gS (Jl bR (s.take (cO s [58]).toNat))).2=0
  ·have c:=Fl _ a;rw[aB a,aB a,aS (by show(s.drop ((cO s [58]).toNat+1)).length<=_;omega),aS aA1,zK,zx _ _ aA0,aR];rfl
  ·rw[aA a,aA a]
theorem T0:∀s:aC,cO s [58]=if cD (λc=> !(c==58)) s=aL s then-1 else(cD (λc=> !(c==58)) s:Int)
 |[]=>rfl
 |c::l=>by
  rw[qm,T0 l];by_cases h:c=58
  ·subst h;have e:cD (λc=> !(c==58)) (58::l)=0:=Τ;rw[aB (show NX [58] (58::l)=μ from Τ),e,aA aA2];rfl
  ·have d:(!(c==58))=μ:=by simpa using h
   have b:=Kf (λc=> !(c==58)) l;have e:cD (λc=> !(c==58)) (c::l)=cD (λc=> !(c==58)) l+1:=by rw[cD,aB d]
   rw[aA (by simp[NX];exact λe=>h e.symm),e,cM];by_cases a:cD (λc=> !(c==58)) l=aL l
   ·rw[aB a,aB rfl,aB (by rw[a])]
   ·rw[aA a,aA aA0,aA aA0];rfl
theorem gx(s:aC)(k:Nat)(h:k<=cD (λc=> !(c==58)) s):cD (λc=> !(c==58)) s=k+cD (λc=> !(c==58)) (s.drop k):=by
 induction k generalizing s with
 |zero=>rw[NT];omega
 |succ k b=>
  cases s with
  |nil=>simp[cD]at h
  |cons c l=>
   rw[cD]at h⊢;by_cases a:(!(c==58))=μ
   ·rw[aB a]at h⊢;have:=b l aA0;rw[Hy];omega
   ·rw[aA a]at h;omega
def U0(s:aC):Prop:=∀c,s.head? =θ c->bR c=ν
theorem TV(s:aC)(h:U0 s)(k:Nat):cI (s.take k)=Jl bR (s.take k):=by
 unfold cI;cases s with
 |nil=>rw[List.take_nil];rfl
 |cons c l=>
  cases k with
  |zero=>rfl
  |succ k=>rw[sd,Hz,h c rfl];rfl
def rlS(i:Nat)(s:aC):Unit⊕((aC×aC)×ζ):=if cO s [58]= -1 then .inl ()else .inr (mC i (iX s))
theorem DS(s:aC)(p:aL s<=1000000)(l:U0 s)(i:Nat):∀(n k b:Nat),k+n=aL s->n<b->(k<=cD (λc=> !(c==58)) s)->asd FU s (i:Int) b (k:Int)=θ (rlS i s)
 |n,k,0,_,h,_=>absurd h (YM _)
 |0,k,b+1,w,v,m=>by have q:=Kf (λc=> !(c==58)) s;rw[bhz,avo,aA aA0];unfold rlS;rw[aB (by rw[T0,aB aA0])]
 |n+1,k,b+1,w,v,m=>by
  have j:=yZ s k aA0;have a:=gx s k m;rw[j,cD]at a;rw[bhz,avo,aB aA0,aS aA0];by_cases d:Κ s (k:Int)=58
  ·have r:cD (λc=> !(c==58)) s=k:=by rw[aA (by rw[d];decide)]at a;omega
   have g:cO s [58]=(k:Int):=by rw[T0,aA aA0,r]
   have x:γ (s.take k)<=1000000:=aB3;have t:γ (s.drop (k+1))<=1000000:=aB1;have o:=Tp (s.take k);rw[aB d,aS aA0,gJ,dx _ aA0,aR,aS (bW _ aA0 aA0),aS aA0,mL,gJ,dx _ aA0,aR,rhd2 (cI (s.take k),cI (s.drop (k+1))) i (by show(cI (s.take k)).length<=_;omega),aR];have e:rlS i s=.inr (mC i (if(gS (Jl bR (s.take k))).2=0 then nhP (gS (Jl bR (s.take k))).1 (cI (s.drop (k+1)))else(So,5))):=by unfold rlS iX;rw[g,aA aA0,aA aA0,gJ]
   rw[e,TV s l k];dsimp only;by_cases f:(gS (Jl bR (s.take k))).2=0
   ·rw[aB f,aB f]
   ·rw[aA f,aA f];unfold mC;rw[aA (λk=>absurd k.1 aA1)]
  ·have u:(!(Κ s (k:Int)==58))=μ:=by simpa using d
   rw[aB u]at a;rw[aA d,aS (bW _ aA0 aA0),mL];exact DS s p l i n (k+1) b aA0 aA0 aA0
theorem I2(s:aC)(c:aL s<=1000000)(d:U0 s)(i:Nat):bdn FU s i=θ (mC i (iX s)):=by
 have f:=DS s c d i (γ s) 0 FU aA0 aA4 (cH _);have b:asd FU s i FU 0=_:=f;unfold bdn;rw[b];unfold rlS;by_cases a:cO s [58]= -1
 ·have e:iX s=(So,5):=by unfold iX;rw[aB a]
  rw[aB a,e];rfl
 ·rw[aA a];rfl
theorem gb(s:aC):U0 (cI s):=by
 intro c a;cases f:bR c with
 |false=>rfl
 |true=>
  exfalso;have e:=tT s;cases b:cI s with
  |nil=>rw[b]at a;cases a
  |cons d l=>
   rw[b]at a e;cases a;have h:cI (c::l)=Jl bR (l.dropWhile bR):=by unfold cI;rw[Hz,f];rfl
   have j:=Zc bR (l.dropWhile bR);have i:=avm bR l;have g:=bA aL e;rw[h,cM]at g;omega
def NH(g:GL):Prop:=∀z∈g,U0 z.2
theorem yu(a:Nat)(L:aC)(o:GL)(h:NH o):NH (tr a L o):=by
 have g:=gb L;unfold tr;split
 ·split
  ·exact h
  ·by_cases i:o=[]
   ·subst i;intro z e;cases e
   ·obtain⟨p,z,rfl⟩:=AU o i;rw[mW,uF];intro x hx;rcases aV.1 hx with hx|hx
    ·exact h x (Gi _ hx)
    ·rw[rz]at hx;rw[hx];have e:=h z aA2;by_cases f:z.2=[]
     ·rw[aB f];exact g
     ·rw[aA f];intro c j;cases b:z.2 with
      |nil=>exact absurd b f
      |cons d l=>rw[b]at j;cases j;exact e _ (by rw[b];rfl)
 ·intro x hx;rcases aV.1 hx with hx|hx
  ·exact h x hx
  ·rw[rz]at hx;rw[hx];exact g
theorem RN:∀l o,NH o->NH (og l o)
 |[],o,h=>h
 |z::l,o,h=>RN l _ (yu z.1 z.2 o h)
theorem uf_hd(s:aC):NH (OM s).1:=by
 have a:NH []:=λz b=>by cases b
 unfold OM;split
 ·exact a
 ·split
  ·exact a
  ·split
   ·exact a
   ·split
    ·exact a
    ·exact RN _ _ a
theorem D0(s:aC)(a:aL s<=100000):(0<=(OM s).2.1/\(OM s).2.1<=200000)/\γ (OM s).1<=200000/\∀z∈(OM s).1,zB 200000 z:=by obtain⟨r,b,c⟩:=fz s a;rw[D1 s a]at b;cases b;exact c
abbrev zw:PU:=([],[])
def YQ:GL->jY->jY⊕(PU×Int×ζ)
 |[],a=>.inl a
 |z::l,a=>if(mC (γ a) (iX z.2)).2=0 then YQ l (a++[(iX z.2).1])else .inr (zw,z.1,(mC (γ a) (iX z.2)).2)
theorem QT{r:(aC×aC)×ζ}(h:(mC m r).2=0):mC m r=r/\r.2=0/\m<64:=by
 unfold mC at h⊢;split at h
 ·exact absurd h aA1
 ·rename_i k;rw[aA k];refine⟨Τ,h,?_⟩;by_cases a:64<=m
  ·exact absurd ⟨h,a⟩ k
  ·omega
theorem pN_lp(u:GL×Int×ζ)(s:aL u.1<=200000)(m:∀z∈u.1,zB 200000 z)(q:GL):∀(p:GL) (b:Nat) (a:jY),u.1=p++q->aL q<b->aL a=aL p->aL a<=64->
  agx FU u b (aL p:Int) a=θ (YQ q a):=by
 induction q with
 |nil=>intro p b a h j r i;obtain⟨b,rfl⟩:=cB b;rw[ary,aih,aA aA6];rfl
 |cons z q l=>
  intro p b a h j r i;obtain⟨b,rfl⟩:=cB b;have f:=bA aL h;simp only[cE,cM]at f j;have g:(0:Int)<=(aL p:Int)/\(aL p:Int)<(aL u.1:Int):=aA0;have o:el u.1 (aL p:Int)=z:=aB2;have n:((aL p:Int)+1)=(γ (p++[z]):Int):=aA2;have d:=m z aA6;rw[ary,aih,aB g.2,aS g,aS g,o,Q1 _ (by have:=d.1;omega),aR,YQ];by_cases c:(iX z.2).2=0
  ·rw[aB c];by_cases t:aL a=64
   ·have e:mC (γ a) (iX z.2)=(So,4):=by unfold mC;rw[aB ⟨c,aA0⟩]
    rw[aE aA0,e];rfl
   ·have e:mC (γ a) (iX z.2)=iX z.2:=by unfold mC;rw[aA (λk=>by omega)]
    rw[aD aA0,e,aB c,aR,aG,aR,aB c,aS aA3,aS (bW _ aA0 aA0),n];exact l (p++[z]) b _ aA6 aA0 aA3 aA3
  ·have e:mC (γ a) (iX z.2)=iX z.2:=by unfold mC;rw[aA (λk=>c k.1)]
   rw[aA c,e,aA c,aR,aG,aR,aA c]
theorem yq(u:GL×Int×ζ)(s:aL u.1<=200000)(l:∀z∈u.1,zB 200000 z)(n:NH u.1)(q:GL):∀p b a,u.1=p++q->aL q<b->aL a=aL p->aL a<=64->
  amj FU u b (γ p) a=θ (YQ q a):=by
 induction q with
 |nil=>intro p b a h j d g;obtain⟨b,rfl⟩:=cB b;rw[baq,apr,aA aA6];rfl
 |cons z q k=>
  intro p b a h j d g;obtain⟨b,rfl⟩:=cB b;have f:=bA aL h;simp at f j;have c:(0:Int)<=(aL p:Int)/\(aL p:Int)<(aL u.1:Int):=aA0;have o:el u.1 (aL p:Int)=z:=aB2;have m:((aL p:Int)+1)=(γ (p++[z]):Int):=aA2;have i:z∈u.1:=aA6;rw[baq,apr,aB c.2,aS c,aS c,o,I2 _ (by have:=(l z i).1;omega) (n z i),aR,YQ,<-d];by_cases e:(mC (γ a) (iX z.2)).2=0
  ·obtain⟨r,v,t⟩:=QT e;rw[aB e,aB e,r,aS aA3,aS (bW _ aA0 aA0),d,m];exact k _ b _ aA6 aA0 aA3 aA3
  ·rw[aA e,aA e,aS (by rw[d];exact c),aS (by rw[d];exact c)]
def QJ(body:aC):jY⊕(PU×Int×ζ)->PU×Int×ζ
 |.inl l=>((l,body),0,0)
 |.inr q=>q
def QI(u:GL×Int×ζ)(body:aC):PU×Int×ζ:=if u.2.2=0 then QJ body (YQ u.1 [])else(zw,u.2.1,u.2.2)
def vU(s:aC):PU×Int×ζ:=
 if jF s [13,10]=μ then(([],eH s [13,10]),0,0)
 else if cO s [13,10,13,10]= -1 then(zw,0,5)
 else QI (OM (s.take (cO s [13,10,13,10]).toNat++[13,10])) (s.drop ((cO s [13,10,13,10]).toNat+4))
theorem idx4(s:aC):cO s [13,10,13,10]= -1\/∃i:Nat,cO s [13,10,13,10]=i/\i+4<=aL s/\Ib s [13,10,13,10] i=μ/\∀j,j<i->Ib s [13,10,13,10] j=ν:=by
 rcases Lib.index_spec s _ with⟨h,_⟩|⟨i,c,d,a,b⟩
 ·exact .inl h
 ·refine .inr ⟨i,c,?_,a,b⟩;rcases Lib.occAt_room a with k|k
  ·exact k
  ·cases k
theorem N4(s:aC)(l:aL s<=90000):(0<=(vU s).2.1/\(vU s).2.1<=200000)/\γ (vU s).1.1<=64:=by
 have z:(0:Int)<=0/\(0:Int)<=200000:=⟨eZ _,aA1⟩;unfold vU;split
 ·exact⟨z,cH _⟩
 ·split
  ·exact⟨z,cH _⟩
  ·have j:γ (s.take (cO s [13,10,13,10]).toNat++[13,10])<=100000:=by rw[cE];simp;omega
   obtain⟨c,f,b⟩:=D0 _ j;unfold QI;generalize OM _=u at c f b⊢;split
   ·have key:∀(g:GL) (a:jY),(∀z∈g,zB 200000 z)->aL a<=64->(0<=(QJ (s.drop ((cO s [13,10,13,10]).toNat+4)) (YQ g a)).2.1/\(QJ (s.drop ((cO s [13,10,13,10]).toNat+4)) (YQ g a)).2.1<=200000)/\γ (QJ (s.drop ((cO s [13,10,13,10]).toNat+4)) (YQ g a)).1.1<=64:=by
     intro g;induction g with
     |nil=>intro a _ e;exact⟨z,e⟩
     |cons x g h=>
      intro a d e;rw[YQ];split
      ·rename_i k;have:=(QT k).2.2;exact h _ (λy i=>d y (fB _ i)) aA3
      ·have:=d x gQ;exact⟨⟨this.2.1,this.2.2⟩,cH _⟩
    exact key u.1 [] b (cH _)
   ·exact⟨c,cH _⟩
theorem N5(s:aC)(i:aL s<=90000):aqh FU s=θ (vU s):=by
 unfold aqh vU;cases jF s _ with
 |true=>rfl
 |false=>
  rw[aG,aA aA1,aS aA0,sU];by_cases a:cO s [13,10,13,10]= -1
  ·rw[aB a,aB a];rfl
  ·have f:γ (s.take (cO s [13,10,13,10]).toNat++[13,10])<=100000:=by rw[cE];simp;omega
   obtain⟨g,e,d⟩:=D0 _ f;rw[aA a,aA a];rw[eY,aG,aS (by rw[iI];simp;omega),D1 _ f,aR];unfold QI;generalize OM _=u at g e d⊢;by_cases b:u.2.2=0
   ·have h:=pN_lp u e d u.1 [] FU [] Τ aA4 Τ (cH _);have c:agx FU u FU 0 []=_:=h;rw[aB b,aB b,c];cases YQ u.1 []<;>rfl
   ·rw[aA b,aA b]
theorem KS(s:aC)(d:aL s<=90000)(m:Nat)(f:m<=aL s)(c:m<aL s->Ib s [13,10,13,10] m=μ)(b:∀j,j<m->Ib s [13,10,13,10] j=ν):∀(n k a:Nat),k+n=m->n<a->ajy FU s a (k:Int)=θ (m:Int)
 |n,k,0,_,h=>absurd h (YM _)
 |0,k,a+1,h,i=>by
  have e:k=m:=aA0;subst e;rw[bar,aps];by_cases g:k<aL s
  ·rw[aB aA0,xD s _ k aA0 aA1 aA0 (λh=>by cases h),aR,c g];rfl
  ·rw[aA aA0];rfl
 |n+1,k,a+1,h,i=>by rw[bar,aps,aB aA0,xD s _ k aA0 aA1 aA0 (λh=>by cases h),aR,b k aA0,oF,aR,aM,aS (bW _ aA0 aA0),mL];exact KS s d m f c b n (k+1) a aA0 aA0
theorem G9(s:aC)(p:aL s<=90000):bdm FU s=θ (vU s):=by
 have z:=xD s [13,10] 0 aA0 aA1 aA1 (λh=>by cases h);have k:XZ FU s (0:Int) [13,10]=θ (jF s [13,10]):=z;unfold bdm vU;rw[k,aR];cases q:jF s [13,10]with
 |true=>obtain⟨r,w⟩:=Ae _ _ q;have b:=bA aL w;rw[cE,show([13,10]:aC).length=2 from Τ]at b;rw[aM,aB rfl,aS aA0];unfold eH;rw[q];rfl
 |false=>
  rw[aG,aA aA1];rcases idx4 s with c|⟨i,c,B,o,v⟩
  ·have e:∀j,j<aL s->Ib s [13,10,13,10] j=ν:=λj C=>by
    rcases Lib.index_spec s [13,10,13,10]with⟨_,h⟩|⟨i,h,_⟩
    ·exact h j aA0
    ·rw[c]at h;omega
   have g:=KS s p (γ s) (dK _) (λh=>absurd h (Nat.lt_irrefl _)) e (γ s) 0 FU (Kh _) aA4;have a:ajy FU s FU (0:Int)=_:=g;rw[a,aR,aB rfl,aB c]
  ·have g:=KS s p i aA0 (λ_=>o) v i 0 FU (Kh _) aA4;have a:ajy FU s FU (0:Int)=_:=g;have A:s.take (i+2)=s.take i++[13,10]:=by obtain⟨Z,x⟩:=Ri.1 (show NX [13,10,13,10] (s.drop i)=μ from o);rw[List.take_add,<-x];rfl
   have b:γ (s.take i++[13,10])<=100000:=by rw[cE,iI];simp;omega
   obtain⟨t,n,m⟩:=D0 _ b;have l:=uf_hd (s.take i++[13,10]);rw[a,aR,aA aA0,c,aA aA0,aS (bW _ aA0 aA0),aS aA0,show((i:Int)+2)=((i+2:Nat):Int)by omega,show((i:Int)+4)=((i+4:Nat):Int)by omega,gJ,gJ,gJ,A,yp _ b,aR];unfold QI;generalize OM _=u at t n m l⊢;by_cases d:u.2.2=0
   ·have y:=yq u n m l u.1 [] FU [] Τ aA4 Τ (cH _);have f:amj FU u FU (0:Int) []=_:=y;rw[aB d,aB d,aS (bW _ aA0 aA0),aS aA0,f,aR];cases YQ u.1 []<;>rfl
   ·rw[aA d,aA d]
theorem MY:bfn FU=θ μ:=by kernel_rfl
abbrev SR:=PL×Int×ζ
theorem tm(T y:aC)(u:γ T<=8192)(m:γ y<=70):∀(n g:Nat) (l:PL) (a e:Nat) (b:η),8-γ l<=n->n+1<g->γ l<=8->a<=γ T->e<=γ T->(∀x∈l,γ x.1<=64)->
  ∃(r:(PL×Int×Int×η)⊕SR) (q:PL⊕SR) (z:SR),ano FU T y g l (a:Int) (e:Int) b=θ r/\apt FU T y g (a:Int) (e:Int) b l=θ q/\
   dA (λ(v:PL×Int×Int×η)=>θ ((v.1,(0:Int),(0:ζ)):SR)) (λq=>θ q) r=θ z/\dA (λ(v:PL)=>θ ((v,(0:Int),(0:ζ)):SR)) (λq=>θ q) q=θ z/\γ z.1<=8/\∀x∈z.1,γ x.1<=64
 |n,0,_,_,_,_,_,h,_,_,_,_=>absurd h (YM _)
 |n,g+1,l,a,e,b,G,F,w,E,p,o=>by
  have c:∀x∈([]:PL),γ x.1<=64:=λx hx=>by cases hx
  rw[bet,arz,bgq,atn];cases b with
  |true=>exact⟨_,_,_,Τ,Τ,Τ,Τ,w,o⟩
  |false=>
   rw[oF,aM,aM];by_cases j:(γ l:Int)=8
   ·rw[aB j,aB j];exact⟨_,_,_,Τ,Τ,Τ,Τ,cH _,c⟩
   ·rw[aA j,aA j,P0 T y aU aU e p,H9 T y aU m e p,aR,aR];cases t:dh T y e with
    |none=>exact⟨_,_,_,Τ,Τ,Τ,Τ,cH _,c⟩
    |some d=>
     obtain⟨i,A,d1,d2,d3,d4⟩:=O4 T y e d t;have f:γ (sub T (e:Int) (max ((i:Int)-2) (e:Int)))<=90000:=by unfold sub;rw[iI,dY];omega
     obtain⟨D,s⟩:=N4 _ f;have C:ndR (θ d)=(d,μ):=Τ;have B:nxR (θ d)=d:=Τ;rw[C,B];dsimp only;rw[eY,aG,d1,d2,aA aU,aS ⟨aA0,aA0⟩,aS aU,aS ⟨aA0,aA0⟩,aS aU,Int.max_comm (e:Int) ((i:Int)-2),N5 _ f,G9 _ f,aR,aR];by_cases k:(vU (sub T (e:Int) (max ((i:Int)-2) (e:Int)))).2.2=0
     ·rw[aB k,aB k,aS aU,aS aU];exact tm T y u m (n-1) g (l++[(vU (sub T (e:Int) (max ((i:Int)-2) (e:Int)))).1]) i A _ aA3 aU aA3 d3 d4 (λx hx=>by
       rcases aV.1 hx with hx|hx
       ·exact o x hx
       ·rw[rz]at hx;rw[hx];exact s)
     ·rw[aA k,aA k,aS (bW _ aU aU),aS (bW _ aU aU)];exact⟨_,_,_,Τ,Τ,Τ,Τ,cH _,c⟩
theorem sr_eq(b:δ ζ)(y:aC)(h:γ y<=9223372036854775807):∃z:SR,asw FU b y=θ z/\bat FU b y=θ z/\γ z.1<=8/\∀x∈z.1,γ x.1<=64:=by
 have a:∀x∈([]:PL),γ x.1<=64:=λx hx=>by cases hx
 unfold asw bat;rw[bdN_eq y h,yz y h,aR,aR];cases e:(jG y&&decide (γ y<=70))with
 |false=>exact⟨_,Τ,Τ,cH _,a⟩
 |true=>
  rw[lX,aX]at e;rw[eY,aG,aG];by_cases c:(8192:Int)<(γ b:Int)
  ·rw[aB c,aB c];exact⟨_,Τ,Τ,cH _,a⟩
  ·have d1:=P0 b y aU aU 0 (cH _);have g:aes FU b (0:Int) y=_:=d1;have d2:=H9 b y aU e.2 0 (cH _);have f:ava FU b (0:Int) y=_:=d2;rw[aA c,aA c,g,f,aR,aR];cases o:dh b y 0 with
   |none=>exact⟨_,Τ,Τ,cH _,a⟩
   |some d=>
    obtain⟨B,v,u,t,s,p⟩:=O4 b y 0 d o;have A:ndR (θ d)=(d,μ):=Τ;have w:nxR (θ d)=d:=Τ;rw[A,w];dsimp only;rw[eY,aG,u,t,aA aU];cases C:d.2.2 with
    |true=>exact⟨_,Τ,Τ,cH _,a⟩
    |false=>obtain⟨r,q,z,n,m,l,k,j,i⟩:=tm b y aU e.2 8 FU [] B v ν aA2 aA4 (cH _) s p a;rw[aG,aG,n,m,aR,aR];exact⟨z,l,k,j,i⟩
theorem xH(b:δ ζ)(y:aC)(a:γ y<=9223372036854775807):aow FU b y=θ μ:=by obtain⟨z,f,e,d,c⟩:=sr_eq b y a;unfold aow;rw[f,aR,e,aR,yl z.1 d c,aB rfl,aB rfl,MY];rfl
end Go.Wk
