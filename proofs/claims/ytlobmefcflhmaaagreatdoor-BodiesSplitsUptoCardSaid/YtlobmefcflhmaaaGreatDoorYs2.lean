/-
  The law BodiesSplits holds (part 2 of 9).
-/
import Derived.Test.YtlobmefcflhmaaaGreatDoorYs1
import Derived.Lib.SplitLaws
import Derived.Lib.Split
open Bool renaming false → ν, true → μ
open Go renaming Addr → Γ, IntKind → Ε, Oper → Α, Operand → χ, Program → Β, TypeId → ω, Value → ξ, World → ο, execOp → ς
open Go.Utf8 renaming encode → ψ
open Go.Value renaming int → Δ, pointer → φ, slice → π
open List renaming flatMap → Η, length → γ
open Option renaming none → ι, some → θ
set_option linter.constructorNameAsVariable false
set_option linter.unusedSimpArgs false
set_option linter.unusedVariables false
def _root_.Go.Wk.bE{σ ρ:Type}(f:(σ->ε ρ)->σ->ε ρ):Nat->σ->ε ρ
 |0,_=>ι
 |n+1,v=>f (Go.Wk.bE f n) v
namespace Go.Px
open Go.Wk
def cJ(c:ζ):δ ζ->δ (δ ζ)
 |[]=>[[]]
 |b::l=>if b=c then []::cJ c l else match cJ c l with|x::r=>(b::x)::r|[]=>[[b]]
theorem Dh(c:ζ):∀l,cJ c l≠[]
 |[]=>by simp[cJ]
 |b::l=>by unfold cJ;split;simp;split<;>simp
theorem wY(c:ζ):∀(s:δ ζ) (k:Nat),s.count c<=k->Lib.splitK [c] 0 k s=cJ c s
 |[],k,_=>by cases k<;>simp[Lib.splitK,Lib.index,cJ]
 |b::l,k,h=>by
  by_cases a:b=c
  ·subst a;obtain⟨k,rfl⟩:∃j,k=j+1:=⟨k-1,by simp at h;omega⟩;have d:=wY b l k (by simp at h;omega);simp[Lib.splitK,Lib.index,cJ,d]
  ·have g:(b::l).count c=l.count c:=by simp[List.count_cons,a]
   rw[g]at h;have d:=wY c l k h;unfold cJ;rw[aA a,<-d];cases k with
   |zero=>simp[Lib.splitK]
   |succ k=>
    have f:Lib.index (b::l) [c]=if Lib.index l [c]== -1 then-1 else Lib.index l [c]+1:=by
     conv=>lhs;unfold Lib.index
     rw[aA (by simp;exact λh=>a h.symm)]
    have n:=Lib.index_ge l [c];unfold Lib.splitK;rw[f];by_cases e:Lib.index l [c]= -1
    ·simp[e]
    ·have m:¬(Lib.index l [c]+1)= -1:=by omega
     have i:(Lib.index l [c]+1).toNat=(Lib.index l [c]).toNat+1:=aA0;simp[e,m,i]
theorem UA(s:δ ζ)(c:ζ):(Lib.splitB ⟨#[c]⟩ 0 (Lib.countB ⟨s.toArray⟩ ⟨#[c]⟩) ⟨s.toArray⟩).map Value.string=(cJ c s).map str:=by have h:=Lib.splitB_data ⟨#[c]⟩ 0 (Lib.countB ⟨s.toArray⟩ ⟨#[c]⟩) ⟨s.toArray⟩;have e:Lib.splitK [c] 0 (Lib.countB ⟨s.toArray⟩ ⟨#[c]⟩) s=cJ c s:=wY c s _ (Nat.le_of_eq (Lib.count_one c s).symm);have a:(Lib.splitB ⟨#[c]⟩ 0 (Lib.countB ⟨s.toArray⟩ ⟨#[c]⟩) ⟨s.toArray⟩).map (·.data.toList)=cJ c s:=h.trans e;rw[<-a,lK];refine List.map_congr_left λx _=> ?_;rfl
theorem Sd(s:δ ζ)(c:ζ):Lib.countB ⟨s.toArray⟩ ⟨#[c]⟩+1=γ (cJ c s):=by
 have:∀s:δ ζ,s.count c+1=γ (cJ c s):=by
  intro s;induction s with
  |nil=>rfl
  |cons b l d=>
   unfold cJ;by_cases a:b=c
   ·subst a;simp;omega
   ·rw[aA a];have e:(b::l).count c=l.count c:=by simp[List.count_cons,a]
    rw[e,d];split
    ·rename_i h;rw[h];simp
    ·rename_i h;exact absurd h (Dh c l)
 show Lib.count s [c]+1=_;rw[Lib.count_one,this]
theorem pz(c:ζ):∀s:δ ζ,γ (cJ c s)<=γ s+1/\∀x∈cJ c s,γ x<=γ s
 |[]=>by simp[cJ]
 |b::l=>by
  have d:=pz c l;unfold cJ;split
  ·simp;exact⟨d.1,λx hx=>by have:=d.2 x hx;omega⟩
  ·split
   ·rename_i x r h;rw[h]at d;simp at d⊢;exact⟨aA0,aA0,λa e=>by have:=d.2.2 a e;omega⟩
   ·simp
variable{w:ο}
theorem H4(a:Γ)(b:δ (δ ζ))(h:Rd w (θ a) (b.map str)):∀(j:Nat) x,(b.map λl=>(⟨l.toArray⟩:ByteArray))[j]? =θ x->w.cell? (a.add j)=θ (.string x):=by intro j x hx;simp only[bD,bU]at hx;obtain⟨l,c,rfl⟩:=hx;obtain⟨p,e,d⟩:=h j (str l) (by simp[c]);cases e;exact d
theorem jk{p:Γ}{v:ξ}(h:w.cell? p=θ v):p.spot=ι:=by
 unfold World.cell? at h;split at h
 ·by_cases a:p.spot.isSome=μ
  ·simp[a]at h
  ·simpa using a
 ·simp at h
theorem av(sep:δ ζ)(m:Nat):∀b:δ (δ ζ),(∀x∈b,γ x<=m)->γ (Lib.join b sep)<=γ b*(m+γ sep)
 |[],_=>by simp[Lib.join_nil]
 |x::r,h=>by
  rw[Lib.join_cons];have f:γ (Lib.joinTail sep r)<=γ r*(m+γ sep):=by
   have a:∀y∈r,γ y<=m:=λy c=>h y (kX _ c);clear h;induction r with
   |nil=>simp[Lib.joinTail]
   |cons y r d=>have:=d (λz e=>a z (kX _ e));have c:=a y aA2;simp only[Lib.joinTail,oA,List.flatten_cons,Rh,dH,kW,Nat.one_mul]at*;omega
  have hx:=h x aA2;rw[Rh,dH,kW,Nat.one_mul];omega
def qM(g:δ ζ):η:=decide (1<=γ g)&&decide (γ g<=4)&&g.all fW
def jL(g:δ ζ):δ ζ:=if Lib.trimLeftS (LM g) [48]=[]then [48]else Lib.trimLeftS (LM g) [48]
theorem Bm(g:δ ζ)(h:qM g=μ):γ (jL g)<=4:=by
 unfold qM at h;simp only[yQ,aX]at h;unfold jL;split
 ·simp
 ·have:=vR (LM g) [48];simp at this;omega
def zA(s:δ ζ):δ (δ ζ)×η:=if(cJ 58 s).all qM then((cJ 58 s).map jL,μ)else([],ν)
theorem bjx(s:δ ζ):γ (zA s).1<=γ s+1/\∀x∈(zA s).1,γ x<=4:=by
 have h:=pz 58 s;unfold zA;split
 ·rename_i b;refine⟨by simp;exact h.1,λx hx=> ?_⟩;simp at hx;obtain⟨y,a,rfl⟩:=hx;exact Bm y (aT.1 b y a)
 ·simp
variable{a:Type}
theorem el_app[Inhabited a](c b:δ a)(k:Nat)(h:γ c=k):el (c++b) (k:Int)=el b 0:=by subst h;simp only[el,tQ,bH];rw[aO (qB _)];simp
theorem Y5[Inhabited a](l:δ a)(k:Nat):el (l.drop k) 0=el l (k:Int):=by simp[el]
def XV(X:δ (δ ζ))(k:Nat):δ (δ ζ):=List.map jL (List.take k X)++List.drop k X
theorem MC(X:δ (δ ζ))(k:Nat)(h:k<=γ X):γ (XV X k)=γ X:=by simp[XV];omega
theorem GZ(X:δ (δ ζ)):XV X 0=X:=by simp[XV]
theorem MD(X:δ (δ ζ)):XV X (γ X)=X.map jL:=by simp[XV]
theorem U8(X:δ (δ ζ))(k:Nat)(v:δ ζ)(h:k<γ X)(a:v=jL (el X (k:Int))):
  XV X (k+1)=List.set (XV X k) (k:Int).toNat v:=by
 unfold XV;have b:γ (List.map jL (List.take k X))=k:=aA3;rw[tQ,wO _ _ aA0,b,Nat.sub_self,wW X k h,a];rw[Tt h];simp only[List.map_append,oA,iS,List.append_assoc,JD,List.nil_append,List.set_cons_zero]
theorem grp_el(X:δ (δ ζ))(k:Nat)(h:k<γ X):el (XV X k) (k:Int)=el X (k:Int):=by unfold XV;rw[el_app _ _ k aA3,Y5]
theorem WU(g:δ ζ)(h:Lib.trimLeftS (g.map eQ) [48]=[]):[48]=jL g:=by unfold jL;rw[aB h]
theorem WW(g:δ ζ)(h:¬Lib.trimLeftS (g.map eQ) [48]=[]):Lib.trimLeftS (g.map eQ) [48]=jL g:=by unfold jL;rw[aA h]
theorem uL(g:δ ζ)(h:(γ g:Int)<1\/4<(γ g:Int)):qM g=ν:=by
 unfold qM;rcases h with h|h
 ·rw[show decide (1<=γ g)=ν by(rw[bK];omega)];rfl
 ·rw[show decide (γ g<=4)=ν by(rw[bK];omega)];simp
theorem Wj(g:δ ζ)(h:g.all fW=ν):qM g=ν:=by unfold qM;rw[h];simp
theorem Wi(g:δ ζ)(b:¬(γ g:Int)<1)(a:¬4<(γ g:Int))(h:g.all fW=μ):qM g=μ:=by unfold qM;rw[h,show decide (1<=γ g)=μ by(rw[aX];omega),show decide (γ g<=4)=μ by(rw[aX];omega)];rfl
theorem Qt[Inhabited a](p:a->η)(s:δ a)(k:Nat)(h:k<γ s)(c:(s.take k).all p=μ)(b:p (el s (k:Int))=μ):(s.take (k+1)).all p=μ:=by rw[wW s k h,dZ,c];simpa using b
theorem Tn[Inhabited a](p:a->η)(s:δ a)(k:Nat)(h:k<γ s)(b:p (el s (k:Int))=ν):s.all p=ν:=by rw[Bool.eq_false_iff];intro c;have:=aT.1 c (el s (k:Int)) (by simp[el,h]);rw[this]at b;cases b
theorem xW(s:δ ζ)(h:(cJ 58 s).all qM=ν):zA s=([],ν):=by unfold zA;rw[h];rfl
theorem sN(s:δ ζ)(h:(cJ 58 s).all qM=μ):zA s=((cJ 58 s).map jL,μ):=by unfold zA;rw[h];rfl
theorem R3(s:δ ζ)(h:γ s<=1000000000):γ (Lib.join (zA s).1 [58])<=100000000000:=by have b:=bjx s;have a:=av [58] 4 (zA s).1 b.2;simp at a;omega
def iA(x:δ ζ):δ (δ ζ)×η:=if x=[]then([],μ)else zA x
theorem Wl(x:δ ζ)(h:x=[]):iA x=([],μ):=by unfold iA;rw[aB h]
theorem bjy(x:δ ζ)(h:¬x=[]):iA x=zA x:=by unfold iA;rw[aA h]
def yW(s:δ ζ):δ ζ×η:=
 if 39<γ s then([],ν)
 else if(Lib.cut s [58,58]).2.2=ν then(Lib.join (zA s).1 [58],(zA s).2&&decide ((γ (zA s).1:Int)=8))
 else if(!(iA (Lib.cut s [58,58]).1).2|| !(iA (Lib.cut s [58,58]).2.1).2||decide (7<(γ (iA (Lib.cut s [58,58]).1).1:Int)+(γ (iA (Lib.cut s [58,58]).2.1).1:Int)))=μ then([],ν)
 else(Lib.join (iA (Lib.cut s [58,58]).1).1 [58]++[58,58]++Lib.join (iA (Lib.cut s [58,58]).2.1).1 [58],μ)
def jP(n:δ ζ):η:=n.all fZ&& !(n==[])&&decide (mK n<=255)&&(n==Lib.itoa (mK n:Int))
def Kd(s:δ ζ):η:=decide (γ s<=15)&&(cJ 46 s).all jP&&decide (γ (cJ 46 s)=4)
theorem Vj(n:δ ζ)(h:n.all fZ=ν):jP n=ν:=by unfold jP;rw[h];rfl
theorem mX(n:δ ζ)(h:(n=[]\/255<(mK n:Int))\/¬n=Lib.itoa (mK n:Int)):jP n=ν:=by
 unfold jP;rcases h with(h|h)|h
 ·subst h;rfl
 ·rw[show decide (mK n<=255)=ν by(rw[bK];omega)];simp
 ·rw[show(n==Lib.itoa (mK n:Int))=ν by simpa using h];simp
theorem VP(n:δ ζ)(h:n.all fZ=μ)(b:¬n=[])(c:¬255<(mK n:Int))(a:n=Lib.itoa (mK n:Int)):jP n=μ:=by unfold jP;rw[h,show decide (mK n<=255)=μ by(rw[aX];omega),show(n==Lib.itoa (mK n:Int))=μ by rw[beq_iff_eq];exact a,show(n==[])=ν by simpa using b];rfl
theorem LK(s:δ ζ)(h:15<(γ s:Int)):Kd s=ν:=by unfold Kd;rw[show decide (γ s<=15)=ν by(rw[bK];omega)];rfl
theorem O6(s:δ ζ)(h:(cJ 46 s).all jP=ν):Kd s=ν:=by unfold Kd;rw[h];simp
theorem VR(s:δ ζ)(a:¬15<(γ s:Int))(h:(cJ 46 s).all jP=μ):Kd s=decide ((γ (cJ 46 s):Int)=4):=by unfold Kd;rw[h,show decide (γ s<=15)=μ by(rw[aX];omega)];rw[Bool.eq_iff_iff];simp;omega
theorem BB[Inhabited a](l:δ a)(k:Nat)(h:k<γ l):el l (k:Int)∈l:=by rw[Ps l k h];exact yP h
end Go.Px
namespace Go.Wk
open Go.Px
open Go.Value renaming slice → Vs, int → Vi, bool → Vb, pointer → Vp
def Fi(x:(aC×Int)):δ ξ:=[(str x.1),(Vi .i64 x.2)]
def dR(x:Qy×(PA×PA)):δ ξ:=[(Vs x.2.1.2.1 (γ x.1.1) x.2.1.2.2),(Vs x.2.2.2.1 (γ x.1.2) x.2.2.2.2)]
theorem JQ:qQ dR 2:=⟨λ_=>rfl,λx v h=>by simp only[dR,aQ,lJ,or_false]at h;rcases h with h|h<;>subst h<;>rfl⟩
def oC(x:(aC×aC)):δ ξ:=[(str x.1),(str x.2)]
theorem aob:qQ oC 2:=⟨λ_=>rfl,λx v h=>by simp only[oC,aQ,lJ,or_false]at h;rcases h with h|h<;>subst h<;>rfl⟩
def eJ(x:Qy×(PA×PA)):δ cF:=[JJ oC x.2.1.1 x.2.1.2.1 x.2.1.2.2 x.1.1,JJ eB x.2.2.1 x.2.2.2.1 x.2.2.2.2 x.1.2]
theorem TE{w0 w:ο}{S:δ Nat}{L:δ cF}{g:Nat->(PA×PA)}{l:eK}(h:Hp w0 S L w)(a:∀r∈gI eJ g l,r∈L)(i:Int)(c:0<=i/\i<(γ l:Int)):(Rd w (g (Int.toNat i)).1.2.1 (Η oC ((el l i).1))/\γ ((el l i).1)<=(g (Int.toNat i)).1.2.2/\((g (Int.toNat i)).1.2.1=ι->(g (Int.toNat i)).1.2.2=0))/\(Rd w (g (Int.toNat i)).2.2.1 (Η eB ((el l i).2))/\γ ((el l i).2)<=(g (Int.toNat i)).2.2.2/\((g (Int.toNat i)).2.2.1=ι->(g (Int.toNat i)).2.2.2=0)):=by have key:∀r∈eJ (el l i,g (Int.toNat i)),r.holds w:=λr b=>(h.res _ (a _ (gI_mem eJ g l i c _ b))).1;unfold eJ at key;exact⟨V9 (key _ (.head _)),V9 (key _ (.tail _ (.head _)))⟩
def gZ(x:(Int×aC)):δ ξ:=[(Vi .i64 x.1),(str x.2)]
theorem bm:qQ gZ 2:=⟨λ_=>rfl,λx v h=>by simp only[gZ,aQ,lJ,or_false]at h;rcases h with h|h<;>subst h<;>rfl⟩
def eD(x:PQ):δ ξ:=[(str x.1),(str x.2.1),(Vb x.2.2)]
theorem IW:qQ eD 3:=⟨λ_=>rfl,λx v h=>by simp only[eD,aQ,lJ,or_false]at h;rcases h with h|h|h<;>subst h<;>rfl⟩
def bo:δ aC:=[[67,97,108,108,45,73,68],[67,83,101,113],[77,73,77,69,45,86,101,114,115,105,111,110],[77,105,110,45,83,69],[82,65,99,107],[82,83,101,113],[87,87,87,45,65,117,116,104,101,110,116,105,99,97,116,101]]
def vD:δ (aC×Int):=[([70,114,111,109],1),([84,111],1),([67,111,110,116,97,99,116],1),([82,111,117,116,101],1),([82,101,99,111,114,100,45,82,111,117,116,101],1),([80,97,116,104],1),([83,101,114,118,105,99,101,45,82,111,117,116,101],1),([82,101,102,101,114,45,84,111],1),([82,101,102,101,114,114,101,100,45,66,121],1),([82,101,112,108,121,45,84,111],1),([86,105,97],2),([67,83,101,113],3),([82,65,99,107],4),([67,111,110,116,101,110,116,45,76,101,110,103,116,104],5),([69,120,112,105,114,101,115],5),([77,97,120,45,70,111,114,119,97,114,100,115],5),([77,105,110,45,69,120,112,105,114,101,115],5),([82,83,101,113],5),([67,111,110,116,101,110,116,45,68,105,115,112,111,115,105,116,105,111,110],6),([67,111,110,116,101,110,116,45,84,121,112,101],6),([69,118,101,110,116],6),([77,105,110,45,83,69],6),([83,101,115,115,105,111,110,45,69,120,112,105,114,101,115],6),([83,117,98,115,99,114,105,112,116,105,111,110,45,83,116,97,116,101],6),([65,99,99,101,112,116],7),([65,108,108,111,119],7),([65,108,108,111,119,45,69,118,101,110,116,115],7),([80,114,111,120,121,45,82,101,113,117,105,114,101],7),([82,101,113,117,105,114,101],7),([83,117,112,112,111,114,116,101,100],7),([85,110,115,117,112,112,111,114,116,101,100],7)]
def dv:δ aC:=[[38,61,43,36,44,59,63,47],[91,93,47,58,38,43,36],[91,93,47,63,58,43,36]]
end Go.Wk
namespace Go.Ce
open Go.Wk
open Nat renaming beq → cY, succ → qW
open UInt8 renaming ofNat → Gg
variable{a:Type}
noncomputable def bi(c:η)(x y:a):a:=Bool.rec y x c
noncomputable def ob{b:Type}(x:ε a)(f:a->ε b):ε b:=Option.rec ι f x
inductive Pk where
 |h
 |o (p:Pk)
 |i (p:Pk)
noncomputable def pkF(f:Nat):Nat->Pk:=
 Nat.rec (λ_=>.h) (λ_ r k=>bi (cY k (nat_lit 0)) .h (bi (cY (Nat.mod k (nat_lit 2)) (nat_lit 1)) (.i (r (Nat.div k (nat_lit 2)))) (.o (r (Nat.sub (Nat.div k (nat_lit 2)) (nat_lit 1)))))) f
noncomputable def pk(k:Nat):Pk:=pkF (qW k) k
inductive Tr (α:Type) where
 |e
 |n (l:Tr α) (v:Option α) (r:Tr α)
noncomputable def Tr.L(t:Tr a):Tr a:=Tr.rec .e (λl _ _ _ _=>l) t
noncomputable def Tr.V(t:Tr a):ε a:=Tr.rec ι (λ_ v _ _ _=>v) t
noncomputable def Tr.R(t:Tr a):Tr a:=Tr.rec .e (λ_ _ r _ _=>r) t
noncomputable def Tr.Is(p:Pk):Tr a->ε a:=Pk.rec Tr.V (λ_ g t=>g t.R) (λ_ g t=>g t.L) p
noncomputable def Tr.yh(x:a)(p:Pk):Tr a->Tr a:=Pk.rec (λt=>.n t.L (θ x) t.R) (λ_ s t=>.n t.L t.V (s t.R)) (λ_ s t=>.n (s t.L) t.V t.R) p
noncomputable def Tr.get(t:Tr a)(k:Nat):ε a:=Tr.Is (pk k) t
noncomputable def Tr.set(t:Tr a)(k:Nat)(x:a):Tr a:=Tr.yh x (pk k) t
def dec:Nat->Nat->δ ζ
 |0,_=>[]
 |l+1,x=>Gg (x%256)::dec l (x/256)
inductive Cp where
 |k (c:Nat)
 |r (off:Nat)
inductive SC where
 |b (x:Bool)
 |i (k:Ε) (n:Nat)
 |s (l x:Nat)
 |np
 |ns
 |nf
 |ni
 |nm
 |p (i off:Nat)
 |g (i off:Nat)
 |sl (i base n:Nat) (c:Cp)
 |fn (f:Nat) (cs:List Nat)
 |y (i:Nat)
 |m (i:Nat)
 |z (i base d off:Nat)
inductive SA where
 |c (x:SC)
 |a (l:List SC)
inductive SV where
 |c (x:SC)
 |a (l:List SC)
 |t (l:List SA)
 |u
inductive Mo where
 |ex
 |rw (sz m:Nat)
 |bw
 |fb
inductive HB where
 |cl (t:Nat) (md:Mo) (xs:List SC)
 |it (l x Ο:Nat)
 |lp (busy:Bool) (j k:Nat) (ps:List Nat) (asg body:Code) (F:Tr SV)
 |df
 |gn
 |mp (es:List (SC×SC))
structure Hs where
 nx:Nat
 t:Tr HB
structure T where
 F:Tr SV
 H:Hs
 D:Option Nat
structure M where
 n:Nat
 m:Option (Option Nat)
structure Cx where
 P:Β
 G:Nat->Option (List SC)
 X:Nat->Option (List SV->Hs->Option (SV×Hs))
 pure:Nat->Bool
 V:Nat->Bool
noncomputable def SV.cells:SV->ε (δ SC):=SV.rec (λx=>θ [x]) θ (λ_=>ι) ι
noncomputable def km:Ε->Nat:=IntKind.rec (nat_lit 256) (nat_lit 65536) (nat_lit 4294967296) (nat_lit 18446744073709551616) (nat_lit 256) (nat_lit 65536) (nat_lit 4294967296) (nat_lit 18446744073709551616)
noncomputable def kh:Ε->Nat:=IntKind.rec (nat_lit 128) (nat_lit 32768) (nat_lit 2147483648) (nat_lit 9223372036854775808) (nat_lit 256) (nat_lit 65536) (nat_lit 4294967296) (nat_lit 18446744073709551616)
noncomputable def ures(k:Ε)(m:Nat):Int:=bi (Nat.ble (kh k) m) (.negSucc (Nat.sub (Nat.sub (km k) (nat_lit 1)) m)) (.ofNat m)
noncomputable def SC.v:SC->ε ξ
 |.b x=>θ (.bool x)
 |.i k n=>θ (.int k (ures k (Nat.mod n (km k))))
 |.s l x=>θ (str (dec l x))
 |.np=>θ (.pointer ι)
 |.ns=>θ (.slice ι 0 0)
 |.nf=>θ .nilFunc
 |.ni=>θ .nilIface
 |_=>ι
noncomputable def vcs:δ SC->ε (δ ξ)
 |[]=>θ []
 |x::l=>ob x.v λv=>ob (vcs l) λa=>θ (v::a)
noncomputable def SV.v:SV->ε ξ
 |.c x=>x.v
 |.a l=>ob (vcs l) λb=>θ (.agg b.toArray)
 |_=>ι
section
variable(C : Cx)
end
section
variable(C : Cx) (m : M) (S : T)
noncomputable def only{a:Type}(l:δ a):ε a:=List.rec ι (λx b _=>bi b.isEmpty (θ x) ι) l
end
section
variable(C : Cx) (m : M) (S : T)
end
section
variable(C : Cx)
end
end Go.Ce
namespace Go.Oe
open Go.Wk
open Go.Ce (Tr)
open Go.Op renaming bytesLess → qS
open Int renaming toNat → bL
open List renaming drop → cC, replicate → jZ, set → jH, take → eN
open Nat renaming beq → cY, blt → fI, succ → qW
open Sum renaming elim → dA
open UInt8 renaming ofNat → Gg
noncomputable section
inductive Ty where
 |i' (k:Ε)
 |c'
 |s'
 |b'
 |u'
 |w' (x:Ty)
 |pr (x y:Ty)
 |sm (x y:Ty)
 |l' (e by_:Nat) (x:Ty)
 |y'
 |r' (x:Ty)
 |p' (e:Nat) (x:Ty)
 |z'
 |o' (j:Nat)
 |f' (k:Nat) (x:Ty)
@[reducible] def Ty.T:Ty->Type
 |.i' _=>Int
 |.c'=>ζ
 |.s'=>aC
 |.b'=>η
 |.u'=>Unit
 |.w' x=>x.T
 |.pr x y=>x.T×y.T
 |.sm x y=>x.T⊕y.T
 |.l' _ _ x=>δ x.T
 |.y'=>aC
 |.r' x=>δ x.T
 |.p' _ x=>x.T
 |.z'=>Unit
 |.o' _=>Unit
 |.f' _ x=>x.T
def kN:Ε->Nat
 |.i8=>0
 |.i16=>1
 |.i32=>2
 |.i64=>3
 |.u8=>4
 |.u16=>5
 |.u32=>6
 |.u64=>7
def LU(a b:Ε):η:=cY (kN a) (kN b)
def Ty.JK:Ty->Ty->η
 |.i' k,.i' k'=>LU k k'
 |.c',.c'=>μ
 |.s',.s'=>μ
 |.b',.b'=>μ
 |.u',.u'=>μ
 |.w' x,.w' a=>x.JK a
 |.pr x y,.pr c b=>bif x.JK c then y.JK b else ν
 |.sm x y,.sm c b=>bif x.JK c then y.JK b else ν
 |.l' e h x,.l' d f a=>bif cY e d then bif cY h f then x.JK a else ν else ν
 |.y',.y'=>μ
 |.r' x,.r' a=>x.JK a
 |.p' e x,.p' d a=>bif cY e d then x.JK a else ν
 |.z',.z'=>μ
 |.o' j,.o' j'=>cY j j'
 |.f' k x,.f' k' a=>bif cY k k' then x.JK a else ν
 |_,_=>ν
theorem gX{a b:η}(h:(bif a then b else ν)=μ):a=μ/\b=μ:=by cases a<;>cases b<;>simp_all
theorem mE{a b:Ε}(h:LU a b=μ):a=b:=by revert h;cases a<;>cases b<;>first|(intro _;rfl)|(intro h;exact absurd h aA5)
theorem Ty.jK:∀{a b:Ty},a.JK b=μ->a=b:=by
 intro a;induction a with
 |i' k=>intro b h;cases b with
  |i' k'=>rw[mE h]
  |_=>cases h
 |w' x c=>intro b h;cases b with
  |w' y=>rw[c h]
  |_=>cases h
 |pr x y c d=>intro b h;cases b with
  |pr i g=>have h:=gX h;rw[c h.1,d h.2]
  |_=>cases h
 |sm x y c d=>intro b h;cases b with
  |sm i g=>have h:=gX h;rw[c h.1,d h.2]
  |_=>cases h
 |l' e l x c=>intro b h;cases b with
  |l' e' b' y=>have h:=gX h;have f:=gX h.2;rw[c f.2,gR h.1,gR f.1]
  |_=>cases h
 |r' x c=>intro b h;cases b with
  |r' y=>rw[c h]
  |_=>cases h
 |p' e x c=>intro b h;cases b with
  |p' e' y=>have h:=gX h;rw[c h.2,gR h.1]
  |_=>cases h
 |o' j=>intro b h;cases b with
  |o' k=>rw[gR h]
  |_=>cases h
 |f' k x c=>intro b h;cases b with
  |f' k' y=>have h:=gX h;rw[c h.2,gR h.1]
  |_=>cases h
 |_=>intro b h;cases b<;>first|rfl|cases h
def ID{a b:Ty}(h:a.JK b=μ)(l:δ a.T):δ b.T:=(Ty.jK h)▸l
@[reducible] def fU:δ Ty->Ty
 |[]=>.u'
 |[x]=>x
 |x::y::l=>.pr x (fU (y::l))
def Ty.flat:Ty->η
 |.i' _=>μ
 |.c'=>μ
 |.s'=>μ
 |.b'=>μ
 |.w' x=>x.flat
 |.pr x y=>bif x.flat then y.flat else ν
 |_=>ν
def Ty.sz:Ty->Nat
 |.w' x=>x.sz
 |.pr x y=>x.sz+y.sz
 |_=>1
def Ty.enc:(t:Ty)->t.T->δ ξ
 |.i' k,n=>[.int k n]
 |.c',x=>[bt x]
 |.s',x=>[str x]
 |.b',x=>[.bool x]
 |.w' t,x=>t.enc x
 |.pr a b,x=>a.enc x.1++b.enc x.2
 |_,_=>[]
def Ty.agg:Ty->η
 |.w' _=>μ
 |.pr _ _=>μ
 |_=>ν
inductive SC where
 |i' (k:Ε) (n:Int)
 |c' (x:UInt8)
 |s' (x:aC)
 |b' (x:Bool)
 |d' (p:Prop) (h:Decidable p)
 |e' (p:Prop) (h:Decidable p)
 |o' (j:Nat)
 |n'
 |p' (id off:Nat)
 |q' (id:Nat) (j:Int) (sz off:Nat)
 |l' (id:Nat)
 |k' (id n:Nat)
 |f' (k:Nat) (ids:List Nat)
 |z' (id fl:Nat)
 |u'
inductive SA where
 |c' (x:SC)
 |a' (l:List SC)
inductive SV where
 |c' (x:SC)
 |a' (l:List SC)
 |t' (l:List SA)
 |n'
 |u'
inductive Ob where
 |bl (e:Nat) (cs:List SC)
 |rw (e by_:Nat) (t:Ty) (l:List t.T)
 |ro (t:Ty) (l:List t.T)
 |br (n:Nat) (l:aC)
 |dd (n:Nat)
structure Ad where
 o:Option Nat
 a:Option Γ
 cap:Nat
 z:Bool
 ln:Nat
def Ad.b(d:Ad):Nat:=d.o.getD 0
def Ob.len:Ob->Nat
 |.rw _ _ _ l=>γ l
 |.ro _ l=>γ l
 |.br n _=>n
 |.dd n=>n
 |_=>0
def fC{a:Type}:δ a->Nat->ε a
 |[],_=>ι
 |x::l,k=>match k with
  |0=>θ x
  |k+1=>fC l k
def fN(H:δ Ob)(id:Nat):Nat:=match fC H id with
 |some o=>o.len
 |none=>0
def kq:Nat->ξ
 |0=>.pointer ι
 |1=>.nilFunc
 |_=>.nilIface
def iM(b off:Nat):ξ:=.pointer (θ ⟨b,off,ι⟩)
def SC.v(ρ:Nat->Ad):SC->ξ
 |.i' k n=>.int k n
 |.c' x=>bt x
 |.s' x=>str x
 |.b' x=>.bool x
 |.d' p h=>.bool (@decide p h)
 |.e' p h=>.bool (!@decide p h)
 |.o' j=>kq j
 |.n'=>.slice ι 0 0
 |.p' id off=>iM (ρ id).b off
 |.q' id j c off=>.pointer (θ (ea (ρ id).a (j.toNat*c+off)))
 |.l' id=>.slice (ρ id).a (ρ id).ln (ρ id).cap
 |.k' id n=>.slice (θ ⟨(ρ id).b,0,ι⟩) n n
 |.f' k ids=>.func (.func k) #[] (ids.map λid=>iM (ρ id).b 0).toArray
 |.z' id d=>.pointer (bif (ρ d).z then θ ⟨(ρ id).b,0,ι⟩else ι)
 |.u'=>.bool ν
def SC.kn:SC->η
 |.u'=>ν
 |_=>μ
def knL:δ SC->η
 |[]=>μ
 |x::l=>bif x.kn then knL l else ν
def SA.v(ρ:Nat->Ad):SA->ξ
 |.c' x=>x.v ρ
 |.a' l=>.agg (l.map (SC.v ρ)).toArray
def SV.v(ρ:Nat->Ad):SV->ε ξ
 |.c' x=>θ (x.v ρ)
 |.a' l=>θ (.agg (l.map (SC.v ρ)).toArray)
 |.t' l=>θ (.tuple (l.map (SA.v ρ)).toArray)
 |.n'=>θ undef
 |.u'=>ι
def SA.sv:SA->SV
 |.c' x=>.c' x
 |.a' l=>.a' l
def SV.cells:SV->ε (δ SC)
 |.c' x=>θ [x]
 |.a' l=>θ l
 |_=>ι
def SV.sa:SV->ε SA
 |.c' x=>θ (.c' x)
 |.a' l=>θ (.a' l)
 |_=>ι
def Ty.sv(t:Ty)(cs:δ SC):SV:=bif t.agg then .a' cs else match cs with
 |[x]=>.c' x
 |_=>.u'
def Ty.sa(t:Ty)(cs:δ SC):SA:=bif t.agg then .a' cs else match cs with
 |[x]=>.c' x
 |_=>.a' cs
def oW:δ SC->δ Nat
 |[]=>[]
 |x::l=>match x with
  |.p' id _=>id::oW l
  |_=>oW l
def Ty.no:Ty->Nat
 |.w' x=>x.no
 |.pr x y=>x.no+y.no
 |.l' _ _ _=>1
 |.y'=>1
 |.r' _=>1
 |.p' _ x=>x.no+1
 |.z'=>1
 |.f' _ x=>x.no
 |_=>0
def Ty.lay:(t:Ty)->(self n:Nat)->t.T->δ SC×δ Ob
 |.i' k,_,_,x=>([.i' k x],[])
 |.c',_,_,x=>([.c' x],[])
 |.s',_,_,x=>([.s' x],[])
 |.b',_,_,x=>([.b' x],[])
 |.u',_,_,_=>([],[])
 |.w' t,s,n,x=>t.lay s n x
 |.pr a b,s,n,x=>((a.lay s n x.1).1++(b.lay s (n+a.no) x.2).1,(a.lay s n x.1).2++(b.lay s (n+a.no) x.2).2)
 |.sm _ _,_,_,_=>([],[])
 |.l' e b t,_,n,x=>([.l' n],[.rw e b t x])
 |.y',_,n,x=>([.l' n],[.br (γ x) x])
 |.r' t,_,n,x=>([.l' n],[.ro t x])
 |.p' e t,_,n,x=>([.p' n 0],.bl e (t.lay n (n+1) x).1::(t.lay n (n+1) x).2)
 |.z',s,n,_=>([.z' s n],[.dd 0])
 |.o' j,_,_,_=>([.o' j],[])
 |.f' k t,s,n,x=>([.f' k (oW (t.lay s n x).1)],(t.lay s n x).2)
inductive Src where
 |o' (id:Nat) (w:Bool)
 |n'
 |k' (id m:Nat) (w:Bool)
 |z' (t:Bool)
def Src.own:Src->δ Nat
 |.o' id w=>bif w then [id]else []
 |.k' id _ w=>bif w then [id]else []
 |_=>[]
def Src.bor:Src->δ Nat
 |.o' id w=>bif w then []else [id]
 |.k' id _ w=>bif w then []else [id]
 |_=>[]
variable{a:Type}
def hd1(f:SC->ε a):δ SC->ε (a×δ SC×δ Src)
 |[]=>ι
 |x::l=>match f x with
  |some y=>θ (y,l,[])
  |none=>ι
def SC.rI(k:Ε):SC->ε Int
 |.i' a n=>bif LU k a then θ n else ι
 |_=>ι
def SC.rC:SC->ε ζ
 |.c' x=>θ x
 |_=>ι
def SC.rS:SC->ε aC
 |.s' x=>θ x
 |_=>ι
def SC.rB:SC->ε η
 |.b' x=>θ x
 |.d' p h=>θ (@decide p h)
 |.e' p h=>θ (!@decide p h)
 |_=>ι
def Ty.EO:(t:Ty)->δ SC->ε (t.T×δ SC)
 |.i' k,l=>match l with
  |x::l=>match x.rI k with
   |some y=>θ (y,l)
   |none=>ι
  |[]=>ι
 |.c',l=>match l with
  |x::l=>match x.rC with
   |some y=>θ (y,l)
   |none=>ι
  |[]=>ι
 |.s',l=>match l with
  |x::l=>match x.rS with
   |some y=>θ (y,l)
   |none=>ι
  |[]=>ι
 |.b',l=>match l with
  |x::l=>match x.rB with
   |some y=>θ (y,l)
   |none=>ι
  |[]=>ι
 |.w' t,l=>t.EO l
 |.pr a b,l=>match a.EO l with
  |some (x,d)=>match b.EO d with
   |some (y,c)=>θ ((x,y),c)
   |none=>ι
  |none=>ι
 |_,_=>ι
def pS(t:Ty):Nat->δ SC->ε (δ t.T)
 |0,l=>match l with
  |[]=>θ []
  |_=>ι
 |m+1,l=>match t.EO l with
  |some (x,a)=>match pS t m a with
   |some q=>θ (x::q)
   |none=>ι
  |none=>ι
def rowOf(t:Ty)(o:ε Ob):ε (δ t.T):=match o with
 |some (.rw _ _ t' l)=>if h:t'.JK t=μ then θ (ID h l)else ι
 |_=>ι
def strOf(t:Ty)(l:aC):ε (δ t.T):=if h:Ty.c'.JK t=μ then θ (ID h l)else ι
def Hu(t:Ty)(o:ε Ob):ε (δ t.T):=match o with
 |some (.rw _ _ t' l)=>if h:t'.JK t=μ then θ (ID h l)else ι
 |some (.ro t' l)=>if h:t'.JK t=μ then θ (ID h l)else ι
 |some (.br _ l)=>strOf t l
 |_=>ι
def H7(t:Ty)(o:ε Ob):ε (δ t.T):=match o with
 |some (.ro t' l)=>if h:t'.JK t=μ then θ (ID h l)else ι
 |_=>ι
def rwE:ε Ob->ε (Nat×Nat)
 |some (.rw e b _ _)=>θ (e,b)
 |_=>ι
def Ty.tz:Ty->η
 |.w' x=>x.tz
 |.pr x y=>bif x.tz then μ else y.tz
 |.z'=>μ
 |.f' _ x=>x.tz
 |_=>ν
def Ty.M2:Ty->η
 |.u'=>μ
 |.p' _ _=>μ
 |.pr x y=>bif x.M2 then y.M2 else ν
 |_=>ν
def Ty.rd(any:η)(H:δ Ob):(t:Ty)->(self:Nat)->δ SC->ε (t.T×δ SC×δ Src)
 |.i' k,_,l=>hd1 (SC.rI k) l
 |.c',_,l=>hd1 SC.rC l
 |.s',_,l=>hd1 SC.rS l
 |.b',_,l=>hd1 SC.rB l
 |.u',_,l=>θ ((),l,[])
 |.w' t,s,l=>t.rd any H s l
 |.pr a b,s,l=>match a.rd any H s l with
  |some (x,n,h)=>match b.rd any H s n with
   |some (y,i,g)=>θ ((x,y),i,h++g)
   |none=>ι
  |none=>ι
 |.sm _ _,_,_=>ι
 |.l' e b t,_,l=>match l with
  |.n'::l=>θ ([],l,[.n'])
  |.l' id::l=>match rwE (fC H id)with
   |some q=>bif cY q.1 e then(bif cY q.2 b then(match rowOf t (fC H id)with
    |some x=>θ (x,l,[.o' id μ])
    |none=>ι)else ι)else ι
   |none=>ι
  |.k' id m::l=>match fC H id with
   |some (.bl e' cs)=>bif cY e' e then(bif t.flat then(bif Nat.ble m 1048576 then(match pS t m cs with
    |some x=>θ (x,l,[.k' id m μ])
    |none=>ι)else ι)else ι)else ι
   |_=>ι
  |_=>ι
 |.y',_,l=>match l with
  |.l' id::l=>match fC H id with
   |some (.br _ x)=>θ (x,l,[.o' id μ])
   |_=>ι
  |_=>ι
 |.r' t,_,l=>match l with
  |.n'::l=>θ ([],l,[.n'])
  |.l' id::l=>match(bif any then Hu t (fC H id)else H7 t (fC H id))with
   |some x=>θ (x,l,[.o' id ν])
   |none=>ι
  |.k' id m::l=>match(bif any then fC H id else ι)with
   |some (.bl _ cs)=>match pS t m cs with
    |some x=>θ (x,l,[.k' id m ν])
    |none=>ι
   |_=>ι
  |_=>ι
 |.p' e t,_,l=>match l with
  |.p' id off::l=>match fC H id with
   |some (.bl e' cs)=>bif cY off 0 then(bif cY e' e then(match t.rd any H id cs with
    |some (x,[],c)=>θ (x,l,.o' id μ::c)
    |_=>ι)else ι)else ι
   |_=>ι
  |_=>ι
 |.z',s,l=>match l with
  |.o' j::l=>bif cY j 0 then θ ((),l,[.z' ν])else ι
  |.p' id off::l=>bif cY off 0 then(bif cY id s then θ ((),l,[.z' μ])else ι)else ι
  |.z' id f::l=>bif cY id s then(match fC H f with
   |some (.dd 0)=>θ ((),l,[.o' f ν])
   |_=>ι)else ι
  |_=>ι
 |.o' j,_,l=>match l with
  |.o' j'::l=>bif cY j j' then θ ((),l,[])else ι
  |_=>ι
 |.f' k t,s,l=>match l with
  |.f' k' d::l=>bif cY k k' then(match(bif t.M2 then t.rd any H s (d.map λid=>.p' id 0)else ι)with
   |some (x,[],c)=>θ (x,l,c)
   |_=>ι)else ι
  |_=>ι
def Ty.cn:Ty->Nat
 |.u'=>0
 |.w' x=>x.cn
 |.pr x y=>x.cn+y.cn
 |.sm _ _=>0
 |_=>1
def As{a:Type}:δ a->Nat->δ a
 |[],_=>[]
 |x::l,k=>match k with
  |0=>x::l
  |k+1=>As l k
def Aq{a:Type}:δ a->Nat->ε (δ a)
 |_,0=>θ []
 |[],_+1=>ι
 |x::l,k+1=>match Aq l k with
  |some q=>θ (x::q)
  |none=>ι
def jC{a:Type}:δ a->Nat->a->δ a
 |[],_,_=>[]
 |x::l,k,y=>match k with
  |0=>y::l
  |k+1=>x::jC l k y
def uU:δ SC->Nat->δ SC->ε (δ SC)
 |l,0,[]=>θ l
 |_::l,0,v::a=>match uU l 0 a with
  |some q=>θ (v::q)
  |none=>ι
 |x::l,k+1,a=>match uU l k a with
  |some q=>θ (x::q)
  |none=>ι
 |[],_,_=>ι
def Zh(l:δ SC)(k:Nat)(vs:δ SC):δ SC:=match uU l k vs with
 |some q=>q
 |none=>l
inductive Key where
 |s' (t:Nat) (x:Ty)
 |o' (t off:Nat) (x:Ty)
 |w' (t:Nat) (x:Ty)
def Key.ty:Key->Ty
 |.s' _ x=>x
 |.o' _ _ x=>x
 |.w' _ x=>x
abbrev qJ(l:δ Key):Ty:=fU (l.map Key.ty)
def tg(H:δ Ob)(id:Nat):(x:Ty)->ε x.T
 |.l' e b t=>match rwE (fC H id)with
  |some q=>bif cY q.1 e then(bif cY q.2 b then rowOf t (fC H id)else ι)else ι
  |none=>ι
 |.y'=>match fC H id with
  |some (.br _ x)=>θ x
  |_=>ι
 |_=>ι
def Th:ε (a×δ SC×δ Src)->ε (a×δ Src)
 |some (x,[],b)=>θ (x,b)
 |_=>ι
def VC(any:η)(H:δ Ob)(x:Ty):SV->ε (x.T×δ Src)
 |.c' c=>bif x.tz then ι else(bif x.agg then ι else Th (x.rd any H 0 [c]))
 |.a' l=>bif x.tz then ι else(bif x.agg then Th (x.rd any H 0 l)else ι)
 |_=>ι
def rdB(H:δ Ob)(id off:Nat)(x:Ty):ε (x.T×δ Src):=match fC H id with
 |some (.bl _ cs)=>match Aq (As cs off) x.cn with
  |some q=>Th (x.rd ν H id q)
  |none=>ι
 |_=>ι
def rdW(H:δ Ob)(id:Nat)(x:Ty):ε (x.T×δ Src):=match tg H id x with
 |some y=>θ (y,[])
 |none=>ι
def Key.rd(a:Nat->Nat)(F:Nat->SV)(H:δ Ob):(k:Key)->ε (k.ty.T×δ Src)
 |.s' t x=>VC ν H x (F t)
 |.o' t off x=>rdB H (a t) off x
 |.w' t x=>rdW H (a t) x
def rdK(a:Nat->Nat)(F:Nat->SV)(H:δ Ob):(l:δ Key)->ε ((qJ l).T×δ Src)
 |[]=>θ ((),[])
 |[k]=>k.rd a F H
 |k::d::l=>match k.rd a F H with
  |some (x,c)=>match rdK a F H (d::l)with
   |some (y,b)=>θ ((x,y),c++b)
   |none=>ι
  |none=>ι
def fq(n:Nat):(x:Ty)->x.T->ε Ob
 |.l' e b t,v=>θ (.rw e b t v)
 |.y',v=>θ (.br n v)
 |_,_=>ι
abbrev Fr:=Tr SV×δ Ob
def zf(F:Tr SV)(H:δ Ob)(t:Nat)(x:Ty)(v:x.T):Fr:=(F.set t (x.sv (x.lay 0 (γ H) v).1),H++(x.lay 0 (γ H) v).2)
def L9(H:δ Ob)(id off:Nat)(x:Ty)(v:x.T):δ Ob:=match fC H id with
 |some (.bl e cs)=>jC H id (.bl e (Zh cs off (x.lay id (γ H) v).1))++(x.lay id (γ H) v).2
 |_=>H++(x.lay id (γ H) v).2
def qD(H:δ Ob)(id:Nat)(x:Ty)(v:x.T):δ Ob:=match fq (fN H id) x v with
 |some o=>jC H id o
 |none=>H
def Key.put(a:Nat->Nat)(S:Fr):(k:Key)->k.ty.T->Fr
 |.s' t x,v=>zf S.1 S.2 t x v
 |.o' t off x,v=>(S.1,L9 S.2 (a t) off x v)
 |.w' t x,v=>(S.1,qD S.2 (a t) x v)
def If(a:Nat->Nat)(S:Fr):(l:δ Key)->(qJ l).T->Fr
 |[],_=>S
 |[k],v=>k.put a S v
 |k::b::l,v=>If a (k.put a S v.1) (b::l) v.2
inductive Rk where
 |r' (x:Ty)
 |o' (id e:Nat) (x:Ty)
 |w' (id:Nat) (x:Ty)
def Rk.ty:Rk->Ty
 |.r' x=>x
 |.o' _ _ x=>x
 |.w' _ x=>x
abbrev gU(l:δ Rk):Ty:=fU (l.map Rk.ty)
def rdO(H:δ Ob)(id e:Nat)(x:Ty):ε (x.T×δ Src):=match fC H id with
 |some (.bl a cs)=>bif cY a e then Th (x.rd ν H id cs)else ι
 |_=>ι
def Rk.rd(H:δ Ob):(k:Rk)->δ SV->ε (k.ty.T×δ Src×δ SV)
 |.r' x,a=>match a with
  |v::a=>match VC ν H x v with
   |some (x,b)=>θ (x,b,a)
   |none=>ι
  |[]=>ι
 |.o' id e x,a=>match rdO H id e x with
  |some (x,b)=>θ (x,b,a)
  |none=>ι
 |.w' id x,a=>match rdW H id x with
  |some (x,b)=>θ (x,b,a)
  |none=>ι
def rdR(H:δ Ob):(l:δ Rk)->δ SV->ε ((gU l).T×δ Src)
 |[],a=>match a with
  |[]=>θ ((),[])
  |_=>ι
 |[k],a=>match k.rd H a with
  |some (x,b,[])=>θ (x,b)
  |_=>ι
 |k::e::l,a=>match k.rd H a with
  |some (x,d,a)=>match rdR H (e::l) a with
   |some (y,c)=>θ ((x,y),d++c)
   |none=>ι
  |none=>ι
def putO(H:δ Ob)(id e:Nat)(x:Ty)(v:x.T):δ Ob:=jC H id (.bl e (x.lay id (γ H) v).1)++(x.lay id (γ H) v).2
def Rk.put(a:Nat->Nat)(S:δ SA×δ Ob):(k:Rk)->k.ty.T->δ SA×δ Ob
 |.r' x,v=>(S.1++[x.sa (x.lay 0 (γ S.2) v).1],S.2++(x.lay 0 (γ S.2) v).2)
 |.o' id e x,v=>(S.1,putO S.2 (a id) e x v)
 |.w' id x,v=>(S.1,qD S.2 (a id) x v)
def fV(a:Nat->Nat)(S:δ SA×δ Ob):(l:δ Rk)->(gU l).T->δ SA×δ Ob
 |[],_=>S
 |[k],v=>k.put a S v
 |k::b::l,v=>fV a (k.put a S v.1) (b::l) v.2
def lD:δ SA->SV
 |[x]=>x.sv
 |l=>.t' l
def QA(H:δ Ob):(l:δ Ty)->δ SV->ε ((fU l).T×δ Src)
 |[],c=>match c with
  |[]=>θ ((),[])
  |_=>ι
 |[x],c=>match c with
  |[v]=>VC μ H x v
  |_=>ι
 |x::y::l,c=>match c with
  |v::c=>match VC μ H x v with
   |some (a,e)=>match QA H (y::l) c with
    |some (b,d)=>θ ((a,b),e++d)
    |none=>ι
   |none=>ι
  |[]=>ι
def jB(H:δ Ob):(l:δ Ty)->(fU l).T->δ SV×δ Ob
 |[],_=>([],H)
 |[x],v=>([x.sv (x.lay 0 (γ H) v).1],H++(x.lay 0 (γ H) v).2)
 |x::y::l,v=>(x.sv (x.lay 0 (γ H) v.1).1::(jB (H++(x.lay 0 (γ H) v.1).2) (y::l) v.2).1,(jB (H++(x.lay 0 (γ H) v.1).2) (y::l) v.2).2)
structure PD where
 p:Prop
 h:Decidable p
inductive Gv (α:Type) where
 |one (x:Option α)
 |gs (l:List PD) (x:α)
structure yO where
 a:List Ty
 r:List Rk
 f:(fU a).T->Gv (gU r).T
def gdL{ρ:Type}(l:δ PD)(x:ε ρ):ε ρ:=match l with
 |[]=>x
 |⟨p,h⟩::l=> @gd ρ p h (gdL l x)
def Gv.bd{ρ:Type}(g:Gv a)(k:a->ε ρ):ε ρ:=match g with
 |.one x=>x.bind k
 |.gs l x=>gdL l (k x)
structure Cx where
 P:Β
 X:Nat->List yO
 E:Nat->Option (Nat×Nat×Ty)
 G:Nat->Option Nat
 nn:Nat
 fu:Nat
structure St where
 F:Tr SV
 H:List Ob
 nb:Nat
 al:List (Nat×Nat×Nat)
 m:List (Nat×Nat×Nat)
def St.at(S:St)(t:Nat):SV:=match S.F.get t with
 |some v=>v
 |none=>.u'
def St.set(S:St)(d:Nat)(v:SV):St:=⟨S.F.set d v,S.H,S.nb,S.al,S.m⟩
def St.xA(S:St)(d:ε Nat)(v:SV):St:=match d with
 |some d=>S.set d v
 |none=>S
def cvC:ξ->ε SC
 |.bool b=>θ (.b' b)
 |.int k n=>bif LU k .u8 then(if 0<=n/\n<256 then θ (.c' (Gg n.toNat))else ι)else θ (.i' k n)
 |.string s=>θ (.s' s.data.toList)
 |.slice ι 0 0=>θ .n'
 |.pointer ι=>θ (.o' 0)
 |.nilFunc=>θ (.o' 1)
 |.nilIface=>θ (.o' 2)
 |_=>ι
def cvL:δ ξ->ε (δ SC)
 |[]=>θ []
 |v::l=>match cvC v with
  |some x=>match cvL l with
   |some q=>θ (x::q)
   |none=>ι
  |none=>ι
def cv:ξ->SV
 |.agg cs=>match cvL cs.toList with
  |some l=>.a' l
  |none=>.u'
 |v=>match cvC v with
  |some x=>.c' x
  |none=>.u'
section
variable(C : Cx)
def St.ev(S:St):χ->SV
 |.tmp t=>bif fI t C.nn then S.at t else .u'
 |.const v=>cv v
 |.global g=>match C.G g with
  |some id=>.c' (.q' id 0 0 0)
  |none=>.u'
 |.func k=>.c' (.f' k [])
end
structure Ro where
 g:List PD
 v:SV
 H:List Ob
 m:List (Nat×Nat×Nat)
abbrev Rv:=ε (δ PD×SV)
def hO(x:SC):Rv:=θ ([],.c' x)
def Tg(p:Prop)[h:Decidable p](x:SC):Rv:=θ ([⟨p,h⟩],.c' x)
def i64(k:Ε):η:=LU k .i64
def bI(b:BinOp)(k:Ε)(u v:Int):Rv:=
 match b with
 |.lss=>hO (.d' (u<v) inferInstance)
 |.leq=>hO (.d' (u<=v) inferInstance)
 |.gtr=>hO (.d' (v<u) inferInstance)
 |.geq=>hO (.d' (v<=u) inferInstance)
 |.eql=>hO (.d' (u=v) inferInstance)
 |.neq=>hO (.e' (u=v) inferInstance)
 |.add=>bif i64 k then Tg (bJ (u+v)) (.i' k (u+v))else hO (.i' k (k.wrap (u+v)))
 |.sub=>bif i64 k then Tg (bJ (u-v)) (.i' k (u-v))else hO (.i' k (k.wrap (u-v)))
 |.mul=>bif i64 k then Tg (bJ (u*v)) (.i' k (u*v))else hO (.i' k (k.wrap (u*v)))
 |.quo=>bif i64 k then Tg (0<=u/\0<v/\bJ u) (.i' k (u/v))else ι
 |.rem=>bif i64 k then Tg (0<=u/\0<v/\bJ u) (.i' k (u%v))else ι
 |.and=>hO (.i' k (andI k u v))
 |.or=>hO (.i' k (orI k u v))
 |_=>ι
def bC(b:BinOp)(u v:ζ):Rv:=
 match b with
 |.lss=>hO (.d' (u<v) inferInstance)
 |.leq=>hO (.d' (u<=v) inferInstance)
 |.gtr=>hO (.d' (v<u) inferInstance)
 |.geq=>hO (.d' (v<=u) inferInstance)
 |.eql=>hO (.d' (u=v) inferInstance)
 |.neq=>hO (.e' (u=v) inferInstance)
 |.add=>hO (.c' (u+v))
 |.sub=>hO (.c' (u-v))
 |.mul=>hO (.c' (u*v))
 |.quo=>Tg (v≠0) (.c' (u/v))
 |.rem=>Tg (v≠0) (.c' (u%v))
 |.and=>hO (.c' (u&&&v))
 |.or=>hO (.c' (u|||v))
 |_=>ι
def bS(b:BinOp)(u v:aC):Rv:=
 match b with
 |.eql=>hO (.d' (u=v) inferInstance)
 |.neq=>hO (.e' (u=v) inferInstance)
 |.lss=>hO (.b' (qS u v))
 |.gtr=>hO (.b' (!(qS u v||u==v)))
 |.add=>Tg (γ u+γ v<=9223372036854775807) (.s' (u++v))
 |_=>ι
def bB(b:BinOp)(u v:η):Rv:=match b with
 |.eql=>hO (.b' (u==v))
 |.neq=>hO (.b' (!(u==v)))
 |_=>ι
def sh8(z:η)(b:BinOp)(u:ζ)(v:Int):Rv:=
 match b with
 |.shl=>bif z then hO (.c' (UI u v))else Tg (0<=v) (.c' (UI u v))
 |.shr=>bif z then hO (.c' (Ym u v))else Tg (0<=v) (.c' (Ym u v))
 |_=>ι
def SU:SC->ε Int
 |.i' _ n=>θ n
 |.c' x=>θ x.toNat
 |_=>ι
def shI(k:Ε)(u v:Int):Rv:=match v with
 |.ofNat n=>hO (.i' k (u/((2^(min n k.bits):Nat))))
 |_=>ι
def ud:BinOp->η
 |.shr=>μ
 |_=>ν
def shlI(k:Ε)(u v:Int):Rv:=match v with
 |.ofNat n=>hO (.i' k (IntKind.wrap k (u*((2^(min n k.bits):Nat)))))
 |_=>ι
def ue:BinOp->η
 |.shl=>μ
 |_=>ν
def bin(z:η)(b:BinOp)(x y:SC):Rv:=
 match x,y with
 |.i' k u,.i' a v=>bif ud b then shI k u v else bif ue b then shlI k u v else bif LU k a then bI b k u v else ι
 |.c' u,.c' v=>bC b u v
 |.c' u,.i' _ v=>sh8 z b u v
 |.s' u,.s' v=>bS b u v
 |_,_=>ι
def zt:SC->Rv
 |.b' x=>hO (.b' (!x))
 |.d' p h=>hO (.e' p h)
 |.e' p h=>hO (.d' p h)
 |_=>ι
def ixC(x a:SC):Rv:=
 match x with
 |.s' l=>match SU a with
  |some i=>Tg (0<=i/\i<γ l) (.c' (Κ l i))
  |none=>ι
 |_=>ι
def Z8(x:SC)(c d:ε SC):Rv:=
 match x with
 |.s' l=>match c,d with
  |some a,θ b=>match SU a,SU b with
   |some i,θ j=>Tg (0<=i/\i<=j/\j<=γ l) (.s' (sub l i j))
   |_,_=>ι
  |some a,ι=>match SU a with
   |some i=>Tg (0<=i/\i<=γ l) (.s' (cC (bL i) l))
   |none=>ι
  |none,θ b=>match SU b with
   |some j=>Tg (0<=j/\j<=γ l) (.s' (eN (bL j) l))
   |none=>ι
  |none,ι=>ι
 |_=>ι
section
variable(C : Cx)
def kindOf(t:Nat):ε Ε:=match C.P.underlying t with
 |some (.int k)=>θ k
 |_=>ι
def wG(t:Nat):η:=match C.P.underlying t with
 |some .string=>μ
 |_=>ν
def UE(t:Nat):ε Nat:=match C.P.underlying t with
 |some (.slice e)=>θ e
 |_=>ι
def arE(t:Nat):ε (Nat×Nat):=match C.P.underlying t with
 |some (.array n e)=>θ (n,e)
 |_=>ι
def Uj(t:Nat):ε Nat:=Ye C.P (sizeOf t)
def E1(t:Nat):ε η:=Ye C.P (isAgg t)
def LW(e:Nat):η:=match C.P.underlying e with
 |some (.int k)=>LU k .u8
 |_=>ν
def isK(e:Nat)(k:Ε):η:=match kindOf C e with
 |some a=>LU a k
 |none=>ν
def y7(s t:Nat)(x:SC):Rv:=
 match x with
 |.c' u=>bif LW C s then(match kindOf C t with
  |some .u8=>hO (.c' u)
  |some .i64=>hO (.i' .i64 u.toNat)
  |some .i32=>hO (.i' .i32 u.toNat)
  |_=>ι)else ι
 |.i' k n=>bif isK C s k then(match kindOf C t with
  |some .u8=>hO (.c' (YP n))
  |some k'=>bif LU k k' then(bif i64 k then Tg (bJ n) (.i' k n)else Tg (IntKind.wrap k' n=n) (.i' k n))else hO (.i' k' (k'.wrap n))
  |none=>bif wG C t then hO (.s' (ψ n).data.toList)else ι)else ι
 |.s' l=>bif wG C s then(bif wG C t then hO (.s' l)else ι)else ι
 |_=>ι
def zC(t:Nat):ε (δ SC):=match Ye C.P (zeroValue t)with
 |some v=>cvL v.cells.toList
 |none=>ι
def Wo(t f:Nat):ε (Nat×Nat×η):=match C.P.underlying t with
 |some (.struct c)=>match fC c.toList f with
  |some b=>match Uj C b.type,E1 C b.type with
   |some n,θ a=>θ (b.offset,n,a)
   |_,_=>ι
  |none=>ι
 |_=>ι
def vV(l:δ SC)(off n:Nat)(a:η):ε SV:=
 bif a then(match Aq (As l off) n with
  |some q=>bif knL q then θ (.a' q)else ι
  |none=>ι)else match fC l off with
  |some x=>bif x.kn then θ (.c' x)else ι
  |none=>ι
def Mj(H:δ Ob)(r:Rv):ε Ro:=match r with
 |some (g,v)=>θ ⟨g,v,H,[]⟩
 |none=>ι
def mO(H:δ Ob)(v:ε SV):ε Ro:=match v with
 |some v=>θ ⟨[],v,H,[]⟩
 |none=>ι
variable{a:Type}
def gM(x:SV)(f:SC->ε a):ε a:=match x with
 |.c' x=>f x
 |_=>ι
def Ii(c:χ->SV)(x:ε χ)(f:ε SC->ε a):ε a:=match x with
 |none=>f ι
 |some o=>gM (c o) λb=>f (θ b)
end
@[reducible] def Ty.uf:(t:Ty)->Inhabited t.T
 |.i' _=>⟨0⟩
 |.c'=>⟨0⟩
 |.s'=>⟨[]⟩
 |.b'=>⟨ν⟩
 |.u'=>⟨()⟩
 |.w' x=>x.uf
 |.pr x y=>⟨(x.uf.default,y.uf.default)⟩
 |.sm x _=>⟨.inl x.uf.default⟩
 |.l' _ _ x=>⟨[]⟩
 |.y'=>⟨[]⟩
 |.r' x=>⟨[]⟩
 |.p' _ x=>x.uf
 |.z'=>⟨()⟩
 |.o' _=>⟨()⟩
 |.f' _ x=>x.uf
def dk:(t:Ty)->δ t.T->Int->t.T
 |.c',l,j=>Κ l j
 |t,l,j=> @el t.T t.uf l j
def vd(t:Ty)(l:δ t.T)(j:Int):δ SC:=(t.lay 0 0 (dk t l j)).1
section
variable(C : Cx)
def wE(H:δ Ob)(t:Ty)(x:SC):ε (δ t.T):=match x with
 |.n'=>θ []
 |.l' id=>Hu t (fC H id)
 |.k' id m=>match fC H id with
  |some (.bl _ cs)=>pS t m cs
  |_=>ι
 |_=>ι
def DB(sz:Nat)(j:Int)(t:Ty):η:=bif cY sz t.sz then μ else match j with
 |.ofNat 0=>μ
 |_=>ν
def rT(H:δ Ob)(t:Ty)(l:δ t.T)(j:Int)(sz off n:Nat)(a:η):ε Ro:=
 match vV (vd t l j) off n a with
 |some v=>bif (bif DB sz j t then t.flat else ν)then θ ⟨[⟨0<=j/\j<γ l,inferInstance⟩],v,H,[]⟩else ι
 |none=>ι
def bk(t:Ty):δ t.T->δ SC
 |[]=>[]
 |x::l=>(t.lay 0 0 x).1++bk t l
def Kn(H:δ Ob)(t:Ty)(l:δ t.T)(j:Int)(off n:Nat)(a:η):ε Ro:=match j with
 |.ofNat 0=>bif t.flat then mO H (vV (bk t l) off n a)else ι
 |_=>ι
def kI(H:δ Ob)(t:Nat)(x:SC):ε Ro:=match Uj C t,E1 C t with
 |some n,θ a=>bif cY n 0 then ι else match x with
  |.p' id off=>match fC H id with
   |some (.bl _ cs)=>mO H (vV cs off n a)
   |_=>ι
  |.q' id j b off=>match fC H id with
   |some (.rw _ _ t' l)=>rT H t' l j b off n a
   |some (.ro t' l)=>(match rT H t' l j b off n a with
    |some r=>θ r
    |none=>Kn H t' l j off n a)
   |some (.br _ l)=>rT H .c' l j b off n a
   |_=>ι
  |_=>ι
 |_,_=>ι
def yi(t:Ty)(l:δ t.T)(j:Int)(off:Nat)(vs:δ SC):ε (δ t.T):=match uU (vd t l j) off vs with
 |some cs=>match t.EO cs with
  |some (x,[])=>θ (jH l (bL j) x)
  |_=>ι
 |none=>ι
def stoE(H:δ Ob)(id:Nat)(j:Int)(len:Nat)(o:Ob):ε Ro:=θ ⟨[⟨0<=j/\j<len,inferInstance⟩],.u',jC H id o,[(id,0,1)]⟩
def Jp(H:δ Ob)(t:Nat)(x:SC)(v:SV):ε Ro:=match Uj C t,v.cells with
 |some n,θ a=>bif cY (γ a) n then(match x with
  |.p' id off=>match fC H id with
   |some (.bl e cs)=>match uU cs off a with
    |some d=>θ ⟨[],.u',jC H id (.bl e d),[(id,off,off+n)]⟩
    |none=>ι
   |_=>ι
  |.q' id j f off=>bif cY n 0 then ι else match fC H id with
   |some (.rw e b t' l)=>match yi t' l j off a with
    |some l'=>bif (bif DB f j t' then t'.flat else ν)then stoE H id j (γ l) (.rw e b t' l')else ι
    |none=>ι
   |some (.br m l)=>match v with
    |.c' y=>match y.rC with
     |some c=>bif (bif DB f j .c' then cY off 0 else ν)then stoE H id j (γ l) (.br m (jH l (bL j) c))else ι
     |none=>ι
    |_=>ι
   |_=>ι
  |_=>ι)else ι
 |_,_=>ι
def bku(t f:Nat)(x:SC):ε SV:=match Wo C t f with
 |some q=>bif cY q.2.1 0 then ι else match x with
  |.p' id off=>θ (.c' (.p' id (off+q.1)))
  |.q' id j a off=>θ (.c' (.q' id j a (off+q.1)))
  |_=>ι
 |none=>ι
def WC(H:δ Ob)(id:Nat):ε Nat:=match fC H id with
 |some (.rw _ _ t l)=>bif t.flat then θ (γ l) else ι
 |some (.ro t l)=>bif t.flat then θ (γ l) else ι
 |some (.br _ l)=>θ (γ l)
 |_=>ι
def vq(H:δ Ob)(t:Nat)(x d:SC):ε Ro:=match SU d with
 |some j=>match UE C t with
  |some e=>match Uj C e with
   |some a=>match x with
    |.l' id=>match WC H id with
     |some m=>θ ⟨[⟨0<=j/\j<m,inferInstance⟩],.c' (.q' id j a 0),H,[]⟩
     |none=>ι
    |.k' id m=>θ ⟨[⟨0<=j/\j<m,inferInstance⟩],.c' (.p' id (j.toNat*a)),H,[]⟩
    |_=>ι
   |none=>ι
  |none=>match arE C t with
   |some q=>match Uj C q.2 with
    |some a=>match x with
     |.p' id off=>bif Nat.ble 2 q.1 then θ ⟨[⟨0<=j/\j<q.1,inferInstance⟩],.c' (.p' id (off+j.toNat*a)),H,[]⟩else ι
     |.q' id f c b=>bif Nat.ble 2 q.1 then(bif cY c 0 then(bif cY b 0 then θ ⟨[⟨0<=j/\j<q.1,inferInstance⟩],.c' (.q' id j a 0),H,[]⟩else ι)else ι)else ι
     |_=>ι
    |none=>ι
   |none=>ι
 |none=>ι
def BH(H:δ Ob)(s t:Nat)(x:SC):ε Ro:=match UE C s with
 |some e=>bif wG C t then(bif LW C e then(match wE H .c' x with
  |some l=>θ ⟨[],.c' (.s' l),H,[]⟩
  |none=>ι)else ι)else ι
 |none=>match x with
  |.s' l=>match UE C t with
   |some e=>bif wG C s then(bif LW C e then θ ⟨[],.c' (.l' (γ H)),H++[.br (γ l) l],[]⟩else ι)else ι
   |none=>Mj H (y7 C s t x)
  |_=>Mj H (y7 C s t x)
def AE(H:δ Ob)(t:Nat)(x:SC):Rv:=match x with
 |.s' l=>bif wG C t then hO (.i' .i64 (γ l))else ι
 |x=>match UE C t with
  |some _=>(match x with
   |.l' id=>(match fC H id with
    |some o=>hO (.i' .i64 o.len)
    |none=>ι)
   |.k' _ m=>hO (.i' .i64 m)
   |.n'=>hO (.i' .i64 0)
   |_=>ι)
  |none=>ι
def mmC(b:Builtin)(x y:SC):Rv:=match b,x,y with
 |.min,.i' k u,.i' k' v=>bif LU k k' then hO (.i' k (min u v))else ι
 |.max,.i' k u,.i' k' v=>bif LU k k' then hO (.i' k (max u v))else ι
 |_,_,_=>ι
def blL:ε Ob->Nat
 |some (.bl _ cs)=>qW (γ cs)
 |_=>1
def rW(H:δ Ob)(t:Nat)(x y:SC):ε Ro:=match C.E t with
 |some (e,b,τ)=>match x with
  |.n'=>match wE H τ y with
   |some a=>θ ⟨[⟨(γ ([]:δ τ.T)+γ a)*b<=140737488355328,inferInstance⟩],.c' (.l' (γ H)),H++[.rw e b τ ([]++a)],[]⟩
   |none=>ι
  |.l' id=>match tg H id (.l' e b τ),wE H τ y with
   |some l,θ a=>θ ⟨[⟨(γ l+γ a)*b<=140737488355328,inferInstance⟩],.c' (.l' (γ H)),jC H id (.dd (γ l))++[.rw e b τ (l++a)],[(id,0,1)]⟩
   |_,_=>ι
  |.k' id m=>match Ty.rd ν H (.l' e b τ) 0 [.k' id m],wE H τ y with
   |some (l,_,_),θ a=>θ ⟨[⟨(γ l+γ a)*b<=140737488355328,inferInstance⟩],.c' (.l' (γ H)),jC H id (.dd 0)++[.rw e b τ (l++a)],[(id,0,blL (fC H id))]⟩
   |_,_=>ι
  |_=>ι
 |none=>ι
def zU8(e:Nat):η:=match C.P.info? e with
 |some i=>(match i.zero with
  |some (.int .u8 (.ofNat 0))=>μ
  |_=>ν)
 |none=>ν
def Vg(H:δ Ob)(t s:Nat)(x:SC)(a:aC):ε Ro:=bif wG C s then(match C.E t with
 |some (e,b,.c')=>bif cY b 1 then(bif zU8 C e then(match x with
  |.n'=>θ ⟨[⟨(γ ([]:aC)+γ a)*1<=140737488355328,inferInstance⟩],.c' (.l' (γ H)),H++[.rw e 1 .c' ([]++a)],[]⟩
  |.l' id=>(match tg H id (.l' e 1 .c')with
   |some l=>θ ⟨[⟨(γ l+γ a)*1<=140737488355328,inferInstance⟩],.c' (.l' (γ H)),jC H id (.dd (γ l))++[.rw e 1 .c' (l++a)],[(id,0,1)]⟩
   |none=>ι)
  |_=>ι)else ι)else ι
 |_=>ι)else ι
def Yg(H:δ Ob)(t s:Nat)(x:SC):SC->ε Ro
 |.s' a=>Vg C H t s x a
 |_=>ι
def NI(d:χ->SV)(H:δ Ob)(b:Builtin)(fR:δ χ)(e:δ Nat):ε Ro:=match b,fR,e with
 |.len,[x],[t]=>Mj H (gM (d x) (AE C H t))
 |.append,[x,y],[t,t']=>bif cY t t' then gM (d x) λa=>gM (d y) λc=>rW C H t a c else gM (d x) λa=>gM (d y) λc=>Yg C H t t' a c
 |b,[x,y],_=>Mj H (gM (d x) λa=>gM (d y) λc=>mmC b a c)
 |_,_,_=>ι
def Hn(sz:Nat->ε (Nat×Nat))(b:χ->SV):δ (Nat×χ)->δ SC->ε (δ SC)
 |[],l=>θ l
 |p::c,l=>match sz p.1,(b p.2).cells with
  |some q,θ a=>bif cY (γ a) q.2 then(match uU l q.1 a with
   |some l'=>Hn sz b c l'
   |none=>ι)else ι
  |_,_=>ι
def zV(z:δ SC):Nat->δ SC
 |0=>[]
 |n+1=>z++zV z n
def Jn:δ Field->ε (δ (Nat×Nat))
 |[]=>θ []
 |f::a=>match Uj C f.type with
  |some n=>match Jn a with
   |some l=>θ ((f.offset,n)::l)
   |none=>ι
  |none=>ι
def plOf(t:Nat):ε (Nat->ε (Nat×Nat)):=match C.P.underlying t with
 |some (.struct a)=>match Jn C a.toList with
  |some l=>θ (fC l)
  |none=>ι
 |some (.array _ e)=>match Uj C e with
  |some n=>θ λi=>θ (i*n,n)
  |none=>ι
 |_=>ι
def Jq(c:χ->SV)(t:Nat)(a:δ (Nat×χ)):ε SV:=match zC C t,plOf C t with
 |some z,θ b=>match Hn b c a z with
  |some cs=>θ (.a' cs)
  |none=>ι
 |_,_=>ι
def auw(b:χ->SV)(H:δ Ob)(t len:Nat)(a:δ (Nat×χ)):ε Ro:=match UE C t with
 |some e=>match zC C e,Uj C e with
  |some z,θ n=>bif cY (γ z) n then(bif Nat.ble (len*n) 100000 then(match Hn (λi=>θ (i*n,n)) b a (zV z len)with
   |some cs=>θ ⟨[],.c' (.k' (γ H) len),H++[.bl e cs],[]⟩
   |none=>ι)else ι)else ι
  |_,_=>ι
 |none=>ι
def isZ:χ->η
 |.const (.int _ (.ofNat 0))=>μ
 |_=>ν
def mr:χ->η
 |.const (.int _ (.ofNat _))=>μ
 |_=>ν
def Dw(H:δ Ob)(t:Nat)(z:η)(x y:SC):ε Ro:=match C.E t with
 |some (e,b,τ)=>bif z then(match SU y with
   |some c=>θ ⟨[⟨0<=c/\b*c<=281474976710656,dMk b c⟩],.c' (.l' (γ H)),H++[.rw e b τ []],[]⟩
   |_=>ι)else ι
 |none=>ι
def pg:δ SV->ε (δ Nat)
 |[]=>θ []
 |v::l=>match v with
  |.c' (.p' id off)=>bif cY off 0 then(match pg l with
   |some q=>θ (id::q)
   |none=>ι)else ι
  |_=>ι
def Zw(b:χ->SV)(f:Fn)(first cap:δ χ):ε SV:=match f with
 |.func k=>match first with
  |[]=>match pg (cap.map b)with
   |some a=>θ (.c' (.f' k a))
   |none=>ι
  |_=>ι
 |_=>ι
def FA(x:SC):ε SV:=match x with
 |.p' id off=>θ (.c' (.p' id off))
 |.q' id j b off=>θ (.c' (.q' id j b off))
 |.f' k a=>θ (.c' (.f' k a))
 |_=>ι
def RC(t:Nat):η:=match C.P.underlying t with
 |some (.pointer _)=>μ
 |_=>ν
def isBool(t:Nat):η:=match C.P.underlying t with
 |some .bool=>μ
 |_=>ν
def GN(t:Nat):η:=match C.P.underlying t with
 |some (.slice _)=>μ
 |_=>ν
def GO:BinOp->η
 |.eql=>μ
 |_=>ν
def qd(z:η)(t:Nat)(b:BinOp)(x y:SC):Rv:=
 match x,y with
 |.p' _ _,.o' j=>bif cY j 0 then(bif RC C t then(bif GO b then hO (.b' ν)else ι)else ι)else ι
 |.o' j,.o' a=>bif cY j 0 then(bif cY a 0 then(bif RC C t then(bif GO b then hO (.b' μ)else ι)else ι)else ι)else ι
 |.k' _ _,.n'=>bif GN C t then(bif GO b then hO (.b' ν)else ι)else ι
 |.n',.n'=>bif GN C t then(bif GO b then hO (.b' μ)else ι)else ι
 |x,y=>match x.rB,y.rB with
  |some u,θ v=>bif isBool C t then bB b u v else ι
  |_,_=>bin z b x y
def ga:δ SC->ε (aC×aC)
 |[.s' a,.s' b]=>θ (a,b)
 |_=>ι
def WI(t:Nat):η:=bif wG C t then(match E1 C t with
 |some a=> !a
 |none=>ν)else ν
def isHd(t:Nat):η:=match C.P.underlying t with
 |some (.struct a)=>(match a.toList with
  | [f, g] => bif WI C f.type then (bif WI C g.type then (bif cY f.offset 0 then (bif cY g.offset 1 then (bif f.name == "_" then ν else (bif g.name == "_" then ν else (bif C.P.stoodInHeld t then ν else !C.P.eqGuardType C.P.depth t))) else ν) else ν) else ν) else ν
  |_=>ν)
 |_=>ν
def qe(z:η)(t:Nat)(b:BinOp)(x y:SV):Rv:=match x with
 |.a' l=>(match y with
  |.a' d=>(match ga l with
   |some u=>(match ga d with
    |some v=>bif isHd C t then(match b with
     |.eql=>hO (.d' (u=v) inferInstance)
     |.neq=>hO (.e' (u=v) inferInstance)
     |_=>ι)else ι
    |none=>ι)
   |none=>ι)
  |_=>ι)
 |x=>gM x λa=>gM y λc=>qd C z t b a c
def Ih(H:δ Ob)(t:Nat)(x:SC)(d f:ε SC):ε Ro:=match x with
 |.l' id=>(match fC H id with
  |some (.ro τ l)=>(match UE C t with
   |some e=>(match Uj C e with
    |some c=>bif cY c τ.sz then(bif τ.flat then(match d,f with
     |none,θ b=>(match SU b with
      |some j=>θ ⟨[⟨0<=j/\j<=γ l,inferInstance⟩],.c' (.l' (γ H)),H++[.ro τ (eN (bL j) l)],[]⟩
      |none=>ι)
     |some a,ι=>(match SU a with
      |some j=>θ ⟨[⟨0<=j/\j<=γ l,inferInstance⟩],.c' (.l' (γ H)),H++[.ro τ (cC (bL j) l)],[]⟩
      |none=>ι)
     |_,_=>ι)else ι)else ι
    |none=>ι)
   |none=>ι)
  |_=>ι)
 |_=>ι
def R6(t:Nat)(cs:δ SC)(i:SC):Rv:=match arE C t with
 |some q=>bif wG C q.2 then(match Uj C q.2,E1 C q.2 with
  |some 1,θ ν=>(match pS .s' q.1 cs,SU i with
   |some l,θ j=>Tg (0<=j/\j<γ l) (.s' (dk .s' l j))
   |_,_=>ι)
  |_,_=>ι)else ι
 |none=>ι
def iC(d:χ->SV)(H:δ Ob):Op->ε Ro
 |.move x=>mO H (match d x with
  |.u'=>ι
  |v=>θ v)
 |.assign x=>mO H (match d x with
  |.u'=>ι
  |v=>θ v)
 |.pick c a b=>gM (d c) λx=>match x with
  |.b' t=>mO H (match(bif t then d a else d b)with
   |.u'=>ι
   |v=>θ v)
  |_=>ι
 |.binOp b t x y _=>Mj H (qe C (mr y) t b (d x) (d y))
 |.unOp .not _ x=>Mj H (gM (d x) zt)
 |.convert s t x=>gM (d x) (BH C H s t)
 |.index t x g=>bif wG C t then Mj H (gM (d x) λa=>gM (d g) λi=>ixC a i)else(match d x with
  |.a' cs=>Mj H (gM (d g) λi=>R6 C t cs i)
  |_=>ι)
 |.slice t x k m ι=>bif wG C t then Mj H (gM (d x) λa=>Ii d k λi=>Ii d m λj=>Z8 a i j)else gM (d x) λa=>Ii d k λi=>Ii d m λj=>Ih C H t a i j
 |.extract x i=>match d x with
  |.t' l=>match fC l i with
   |some y=>θ ⟨[],y.sv,H,[]⟩
   |none=>ι
  |_=>ι
 |.field t x f=>match d x with
  |.a' l=>match Wo C t f with
   |some q=>mO H (vV l q.1 q.2.1 q.2.2)
   |none=>ι
  |_=>ι
 |.build t h=>mO H (Jq C d t h.toList)
 |.alloc e=>match zC C e with
  |some z=>θ ⟨[],.c' (.p' (γ H) 0),H++[.bl e z],[]⟩
  |none=>ι
 |.box e v=>match(d v).cells with
  |some cs=>θ ⟨[],.c' (.p' (γ H) 0),H++[.bl e cs],[]⟩
  |none=>ι
 |.buildSlice t n h=>auw C d H t n h.toList
 |.load t x=>gM (d x) λa=>kI C H t a
 |.store t x v=>gM (d x) λa=>Jp C H t a (d v)
 |.fieldAddr t x f=>gM (d x) λa=>mO H (bku C t f a)
 |.indexAddr t x g=>gM (d x) λa=>gM (d g) λi=>vq C H t a i
 |.makeSlice t n c=>gM (d n) λa=>gM (d c) λi=>Dw C H t (isZ n) a i
 |.makeFunc f a b=>mO H (Zw d f a.toList b.toList)
 |.nilCheck x=>gM (d x) λa=>mO H (FA a)
 |.call c=>match c.callee with
  |.builtin b=>NI C d H b c.args.toList c.argTypes.toList
  |_=>ι
 |_=>ι
def opP(a:χ->SV)(H:δ Ob)(op:Op):ε Ro:=match op with
 |.convert s t x=>Mj H (gM (a x) (y7 C s t))
 |.slice t x c d b=>bif wG C t then iC C a H (.slice t x c d b)else ι
 |op=>iC C a H op
end
inductive Ex where
 |nm
 |xt (id:Nat)
abbrev Rg:=Nat×Nat×Nat
inductive Sc where
 |n'
 |s' (a b:Sc)
 |j' (J:List Key) (R:List Nat) (a b:Sc)
 |r' (J:List Key) (R:List Nat) (a b:Sc)
 |l' (J:List Key) (a:Sc)
 |y' (a:Sc)
 |z' (a:Sc)
def Sc.A:Sc->Sc
 |.s' a _=>a
 |.j' _ _ a _=>a
 |.r' _ _ a _=>a
 |.l' _ a=>a
 |.y' a=>a
 |_=>.n'
def Sc.B:Sc->Sc
 |.s' _ b=>b
 |.j' _ _ _ b=>b
 |.r' _ _ _ b=>b
 |.z' b=>b
 |_=>.n'
def lG(t:Nat):δ Nat->η
 |[]=>ν
 |x::l=>bif cY t x then μ else lG t l
def HW(l r:δ Nat):η:=match l with
 |[]=>μ
 |x::l=>bif lG x r then ν else HW l r
def Sn:δ Nat->η
 |[]=>μ
 |x::l=>bif lG x l then ν else Sn l
def eO(id j:Nat):δ Rg->η
 |[]=>ν
 |q::l=>bif cY q.1 id then(bif Nat.ble q.2.1 j then(bif fI j q.2.2 then μ else eO id j l)else eO id j l)else eO id j l
def x1(id a:Nat)(b:δ Rg):Nat->η
 |0=>μ
 |n+1=>bif eO id (a+n) b then x1 id a b n else ν
def St.ok(S:St)(q:Rg):η:=bif fI q.1 S.nb then x1 q.1 q.2.1 S.al (q.2.2-q.2.1)else μ
def St.Hd(S:St):δ Rg->η
 |[]=>μ
 |x::l=>bif S.ok x then S.Hd l else ν
def gV:δ Src->δ Nat
 |[]=>[]
 |s::l=>s.own++gV l
def pt:δ Src->δ Nat
 |[]=>[]
 |s::l=>s.bor++pt l
def wR(H:δ Ob)(id:Nat):Rg:=(id,0,match fC H id with
 |some (.bl _ cs)=>qW (γ cs)
 |_=>1)
def sZ(H:δ Ob)(id:Nat):Rg:=(id,0,match fC H id with
 |some (.bl _ cs)=>γ cs
 |_=>1)
def BM(H:δ Ob):δ Nat->δ Rg
 |[]=>[]
 |x::l=>sZ H x::BM H l
def Xg(H:δ Ob):δ Nat->δ Rg
 |[]=>[]
 |x::l=>wR H x::Xg H l
def St.take(S:St)(ss:δ Src):η:=bif Sn (gV ss)then S.Hd (Xg S.H (gV ss))else ν
def kill(H:δ Ob):δ Nat->δ Ob
 |[]=>H
 |x::l=>kill (jC H x (.dd (fN H x))) l
def TT:δ SC->Nat->Nat->δ SC
 |[],_,_=>[]
 |x::l,a,n=>match a with
  |a+1=>x::TT l a n
  |0=>match n with
   |0=>x::l
   |n+1=>.u'::TT l 0 n
def Xe(H:δ Ob):δ Rg->δ Ob
 |[]=>H
 |q::l=>match fC H q.1 with
  |some (.bl e cs)=>Xe (jC H q.1 (.bl e (TT cs q.2.1 (q.2.2-q.2.1)))) l
  |_=>Xe (jC H q.1 (.dd (fN H q.1))) l
def PJ(a:Nat->Nat):δ Key->δ Rg
 |[]=>[]
 |k::l=>match k with
  |.s' _ _=>PJ a l
  |.o' t off x=>(a t,off,off+x.cn)::PJ a l
  |.w' t _=>(a t,0,1)::PJ a l
def wF:ε Ob->η
 |some (.rw _ _ _ _)=>μ
 |some (.br _ _)=>μ
 |_=>ν
def vS(H:δ Ob):δ SC->δ Nat
 |[]=>[]
 |x::l=>match x with
  |.l' id=>bif wF (fC H id)then id::vS H l else vS H l
  |.k' id _=>match fC H id with
   |some (.bl _ _)=>id::vS H l
   |_=>vS H l
  |_=>vS H l
def Ty.MA:Ty->η
 |.w' x=>x.MA
 |.pr x y=>bif x.MA then μ else y.MA
 |.l' _ _ _=>μ
 |.y'=>μ
 |_=>ν
def eatK(a:Nat->Nat)(F:Nat->SV)(H:δ Ob):δ Key->δ Nat
 |[]=>[]
 |k::l=>(match k with
  |.s' t x=>bif x.MA then(match(F t).cells with
   |some cs=>vS H cs
   |none=>[])else []
  |.o' t off x=>bif x.MA then(match fC H (a t)with
   |some (.bl _ cs)=>match Aq (As cs off) x.cn with
    |some q=>vS H q
    |none=>[]
   |_=>[])else []
  |.w' _ _=>[])++eatK a F H l
def Key.F7:δ Key->δ Nat
 |[]=>[]
 |k::l=>match k with
  |.s' t _=>t::Key.F7 l
  |_=>Key.F7 l
def del(F:Tr SV):δ Nat->Tr SV
 |[]=>F
 |x::l=>del (F.set x .u') l
def Gn:δ Α->δ Nat
 |[]=>[]
 |o::l=>match o.dst with
  |some d=>d::Gn l
  |none=>Gn l
noncomputable def wr(c:Code):δ Nat:=Code.rec [] (λ_ d _=>Gn d.toList) (λ_ _ a b=>a++b) (λ_ _ _ a b=>a++b) (λ_ _ a=>a) (λ_ a=>a) (λ_ e _ _ a b=>e.toList++(a++b))
 (λ_=>[]) (λ_ a=>a) (λ_=>[]) (λ_=>[]) [] (λ_=>[]) c
def SV.pid:SV->Nat
 |.c' (.p' id _)=>id
 |.c' (.l' id)=>id
 |.c' (.k' id _)=>id
 |.c' (.f' _ (id::_))=>id
 |_=>0
def St.ix(S:St)(t:Nat):Nat:=(S.at t).pid
def St.ve(S:St)(J:δ Key):δ Nat:=eatK S.ix S.at S.H J
def St.Sg(S:St)(J:δ Key):δ Rg:=PJ S.ix J++Xg S.H (S.ve J)
def MO:δ Rg->η
 |[]=>μ
 |q::l=>bif (XK q l)then MO l else ν
where XK (q:Rg):δ Rg->η
 |[]=>μ
 |r::l=>bif cY q.1 r.1 then(bif Nat.ble q.2.2 r.2.1 then XK q l else(bif Nat.ble r.2.2 q.2.1 then XK q l else ν))else XK q l
def pf(S:St):δ Key->η
 |[]=>μ
 |k::l=>bif (match k with
  |.o' t off x=>(match fC S.H (S.ix t)with
   |some (.bl _ cs)=>Nat.ble (off+x.cn) (γ cs)
   |_=>ν)
  |.w' t x=>wF (fC S.H (S.ix t))
  |_=>μ)then pf S l else ν
def St.okJ(S:St)(J:δ Key):η:=bif S.Hd (S.Sg J)then(bif MO (S.Sg J)then(bif Sn (Key.F7 J)then pf S J else ν)else ν)else ν
def St.AP(S:St):St:=⟨S.F,S.H,S.nb,S.al,[]⟩
def KD(n:Nat)(a:δ Rg):δ Rg->η
 |[]=>μ
 |q::l=>bif (bif fI q.1 n then x1 q.1 q.2.1 a (q.2.2-q.2.1)else μ)then KD n a l else ν
def tk(S:St)(J:δ Key)(ss:δ Src):η:=bif Sn (gV ss)then tkI (γ S.H) (S.ve J) (gV ss)else ν
where tkI (n:Nat) (e:δ Nat):δ Nat->η
 |[]=>μ
 |id::l=>bif (bif Nat.ble n id then μ else lG id e)then tkI n e l else ν
def leaf(S:St)(J:δ Key)(S2:St):ε (qJ J).T:=match rdK S.ix S2.at S2.H J with
 |some (v,a)=>bif tk S J a then(bif KD (γ S.H) (S.Sg J) S2.m then θ v else ι)else ι
 |none=>ι
def St.out(S:St)(J:δ Key)(w:δ Nat)(v:(qJ J).T):St:=match If S.ix (del S.F w,kill (Xe S.H (PJ S.ix J)) (S.ve J)) J v with
 |(F,H)=>⟨F,H,S.nb,S.al,S.Sg J++S.m⟩
def St.head(S:St)(J:δ Key)(w:δ Nat)(v:(qJ J).T):St:=match If S.ix (del S.F w,kill (Xe S.H (PJ S.ix J)) (S.ve J)) J v with
 |(F,H)=>⟨F,H,S.nb,S.al,[]⟩
def St.as(S2 S:St)(J:δ Key):St:=⟨S2.F,S2.H,S2.nb,S2.al,S2.m++(S.Sg J++S.m)⟩
section
variable(C : Cx) (τ : Ty) (res : St -> ε τ.T)
def Pt(d:ε Nat)(v:SV):η:=match d,v with
 |none,.u'=>μ
 |none,_=>ν
 |some _,.u'=>ν
 |some _,_=>μ
def St.run(S:St)(d:ε Nat)(v:SV)(H:δ Ob)(m:δ Rg):ε St:=bif Pt d v then(bif S.Hd m then θ (St.xA ⟨S.F,H,S.nb,S.al,m++S.m⟩ d v)else ι)else ι
def Jv(ss:δ Src)(j:Nat):Nat:=match fC ss j with
 |some (.o' id _)=>id
 |_=>0
def Rk.ids:δ Rk->δ Nat
 |[]=>[]
 |k::l=>match k with
  |.r' _=>Rk.ids l
  |.o' id _ _=>id::Rk.ids l
  |.w' id _=>id::Rk.ids l
def kM(outs:δ Nat):δ Ob->Nat->δ Src->δ Nat
 |[],_,_=>[]
 |_::_,_,[]=>[]
 |o::a,j,s::b=>(bif wF (θ o)then(bif lG j outs then []else s.own)else [])++kM outs a (j+1) b
def kH(ss:δ Src):δ Nat->δ Nat
 |[]=>[]
 |j::l=>Jv ss j::kH ss l
def kQ(c:yO)(S:St)(a:(fU c.a).T)(ss:δ Src):δ Rg:=Xg S.H (kM (Rk.ids c.r) (jB [] c.a a).2 0 ss)++BM S.H (kH ss (Rk.ids c.r))
def kP(c:yO)(S:St)(d:ε Nat)(a:(fU c.a).T)(ss:δ Src)(y:(gU c.r).T):St:=
 match fV (Jv ss) ([],kill S.H (kM (Rk.ids c.r) (jB [] c.a a).2 0 ss)) c.r y with
 |(l,H)=>St.xA ⟨S.F,H,S.nb,S.al,kQ c S a ss++S.m⟩ d (lD l)
def Ty.nb:Ty->η
 |.w' x=>x.nb
 |.pr x y=>bif x.nb then y.nb else ν
 |.r' _=>ν
 |.p' _ x=>x.nb
 |.f' _ x=>x.nb
 |_=>μ
def Lt(H:δ Ob)(ss:δ Src):δ Rk->η
 |[]=>μ
 |k::l=>bif (match k with
  |.r' x=>bif x.tz then ν else x.nb
  |.o' j e x=>bif x.nb then(match fC ss j with
   |some (.o' id w)=>bif w then(match fC H id with
    |some (.bl a cs)=>bif cY a e then cY (γ cs) x.cn else ν
    |_=>ν)else ν
   |_=>ν)else ν
  |.w' j x=>(match fC ss j with
   |some (.o' id w)=>bif w then wF (fC H id)else ν
   |_=>ν))then Lt H ss l else ν
def mG(c:yO)(S:St)(a:(fU c.a).T)(ss:δ Src):η:=
 bif Sn (gV ss)then(bif HW (pt ss) (gV ss)then(bif Lt S.H ss c.r then S.Hd (kQ c S a ss)else ν)else ν)else ν
def lU{ρ:Ty}(S:St)(d:ε Nat)(vs:δ SV)(b:St->ε ρ.T):δ yO->ε ρ.T
 |[]=>ι
 |c::l=>match QA S.H c.a vs with
  |some (a,e)=>bif mG c S a e then(c.f a).bd λy=>b (kP c S d a e y)else ι
  |none=>lU S d vs b l
variable{b:Ty}
def callD(S:St)(d:ε Nat)(k:Nat)(vs:δ SV)(a:St->ε b.T):ε b.T:=lU S d vs a (C.X k)
def fnV:SV->ε (Nat×δ Nat)
 |.c' (.f' k a)=>θ (k,a)
 |_=>ι
def XS:δ Nat->δ SV
 |[]=>[]
 |id::l=>.c' (.p' id 0)::XS l
def ij(S:St)(d:ε Nat)(op:Op)(ρ:St->ε b.T):ε b.T:=
 match iC C (S.ev C) S.H op with
 |some ⟨g,v,H,m⟩=>match S.run d v H m with
  |some e=>gdL g (ρ e)
  |none=>ι
 |none=>match op with
  |.call c=>match c.callee with
   |.value f=>match fnV (S.ev C f)with
    |some (k,a)=>callD C S d k (c.args.toList.map (S.ev C)++XS a) ρ
    |none=>ι
   |_=>ι
  |_=>ι
def isG(a:δ Α)(i:Nat):η:=match a with
 |[]=>ν
 |o::l=>match o.guard with
  |some q=>bif cY q.1 i then μ else isG l i
  |none=>isG l i
variable{a:Type}
def af(v:SV)(y n:ε a):ε a:=match v with
 |.c' (.b' x)=>bif x then y else n
 |.c' (.d' p h)=> @ite _ p h y n
 |.c' (.e' p h)=> @ite _ p h n y
 |_=>ι
def S5:Op->ε χ
 |.move x=>θ x
 |.assign x=>θ x
 |_=>ι
def ig(ρ:δ Α)(i:Nat)(S:St)(o:Α)(a:St->ε b.T):ε b.T:=
 bif isG ρ i then(match S5 o.op with
  |some x=>match o.dst with
   |some d=>af (S.ev C x) (a (S.set d (.c' (.b' μ)))) (a (S.set d (.c' (.b' ν))))
   |none=>ι
  |none=>ij C S o.dst o.op a)
 else ij C S o.dst o.op a
def beqB(a b:η):η:=bif a then b else !b
def HD(a:δ Α)(i:Nat):ε Nat:=match fC a i with
 |some o=>o.dst
 |none=>ι
def UK(a:δ Α)(i:Nat)(S:St)(o:Α)(ρ:St->ε b.T):ε b.T:=
 match o.guard with
 |none=>ig C a i S o ρ
 |some q=>match HD a q.1 with
  |some dg=>bif fI dg C.nn then(match S.at dg with
   |.c' (.b' x)=>bif beqB x q.2 then ig C a i S o ρ else(match o.dst with
    |some d=>ρ (S.set d .n')
    |none=>ι)
   |.n'=>(match o.dst with
    |some d=>ρ (S.set d .n')
    |none=>ι)
   |_=>ι)else ι
  |none=>ι
def VN{ρ:Ty}(a:δ Α):δ Α->Nat->St->(St->ε ρ.T)->ε ρ.T
 |[],_,S,b=>b S
 |o::l,i,S,b=>UK C a i S o λc=>VN a l (qW i) c b
def Ai:δ χ->δ Nat
 |[]=>[]
 |x::l=>match x with
  |.tmp t=>t::Ai l
  |_=>Ai l
def Dp:Op->η
 |.move _=>μ
 |.assign _=>μ
 |.pick _ _ _=>μ
 |.binOp _ _ _ _ _=>μ
 |.unOp _ _ _=>μ
 |.convert _ t _=> !GN C t
 |.index _ _ _=>μ
 |.slice t _ _ _ _=>wG C t
 |.extract _ _=>μ
 |.field _ _ _=>μ
 |.build _ _=>μ
 |.fieldAddr _ _ _=>μ
 |.load _ _=>μ
 |.indexAddr _ _ _=>μ
 |.makeFunc _ _ _=>μ
 |.nilCheck _=>μ
 |.call c=>match c.callee with
  |.builtin .len=>μ
  |.builtin .min=>μ
  |.builtin .max=>μ
  |_=>ν
 |_=>ν
def Xc:SV->δ Nat
 |.c' (.p' id _)=>[id]
 |.c' (.q' id _ _ _)=>[id]
 |.c' (.l' id)=>[id]
 |.c' (.k' id _)=>[id]
 |_=>[]
def HF(a:χ->SV):δ χ->δ Nat
 |[]=>[]
 |x::l=>Xc (a x)++HF a l
def Wm(a:χ->SV):Op->δ Nat
 |.load _ x=>Xc (a x)
 |.indexAddr _ x _=>Xc (a x)
 |.convert _ _ x=>Xc (a x)
 |.call c=>HF a c.args.toList
 |_=>[]
def oc(n:Nat):δ Rg->δ Nat
 |[]=>[]
 |q::l=>match n with
  |0=>[]
  |n+1=>q.1::oc n l
def ld:δ Rg->Nat
 |[]=>0
 |_::l=>qW (ld l)
def Bt:δ Ty->η
 |[]=>μ
 |x::l=>bif cY x.no 0 then Bt l else ν
def wC:δ Rk->η
 |[]=>μ
 |k::l=>match k with
  |.r' x=>bif cY x.no 0 then wC l else ν
  |_=>ν
def X1:δ yO->η
 |[]=>μ
 |c::l=>bif Bt c.a then(bif wC c.r then X1 l else ν)else ν
def qt(op:Op):η:=bif Dp C op then μ else(match op with
 |.call c=>(match c.callee with
  |.value (.func k)=>X1 (C.X k)
  |_=>ν)
 |_=>ν)
def entry(S S2:St)(o:Α):η×δ Nat:=bif qt C o.op then(ν,Wm (S.ev C) o.op)else(μ,oc (Nat.sub (ld S2.m) (ld S.m)) S2.m)
def kc{ρ:Ty}(a:δ Α):δ Α->Nat->St->δ (η×δ Nat)->(St->δ (η×δ Nat)->ε ρ.T)->ε ρ.T
 |[],_,S,c,b=>b S c
 |o::l,i,S,c,b=>UK C a i S o λd=>kc a l (qW i) d (c++[entry C S d o]) b
def TU:δ Nat->δ Nat->δ Nat
 |[],r=>r
 |x::l,r=>bif lG x r then TU l r else TU l (x::r)
def Qr(A:δ (δ Nat)):δ Edge->δ Nat
 |[]=>[]
 |e::l=>bif Region.binds .any e then TU (e.on::(match fC A e.on with
  |some a=>a
  |none=>[])) (Qr A l)else Qr A l
def gO:δ Α->δ (δ Nat)->δ (δ Nat)
 |[],A=>A
 |o::l,A=>gO l (A++[Qr A o.after.toList])
def Qh(A:δ (δ Nat))(i:Nat):δ Nat:=match fC A i with
 |some a=>a
 |none=>[]
def Qk:δ Α->Nat->η
 |[],_=>μ
 |o::l,i=>bif o.after.toList.all (λe=>bif Region.binds .any e then fI e.on i else μ)then Qk l (qW i)else ν
def Wh(a:δ Α)(o:Α):δ Nat:=match o.guard with
 |some q=>(match HD a q.1 with
  |some d=>[d]
  |none=>[])
 |none=>[]
def EZ(A:δ (δ Nat))(i j:Nat):η:=bif lG i (Qh A j)then μ else lG j (Qh A i)
def Zv(A:δ (δ Nat))(i:Nat)(rd:δ Nat):δ Α->Nat->η
 |[],_=>μ
 |o::l,j=>bif (match o.dst with
  |some d=>bif lG d rd then(bif cY i j then μ else EZ A i j)else μ
  |none=>μ)then Zv A i rd l (qW j)else ν
def Jo(a:δ Α)(A:δ (δ Nat))(all:δ Α):δ Α->Nat->η
 |[],_=>μ
 |o::l,i=>bif Zv A i (Ai o.op.operands.toList++Wh a o) all 0 then Jo a A all l (qW i)else ν
def Zz(A:δ (δ Nat))(i:Nat)(q:η×δ Nat):δ (η×δ Nat)->Nat->η
 |[],_=>μ
 |p::l,j=>bif (bif cY i j then μ else(bif EZ A i j then μ else(bif p.1 then(bif q.1 then ν else HW q.2 p.2)else μ)))then Zz A i q l (qW j)else ν
def QQ(A:δ (δ Nat))(all:δ (η×δ Nat)):δ (η×δ Nat)->Nat->η
 |[],_=>μ
 |q::l,i=>bif Zz A i q all 0 then QQ A all l (qW i)else ν
def SK{a:Type}:δ a->Nat->δ a
 |[],_=>[]
 |x::l,k=>match k with
  |0=>[]
  |k+1=>x::SK l k
def Y9(a:Array Α):Nat->ε Nat
 |0=>bif Fy a 0 then θ 0 else ι
 |k+1=>bif Fy a (qW k)then(match Y9 a k with
  |some j=>θ j
  |none=>θ (qW k))else ι
def MN(a:Array Α)(S:St)(c:St->ε b.T):ε b.T:=bif C.P.follows .mixedOrders then(match Y9 a a.size with
 |some k=>(λl=>(λA=>bif Region.seqB .any a (Nat.sub a.size k) k (jZ k μ++jZ (Nat.sub a.size k) ν).toArray then(bif Qk l 0 then(bif Sn (Gn l)then(bif Jo a.toList A l l 0 then
   kc C a.toList l 0 S [] (λd ρ=>bif QQ A ρ ρ 0 then VN C a.toList (As a.toList k) k d c else ι)else ι)else ι)else ι)else ι) (gO l [])) (SK a.toList k)
 |none=>ι)else ι
abbrev Dn(τ:Ty):=Sc->St->(a:Ty)->(τ.T->ε a.T)->(Ex->St->ε a.T)->ε a.T
def vf:Dn τ:=λ_ S _ _ a=>a .nm S
def Z6:Dn τ:=λ_ _ _ _ _=>ι
def oz(a:Array Α)(d:η):Dn τ:=λ_ S _ _ c=>bif d then MN C a S (λb=>c .nm b)else VN C a.toList a.toList 0 S λb=>c .nm b
def Gt(ρ:Ex->St->ε a)(f:St->ε a):Ex->St->ε a
 |.nm,S=>f S
 |.xt i,S=>ρ (.xt i) S
def noK:Ex->St->ε a:=λ_ _=>ι
def Q2(S:St)(J:δ Key)(S2:St):ε (Ty.sm (qJ J) τ).T:=match leaf S J S2 with
 |some v=>θ (.inl v)
 |none=>ι
def Xa(a:δ Α):δ Nat->St->St
 |[],S=>S
 |i::R,S=>Xa a R (match fC a i with
  |some o=>(match o.dst with
   |some d=>(match opP C (S.ev C) S.H o.op with
    |some ⟨[],v,_,_⟩=>S.set d v
    |_=>S)
   |none=>S)
  |none=>S)
def opsOf:Code->δ Α
 |.region _ a d=>bif d then []else a.toList
 |_=>[]
def mF:Op->η
 |.move _=>μ
 |.assign _=>μ
 |.binOp _ _ _ _ _=>μ
 |.unOp _ _ _=>μ
 |.convert _ _ _=>μ
 |.index _ _ _=>μ
 |.extract _ _=>μ
 |.field _ _ _=>μ
 |.build _ _=>μ
 |.fieldAddr _ _ _=>μ
 |.slice _ _ _ _ _=>μ
 |_=>ν
def O3(a:δ Α)(i:Nat):η:=match fC a i with
 |some o=>bif o.guard.isNone then(bif mF o.op then(match o.dst with
  |some d=>(bif lG d (Gn (As a (qW i)))then ν else HW (Ai o.op.operands.toList) (d::Gn (As a (qW i))))
  |none=>ν)else ν)else ν
 |none=>ν
def okR(a:δ Α):δ Nat->η
 |[]=>μ
 |i::R=>bif O3 a i then okR a R else ν
def dSeq(x:Code)(w:δ Nat)(a b:Dn τ):Dn τ:=λf S d c e=>match f with
 |.j' J R h g=>bif S.okJ J then(bif okR (opsOf x) R then Option.bind (a h S.AP (qJ J) (λ_=>ι) (Gt noK (leaf S J))) λv=>b g (Xa C (opsOf x) R (S.out J w v)) d c e else ι)else ι
 |.r' J R h g=>bif S.okJ J then(bif okR (opsOf x) R then Option.bind (a h S.AP (.sm (qJ J) τ) (λr=>θ (.inr r)) (Gt noK (Q2 τ S J))) λj=>dA (λv=>b g (Xa C (opsOf x) R (S.out J w v)) d c e) (λq=>c q) j else ι)else ι
 |f=>a f.A S d c (Gt e λi=>b f.B i d c e)
def dCond(c:χ)(a b:Dn τ):Dn τ:=λf S d g e=>match f with
 |.y' i=>af (S.ev C c) (a i S d g e) ι
 |.z' h=>af (S.ev C c) ι (b h S d g e)
 |f=>af (S.ev C c) (a f.A S d g e) (b f.B S d g e)
def ui(id:Nat)(ρ:Ex->St->ε a):Ex->St->ε a
 |.nm,S=>ρ .nm S
 |.xt i,S=>bif cY i id then ρ .nm S else ρ (.xt i) S
def dBlock(id:Nat)(a:Dn τ):Dn τ:=λd S b e c=>a d S b e (ui id c)
def IM{T:Type}(ρ:St->ε T)(g:T->ε a)(S:St):ε a:=match ρ S with
 |some v=>g v
 |none=>ι
def dLoop(w:δ Nat)(a:Dn τ):Dn τ:=λd S b h c=>match d with
 |.l' J f=>bif S.okJ J then(match leaf S J S.AP with
  |some v=>bE (λg v=>a f (S.head J w v) b h (Gt (λe i=>c e (i.as S J)) (IM (leaf S J) g))) C.fu v
  |none=>ι)else ι
 |_=>ι
def dRet:Dn τ:=λ_ S _ a _=>match res S with
 |some r=>a r
 |none=>ι
noncomputable def den(c:Code):Dn τ:=Code.rec (motive:=λ_=>Dn τ) (vf τ) (λ_ e d=>oz C τ e d) (λx _ a b=>dSeq C τ x (wr x) a b) (λc _ _ a b=>dCond C τ c a b) (λid _ a=>dBlock τ id a) (λx a=>dLoop C τ (wr x) a) (λ_ _ _ _ _ _=>Z6 τ)
 (λid _ S _ _ f=>f (.xt id) S) (λ_ a=>a) (λ_=>vf τ) (λ_=>Z6 τ) (dRet τ res) (λ_=>Z6 τ) c
end
def iB(C:Cx)(S:St):ResultVar->SV
 |.tmp t=>bif fI t C.nn then S.at t else .u'
 |.cell a t=>match bif fI a C.nn then S.at a else .u' with
  |.c' x=>match kI C S.H t x with
   |some ⟨[],v,_,_⟩=>v
   |_=>.u'
  |_=>.u'
def VA(C:Cx)(b:Nat)(c:δ Rg)(rs:δ ResultVar)(r:δ Rk)(S:St):ε (gU r).T:=match rdR S.H r (rs.map (iB C S))with
 |some (x,a)=>bif St.take ⟨S.F,S.H,b,c,[]⟩ a then(bif HW (gV a) (Rk.ids r)then θ x else ι)else ι
 |none=>ι
def endK{ρ:Type}(res:St->ε ρ):Ex->St->ε ρ
 |.nm,S=>res S
 |.xt _,_=>ι
def rG(F:Tr SV):Nat->δ SV->Tr SV
 |_,[]=>F
 |t,v::a=>rG (F.set t v) (t+1) a
def To(r:δ Rk):δ Ob->δ Ob->Nat->δ Rg
 |_,[],_=>[]
 |H,o::l,j=>(bif wF (θ o)then [(j,0,1)]else(bif lG j (Rk.ids r)then [sZ H j]else []))++To r H l (j+1)
def st0(gs:δ Ob)(a:δ Ty)(r:δ Rk)(x:(fU a).T):St:=match jB [] a x with
 |(b,H)=>⟨rG Tr.e 0 b,H++gs,γ (H++gs),To r H H 0,[]⟩
def Ew:Ty->η
 |.l' _ _ _=>μ
 |.y'=>μ
 |_=>ν
def QM(H:δ Ob):δ Rk->η
 |[]=>μ
 |k::l=>bif (match k with
  |.r' _=>μ
  |.o' id e x=>(match fC H id with
   |some (.bl a cs)=>bif cY a e then cY (γ cs) x.cn else ν
   |_=>ν)
  |.w' id x=>bif wF (fC H id)then Ew x else ν)then QM H l else ν
def VT:δ Ty->η
 |[]=>μ
 |x::l=>bif x.tz then ν else VT l
def denF(C:Cx)(gs:δ Ob)(c:Code)(rs:δ ResultVar)(sc:Sc)(a:δ Ty)(r:δ Rk)(x:(fU a).T):ε (gU r).T:=
 match st0 gs a r x with
 |⟨F,H,b,d,m⟩=>bif (bif VT a then(bif Sn (Rk.ids r)then QM (jB [] a x).2 r else ν)else ν)then den C (gU r) (VA C b d rs r) c sc ⟨F,H,b,d,m⟩ (gU r) θ (endK (VA C b d rs r))else ι
end
end Go.Oe
namespace Go.Ce
open Go.Wk
open Nat renaming beq → cY
variable{a:Type}
theorem bi_ite(c:η)(x y:a):bi c x y=if c=μ then x else y:=by cases c<;>rfl
theorem qi(a b:Nat):(cY a b=μ)=(a=b):=propext ⟨gR,λh=>by subst h;exact Nat.beq_refl a⟩
def Pk.val:Pk->Nat
 |.h=>0
 |.o p=>2*p.val+2
 |.i p=>2*p.val+1
theorem Zp:∀(f k:Nat),k<f->(pkF f k).val=k
 |0,k,h=>by omega
 |f+1,k,h=>by
  show(bi _ Pk.h (bi (cY (k%2) 1) (Pk.i (pkF f (k/2))) (Pk.o (pkF f (k/2-1))))).val=k;simp only[bi_ite,qi];by_cases a:k=0
  ·rw[aB a,a];rfl
  ·rw[aA a];by_cases b:k%2=1
   ·rw[aB b];show 2*(pkF f _).val+1=k;rw[Zp f _ aA0];omega
   ·rw[aA b];show 2*(pkF f _).val+2=k;rw[Zp f _ aA0];omega
theorem N1(k:Nat):(pk k).val=k:=Zp _ k (Cu k)
theorem zl{k k':Nat}(h:pk k=pk k'):k=k':=by rw[<-N1 k,h,N1]
theorem blf{α:Type}(x:α):∀(p:Pk) (t:Tr α),Tr.Is p (Tr.yh x p t)=θ x
 |.h,t=>rfl
 |.o p,t=>blf x p t.R
 |.i p,t=>blf x p t.L
theorem sP{α:Type}(x:α):∀(p q:Pk) (t:Tr α),q≠p->Tr.Is q (Tr.yh x p t)=Tr.Is q t
 |.h,.h,t,h=>absurd Τ h
 |.h,.o q,t,_=>rfl
 |.h,.i q,t,_=>rfl
 |.o p,.h,t,_=>rfl
 |.o p,.o q,t,h=>sP x p q t.R λe=>h (by rw[e])
 |.o p,.i q,t,_=>rfl
 |.i p,.h,t,_=>rfl
 |.i p,.o q,t,_=>rfl
 |.i p,.i q,t,h=>sP x p q t.L λe=>h (by rw[e])
theorem Tr.Bq(t:Tr a)(k k':Nat)(x:a):(t.set k x).get k'=if k'=k then θ x else t.get k':=by
 by_cases h:k'=k
 ·subst h;rw[aB rfl];exact blf x _ _
 ·rw[aA h];exact sP x _ _ _ λe=>h (zl e)
theorem ME{α:Type}:∀p:Pk,Tr.Is p (.e:Tr α)=ι
 |.h=>rfl
 |.o p=>ME p
 |.i p=>ME p
theorem Tr.V4(k:Nat):(Tr.e:Tr a).get k=ι:=ME _
section
variable{α:Type}
end
abbrev En:=Nat->Nat×Nat
def Cp.re(E:En)(j:Nat):Cp->Nat
 |.k c=>c
 |.r off=>(E j).2-off
def SC.re(E:En):SC->ξ
 |.b x=>.bool x
 |.i k n=>.int k (k.wrap (n:Int))
 |.s l x=>str (dec l x)
 |.np=>.pointer ι
 |.ns=>.slice ι 0 0
 |.nf=>.nilFunc
 |.ni=>.nilIface
 |.nm=>.map ι
 |.p j off=>.pointer (θ ⟨(E j).1,off,ι⟩)
 |.g j off=>.pointer (θ ⟨j,off,ι⟩)
 |.sl j base n c=>.slice (θ ⟨(E j).1,base,ι⟩) n (c.re E j)
 |.fn f cs=>.func (.func f) #[] (cs.map λj=>φ (θ ⟨(E j).1,0,ι⟩)).toArray
 |.y j=>.func (.yield (E j).1) #[] #[]
 |.m j=>.map (θ (E j).1)
 |.z j base dd off=>.slice (θ ⟨(E j).1,if(E j).2-off=0 then base else base+dd,ι⟩) 0 ((E j).2-off)
def SA.re(E:En):SA->ξ
 |.c x=>x.re E
 |.a l=>.agg (l.map (SC.re E)).toArray
def SV.re(E:En):SV->ξ
 |.c x=>x.re E
 |.a l=>.agg (l.map (SC.re E)).toArray
 |.t l=>.tuple (l.map (SA.re E)).toArray
 |.u=>undef
def SC.ok(n:Nat):SC->Prop
 |.p j _=>j<n
 |.sl j _ _ _=>j<n
 |.fn _ cs=>∀j∈cs,j<n
 |.y j=>j<n
 |.m j=>j<n
 |.z j _ _ _=>j<n
 |_=>True
def SA.ok(n:Nat):SA->Prop
 |.c x=>x.ok n
 |.a l=>∀x∈l,x.ok n
def SV.ok(n:Nat):SV->Prop
 |.c x=>x.ok n
 |.a l=>∀x∈l,x.ok n
 |.t l=>∀x∈l,x.ok n
 |.u=>True
noncomputable def tv(F:Tr SV)(t:Nat):SV:=(F.get t).getD .u
noncomputable def rF(E:En)(F:Tr SV):Nat->ξ:=λt=>(tv F t).re E
def Fok(n:Nat)(F:Tr SV):Prop:=∀t v,F.get t=θ v->v.ok n
theorem Fok.set{n:Nat}{F:Tr SV}(h:Fok n F)(d:Nat){v:SV}(a:v.ok n):Fok n (F.set d v):=by
 intro t x hx;rw[Tr.Bq]at hx;split at hx
 ·cases hx;exact a
 ·exact h t x hx
def Mo.ok(md:Mo)(cap len size:Nat)(a:Nat×Nat):Prop:=
 match md with
 |.ex=>size=len/\a=(0,0)
 |.rw b m=>len=m*b/\m<=cap/\cap<=maxLen/\size=cap*b/\a=(0,0)
 |.bw=>len<=cap/\cap<=size/\size<=a.1
 |.fb=>size=len/\size<=a.1
def cres(b cap t:Nat)(md:Mo)(c:δ ξ):cF:=
 ⟨θ b,λo=>∃a t' d,o=θ (.cells a t' d)/\(md=.bw\/t'=t)/\γ c<=a.size/\a.toList.take (γ c)=c/\md.ok cap (γ c) a.size d⟩
def lpres(b:Nat)(busy:η)(j k:Nat)(d:δ Nat)(c body:Code)(F:Nat->ξ):cF:=
 ⟨θ b,λo=>∃a:Loop,a.assign=c/\a.body=body/\a.params=d.toArray/\a.tmps=(fr ⟨k,[],θ ι⟩ F).tmps/\
  (match busy with
  |false=>o=θ (.loop {a with state:=di j,pending:=jmp j})
  |true=>∃e,o=θ (.loop {a with state:=.busy,pending:=e}))⟩
def mpres(b:Nat)(l:δ (ξ×ξ)):cF:=⟨θ b,λo=>∃a clock,o=θ (.map a clock)/\a.toList.map (λe=>(e.key,e.val))=l⟩
noncomputable def iB(E:En)(i:Nat):HB->cF
 |.cl t e c=>cres (E i).1 (E i).2 t e (c.map (SC.re E))
 |.it l x Ο=>UH (E i).1 (dec l x) Ο
 |.lp busy j k d b a F=>lpres (E i).1 busy j k d b a (rF E F)
 |.df=>HY (E i).1
 |.gn=>⟨ι,λ_=>True⟩
 |.mp f=>mpres (E i).1 (f.map λp=>(p.1.re E,p.2.re E))
def HB.ok(n:Nat):HB->Prop
 |.cl _ _ a=>∀x∈a,x.ok n
 |.lp _ _ _ _ _ _ F=>Fok n F
 |.mp b=>∀p∈b,p.1.ok n/\p.2.ok n
 |_=>True
noncomputable def hZ(H:Hs)(i:Nat):HB:=(H.t.get i).getD .gn
noncomputable def PX(E:En)(H:Hs):δ cF:=(List.range H.nx).map λi=>iB E i (hZ H i)
structure Inv (w0:ο) (E:En) (H:Hs) (w:ο):Prop where
 hp:Hp w0 [] (PX E H) w
 lt:∀i b,H.t.get i=θ b->i<H.nx
 ok:∀i b,H.t.get i=θ b->b.ok H.nx
section
variable{w0 w:ο}{E:En}{H:Hs}
variable{i:Nat}
theorem K3(a:i<H.nx):(PX E H)[i]? =θ (iB E i (hZ H i)):=by simp[PX,a]
theorem Inv.at(h:Inv w0 E H w){b:HB}(a:H.t.get i=θ b):(PX E H)[i]? =θ (iB E i b):=by rw[K3 (h.lt i b a)];simp[hZ,a]
theorem Inv.cells(h:Inv w0 E H w){i t:Nat}{md:Mo}{b:δ SC}(g:H.t.get i=θ (.cl t md b)):
  ∃a t' c,w.heap[(E i).1]? =θ (.cells a t' c)/\(md=.bw\/t'=t)/\γ b<=a.size/\a.toList.take (γ b)=b.map (SC.re E)/\md.ok (E i).2 (γ b) a.size c:=by
 have l:=(h.hp.res _ (aI (h.at g))).1;obtain⟨a,t',c,k,j,f,e,d⟩:=l;simp only[Gk]at f e d;exact⟨a,t',c,k,j,f,e,d⟩
end
end Go.Ce
namespace Go.Oe
open Go.Wk
open Go.Ce (Tr)
open Nat renaming one_pos → Jf
theorem gG{a:Type}:∀(l:δ a) k,fC l k=l[k]?
 |[],_=>rfl
 |x::l,0=>rfl
 |x::l,k+1=>by rw[hK];exact gG l k
theorem oX{a:Type}:∀l k (y:a),jC l k y=l.set k y
 |[],_,_=>rfl
 |x::l,0,y=>rfl
 |x::l,k+1,y=>by simp[jC,oX l k y]
theorem nE{a:Type}:∀(l:δ a) k,As l k=l.drop k
 |[],k=>by simp[As]
 |x::l,0=>rfl
 |x::l,k+1=>by rw[Hy];exact nE l k
theorem xK{a:Type}:∀{l:δ a}{k:Nat}{q:δ a},Aq l k=θ q->q=l.take k/\k<=γ l
 |l,0,q,h=>by
  have:Aq l 0=θ []:=by cases l<;>rfl
  rw[this]at h;cases h;simp
 |[],k+1,q,h=>by cases h
 |x::l,k+1,q,h=>by
  simp only[Aq]at h;split at h
  ·rename_i q' d;cases h;obtain⟨c,b⟩:=xK d;exact⟨by simp[c],aC2⟩
  ·cases h
theorem bfy:∀{l:δ SC}{k:Nat}{vs q:δ SC},uU l k vs=θ q->k+γ vs<=γ l/\q=l.take k++vs++l.drop (k+γ vs)
 |l,0,[],q,h=>by
  have:uU l 0 []=θ l:=by cases l<;>rfl
  rw[this]at h;cases h;simp
 |[],0,v::vs,q,h=>by cases h
 |[],k+1,vs,q,h=>by cases vs<;>cases h
 |x::l,0,v::vs,q,h=>by
  simp only[uU]at h;split at h
  ·rename_i q' b;cases h;obtain⟨c,a⟩:=bfy b;simp at c a⊢;exact⟨aA0,a⟩
  ·cases h
 |x::l,k+1,vs,q,h=>by
  simp only[uU]at h;split at h
  ·rename_i q' b;cases h;obtain⟨c,a⟩:=bfy b;refine⟨by simp;omega,?_⟩;rw[a];simp[Rc]
  ·cases h
variable{l r:δ SC}{n:Nat}
theorem rQ{q:δ SC}(h:uU l n r=θ q)(j:Nat):q[j]? =if n<=j/\j<n+γ r then r[j-n]? else l[j]? :=by
 obtain⟨c,rfl⟩:=bfy h;by_cases b:j<n
 ·rw[aA aA0,jI,aJ aA3,bQ,aB b]
 ·by_cases a:j<n+γ r
  ·rw[aB ⟨aA0,a⟩,aJ aA3,aO aA3];simp;congr 1;omega
  ·rw[aA aA0,aO aA3,bV];congr 1;simp;omega
theorem Ab{q:δ SC}(h:uU l n r=θ q):γ q=γ l:=by obtain⟨a,rfl⟩:=bfy h;simp;omega
theorem RA:∀{l:δ SC},knL l=μ->∀x∈l,x.kn=μ
 |[],_,x,hx=>by cases hx
 |y::l,h,x,hx=>by
  have h:=gX h;rcases aQ.1 hx with rfl|hx
  ·exact h.1
  ·exact RA h.2 x hx
theorem O8(j:Nat):(kq j).oneCell'=μ:=by unfold kq;split<;>rfl
theorem SC.one(ρ:Nat->Ad)(c:SC):(c.v ρ).oneCell'=μ:=by cases c<;>first|rfl|exact O8 _
theorem YY(H:δ Ob)(id:Nat):fN H id=(H[id]?.map Ob.len).getD 0:=by unfold fN;rw[gG];cases H[id]? <;>rfl
def SC.ids:SC->δ Nat
 |.p' id _=>[id]
 |.q' id _ _ _=>[id]
 |.l' id=>[id]
 |.k' id _=>[id]
 |.f' _ ids=>ids
 |.z' id a=>[id,a]
 |_=>[]
variable{a d:Nat->Ad}{c:SC}
theorem SC.v_ext(h:∀id∈c.ids,d id=a id):c.v d=c.v a:=by
 cases c<;>simp only[SC.v]
 case p' id off=>rw[h id aE5]
 case q' id j e off=>rw[h id aE5]
 case l' id=>rw[h id aE5]
 case k' id n=>rw[h id aE5]
 case f' k ids=>
  have:(ids.map λid=>iM (d id).b 0)=ids.map λid=>iM (a id).b 0:=er λid hid=>by rw[h id hid]
  rw[this]
 case z' id ρ=>rw[h id aE5,h ρ aE5]
def SC.ok(n:Nat)(c:SC):Prop:=∀id∈c.ids,id<n
def SA.ok(n:Nat):SA->Prop
 |.c' x=>x.ok n
 |.a' l=>∀x∈l,x.ok n
def SV.ok(n:Nat):SV->Prop
 |.c' x=>x.ok n
 |.a' l=>∀x∈l,x.ok n
 |.t' l=>∀x∈l,x.ok n
 |_=>True
def Up(n:Nat)(ρ a:Nat->Ad):Prop:=∀id,id<n->a id=ρ id
theorem Up.refl{n:Nat}{ρ:Nat->Ad}:Up n ρ ρ:=λ_ _=>rfl
theorem Up.trans{n m:Nat}{ρ a ρ3:Nat->Ad}(h:Up n ρ a)(c:Up m a ρ3)(d:n<=m):Up n ρ ρ3:=
 λid b=>(c id aA0).trans (h id b)
theorem SC.up(b:Up n a d)(h:c.ok n):c.v d=c.v a:=SC.v_ext λid ρ=>b id (h id ρ)
theorem Yr(b:Up n a d)(h:∀x∈l,x.ok n):l.map (SC.v d)=l.map (SC.v a):=er λx hx=>SC.up b (h x hx)
theorem SA.up{n:Nat}{ρ a:Nat->Ad}{c:SA}(b:Up n ρ a)(h:c.ok n):c.v a=c.v ρ:=by
 cases c with
 |c' x=>exact SC.up b h
 |a' l=>simp only[SA.v];rw[Yr b h]
theorem SV.up{n:Nat}{ρ a:Nat->Ad}{c:SV}(b:Up n ρ a)(h:c.ok n):c.v a=c.v ρ:=by
 cases c with
 |c' x=>simp only[SV.v];rw[SC.up b h]
 |a' l=>simp only[SV.v];rw[Yr b h]
 |t' l=>simp only[SV.v];rw[er λx hx=>SA.up b (h x hx)]
 |_=>rfl
variable{m:Nat}
theorem SC.cT(h:c.ok n)(a:n<=m):c.ok m:=λid b=>NV (h id b) a
theorem SV.cT{n m:Nat}{c:SV}(h:c.ok n)(a:n<=m):c.ok m:=by
 cases c with
 |c' x=>exact SC.cT h a
 |a' l=>exact λx hx=>SC.cT (h x hx) a
 |t' l=>
  intro x hx;have:=h x hx;cases x with
  |c' y=>exact SC.cT this a
  |a' l=>exact λy b=>SC.cT (this y b) a
 |_=>trivial
theorem SA.gm(ρ:Nat->Ad)(x:SA):x.sv.v ρ=θ (x.v ρ):=by cases x<;>rfl
theorem SA.Gu{x:SA}(h:x.ok n):x.sv.ok n:=by cases x<;>exact h
variable{x:SV}
theorem SV.Ka{ρ:Nat->Ad}(h:x.cells=θ l):∃v,x.v ρ=θ v/\v.cells=(l.map (SC.v ρ)).toArray:=by
 cases x with
 |c' x=>cases h;refine⟨_,Τ,?_⟩;have:=SC.one ρ x;rw[tR];generalize x.v ρ=v at this⊢;cases v<;>first|rfl|simp[Value.oneCell']at this
 |a' i=>cases h;exact⟨_,Τ,Τ⟩
 |_=>cases h
theorem SV.Qb(h:x.cells=θ l)(hx:x.ok n):∀c∈l,c.ok n:=by
 cases x with
 |c' x=>cases h;intro c a;simp at a;subst a;exact hx
 |a' i=>cases h;exact hx
 |_=>cases h
theorem Ty.AZ:∀(t:Ty) x,t.flat=μ->γ (t.enc x)=t.sz:=by
 intro t;induction t with
 |w' t e=>intro x h;exact e x h
 |pr a b d c=>intro x h;have h:=gX h;show(a.enc x.1++b.enc x.2).length=a.sz+b.sz;rw[cE,d _ h.1,c _ h.2]
 |i' k=>intro x h;rfl
 |c'=>intro x h;rfl
 |s'=>intro x h;rfl
 |b'=>intro x h;rfl
 |_=>intro x h;cases h
theorem Ty.oo:∀(t:Ty) x,∀v∈t.enc x,v.oneCell'=μ:=by
 intro t;induction t with
 |w' t f=>intro x;exact f x
 |pr a b e d=>
  intro x v c;rcases aV.1 (c)with h|h
  ·exact e _ v h
  ·exact d _ v h
 |i' k=>intro x v c;have:v=_:=aH.1 c;subst this;rfl
 |c'=>intro x v c;have:v=_:=aH.1 c;subst this;rfl
 |s'=>intro x v c;have:v=_:=aH.1 c;subst this;rfl
 |b'=>intro x v c;have:v=_:=aH.1 c;subst this;rfl
 |_=>intro x v c;cases c
variable{t:Ty}
theorem Ty.wD(h:t.flat=μ):qQ t.enc t.sz:=⟨λx=>t.AZ x h,λx=>t.oo x⟩
theorem Ty.Dg:∀{t:Ty},t.flat=μ->0<t.sz:=by
 intro t;induction t with
 |w' t e=>intro h;exact e h
 |pr a b c d=>intro h;have h:=gX h;have:=c h.1;show 0<a.sz+b.sz;omega
 |_=>intro h;exact Jf
theorem Ty.Au:∀(t:Ty) (s n) x,t.flat=μ->(t.lay s n x).2=[]/\∀ρ,(t.lay s n x).1.map (SC.v ρ)=t.enc x:=by
 intro t;induction t with
 |w' t g=>intro s n x h;exact g s n x h
 |pr a b d c=>
  intro s n x h;have h:=gX h;have f:=d s n x.1 h.1;have e:=c s (n+a.no) x.2 h.2;refine⟨?_,λρ=> ?_⟩
  ·show(a.lay s n x.1).2++(b.lay s _ x.2).2=[];rw[f.1,e.1];rfl
  ·show((a.lay s n x.1).1++(b.lay s _ x.2).1).map _=a.enc x.1++b.enc x.2;rw[Rp,f.2,e.2]
 |i' k=>intro s n x h;exact⟨Τ,λ_=>rfl⟩
 |c'=>intro s n x h;exact⟨Τ,λ_=>rfl⟩
 |s'=>intro s n x h;exact⟨Τ,λ_=>rfl⟩
 |b'=>intro s n x h;exact⟨Τ,λ_=>rfl⟩
 |_=>intro s n x h;cases h
theorem Ty.Vw:∀(t:Ty) (s n) x,t.flat=μ->∀c∈(t.lay s n x).1,c.ids=[]/\c.kn=μ:=by
 intro t;induction t with
 |w' t g=>intro s n x h;exact g s n x h
 |pr a b f e=>
  intro s n x h c d;have h:=gX h;rcases aV.1 (d)with d|d
  ·exact f s n x.1 h.1 c d
  ·exact e s _ x.2 h.2 c d
 |i' k=>intro s n x h c d;have:c=_:=aH.1 d;subst this;exact⟨Τ,Τ⟩
 |c'=>intro s n x h c d;have:c=_:=aH.1 d;subst this;exact⟨Τ,Τ⟩
 |s'=>intro s n x h c d;have:c=_:=aH.1 d;subst this;exact⟨Τ,Τ⟩
 |b'=>intro s n x h c d;have:c=_:=aH.1 d;subst this;exact⟨Τ,Τ⟩
 |_=>intro s n x h c d;cases h
theorem rI_v{k:Ε}{y:Int}(h:c.rI k=θ y)(ρ:Nat->Ad):c.v ρ=.int k y:=by
 cases c<;>simp only[SC.rI,reduceCtorEq]at h;rename_i b n;cases a:LU k b with
 |true=>rw[a]at h;cases h;rw[mE a];rfl
 |false=>rw[a]at h;cases h
theorem zc{y:ζ}(h:c.rC=θ y)(ρ:Nat->Ad):c.v ρ=bt y:=by cases c<;>simp only[SC.rC,reduceCtorEq]at h;cases h;rfl
theorem rS_v{y:aC}(h:c.rS=θ y)(ρ:Nat->Ad):c.v ρ=str y:=by cases c<;>simp only[SC.rS,reduceCtorEq]at h;cases h;rfl
variable{y:η}
theorem ju(h:c.rB=θ y)(ρ:Nat->Ad):c.v ρ=.bool y:=by cases c<;>simp only[SC.rB]at h<;>cases h<;>rfl
theorem K7:∀(t:Ty) l x r,t.EO l=θ (x,r)->t.flat=μ/\∀ρ,l.map (SC.v ρ)=t.enc x++r.map (SC.v ρ):=by
 intro t;induction t with
 |w' t o=>intro l x r h;exact o l x r h
 |pr a b f e=>
  intro l x r h;simp only[Ty.EO]at h;split at h
  ·rename_i n g q;split at h
   ·rename_i m s p;cases h;have j:=f l n g q;have i:=e g m _ p;refine⟨by simp[Ty.flat,j.1,i.1],λρ=> ?_⟩;rw[j.2,i.2,<-jI];rfl
   ·cases h
  ·cases h
 |i' k=>
  intro l x r h;cases l with
  |nil=>cases h
  |cons c l=>
   simp only[Ty.EO]at h;split at h
   ·rename_i y d;cases h;exact⟨Τ,λρ=>by rw[tR,rI_v d];rfl⟩
   ·cases h
 |c'=>
  intro l x r h;cases l with
  |nil=>cases h
  |cons c l=>
   simp only[Ty.EO]at h;split at h
   ·rename_i y d;cases h;exact⟨Τ,λρ=>by rw[tR,zc d];rfl⟩
   ·cases h
 |s'=>
  intro l x r h;cases l with
  |nil=>cases h
  |cons c l=>
   simp only[Ty.EO]at h;split at h
   ·rename_i y d;cases h;exact⟨Τ,λρ=>by rw[tR,rS_v d];rfl⟩
   ·cases h
 |b'=>
  intro l x r h;cases l with
  |nil=>cases h
  |cons c l=>
   simp only[Ty.EO]at h;split at h
   ·rename_i y d;cases h;exact⟨Τ,λρ=>by rw[tR,ju d];rfl⟩
   ·cases h
 |_=>intro l x r h;cases h
theorem dq{t:Ty}:∀{m:Nat}{l:δ SC}{a:δ t.T},pS t m l=θ a->γ a=m/\(m≠0->t.flat=μ)/\∀ρ,l.map (SC.v ρ)=a.flatMap t.enc
 |0,l,a,h=>by
  cases l with
  |nil=>cases h;exact⟨Τ,λh=>absurd Τ h,λ_=>rfl⟩
  |cons c l=>cases h
 |m+1,l,a,h=>by
  simp only[pS]at h;split at h
  ·rename_i y b e;split at h
   ·rename_i q d;cases h;obtain⟨j,k,i⟩:=dq d;obtain⟨g,f⟩:=K7 t l y b e;exact⟨by simp[j],λ_=>g,λρ=>by rw[f,i];rfl⟩
   ·cases h
  ·cases h
theorem elT_el(t:Ty)(l:δ t.T)(j:Int):dk t l j= @el t.T t.uf l j:=by cases t<;>first|rfl|(show Κ _ _=_;rfl)
open Nat renaming beq → cY
def Mat(ρ:Nat->Ad)(cs:δ SC)(vs:δ ξ):Prop:=γ vs=γ cs/\∀(j:Nat) c,cs[j]? =θ c->c.kn=μ->vs[j]? =θ (c.v ρ)
def Xp(w0:ο)(S0:δ Nat)(d:Ad)(t:Ty)(l:δ t.T):Prop:=
 Rd w0 d.a (l.flatMap t.enc)/\(l.flatMap t.enc≠[]->∀p,d.a=θ p->p.block∉S0)/\γ l<=d.cap
def RO(w0:ο)(S0:δ Nat)(ρ:Nat->Ad)(id:Nat):Ob->cF->Prop
 |.bl e cs,r=>∃c,r=aY (ρ id).b c e/\Mat ρ cs c
 |.rw e _ t l,r=>r=bM t.enc e t.sz (ρ id).o (ρ id).a (ρ id).cap l
 |.ro t l,r=>r.own=ι/\Xp w0 S0 (ρ id) t l
 |.br n l,r=>r=gF (.slice (ρ id).a n (ρ id).cap) n l
 |.dd _,r=>True
def Mt(w0:ο)(S0:δ Nat)(ρ:Nat->Ad)(H:δ Ob)(L:δ cF):Prop:=
 (γ L)=γ H/\∀id o,H[id]? =θ o->o.len=(ρ id).ln/\∃r,L[id]? =θ r/\RO w0 S0 ρ id o r
def Src.ad(ρ:Nat->Ad):Src->Ad
 |.o' id _=>ρ id
 |.n'=>⟨ι,ι,0,ν,0⟩
 |.k' id m _=>⟨θ (ρ id).b,θ ⟨(ρ id).b,0,ι⟩,m,ν,m⟩
 |.z' t=>⟨ι,ι,0,t,0⟩
def YI(any:η)(ρ:Nat->Ad)(H:δ Ob)(d:Nat->Ad):Src->Ob->Prop
 |s,.bl e a=>∃id cs,s=.o' id μ/\H[id]? =θ (.bl e cs)/\cs.map (SC.v ρ)=a.map (SC.v d)/\(∀c∈cs,c.kn=μ)/\∀c∈a,c.kn=μ
 |s,.rw e b t l=>(∃id,s=.o' id μ/\H[id]? =θ (.rw e b t l))\/(s=.n'/\l=[])\/(∃id m cs,s=.k' id m μ/\H[id]? =θ (.bl e cs)/\pS t m cs=θ l/\t.flat=μ/\m<=1048576)
 |s,.br n l=>n=γ l/\∃id m,s=.o' id μ/\H[id]? =θ (.br m l)
 |s,.ro t l=>(∃id,s=.o' id ν/\(bif any then Hu t H[id]? else H7 t H[id]?)=θ l)\/(s=.n'/\l=[])\/(any=μ/\∃id m e cs,s=.k' id m ν/\H[id]? =θ (.bl e cs)/\pS t m cs=θ l)
 |s,.dd n=>n=0/\((∃t,s=.z' t)\/∃f,s=.o' f ν/\H[f]? =θ (.dd 0))
structure At (t:Ty) (ρ:Nat->Ad) (me:Nat) (ss:List Src) (cW:Nat->Ad) (DK n:Nat):Prop where
 sf:t.tz=μ->(cW DK).b=(ρ me).b
 ad:∀(j:Nat) (s:Src),ss[j]? =θ s->cW (n+j)=s.ad ρ
variable{e:δ Src}
theorem At.left{b:Ty}{g:δ Src}{ρ:Nat}(h:At (.pr t b) a n (e++g) d m ρ):At t a n e d m ρ:=
 ⟨λi=>h.sf (by simp[Ty.tz,i]),λj s f=>h.ad j s (by rw[aJ (aF.1 f).1];exact f)⟩
theorem At.right{b:Ty}{ρ:δ Src}{c:Nat}(h:At (.pr t b) a n (e++ρ) d m c):At b a n ρ d m (c+γ e):=
 ⟨λg=>h.sf (by simp[Ty.tz,g]),λj s i=>by rw[Dc];exact h.ad _ s (by rw[aO aA0,<-i];congr 1;omega)⟩
theorem Ty.AG:∀(t:Ty) (s n) x,γ (t.lay s n x).1=t.cn:=by
 intro t;induction t with
 |w' t e=>intro s n x;exact e s n x
 |pr a b d c=>intro s n x;show((a.lay s n x.1).1++(b.lay s _ x.2).1).length=a.cn+b.cn;rw[cE,d,c]
 |_=>intro s n x;rfl
theorem Ty.eA:∀(t:Ty) (s n) x,γ (t.lay s n x).2=t.no:=by
 intro t;induction t with
 |w' t c=>intro s n x;exact c s n x
 |pr a b f d=>intro s n x;show((a.lay s n x.1).2++(b.lay s _ x.2).2).length=a.no+b.no;rw[cE,f,d]
 |p' e t c=>intro s n x;show(_::(t.lay n _ x).2).length=t.no+1;rw[cM,c]
 |f' k t c=>intro s n x;exact c s n x
 |_=>intro s n x;rfl
theorem An:∀{l:δ SC}{id:Nat},id∈oW l->∃c∈l,id∈c.ids
 |[],id,h=>by cases h
 |x::l,id,h=>by
  cases x
  case p' i off=>
   rcases aQ.1 (h)with h|h
   ·subst h;exact⟨_,gQ,by simp[SC.ids]⟩
   ·obtain⟨c,b,a⟩:=An h;exact⟨c,fB _ b,a⟩
  all_goals
   obtain⟨c,b,a⟩:=An (show id∈oW l from h);exact⟨c,fB _ b,a⟩
theorem Ty.Ed:∀(t:Ty) (s n) x,∀c∈(t.lay s n x).1,c.kn=μ/\∀id∈c.ids,id=s\/(n<=id/\id<n+γ (t.lay s n x).2):=by
 intro t;induction t with
 |w' t g=>intro s n x;exact g s n x
 |pr a b m l=>
  intro s n x c d;have o:γ ((Ty.pr a b).lay s n x).2=a.no+γ (b.lay s (n+a.no) x.2).2:=by show((a.lay s n x.1).2++(b.lay s _ x.2).2).length=_;rw[cE,Ty.eA]
  have p:=a.eA s n x.1;rcases aV.1 (d)with d|d
  ·obtain⟨j,i⟩:=m s n x.1 c d;refine⟨j,λid f=> ?_⟩;rcases i id f with h|h
   ·exact .inl h
   ·right;rw[o];omega
  ·obtain⟨j,i⟩:=l s _ x.2 c d;refine⟨j,λid f=> ?_⟩;rcases i id f with h|h
   ·exact .inl h
   ·right;rw[o];omega
 |f' k t g=>intro s n x c d;have:c=_:=aH.1 d;subst this;refine⟨Τ,λid f=> ?_⟩;obtain⟨q,j,i⟩:=An (f);exact(g s n x q j).2 id i
 |p' e t g=>intro s n x c d;have:c=_:=aH.1 d;subst this;refine⟨Τ,λid f=> ?_⟩;have:id=n:=aH.1 f;subst this;exact .inr ⟨dK _,by show id<id+γ (_::_:δ Ob);simp⟩
 |l' e b t g=>intro s n x c d;have:c=_:=aH.1 d;subst this;refine⟨Τ,λid f=> ?_⟩;have:id=n:=aH.1 f;subst this;exact .inr ⟨dK _,Cu _⟩
 |r' t g=>intro s n x c d;have:c=_:=aH.1 d;subst this;refine⟨Τ,λid f=> ?_⟩;have:id=n:=aH.1 f;subst this;exact .inr ⟨dK _,Cu _⟩
 |y'=>intro s n x c d;have:c=_:=aH.1 d;subst this;refine⟨Τ,λid f=> ?_⟩;have:id=n:=aH.1 f;subst this;exact .inr ⟨dK _,Cu _⟩
 |z'=>
  intro s n x c d;have:c=_:=aH.1 d;subst this;refine⟨Τ,λid f=> ?_⟩;have:id=s\/id=n:=by simpa [SC.ids] using f
  rcases this with h|h
  ·exact .inl h
  ·subst h;exact .inr ⟨dK _,Cu _⟩
 |u'=>intro s n x c d;cases d
 |sm a b _ _=>intro s n x c d;cases d
 |_=>intro s n x c d;have:c=_:=aH.1 d;subst this;exact⟨Τ,λid f=>by cases f⟩
theorem Ac:∀a b,oW (a++b)=oW a++oW b
 |[],b=>rfl
 |x::a,b=>by have:=Ac a b;cases x<;>simp[oW,this]
theorem M1:∀(t:Ty) (s n) x,t.M2=μ->(t.lay s n x).1=(oW (t.lay s n x).1).map λid=>.p' id 0:=by
 intro t;induction t with
 |pr a b d c=>intro s n x h;have h:=gX h;show(a.lay s n x.1).1++(b.lay s _ x.2).1=(oW ((a.lay s n x.1).1++(b.lay s _ x.2).1)).map _;rw[Ac,Rp,<-d s n x.1 h.1,<-c _ _ _ h.2]
 |p' e t f=>intro s n x h;rfl
 |u'=>intro s n x h;rfl
 |_=>intro s n x h;cases h
variable{H:δ Ob}{f:Ob}
theorem nD(h:H[n]? =θ f):fN H n=f.len:=by rw[YY,h];rfl
variable{o:ε Ob}{b:δ t.T}
theorem Xi(d:∀m x,o=θ (.br m x)->γ x=m)(h:Hu t o=θ b):∃ob,o=θ ob/\ob.len=γ b:=by
 unfold Hu at h;split at h
 ·rename_i e l t2 c;split at h
  ·rename_i a;obtain rfl:=Ty.jK a;cases h;exact⟨_,Τ,Τ⟩
  ·cases h
 ·rename_i t2 c;split at h
  ·rename_i a;obtain rfl:=Ty.jK a;cases h;exact⟨_,Τ,Τ⟩
  ·cases h
 ·rename_i m c;have:=d m c Τ;unfold strOf at h;split at h
  ·rename_i a;obtain rfl:=Ty.jK a;cases h;exact⟨_,Τ,this.symm⟩
  ·cases h
 ·cases h
theorem Dl(h:H7 t o=θ b):o=θ (.ro t b):=by
 unfold H7 at h;split at h
 ·rename_i t2 l;split at h
  ·rename_i a;obtain rfl:=Ty.jK a;cases h;rfl
  ·cases h
 ·cases h
theorem tY{q:Nat×Nat}(h:rwE o=θ q)(a:rowOf t o=θ b):o=θ (.rw q.1 q.2 t b):=by
 unfold rwE at h;split at h
 ·rename_i e l t2 d;cases h;unfold rowOf at a;simp only at a;split at a
  ·rename_i c;obtain rfl:=Ty.jK c;cases a;rfl
  ·cases a
 ·cases h
variable{g:Type}
theorem nN{f:SC->ε g}{x:g}(h:hd1 f l=θ (x,r,e)):∃c,l=c::r/\f c=θ x/\e=[]:=by
 cases l with
 |nil=>cases h
 |cons c l=>
  simp only[hd1]at h;split at h
  ·rename_i y b;cases h;exact⟨c,Τ,b,Τ⟩
  ·cases h
structure RdOk (any:Bool) (H:List Ob) (t:Ty) (me:Nat) (l:List SC) (x:t.T) (r:List SC) (ss:List Src):Prop where
 no:γ ss=t.no
 kn:∃us,l=us++r/\∀c∈us,c.kn=μ
 to:∀(ρ cW:Nat->Ad) (DK n:Nat),At t ρ me ss cW DK n->
  l.map (SC.v ρ)=(t.lay DK n x).1.map (SC.v cW)++r.map (SC.v ρ)/\∀(j:Nat) (s:Src) (o:Ob),ss[j]? =θ s->(t.lay DK n x).2[j]? =θ o->YI any ρ H cW s o
theorem xC{x:t.T}{s:Src}{g:Nat->SC}(m:c.kn=μ)(d:t.no=1)(r:∀e w,t.lay e w x=([g w],[f]))
  (i:∀ρ a w,a w=s.ad ρ->c.v ρ=(g w).v a) (k:∀ρ a,YI y ρ H a s f):RdOk y H t n (c::l) x l [s]:=by
 refine⟨by rw[d];rfl,⟨[c],Τ,λu h=>by rw[aH.1 h];exact m⟩,λρ a b w h=> ?_⟩;rw[r];refine⟨?_,λj e q o p=> ?_⟩
 ·have:=i ρ a w (h.ad 0 s Τ);simp[this]
 ·cases j with
  |zero=>cases o;cases p;exact k ρ a
  |succ j=>simp at o
def NQ(H:δ Ob):Prop:=∀(id m:Nat) x,H[id]? =θ (.br m x)->γ x=m
theorem dF{a:ε g}{r:g}(h:(bif y then a else ι)=θ r):y=μ/\a=θ r:=by
 cases y with
 |true=>exact⟨Τ,h⟩
 |false=>cases h
theorem K5(any:η)(H:δ Ob)(U:NQ H):∀t self l x r ss,t.rd any H self l=θ (x,r,ss)->RdOk any H t self l x r ss:=by
 intro t;induction t with
 |i' k=>intro self l x r ss h;obtain⟨c,rfl,w,rfl⟩:=nN h;exact⟨Τ,⟨[c],Τ,λc2 h=>by rw[aH.1 h];cases c<;>first|rfl|cases w⟩,λu f d n h=>⟨by rw[tR,rI_v w];rfl,λj s o p=>by simp at p⟩⟩
 |c'=>intro self l x r ss h;obtain⟨c,rfl,w,rfl⟩:=nN h;exact⟨Τ,⟨[c],Τ,λc2 h=>by rw[aH.1 h];cases c<;>first|rfl|cases w⟩,λu f d n h=>⟨by rw[tR,zc w];rfl,λj s o p=>by simp at p⟩⟩
 |s'=>intro self l x r ss h;obtain⟨c,rfl,w,rfl⟩:=nN h;exact⟨Τ,⟨[c],Τ,λc2 h=>by rw[aH.1 h];cases c<;>first|rfl|cases w⟩,λu f d n h=>⟨by rw[tR,rS_v w];rfl,λj s o p=>by simp at p⟩⟩
 |b'=>intro self l x r ss h;obtain⟨c,rfl,w,rfl⟩:=nN h;exact⟨Τ,⟨[c],Τ,λc2 h=>by rw[aH.1 h];cases c<;>first|rfl|cases w⟩,λu f d n h=>⟨by rw[tR,ju w];rfl,λj s o p=>by simp at p⟩⟩
 |u'=>intro self l x r ss h;cases h;exact⟨Τ,⟨[],Τ,λc h=>by cases h⟩,λu f d n h=>⟨rfl,λj s o p=>by simp at p⟩⟩
 |w' t I=>intro self l x r ss h;exact⟨(I self l x r ss h).no,(I self l x r ss h).kn,λu f d n hZ=>(I self l x r ss h).to u f d n ⟨hZ.sf,hZ.ad⟩⟩
 |pr a b a4 a3=>
  intro self l x r ss h;simp only[Ty.rd]at h;split at h
  ·rename_i Z l1 s1 R;split at h
   ·rename_i y2 E s2 hq;cases h;have X:=a4 self l Z l1 s1 R;have P:=a3 self l1 y2 _ s2 hq;obtain⟨us,J,N⟩:=X.kn;obtain⟨ws,a7,a6⟩:=P.kn;refine⟨by rw[cE,X.no,P.no];rfl,⟨us++ws,by rw[J,a7,jI],λc w=>(aV.1 w).elim (N c) (a6 c)⟩,λu f d n hZ=> ?_⟩;have hl:γ s1=γ (a.lay d n Z).2:=by rw[X.no,Ty.eA]
    obtain⟨p,G⟩:=X.to u f d n hZ.left;obtain⟨h3,h4⟩:=P.to u f d (n+a.no) (by have:=hZ.right;rwa [X.no]at this);refine⟨?_,λj s o z A=> ?_⟩
    ·show _=((a.lay d n Z).1++(b.lay d (n+a.no) y2).1).map _++_;rw[p,h3,Rp,jI]
    ·have L:((a.lay d n Z).2++(b.lay d (n+a.no) y2).2)[j]? =θ o:=A;by_cases F:j<γ s1
     ·rw[aJ F]at z;rw[aJ aA0]at L;exact G j s o z L
     ·rw[aO aA0]at z;rw[aO aA0,<-hl]at L;exact h4 _ s o z L
   ·cases h
  ·cases h
 |sm a b _ _=>intro self l x r ss h;cases h
 |l' e b t I=>
  intro self l x r ss h;simp only[Ty.rd]at h;split at h
  ·cases h;exact xC (g:=λn=>.l' n) Τ Τ (λ_ _=>rfl) (λu f n p=>by simp[SC.v,p,Src.ad]) (λ_ _=>.inr (.inl ⟨Τ,Τ⟩))
  ·rename_i id E;split at h
   ·rename_i q hq;cases D:cY q.1 e with
    |false=>rw[D]at h;cases h
    |true=>
     cases P:cY q.2 b with
     |false=>rw[D,P]at h;cases h
     |true=>
      rw[D,P]at h;simp at h;split at h
      ·rename_i y C;cases h;have B:=tY hq C;rw[gG,gR D,gR P]at B;exact xC (g:=λn=>.l' n) Τ Τ (λ_ _=>rfl) (λu f n p=>by simp[SC.v,p,Src.ad]) (λ_ _=>.inl ⟨id,Τ,B⟩)
      ·cases h
   ·cases h
  ·rename_i id m E;split at h
   ·rename_i Y cs B;rw[gG]at B;cases D:cY Y e with
    |false=>rw[D]at h;cases h
    |true=>
     rw[D]at h;simp at h;have h:=dF h;have hm:=dF h.2;have G:=hm.2;split at G
     ·rename_i y C;cases G;rw[gR D]at B;refine xC (g:=λn=>.l' n) Τ Τ (λ_ _=>rfl) (λu f n p=> ?_) (λ_ _=>.inr (.inr ⟨id,m,cs,Τ,B,C,h.1,CP hm.1⟩));have:=(dq C).1;simp[SC.v,p,Src.ad]
     ·cases G
   ·cases h
  ·cases h
 |y'=>
  intro self l x r ss h;simp only[Ty.rd]at h;split at h
  ·rename_i id E;split at h
   ·rename_i m y B;cases h;rw[gG]at B;have hm:=U id m x B;exact xC (g:=λn=>.l' n) Τ Τ (λ_ _=>rfl) (λu f n p=>by simp[SC.v,p,Src.ad]) (λ_ _=>⟨Τ,id,m,Τ,B⟩)
   ·cases h
  ·cases h
 |r' t I=>
  intro self l x r ss h;simp only[Ty.rd]at h;split at h
  ·cases h;exact xC (g:=λn=>.l' n) Τ Τ (λ_ _=>rfl) (λu f n p=>by simp[SC.v,p,Src.ad]) (λ_ _=>.inr (.inl ⟨Τ,Τ⟩))
  ·rename_i id E;split at h
   ·rename_i y C;cases h
    rw[gG]at C;have b5:fN H id=γ x:=by
     cases any with
     |true=>obtain⟨ob,p,G⟩:=Xi (λm x hx=>U id m x hx) (show Hu t H[id]? =θ x from C);rw[nD p,G]
     |false=>have p:=Dl (show H7 t H[id]? =θ x from C);rw[nD p];rfl
    exact xC (g:=λn=>.l' n) Τ Τ (λ_ _=>rfl) (λu f n p=>by simp[SC.v,p,Src.ad]) (λ_ _=>.inl ⟨id,Τ,C⟩)
   ·cases h
  ·rename_i id m E;cases any with
   |false=>cases h
   |true=>
    simp at h;split at h
    ·rename_i Y cs B;rw[gG]at B;split at h
     ·rename_i y C;cases h;refine xC (g:=λn=>.l' n) Τ Τ (λ_ _=>rfl) (λu f n p=> ?_) (λ_ _=>.inr (.inr ⟨Τ,id,m,Y,cs,Τ,B,C⟩));have:=(dq C).1;simp[SC.v,p,Src.ad]
     ·cases h
    ·cases h
  ·cases h
 |p' e t I=>
  intro self l x r ss h;simp only[Ty.rd]at h;split at h
  ·rename_i id off E;split at h
   ·rename_i Y cs B;rw[gG]at B;cases A:cY off 0 with
    |false=>rw[A]at h;cases h
    |true=>
     cases D:cY Y e with
     |false=>rw[A,D]at h;cases h
     |true=>
      rw[A,D]at h;simp at h;split at h
      ·rename_i y M C;cases h;rw[gR D]at B;have Q:=I id cs x [] M C;obtain⟨us,J,N⟩:=Q.kn;rw[gH]at J;subst J;refine⟨by rw[cM,Q.no];rfl,⟨[_],Τ,λc w=>by rw[aH.1 w];rfl⟩,λu f d n hZ=> ?_⟩;have W:f n=u id:=hZ.ad 0 _ Τ;have V:At t u id M f n (n+1):=⟨λ_=>by rw[W],λj s F=>by rw[Rc];exact hZ.ad (j+1) s (by simpa using F)⟩;obtain⟨p,G⟩:=Q.to u f n (n+1) V;refine⟨?_,λj s o z S=> ?_⟩
       ·show(SC.p' id off).v u::_=[(SC.p' n 0).v f]++_;simp[SC.v,W,gR A]
       ·cases j with
        |zero=>cases z;have:Ob.bl e (t.lay n (n+1) x).1=o:=aP S;subst this;refine⟨id,cs,Τ,B,by simpa using p,N,λc w=>(Ty.Ed t n (n+1) x c w).1⟩
        |succ j=>exact G j s o (by simpa using z) (by simpa [Ty.lay] using S)
      ·cases h
   ·cases h
  ·cases h
 |z'=>
  intro self l x r ss h;simp only[Ty.rd]at h;split at h
  ·rename_i j E;cases F:cY j 0 with
   |false=>rw[F]at h;cases h
   |true=>
    rw[F]at h;cases h;refine⟨Τ,⟨[_],Τ,λc w=>by rw[aH.1 w];rfl⟩,λu f d n hZ=>⟨?_,λi s o z A=> ?_⟩⟩
    ·have:=hZ.ad 0 _ Τ;simp at this;simp[Ty.lay,SC.v,this,Src.ad,gR F,kq]
    ·cases i with
     |zero=>cases z;cases(aP A);exact⟨Τ,.inl ⟨_,Τ⟩⟩
     |succ i=>simp at z
  ·rename_i id off E;cases A:cY off 0 with
   |false=>rw[A]at h;cases h
   |true=>
    cases O:cY id self with
    |false=>rw[A,O]at h;cases h
    |true=>
     rw[A,O]at h;cases h;refine⟨Τ,⟨[_],Τ,λc w=>by rw[aH.1 w];rfl⟩,λu f d n hZ=>⟨?_,λi s o z A=> ?_⟩⟩
     ·have:=hZ.ad 0 _ Τ;simp at this;have K:=hZ.sf Τ;rw[<-gR O]at K;simp[Ty.lay,SC.v,this,Src.ad,gR A,iM]
     ·cases i with
      |zero=>cases z;cases(aP A);exact⟨Τ,.inl ⟨_,Τ⟩⟩
      |succ i=>simp at z
  ·rename_i id fl E;cases O:cY id self with
   |false=>rw[O]at h;cases h
   |true=>
    rw[O]at h;simp at h;split at h
    ·rename_i T;cases h;rw[gG]at T;refine⟨Τ,⟨[_],Τ,λc w=>by rw[aH.1 w];rfl⟩,λu f d n hZ=>⟨?_,λi s o z A=> ?_⟩⟩
     ·have:=hZ.ad 0 _ Τ;simp at this;have K:=hZ.sf Τ;rw[<-gR O]at K;simp[Ty.lay,SC.v,this,Src.ad,K]
     ·cases i with
      |zero=>cases z;cases(aP A);exact⟨Τ,.inr ⟨fl,Τ,T⟩⟩
      |succ i=>simp at z
    ·cases h
  ·cases h
 |o' j=>
  intro self l x r ss h;simp only[Ty.rd]at h;split at h
  ·rename_i j2 E;cases F:cY j j2 with
   |false=>rw[F]at h;cases h
   |true=>rw[F]at h;cases h;exact⟨Τ,⟨[_],Τ,λc w=>by rw[aH.1 w];rfl⟩,λu f d n hZ=>⟨by simp[Ty.lay,SC.v,gR F],λi s o z A=>by simp at z⟩⟩
  ·cases h
 |f' k t I=>
  intro self l x r ss h;simp only[Ty.rd]at h;split at h
  ·rename_i k2 a5 E;cases hk:cY k k2 with
   |false=>rw[hk]at h;cases h
   |true=>
    cases R:t.M2 with
    |false=>rw[hk,R]at h;cases h
    |true=>
     rw[hk,R]at h;split at h
     ·rename_i y M C;cases h;have Q:=I self _ x [] ss C;refine⟨Q.no,⟨[_],Τ,λc w=>by rw[aH.1 w];rfl⟩,λu f d n hZ=> ?_⟩;obtain⟨p,G⟩:=Q.to u f d n ⟨hZ.sf,hZ.ad⟩;refine⟨?_,G⟩;have h3:=M1 t d n x R;rw[h3,iS,gH,lK,lK]at p;have h4:(a5.map λid=>iM (u id).b 0)=(oW (t.lay d n x).1).map λid=>iM (f id).b 0:=p;simp[Ty.lay,SC.v,gR hk,h4]
     ·cases h
  ·cases h
open Nat renaming blt → fI
theorem Hp.pick{w0 w:ο}{S:δ Nat}{L L2:δ cF}(M:δ (ε Nat))(h:Hp w0 S L w)
  (o:∀(j:Nat) r,L2[j]? =θ r->r.holds w/\∀b,r.own=θ b->∃i a,M[j]? =θ (θ i)/\L[i]? =θ a/\a.own=θ b)
  (D:∀j k i:Nat,M[j]? =θ (θ i)->M[k]? =θ (θ i)->j=k):Hp w0 S L2 w:=by
 refine⟨h.os,h.tape,h.output,h.size,h.below,λr A=> ?_,?_⟩
 ·obtain⟨j,m⟩:=jN.1 A;obtain⟨H,G⟩:=o j r m;refine⟨H,λb q=> ?_⟩;obtain⟨i,a,_,t,g⟩:=G b q;exact(h.res a (aI t)).2 b g
 ·refine eE.2 λj k m B C b q p=> ?_;obtain⟨i,a,F,t,g⟩:=(o j _ (aN m)).2 b q;obtain⟨f,z,u,s,e⟩:=(o k _ (aN B)).2 b p;obtain⟨d,y⟩:=aF.1 t;obtain⟨c,x⟩:=aF.1 s;have v:=eE.1 h.sep
  have:i=f:=by
   rcases Nat.lt_trichotomy i f with l|E|n
   ·exact absurd (by rw[x];exact e) (v i f d c l b (by rw[y];exact g))
   ·exact E
   ·exact absurd (by rw[y];exact g) (v f i c d n b (by rw[x];exact e))
  subst this;have:=D j k i F u;omega
theorem kT(S:St)(d t:Nat)(v:SV):(S.set d v).at t=if t=d then v else S.at t:=by
 unfold St.at St.set;by_cases h:t=d
 ·subst h;rw[Go.Ce.Tr.Bq];simp
 ·rw[Go.Ce.Tr.Bq,aA h,aA h]
theorem uS(S:St)(d:ε Nat)(v:SV)(t:Nat):(S.xA d v).at t=if d=θ t then v else S.at t:=by
 cases d with
 |none=>simp[St.xA]
 |some d=>
  simp only[St.xA,kT,bG];by_cases h:t=d
  ·subst h;simp
  ·rw[aA h,aA (λe=>h e.symm)]
structure Rel (C:Cx) (w0:ο) (S0:List Nat) (ρ:Nat->Ad) (S:St) (F:Nat->ξ) (w:ο):Prop where
 gl:∀g id,C.G g=θ id->id<γ S.H/\(ρ id).a=θ ⟨g,0,ι⟩
 fr:∀(t:Nat) (v:ξ),(S.at t).v ρ=θ v->F t=v
 fo:∀t,(S.at t).ok (γ S.H)
 ho:∀(id e:Nat) (cs:List SC),S.H[id]? =θ (.bl e cs)->∀c∈cs,c.ok (γ S.H)
 mem:∃L,Hp w0 S0 L w/\Mt w0 S0 ρ S.H L
def kV(f:δ Rg)(id:Nat)(ρ g:Nat->Ad)(d:ε Ob):Ob->Prop
 |.bl e cs=>(∀j,j<=γ cs->eO id j f=μ)\/∃a,d=θ (.bl e a)/\γ a=γ cs/\∀j c,cs[j]? =θ c->eO id j f=μ\/∃h,a[j]? =θ h/\(c.kn=μ->h.kn=μ/\h.v g=c.v ρ)
 |.rw e b t l=>eO id 0 f=μ\/d=θ (.rw e b t l)
 |.br m l=>eO id 0 f=μ\/d=θ (.br m l)
 |.ro t l=>d=θ (.ro t l)
 |.dd n=>d=θ (.dd n)
structure Le (nb:Nat) (al:List Rg) (ρ:Nat->Ad) (H:List Ob) (cW:Nat->Ad) (H2:List Ob):Prop where
 len:γ H<=γ H2
 up:Up (γ H) ρ cW
 kp:∀(id:Nat) (o:Ob),id<nb->H[id]? =θ o->kV al id ρ cW H2[id]? o
theorem kV.refl{d:δ Rg}{id:Nat}{ρ:Nat->Ad}{o:Ob}:kV d id ρ ρ (θ o) o:=by
 cases o with
 |bl e cs=>exact .inr ⟨cs,Τ,Τ,λj c h=>.inr ⟨c,h,λa=>⟨a,Τ⟩⟩⟩
 |rw e b t l=>exact .inr Τ
 |br m l=>exact .inr Τ
 |ro t l=>exact Τ
 |dd n=>exact Τ
theorem Le.refl{a:Nat}{b:δ Rg}{ρ:Nat->Ad}{H:δ Ob}:Le a b ρ H ρ H:=⟨dK _,Up.refl,λid o _ h=>by rw[h];exact kV.refl⟩
theorem kV.mono{k ρ:δ Rg}{id:Nat}(h:kV k id a d o f)(i:∀j,eO id j k=μ->eO id j ρ=μ):kV ρ id a d o f:=by
 cases f with
 |bl e cs=>
  rcases h with h|⟨g,u,s,r⟩
  ·exact .inl λj p=>i j (h j p)
  ·exact .inr ⟨g,u,s,λj c q=>(r j c q).imp (i j) λh=>h⟩
 |rw e b t l=>exact h.imp (i 0) λh=>h
 |br m l=>exact h.imp (i 0) λh=>h
 |ro t l=>exact h
 |dd n=>exact h
theorem Le.mono{d a:Nat}{e c:δ Rg}{ρ b:Nat->Ad}{H H2:δ Ob}(h:Le d e ρ H b H2)(k:a<=d)(g:∀id j,id<a->eO id j e=μ->eO id j c=μ):Le a c ρ H b H2:=
 ⟨h.len,h.up,λid o i f=>(h.kp id o aA0 f).mono λj=>g id j i⟩
theorem Le.trans{r:Nat}{w:δ Rg}{ρ k ρ3:Nat->Ad}{H H2 x:δ Ob}(h:Le r w ρ H k H2)(g:Le r w k H2 ρ3 x):Le r w ρ H ρ3 x:=by
 refine⟨qT h.len g.len,h.up.trans g.up h.len,λid o i y=> ?_⟩;have f:=h.kp id o i y;cases o with
 |bl e cs=>
  rcases f with f|⟨E,p,K,D⟩
  ·exact .inl f
  ·rcases g.kp id _ i p with C|⟨v,B,J,A⟩
   ·exact .inl λj I=>C j aA0
   ·refine .inr ⟨v,B,aA0,λj c z=> ?_⟩;rcases D j c z with u|⟨G,u,d⟩
    ·exact .inl u
    ·rcases A j G u with a|⟨F,a,q⟩
     ·exact .inl a
     ·exact .inr ⟨F,a,λs=>⟨(q (d s).1).1,((q (d s).1).2).trans (d s).2⟩⟩
 |rw e b t l=>exact f.elim .inl λp=>g.kp id _ i p
 |br m l=>exact f.elim .inl λp=>g.kp id _ i p
 |ro t l=>exact g.kp id _ i f
 |dd n=>exact g.kp id _ i f
theorem Pw{id a:Nat}{c:δ Rg}:∀{n:Nat},x1 id a c n=μ->∀j,a<=j->j<a+n->eO id j c=μ
 |0,_,j,b,e=>by omega
 |n+1,h,j,b,e=>by
  have h:=gX h;by_cases d:j=a+n
  ·subst d;exact h.1
  ·exact Pw h.2 j b aA0
theorem zn{S:St}{q:Rg}(h:S.ok q=μ)(a:q.1<S.nb)(j:Nat)(c:q.2.1<=j)(d:j<q.2.2):eO q.1 j S.al=μ:=by
 unfold St.ok at h;have b:fI q.1 S.nb=μ:=by simpa [iQ] using a
 rw[b]at h;exact Pw h j c aA0
theorem QN{S:St}:∀{l:δ Rg},S.Hd l=μ->∀q∈l,S.ok q=μ
 |[],_,q,h=>by cases h
 |x::l,h,q,a=>by
  have h:=gX h;rcases aQ.1 a with rfl|a
  ·exact h.1
  ·exact QN h.2 q a
open UInt8 renaming ofNat → Gg
variable{v:ξ}
theorem Z7(h:cvC v=θ c):c.ids=[]/\c.kn=μ/\∀ρ,c.v ρ=v:=by
 unfold cvC at h;split at h
 ·cases h;exact⟨Τ,Τ,λ_=>rfl⟩
 ·rename_i k n;cases a:LU k .u8 with
  |true=>
   rw[a]at h;split at h
   ·rename_i b;cases h;refine⟨Τ,Τ,λ_=> ?_⟩;rw[mE a];have:((Gg n.toNat).toNat)=n:=by rw[iN];omega
    show bt _=_;unfold bt;rw[this]
   ·cases h
  |false=>rw[a]at h;cases h;exact⟨Τ,Τ,λ_=>rfl⟩
 ·cases h;refine⟨Τ,Τ,λ_=> ?_⟩;congr 1
 ·cases h;exact⟨Τ,Τ,λ_=>rfl⟩
 ·cases h;exact⟨Τ,Τ,λ_=>rfl⟩
 ·cases h;exact⟨Τ,Τ,λ_=>rfl⟩
 ·cases h;exact⟨Τ,Τ,λ_=>rfl⟩
 ·cases h
theorem MQ:∀{l:δ ξ}{cs:δ SC},cvL l=θ cs->(∀c∈cs,c.ids=[]/\c.kn=μ)/\∀ρ,cs.map (SC.v ρ)=l
 |[],cs,h=>by cases h;exact⟨λc h=>absurd h aA2,λ_=>rfl⟩
 |v::l,cs,h=>by
  simp only[cvL]at h;split at h
  ·rename_i x hx;split at h
   ·rename_i q a;cases h;obtain⟨j,i,g⟩:=Z7 hx;obtain⟨f,d⟩:=MQ a;exact⟨λc b=>(aQ.1 b).elim (λe=>e▸⟨j,i⟩) (f c),λρ=>by rw[tR,g,d]⟩
   ·cases h
  ·cases h
theorem vg{u:ξ}(n:Nat):(cv v).ok n/\∀ρ,(cv v).v ρ=θ u->u=v:=by
 unfold cv;split
 ·rename_i cs;split
  ·rename_i l e;obtain⟨b,d⟩:=MQ e;refine⟨λc f=>λid a=>(by rw[(b c f).1]at a;cases a),λρ h=> ?_⟩;simp only[SV.v,d]at h;cases h;rfl
  ·exact⟨trivial,λρ h=>by cases h⟩
 ·split
  ·rename_i x hx;obtain⟨b,d,g⟩:=Z7 hx;refine⟨λid a=>(by rw[b]at a;cases a),λρ h=> ?_⟩;simp only[SV.v,g]at h;cases h;rfl
  ·exact⟨trivial,λρ h=>by cases h⟩
section
variable{C:Cx}{md:Md}{w0 w:ο}{S0:δ Nat}{ρ:Nat->Ad}{S:St}{F:Nat->ξ}
theorem Tm(h:Rel C w0 S0 ρ S F w)(c:C.nn=md.n)(x:χ):(S.ev C x).ok (γ S.H)/\∀u,(S.ev C x).v ρ=θ u->aW md F x=u:=by
 cases x with
 |tmp t=>
  simp only[St.ev,aW,c];cases f:fI t md.n with
  |true=>exact⟨h.fo t,λu a=>h.fr t u a⟩
  |false=>exact⟨trivial,λu a=>by cases a⟩
 |const v=>exact⟨(vg (u:=v) _).1,λu a=>((vg 0).2 _ a).symm⟩
 |global g=>
  simp only[St.ev];cases d:C.G g with
  |none=>exact⟨trivial,λu a=>by cases a⟩
  |some id=>obtain⟨j,e⟩:=h.gl g id d;refine⟨λi b=>(by have:i=id:=aH.1 b;omega),λu a=> ?_⟩;simp only[SV.v,SC.v,e]at a;cases a;simp[aW,ea,Addr.add]
 |func k=>exact⟨λi b=>(by cases b),λu a=>(by cases a;rfl)⟩
variable{x:χ}{f:SC}
theorem nX(h:Rel C w0 S0 ρ S F w)(d:C.nn=md.n)(e:S.ev C x=.c' f):f.ok (γ S.H)/\aW md F x=f.v ρ:=by obtain⟨b,a⟩:=Tm h d x;rw[e]at b a;exact⟨b,a _ Τ⟩
def vE(C:Cx)(md:Md)(ρ:Nat->Ad)(S:St)(F:Nat->ξ)(w:ο)(op:Op)(v:SV):Prop:=
 v.ok (γ S.H)/\∃u,v.v ρ=θ u/\∀(d:Nat) a Ο Ν,(ς (aW md F) (⟨θ d,op,a,Ο,Ν,ι⟩)).run C.P w=.ok (.value u) w
def Jd:δ PD->Prop
 |[]=>True
 |q::l=>q.p/\Jd l
theorem fD{op:Op}{u:ξ}(b:f.ids=[])(e:u=f.v ρ)(h:∀(d:Nat) (ty:ω) (Ο:String) (Ν:Array Edge),(ς (aW md F) (⟨θ d,op,ty,Ο,Ν,ι⟩:Α)).run C.P w=.ok (.value u) w):vE C md ρ S F w op (.c' f):=
 ⟨λid a=>(by rw[b]at a;cases a),u,by rw[e];rfl,h⟩
variable{r:SV}
theorem lI{a:Type}{f:SC->ε a}{x:a}(h:gM r f=θ x):∃c,r=.c' c/\f c=θ x:=by
 cases r with
 |c' c=>exact⟨c,Τ,h⟩
 |_=>cases h
variable{k:Ε}
theorem Ez(h:i64 k=μ):k=.i64:=mE h
variable{b:BinOp}{t a:ω}{y:χ}{v:Int}{g:δ PD}
theorem bI_ok{i:Int}(hx:aW md F x=.int k v)(c:aW md F y=.int k i)(h:bI b k v i=θ (g,r))(f:Jd g):vE C md ρ S F w (.binOp b t x y a) r:=by
 cases b<;>simp only[bI,hO,Tg,reduceCtorEq,bG,cR]at h
 case lss=>obtain⟨-,rfl⟩:=h;exact fD Τ Τ λd e Ο Ν=>ZT k v i hx c
 case leq=>obtain⟨-,rfl⟩:=h;exact fD Τ Τ λd e Ο Ν=>ZU k v i hx c
 case gtr=>obtain⟨-,rfl⟩:=h;exact fD Τ Τ λd e Ο Ν=>ZY k v i hx c
 case geq=>obtain⟨-,rfl⟩:=h;exact fD Τ Τ λd e Ο Ν=>ZZ k v i hx c
 case eql=>obtain⟨-,rfl⟩:=h;exact fD Τ Τ λd e Ο Ν=>A0 k v i hx c
 case neq=>obtain⟨-,rfl⟩:=h;exact fD Τ Τ λd e Ο Ν=>ZR k v i hx c
 case and=>obtain⟨-,rfl⟩:=h;exact fD Τ Τ λd e Ο Ν=>sw k v i hx c
 case or=>obtain⟨-,rfl⟩:=h;exact fD Τ Τ λd e Ο Ν=>x_or k v i hx c
 case add=>
  cases u:i64 k with
  |true=>rw[u]at h;obtain rfl:=Ez u;simp only[aM,bG,cR]at h;obtain⟨rfl,rfl⟩:=h;exact fD Τ Τ λd e Ο Ν=>Jh v i hx c ⟨f.1.lo,f.1.hi⟩
  |false=>rw[u]at h;simp only[aG,bG,cR]at h;obtain⟨-,rfl⟩:=h;exact fD Τ Τ λd e Ο Ν=>A3 k v i hx c
 case sub=>
  cases u:i64 k with
  |true=>rw[u]at h;obtain rfl:=Ez u;simp only[aM,bG,cR]at h;obtain⟨rfl,rfl⟩:=h;exact fD Τ Τ λd e Ο Ν=>oH v i hx c ⟨f.1.lo,f.1.hi⟩
  |false=>rw[u]at h;simp only[aG,bG,cR]at h;obtain⟨-,rfl⟩:=h;exact fD Τ Τ λd e Ο Ν=>ZN k v i hx c
 case mul=>
  cases u:i64 k with
  |true=>rw[u]at h;obtain rfl:=Ez u;simp only[aM,bG,cR]at h;obtain⟨rfl,rfl⟩:=h;exact fD Τ Τ λd e Ο Ν=>ew v i hx c ⟨f.1.lo,f.1.hi⟩
  |false=>rw[u]at h;simp only[aG,bG,cR]at h;obtain⟨-,rfl⟩:=h;exact fD Τ Τ λd e Ο Ν=>ZS k v i hx c
 case quo=>
  cases u:i64 k with
  |true=>rw[u]at h;obtain rfl:=Ez u;simp only[aM,bG,cR]at h;obtain⟨rfl,rfl⟩:=h;exact fD Τ Τ λd e Ο Ν=>xc v i hx c f.1
  |false=>rw[u]at h;cases h
 case rem=>
  cases u:i64 k with
  |true=>rw[u]at h;obtain rfl:=Ez u;simp only[aM,bG,cR]at h;obtain⟨rfl,rfl⟩:=h;exact fD Τ Τ λd e Ο Ν=>xb v i hx c f.1
  |false=>rw[u]at h;cases h
variable{n:Md}{P:Β}{e:Nat}{d:String}{c:Array Edge}
theorem xg{t':ω}(o b:ζ)(hx:aW n F x=bt o)(m:aW n F y=bt b)(h:b≠0):(ς (aW n F) (⟨θ e,.binOp .quo a x y t',t,d,c,ι⟩)).run P w=.ok (.value (bt (o/b))) w:=by
 have j:=Rb λl=>h (jE.1 l);have f:=fG (o/b);have i:=UInt8.toNat_div o b;have g:o.toNat/b.toNat=((o/b).toNat:Int):=by rw[i];rfl
 rw[sn .u8 _ b.toNat hx m aA0 aA0 (by rw[g,IntKind.wrap_u8];omega)];rfl
theorem xf{t':ω}(o b:ζ)(hx:aW n F x=bt o)(m:aW n F y=bt b)(h:b≠0):(ς (aW n F) (⟨θ e,.binOp .rem a x y t',t,d,c,ι⟩)).run P w=.ok (.value (bt (o%b))) w:=by
 have j:=Rb λl=>h (jE.1 l);have f:=fG (o%b);have i:=UInt8.toNat_mod o b;have g:o.toNat%b.toNat=((o%b).toNat:Int):=by rw[i];rfl
 rw[si .u8 _ b.toNat hx m aA0 aA0 (by rw[g,IntKind.wrap_u8];omega)];rfl
variable{u:ζ}
theorem bC_ok{v:ζ}(hx:aW md F x=bt u)(i:aW md F y=bt v)(h:bC b u v=θ (g,r))(e:Jd g):vE C md ρ S F w (.binOp b t x y a) r:=by
 cases b<;>simp only[bC,hO,Tg,reduceCtorEq,bG,cR]at h<;>obtain⟨rfl,rfl⟩:=h
 case lss=>exact fD rfl rfl λd c Ο Ν=>xi u v hx i
 case leq=>exact fD rfl rfl λd c Ο Ν=>A8 u v hx i
 case gtr=>exact fD rfl rfl λd c Ο Ν=>xj u v hx i
 case geq=>exact fD rfl rfl λd c Ο Ν=>A9 u v hx i
 case eql=>exact fD rfl rfl λd c Ο Ν=>B0 u v hx i
 case neq=>exact fD rfl rfl λd c Ο Ν=>A7 u v hx i
 case add=>exact fD rfl rfl λd c Ο Ν=>xl u v hx i
 case sub=>exact fD rfl rfl λd c Ο Ν=>A4 u v hx i
 case mul=>exact fD rfl rfl λd c Ο Ν=>xh u v hx i
 case quo=>exact fD rfl rfl λd c Ο Ν=>xg u v hx i e.1
 case rem=>exact fD rfl rfl λd c Ο Ν=>xf u v hx i e.1
 case and=>exact fD rfl rfl λd c Ο Ν=>xk u v hx i
 case or=>exact fD rfl rfl λd c Ο Ν=>x8_or u v hx i
theorem bS_ok{u v:aC}(hx:aW md F x=str u)(i:aW md F y=str v)(h:bS b u v=θ (g,r))(e:Jd g):vE C md ρ S F w (.binOp b t x y a) r:=by
 cases b<;>simp only[bS,hO,Tg,reduceCtorEq,bG,cR]at h<;>obtain⟨rfl,rfl⟩:=h
 case lss=>exact fD rfl rfl λd c Ο Ν=>OB u v hx i
 case gtr=>exact fD rfl rfl λd c Ο Ν=>OC u v hx i
 case eql=>exact fD rfl rfl λd c Ο Ν=>OD u v hx i
 case neq=>exact fD rfl rfl λd c Ο Ν=>OA u v hx i
 case add=>exact fD rfl rfl λd c Ο Ν=>CQ u v hx i e.1
variable{z:η}
theorem bB_ok{v:η}(c:C.P.underlying t=θ .bool)(hx:aW md F x=.bool z)(u:aW md F y=.bool v)(h:bB b z v=θ (g,r)):vE C md ρ S F w (.binOp b t x y a) r:=by
 cases b<;>simp only[bB]at h<;>obtain⟨rfl,rfl⟩:=h
 case eql=>exact fD rfl rfl λd e Ο Ν=>x_eqb z v c hx u
 case neq=>exact fD rfl rfl λd e Ο Ν=>x_neb z v c hx u
theorem yg(hx:aW md F x=bt u)(i:aW md F y=.int k v)(e:z=μ->0<=v)(h:sh8 z b u v=θ (g,r))(f:Jd g):vE C md ρ S F w (.binOp b t x y a) r:=by
 cases b<;>simp only[sh8,hO,Tg,reduceCtorEq]at h
 case shl=>
  cases z with
  |true=>cases h;exact fD Τ Τ λd c Ο Ν=>A6 k u v hx i (e Τ)
  |false=>cases h;exact fD Τ Τ λd c Ο Ν=>A6 k u v hx i f.1
 case shr=>
  cases z with
  |true=>cases h;exact fD Τ Τ λd c Ο Ν=>A5 k u v hx i (e Τ)
  |false=>cases h;exact fD Τ Τ λd c Ο Ν=>A5 k u v hx i f.1
theorem mq(a:aW md F x=.int k v)(h:mr x=μ):0<=v:=by
 unfold mr at h;split at h
 ·rename_i k' n;have:Δ k' _=.int k v:=a;cases this;exact Rm n
 ·cases h
end
open Go.Wk
open Go.Ce (Tr)
open Nat renaming beq → cY, blt → fI, succ → qW
theorem beqN(a b:Nat):cY a b=decide (a=b):=by
 by_cases h:a=b
 ·subst h;simp
 ·cases c:cY a b with
  |true=>exact absurd (gR c) h
  |false=>simp[h]
theorem bleN(a b:Nat):Nat.ble a b=decide (a<=b):=by
 by_cases h:a<=b
 ·simp[h]
 ·cases c:Nat.ble a b with
  |true=>exact absurd (CP c) h
  |false=>simp[h]
theorem bltN(a b:Nat):fI a b=decide (a<b):=by unfold fI;rw[bleN];rfl
theorem wK{id j:Nat}:∀{l:δ Rg},eO id j l=μ↔∃q∈l,q.1=id/\q.2.1<=j/\j<q.2.2
 |[]=>by simp[eO]
 |q::l=>by have a:=wK (id:=id) (j:=j) (l:=l);simp only[eO,aQ,exists_eq_or_imp];rw[<-a];by_cases c:q.1=id<;>by_cases b:q.2.1<=j<;>by_cases d:j<q.2.2<;>simp[c,b]
variable{k j:Nat}{a:δ Rg}
theorem Hv{b:δ Rg}:eO k j (a++b)=μ↔eO k j a=μ\/eO k j b=μ:=by
 simp only[wK,aV];constructor
 ·rintro⟨q,h|h,c⟩
  ·exact .inl ⟨q,h,c⟩
  ·exact .inr ⟨q,h,c⟩
 ·rintro(⟨q,h,c⟩|⟨q,h,c⟩)
  ·exact⟨q,.inl h,c⟩
  ·exact⟨q,.inr h,c⟩
theorem Xl{t:Nat}:∀{l:δ Nat},lG t l=μ↔t∈l
 |[]=>by simp[lG]
 |x::l=>by simp only[lG,aQ];rw[<-Xl];by_cases h:t=x<;>simp
theorem sT:∀{l r:δ Nat},HW l r=μ↔∀x∈l,x∉r
 |[],r=>by simp[HW]
 |x::l,r=>by have a:=sT (l:=l) (r:=r);have b:=Xl (t:=x) (l:=r);simp only[HW,aQ,forall_eq_or_imp];rw[<-a,<-b];cases lG x r<;>simp
theorem mZ:∀{l:δ Nat},Sn l=μ↔l.Nodup
 |[]=>by simp[Sn]
 |x::l=>by have a:=mZ (l:=l);have b:=Xl (t:=x) (l:=l);simp only[Sn,List.nodup_cons];rw[<-a,<-b];cases lG x l<;>simp
variable{n:Nat}
theorem pc(h:x1 k j a n=μ){b:Nat}(d:j<=b)(c:b<j+n):eO k b a=μ:=Pw h b d c
theorem Yf{n:Nat}{f:δ Rg}:∀{m:δ Rg},KD n f m=μ->∀{id j:Nat},id<n->eO id j m=μ->eO id j f=μ
 |[],_,id,j,_,b=>by simp[eO]at b
 |q::m,h,id,j,hid,b=>by
  have h:=gX h;obtain⟨r,a,e,d,g⟩:=wK.1 b;rcases aQ.1 a with rfl|a
  ·have c:=h.1;rw[e,bltN]at c;simp only[hid]at c;exact pc c d aA0
  ·exact Yf h.2 hid (wK.2 ⟨r,a,e,d,g⟩)
theorem Aj{S:St}(h:S.Hd a=μ)(hid:k<S.nb)(b:eO k j a=μ):eO k j S.al=μ:=by obtain⟨q,l,e,d,c⟩:=wK.1 b;subst e;exact zn (QN h q l) hid j d c
theorem bjf{H:δ Ob}:∀{l:δ Nat}{id:Nat},id∈l->wR H id∈Xg H l
 |x::l,id,h=>by
  rcases aQ.1 h with rfl|h
  ·exact gQ
  ·exact fB _ (bjf h)
theorem Tz{H:δ Ob}:∀{l:δ Nat}{q:Rg},q∈Xg H l->∃id∈l,q=wR H id
 |x::l,q,h=>by
  rcases aQ.1 (h)with rfl|h
  ·exact⟨x,gQ,Τ⟩
  ·obtain⟨id,b,a⟩:=Tz h;exact⟨id,fB _ b,a⟩
variable{H:δ Ob}{l:δ Nat}
theorem Km{cs:δ SC}(h:H[k]? =θ (.bl j cs))(a:k∈l)(b:n<=γ cs):eO k n (Xg H l)=μ:=by refine wK.2 ⟨_,bjf a,Τ,cH _,?_⟩;unfold wR;rw[gG,h];show n<qW (γ cs);omega
theorem bcd(a:k∈l):eO k 0 (Xg H l)=μ:=by
 refine wK.2 ⟨_,bjf a,Τ,cH _,?_⟩;unfold wR;split
 ·rename_i h;simp_all
 ·simp
variable{b:Type}{d:δ b}{y:b}
theorem yF:(jC d k y)[j]? =if j=k/\k<γ d then θ y else d[j]? :=by
 rw[oX,eT];by_cases h:k=j
 ·subst h;by_cases a:k<γ d
  ·simp[a]
  ·simp[a]
 ·rw[aA h,aA aA0]
theorem NB:γ (jC d k y)=γ d:=by rw[oX,gD]
theorem bkx:∀{l:δ Nat}{H:δ Ob},γ (kill H l)=γ H
 |[],_=>rfl
 |x::l,H=>by show(kill _ l).length=_;rw[bkx,NB]
theorem SS{id:Nat}:∀{l:δ Nat}{H:δ Ob},(kill H l)[id]? =if id∈l then(H[id]?).map (λo=>.dd o.len)else H[id]?
 |[],H=>by simp[kill]
 |x::l,H=>by
  show(kill _ l)[id]? =_;rw[SS,yF];by_cases h:id=x
  ·subst h;by_cases a:id<γ H
   ·have e:=aN a;simp[a,YY,Ob.len]
   ·have e:H[id]? =ι:=bO aA0;simp[a]
  ·simp[h]
theorem Xz:∀{l:δ SC}{a n j:Nat},(TT l a n)[j]? =if a<=j/\j<a+n then(l[j]?).map (λ_=>SC.u')else l[j]?
 |[],a,n,j=>by cases a<;>cases n<;>simp[TT]
 |x::l,a+1,n,j=>by
  simp only[TT];cases j with
  |zero=>simp
  |succ j=>
   rw[hK,hK,Xz];by_cases h:a<=j/\j<a+n
   ·rw[aB h,aB aA0]
   ·rw[aA h,aA aA0]
 |x::l,0,0,j=>by simp[TT]
 |x::l,0,n+1,j=>by
  simp only[TT];cases j with
  |zero=>simp
  |succ j=>
   rw[hK,hK,Xz];by_cases h:j<n
   ·rw[aB aA0,aB aA0]
   ·rw[aA aA0,aA aA0]
theorem Xy:∀{l:δ SC}{a n:Nat},γ (TT l a n)=γ l
 |[],a,n=>by cases a<;>cases n<;>rfl
 |x::l,a+1,n=>by simp[TT,Xy]
 |x::l,0,0=>rfl
 |x::l,0,n+1=>by simp[TT,Xy]
def Fgt(rs:δ Rg)(id:Nat)(o b:Ob):Prop:=match o with
 |.bl e cs=>∃a,b=.bl e a/\γ a=γ cs/\∀j,a[j]? =if eO id j rs=μ then(cs[j]?).map (λ_=>SC.u')else cs[j]?
 |o=>(b=o/\∀q∈rs,q.1≠id)\/(b=.dd o.len/\∃q∈rs,q.1=id)
theorem bjz:∀{rs:δ Rg}{H:δ Ob},γ (Xe H rs)=γ H
 |[],_=>rfl
 |q::rs,H=>by simp only[Xe];split<;>rw[bjz,NB]
theorem bco{id:Nat}:∀{rs:δ Rg}{H:δ Ob}{o:Ob},H[id]? =θ o->∃b,(Xe H rs)[id]? =θ b/\Fgt rs id o b
 |[],H,o,h=>by refine⟨o,h,?_⟩;cases o<;>simp[Fgt,eO]
 |q::rs,H,o,h=>by
  have g:=(aF.1 h).1;simp only[Xe];by_cases m:q.1=id
  ·subst m;rw[gG,h];cases o with
   |bl e cs=>
    obtain⟨b,k,d,rfl,c,i⟩:=bco (id:=q.1) (rs:=rs) (H:=jC H q.1 (.bl e (TT cs q.2.1 (q.2.2-q.2.1)))) (o:=.bl e (TT cs q.2.1 (q.2.2-q.2.1))) (by rw[yF];simp[g]);refine⟨_,k,d,Τ,by rw[c,Xy],λj=> ?_⟩
    rw[i,Xz];have p:eO q.1 j (q::rs)=μ↔(q.2.1<=j/\j<q.2.1+(q.2.2-q.2.1))\/eO q.1 j rs=μ:=by
     rw[show q::rs=[q]++rs from Τ,Hv,wK];simp;constructor
     ·rintro(h|h)
      ·exact .inl aA0
      ·exact .inr h
     ·rintro(h|h)
      ·exact .inl aA0
      ·exact .inr h
    by_cases f:eO q.1 j rs=μ
    ·rw[aB f,aB (p.2 (.inr f))];split<;>simp[Function.comp_def]
    ·rw[aA f];by_cases n:q.2.1<=j/\j<q.2.1+(q.2.2-q.2.1)
     ·rw[aB n,aB (p.2 (.inl n))]
     ·rw[aA n,aA (λh=>(p.1 h).elim n f)]
   |_=>
    obtain⟨b,k,a⟩:=bco (id:=q.1) (rs:=rs) (H:=jC H q.1 (.dd (fN H q.1))) (o:=.dd (fN H q.1)) (by rw[yF];simp[g]);refine⟨b,k,.inr ⟨?_,q,gQ,Τ⟩⟩
    have e:b=.dd (fN H q.1):=by
     rcases a with⟨a,_⟩|⟨a,_⟩
     ·exact a
     ·exact a
    rw[e,nD h]
  ·have key:∀y,(jC H q.1 y)[id]? =θ o:=λy=>by rw[yF,aA (λt=>m t.1.symm)];exact h
   have l:∀y,∃b,(Xe (jC H q.1 y) rs)[id]? =θ b/\Fgt (q::rs) id o b:=by
    intro y;obtain⟨b,k,a⟩:=bco (key y);refine⟨b,k,?_⟩;cases o with
    |bl e cs=>
     obtain⟨d,c,i,f⟩:=a;refine⟨d,c,i,λj=> ?_⟩;rw[f]
     have:eO id j (q::rs)=eO id j rs:=by
      have u:cY q.1 id=ν:=by rw[beqN];simp[m]
      simp[eO,u]
     rw[this]
    |_=>
     rcases a with⟨a,c⟩|⟨a,r,c,i⟩
     ·exact .inl ⟨a,λr s=>(aQ.1 s).elim (λe=>e▸m) (c r)⟩
     ·exact .inr ⟨a,r,fB _ c,i⟩
   split
   ·exact l _
   ·exact l _
theorem Hj(h:H[k]? =ι):(Xe H a)[k]? =ι:=by rw[List.getElem?_eq_none_iff]at h⊢;rw[bjz];exact h
noncomputable def Tf(F:Tr SV)(t:Nat):SV:=match F.get t with
 |some v=>v
 |none=>.u'
theorem St.at_eq(S:St)(t:Nat):S.at t=Tf S.F t:=rfl
theorem Jw(F:Tr SV)(d t:Nat)(v:SV):Tf (F.set d v) t=if t=d then v else Tf F t:=by
 unfold Tf;by_cases h:t=d
 ·subst h;rw[Go.Ce.Tr.Bq];simp
 ·rw[Go.Ce.Tr.Bq,aA h,aA h]
theorem BE{t:Nat}:∀{w:δ Nat}{F:Tr SV},Tf (del F w) t=if t∈w then .u' else Tf F t
 |[],F=>by simp[del]
 |x::w,F=>by
  show Tf (del _ w) t=_;rw[BE,Jw];by_cases h:t=x
  ·subst h;simp
  ·simp[h]
theorem pw:∀(t:Ty) (s n) x (j e:Nat) cs,(t.lay s n x).2[j]? =θ (.bl e cs)->∀c∈cs,c.ok (n+γ (t.lay s n x).2):=by
 intro t;induction t with
 |w' t d=>intro s n x;exact d s n x
 |pr a b l i=>
  intro s n x j e cs h;have h:((a.lay s n x.1).2++(b.lay s _ x.2).2)[j]? =θ _:=h;have o:γ ((Ty.pr a b).lay s n x).2=γ (a.lay s n x.1).2+γ (b.lay s (n+a.no) x.2).2:=by show((a.lay s n x.1).2++(b.lay s (n+a.no) x.2).2).length=_;rw[cE]
  have m:=a.eA s n x.1;intro c f;by_cases p:j<γ (a.lay s n x.1).2
  ·rw[aJ p]at h;exact SC.cT (l _ _ _ _ _ _ h c f) aA0
  ·rw[aO aA0]at h;exact SC.cT (i _ _ _ _ _ _ h c f) aA0
 |p' e t d=>
  intro s n x j g cs h;have o:γ ((Ty.p' e t).lay s n x).2=γ (t.lay n (n+1) x).2+1:=by show(_::_:δ Ob).length=_;rw[cM]
  intro c f;cases j with
  |zero=>cases h;intro id q;rcases(Ty.Ed t n _ x c f).2 id q with h|h<;>omega
  |succ j=>exact SC.cT (d _ _ _ _ _ _ h c f) aA0
 |f' k t d=>intro s n x;exact d s n x
 |l' e b t d=>
  intro s n x j g cs h;cases j with
  |zero=>cases aP h
  |succ j=>simp[Ty.lay]at h
 |y'=>
  intro s n x j g cs h;cases j with
  |zero=>cases aP h
  |succ j=>simp[Ty.lay]at h
 |r' t d=>
  intro s n x j g cs h;cases j with
  |zero=>cases aP h
  |succ j=>simp[Ty.lay]at h
 |z'=>
  intro s n x j g cs h;cases j with
  |zero=>cases aP h
  |succ j=>simp[Ty.lay]at h
 |_=>intro s n x j g cs h;simp[Ty.lay]at h
theorem bjo:∀(t:Ty) (s n) x,t.tz=ν->∀c∈(t.lay s n x).1,c.ok (n+γ (t.lay s n x).2):=by
 intro t;induction t with
 |w' t g=>intro s n x h;exact g s n x h
 |pr a b l j=>
  intro s n x h c d;have i:a.tz=ν:=by
   cases i:a.tz with
   |true=>simp[Ty.tz,i]at h
   |false=>rfl
  have o:b.tz=ν:=by simpa [Ty.tz,i] using h
  have u:γ ((Ty.pr a b).lay s n x).2=γ (a.lay s n x.1).2+γ (b.lay s (n+a.no) x.2).2:=by show((a.lay s n x.1).2++(b.lay s _ x.2).2).length=_;rw[cE]
  have m:=a.eA s n x.1;rcases aV.1 (d)with d|d
  ·exact SC.cT (l _ _ _ i c d) aA0
  ·exact SC.cT (j _ _ _ o c d) aA0
 |f' k t g=>intro s n x h c d;have:c=_:=aH.1 d;subst this;intro id f;obtain⟨r,q,p⟩:=An (f);exact g s n x h r q id p
 |z'=>intro s n x h;cases h
 |u'=>intro s n x h c d;cases d
 |sm a b _ _=>intro s n x h c d;cases d
 |p' e t g=>intro s n x h c d;have:c=_:=aH.1 d;subst this;intro id f;have:id=n:=aH.1 f;subst this;show id<id+γ (_::_:δ Ob);simp
 |l' e b t g=>intro s n x h c d;have:c=_:=aH.1 d;subst this;intro id f;have:id=n:=aH.1 f;subst this;exact Cu _
 |r' t g=>intro s n x h c d;have:c=_:=aH.1 d;subst this;intro id f;have:id=n:=aH.1 f;subst this;exact Cu _
 |y'=>intro s n x h c d;have:c=_:=aH.1 d;subst this;intro id f;have:id=n:=aH.1 f;subst this;exact Cu _
 |_=>intro s n x h c d;have:c=_:=aH.1 d;subst this;intro id f;cases f
open Go.Value renaming agg → yS
open Nat renaming beq → cY
def NO(ρ:Nat->Ad)(H:δ Ob):Prop:=∀id o,H[id]? =θ o->o.len=(ρ id).ln
theorem OU{ρ cW:Nat->Ad}(c:NO ρ H)(g:NQ H){s:Src}{o:Ob}(h:YI ν ρ H cW s o):o.len=(s.ad ρ).ln:=by
 cases o with
 |bl e cs=>obtain⟨id,f,rfl,a,_⟩:=h;exact(c id (.bl e f) a)
 |rw e b t l=>
  rcases h with⟨id,rfl,a⟩|⟨rfl,rfl⟩|⟨id,m,cs,rfl,a,d,_⟩
  ·exact c id _ a
  ·rfl
  ·exact(dq d).1
 |ro t l=>
  rcases h with⟨id,rfl,a⟩|⟨rfl,rfl⟩|⟨h,_⟩
  ·exact c id _ (Dl a)
  ·rfl
  ·cases h
 |br n l=>obtain⟨rfl,id,m,rfl,a⟩:=h;have d:=c id _ a;have i:=g id m l a;rw[i];exact d
 |dd n=>
  obtain⟨rfl,⟨t,rfl⟩|⟨j,rfl,a⟩⟩:=h
  ·rfl
  ·exact c j _ a
structure RdV (any:Bool) (H:List Ob) (x:Ty) (sv:SV) (v:x.T) (ss:List Src):Prop where
 no:γ ss=x.no
 tz:x.tz=ν
 to:∀(ρ cW:Nat->Ad) (n:Nat),(∀(j:Nat) (s:Src),ss[j]? =θ s->cW (n+j)=s.ad ρ)->
  (∃u,sv.v ρ=θ u/\(x.sv (x.lay 0 n v).1).v cW=θ u/\(x.sa (x.lay 0 n v).1).v cW=u)/\∀(j:Nat) (s:Src) (o:Ob),ss[j]? =θ s->(x.lay 0 n v).2[j]? =θ o->YI any ρ H cW s o
variable{c:δ Src}
theorem uM{r:ε (b×δ SC×δ Src)}(h:Th r=θ (y,c)):r=θ (y,[],c):=by
 unfold Th at h;split at h
 ·cases h;rfl
 ·cases h
theorem Ze{any:η}(m:NQ H){x:Ty}{j:SV}{v:x.T}(h:VC any H x j=θ (v,c)):RdV any H x j v c:=by
 unfold VC at h;split at h
 ·rename_i q;cases a:x.tz with
  |true=>rw[a]at h;cases h
  |false=>
   cases b:x.agg with
   |true=>rw[a,b]at h;cases h
   |false=>
    rw[a,b]at h;have g:=K5 any H m x 0 _ _ _ _ (uM h);refine⟨g.no,a,λρ cW n e=> ?_⟩;obtain⟨d,i⟩:=g.to ρ cW 0 n ⟨λf=>(by rw[a]at f;cases f),e⟩;refine⟨⟨q.v ρ,Τ,?_⟩,i⟩;unfold Ty.sv Ty.sa;rw[b];cases k:(x.lay 0 n v).1 with
    |nil=>rw[k]at d;cases d
    |cons o p=>
     rw[k]at d;cases p with
     |cons _ _=>simp at d
     |nil=>have d:q.v ρ=o.v cW:=aD5;exact⟨by show θ _=_;rw[d],by show o.v cW=_;rw[d]⟩
 ·rename_i l;cases a:x.tz with
  |true=>rw[a]at h;cases h
  |false=>
   cases b:x.agg with
   |false=>rw[a,b]at h;cases h
   |true=>rw[a,b]at h;have g:=K5 any H m x 0 _ _ _ _ (uM h);refine⟨g.no,a,λρ cW n e=> ?_⟩;obtain⟨d,i⟩:=g.to ρ cW 0 n ⟨λf=>(by rw[a]at f;cases f),e⟩;refine⟨⟨_,Τ,?_⟩,i⟩;rw[iS,gH]at d;unfold Ty.sv Ty.sa;rw[b];exact⟨by show θ _=_;rw[d],by show yS _=_;rw[d]⟩
 ·cases h
def BO(H2:δ Ob)(cW ρ3:Nat->Ad)(id:Nat):Ob->Prop
 |.bl e cs=>∃a,H2[id]? =θ (.bl e a)/\γ a=γ cs/\∀(j:Nat) c,cs[j]? =θ c->c.kn=μ->∃b,a[j]? =θ b/\b.kn=μ/\b.v cW=c.v ρ3
 |.dd _=>True
 |o=>H2[id]? =θ o
structure PI (n0:Nat) (H2:List Ob) (ρ cW ρ3:Nat->Ad) (F2:Nat->ξ) (E:List Nat) (H0:List Ob) (al:List Rg) (Fm:Tr SV) (H1:List Ob) (done:List Src):Prop where
 len:γ H1=n0+γ done
 fr:∀t u,(Tf Fm t).v ρ3=θ u->F2 t=u
 fo:∀t,(Tf Fm t).ok (γ H1)
 ho:∀(id e:Nat) (cs:List SC),H1[id]? =θ (.bl e cs)->∀c∈cs,c.ok (γ H1)
 ln:NO ρ3 H1
 ba:∀(id:Nat) (o:Ob),id<n0->H1[id]? =θ o->BO H2 cW ρ3 id o
 nw:∀(j:Nat) (s:Src) (o:Ob),done[j]? =θ s->H1[n0+j]? =θ o->YI ν cW H2 ρ3 s o
 de:∀id,id<n0->id∈E->∃m,H1[id]? =θ (.dd m)
 kp:∀(id:Nat) (o:Ob),H0[id]? =θ o->kV al id ρ ρ3 H1[id]? o
section
variable{n0:Nat}{H2 H0 H1:δ Ob}{ρ cW ρ3:Nat->Ad}{F2:Nat->ξ}{E:δ Nat}{al:δ Rg}{Fm:Tr SV}{done:δ Src}
theorem PI.app(h:PI n0 H2 ρ cW ρ3 F2 E H0 al Fm H1 done)(k:NO cW H2)(l:NQ H2)(q:γ H0<=n0){obs:δ Ob}{d:δ Src}(r:γ d=γ obs)
  (m:∀j s,d[j]? =θ s->ρ3 (γ H1+j)=s.ad cW) (n:∀(j:Nat) s o,d[j]? =θ s->obs[j]? =θ o->YI ν cW H2 ρ3 s o)
  (v:∀(j e:Nat) cs,obs[j]? =θ (.bl e cs)->∀c∈cs,c.ok (γ H1+γ obs)):PI n0 H2 ρ cW ρ3 F2 E H0 al Fm (H1++obs) (done++d):=by
 have p:=h.len;refine⟨by simp[h.len,r,Dc],h.fr,λt=>SV.cT (h.fo t) aA2,λid e cs a c g=> ?_,λid o a=> ?_,λid o b a=> ?_,λj s o i a=> ?_,λid b u=> ?_,λid o a=> ?_⟩
 ·by_cases b:id<γ H1
  ·rw[aJ b]at a;exact SC.cT (h.ho id e cs a c g) aA2
  ·rw[aO aA0]at a;rw[cE];exact v _ e cs a c g
 ·by_cases b:id<γ H1
  ·rw[aJ b]at a;exact h.ln id o a
  ·rw[aO aA0]at a;have w:=(aF.1 a).1;have f:d[id-γ H1]? =θ _:=aN aA0;have e:=m _ _ f;rw[show γ H1+(id-γ H1)=id by omega]at e;rw[e];exact OU k l (n _ _ o f a)
 ·rw[aJ aA0]at a;exact h.ba id o b a
 ·by_cases b:j<γ done
  ·rw[aJ b]at i;rw[aJ aA0]at a;exact h.nw j s o i a
  ·rw[aO aA0]at i;rw[aO aA0]at a;rw[show n0+j-γ H1=j-γ done by omega]at a;exact n _ s o i a
 ·rw[aJ aA0];exact h.de id b u
 ·have:=(aF.1 a).1;rw[aJ aA0];exact h.kp id o a
theorem PI.set(h:PI n0 H2 ρ cW ρ3 F2 E H0 al Fm H1 done){t:Nat}{v:SV}(b:∀u,v.v ρ3=θ u->F2 t=u)(c:v.ok (γ H1)):PI n0 H2 ρ cW ρ3 F2 E H0 al (Fm.set t v) H1 done:=by
 refine⟨h.len,λt2 u a=> ?_,λt2=> ?_,h.ho,h.ln,h.ba,h.nw,h.de,h.kp⟩
 ·rw[Jw]at a;by_cases e:t2=t
  ·subst e;rw[aB rfl]at a;exact b u a
  ·rw[aA e]at a;exact h.fr t2 u a
 ·rw[Jw];by_cases e:t2=t
  ·rw[aB e];exact c
  ·rw[aA e];exact h.fo t2
theorem PI.dP(h:PI n0 H2 ρ cW ρ3 F2 E H0 al Fm H1 done){id:Nat}{o d:Ob}(x:id<n0)(w:H1[id]? =θ d)(g:o.len=d.len)(m:BO H2 cW ρ3 id o)(v:id∉E)
  (f:∀e cs,o=.bl e cs->∀c∈cs,c.ok (γ H1)) (i:∀n,H0[id]? =θ n->kV al id ρ ρ3 (θ o) n):PI n0 H2 ρ cW ρ3 F2 E H0 al Fm (jC H1 id o) done:=by
 refine⟨by rw[NB];exact h.len,h.fr,λt=>by rw[NB];exact h.fo t,λk e cs a c r=> ?_,λk p a=> ?_,λk p l a=> ?_,λj s p u a=> ?_,λk l q=> ?_,λk p a=> ?_⟩
 ·rw[yF]at a;rw[NB];split at a
  ·cases a;exact f e cs Τ c r
  ·exact h.ho k e cs a c r
 ·rw[yF]at a;split at a
  ·rename_i b;cases a;rw[b.1,g];exact h.ln id d w
  ·exact h.ln k p a
 ·rw[yF]at a;split at a
  ·rename_i b;cases a;rw[b.1];exact m
  ·exact h.ba k p l a
 ·rw[yF,aA aA0]at a;exact h.nw j s p u a
 ·rw[yF,aA (λ(b:k=id/\_)=>v (b.1▸q))];exact h.de k l q
 ·rw[yF];split
  ·rename_i b;rw[b.1]at a⊢;exact i p a
  ·exact h.kp k p a
end
variable{a:δ SC}{n:Nat}
theorem Ty.Gu{x:Ty}(h:∀c∈a,c.ok n):(x.sv a).ok n:=by
 unfold Ty.sv;cases x.agg with
 |true=>exact h
 |false=>
  split
  ·exact h _ (aH.2 Τ)
  ·trivial
theorem Ty.sa_ok{x:Ty}(h:∀c∈a,c.ok n):(x.sa a).ok n:=by
 unfold Ty.sa;cases x.agg with
 |true=>exact h
 |false=>
  split
  ·exact h _ (aH.2 Τ)
  ·exact h
def KC(n0:Nat)(H0:δ Ob)(E:δ Nat)(al:δ Rg)(ix:Nat->Nat):Key->Prop
 |.s' _ _=>True
 |.o' t off x=>ix t<n0/\∀j,off<=j->j<off+x.cn->eO (ix t) j al=μ
 |.w' t _=>ix t<n0/\eO (ix t) 0 al=μ/\ix t∉E/\wF H0[ix t]? =μ
section
variable{n0:Nat}{H2 H0 H1:δ Ob}{ρ cW ρ3:Nat->Ad}{F2:Nat->ξ}{E:δ Nat}{al:δ Rg}{Fm:Tr SV}{done:δ Src}{ix:Nat->Nat}{at2:Nat->SV}
variable{t:Nat}{x:Ty}{d:δ Src}{v:x.T}
theorem PI.stepS(h:PI n0 H2 ρ cW ρ3 F2 E H0 al Fm H1 done)(g:NO cW H2)(b:NQ H2)(f:γ H0<=n0)(l:∀t u,(at2 t).v cW=θ u->F2 t=u)(i:VC ν H2 x (at2 t)=θ (v,d))
  (c:∀j s,d[j]? =θ s->ρ3 (γ H1+j)=s.ad cW):PI n0 H2 ρ cW ρ3 F2 E H0 al (zf Fm H1 t x v).1 (zf Fm H1 t x v).2 (done++d):=by
 have e:=Ze b i;obtain⟨⟨u,o,n,_⟩,m⟩:=e.to cW ρ3 (γ H1) c;have k:γ d=γ (x.lay 0 (γ H1) v).2:=by rw[e.no,Ty.eA]
 refine(h.app g b f k c m (pw x 0 (γ H1) v)).set ?_ ?_
 ·intro p a;rw[n]at a;cases a;exact l t u o
 ·rw[cE];exact Ty.Gu (bjo x 0 (γ H1) v e.tz)
theorem PI.tl(h:PI n0 H2 ρ cW ρ3 F2 E H0 al Fm H1 done)(P:NO cW H2)(C:NQ H2)(O:γ H0<=n0)(L:Up n0 cW ρ3){off:Nat}(T:rdB H2 t off x=θ (v,d))(hid:t<n0)
  (A:∀j,off<=j->j<off+x.cn->eO t j al=μ) (G:∀j s,d[j]? =θ s->ρ3 (γ H1+j)=s.ad cW):PI n0 H2 ρ cW ρ3 F2 E H0 al Fm (L9 H1 t off x v) (done++d):=by
 unfold rdB at T;split at T
 ·rename_i e2 Z U;rw[gG]at U;split at T
  ·rename_i q hq;have l:=K5 ν H2 C x t _ _ _ _ (uM T);obtain⟨n,b⟩:=xK hq;rw[nE]at n b;obtain⟨h1,h2⟩:=l.to cW ρ3 t (γ H1) ⟨λ_=>by rw[L t hid],G⟩;rw[iS,gH]at h1;have hl:γ d=γ (x.lay t (γ H1) v).2:=by rw[l.no,Ty.eA]
   have h3:=h.app P C O hl G h2 (pw x t (γ H1) v);have w:t<γ H1:=by have:=h.len;omega
   unfold L9;split
   ·rename_i e cs p;rw[gG]at p;have B:jC H1 t (.bl e (Zh cs off (x.lay t (γ H1) v).1))++(x.lay t (γ H1) v).2=jC (H1++(x.lay t (γ H1) v).2) t (.bl e (Zh cs off (x.lay t (γ H1) v).1)):=by rw[oX,oX,cp _ _ w]
    rw[B];have W:(H1++(x.lay t (γ H1) v).2)[t]? =θ (.bl e cs):=by rw[aJ w];exact p
    obtain⟨Y,F,X,D⟩:=h.ba t _ hid p;rw[U]at F;cases F;have y:=x.AG t (γ H1) v;have a5:γ q=x.cn:=by rw[n,iI];omega
    have k:∀j c,(Zh cs off (x.lay t (γ H1) v).1)[j]? =θ c->(off<=j/\j<off+x.cn/\(x.lay t (γ H1) v).1[j-off]? =θ c)\/(cs[j]? =θ c/\¬(off<=j/\j<off+x.cn))\/(cs[j]? =θ c/\uU cs off (x.lay t (γ H1) v).1=ι):=by
     intro j c H;unfold Zh at H;split at H
     ·rename_i q2 b;rw[rQ b,y]at H;split at H
      ·rename_i I;exact .inl ⟨I.1,I.2,H⟩
      ·rename_i I;exact .inr (.inl ⟨H,I⟩)
     ·rename_i hn;exact .inr (.inr ⟨H,hn⟩)
    have z:γ (Zh cs off (x.lay t (γ H1) v).1)=γ cs:=by
     unfold Zh;split
     ·rename_i q2 b;exact Ab b
     ·rfl
    refine h3.dP hid W Τ ⟨Z,U,by rw[X,z],λj c H g=> ?_⟩ (λhE=> ?_) (λe3 Y he c V=> ?_) (λo0 N=> ?_)
    ·rcases k j c H with⟨ha,hb,a⟩|⟨a,_⟩|⟨a,_⟩
     ·have r:(q.map (SC.v cW))[j-off]? =θ (c.v ρ3):=by rw[h1,bD,a];rfl
      rw[bD]at r;cases f:q[j-off]? with
      |none=>rw[f]at r;cases r
      |some K=>rw[f]at r;have r:=aP r;obtain⟨us,u,M⟩:=l.kn;rw[gH]at u;refine⟨K,?_,M K (u▸aI f),r⟩;rw[n,bQ,aB aA0,bV]at f;rw[<-f];congr 1;omega
     ·exact D j c a g
     ·exact D j c a g
    ·obtain⟨m,hm⟩:=h.de t hid hE;rw[p]at hm;cases hm
    ·cases he;obtain⟨j,H⟩:=jN.1 V;rcases k j c H with⟨ha,hb,a⟩|⟨a,_⟩|⟨a,_⟩
     ·intro i hi;rw[cE];rcases(Ty.Ed x t (γ H1) v c (aI a)).2 i hi with h6|h6<;>omega
     ·exact SC.cT (h.ho t _ cs p c (aI a)) aA2
     ·exact SC.cT (h.ho t _ cs p c (aI a)) aA2
    ·have g:=h.kp t o0 N;rw[p]at g;cases o0 with
     |bl e0 b8=>
      rcases g with g|⟨b7,S,R,Q⟩
      ·exact .inl g
      ·cases S;refine .inr ⟨_,Τ,by rw[z,R],λj c H=> ?_⟩;by_cases o:off<=j/\j<off+x.cn
       ·exact .inl (A j o.1 o.2)
       ·rcases Q j c H with J|⟨K,J,h8⟩
        ·exact .inl J
        ·right;refine⟨K,?_,h8⟩;unfold Zh;split
         ·rename_i q2 b;rw[rQ b,y,aA o];exact J
         ·exact J
     |rw _ _ _ _=>exact g.elim .inl λh=>by cases h
     |br _ _=>exact g.elim .inl λh=>by cases h
     |ro _ _=>cases g
     |dd _=>cases g
   ·exact h3
  ·cases T
 ·cases T
theorem CX{H:δ Ob}(h:tg H t x=θ v):(∃m,∃o,fq m x v=θ o/\∃a,H[t]? =θ a/\(a.len=m->a=o)/\((∃e b j l,o=.rw e b j l/\a=o)\/∃l g,o=.br m l/\a=.br g l)):=by
 cases x with
 |l' e b j=>
  simp only[tg]at h;split at h
  ·rename_i q i;cases d:cY q.1 e with
   |false=>rw[d]at h;cases h
   |true=>
    cases f:cY q.2 b with
    |false=>rw[d,f]at h;cases h
    |true=>rw[d,f]at h;have c:=tY i h;rw[gG,gR d,gR f]at c;exact⟨0,_,Τ,_,c,λ_=>rfl,.inl ⟨e,b,j,v,Τ,Τ⟩⟩
  ·cases h
 |y'=>
  simp only[tg]at h;split at h
  ·rename_i m x c;rw[gG]at c;cases h;exact⟨m,_,Τ,_,c,λ_=>rfl,.inr ⟨v,m,Τ,Τ⟩⟩
  ·cases h
 |_=>cases h
theorem PI.ti(h:PI n0 H2 ρ cW ρ3 F2 E H0 al Fm H1 done)(g:NO cW H2)(G:NQ H2)(F:γ H0<=n0)(r:Up n0 cW ρ3)(n:rdW H2 t x=θ (v,d))(hid:t<n0)
  (f:eO t 0 al=μ) (C:t∉E) (B:wF H0[t]? =μ):PI n0 H2 ρ cW ρ3 F2 E H0 al Fm (qD H1 t x v) (done++d):=by
 unfold rdW at n;split at n
 ·rename_i y q;cases n;rw[gH];have z:t<γ H1:=by have:=h.len;omega
  have p:=aN z;have a:(H1[t]).len=(cW t).ln:=by rw[h.ln t _ p,r t hid]
  have i:∀o k,H0[t]? =θ k->kV al t ρ ρ3 (θ o) k:=by
   intro o k w;rw[w]at B;cases k with
   |rw _ _ _ _=>exact .inl f
   |br _ _=>exact .inl f
   |_=>cases B
  unfold qD;rw[nD p,a];cases x with
  |l' e b J=>
   obtain⟨m,o,s,D,j,u,A⟩:=CX q;cases s;rcases A with⟨_,_,_,_,c,rfl⟩|⟨_,_,c,_⟩
   ·exact h.dP hid p (by rw[a];exact g t _ j) j C (λe cs c=>by cases c) (i _)
   ·cases c
  |y'=>
   obtain⟨m,o,s,D,j,u,A⟩:=CX q;cases s;rcases A with⟨_,_,_,_,c,_⟩|⟨l,I,c,rfl⟩
   ·cases c
   ·cases c;have H:=g t _ j;refine h.dP hid p (by rw[a];rfl) ?_ C (λe cs c=>by cases c) (i _);rw[<-H];exact j
  |_=>cases q
 ·cases n
theorem PI.step(h:PI n0 H2 ρ cW ρ3 F2 E H0 al Fm H1 done)(b:NO cW H2)(c:NQ H2)(a:γ H0<=n0)(e:Up n0 cW ρ3)(l:∀t u,(at2 t).v cW=θ u->F2 t=u){k:Key}{v:k.ty.T}(i:k.rd ix at2 H2=θ (v,d))
  (g:KC n0 H0 E al ix k) (f:∀j s,d[j]? =θ s->ρ3 (γ H1+j)=s.ad cW):PI n0 H2 ρ cW ρ3 F2 E H0 al (k.put ix (Fm,H1) v).1 (k.put ix (Fm,H1) v).2 (done++d):=by
 cases k with
 |s' t x=>exact h.stepS b c a l i f
 |o' t off x=>exact h.tl b c a e i g.1 g.2 f
 |w' t x=>exact h.ti b c a e i g.1 g.2.1 g.2.2.1 g.2.2.2
theorem PI.steps(e:NO cW H2)(f:NQ H2)(d:γ H0<=n0)(c:Up n0 cW ρ3)(m:∀t u,(at2 t).v cW=θ u->F2 t=u):∀J Fm H1 done v ss,PI n0 H2 ρ cW ρ3 F2 E H0 al Fm H1 done->rdK ix at2 H2 J=θ (v,ss)->
  (∀k∈J,KC n0 H0 E al ix k)->(∀j s,ss[j]? =θ s->ρ3 (γ H1+j)=s.ad cW)->PI n0 H2 ρ cW ρ3 F2 E H0 al (If ix (Fm,H1) J v).1 (If ix (Fm,H1) J v).2 (done++ss)
 |[],Fm,H1,done,v,ss,h,a,_,_=>by cases a;rw[gH];exact h
 |[k],Fm,H1,done,v,ss,h,a,g,b=>h.step e f d c m a (g k gQ) b
 |k::B::l,Fm,H1,done,v,ss,h,a,g,b=>by
  simp only[rdK]at a;split at a
  ·rename_i x q hx;split at a
   ·rename_i y p w;cases a;have o:=h.step e f d c m hx (g k gQ) (λj s i=>b j s (by rw[aJ (aF.1 i).1];exact i));have n:=PI.steps e f d c m _ _ _ _ y p o w (λr z=>g r (fB _ z)) (λj s i=>by have A:=o.len;have C:=h.len;rw[cE]at A;rw[show(k.put ix _ x).2.length+j=γ H1+(γ q+j)by omega];exact b _ s (by rw[aO aA0,<-i];congr 1;omega));rw[jI]at n;exact n
   ·cases a
  ·cases a
end
open Go.Wk
open Go.Ce (Tr)
open Nat renaming succ → qW
theorem yy:∀(t:Ty) l x r,t.EO l=θ (x,r)->∃e,l=e++r/\∀c∈e,c.kn=μ:=by
 intro t;induction t with
 |w' t p=>intro l x r h;exact p l x r h
 |pr a b g f=>
  intro l x r h;simp only[Ty.EO]at h;split at h
  ·rename_i n j s;split at h
   ·rename_i m B q;cases h;obtain⟨e,A,z⟩:=g l n j s;obtain⟨o,w,v⟩:=f j m _ q;exact⟨e++o,by rw[A,w,jI],λc u=>(aV.1 u).elim (z c) (v c)⟩
   ·cases h
  ·cases h
 |i' k=>
  intro l x r h;cases l with
  |nil=>cases h
  |cons c l=>
   simp only[Ty.EO]at h;split at h
   ·rename_i y d;cases h;exact⟨[c],Τ,λi h=>by rw[aH.1 h];cases c<;>first|rfl|cases d⟩
   ·cases h
 |c'=>
  intro l x r h;cases l with
  |nil=>cases h
  |cons c l=>
   simp only[Ty.EO]at h;split at h
   ·rename_i y d;cases h;exact⟨[c],Τ,λi h=>by rw[aH.1 h];cases c<;>first|rfl|cases d⟩
   ·cases h
 |s'=>
  intro l x r h;cases l with
  |nil=>cases h
  |cons c l=>
   simp only[Ty.EO]at h;split at h
   ·rename_i y d;cases h;exact⟨[c],Τ,λi h=>by rw[aH.1 h];cases c<;>first|rfl|cases d⟩
   ·cases h
 |b'=>
  intro l x r h;cases l with
  |nil=>cases h
  |cons c l=>
   simp only[Ty.EO]at h;split at h
   ·rename_i y d;cases h;exact⟨[c],Τ,λi h=>by rw[aH.1 h];cases c<;>first|rfl|cases d⟩
   ·cases h
 |_=>intro l x r h;cases h
theorem rP{t:Ty}:∀{m:Nat}{l:δ SC}{b:δ t.T},pS t m l=θ b->∀c∈l,c.kn=μ
 |0,l,b,h=>by
  cases l with
  |nil=>intro c a;cases a
  |cons c l=>cases h
 |m+1,l,b,h=>by
  simp only[pS]at h;split at h
  ·rename_i y d f;split at h
   ·rename_i q e;obtain⟨j,i,g⟩:=yy t l y d f;intro c a;rw[i]at a;exact(aV.1 a).elim (g c) (rP e c)
   ·cases h
  ·cases h
variable{a:Nat->Ad}{b:δ SC}
theorem Mat.all{vs:δ ξ}(h:Mat a b vs)(d:∀c∈b,c.kn=μ):vs=b.map (SC.v a):=by
 apply cS;intro j;rw[bD];by_cases ρ:j<γ b
 ·rw[h.2 j _ (aN ρ) (d _ (yP ρ)),aN ρ];rfl
 ·have:=h.1;rw[bO aA0,bO aA0];rfl
theorem Mat.of:Mat a b (b.map (SC.v a)):=⟨aA2,λj c h _=>by rw[bD,h];rfl⟩
section
variable{w0 w:ο}{S0:δ Nat}{ρ:Nat->Ad}{H:δ Ob}{L:δ cF}
theorem Mt.lns(h:Mt w0 S0 ρ H L):NO ρ H:=λid o a=>(h.2 id o a).1
theorem Mt.brk(h:Mt w0 S0 ρ H L)(c:Hp w0 S0 L w):NQ H:=λid m x hx=>by obtain⟨_,r,a,b⟩:=h.2 id _ hx;subst b;exact c.gY id a
end
def dL:cF:=⟨ι,λ_=>True⟩
def Src.ow:Src->ε Nat
 |.o' id w=>bif w then θ id else ι
 |.k' id _ w=>bif w then θ id else ι
 |_=>ι
theorem xI(s:Src):s.own=s.ow.toList:=by
 cases s with
 |o' id w=>cases w<;>rfl
 |k' id m w=>cases w<;>rfl
 |_=>rfl
variable{a:δ Src}{j:Nat}{s:Src}
theorem rV{i:Nat}(h:a[j]? =θ s)(c:s.ow=θ i):i∈gV a:=by
 induction a generalizing j with
 |nil=>simp at h
 |cons f l b=>
  show i∈f.own++gV l;cases j with
  |zero=>have:f=s:=aA7;subst this;rw[xI,c];simp
  |succ j=>exact YO _ (b aA7)
theorem Ms(m:(gV a).Nodup){k i:Nat}{c:Src}(h:a[j]? =θ s)(f:s.ow=θ i)(e:a[k]? =θ c)(b:c.ow=θ i):j=k:=by
 induction a generalizing j k with
 |nil=>simp at h
 |cons n l g=>
  have d:=List.nodup_append.1 m;cases j with
  |zero=>
   cases k with
   |zero=>rfl
   |succ k=>have:n=s:=aA7;subst this;exact absurd Τ (d.2.2 i (by rw[xI,f];simp) i (rV aE4 b))
  |succ j=>
   cases k with
   |zero=>have:n=c:=aE4;subst this;exact absurd Τ (d.2.2 i (by rw[xI,b];simp) i (rV aA7 f))
   |succ k=>exact bA qW (g d.2.1 (show l[j]? =θ s by simpa using h) (show l[k]? =θ c by simpa using e))
theorem Js{p:Nat->cF->Prop}:∀n,(∀j,j<n->∃r,p j r)->∃L:δ cF,γ L=n/\∀j r,L[j]? =θ r->p j r
 |0,_=>⟨[],Τ,λj r h=>by simp at h⟩
 |n+1,h=>by
  obtain⟨L,f,d⟩:=Js n λj a=>h j aA0;obtain⟨r,c⟩:=h n aA0;refine⟨L++[r],by simp[f],λj b a=> ?_⟩;by_cases g:j<n
  ·rw[aJ aA0]at a;exact d j b a
  ·rw[aO aA0]at a;have:j-γ L=0:=by have:=(aF.1 a).1;simp at this;omega
   rw[this]at a;have e:r=b:=aC0;subst e;rw[show j=n by omega];exact c
variable{e w:ο}{b:δ Nat}{d q:Nat->Ad}{c:δ Ob}{L:δ cF}{o:Ob}
theorem F6(p:Hp e b L w)(v:Mt e b d c L)(h:YI ν d c q s o)(f:q j=s.ad d):
  ∃r,RO e b q j o r/\r.holds w/\∀N,r.own=θ N->∃i E,s.ow=θ i/\L[i]? =θ E/\E.own=θ N:=by
 cases o with
 |bl P J=>
  obtain⟨id,cs,rfl,g,x,D,H⟩:=h;obtain⟨_,r,k,y,rfl,B⟩:=v.2 id _ g;refine⟨aY (q j).b y P,⟨y,Τ,?_⟩,?_,λN O=>⟨id,_,Τ,k,?_⟩⟩
  ·have I:=(B.all D).trans x;rw[I];exact Mat.of
  ·rw[f];exact(p.res _ (aI k)).1
  ·rw[f]at O;exact O
 |rw P N t l=>
  rcases h with⟨id,rfl,g⟩|⟨rfl,rfl⟩|⟨id,m,cs,rfl,g,x,D,H⟩
  ·obtain⟨_,r,k,u⟩:=v.2 id _ g;subst u;refine⟨bM t.enc P t.sz (q j).o (q j).a (q j).cap l,Τ,?_,λN O=>⟨id,_,Τ,k,?_⟩⟩
   ·rw[f];exact(p.res _ (aI k)).1
   ·rw[f]at O;exact O
  ·have:=(p.cX t.enc P t.sz ι).res _ gQ;refine⟨bM t.enc P t.sz (q j).o (q j).a (q j).cap [],Τ,?_,λN O=> ?_⟩
   ·rw[f];exact this.1
   ·rw[f]at O;cases O
  ·obtain⟨_,r,k,y,rfl,B⟩:=v.2 id _ g;have hx:=dq x;have z:=B.all (rP x);have A:m<=maxLen:=by unfold maxLen;omega
   have G:=p.IJ id t.sz m l k (Ty.wD D) (by rw[z,hx.2.2]) hx.1 A;have C:=(aF.1 k).1;have M:=G.res _ (aI (i:=id) (by rw[eT];simp[C];rfl));refine⟨bM t.enc P t.sz (q j).o (q j).a (q j).cap l,Τ,?_,λN O=>⟨id,_,Τ,k,?_⟩⟩
   ·rw[f];exact M.1
   ·rw[f]at O;exact O
 |ro t l=>
  rcases h with⟨id,rfl,g⟩|⟨rfl,rfl⟩|⟨h,_⟩
  ·obtain⟨_,r,k,K,u⟩:=v.2 id _ (Dl g);refine⟨dL,⟨Τ,?_⟩,trivial,λN O=>by cases O⟩;rw[f];exact u
  ·refine⟨dL,⟨Τ,?_⟩,trivial,λN O=>by cases O⟩;exact⟨Rd.nil _ _,λh=>absurd Τ h,cH _⟩
  ·cases h
 |br n l=>
  obtain⟨rfl,id,m,rfl,g⟩:=h;obtain⟨_,r,k,u⟩:=v.2 id _ g;subst u;have F:=p.gY id k;refine⟨gF _ (γ l) l,Τ,?_,λN O=>⟨id,_,Τ,k,?_⟩⟩
  ·rw[f,F];exact(p.res _ (aI k)).1
  ·rw[f,F]at O;exact O
 |dd n=>exact⟨dL,trivial,trivial,λN O=>by cases O⟩
theorem bo_ro(p:Hp e b L w)(i:Mt e b d c L)(h:BO c d q j o)(g:q j=d j)(x:∀m,o≠.dd m):
  ∃r,L[j]? =θ r/\RO e b q j o r/\r.holds w:=by
 cases o with
 |bl K cs=>obtain⟨F,E,D,C⟩:=h;obtain⟨_,r,a,s,rfl,k⟩:=i.2 j _ E;refine⟨_,a,⟨s,by rw[g],by rw[k.1,D],λJ I v y=> ?_⟩,(p.res _ (aI a)).1⟩;obtain⟨G,B,A,z⟩:=C J I v y;rw[<-z];exact k.2 J G B A
 |rw K H t l=>obtain⟨_,r,a,f⟩:=i.2 j _ h;exact⟨r,a,by show r=_;rw[g];exact f,(p.res _ (aI a)).1⟩
 |ro t l=>obtain⟨_,r,a,u,f⟩:=i.2 j _ h;exact⟨r,a,⟨u,by rw[g];exact f⟩,(p.res _ (aI a)).1⟩
 |br n l=>obtain⟨_,r,a,f⟩:=i.2 j _ h;exact⟨r,a,by show r=_;rw[g];exact f,(p.res _ (aI a)).1⟩
 |dd n=>exact absurd Τ (x n)
def GP:Ob->η
 |.dd _=>μ
 |_=>ν
theorem isDd_f(h:GP o=ν):∀m,o≠.dd m:=by intro m e;subst e;cases h
theorem PI.mem{w0 w:ο}{S0:δ Nat}{c:Nat}{H2 H0 f:δ Ob}{ρ q ρ3:Nat->Ad}{F2:Nat->ξ}{E:δ Nat}{Z:δ Rg}{Fm:Tr SV}{done:δ Src}{L:δ cF}(h:PI c H2 ρ q ρ3 F2 E H0 Z Fm f done)(K:Hp w0 S0 L w)(Q:Mt w0 S0 q H2 L)(G:Up c q ρ3)
  (J:∀j s,done[j]? =θ s->ρ3 (c+j)=s.ad q) (S:(gV done).Nodup) (X:∀id∈gV done,id<c->id∈E):∃D,Hp w0 S0 D w/\Mt w0 S0 ρ3 f D:=by
 let src:Nat->ε Nat:=λj=>if j<c then(match f[j]? with
  |some o=>bif GP o then ι else θ j
  |none=>ι)else(done[j-c]?).bind Src.ow
 have R:∀j,j<γ f->∃r,(∀o,f[j]? =θ o->RO w0 S0 ρ3 j o r)/\r.holds w/\∀b,r.own=θ b->∃i A,src j=θ i/\L[i]? =θ A/\A.own=θ b:=by
  intro j l;have g:=aN l;by_cases a:j<c
  ·cases p:GP f[j]with
   |true=>refine⟨dL,λo e=> ?_,trivial,λb y=>by cases y⟩;rw[g]at e;cases e;cases hx:f[j]<;>rw[hx]at p<;>first|trivial|cases p
   |false=>
    obtain⟨r,n,e,z⟩:=bo_ro K Q (h.ba j _ a g) (G j a) (isDd_f p);refine⟨r,λo v=> ?_,z,λb y=>⟨j,r,?_,n,y⟩⟩
    ·rw[g]at v;cases v;exact e
    ·simp only[src,a,eW,g,p,aG]
  ·have hl:=h.len;have d:done[j-c]? =θ _:=aN aA0;have H:f[c+(j-c)]? =θ f[j]:=by rw[show c+(j-c)=j by omega];exact g
   have x:=J _ _ d;rw[show c+(j-c)=j by omega]at x;obtain⟨r,n,e,z⟩:=F6 K Q (h.nw _ _ _ d H) x;refine⟨r,λo v=> ?_,e,λb y=> ?_⟩
   ·rw[g]at v;cases v;exact n
   ·obtain⟨i,A,B,O⟩:=z b y;refine⟨i,A,?_,O⟩;simp only[src,a,d];exact B
 obtain⟨D,I,C⟩:=Js (γ f) R;refine⟨D,Go.Oe.Hp.pick ((List.range (γ f)).map src) K (λj r l=> ?_) (λj k i l V=> ?_),I,λid o g=>⟨h.ln id o g,?_⟩⟩
 ·obtain⟨_,e,z⟩:=C j r l;refine⟨e,λb y=> ?_⟩;obtain⟨i,A,v,B⟩:=z b y;have a:=(aF.1 l).1;refine⟨i,A,?_,B⟩;rw[bD,cZ aA0];exact bA θ v
 ·have key:∀j,((List.range (γ f)).map src)[j]? =θ (θ i)->j<γ f/\src j=θ i:=by
   intro j l;rw[bD]at l;by_cases a:j<γ f
   ·rw[cZ a]at l;exact⟨a,aP l⟩
   ·rw[bO aA3]at l;cases l
  obtain⟨W,u⟩:=key j l;obtain⟨U,t⟩:=key k V;have base:∀j,j<c->src j=θ i->j=i/\∃o,f[j]? =θ o/\GP o=ν:=by
   intro j a d;simp only[src,a,eW]at d;split at d
   ·rename_i o g;cases p:GP o with
    |true=>rw[p]at d;cases d
    |false=>rw[p]at d;exact⟨aP d,o,g,p⟩
   ·cases d
  have F:∀j,¬j<c->src j=θ i->∃s,done[j-c]? =θ s/\s.ow=θ i:=by
   intro j a d;simp only[src,a]at d;cases p:done[j-c]? with
   |none=>rw[p]at d;cases d
   |some s=>rw[p]at d;exact⟨s,Τ,d⟩
  have no:∀j k,j<c->¬k<c->src j=θ i->src k=θ i->False:=by intro j k n e z v;obtain⟨rfl,o,B,O⟩:=base j n z;obtain⟨s,N,M⟩:=F k e v;obtain⟨m,T⟩:=h.de j n (X j (rV N M) n);rw[T]at B;cases B;cases O
  by_cases n:j<c<;>by_cases e:k<c
  ·rw[(base j n u).1,(base k e t).1]
  ·exact(no j k n e u t).elim
  ·exact(no k j e n t u).elim
  ·obtain⟨s,N,M⟩:=F j n u;obtain⟨s2,Y,P⟩:=F k e t;have:=Ms S N M Y P;omega
 ·have a:=(aF.1 g).1;exact⟨_,aN aA0,(C id _ (aN aA0)).1 o g⟩
open Go.Wk
open Go.Ce (Tr)
open Nat renaming one_pos → Jf
theorem Yv{d:Nat->Nat}:∀{J:δ Key}{q:Rg},q∈PJ d J->∃k∈J,(∃t off x,k=.o' t off x/\q=(d t,off,off+x.cn))\/∃t x,k=.w' t x/\q=(d t,0,1)
 |k::J,q,h=>by
  cases k with
  |s' t x=>obtain⟨a,c,b⟩:=Yv (show q∈PJ d J from h);exact⟨a,fB _ c,b⟩
  |o' t off x=>
   rcases aQ.1 (h)with rfl|h
   ·exact⟨_,gQ,.inl ⟨t,off,x,Τ,Τ⟩⟩
   ·obtain⟨a,c,b⟩:=Yv h;exact⟨a,fB _ c,b⟩
  |w' t x=>
   rcases aQ.1 (h)with rfl|h
   ·exact⟨_,gQ,.inr ⟨t,x,Τ,Τ⟩⟩
   ·obtain⟨a,c,b⟩:=Yv h;exact⟨a,fB _ c,b⟩
theorem PH{a:Nat->Nat}{t off:Nat}{x:Ty}:∀{J:δ Key},Key.o' t off x∈J->(a t,off,off+x.cn)∈PJ a J
 |k::J,h=>by
  rcases aQ.1 h with rfl|b
  ·exact gQ
  ·cases k with
   |s' _ _=>exact(show _∈PJ a J from PH b)
   |o' _ _ _=>exact fB _ (PH b)
   |w' _ _=>exact fB _ (PH b)
theorem DV{a:Nat->Nat}{t:Nat}{x:Ty}:∀{J:δ Key},Key.w' t x∈J->(a t,0,1)∈PJ a J
 |k::J,h=>by
  rcases aQ.1 h with rfl|b
  ·exact gQ
  ·cases k with
   |s' _ _=>exact(show _∈PJ a J from DV b)
   |o' _ _ _=>exact fB _ (DV b)
   |w' _ _=>exact fB _ (DV b)
theorem Jz{S:St}:∀{J:δ Key},pf S J=μ->∀k∈J,match k with
  |.o' t off x=>∃e cs,S.H[S.ix t]? =θ (.bl e cs)/\off+x.cn<=γ cs
  |.w' t _=>wF S.H[S.ix t]? =μ
  |.s' _ _=>True
 |k::J,h,c,b=>by
  have h:=gX h;rcases aQ.1 b with rfl|b
  ·cases c with
   |s' _ _=>trivial
   |o' t off x=>
    have a:=h.1;simp only[gG]at a;split at a
    ·rename_i e cs d;exact⟨e,cs,d,CP a⟩
    ·cases a
   |w' t x=>have a:=h.1;simp only[gG]at a;exact a
  ·exact Jz h.2 c b
theorem bkr{H:δ Ob}:∀{l:δ SC}{id:Nat},id∈vS H l->wF H[id]? =μ\/∃e cs,H[id]? =θ (.bl e cs)
 |x::l,id,h=>by
  cases x
  case l' i=>
   simp only[vS]at h;cases a:wF (fC H i)with
   |true=>
    rw[a]at h;rcases aQ.1 h with rfl|h
    ·rw[gG]at a;exact .inl a
    ·exact bkr h
   |false=>rw[a]at h;exact bkr h
  case k' i n=>
   simp only[vS]at h;split at h
   ·rename_i e cs b;rcases aQ.1 h with rfl|h
    ·rw[gG]at b;exact .inr ⟨e,cs,b⟩
    ·exact bkr h
   ·exact bkr h
  all_goals exact bkr (l:=l) h
theorem RU{a:Nat->Nat}{F:Nat->SV}{H:δ Ob}:∀{J:δ Key}{id:Nat},id∈eatK a F H J->wF H[id]? =μ\/∃e cs,H[id]? =θ (.bl e cs)
 |k::J,id,h=>by
  rcases aV.1 h with h|h
  ·cases k with
   |s' t x=>
    simp only at h;cases hx:x.MA with
    |false=>rw[hx]at h;cases h
    |true=>
     rw[hx]at h;split at h
     ·exact bkr h
     ·cases h
   |o' t off x=>
    simp only at h;cases hx:x.MA with
    |false=>rw[hx]at h;cases h
    |true=>
     rw[hx]at h;split at h
     ·split at h
      ·exact bkr h
      ·cases h
     ·cases h
   |w' t x=>cases h
  ·exact RU h
theorem RX:∀{a b:δ Rg},MO (a++b)=μ->∀q∈a,∀r∈b,q.1=r.1->q.2.2<=r.2.1\/r.2.2<=q.2.1
 |x::a,b,h,q,c,r,e,f=>by
  have h:=gX h;rcases aQ.1 c with rfl|c
  ·have key:∀l:δ Rg,MO.XK q l=μ->r∈l->q.2.2<=r.2.1\/r.2.2<=q.2.1:=by
    intro l;induction l with
    |nil=>intro _ h;cases h
    |cons y l j=>
     intro h d;simp only[MO.XK,beqN,bleN,Bool.cond_decide]at h;rcases aQ.1 d with rfl|d
     ·rw[aB f]at h;by_cases i:q.2.2<=r.2.1
      ·exact .inl i
      ·rw[aA i]at h;by_cases g:r.2.2<=q.2.1
       ·exact .inr g
       ·rw[aA g]at h;cases h
     ·refine j ?_ d;split at h
      ·split at h
       ·exact h
       ·split at h
        ·exact h
        ·cases h
      ·exact h
   exact key _ h.1 (YO _ e)
  ·exact RX h.2 q c r e f
theorem D6{n:Nat}{e:δ Nat}:∀{l:δ Nat},tk.tkI n e l=μ->∀id∈l,id<n->id∈e
 |x::l,h,id,b,a=>by
  have h:=gX h;rcases aQ.1 b with rfl|b
  ·have c:=h.1;rw[bleN]at c;have:¬n<=id:=aA0;simp only[this]at c;exact Xl.1 c
  ·exact D6 h.2 id b a
theorem Fgt.len{rs:δ Rg}{id:Nat}{o a:Ob}(h:Fgt rs id o a):a.len=o.len:=by
 cases o with
 |bl e cs=>obtain⟨b,rfl,_⟩:=h;rfl
 |_=>
  rcases h with⟨rfl,_⟩|⟨rfl,_⟩
  ·rfl
  ·rfl
noncomputable def St.base(S:St)(J:δ Key)(w:δ Nat):Fr:=(del S.F w,kill (Xe S.H (PJ S.ix J)) (S.ve J))
structure OkJ (S:St) (J:List Key):Prop where
 Hd:S.Hd (S.Sg J)=μ
 dis:MO (S.Sg J)=μ
 chk:pf S J=μ
theorem LI{S:St}{J:δ Key}(h:S.okJ J=μ):OkJ S J:=by have b:=gX h;have a:=gX b.2;have c:=gX a.2;exact⟨b.1,a.1,c.2⟩
section
variable{C:Cx}{w0 w w2:ο}{S0:δ Nat}{ρ cW ρ3:Nat->Ad}{S S2:St}{F F2:Nat->ξ}{J:δ Key}{wl:δ Nat}
theorem zX{w:ο}(h:Rel C w0 S0 ρ S F w):NO ρ S.H:=by obtain⟨L,_,a⟩:=h.mem;exact a.lns
theorem zY{w:ο}(h:Rel C w0 S0 ρ S F w):NQ S.H:=by obtain⟨L,b,a⟩:=h.mem;exact a.brk b
theorem PI.vn{H H2:δ Ob}{R:δ Rg}{E:δ Nat}{Fm:Tr SV}(a1:NO ρ H)(P:∀(id e:Nat) cs,H[id]? =θ (.bl e cs)->∀c∈cs,c.ok (γ H))
  (y:∀q∈R,(∃e cs,H[q.1]? =θ (.bl e cs)/\q.2.2<=γ cs)\/(wF H[q.1]? =μ/\q.2=(0,1))) (M:∀id∈E,wF H[id]? =μ\/∃e cs,H[id]? =θ (.bl e cs))
  (a2:Le (γ H) (R++Xg H E) ρ H cW H2) (N:Up (γ H) ρ ρ3) (a6:∀t u,(Tf Fm t).v ρ3=θ u->F2 t=u) (a7:∀t,(Tf Fm t).ok (γ H)):
  PI (γ H) H2 ρ cW ρ3 F2 E H (R++Xg H E) Fm (kill (Xe H R) E) []:=by
 have C:γ (kill (Xe H R) E)=γ H:=by rw[bkx,bjz]
 have get:∀id o,H[id]? =θ o->∃A,(Xe H R)[id]? =θ A/\Fgt R id o A/\(kill (Xe H R) E)[id]? =if id∈E then θ (.dd o.len)else θ A:=by intro id o f;obtain⟨A,L,d⟩:=bco f;refine⟨A,L,d,?_⟩;rw[SS,L,cy,d.len]
 have w:∀(id:Nat) (A:Ob),(kill (Xe H R) E)[id]? =θ A->∃o,H[id]? =θ o:=by intro id A h;have:=(aF.1 h).1;exact⟨_,aN aA0⟩
 have W:∀{id j:Nat},eO id j (R++Xg H E)=μ->eO id j R=μ\/id∈E:=by
  intro id j h;rcases Hv.1 h with h|h
  ·exact .inl h
  ·obtain⟨q,x,L,_⟩:=wK.1 h;obtain⟨b0,d,rfl⟩:=Tz x;exact .inr (L▸d)
 have G:∀{id j:Nat},eO id j R=μ->eO id j (R++Xg H E)=μ:=λh=>Hv.2 (.inl h);have F:∀{id j:Nat},eO id j (Xg H E)=μ->eO id j (R++Xg H E)=μ:=λh=>Hv.2 (.inr h);refine⟨by rw[C];rfl,a6,λt=>by rw[C];exact a7 t,λid e cs f c X=> ?_,λid o f=> ?_,λid o U f=> ?_,λj s o g=>by simp at g,λid U he=> ?_,λid o f=> ?_⟩
 ·rw[C];obtain⟨o,z⟩:=w id _ f;obtain⟨A,L,d,K⟩:=get id o z;rw[K]at f;split at f
  ·cases f
  ·cases f;cases o with
   |bl e2 B=>
    obtain⟨b3,h4,Y,V⟩:=d;cases h4;obtain⟨j,g⟩:=jN.1 X;rw[V]at g;split at g
    ·cases D:B[j]? with
     |none=>rw[D]at g;cases g
     |some _=>rw[D]at g;cases g;intro i U;cases U
    ·exact P id e B z c (aI g)
   |_=>
    rcases d with⟨d,_⟩|⟨d,_⟩
    ·cases d
    ·cases d
 ·obtain⟨T,z⟩:=w id _ f;obtain⟨A,L,d,K⟩:=get id T z;have a0:=(aF.1 z).1;rw[N id a0,<-a1 id T z];rw[K]at f;split at f
  ·cases f;rfl
  ·cases f;exact d.len
 ·obtain⟨T,z⟩:=w id _ f;obtain⟨A,L,d,K⟩:=get id T z;rw[K]at f;have r:=a2.kp id T U z;split at f
  ·cases f;trivial
  ·rename_i J;cases f;have p:∀{j:Nat},eO id j _=μ->eO id j (R)=μ:=λh=>(W h).resolve_right J;cases T with
   |bl e S=>
    obtain⟨cs,rfl,Y,V⟩:=d;rcases r with r|⟨B,a5,a4,a3⟩
    ·exfalso;obtain⟨q,x,I,h8,h9⟩:=wK.1 (p (r (γ S) (dK _)));rcases y q x with⟨e4,Q,a,k⟩|⟨a,k⟩
     ·rw[I,z]at a;cases a;omega
     ·rw[I,z]at a;cases a
    ·refine⟨B,a5,by rw[a4,Y],λj c g O=> ?_⟩;rw[V]at g;split at g
     ·cases D:S[j]? with
      |none=>rw[D]at g;cases g
      |some _=>rw[D]at g;cases g;cases O
     ·rename_i Z;rcases a3 j c g with I|⟨c2,I,h8⟩
      ·exact absurd (p I) Z
      ·refine⟨c2,I,(h8 O).1,?_⟩;rw[(h8 O).2];exact(SC.up N (P id e S z c (aI g))).symm
   |rw e b t l=>
    rcases d with⟨rfl,d⟩|⟨rfl,_⟩
    ·rcases r with r|r
     ·obtain⟨q,x,I,_⟩:=wK.1 (p r);exact absurd I (d q x)
     ·exact r
    ·trivial
   |br m l=>
    rcases d with⟨rfl,d⟩|⟨rfl,_⟩
    ·rcases r with r|r
     ·obtain⟨q,x,I,_⟩:=wK.1 (p r);exact absurd I (d q x)
     ·exact r
    ·trivial
   |ro t l=>
    rcases d with⟨rfl,d⟩|⟨rfl,_⟩
    ·exact r
    ·trivial
   |dd n=>rcases d with⟨rfl,d⟩|⟨rfl,_⟩<;>trivial
 ·obtain⟨o,z⟩:∃o,H[id]? =θ o:=⟨_,aN U⟩;obtain⟨A,L,d,K⟩:=get id o z;rw[K,aB he];exact⟨_,Τ⟩
 ·obtain⟨A,L,d,K⟩:=get id o f;rw[K];by_cases J:id∈E
  ·rw[aB J];cases o with
   |bl e cs=>exact .inl λj g=>F (Km f J g)
   |rw e b t l=>exact .inl (F (bcd J))
   |br m l=>exact .inl (F (bcd J))
   |ro t l=>rcases M id J with h|⟨_,_,h⟩<;>rw[f]at h<;>cases h
   |dd n=>rcases M id J with h|⟨_,_,h⟩<;>rw[f]at h<;>cases h
  ·rw[aA J];cases o with
   |bl e cs=>
    obtain⟨B,rfl,Y,V⟩:=d;refine .inr ⟨B,Τ,Y,λj c g=> ?_⟩;by_cases X:eO id j (R)=μ
    ·exact .inl (G X)
    ·exact .inr ⟨c,by rw[V,aA X];exact g,λr=>⟨r,SC.up N (P id e cs f c (aI g))⟩⟩
   |rw e b t l=>
    rcases d with⟨rfl,_⟩|⟨rfl,q,x,rfl⟩
    ·exact .inr Τ
    ·rcases y q x with⟨e4,Q,a,k⟩|⟨a,k⟩
     ·rw[f]at a;cases a
     ·exact .inl (G (wK.2 ⟨q,x,Τ,by rw[k];exact dK _,by rw[k];exact Jf⟩))
   |br m l=>
    rcases d with⟨rfl,_⟩|⟨rfl,q,x,rfl⟩
    ·exact .inr Τ
    ·rcases y q x with⟨e4,Q,a,k⟩|⟨a,k⟩
     ·rw[f]at a;cases a
     ·exact .inl (G (wK.2 ⟨q,x,Τ,by rw[k];exact dK _,by rw[k];exact Jf⟩))
   |ro t l=>
    rcases d with⟨rfl,_⟩|⟨rfl,q,x,rfl⟩
    ·rfl
    ·rcases y q x with⟨e4,Q,a,k⟩|⟨a,k⟩<;>rw[f]at a<;>cases a
   |dd n=>rcases d with⟨rfl,_⟩|⟨rfl,_⟩<;>rfl
theorem PI.base(b:Rel C w0 S0 ρ S F w)(f:OkJ S J)(d:Le (γ S.H) (S.Sg J) ρ S.H cW S2.H)(g:∀t,t∉wl->F2 t=F t)(a:Up (γ S.H) ρ ρ3):
  PI (γ S.H) S2.H ρ cW ρ3 F2 (S.ve J) S.H (S.Sg J) (S.base J wl).1 (S.base J wl).2 []:=by
 refine PI.vn (zX b) b.ho (λq i=> ?_) (λid hid=>RU hid) d a (λt u c=> ?_) (λt=> ?_)
 ·obtain⟨k,e,⟨t,off,x,rfl,rfl⟩|⟨t,x,rfl,rfl⟩⟩:=Yv i
  ·exact .inl (Jz f.chk _ e)
  ·exact .inr ⟨Jz f.chk _ e,Τ⟩
 ·rw[show(S.base J wl).1=del S.F wl from rfl,BE]at c;split at c
  ·cases c
  ·rename_i h;rw[g t h];refine b.fr t u ?_;rw[<-SV.up a (b.fo t)];exact c
 ·rw[show(S.base J wl).1=del S.F wl from rfl,BE];split
  ·trivial
  ·exact b.fo t
theorem AN(V:Rel C w0 S0 ρ S F w)(O:OkJ S J)(y:Le (γ S.H) (S.Sg J) ρ S.H cW S2.H)(h:Rel C w0 S0 cW S2 F2 w2)(Y:∀t,t∉wl->F2 t=F t){v:(qJ J).T}(f:leaf S J S2=θ v):
  ∃ρ3,Up (γ S.H) ρ ρ3/\(∀D:St,D.F=(If S.ix (S.base J wl) J v).1->D.H=(If S.ix (S.base J wl) J v).2->Rel C w0 S0 ρ3 D F2 w2)/\
   ∀(E:Nat) (R:δ Rg),(∀id j,id<E->eO id j (S.Sg J)=μ->eO id j R=μ)->Le E R ρ S.H ρ3 (If S.ix (S.base J wl) J v).2:=by
 unfold leaf at f;split at f
 ·rename_i v2 q Z;cases a:tk S J q with
  |false=>rw[a]at f;cases f
  |true=>
   cases l:KD (γ S.H) (S.Sg J) S2.m with
   |false=>rw[a,l]at f;cases f
   |true=>
    rw[a,l]at f;cases f;have a:=gX a
    let ρ3:Nat->Ad:=λid=>if id<γ S.H then cW id else match q[id-γ S.H]? with
     |some s=>s.ad cW
     |none=>cW id
    have c:Up (γ S.H) cW ρ3:=λid K=>by simp only[ρ3,K,eW]
    have d:Up (γ S.H) ρ ρ3:=y.up.trans c (dK _);have z:∀(j:Nat) (s:Src),q[j]? =θ s->ρ3 (γ S.H+j)=s.ad cW:=by intro j s hj;have p:¬γ S.H+j<γ S.H:=aA0;have B:γ S.H+j-γ S.H=j:=aA0;simp only[ρ3,p,tL,B,hj]
    have X:=PI.base (wl:=wl) V O y Y d;have r:γ (S.base J wl).2=γ S.H:=X.len;have I:∀k∈J,KC (γ S.H) S.H (S.ve J) (S.Sg J) S.ix k:=by
     intro k A;have b:=Jz O.chk k A;cases k with
     |s' _ _=>trivial
     |o' t off x=>obtain⟨e,cs,p,B⟩:=b;exact⟨(aF.1 p).1,λj h3 h4=>Hv.2 (.inl (wK.2 ⟨_,PH A,Τ,h3,h4⟩))⟩
     |w' t x=>
      have b:wF S.H[S.ix t]? =μ:=b;have G:S.ix t<γ S.H:=by
       cases p:S.H[S.ix t]? with
       |none=>rw[p]at b;cases b
       |some _=>exact(aF.1 p).1
      refine⟨G,Hv.2 (.inl (wK.2 ⟨_,DV A,Τ,dK _,Jf⟩)),λhE=> ?_,b⟩;have:=RX (show MO (PJ S.ix J++Xg S.H (S.ve J))=μ from O.dis) _ (DV A) _ (bjf hE) Τ
      have h5:0<(wR S.H (S.ix t)).2.2:=by
       unfold wR;simp only;split
       ·exact Nat.succ_pos _
       ·exact Jf
      rcases this with Q|Q
      ·exact absurd Q (by show¬1<=0;omega)
      ·exact absurd Q (by show¬_<=0;omega)
    have n:=PI.steps (zX h) (zY h) (dK _) c h.fr J _ _ [] v q X Z I (by rw[r];exact z);rw[Ic]at n;obtain⟨L,hH,hM⟩:=h.mem;obtain⟨L3,P,N⟩:=n.mem hH hM c z (mZ.1 a.1) (D6 a.2);refine⟨ρ3,d,λD W i=> ?_,λE R M=> ?_⟩
    ·refine⟨λg id hg=> ?_,λt u U=> ?_,λt=> ?_,?_,⟨L3,P,by rw[i];exact N⟩⟩
     ·obtain⟨p,B⟩:=V.gl g id hg;have:=n.len;rw[i];exact⟨by have:γ (If S.ix (S.base J wl) J v).2=γ S.H+γ q:=this;omega,by rw[d id p];exact B⟩
     ·rw[St.at_eq,W]at U;exact n.fr t u U
     ·rw[St.at_eq,W,i];exact n.fo t
     ·rw[i];exact n.ho
    ·refine⟨?_,d,λid o K ho=>(n.kp id o ho).mono λj=>M id j K⟩;have:γ (If S.ix (S.base J wl) J v).2=γ S.H+γ q:=n.len;omega
 ·cases f
end
open Go.Wk
open Go.Ce (Tr)
section
variable{P:Β}{n:Md}{Q:Exit->Act->ο->Prop}{F:Nat->ξ}{w:ο}
variable{c:Code}{a:Nat->ξ}
theorem c_fr(h:Go.Wk.C P n Q c F w)(e:fr n a=fr n F):Go.Wk.C P n Q c a w:=by unfold Go.Wk.C at h⊢;rw[e];exact h
theorem SW{f G:Nat->ξ}{t:Nat}:∀{l:δ Nat},app (l.map λt=>(t,f t)) G t=if t∈l then f t else G t
 |[]=>by simp[app]
 |x::l=>by
  show dP _ x _ t=_;by_cases h:t=x
  ·subst h;rw[qh];simp
  ·rw[Ku _ _ _ _ h,SW];simp[h]
theorem yE{f:Nat->ξ}:∀{l:δ Nat},mI f (l.map λt=>(t,f t))
 |[]=>trivial
 |x::l=>⟨Τ,yE⟩
theorem W1(h:∀t,t<n.n->a t=F t):fr n a=fr n F:=by unfold fr;congr 1;congr 1;funext i;exact h i.val i.isLt
theorem pj(I:Nat->(Nat->ξ)->ο->Prop)(d:Nat)(m:I d F w)(round:∀k F w,I k F w->Go.Wk.C P n (Exit.then (λa' w'=>∃k' b,a'=fr n b/\k'<k/\I k' b w') Q) c F w):Go.Wk.C P n Q (.loop c) F w:=by
 refine z1 (σ:=Nat×(Nat->ξ)) (λs=>(List.range n.n).map λt=>(t,s.2 t)) (λs w=>I s.1 s.2 w) (λs=>s.1) (d,F) yE m λs w G g=> ?_;have e:fr n (app ((List.range n.n).map λt=>(t,s.2 t)) G)=fr n s.2:=W1 λt f=>by rw[SW];simp[f]
 refine c_fr (BQ (round s.1 s.2 w g) λe a w' h=> ?_) e;cases e with
 |normal=>obtain⟨k',b,l,j,i⟩:=h;exact⟨(k',b),b,l,yE,i,j⟩
 |_=>exact h
theorem Zg(h:Go.Wk.C P n Q c F w):Ga P n c Q .normal (fr n F) w:=by exact JM h
end
structure Lf (S:St) (ρ:Nat->Ad) (S2:St) (cW:Nat->Ad):Prop where
 nb:S2.nb=S.nb
 al:S2.al=S.al
 le:Le S.nb S.al ρ S.H cW S2.H
structure Nx (S:St) (ρ:Nat->Ad) (S2:St) (cW:Nat->Ad):Prop extends Lf S ρ S2 cW where
 lg:Le (γ S.H) S2.m ρ S.H cW S2.H
 mm:∀id j,eO id j S.m=μ->eO id j S2.m=μ
theorem Lf.refl{S:St}{ρ:Nat->Ad}:Lf S ρ S ρ:=⟨Τ,Τ,Le.refl⟩
theorem Lf.trans{S S2 d:St}{ρ a ρ3:Nat->Ad}(h:Lf S ρ S2 a)(b:Lf S2 a d ρ3):Lf S ρ d ρ3:=by have c:=b.le;rw[h.nb,h.al]at c;exact⟨b.nb.trans h.nb,b.al.trans h.al,h.le.trans c⟩
theorem Nx.refl{S:St}{ρ:Nat->Ad}:Nx S ρ S ρ:=⟨Lf.refl,Le.refl,λ_ _ h=>h⟩
theorem Nx.trans{S S2 d:St}{ρ a ρ3:Nat->Ad}(h:Nx S ρ S2 a)(c:Nx S2 a d ρ3):Nx S ρ d ρ3:=
 ⟨h.toLf.trans c.toLf,(h.lg.mono (dK _) λid j _ b=>c.mm id j b).trans (c.lg.mono h.lg.len λid j _ b=>b),λid j b=>c.mm id j (h.mm id j b)⟩
def exO:Ex->Exit
 |.nm=>.normal
 |.xt i=>.exit i
def YJ(C:Cx)(md:Md)(c:Code)(F:Nat->ξ):Prop:=∀(i d:Nat) o,O3 (opsOf c) i=μ->(opsOf c)[i]? =θ o->o.dst=θ d->∃b a,(ς (aW md F) o).run C.P b=.ok (.value (F d)) a
def CB(C:Cx)(md:Md):Prop:=∀w0 S0 a S F w op v H (m:δ Rg),Rel C w0 S0 a S F w->mF op=μ->opP C (S.ev C) S.H op=θ ⟨[],v,H,m⟩->∀w',vE C md a S F w' op v
def ch(C:Cx)(md:Md)(w0:ο)(S0:δ Nat)(id:Nat)(a:Array Α)(d:η):Prop:=∀(e:Ty) S f (r:e.T) h F w Q,(bif d then MN C a S f else VN C a.toList a.toList 0 S f)=θ r->Rel C w0 S0 h S F w->
 (∀g b c i,f g=θ r->Rel C w0 S0 b g c i->Nx S h g b->(∀t,t∉Gn a.toList->c t=F t)->YJ C md (.region id a d) c->Q .normal (fr md c) i)->Go.Wk.C C.P md Q (.region id a d) F w
def pL(C:Cx)(md:Md)(w0:ο)(S0:δ Nat):Code->Prop
 |.region id c d=>ch C md w0 S0 id c d
 |.seq a b=>pL C md w0 S0 a/\pL C md w0 S0 b
 |.cond _ a b=>pL C md w0 S0 a/\pL C md w0 S0 b
 |.block _ a=>pL C md w0 S0 a
 |.loop a=>pL C md w0 S0 a
 |.scope a=>pL C md w0 S0 a
 |_=>True
section
variable{C:Cx}{md:Md}{w0:ο}{S0:δ Nat}{τ:Ty}{res:St->ε τ.T}
variable{a:Nat->Ad}{S:St}{F:Nat->ξ}{w:ο}
theorem Rel.same{S2:St}(h:Rel C w0 S0 a S F w)(d:S2.F=S.F)(ρ:S2.H=S.H):Rel C w0 S0 a S2 F w:=by
 have b:∀t,S2.at t=S.at t:=λt=>by rw[St.at_eq,St.at_eq,d]
 refine⟨?_,λt v c=>h.fr t v (by rw[<-b];exact c),λt=>by rw[b,ρ];exact h.fo t,?_,?_⟩
 ·rw[ρ];exact h.gl
 ·rw[ρ];exact h.ho
 ·rw[ρ];exact h.mem
theorem Rel.set{ρ:Nat->Ad}{S:St}{F:Nat->ξ}{w:ο}(h:Rel C w0 S0 ρ S F w){d:Nat}{v:SV}(b:∀u,v.v ρ=θ u->F d=u)(c:v.ok (γ S.H)):Rel C w0 S0 ρ (S.set d v) F w:=by
 refine⟨h.gl,λt u a=> ?_,λt=> ?_,h.ho,h.mem⟩
 ·rw[kT]at a;by_cases e:t=d
  ·rw[aB e]at a;subst e;exact b u a
  ·rw[aA e]at a;exact h.fr t u a
 ·rw[kT];by_cases e:t=d
  ·rw[aB e];exact c
  ·rw[aA e];exact h.fo t
theorem Qv(l:CB C md){c:Code}{ρ:Nat->Ad}{F:Nat->ξ}{w:ο}(b:YJ C md c F):∀R S,okR (opsOf c) R=μ->Rel C w0 S0 ρ S F w->
  Rel C w0 S0 ρ (Xa C (opsOf c) R S) F w/\(Xa C (opsOf c) R S).H=S.H/\(Xa C (opsOf c) R S).nb=S.nb/\(Xa C (opsOf c) R S).al=S.al/\(Xa C (opsOf c) R S).m=S.m
 |[],S,_,h=>⟨h,Τ,Τ,Τ,Τ⟩
 |i::R,S,g,h=>by
  have g:=gX g;have a:=Qv l b R S g.2 h;simp only[Xa];split
  ·rename_i o r;split
   ·rename_i d t;split
    ·rename_i v H m n
     ·rw[gG]at r;obtain⟨y,E,A⟩:=b i d o g.1 r t;have f:=g.1;unfold O3 at f;rw[gG,r]at f;have f:=gX f;have D:=gX f.2;obtain⟨p,u,z,hx⟩:=l w0 S0 ρ S F w o.op v H m h D.1 n y;have s:o.guard=ι:=by
       cases s:o.guard with
       |none=>rfl
       |some q=>rw[s]at f;cases f.1
      have k:u=F d:=by
       have e:o=⟨θ d,o.op,o.type,o.pos,o.after,ι⟩:=by rw[<-t,<-s]
       have x:=hx d o.type o.pos o.after;rw[<-e,A]at x;cases x;rfl
      have B:=Qv l b R (S.set d v) g.2 (h.set (λG j=>by rw[z]at j;cases j;exact k.symm) p);exact B
    ·exact a
   ·exact a
  ·exact a
theorem MX{T:Type}(h:Rel C w0 S0 a S F w)(f:C.nn=md.n){c:χ}{y n:ε T}{r:T}(ρ:af (S.ev C c) y n=θ r):
  ∃b,aW md F c=.bool b/\(b=μ->y=θ r)/\(b=ν->n=θ r):=by
 unfold af at ρ;split at ρ
 ·rename_i x hx;refine⟨x,(nX h f hx).2,λe=> ?_,λe=> ?_⟩<;>(subst e;exact ρ)
 ·rename_i p d hx;refine⟨@decide p d,(nX h f hx).2,λe=> ?_,λe=> ?_⟩
  ·rw[aB (bX e)]at ρ;exact ρ
  ·rw[aA (fF e)]at ρ;exact ρ
 ·rename_i p d hx;refine⟨!@decide p d,(nX h f hx).2,λe=> ?_,λe=> ?_⟩
  ·have:¬p:=by simpa using e
   rw[aA this]at ρ;exact ρ
  ·have:p:=by simpa using e
   rw[aB this]at ρ;exact ρ
 ·cases ρ
def Snd(C:Cx)(md:Md)(w0:ο)(S0:δ Nat)(τ:Ty)(res:St->ε τ.T)(c:Code):Prop:=
 ∀k S g j i r h F w Q,den C τ res c k S g j i=θ r->Rel C w0 S0 h S F w->
  (∀e b a d f,i e b=θ r->Rel C w0 S0 a b d f->Nx S h b a->(∀t,t∉wr c->d t=F t)->(e=.nm->YJ C md c d)->Q (exO e) (fr md d) f)->
  (∀y b a d f,res b=θ y->j y=θ r->Rel C w0 S0 a b d f->Lf S h b a->Q .ret (fr md d) f)->Go.Wk.C C.P md Q c F w
theorem bb{c:Code}(h:opsOf c=[]):YJ C md c F:=λi d o _ a=>by rw[h]at a;simp at a
end
open Go.Wk
open Go.Ce (Tr)
open Nat renaming beq → cY
section
variable{C:Cx}{md:Md}{w0:ο}{S0:δ Nat}{τ:Ty}{res:St->ε τ.T}
variable{S c:St}{J:δ Key}{v:(qJ J).T}
theorem FO(h:leaf S J c=θ v):KD (γ S.H) (S.Sg J) c.m=μ:=by
 unfold leaf at h;split at h
 ·cases a:tk S J _ with
  |false=>rw[a]at h;cases h
  |true=>
   cases b:KD (γ S.H) _ c.m with
   |false=>rw[a,b]at h;cases h
   |true=>rfl
 ·cases h
variable{w:δ Nat}
theorem out_F:(S.out J w v).F=(If S.ix (S.base J w) J v).1:=rfl
theorem tu:(S.out J w v).H=(If S.ix (S.base J w) J v).2:=rfl
variable{d:Code}
theorem mU{b:Code}(L:Snd C md w0 S0 τ res d)(K:Snd C md w0 S0 τ res b)(D B:Sc)(S:St)(ρ':Ty)(k:τ.T->ε ρ'.T)(l:Ex->St->ε ρ'.T)(r:ρ'.T)(ρ:Nat->Ad)(F:Nat->ξ)(w:ο)(Q:Exit->Act->ο->Prop)
  (h:den C τ res d D S ρ' k (Gt l λS2=>den C τ res b B S2 ρ' k l)=θ r) (M:Rel C w0 S0 ρ S F w)
  (I:∀e S2 c F2 a,l e S2=θ r->Rel C w0 S0 c S2 F2 a->Nx S ρ S2 c->(∀t,t∉wr (.seq d b)->F2 t=F t)->(e=.nm->YJ C md (.seq d b) F2)->Q (exO e) (fr md F2) a)
  (H:∀y S2 c F2 a,res S2=θ y->k y=θ r->Rel C w0 S0 c S2 F2 a->Lf S ρ S2 c->Q .ret (fr md F2) a):Go.Wk.C C.P md Q (.seq d b) F w:=by
 have J:wr (.seq d b)=wr d++wr b:=Τ;refine BR (L D S ρ' k _ r ρ F w _ h M (λe S2 c F2 a G f v E _=> ?_) (λy S2 c F2 a o p f x=>DL (H y S2 c F2 a o p f x)));cases e with
 |nm=>refine Zg (K B S2 ρ' k l r c F2 a Q G f (λN z g A n s j u q _=> ?_) (λy z g A n o p j x=>H y z g A n o p j (v.toLf.trans x)));exact I N z g A n s j (v.trans u) (λt m=>by rw[q t λh=>m (YO _ h),E t λh=>m (Gi _ h)]) (λ_=>bb Τ)
 |xt i=>exact Fx (I _ S2 c F2 a G f v (λt m=>E t λh=>m (by rw[J];exact Gi _ h)) (λh=>by cases h))
variable{a b:Nat->Ad}
theorem zo{H:δ Ob}(l:OkJ S J)(h:c.H=H)(d:c.nb=S.nb)(e:c.al=S.al)(g:c.m=S.Sg J++S.m)(ρ:∀f i,(∀id j,id<f->eO id j (S.Sg J)=μ->eO id j i=μ)->Le f i a S.H b H):Nx S a c b:=by
 refine⟨⟨d,e,?_⟩,?_,λid j m=> ?_⟩
 ·rw[h];exact ρ S.nb S.al λid j k m=>Aj l.Hd k m
 ·rw[h,g];exact ρ _ _ λid j _ m=>Hv.2 (.inl m)
 ·rw[g];exact Hv.2 (.inr m)
theorem mu(h:Le (γ S.H) c.m a S.H b c.H)(e:KD (γ S.H) (S.Sg J) c.m=μ):Le (γ S.H) (S.Sg J) a S.H b c.H:=
 h.mono (dK _) λid j ρ d=>Yf e ρ d
theorem O1(i:CB C md){F F2:Nat->ξ}{x e:ο}(k:Rel C w0 S0 a S F x)(g:OkJ S J)(l:okR (opsOf d) w=μ)(ρ:Rel C w0 S0 b c F2 e)(m:Nx S.AP a c b)
  (j:∀t,t∉wr d->F2 t=F t) (R:YJ C md d F2)  (f:leaf S J c=θ v):∃ρ3,Rel C w0 S0 ρ3 (Xa C (opsOf d) w (S.out J (wr d) v)) F2 e/\Nx S a (Xa C (opsOf d) w (S.out J (wr d) v)) ρ3:=by
 obtain⟨ρ3,h,u,s⟩:=AN k g (mu m.lg (FO f)) ρ j f;obtain⟨r,q,p,o,n⟩:=Qv i R w _ l (u _ out_F tu);exact⟨ρ3,r,zo g (q.trans tu) p o n s⟩
theorem XN(hn:C.nn=md.n)(hD:∃k,md=⟨k,[],ι⟩)(hp:CB C md):∀c,pL C md w0 S0 c->Snd C md w0 S0 τ res c:=by
 intro c;induction c with
 |skip=>intro _ Z S m A z r E F w Q h D K U;exact Qg (K .nm S E F w h D Nx.refl (λ_ _=>rfl) (λ_=>bb Τ))
 |label l=>intro _ Z S m A z r E F w Q h D K U;exact pn (K .nm S E F w h D Nx.refl (λ_ _=>rfl) (λ_=>bb Τ))
 |exit id=>intro _ Z S m A z r E F w Q h D K U;exact Fu (K (.xt id) S E F w h D Nx.refl (λ_ _=>rfl) (λh=>by cases h))
 |goto l=>intro _ Z S m A z r E F w Q h;cases h
 |refuse l=>intro _ Z S m A z r E F w Q h;cases h
 |rangeFunc f p a b _ _=>intro _ Z S m A z r E F w Q h;cases h
 |ret=>
  intro _ Z S m A z r E F w Q h D K U;have h:(match res S with
   |some q=>A q
   |none=>ι)=θ r:=h
  split at h
  ·rename_i q hq;exact Wy (U q S E F w hq h D Lf.refl)
  ·cases h
 |region id e2 d=>intro u Z S m A z r E F w Q h D K U;exact u m S (λS2=>z .nm S2) r E F w Q h D λS2 s F2 L Y o X W M=>K .nm S2 s F2 L Y o X W (λ_=>M)
 |scope a ih=>
  intro u Z S m A z r E F w Q h D K U;obtain⟨k,rfl⟩:=hD;refine BP (ih u Z S m A z r E F w _ h D (λe S2 s F2 L B o X W M=> ?_) (λy S2 s F2 L hy G o hL=>Vm (U y S2 s F2 L hy G o hL)));have:=K e S2 s F2 L B o X W (λ_=>bb Τ);cases e with
  |nm=>exact P1 this
  |xt i=>exact zy this
 |block id a ih=>
  intro u Z S m A z r E F w Q h D K U;refine SH (ih u Z S m A (ui id z) r E F w _ h D (λe S2 s F2 L B o X W M=> ?_) (λy S2 s F2 L hy G o hL=>b_ret (U y S2 s F2 L hy G o hL)));cases e with
  |nm=>exact ay (K .nm S2 s F2 L B o X W (λ_=>bb Τ))
  |xt i=>
   have B:(bif cY i id then z .nm S2 else z (.xt i) S2)=θ r:=B;cases hb:cY i id with
   |true=>rw[hb]at B;rw[gR hb];exact Ft (K .nm S2 s F2 L B o X W (λ_=>bb Τ))
   |false=>rw[hb]at B;exact ax hb (K (.xt i) S2 s F2 L B o X W (λh=>by cases h))
 |cond c a b O N=>
  intro u Z S m A z r E F w Q h D K U;have a8:wr (.cond c a b)=wr a++wr b:=Τ;have hA:∀V,den C τ res a V S m A z=θ r->Go.Wk.C C.P md Q a F w:=λV h=>O u.1 V S m A z r E F w Q h D (λe S2 s F2 L B o X W _=>K e S2 s F2 L B o X (λt ht=>W t λh=>ht (by rw[a8];exact Gi _ h)) (λ_=>bb Τ)) U;have hB:∀sb,den C τ res b sb S m A z=θ r->Go.Wk.C C.P md Q b F w:=λsb h=>N u.2 sb S m A z r E F w Q h D (λe S2 s F2 L B o X W _=>K e S2 s F2 L B o X (λt ht=>W t λh=>ht (by rw[a8];exact YO _ h)) (λ_=>bb Τ)) U;have both:∀V sb,af (S.ev C c) (den C τ res a V S m A z) (den C τ res b sb S m A z)=θ r->Go.Wk.C C.P md Q (.cond c a b) F w:=by intro V sb h;obtain⟨x,h1,Y,h3⟩:=MX D hn h;exact tD h1 (λe=>hA V (Y e)) (λe=>hB sb (h3 e))
  cases Z with
  |y' V=>obtain⟨x,h1,Y,h3⟩:=MX D hn (show af (S.ev C c) (den C τ res a V S m A z) ι=θ r from h);exact tD h1 (λe=>hA V (Y e)) (λe=>by have:=h3 e;cases this)
  |z' sb=>obtain⟨x,h1,Y,h3⟩:=MX D hn (show af (S.ev C c) ι (den C τ res b sb S m A z)=θ r from h);exact tD h1 (λe=>by have:=Y e;cases this) (λe=>hB sb (h3 e))
  |n'=>exact both _ _ h
  |s' x y=>exact both _ _ h
  |j' J R x y=>exact both _ _ h
  |r' J R x y=>exact both _ _ h
  |l' J x=>exact both _ _ h
 |seq a b O N=>
  intro u Z S m A z r E F w Q h D K U;have O:=O u.1;have N:=N u.2;have a8:wr (.seq a b)=wr a++wr b:=Τ;cases Z with
  |j' J R V sb=>
   have h:(bif S.okJ J then(bif okR (opsOf a) R then Option.bind (den C τ res a V S.AP (qJ J) (λ_=>ι) (Gt noK (leaf S J))) (λv=>den C τ res b sb (Xa C (opsOf a) R (S.out J (wr a) v)) m A z)else ι)else ι)=θ r:=h;have h:=dF h;have Y:=dF h.2;have hJ:=LI h.1;obtain⟨v,h3,h4⟩:=Cc Y.2;refine BR (O V S.AP (qJ J) _ _ v E F w _ h3 (D.same Τ Τ) (λe S2 s F2 L B o X W M=> ?_) (λy S2 s F2 L hy G=>by cases G));cases e with
   |xt i=>cases B
   |nm=>obtain⟨a1,h5,h6⟩:=O1 hp D hJ Y.1 o X W (M Τ) B;refine Zg (N sb _ m A z r a1 F2 L Q h4 h5 (λe3 S3 a0 F3 w3 b7 a4 b8 b5 _=> ?_) (λy S3 a0 F3 w3 hy G a4 hL=>U y S3 a0 F3 w3 hy G a4 (h6.toLf.trans hL)));exact K e3 S3 a0 F3 w3 b7 a4 (h6.trans b8) (λt ht=>by rw[b5 t λh=>ht (YO _ h),W t λh=>ht (Gi _ h)]) (λ_=>bb Τ)
  |r' J R V sb=>
   have h:=dF h;have Y:=dF h.2;have hJ:=LI h.1;obtain⟨v,h3,h4⟩:=Cc Y.2;refine BR (O V S.AP (.sm (qJ J) τ) _ _ v E F w _ h3 (D.same Τ Τ) (λe S2 s F2 L B o X W M=> ?_) (λy S2 s F2 L hy G o hL=> ?_))
   ·cases e with
    |xt i=>cases B
    |nm=>
     have B:Q2 τ S J S2=θ v:=B;unfold Q2 at B;split at B
     ·rename_i v2 a9;cases B;obtain⟨a1,h5,h6⟩:=O1 hp D hJ Y.1 o X W (M Τ) a9;refine Zg (N sb _ m A z r a1 F2 L Q h4 h5 (λe3 S3 a0 F3 w3 b7 a4 b8 b5 _=> ?_) (λy S3 a0 F3 w3 hy G a4 hL=>U y S3 a0 F3 w3 hy G a4 (h6.toLf.trans hL)));exact K e3 S3 a0 F3 w3 b7 a4 (h6.trans b8) (λt ht=>by rw[b5 t λh=>ht (YO _ h),W t λh=>ht (Gi _ h)]) (λ_=>bb Τ)
     ·cases B
   ·cases G;exact DL (U y S2 s F2 L hy h4 o ⟨hL.nb,hL.al,hL.le⟩)
  |n'=>exact mU O N _ _ S m A z r E F w Q h D K U
  |s' x y=>exact mU O N _ _ S m A z r E F w Q h D K U
  |l' J x=>exact mU O N _ _ S m A z r E F w Q h D K U
  |y' x=>exact mU O N _ _ S m A z r E F w Q h D K U
  |z' x=>exact mU O N _ _ S m A z r E F w Q h D K U
 |loop a ih=>
  intro u Z S m A z r E F w Q h D K U;have a8:wr (.loop a)=wr a:=Τ;cases Z with
  |l' J V=>
   have h:(bif S.okJ J then(match leaf S J S.AP with
    |some v=>bE (λg v=>den C τ res a V (S.head J (wr a) v) m A (Gt (λe S2=>z e (S2.as S J)) (IM (leaf S J) g))) C.fu v
    |none=>ι)else ι)=θ r:=h
   have h:=dF h;have hJ:=LI h.1;have Y:=h.2;split at Y
   ·rename_i v hv;generalize c5:(λ(g:(qJ J).T->ε m.T) v=>den C τ res a V (S.head J (wr a) v) m A (Gt (λe S2=>z e (S2.as S J)) (IM (leaf S J) g)))=f0 at Y;let I:Nat->(Nat->ξ)->ο->Prop:=λk F' w'=>∃(v:(qJ J).T) (m:Nat->Ad),bE f0 k v=θ r/\Rel C w0 S0 m (S.head J (wr a) v) F' w'/\(∀(nb:Nat) (al:δ Rg),(∀id j,id<nb->eO id j (S.Sg J)=μ->eO id j al=μ)->Le nb al E S.H m (S.head J (wr a) v).H)/\∀t,t∉wr a->F' t=F t;have d3:I C.fu F w:=by obtain⟨a1,d0,h3,h4⟩:=AN (S2:=S.AP) (wl:=wr a) (F2:=F) D hJ Le.refl (D.same Τ Τ) (λ_ _=>rfl) hv;exact⟨v,a1,Y,h3 _ Τ Τ,h4,λ_ _=>rfl⟩
    refine pj I C.fu d3 λk F' w' hI=> ?_;obtain⟨v',c3,h3,h4,h5,h6⟩:=hI;cases k with
    |zero=>cases h3
    |succ k=>
     rw[<-c5]at h3;have c6:Lf S E (S.head J (wr a) v') c3:=⟨Τ,Τ,h5 _ _ λid j hi hc=>Aj hJ.Hd hi hc⟩;refine ih u V (S.head J (wr a) v') m A _ r c3 F' w' _ h3 h4 (λe S2 s F2 L B o X W M=> ?_) (λy S2 s F2 L hy G o hL=>pJ (U y S2 s F2 L hy G o (c6.trans hL)));have b6:∀t,t∉wr a->F2 t=F t:=λt ht=>(W t ht).trans (h6 t ht);cases e with
     |nm=>
      have B:IM (leaf S J) (bE f0 k) S2=θ r:=by rw[c5]at B;exact B
      unfold IM at B;split at B
      ·rename_i v2 a9;have d2:Le (γ S.H) (S.Sg J) E S.H s S2.H:=(h5 (γ S.H) (S.Sg J) λ_ _ _ h=>h).trans (X.lg.mono (h5 0 [] (λid j hi=>absurd hi aA0)).len λid j hi hc=>Yf (FO a9) hi hc);obtain⟨a1,d0,h7,h8⟩:=AN (wl:=wr a) D hJ d2 o b6 a9;exact ze ⟨k,F2,Τ,Cu k,v2,a1,B,h7 _ Τ Τ,h8,b6⟩
      ·cases B
     |xt i=>
      refine Fw (K (.xt i) (S2.as S J) s F2 L B (o.same Τ Τ) ⟨?_,?_,λid j hc=> ?_⟩ (λt ht=>b6 t (by rw[a8]at ht;exact ht)) (λh=>by cases h))
      ·have:=c6.trans X.toLf;exact⟨this.nb,this.al,this.le⟩
      ·refine(h5 (γ S.H) _ λid j _ hc=>Hv.2 (.inr (Hv.2 (.inl hc)))).trans ?_;exact X.lg.mono (h5 0 [] (λid j hi=>absurd hi aA0)).len λid j _ hc=>Hv.2 (.inl hc)
      ·exact Hv.2 (.inr (Hv.2 (.inr hc)))
   ·cases Y
  |_=>cases h
end
end Go.Oe
namespace Go.Ce
open Go.Wk
section
variable{C:Cx}{m:M}{S:T}{n:Md}{w0 w:ο}{E:En}
variable{d:ε Nat}{ty:ω}{Ο:String}{Ν:Array Edge}{gd:ε (Nat×η)}
theorem uk:∀(off:Nat) (vs cells:δ ξ) (k:Nat),off+k+γ vs<=γ cells->
  (vs.zipIdx k).foldl (λcs (p:ξ×Nat)=>cs.setIfInBounds (off+p.2) p.1) cells.toArray=(cells.take (off+k)++vs++cells.drop (off+k+γ vs)).toArray
 |off,[],cells,k,h=>by simp
 |off,v::vs,cells,k,h=>by
  simp only[cM]at h;simp only[List.zipIdx_cons,Gf];have e:(cells.toArray.setIfInBounds (off+k) v)=(cells.set (off+k) v).toArray:=aA2;rw[e,uk off vs _ _ aA3];congr 1;have c:(cells.set (off+k) v).take (off+(k+1))=cells.take (off+k)++[v]:=by rw[zbN,aB aA0];have a:γ (cells.take (off+k))=off+k:=aA3;rw[List.take_append,a,eX (by rw[a];omega),show off+(k+1)-(off+k)=1 by omega];simp
  have b:(cells.set (off+k) v).drop (off+(k+1)+γ vs)=cells.drop (off+k+(γ vs+1)):=by rw[List.drop_set_of_lt aA0];congr 1;omega
  rw[c,b];simp
end
end Go.Ce
namespace Go.Oe
open Go.Wk
open Go.Ce (Tr)
section
variable{C:Cx}{md:Md}{w0 w:ο}{S0:δ Nat}{ρ:Nat->Ad}{S:St}{F:Nat->ξ}
variable{t:Nat}
theorem Vk{z:Nat}(h:Uj C t=θ z)(w:ο):(sizeOf t).run C.P w=.ok z w:=zL h w
variable{z:η}
theorem VQ(h:E1 C t=θ z)(w:ο):(isAgg t).run C.P w=.ok z w:=zL h w
theorem Dy(h:wG C t=μ):C.P.underlying t=θ .string:=by
 unfold wG at h;split at h
 ·assumption
 ·cases h
theorem oBool(h:isBool C t=μ):C.P.underlying t=θ .bool:=by
 unfold isBool at h;split at h
 ·assumption
 ·cases h
theorem ke{e:Nat}(h:UE C t=θ e):C.P.underlying t=θ (.slice e):=by
 unfold UE at h;split at h
 ·rename_i a;cases h;exact a
 ·cases h
theorem oAr{q:Nat×Nat}(h:arE C t=θ q):C.P.underlying t=θ (.array q.1 q.2):=by
 unfold arE at h;split at h
 ·rename_i a;cases h;exact a
 ·cases h
variable{k:Ε}
theorem oK(h:kindOf C t=θ k):C.P.underlying t=θ (.int k):=by
 unfold kindOf at h;split at h
 ·rename_i a;cases h;exact a
 ·cases h
theorem oU8(h:LW C t=μ):C.P.underlying t=θ (.int .u8):=by
 unfold LW at h;split at h
 ·rename_i a;rw[a,mE h]
 ·cases h
theorem oIsK(h:isK C t k=μ):C.P.underlying t=θ (.int k):=by
 unfold isK at h;split at h
 ·rename_i a;rw[oK a,mE h]
 ·cases h
theorem oPtr(h:RC C t=μ):∃e,C.P.underlying t=θ (.pointer e):=by
 unfold RC at h;split at h
 ·rename_i e a;exact⟨e,a⟩
 ·cases h
theorem tw(h:GN C t=μ):∃e,C.P.underlying t=θ (.slice e):=by
 unfold GN at h;split at h
 ·rename_i e a;exact⟨e,a⟩
 ·cases h
variable{b:BinOp}
theorem AX(h:GO b=μ):b=.eql:=by cases b<;>first|rfl|cases h
variable{a:SC}
theorem wJ{i:Int}(h:SU a=θ i)(ρ:Nat->Ad):∃k,a.v ρ=.int k i:=by
 cases a<;>simp only[SU,reduceCtorEq,bG]at h
 ·subst h;exact⟨_,Τ⟩
 ·subst h;exact⟨_,Τ⟩
variable{s c:ω}{x y:χ}{i:SC}{g:δ PD}{r:SV}
theorem bin_ok(hx:aW md F x=a.v ρ)(e:aW md F y=i.v ρ)(q:∀k v,z=μ->aW md F y=.int k v->0<=v)(h:bin z b a i=θ (g,r))(A:Jd g):vE C md ρ S F w (.binOp b s x y c) r:=by
 unfold bin at h;split at h
 ·rename_i k u j v;cases o:ud b with
  |true=>
   have m:b=.shr:=by cases b<;>first|rfl|cases o
   subst m;cases v with
   |negSucc n=>cases h
   |ofNat n=>
    cases h;refine fD Τ Τ λd p Ο Ν=>sg k j u _ _ hx e (Rm n) ?_ ?_
    ·show 2^(min n k.bits)=((2^(min n k.bits):Nat):Int);rfl
    ·exact Int.natCast_pos.2 (Nat.pow_pos aA1)
  |false=>
  rw[o]at h;cases f:ue b with
  |true=>
   have m:b=.shl:=by cases b<;>first|rfl|cases f
   subst m;cases v with
   |negSucc n=>cases h
   |ofNat n=>cases h;refine fD Τ Τ λd p Ο Ν=>sh k j u _ _ hx e (Rm n) ?_;rfl
  |false=>
  rw[f]at h;cases l:LU k j with
  |false=>rw[l]at h;cases h
  |true=>rw[l]at h;obtain rfl:=mE l;exact bI_ok hx e h A
 ·exact bC_ok hx e h A
 ·exact yg hx e (λt=>q _ _ t e) h A
 ·exact bS_ok hx e h A
 ·cases h
theorem qc(hx:aW md F x=a.v ρ)(n:aW md F y=i.v ρ)(B:∀k v,z=μ->aW md F y=.int k v->0<=v)(h:qd C z s b a i=θ (g,r))(G:Jd g):vE C md ρ S F w (.binOp b s x y c) r:=by
 unfold qd at h;split at h
 ·rename_i I off j;have f:=dF h;have l:=dF f.2;have o:=dF l.2;have t:=gR f.1;obtain rfl:=AX o.1;cases o.2;subst t;obtain⟨e,m⟩:=oPtr l.1;exact fD Τ Τ λd p Ο Ν=>JU _ m hx n
 ·rename_i j H;have f:=dF h;have l:=dF f.2;have o:=dF l.2;have A:=dF o.2;have t:=gR f.1;have q:=gR l.1;obtain rfl:=AX A.1;cases A.2;subst t;subst q;obtain⟨e,m⟩:=oPtr o.1;exact fD Τ Τ λd p Ο Ν=>JU _ m hx n
 ·have f:=dF h;have l:=dF f.2;obtain rfl:=AX l.1;cases l.2;obtain⟨e,m⟩:=tw f.1;exact fD Τ Τ λd p Ο Ν=>JT _ _ _ e m hx n
 ·have f:=dF h;have l:=dF f.2;obtain rfl:=AX l.1;cases l.2;obtain⟨e,m⟩:=tw f.1;exact fD Τ Τ λd p Ο Ν=>JT _ _ _ e m hx n
 ·split at h
  ·rename_i u v E D;have f:=dF h;exact bB_ok (oBool f.1) (hx.trans (ju E ρ)) (n.trans (ju D ρ)) f.2
  ·exact bin_ok hx n B h G
theorem zr(hx:aW md F x=a.v ρ)(h:zt a=θ (g,r)):vE C md ρ S F w (.unOp .not s x) r:=by
 unfold zt at h;split at h
 ·cases h;exact fD Τ Τ λd b Ο Ν=>ZQ _ hx
 ·cases h;exact fD Τ Τ λd b Ο Ν=>ZQ _ hx
 ·rename_i p c;cases h;exact fD Τ Τ λd b Ο Ν=>xd _ hx
 ·cases h
theorem S9(c:wG C s=μ)(hx:aW md F x=a.v ρ)(m:aW md F y=i.v ρ)(h:ixC a i=θ (g,r))(n:Jd g):vE C md ρ S F w (.index s x y) r:=by
 unfold ixC at h;split at h
 ·rename_i l;split at h
  ·rename_i j f;cases h;obtain⟨k,e⟩:=wJ f ρ;exact fD Τ Τ λd o Ο Ν=>oJ l k j (Dy c) hx (m.trans e) n.1
  ·cases h
 ·cases h
theorem zP{n y:ε χ}{i j:ε SC}(p:wG C s=μ)(hx:aW md F x=a.v ρ)(t:(n=ι/\i=ι)\/∃o c,n=θ o/\i=θ c/\aW md F o=c.v ρ)(z:(y=ι/\j=ι)\/∃o c,y=θ o/\j=θ c/\aW md F o=c.v ρ)
  (h:Z8 a i j=θ (g,r)) (A:Jd g):vE C md ρ S F w (.slice s x n y ι) r:=by
 unfold Z8 at h;split at h
 ·rename_i l;rcases t with⟨rfl,rfl⟩|⟨o,c,rfl,rfl,D⟩<;>rcases z with⟨rfl,rfl⟩|⟨H,I,rfl,rfl,b⟩
  ·cases h
  ·simp only at h;split at h
   ·rename_i m e;cases h;obtain⟨k,f⟩:=wJ e ρ;exact fD Τ Τ λd B Ο Ν=>Kj l k m (Dy p) hx (b.trans f) A.1
   ·cases h
  ·simp only at h;split at h
   ·rename_i m e;cases h;obtain⟨k,f⟩:=wJ e ρ;exact fD Τ Τ λd B Ο Ν=>oI l k m (Dy p) hx (D.trans f) A.1
   ·cases h
  ·simp only at h;split at h
   ·rename_i m E e q;cases h;obtain⟨k,f⟩:=wJ e ρ;obtain⟨G,u⟩:=wJ q ρ;exact fD Τ Τ λd B Ο Ν=>OE l k G m E (Dy p) hx (D.trans f) (b.trans u) A.1
   ·cases h
 ·cases h
theorem BI(hx:aW md F x=a.v ρ)(h:y7 C s c a=θ (g,r))(m:Jd g):vE C md ρ S F w (.convert s c x) r:=by
 unfold y7 at h;split at h
 ·rename_i u;have i:=dF h;have e:=oU8 i.1;have b:=i.2;have q:=fG u;split at b
  ·rename_i t;cases b;refine fD Τ Τ λd f Ο Ν=> ?_;exact tS .u8 .u8 _ e (oK t) hx (by rw[IntKind.wrap_u8];omega)
  ·rename_i t;cases b;refine fD Τ Τ λd f Ο Ν=> ?_;exact tS .i64 .u8 _ e (oK t) hx (CU u)
  ·rename_i t;cases b;refine fD Τ Τ λd f Ο Ν=> ?_;exact tS .i32 .u8 _ e (oK t) hx (by simp[IntKind.wrap,IntKind.bits];omega)
  ·cases b
 ·rename_i k n;have i:=dF h;have e:=oIsK i.1;have b:=i.2;split at b
  ·rename_i t;cases b;exact fD Τ Τ λd f Ο Ν=>ZM k n e (oK t) hx
  ·rename_i k' _ t;cases o:LU k k' with
   |true=>
    rw[o]at b;obtain rfl:=mE o;cases j:i64 k with
    |true=>obtain rfl:=Ez j;cases b;exact fD Τ Τ λd f Ο Ν=>tS .i64 .i64 n e (oK t) hx (bje m.1.lo m.1.hi)
    |false=>rw[j]at b;cases b;exact fD Τ Τ λd f Ο Ν=>tS k k n e (oK t) hx m.1
   |false=>rw[o]at b;cases b;exact fD Τ Τ λd f Ο Ν=>JV k' k n e (oK t) hx
  ·have p:=dF b;cases p.2;exact fD Τ Τ λd f Ο Ν=>Tu k k n e (Dy p.1) hx
 ·rename_i l;have i:=dF h;have b:=dF i.2;cases b.2;exact fD Τ Τ λd f Ο Ν=>TJ l (Dy i.1) (Dy b.1) hx
 ·cases h
end
open Go.Wk
open Go.Ce (Tr)
open Nat renaming beq → cY
section
variable{C:Cx}{md:Md}{w0 w:ο}{S0:δ Nat}{ρ:Nat->Ad}{S:St}{F:Nat->ξ}
variable{l:δ SC}{t f:Nat}{a:η}{v:SV}
theorem rU(h:vV l t f a=θ v):
  (a=ν/\∃x,l[t]? =θ x/\x.kn=μ/\v=.c' x)\/(a=μ/\t+f<=γ l/\(∀x∈(l.drop t).take f,x.kn=μ)/\v=.a' ((l.drop t).take f))\/(a=μ/\f=0/\v=.a' []):=by
 unfold vV at h;cases a with
 |true=>
  split at h
  ·rename_i q e;have b:=dF h;cases b.2;obtain⟨d,c⟩:=xK e;rw[nE]at d c;subst d;by_cases n:f=0
   ·subst n;exact .inr (.inr ⟨Τ,Τ,aA2⟩)
   ·refine .inr (.inl ⟨Τ,?_,RA b.1,Τ⟩);simp at c;omega
  ·cases h
 |false=>
  simp at h;split at h
  ·rename_i x hx;have b:=dF h;cases b.2;rw[gG]at hx;exact .inl ⟨Τ,x,hx,b.1,Τ⟩
  ·cases h
theorem Ds{k:Nat}(h:vV l t f a=θ v)(b:∀x∈l,x.ok k):v.ok k:=by
 rcases rU h with⟨_,x,c,_,rfl⟩|⟨_,_,_,rfl⟩|⟨_,_,rfl⟩
 ·exact b x (aI c)
 ·exact λx hx=>b x (CJ (Cs hx))
 ·intro x hx;cases hx
variable{q:Nat×Nat×η}
theorem Pp(h:Wo C t f=θ q):∃(l:δ Field) (b:Field),C.P.underlying t=θ (.struct l.toArray)/\l[f]? =θ b/\q.1=b.offset/\Uj C b.type=θ q.2.1/\E1 C b.type=θ q.2.2:=by
 unfold Wo at h;split at h
 ·rename_i i d;split at h
  ·rename_i b c;split at h
   ·rename_i n a e g;cases h;rw[gG]at c;exact⟨i.toList,b,aD5,c,Τ,e,g⟩
   ·cases h
  ·cases h
 ·cases h
theorem kb{n:Nat}(h:vV l f n a=θ v)(d:Uj C t=θ n)(c:E1 C t=θ a):∃u,v.v ρ=θ u/\(part t (l.map (SC.v ρ)).toArray f).run C.P w=.ok u w:=by
 rcases rU h with⟨rfl,x,b,_,rfl⟩|⟨rfl,g,_,rfl⟩|⟨rfl,rfl,rfl⟩
 ·exact⟨_,Τ,by simp[part,VQ c w,b]⟩
 ·refine⟨_,Τ,?_⟩;have e:(l.map (SC.v ρ)).toArray.extract f (f+n)=(((l.drop f).take n).map (SC.v ρ)).toArray:=by simp only[List.extract_toArray,List.extract_eq_take_drop,zbO];rw[List.map_take,List.map_drop]
  simp only[part,Sem.run_bind,VQ c w,Result.andThen_ok,eW,Vk d w,Sem.run_pure,e]
 ·refine⟨_,Τ,?_⟩;have e:(l.map (SC.v ρ)).toArray.extract f (f+0)= #[]:=aA2;simp only[part,Sem.run_bind,VQ c w,Result.andThen_ok,eW,Vk d w,e];rfl
theorem Uf{u:aC×aC}(h:ga l=θ u):l=[.s' u.1,.s' u.2]:=by
 unfold ga at h;split at h
 ·cases h;rfl
 ·cases h
theorem Wc(h:WI C t=μ):C.P.underlying t=θ .string/\E1 C t=θ ν:=by
 unfold WI at h;cases b:wG C t<;>rw[b]at h
 ·cases h
 ·refine⟨Dy b,?_⟩;split at h
  ·rename_i a c;cases a
   ·exact c
   ·cases h
  ·cases h
variable{x:χ}
theorem eqA_ok{z:η}{b:BinOp}{t t':ω}{y:χ}{g:δ PD}{r:SV}(hx:aW md F x=.agg (l.map (SC.v ρ)).toArray)(c:∀e,v=.a' e->aW md F y=.agg (e.map (SC.v ρ)).toArray)(h:qe C z t b (.a' l) v=θ (g,r)):vE C md ρ S F w (.binOp b t x y t') r:=by
 cases v with
 |a' e=>
  have c:=c e Τ;unfold qe at h;simp only at h;split at h
  ·rename_i u M;split at h
   ·rename_i v L;cases a:isHd C t with
    |false=>rw[a]at h;cases h
    |true=>
     rw[a]at h;rw[Uf M]at hx;rw[Uf L]at c;obtain⟨i,n,s,p,q⟩:∃i:δ Field,C.P.underlying t=θ (.struct i.toArray)/\EqF C.P w [str u.1,str u.2] [str v.1,str v.2] i [decide (u.1=v.1),decide (u.2=v.2)]/\C.P.stoodInHeld t=ν/\C.P.eqGuardType C.P.depth t=ν:=by
      unfold isHd at a;split at a
      ·rename_i i j;split at a
       ·rename_i f g N;cases E:WI C f.type<;>rw[E]at a<;>first|cases a|skip
        cases D:WI C g.type<;>rw[D]at a<;>first|cases a|skip
        cases m:cY f.offset 0<;>rw[m]at a<;>first|cases a|skip
        cases k:cY g.offset 1<;>rw[k]at a<;>first|cases a|skip
        cases B : f.name == "_" <;> rw[B] at a <;> first | cases a | skip
        cases A : g.name == "_" <;> rw[A] at a <;> first | cases a | skip
        cases Q:C.P.stoodInHeld t<;>rw[Q]at a<;>first|cases a|skip
        have O:C.P.eqGuardType C.P.depth t=ν:=aC0;obtain⟨K,H⟩:=Wc E;obtain⟨J,G⟩:=Wc D;refine⟨[f,g],by rw[j,<-N],⟨ne_of_beq_false B,⟨_,_,?_,?_,λd=>RP d _ _ K⟩,ne_of_beq_false A,⟨_,_,?_,?_,λd=>RP d _ _ J⟩,trivial⟩,Τ,O⟩
        ·simp[part,VQ H w,gR m]
        ·simp[part,VQ H w,gR m]
        ·simp[part,VQ G w,gR k]
        ·simp[part,VQ G w,gR k]
       ·cases a
      ·cases a
     have o:[decide (u.1=v.1),decide (u.2=v.2)].all id=decide (u=v):=by simp[Prod.ext_iff]
     cases b<;>simp at h<;>obtain⟨rfl,rfl⟩:=h
     ·exact fD Τ Τ λd I Ο Ν=>A2 _ _ _ _ n p q hx c s o
     ·exact fD Τ Τ λd I Ο Ν=>A1 _ _ _ _ n p q hx c s o
   ·cases h
  ·cases h
 |_=>cases h
theorem X5(hx:aW md F x=.agg (l.map (SC.v ρ)).toArray)(c:∀x∈l,x.ok (γ S.H))(b:Wo C t f=θ q)(h:vV l q.1 q.2.1 q.2.2=θ v):vE C md ρ S F w (.field t x f) v:=by obtain⟨o,p,m,k,j,i,g⟩:=Pp b;obtain⟨u,e,a⟩:=kb (ρ:=ρ) h i g;refine⟨Ds h c,u,e,λd n Ο Ν=> ?_⟩;rw[j]at a;simp[ς,hx,Instr.field,run_underlying m,k,asAgg];rw[a];rfl
theorem AW{c:SC}(hx:aW md F x=c.v ρ)(i:c.ok (γ S.H))(h:bku C t f c=θ v):vE C md ρ S F w (.fieldAddr t x f) v:=by
 unfold bku at h;split at h
 ·rename_i q m;obtain⟨u,g,p,o,k,n,s⟩:=Pp m;cases a:cY q.2.1 0 with
  |true=>rw[a]at h;cases h
  |false=>
   rw[a]at h;have b:q.2.1≠0:=λe=>by rw[e]at a;cases a
   have hZ:∀A:Γ,(Instr.fieldAt t (.pointer (θ A)) f).run C.P w=.ok (.pointer (θ (A.add g.offset))) w:=by simp[Instr.fieldAt,run_underlying p,o,Instr.sureAddr,fieldPlace,Vk n w,b]
   split at h
   ·rename_i id off;cases h;refine⟨i,_,Τ,λd l Ο Ν=> ?_⟩;rw[su _ g.offset hx (hZ _),SY,<-k];rfl
   ·rename_i id j r off;cases h;refine⟨i,_,Τ,λd l Ο Ν=> ?_⟩;rw[Kk _ _ g.offset hx (by rw[<-MM];exact hZ _),<-k,Dc];rfl
   ·cases h
 ·cases h
theorem MH{l:δ SA}{y:SA}(hx:aW md F x=.tuple (l.map (SA.v ρ)).toArray)(a:∀x∈l,x.ok (γ S.H))(h:fC l t=θ y):vE C md ρ S F w (.extract x t) y.sv:=by rw[gG]at h;exact⟨SA.Gu (a y (aI h)),_,SA.gm ρ y,λd b Ο Ν=>Tx _ _ hx (by simp[h])⟩
theorem ZL(h:zC C t=θ l)(w:ο):∃v,(zeroValue t).run C.P w=.ok v w/\(∀c∈l,c.ids=[]/\c.kn=μ)/\∀ρ,v.cells=(l.map (SC.v ρ)).toArray:=by
 unfold zC at h;split at h
 ·rename_i v a;obtain⟨d,b⟩:=MQ h;exact⟨v,zL a w,d,λρ=>by rw[b]⟩
 ·cases h
theorem Pq{w:χ->SV}{y:Nat->ε (Nat×Nat)}{k:Nat}:∀c (cs r),(∀p∈c,(w p.2).ok k/\∀u,(w p.2).v ρ=θ u->aW md F p.2=u)->(∀x∈cs,x.ok k)->Hn y w c cs=θ r->
  Instr.fill y (cs.map (SC.v ρ)).toArray (c.map λp=>(p.1,aW md F p.2))=θ (r.map (SC.v ρ)).toArray/\γ r=γ cs/\∀x∈r,x.ok k
 |[],cs,r,_,l,h=>by cases h;exact⟨Τ,Τ,l⟩
 |p::c,cs,r,A,l,h=>by
  simp only[Hn]at h;split at h
  ·rename_i q b G d;have C:=dF h;have t:=C.2;split at t
   ·rename_i j a;obtain⟨M,B⟩:=bfy a;have i:=A p gQ;have n:=SV.Qb d i.1;obtain⟨v,o,f⟩:=SV.Ka (ρ:=ρ) d;have m:=i.2 v o;have g:∀x∈j,x.ok k:=by
     rw[B];intro x hx;rcases aV.1 hx with hx|hx
     ·rcases aV.1 hx with hx|hx
      ·exact l x (Cs hx)
      ·exact n x hx
     ·exact l x (CJ hx)
    obtain⟨L,K,J⟩:=Pq c j r (λD H=>A D (fB _ H)) g t;refine⟨?_,by rw[K,Ab a],J⟩;obtain⟨off,size⟩:=q;have E:=gR C.1;simp only[tR,Instr.fill,G,m];have I:v.cells.size=γ b:=by rw[f];simp
    have s:¬((v.cells.size≠size||decide (off+v.cells.size>(cs.map (SC.v ρ)).toArray.size))=μ):=by simp;omega
    rw[aA s,<-L];rw[f];have z:=Go.Ce.uk off (b.map (SC.v ρ)) (cs.map (SC.v ρ)) 0 (by simp;exact M);simp only[Ru,Gk]at z;rw[B];have e:((cs.take off++b++cs.drop (off+γ b)).map (SC.v ρ))=(cs.map (SC.v ρ)).take off++b.map (SC.v ρ)++(cs.map (SC.v ρ)).drop (off+γ b):=aA2;rw[e,<-z];simp
   ·cases t
  ·cases h
theorem Ml:∀{b:δ Field}{l:δ (Nat×Nat)},Jn C b=θ l->(b.mapM λf=>(do pure (f.offset,<-sizeOf f.type):Sem (Nat×Nat))).run C.P w=.ok l w
 |[],l,a=>by cases a;simp
 |f::b,l,a=>by
  simp only[Jn]at a;split at a
  ·rename_i z e;split at a
   ·rename_i q d;cases a;have c:=Ml d;rw[List.mapM_cons];simp only[Sem.run_bind,Vk e w,Result.andThen_ok,Sem.run_pure,c]
   ·cases a
  ·cases a
theorem z8{y:ο}(I:Rel C w0 S0 ρ S F y)(B:C.nn=md.n){f:Array (Nat×χ)}(h:Jq C (S.ev C) t f.toList=θ v):vE C md ρ S F w (.build t f) v:=by
 unfold Jq at h;split at h
 ·rename_i z O A a;split at h
  ·rename_i cs r;cases h;obtain⟨M,x,K,l⟩:=ZL A w;obtain⟨s,Q,J⟩:=Pq (ρ:=ρ) (md:=md) (F:=F) (k:=γ S.H) f.toList z cs (λp _=>Tm I B p.2) (λc G i u=>by rw[(K c G).1]at u;cases u) r;refine⟨J,_,Τ,λd N Ο Ν=> ?_⟩;have b:(f.map λp=>(p.1,aW md F p.2)).toList=f.toList.map λp=>(p.1,aW md F p.2):=aA2;have l:=l ρ;unfold plOf at a;split at a
   ·rename_i L q;split at a
    ·rename_i lp o;cases a;have D:=Ml (w:=w) o;have g:fC lp=λi=>lp.toArray[i]? :=by funext i;rw[gG];simp
     rw[g]at s;have j:C.P.underlying t=θ (.struct L.toList.toArray):=aE7;simp only[ς,Instr.build,Sem.run_bind,x,Result.andThen_ok,run_underlying j,l,List.mapM_toArray,Sem.run_map,D];rw[b,s];rfl
    ·cases a
   ·rename_i k e E;split at a
    ·rename_i n m;cases a;simp only[ς,Instr.build,Sem.run_bind,x,Result.andThen_ok,run_underlying E,l,Vk m w];rw[b,s];rfl
    ·cases a
   ·cases a
  ·cases h
 ·cases h
end
open Go.Wk
open Go.Ce (Tr)
section
variable{C:Cx}{md:Md}{w0 w:ο}{S0:δ Nat}{ρ:Nat->Ad}{S:St}{F:Nat->ξ}
variable{H:δ Ob}{a:Ro}
theorem JO{r:Rv}(h:Mj H r=θ a):∃g v,r=θ (g,v)/\a=⟨g,v,H,[]⟩:=by
 unfold Mj at h;split at h
 ·cases h;exact⟨_,_,Τ,Τ⟩
 ·cases h
theorem be{v:ε SV}(h:mO H v=θ a):∃x,v=θ x/\a=⟨[],x,H,[]⟩:=by
 unfold mO at h;split at h
 ·cases h;exact⟨_,Τ,Τ⟩
 ·cases h
theorem AH{x v:SV} (h:(match x with
  |.u'=>ι
  |v=>θ v)=θ v):x=v/\∃u,v.v ρ=θ u:=by
 cases x<;>simp at h
 ·subst h;exact⟨Τ,_,Τ⟩
 ·subst h;exact⟨Τ,_,Τ⟩
 ·subst h;exact⟨Τ,_,Τ⟩
 ·subst h;exact⟨Τ,_,Τ⟩
theorem YZ{a:Type}{b:χ->SV}{x:ε χ}{f:ε SC->ε a}{r:a}(h:Ii b x f=θ r):(x=ι/\f ι=θ r)\/∃o c,x=θ o/\b o=.c' c/\f (θ c)=θ r:=by
 cases x with
 |none=>exact .inl ⟨Τ,h⟩
 |some o=>obtain⟨c,e,d⟩:=lI h;exact .inr ⟨o,c,Τ,e,d⟩
variable{t:Nat}
theorem bh{q:Nat×Nat}(h:arE C t=θ q):C.P.underlying t=θ (.array q.1 q.2):=by
 unfold arE at h;split at h
 ·rename_i a;cases h;exact a
 ·cases h
theorem R5{x b:χ}{cs:δ SC}{i:SC}{g:δ PD}{v:SV}(hx:aW md F x=.agg (cs.map (SC.v ρ)).toArray)(p:aW md F b=i.v ρ)(h:R6 C t cs i=θ (g,v))(r:Jd g):vE C md ρ S F w (.index t x b) v:=by
 unfold R6 at h;split at h
 ·rename_i q f;have h:=(dF h).2;split at h
  ·rename_i B A;split at h
   ·rename_i l j m o;cases h
    obtain⟨k,n⟩:=wJ o ρ;obtain⟨z,_,y⟩:=dq m;have u:(l.map λs=>[str s])=(cs.map (SC.v ρ)).map λc=>[c]:=by
     rw[y ρ,List.map_flatMap]
     have:∀l:δ aC,(l.map λs=>[str s])=l.flatMap λa=>List.map (λc=>[c]) ((Ty.s').enc a):=by
      intro l;induction l with
      |nil=>rfl
      |cons s l e=>rw[tR,e];rfl
     exact this l
    exact fD Τ Τ λd D Ο Ν=>x_ixA _ l q.1 k j _ _ u (bh f) z (VQ A w) (Vk B w) hx (p.trans n) Τ r.1
   ·cases h
  ·cases h
 ·cases h
theorem an(r:C.nn=md.n)(z:Rel C w0 S0 ρ S F w){op:Op}(Y:mF op=μ)(h:opP C (S.ev C) S.H op=θ a)(G:Jd a.g)(w':ο):vE C md ρ S F w' op a.v/\a.H=S.H/\a.m=[]:=by
 cases op<;>first|cases Y|skip
 case move x=>
  obtain⟨v,e,rfl⟩:=be h;obtain⟨p,u,B⟩:=AH (ρ:=ρ) e;obtain⟨A,D⟩:=Tm z r x;rw[p]at A D;exact⟨⟨A,u,B,λd Q Ο Ν=>by rw[<-D u B];rfl⟩,Τ,Τ⟩
 case assign x=>
  obtain⟨v,e,rfl⟩:=be h;obtain⟨p,u,B⟩:=AH (ρ:=ρ) e;obtain⟨A,D⟩:=Tm z r x;rw[p]at A D;exact⟨⟨A,u,B,λd Q Ο Ν=>by rw[<-D u B];rfl⟩,Τ,Τ⟩
 case binOp b t x y t'=>
  obtain⟨g,v,e,rfl⟩:=JO h;by_cases E:∃l,S.ev C x=.a' l
  ·obtain⟨l,E⟩:=E;rw[E]at e;exact⟨eqA_ok ((Tm z r x).2 _ (by rw[E];rfl)) (λl2 p=>(Tm z r y).2 _ (by rw[p];rfl)) e,Τ,Τ⟩
  have e:gM (S.ev C x) (λn=>gM (S.ev C y) λc=>qd C (mr y) t b n c)=θ (g,v):=by
   unfold qe at e;split at e
   ·rename_i hx;exact absurd ⟨_,hx⟩ E
   ·exact e
  obtain⟨n,p,B⟩:=lI e;obtain⟨c,A,D⟩:=lI B;exact⟨qc (nX z r p).2 (nX z r A).2 (λk v U W=>mq W U) D G,Τ,Τ⟩
 case unOp u t x=>
  cases u<;>first|cases h|skip
  obtain⟨g,v,e,rfl⟩:=JO h;obtain⟨n,p,B⟩:=lI e;exact⟨zr (nX z r p).2 B,Τ,Τ⟩
 case convert s t x=>
  obtain⟨g,v,e,rfl⟩:=JO h;obtain⟨n,p,B⟩:=lI e;exact⟨BI (nX z r p).2 B G,Τ,Τ⟩
 case index t x ix=>
  have h:(bif wG C t then Mj S.H _ else(match S.ev C x with
   |.a' cs=>Mj S.H _
   |_=>ι))=θ a:=h
  cases M:wG C t with
  |true=>rw[M]at h;obtain⟨g,v,e,rfl⟩:=JO h;obtain⟨n,p,B⟩:=lI e;obtain⟨c,A,D⟩:=lI B;exact⟨S9 M (nX z r p).2 (nX z r A).2 D G,Τ,Τ⟩
  |false=>
   rw[M]at h;have K:=Tm z r x;split at h
   ·rename_i cs N;obtain⟨g,v,e,rfl⟩:=JO h;obtain⟨c,A,D⟩:=lI e;rw[N]at K;exact⟨R5 (K.2 _ Τ) (nX z r A).2 D G,Τ,Τ⟩
   ·cases h
 case slice t x T Z R=>
  cases R with
  |some m=>have:=(dF (h)).2;cases this
  |none=>
   have h:=dF (h);have p:(bif wG C t then Mj S.H _ else gM _ λn=>Ii _ T λi=>Ii _ Z λj=>Ih C S.H t n i j)=θ a:=h.2;rw[h.1]at p;have h:=And.intro h.1 p;obtain⟨g,v,e,rfl⟩:=JO h.2;obtain⟨n,p,B⟩:=lI e;refine⟨?_,Τ,Τ⟩;rcases YZ B with⟨A,D⟩|⟨o,c,A,D,h6⟩
   ·rcases YZ D with⟨J,I⟩|⟨L,P,J,I,O⟩
    ·exact zP h.1 (nX z r p).2 (.inl ⟨A,Τ⟩) (.inl ⟨J,Τ⟩) I G
    ·exact zP h.1 (nX z r p).2 (.inl ⟨A,Τ⟩) (.inr ⟨L,P,J,Τ,(nX z r I).2⟩) O G
   ·rcases YZ h6 with⟨J,I⟩|⟨L,P,J,I,O⟩
    ·exact zP h.1 (nX z r p).2 (.inr ⟨o,c,A,Τ,(nX z r D).2⟩) (.inl ⟨J,Τ⟩) I G
    ·exact zP h.1 (nX z r p).2 (.inr ⟨o,c,A,Τ,(nX z r D).2⟩) (.inr ⟨L,P,J,Τ,(nX z r I).2⟩) O G
 case extract x i=>
  have h:(match S.ev C x with
   |.t' l=>match fC l i with
    |some y=>θ _
    |none=>ι
   |_=>ι)=θ a:=h
  obtain⟨e,p⟩:=Tm z r x;split at h
  ·rename_i l E;split at h
   ·rename_i y V;cases h;rw[E]at e p;exact⟨MH (p _ Τ) e V,Τ,Τ⟩
   ·cases h
  ·cases h
 case field t x f=>
  have h:(match S.ev C x with
   |.a' l=>match Wo C t f with
    |some q=>mO S.H _
    |none=>ι
   |_=>ι)=θ a:=h
  obtain⟨e,p⟩:=Tm z r x;split at h
  ·rename_i l E;split at h
   ·rename_i q X;obtain⟨v,B,rfl⟩:=be h;rw[E]at e p;exact⟨X5 (p _ Τ) e X B,Τ,Τ⟩
   ·cases h
  ·cases h
 case build t ps=>
  obtain⟨v,e,rfl⟩:=be h;exact⟨z8 z r e,Τ,Τ⟩
 case fieldAddr t x f=>
  obtain⟨n,e,p⟩:=lI (h);obtain⟨v,B,rfl⟩:=be p;obtain⟨A,D⟩:=nX z r e;exact⟨AW D A B,Τ,Τ⟩
theorem zg(b:C.nn=md.n):CB C md:=λw0 S0 ρ S F w op v H m c a h w'=>(an b c a h trivial w').1
end
open Go.Wk
open Go.Ce (Tr)
def Step(C:Cx)(md:Md)(w0:ο)(S0:δ Nat)(ρ:Nat->Ad)(S:St)(F:Nat->ξ)(w:ο)(o:Α)(S2:St):Prop:=
 ∀c Q a,
  (∀b e f,Rel C w0 S0 b S2 e f->Nx S ρ S2 b->(∀t,o.dst≠θ t->e t=F t)->(∀d,o.dst=θ d->mF o.op=μ->∃g,(ς (aW md F) o).run C.P w=.ok (.value (e d)) g)->W C.P md c Q a e f)->W C.P md c Q (o::a) F w
section
variable{C:Cx}{md:Md}{w0 w:ο}{S0:δ Nat}{ρ:Nat->Ad}{S:St}{F:Nat->ξ}
variable{d:Nat}{ty:ω}{Ο:String}{Ν:Array Edge}
variable{b:St}{c:ο}{v:SV}{u:ξ}
theorem qa{a:Nat->Ad}(h:Rel C w0 S0 a b F c)(g:v.v a=θ u)(i:v.ok (γ b.H)):Rel C w0 S0 a (b.set d v) (dP F d u) c:=by
 refine⟨h.gl,λt f j=> ?_,λt=> ?_,h.ho,h.mem⟩
 ·rw[kT]at j;by_cases e:t=d
  ·rw[aB e]at j;rw[g]at j;cases j;subst e;rw[qh]
  ·rw[aA e]at j;rw[Ku _ _ _ _ e];exact h.fr t f j
 ·rw[kT];by_cases e:t=d
  ·rw[aB e];exact i
  ·rw[aA e];exact h.fo t
theorem SP:∀t,(θ d)≠θ t->dP F d u t=F t:=λt h=>Ku _ _ _ _ λe=>h (by rw[e])
theorem E6{op:Op}(g:Rel C w0 S0 ρ S F w)(h:vE C md ρ S F w op v):Step C md w0 S0 ρ S F w ⟨θ d,op,ty,Ο,Ν,ι⟩ (St.set ⟨S.F,S.H,S.nb,S.al,[]++S.m⟩ d v):=by intro c Q a e;obtain⟨j,u,i,b⟩:=h;refine gC Τ Τ (b d ty Ο Ν) (e ρ _ w (qa (g.same Τ Τ) i j) ⟨⟨Τ,Τ,Le.refl⟩,Le.refl,λ_ _ h=>h⟩ SP λd2 f _=>⟨w,?_⟩);cases f;rw[qh];exact b d ty Ο Ν
def Hx(ρ:Nat->Ad)(n:Nat)(a:Ad):Nat->Ad:=λid=>if id=n then a else ρ id
variable{n:Nat}{a:Ad}
theorem yI:Up n ρ (Hx ρ n a):=λid b=>by unfold Hx;rw[aA aA0]
theorem nY:Hx ρ n a n=a:=by unfold Hx;rw[aB rfl]
variable{L:δ cF}{r:cF}
theorem Hp.rot{w0 w:ο}{S:δ Nat}(h:Hp w0 S (r::L) w):Hp w0 S (L++[r]) w:=by refine⟨h.os,h.tape,h.output,h.size,h.below,λx hx=>h.res x (by simp at hx⊢;exact hx.symm),?_⟩;have c:=iR.1 h.sep;refine dE.2 ⟨c.2,List.pairwise_singleton _ _,λa g b d=> ?_⟩;simp at d;subst d;intro k f e;exact c.1 a g k e f
theorem RO.up{n:Nat}{a:Nat->Ad}{id:Nat}{o:Ob}{r:cF}(h:RO w0 S0 ρ id o r)(d:Up n ρ a)(f:id<n)(k:∀e cs,o=.bl e cs->∀c∈cs,c.ok n):RO w0 S0 a id o r:=by
 cases o with
 |bl e cs=>obtain⟨i,rfl,s,q⟩:=h;refine⟨i,by rw[d id f],s,λj c g p=> ?_⟩;rw[q j c g p,SC.up d (k e cs rfl c (aI g))]
 |rw e b t l=>show r=_;rw[d id f];exact h
 |ro t l=>exact⟨h.1,by rw[d id f];exact h.2⟩
 |br m l=>show r=_;rw[d id f];exact h
 |dd m=>trivial
theorem zW{o:Ob}{S2:St}(l:Rel C w0 S0 ρ S F w)(m:Mt w0 S0 ρ S.H L)(E:Hp w0 S0 (r::L) c)(y:RO w0 S0 (Hx ρ (γ S.H) a) (γ S.H) o r)(A:o.len=a.ln)(z:∀e cs,o=.bl e cs->∀n∈cs,n.ok (γ S.H+1))
  (G:S2.F=S.F) (h:S2.H=S.H++[o]):Rel C w0 S0 (Hx ρ (γ S.H) a) S2 F c:=by
 have v:∀t,S2.at t=S.at t:=λt=>by rw[St.at_eq,St.at_eq,G]
 have d:γ S2.H=γ S.H+1:=aA6;refine⟨λg id B=> ?_,λt u q=> ?_,λt=> ?_,λid e cs f n s=> ?_,⟨L++[r],Hp.rot E,by simp[m.1,d],λid p b=> ?_⟩⟩
 ·obtain⟨M,b⟩:=l.gl g id B;exact⟨aA0,by rw[yI id M];exact b⟩
 ·rw[v,SV.up yI (l.fo t)]at q;exact l.fr t u q
 ·rw[v];exact SV.cT (l.fo t) aA0
 ·rw[d];rw[h]at f;by_cases j:id<γ S.H
  ·rw[aJ j]at f;exact SC.cT (l.ho id e cs f n s) aA0
  ·rw[aO aA0]at f
   have:o=.bl e cs:=by
    cases i:id-γ S.H with
    |zero=>rw[i]at f;simpa using f
    |succ k=>rw[i]at f;simp at f
   exact z e cs this n s
 ·rw[h]at b;by_cases j:id<γ S.H
  ·rw[aJ j]at b;obtain⟨K,x,J,I⟩:=m.2 id p b;refine⟨by rw[yI id j];exact K,x,by rw[aJ (by rw[m.1];exact j)];exact J,I.up yI j λe cs D=> ?_⟩;subst D;exact l.ho id e cs b
  ·rw[aO aA0]at b;have i:id-γ S.H=0:=by
    cases i:id-γ S.H with
    |zero=>rfl
    |succ k=>rw[i]at b;simp at b
   have hid:id=γ S.H:=aA0;rw[i]at b;have:o=p:=aC2;subst this;subst hid;exact⟨by rw[nY];exact A,r,by rw[aO (by rw[m.1];exact dK _),m.1];simp,y⟩
theorem Mx{o:Ob}{m:δ Rg}(x:Rel C w0 S0 ρ S F w)(h:b.H=S.H++[o])(f:b.nb=S.nb)(g:b.al=S.al)(r:b.m=m++S.m):Nx S ρ b (Hx ρ (γ S.H) a):=by
 have d:∀k p,Le k p ρ S.H (Hx ρ (γ S.H) a) b.H:=by
  intro k p;rw[h];refine⟨aA2,yI,λid q _ i=> ?_⟩;have u:=(aF.1 i).1;rw[aJ u,i];cases q with
  |bl e cs=>exact .inr ⟨cs,Τ,Τ,λj c n=>.inr ⟨c,n,λs=>⟨s,SC.up yI (x.ho id e cs i c (aI n))⟩⟩⟩
  |rw e y t l=>exact .inr Τ
  |br m l=>exact .inr Τ
  |ro t l=>rfl
  |dd m=>rfl
 exact⟨⟨f,g,d _ _⟩,d _ _,λid j v=>by rw[r];exact Hv.2 (.inr v)⟩
end
open Go.Wk
open Go.Ce (Tr)
section
variable{C:Cx}{md:Md}{w0 w:ο}{S0:δ Nat}{ρ:Nat->Ad}{S:St}{F:Nat->ξ}
variable{d:Nat}{ty:ω}{Ο:String}{Ν:Array Edge}
def adB(b:Nat):Ad:=⟨θ b,θ ⟨b,0,ι⟩,0,ν,0⟩
variable{z:δ SC}{e:Nat}
theorem Lh{op:Op}{x:SC}{V:Nat->ξ}(h:Rel C w0 S0 ρ S F w)(f:∀c∈z,c.ok (γ S.H))(hx:x.ok (γ S.H+1))(n:mF op=ν)
  (u:∀b,x.v (Hx ρ (γ S.H) (adB b))=V b) (a:(ς (aW md F) (⟨θ d,op,ty,Ο,Ν,ι⟩)).run C.P w=.ok (.value (V w.heap.size)) (w.alloc (.cells (z.map (SC.v ρ)).toArray e (0,0)))):
  Step C md w0 S0 ρ S F w ⟨θ d,op,ty,Ο,Ν,ι⟩ (St.set ⟨S.F,S.H++[.bl e z],S.nb,S.al,[]++S.m⟩ d (.c' x)):=by
 intro r Q l p;obtain⟨L,m,y⟩:=h.mem;refine jS m _ e V Τ Τ a λb k i=> ?_
 have A:Rel C w0 S0 (Hx ρ (γ S.H) (adB b)) ⟨S.F,S.H++[.bl e z],S.nb,S.al,[]++S.m⟩ F k:=by
  refine zW (o:=.bl e z) h y i ⟨z.map _,by rw[nY];rfl,aA2,λj c q p=> ?_⟩ Τ (λD B s c t=> ?_) Τ Τ
  ·rw[bD,q,SC.up yI (f c (aI q))];rfl
  ·cases s;exact SC.cT (f c t) aA0
 refine p _ _ k (qa A (by show θ _=_;rw[u]) (by show x.ok (γ (S.H++[_]));simpa using hx)) (Mx h Τ Τ Τ Τ) SP λd2 _ g=> ?_;rw[show mF op=μ from g]at n;cases n
variable{a:Ro}
theorem KG(k:Rel C w0 S0 ρ S F w)(h:iC C (S.ev C) S.H (.alloc e)=θ a):Step C md w0 S0 ρ S F w ⟨θ d,.alloc e,ty,Ο,Ν,ι⟩ (St.set ⟨S.F,a.H,S.nb,S.al,a.m++S.m⟩ d a.v):=by
 have h:(match zC C e with
  |some z=>θ (Ro.mk [] (.c' (.p' (γ S.H) 0)) (S.H++[.bl e z]) [])
  |none=>ι)=θ a:=h
 split at h
 ·rename_i z g;cases h;obtain⟨o,n,l,f⟩:=ZL g w;refine Lh (V:=λb=>.pointer (θ ⟨b,0,ι⟩)) k (λc j i m=>by rw[(l c j).1]at m;cases m) (λi m=>by have:i=γ S.H:=aH.1 m;omega) Τ (λb=>by show iM (Hx ρ _ _ _).b 0=_;rw[nY];rfl) ?_;have f:=f ρ;simp[ς,Instr.alloc,n,newVar,newRow,f]
 ·cases h
theorem E7(c:Rel C w0 S0 ρ S F w)(f:C.nn=md.n){x:χ}(h:iC C (S.ev C) S.H (.box e x)=θ a):Step C md w0 S0 ρ S F w ⟨θ d,.box e x,ty,Ο,Ν,ι⟩ (St.set ⟨S.F,a.H,S.nb,S.al,a.m++S.m⟩ d a.v):=by
 have h:(match(S.ev C x).cells with
  |some cs=>θ (Ro.mk [] (.c' (.p' (γ S.H) 0)) (S.H++[.bl e cs]) [])
  |none=>ι)=θ a:=h
 split at h
 ·rename_i cs m;cases h;obtain⟨p,o⟩:=Tm c f x;obtain⟨u,l,k⟩:=SV.Ka (ρ:=ρ) m;have j:=o u l;refine Lh (V:=λb=>.pointer (θ ⟨b,0,ι⟩)) c (SV.Qb m p) (λi g=>by have:i=γ S.H:=aH.1 g;omega) Τ (λb=>by show iM (Hx ρ _ _ _).b 0=_;rw[nY];rfl) ?_;simp[ς,Instr.box,j,newVar,newRow,k]
 ·cases h
theorem zU(z:δ SC):∀k,γ (zV z k)=k*γ z
 |0=>by simp[zV]
 |k+1=>by show(z++zV z k).length=_;rw[cE,zU z k,dB,Ia]
theorem EG{z:δ SC}{p:SC->Prop}(a:∀x∈z,p x):∀k,∀x∈zV z k,p x
 |0,x,h=>by cases h
 |k+1,x,h=>by
  rcases aV.1 (h)with h|h
  ·exact a x h
  ·exact EG a k x h
theorem EH(z:δ SC):∀k j,j<k*γ z->(zV z k)[j]? =z[j%γ z]?
 |0,j,h=>by omega
 |k+1,j,h=>by
  show(z++zV z k)[j]? =_;by_cases a:j<γ z
  ·rw[aJ a,IZ a]
  ·rw[aO aA0,EH z k _ (by rw[dB]at h;omega)];rw[<-Nat.mod_eq_sub_mod aA0]
theorem kx{a:Array ξ}(j:a=(z.map (SC.v ρ)).toArray):(Array.range (e*γ z)).map (a[·%a.size]!)=((zV z e).map (SC.v ρ)).toArray:=by
 subst j;apply ep
 ·simp[zU]
 ·intro i l m;have b:i<e*γ z:=by simpa using l
  have f:0<γ z:=by
   rcases Nat.eq_zero_or_pos (γ z) with h|h
   ·rw[h]at b;simp at b
   ·exact h
  have k:=EH z e i b;have d:i%γ z<γ z:=Nat.mod_lt _ f;have g:i<γ (zV z e):=by rw[zU];exact b
  rw[aN d,aN g]at k;have c:=aP k;simp only[List.getElem_toArray,List.getElem_map,c];simp[d]
theorem Ie(D:Rel C w0 S0 ρ S F w)(L:C.nn=md.n){len:Nat}{j:Array (Nat×χ)}(h:iC C (S.ev C) S.H (.buildSlice e len j)=θ a):Step C md w0 S0 ρ S F w ⟨θ d,.buildSlice e len j,ty,Ο,Ν,ι⟩ (St.set ⟨S.F,a.H,S.nb,S.al,a.m++S.m⟩ d a.v):=by
 have h:auw C _ S.H e len j.toList=θ a:=h;unfold auw at h;split at h
 ·rename_i t B;split at h
  ·rename_i z n K o;have I:=dF h;have G:=dF I.2;have A:=G.2;split at A
   ·rename_i cs x;cases A;have l:=gR I.1;have M:=CP G.1;obtain⟨J,T,R,y⟩:=ZL K w;have y:=y ρ;obtain⟨E,U,Q⟩:=Pq (ρ:=ρ) (md:=md) (F:=F) (k:=γ S.H) j.toList (zV z len) cs (λp _=>Tm D L p.2) (EG (λc O i s=>by rw[(R c O).1]at s;cases s) len) x;have f:(j.map λp=>(p.1,aW md F p.2)).toList=j.toList.map λp=>(p.1,aW md F p.2):=aA2;refine Lh (V:=λb=>.slice (θ ⟨b,0,ι⟩) len len) D Q (λi s=>by have:i=γ S.H:=aH.1 s;omega) Τ (λb=>by show π (θ ⟨(Hx ρ _ _ _).b,0,ι⟩) len len=_;rw[nY];rfl) ?_;have r:¬len*n>2^24:=aA0
    have q:∀m:Array ξ,(len*n≠0->m=(z.map (SC.v ρ)).toArray)->(Array.range (len*n)).map (m[·%m.size]!)=((zV z len).map (SC.v ρ)).toArray:=by
     intro m P;by_cases g:len*n=0
     ·have N:γ (zV z len)=0:=by rw[zU,l,g]
      have:zV z len=[]:=qR N;rw[g,this];simp
     ·rw[<-l];exact kx (P g)
    by_cases g:len*n=0
    ·have u:=q #[] (λh=>absurd g h);simp only[ς,Instr.buildSlice,Sem.run_bind,run_underlying (ke B),Result.andThen_ok,Vk o w];rw[aA r,aB g];simp only[Sem.run_bind,Sem.run_pure,Result.andThen_ok];rw[f,u,E];simp[newRow]
    ·have u:=q J.cells (λ_=>y);simp only[ς,Instr.buildSlice,Sem.run_bind,run_underlying (ke B),Result.andThen_ok,Vk o w];rw[aA r,aA g];simp only[Sem.run_bind,T,Sem.run_pure,Result.andThen_ok];rw[f,u,E];simp[newRow]
   ·cases A
  ·cases h
 ·cases h
end
open Go.Wk
open Go.Ce (Tr)
open List renaming length → aL
open Nat renaming beq → cY
theorem Bs{a:Type}{f:a->δ ξ}{sz:Nat}(b:qQ f sz):∀(l:δ a) i x,l[i]? =θ x->∃A B,l.flatMap f=A++(f x++B)/\γ A=i*sz
 |y::l,0,x,h=>by have:y=x:=aA7;subst this;exact⟨[],l.flatMap f,Τ,aA2⟩
 |y::l,i+1,x,h=>by obtain⟨A,B,d,c⟩:=Bs b l i x aA7;exact⟨f y++A,B,by rw[Rw,d,jI],by rw[cE,b.len,c,dB,Ia]⟩
theorem RT(t:Ty)(l:δ t.T)(j:Int)(h:0<=j/\j<aL l):l[j.toNat]? =θ (dk t l j):=by have a:j.toNat<aL l:=aA0;rw[elT_el];unfold el;simp[aN a]
variable{j:Int}{t:Ty}
theorem Lb{sz:Nat}(h:DB sz j t=μ):j.toNat*sz=j.toNat*t.sz:=by
 unfold DB at h;cases a:cY sz t.sz with
 |true=>rw[gR a]
 |false=>
  rw[a]at h;split at h
  ·show 0*sz=0*t.sz;simp
  ·cases h
theorem Y6{l:δ t.T}(a:t.flat=μ)(b:0<=j/\j<aL l)(ρ:Nat->Ad):∃A B,l.flatMap t.enc=A++((vd t l j).map (SC.v ρ)++B)/\γ A=j.toNat*t.sz:=by obtain⟨A,B,d,c⟩:=Bs (Ty.wD a) l j.toNat _ (RT t l j b);refine⟨A,B,?_,c⟩;rw[d];unfold vd;rw[(Ty.Au t 0 0 _ a).2]
section
variable{C:Cx}{md:Md}{w0 w:ο}{S0:δ Nat}{ρ:Nat->Ad}{S:St}{F:Nat->ξ}
variable{d:Nat}{ty:ω}{Ο:String}{Ν:Array Edge}
variable{x:χ}{t:Nat}{a:η}
theorem PZ{n off k:Nat}{g:ε Γ}{f A B:δ ξ}{cs:δ SC}{v:SV}(m:Rd w g f)(b:f=A++(cs.map (SC.v ρ)++B))(o:aL A=k)(p:Uj C t=θ n)(l:E1 C t=θ a)(j:vV cs off n a=θ v)(r:cs≠[])(e:a=μ->0<n)
  (hx:aW md F x=.pointer (θ (ea g (k+off)))) (h:∀c∈cs,c.ok (γ S.H)):vE C md ρ S F w (.load t x) v:=by
 refine⟨Ds j h,?_⟩;rcases rU j with⟨rfl,c,i,_,rfl⟩|⟨rfl,i,_,rfl⟩|⟨rfl,rfl,rfl⟩
 ·refine⟨_,Τ,λd ty Ο Ν=>sk g f _ _ m ?_ hx (VQ l w)⟩;rw[b,aO aA0,o,zbO];have q:=(aF.1 i).1;rw[aJ aE7,bD,i];rfl
 ·refine⟨_,Τ,λd ty Ο Ν=>sj g f _ _ n m ?_ ?_ (e Τ) hx (VQ l w) (Vk p w)⟩
  ·rw[b,<-o,List.drop_append,Da aA0,Ic,zbO,iG aA3,iE aA3,List.map_take,List.map_drop]
  ·simp;omega
 ·exact absurd (e Τ) aA0
variable{c:Ty}
theorem Y7{l:δ c.T}{j:Int}(a:c.flat=μ)(n:Nat):(∀t∈vd c l j,t.ok n)/\γ (vd c l j)=c.sz:=by have g:=Ty.Vw c 0 0 (dk c l j) a;refine⟨λt e i b=>(by rw[(g t e).1]at b;cases b),?_⟩;have f:=(Ty.Au c 0 0 (dk c l j) a).2 (λ_=>⟨ι,ι,0,ν,0⟩);have d:=bA aL f;rw[Gk,Ty.AZ c _ a]at d;exact d
variable{j:Int}{b:Ro}
theorem Mm{n off id sz:Nat}{τ:Ty}{l:δ τ.T}(q:Rd w (ρ id).a (l.flatMap τ.enc))(k:Uj C t=θ n)(p:E1 C t=θ a)(g:cY n 0=ν)(hx:aW md F x=.pointer (θ (ea (ρ id).a (j.toNat*sz+off))))
  (h:rT S.H τ l j sz off n a=θ b) (o:Jd b.g):vE C md ρ S F w (.load t x) b.v/\b.H=S.H/\b.m=[]:=by
 unfold rT at h;split at h
 ·rename_i v i;have f:=dF h;have c:=gX f.1;cases f.2;obtain⟨A,B,u,s⟩:=Y6 (ρ:=ρ) c.2 o.1;obtain⟨r,d⟩:=Y7 c.2 (γ S.H);refine⟨PZ q u s k p i (λe=> ?_) (λ_=> ?_) (by rw[hx,Lb c.1]) r,Τ,Τ⟩
  ·have:=Ty.Dg c.2;rw[e]at d;simp at d;omega
  ·exact Rb λe=>by rw[e]at g;cases g
 ·cases h
theorem SZ{t:Ty}(b:t.flat=μ)(ρ:Nat->Ad)(n:Nat):∀l,(bk t l).map (SC.v ρ)=l.flatMap t.enc/\∀c∈bk t l,c.ok n
 |[]=>⟨Τ,λc a=>by cases a⟩
 |x::l=>by
  obtain⟨f,e⟩:=SZ b ρ n l;refine⟨?_,λc a=> ?_⟩
  ·show((t.lay 0 0 x).1++bk t l).map _=_;rw[Rp,f,(Ty.Au t 0 0 x b).2,Rw]
  ·rcases aV.1 (a)with a|a
   ·intro i d;rw[(Ty.Vw t 0 0 x b c a).1]at d;cases d
   ·exact e c a
theorem TL{n off id sz:Nat}{l:δ c.T}(o:Rd w (ρ id).a (l.flatMap c.enc))(g:Uj C t=θ n)(i:E1 C t=θ a)(m:cY n 0=ν)(hx:aW md F x=.pointer (θ (ea (ρ id).a (j.toNat*sz+off))))
  (h:Kn S.H c l j off n a=θ b):vE C md ρ S F w (.load t x) b.v/\b.H=S.H/\b.m=[]:=by
 unfold Kn at h;split at h
 ·have d:=dF h;obtain⟨v,f,rfl⟩:=be d.2;obtain⟨q,p⟩:=SZ d.1 ρ (γ S.H) l;refine⟨PZ (A:=[]) (B:=[]) (k:=0) o (by rw[q];simp) Τ g i f (λe=> ?_) (λ_=> ?_) (by rw[hx];simp) p,Τ,Τ⟩
  ·rcases rU f with⟨_,τ,d,_⟩|⟨_,d,_⟩|⟨_,d,_⟩
   ·rw[e]at d;simp at d
   ·rw[e]at d;have:n=0:=by simp at d;omega
    rw[this]at m;cases m
   ·rw[d]at m;cases m
  ·exact Rb λe=>by rw[e]at m;cases m
 ·cases h
theorem QS(N:Rel C w0 S0 ρ S F w){c:SC}(hx:aW md F x=c.v ρ)(h:kI C S.H t c=θ b)(G:Jd b.g):vE C md ρ S F w (.load t x) b.v/\b.H=S.H/\b.m=[]:=by
 obtain⟨L,z,B⟩:=N.mem;unfold kI at h;split at h
 ·rename_i n a q o;cases f:cY n 0 with
  |true=>rw[f]at h;cases h
  |false=>
   rw[f]at h;split at h
   ·rename_i id off;split at h
    ·rename_i e cs i;rw[gG]at i;obtain⟨v,K,rfl⟩:=be h;obtain⟨_,r,p,D,rfl,M⟩:=B.2 id _ i;have k:=z.dO id p;refine⟨⟨Ds K (N.ho id e cs i),?_⟩,Τ,Τ⟩;rcases rU K with⟨rfl,c,P,J,rfl⟩|⟨rfl,P,J,rfl⟩|⟨rfl,rfl,rfl⟩
     ·exact⟨_,Τ,λd ty Ο Ν=>lN (ρ id).b off D e _ k (M.2 off c P J) hx (VQ o w)⟩
     ·refine⟨_,Τ,λd ty Ο Ν=>sq (ρ id).b off n D _ e k ?_ aA3 hx (VQ o w) (Vk q w)⟩;apply cS;intro j;rw[bQ,bD,bQ];by_cases y:j<n
      ·rw[aB y,aB y,bV,bV];have E:off+j<aL cs:=by omega
       have A:=aN E;rw[A,M.2 _ _ A (J _ (aI (by rw[bQ,aB y,bV];exact A)))];rfl
      ·rw[aA y,aA y];rfl
     ·exact⟨_,Τ,λd ty Ο Ν=>sq (ρ id).b off 0 D _ e k aA2 Τ hx (VQ o w) (Vk q w)⟩
    ·cases h
   ·rename_i id j T off;split at h
    ·rename_i e g τ l i;rw[gG]at i;obtain⟨_,r,p,I⟩:=B.2 id _ i;subst I;exact Mm (z.gL id p) q o f hx h G
    ·rename_i τ l i;rw[gG]at i;obtain⟨_,r,p,_,s,u,_⟩:=B.2 id _ i;split at h
     ·rename_i Q R;cases h;exact Mm (s.dj z u) q o f hx R G
     ·exact TL (s.dj z u) q o f hx h
    ·rename_i m l i;rw[gG]at i;obtain⟨_,r,p,I⟩:=B.2 id _ i;subst I;have O:=z.dN id p;have A:=(oZ l).symm;rw[A]at O;exact Mm (τ:=.c') O q o f hx h G
    ·cases h
   ·cases h
 ·cases h
end
open Go.Wk
open Go.Ce (Tr)
open Nat renaming beq → cY, one_pos → Jf
section
variable{C:Cx}{md:Md}{w0 w:ο}{S0:δ Nat}{ρ:Nat->Ad}{S:St}{F:Nat->ξ}
variable{L:δ cF}{t:Nat}{d:St}
theorem Jk{r:cF}{n:ο}{o l:Ob}(h:Rel C w0 S0 ρ S F w)(j:Mt w0 S0 ρ S.H L)(s:S.H[t]? =θ l)(E:Hp w0 S0 (L.set t r) n)(z:RO w0 S0 ρ t o r)(B:o.len=l.len)(A:∀e cs,o=.bl e cs->∀c∈cs,c.ok (γ S.H))
  (G:d.F=S.F) (b:d.H=jC S.H t o):Rel C w0 S0 ρ d F n:=by
 have q:∀M,d.at M=S.at M:=λM=>by rw[St.at_eq,St.at_eq,G]
 have a:γ d.H=γ S.H:=by rw[b,NB]
 have H:=(aF.1 s).1;refine⟨λg i D=>by rw[a];exact h.gl g i D,λM u y=>h.fr M u (by rw[<-q];exact y),λM=>by rw[q,a];exact h.fo M,λi e cs f c p=> ?_,⟨L.set t r,E,by simp[j.1,a],λi x k=> ?_⟩⟩
 ·rw[b,yF]at f;rw[a];split at f
  ·cases f;exact A e cs Τ c p
  ·exact h.ho i e cs f c p
 ·rw[b,yF]at k;split at k
  ·rename_i m;cases k;rw[m.1];exact⟨by rw[B];exact(j.2 t l s).1,r,by rw[eT];simp[j.1,H],z⟩
  ·rename_i m;obtain⟨K,v,J,I⟩:=j.2 i x k;refine⟨K,v,?_,I⟩;rw[eT,aA (λe=>m ⟨e.symm,H⟩)];exact J
theorem Zy{o n:Ob}{m:δ Rg}(u:Rel C w0 S0 ρ S F w)(s:S.H[t]? =θ n)(g:S.Hd m=μ)(r:∀b:δ Rg,(∀j,eO t j m=μ->eO t j b=μ)->kV b t ρ ρ (θ o) n)(k:d.H=jC S.H t o)(f:d.nb=S.nb)(h:d.al=S.al)(p:d.m=m++S.m):Nx S ρ d ρ:=by
 have c:∀e b,(∀j,t<e->eO t j m=μ->eO t j b=μ)->Le e b ρ S.H ρ d.H:=by
  intro e b a;rw[k];refine⟨by rw[NB];exact dK _,Up.refl,λi z v l=> ?_⟩;rw[yF];split
  ·rename_i q;rw[q.1,s]at l;cases l;rw[q.1]at v⊢;exact r b λj=>a j v
  ·rw[l];exact kV.refl
 exact⟨⟨f,h,c _ _ λj v a=>Aj g v a⟩,c _ _ λj _ a=>by rw[p];exact Hv.2 (.inl a),λt j a=>by rw[p];exact Hv.2 (.inr a)⟩
variable{A E:δ ξ}
theorem KK(h:t+γ E<=γ A)(j:Nat):(Ql A t E)[j]? =if t<=j/\j<t+γ E then E[j-t]? else A[j]? :=by
 unfold Ql;by_cases b:j<t
 ·rw[aA aA0,jI,aJ aA3,bQ,aB b]
 ·by_cases a:j<t+γ E
  ·rw[aB ⟨aA0,a⟩,aJ aA3,aO aA3];simp;congr 1;omega
  ·rw[aA aA0,aO aA3,bV];congr 1;simp;omega
theorem KJ(h:t+γ E<=γ A):γ (Ql A t E)=γ A:=by unfold Ql;simp;omega
variable{b:ω}{c:String}{a:Array Edge}{n e g:Nat}{x y:χ}
theorem Sb(s:Rel C w0 S0 ρ S F w)(U:C.nn=md.n){off:Nat}{cs vs m:δ SC}(z:S.H[e]? =θ (.bl g cs))(hx:aW md F x=iM (ρ e).b off)(p:(S.ev C y).cells=θ vs)(B:Uj C t=θ n)(W:γ vs=n)(i:uU cs off vs=θ m)(V:S.Hd [(e,off,off+n)]=μ):
  Step C md w0 S0 ρ S F w ⟨ι,.store t x y,b,c,a,ι⟩ ⟨S.F,jC S.H e (.bl g m),S.nb,S.al,[(e,off,off+n)]++S.m⟩:=by
 intro O Q K G;obtain⟨L,Z,N⟩:=s.mem;obtain⟨_,r,T,l,rfl,a0⟩:=N.2 e _ z;obtain⟨h1,h2⟩:=Tm s U y;obtain⟨u,h3,h4⟩:=SV.Ka (ρ:=ρ) p;have h5:=h2 u h3;obtain⟨h6,h7⟩:=bfy i;have h:off+γ (vs.map (SC.v ρ))<=γ l:=by rw[a0.1];simpa using h6
 have A:=SV.Qb p h1;obtain⟨w',q,J⟩:=Z.stored (P:=C.P) (off:=off) (vs:=vs.map (SC.v ρ)) T h (λv R=>by obtain⟨H,_,rfl⟩:=dW.1 R;exact SC.one ρ H);have hx:aW md F x=.pointer (θ ⟨(ρ e).b,off,ι⟩):=hx;have M:(sizeOf t).run C.P w=.ok (γ (vs.map (SC.v ρ))) w:=by rw[Gk,W];exact Vk B w
 refine wS (w':=w') Τ Τ ?_ (G ρ F w' ?_ ?_ (λ_ _=>rfl) (λd Y=>by cases Y))
 ·have D:(sizeOf t).run C.P w=.ok (γ vs) w:=by rw[Gk]at M;exact M
  simp[ς,hx,h5,Instr.storeAt,Instr.sureAddr,storeVar,D,h4,q]
 ·refine Jk (o:=.bl g m) s N z J ⟨_,Τ,by rw[KJ h,a0.1,Ab i],λj H f E=> ?_⟩ Τ (λe2 a6 X H I=> ?_) Τ Τ
  ·rw[rQ i]at f;rw[KK h,Gk];split at f
   ·rename_i k;rw[aB k,bD,f];rfl
   ·rename_i k;rw[aA k];exact a0.2 j H f E
  ·cases X;obtain⟨j,f⟩:=jN.1 I;rw[rQ i]at f;split at f
   ·exact A H (aI f)
   ·exact s.ho e g cs z H (aI f)
 ·refine Zy s z V (λal I=>.inr ⟨m,Τ,Ab i,λj H f=> ?_⟩) Τ Τ Τ Τ;by_cases k:off<=j/\j<off+γ vs
  ·left;refine I j (wK.2 ⟨_,aH.2 Τ,Τ,k.1,?_⟩);show j<off+n;omega
  ·exact .inr ⟨H,by rw[rQ i,aA k];exact f,λG=>⟨G,Τ⟩⟩
theorem HM{a:Type}{f:a->δ ξ}{sz:Nat}(b:qQ f sz):∀(l:δ a) i y,l[i]? =θ y->∃A B,l.flatMap f=A++(f y++B)/\γ A=i*sz/\∀x,(l.set i x).flatMap f=A++(f x++B)
 |z::l,0,y,h=>by have:z=y:=aA7;subst this;exact⟨[],l.flatMap f,Τ,aA2,λx=>rfl⟩
 |z::l,i+1,y,h=>by obtain⟨A,B,e,d,c⟩:=HM b l i y aA7;exact⟨f z++A,B,by rw[Rw,e,jI],by rw[cE,b.len,d,dB,Ia],λx=>by rw[List.set_cons_succ,Rw,c,jI]⟩
theorem KI{B vs:δ ξ}(h:t+γ vs<=γ E):Ql (A++(E++B)) (γ A+t) vs=A++(Ql E t vs++B):=by unfold Ql;rw[List.take_length_add_append,Dc,List.drop_length_add_append,iE aA0,iG h];simp
theorem ie{b:Type}{f:b->δ ξ}{o:ε Nat}{l:δ b}{k:Nat}(h:Hp w0 S0 L w)(d:L[k]? =θ (bM f t n o (θ ⟨g,0,ι⟩) e l))(c:l≠[]):o=θ g:=by
 obtain⟨j,_⟩:=h.res _ (aI d);rcases j with⟨_,a,_⟩|⟨p,m,i,a,_⟩
 ·exact absurd a c
 ·simp at a;rw[a];exact i
theorem Rz(O:Rel C w0 S0 ρ S F w)(hn:C.nn=md.n){off a0 H:Nat}{τ:Ty}{l l2:δ τ.T}{j:Int}{vs:δ SC}(hb:S.H[e]? =θ (.rw a0 H τ l))(hx:aW md F x=.pointer (θ (ea (ρ e).a (j.toNat*g+off))))(R:(S.ev C y).cells=θ vs)(U:Uj C t=θ n)(hl:γ vs=n)(J:cY n 0=ν)
  (a1:DB g j τ=μ) (N:τ.flat=μ) (hj:0<=j/\j<γ l) (s:yi τ l j off vs=θ l2) (hm:S.Hd [(e,0,1)]=μ):
  Step C md w0 S0 ρ S F w ⟨ι,.store t x y,b,c,a,ι⟩ ⟨S.F,jC S.H e (.rw a0 H τ l2),S.nb,S.al,[(e,0,1)]++S.m⟩:=by
 intro b3 Q a8 hk;obtain⟨L,hH,hM⟩:=O.mem;obtain⟨b8,r,I,K⟩:=hM.2 e _ hb;have K:=K;subst K;have hE:=Ty.wD N;obtain⟨h1,h2⟩:=Tm O hn y;obtain⟨u,h3,h4⟩:=SV.Ka (ρ:=ρ) R;have h5:=h2 u h3;unfold yi at s;split at s
 ·rename_i cs a5;split at s
  ·rename_i z hz;cases s;have a2:j.toNat<γ l:=aA0;obtain⟨A,B,f1,f2,f3⟩:=HM hE l j.toNat _ (RT τ l j hj);obtain⟨h6,h7⟩:=bfy a5;have a4:=(Ty.Au τ 0 0 (dk τ l j) N).2 ρ;have E:=(K7 τ cs z [] hz).2 ρ;rw[iS,gH]at E;have Z:γ (vd τ l j)=τ.sz:=(Y7 (l:=l) (j:=j) N 0).2;have V:Ql (τ.enc (dk τ l j)) off (vs.map (SC.v ρ))=τ.enc z:=by rw[<-E,<-a4,h7];unfold Ql vd;simp
   have q:γ (τ.enc (dk τ l j))=τ.sz:=τ.AZ _ N;have i:off+γ (vs.map (SC.v ρ))<=γ (τ.enc (dk τ l j)):=by rw[q,Gk,<-Z];exact h6
   cases Y:(ρ e).o with
   |none=>
    exfalso;rw[Y]at I;obtain⟨h8,_⟩:=hH.res _ (aI I);rcases h8 with⟨_,D,_⟩|⟨m,d0,D,_⟩
    ·subst D;simp at a2
    ·cases D
   |some m=>
    rw[Y]at I;obtain⟨ha,h8⟩:=hH.DM hE e I;have p:e<γ L:=(aF.1 I).1;have a3:γ (l.flatMap τ.enc)=γ A+(τ.sz+γ B):=by rw[f1];simp[q]
    obtain⟨w',G,D⟩:=h8.E3 (P:=C.P) (k:=e) (vs:=vs.map (SC.v ρ)) (j:=γ A+off) (bF p) (by rw[a3];rw[q]at i;omega) (λv hv=>by
     obtain⟨T,_,rfl⟩:=dW.1 hv;exact SC.one ρ T) (λf=>by
     have:vs=[]:=List.map_eq_nil_iff.1 f;rw[this]at hl;rw[<-hl]at J;cases J)
    rw[YC,f1,KI i,V,<-f3 z,show γ l=γ (l.set j.toNat z) by simp]at D;obtain⟨o',h⟩:=D.Ls (k:=e) (l:=l.set j.toNat z) (bF p);rw[YC]at h;have X:o'=θ m:=by
     rw[ha]at h;refine ie h (bF p) λf=> ?_;have:γ (l.set j.toNat z)=0:=by rw[f];rfl
     rw[gD]at this;omega
    rw[X,<-Y]at h;have W:(sizeOf t).run C.P w=.ok (γ vs) w:=by rw[hl];exact Vk U w
    refine wS (w':=w') Τ Τ ?_ (hk ρ F w' ?_ ?_ (λ_ _=>rfl) (λd hd=>by cases hd))
    ·have M:j.toNat*g+off=γ A+off:=by rw[Lb a1,f2]
     rw[M]at hx;simp[ς,hx,h5,Instr.storeAt,Instr.sureAddr,storeVar,W,h4,G]
    ·exact Jk (o:=.rw a0 H τ _) O hM hb h Τ (by show(l.set j.toNat z).length=γ l;simp) (λ_ _ K=>by cases K) rfl rfl
    ·exact Zy O hb hm (λal hc=>.inl (hc 0 (wK.2 ⟨_,aH.2 Τ,Τ,dK _,Jf⟩))) Τ Τ Τ Τ
  ·cases s
 ·cases s
theorem Sa(H:Rel C w0 S0 ρ S F w)(D:C.nn=md.n){l:aC}{j:Int}{v:SC}{R:ζ}(i:S.H[n]? =θ (.br g l))(hx:aW md F x=.pointer (θ (ea (ρ n).a (j.toNat*e+0))))(T:S.ev C y=.c' v)(A:v.rC=θ R)(f:Uj C t=θ 1)
  (m:DB e j .c'=μ) (J:0<=j/\j<γ l) (E:S.Hd [(n,0,1)]=μ):
  Step C md w0 S0 ρ S F w ⟨ι,.store t x y,b,c,a,ι⟩ ⟨S.F,jC S.H n (.br g (l.set j.toNat R)),S.nb,S.al,[(n,0,1)]++S.m⟩:=by
 intro u Q p I;obtain⟨L,N,q⟩:=H.mem;obtain⟨G,r,B,h⟩:=q.2 n _ i;subst h;obtain⟨O,s⟩:=Tm H D y;have z:aW md F y=bt R:=by rw[T]at s;rw[s _ rfl,zc A ρ]
 have hx:aW md F x=.pointer (θ (ea (ρ n).a (j.toNat*1))):=by rw[hx,Lb m];rfl
 refine tc N n (ρ n).a g (ρ n).cap j l R B J hx z (Vk f w) λw' k=>I ρ F w' ?_ ?_ (λ_ _=>rfl) (λd K=>by cases K)
 ·exact Jk (o:=.br g _) H q i k Τ Τ (λ_ _ h=>by cases h) rfl rfl
 ·exact Zy H i E (λP M=>.inl (M 0 (wK.2 ⟨_,aH.2 Τ,Τ,dK _,Jf⟩))) Τ Τ Τ Τ
theorem KE{ty:ω}{Ο:String}{Ν:Array Edge}(s:Rel C w0 S0 ρ S F w)(q:C.nn=md.n){ro:Ro}(h:iC C (S.ev C) S.H (.store t x y)=θ ro)(B:Jd ro.g)(z:S.Hd ro.m=μ):
  Step C md w0 S0 ρ S F w ⟨ι,.store t x y,ty,Ο,Ν,ι⟩ ⟨S.F,ro.H,S.nb,S.al,ro.m++S.m⟩/\ro.v=.u':=by
 obtain⟨a,E,h⟩:=lI (h);have hx:=(nX s q E).2;unfold Jp at h;split at h
 ·rename_i n M d k;have h:=dF h;have r:=gR h.1;have h:=h.2;split at h
  ·rename_i id off;split at h
   ·rename_i e cs i;rw[gG]at i;split at h
    ·rename_i K u;cases h;exact⟨Sb s q i hx k d r u z,Τ⟩
    ·cases h
   ·cases h
  ·rename_i id j N off;cases o:cY n 0 with
   |true=>rw[o]at h;cases h
   |false=>
    rw[o]at h;split at h
    ·rename_i e b L l i;rw[gG]at i;split at h
     ·rename_i O u;have h:=dF h;have p:=gX h.1;cases h.2;exact⟨Rz s q i hx k d r o p.1 p.2 B.1 u z,Τ⟩
     ·cases h
    ·rename_i m l i;rw[gG]at i;split at h
     ·rename_i v A;split at h
      ·rename_i c D;have h:=dF h;have p:=gX h.1;have G:=gR p.2;cases h.2;subst G;have f:(S.ev C y).cells=θ [v]:=by rw[A];rfl
       rw[k]at f;have J:=aP f;rw[J]at r;have I:=r.symm;rw[I]at d;exact⟨Sa s q i hx A D d p.1 B.1 z,Τ⟩
      ·cases h
     ·cases h
    ·cases h
  ·cases h
 ·cases h
end
end Go.Oe
