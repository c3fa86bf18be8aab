/-
  The law BodiesBack holds (part 2 of 9).
-/
import Derived.Test.YtomjpealmhpciaaGreatDoorYe1
import Derived.Lib.Bytealg
import Derived.Lib.IndexAny
import Derived.Lib.LastIndexByte
import Derived.Lib.IndexMore
import Derived.Lib.SlTrimSet
import Derived.Lib.TrimByte
import Derived.Lib.Strings
import Derived.Lib.ItoaNum
import Derived.Lib.Join
import Derived.Sort.Grow
import Derived.Lib.SplitLaws
import Derived.Lib.Split
open Bool renaming false → η, true → ζ
open Go renaming Addr → χ, IntKind → Α, Oper → ψ, Operand → π, Program → ω, TypeId → φ, Value → θ, World → ν, execOp → ξ
open Go.Utf8 renaming encode → ο
open Go.Value renaming int → υ, pointer → ς, slice → μ
open List renaming length → γ
open Option renaming none → ε, some → δ
set_option linter.constructorNameAsVariable false
set_option linter.unusedVariables false
set_option linter.unusedSimpArgs false
namespace Go.Wk
open Go
open Go.Value renaming ownBlock → Dd
open Int renaming toNat → bF
open List renaming replicate → fH
abbrev PA:=Option Nat×Option χ×Nat
abbrev vBq(g:Nat->PA×PA)(l:List (List (aC×aC)×List UInt8))(i:Int):θ:=μ ((g (bF i)).2.2.1) (γ ((el l i).2)) ((g (bF i)).2.2.2)
abbrev uv(g:Nat->PA×PA)(l:List (List (aC×aC)×List UInt8))(i:Int):θ:=μ ((g (bF i)).1.2.1) (γ ((el l i).1)) ((g (bF i)).1.2.2)
abbrev rJ(g:Nat->PA×PA)(l:List (List (aC×aC)×List UInt8))(i:Int):List θ:=[uv g l i,vBq g l i]
abbrev Bm:Nat->PA×PA:=λ_=>((ε,ε,0),(ε,ε,0))
variable {T G:Type}
def gz(g:Nat->G)(l:List T):List (T×G):=l.mapIdx λi x=>(x,g i)
theorem rX(g:Nat->G)(l:List T):γ (gz g l)=γ l:=by unfold gz;simp
theorem kF(g:Nat->G)(l:List T){i:Int}(h:0<=i/\i<(γ l:Int)):0<=i/\i<(γ (gz g l):Int):=by rw [rX];exact h
theorem Kc[Inhabited T][Inhabited G](g:Nat->G)(l:List T)(i:Int)(h:0<=i/\i<(γ l:Int)):el (gz g l) i=(el l i,g i.toNat):=by have:i.toNat<γ l:=aA0;simp [el,gz,this]
def He(g:Nat->T)(i:Nat)(x:T):Nat->T:=λk=>if k=i then x else g k
theorem Hd(g:Nat->G)(l:List T)(j:Nat):(gz g l)[j]? =l[j]?.map λx=>(x,g j):=by unfold gz;simp
theorem KE(g:Nat->G)(l:List T)(i:Nat)(p:T)(x:G):(gz g l).set i (p,x)=gz (He g i x) (l.set i p):=by
 apply bV;intro j;rw [Hd,eH,eH,Hd,rX];by_cases h:i=j
 ·subst h;by_cases a:i<γ l<;>simp [a,He]
 ·simp [h,He,show¬j=i by omega]
theorem QE(g:Nat->G)(l:List T)(p:T)(x:G):gz g l++[(p,x)]=gz (He g (γ l) x) (l++[p]):=by
 apply bV;intro j;rw [Hd];by_cases h:j<γ l
 ·rw [aI (by rw [rX];exact h),aI h,Hd];simp [h,He,show¬j=γ l by omega]
 ·rw [aN (by rw [rX];omega),aN aA0,rX];by_cases a:j=γ l
  ·subst a;simp [He]
  ·rw [bM aA4,bM aA4];rfl
theorem N6(n:Nat)(z:T)(x:G):fH n (z,x)=gz (λ_=>x) (fH n z):=by apply bV;intro j;rw [Hd,rG,rG];by_cases h:j<n<;>simp [h]
variable {w:ν}{a:Option χ}
theorem Rd.of{c b:List θ}(h:Rd w a c)(e:c=b):Rd w a b:=e▸h
def oM(f:T->List θ)(o:Option Nat)(a:Option χ)(cap:Nat)(l:List T):cB:=
 ⟨o,λob=>(o=ε/\l=[]/\cap=0/\a=ε)\/∃g b e d,o=δ g/\a=δ ⟨g,0,ε⟩/\ob=δ (.cells b e d)/\γ l<=cap/\b.toList.take (γ (l.flatMap f))=l.flatMap f⟩
variable {f:T->List θ}{o:Option Nat}{e:Nat}{l:List T}
theorem Zp(h:(oM f o a e l).holds w):Rd w a (l.flatMap f)/\γ l<=e/\(a=ε->e=0):=by
 rcases h with⟨_,rfl,rfl,rfl⟩|⟨g,d,m,n,p,rfl,c,q,k⟩
 ·exact⟨Rd.nil _ _,cO _,λ_=>rfl⟩
 ·refine⟨λj v i=>⟨_,rfl, ?_⟩,q,λh=>nomatch h⟩
  have c:w.heap[g]? =δ (.cells d m n):=by
   have s:((δ g).bind λb=>w.heap[b]?)=δ (.cells d m n):=by rw [<-p];exact c
   exact s
  rw [LY];have r:d.toList[j]? =δ v:=by
   rw [<-k]at i;have t:=(aD.1 i).1;rw [bO]at i;split at i
   ·exact i
   ·cases i
  simp only [World.cell?,c];simpa using r
variable {b:ν}{S:List Nat}{L:List cB}
theorem Hp.pn(h:Hp w S L b)(k:Nat)(c:L[k]? =δ (oM f o a e l)):Rd b a (l.flatMap f):=(Zp (h.res _ (aG c)).1).1
theorem Hp.T8(h:Hp w S L b)(k:Nat)(c:L[k]? =δ (oM f o a e l)):γ l<=e:=(Zp (h.res _ (aG c)).1).2.1
variable {d:Nat}
theorem Hp.Lo{f:T×G->List θ}{cap:Nat}{g:Nat->G}(h:Hp w S L b)(k:Nat)(i:L[k]? =δ (bA f e d o a cap (gz g l))):γ l<=cap:=by
 have:=h.sK k i
 rwa [rX]at this
theorem Hp.zrw{cap:Nat}(h:Hp w S L b)(k:Nat)(n:L[k]? =δ (bA f e d o a cap l)):a=ε->cap=0:=by
 intro i;rcases(h.res _ (aG n)).1 with⟨_,_,j,_⟩|⟨g,m,_,c,_⟩
 ·exact j
 ·rw [i]at c;cases c
theorem Hp.weak(h:Hp w S L b)(k:Nat)(r r':cB)(c:L[k]? =δ r)(a:r'.own=r.own)(e:r.holds b->r'.holds b):Hp w S (L.set k r') b:=by obtain⟨g,f⟩:=h.res r (aG c);exact h.change k r r' c rfl rfl rfl (eK _) (λ_ _ _=>rfl) (e g) λi d=>⟨.inl (by rw [<-a];exact d),(f i (by rw [<-a];exact d)).1⟩
theorem Hp.Gs{cap:Nat}(h:Hp w S L b)(t:oY f d)(k:Nat)(p:L[k]? =δ (bA f e d o a cap l)):Hp w S (L.set k (oM f o a cap l)) b:=by
 refine h.weak k _ _ p rfl λm=> ?_;rcases m with⟨rfl,rfl,rfl,rfl⟩|⟨g,i,n,s,c,j,r,q,u⟩
 ·exact .inl ⟨rfl,rfl,rfl,rfl⟩
 ·exact .inr ⟨g,i,e,(0,0),n,s,c,j,by rw [t.flat];exact u⟩
variable {c:List UInt8}
theorem Hp.sh(h:Hp w S L b)(k:Nat)(o:L[k]? =δ (iY (.slice a e d) e c)):Hp w S (L.set k (oM eB (μ a e d).ownBlock a d c)) b:=by refine h.weak k _ _ o rfl λj=> ?_;obtain⟨m,g,f,l,t,p,i,n,r,q,s⟩:=j;cases i;refine .inr ⟨g,l,t,p,rfl,rfl,n,aA0, ?_⟩;rw [mO,Rf,m];exact s.1
theorem Hp.sW(h:Hp w S L b)(f:T->List θ):Hp w S (oM f ε ε 0 []::L) b:=by
 refine⟨h.os,h.tape,h.output,h.size,h.below,λr a=> ?_, ?_⟩
 ·rcases aP.1 a with rfl|a
  ·exact⟨.inl ⟨rfl,rfl,rfl,rfl⟩,λd c=>by simp [oM]at c⟩
  ·exact h.res r a
 ·refine List.Pairwise.cons (λr _ d c=>by simp [oM]at c) h.sep
theorem Hp.HE(h:Hp w S L b)(k:Nat)(l:L[k]? =δ (iY (.slice a e d) e c)):e<=d:=by obtain⟨_,g,m,i,p,j,n,_,f,_⟩:=(h.res _ (aG l)).1;cases n;exact f
theorem Hp.zbr(h:Hp w S L b)(k:Nat)(l:L[k]? =δ (iY (.slice a e d) e c)):a=ε->d=0:=by intro f;obtain⟨_,g,n,i,p,j,m,_⟩:=(h.res _ (aG l)).1;rw [f]at m;cases m
def gI(inn:T×G->List cB)(g:Nat->G)(l:List T):List cB:=(gz g l).flatMap inn
theorem O8[Inhabited T][Inhabited G](inn:T×G->List cB)(g:Nat->G)(l:List T)(i:Int)(h:0<=i/\i<(γ l:Int)):∀r∈inn (el l i,g i.toNat),r∈gI inn g l:=by intro r a;refine mJ.2 ⟨_, ?_,a⟩;have b:i.toNat<γ l:=aA0;refine aG (i:=i.toNat) ?_;rw [Hd];simp [el,b]
theorem jg(inn:T×G->List cB)(g:Nat->G)(l:List T)(p:T)(x:G):gI inn (He g (γ l) x) (l++[p])=gI inn g l++inn (p,x):=by unfold gI;rw [<-QE];simp
theorem Hp.yx{L:List cB}{inn:T×G->List cB}{g:Nat->G}{l:List T}(p:T)(x:G)(Z:List cB)(h:Hp w S (inn (p,x)++(L++(gI inn g l++Z))) b):Hp w S (L++(gI inn (He g (γ l) x) (l++[p])++Z)) b:=by refine h.perm ?_;rw [jg];refine(XQ).trans ?_;rw [gH,gH];refine gE L ?_;rw [gH];exact gE _ XQ
theorem Hp.gi1{inn:T×G->List cB}(p:T)(x:G)(L Z:List cB)(h:Hp w S (inn (p,x)++(L++Z)) b):Hp w S (L++(gI inn (λ_=>x) [p]++Z)) b:=by refine h.perm ?_;rw [show gI inn (λ_=>x) [p]=inn (p,x)++[]from rfl,fI,<-gH,<-gH];exact MI _ XQ
theorem O7(inn:T×G->List cB)(g:Nat->G)(l:List T)(i:Nat)(h:i<γ l)(p:T)(x:G):gI inn g l=((gz g l).take i).flatMap inn++(inn (l[i],g i)++((gz g l).drop (i+1)).flatMap inn)/\gI inn (He g i x) (l.set i p)=((gz g l).take i).flatMap inn++(inn (p,x)++((gz g l).drop (i+1)).flatMap inn):=by
 have a:i<γ (gz g l):=by rw [rX];exact h
 have e:(gz g l)[i]=(l[i],g i):=by have:=Hd g l i;rw [aO a,aO h]at this;exact aJ this
 constructor
 ·unfold gI
  conv=>lhs;rw [<-IL i (gz g l),zbF a]
  rw [IK,rZ,e]
 ·unfold gI;rw [<-KE,zbK,aB a,IK,rZ]
theorem Hp.qq{L:List cB}{inn:T×G->List cB}{g:Nat->G}{l:List T}(p:T)(x:G)(Z:List cB)(i:Int)(d:0<=i/\i<(γ l:Int))(h:Hp w S (inn (p,x)++(L++(gI inn g l++Z))) b):Hp w S (L++(gI inn (He g i.toNat x) (l.set i.toNat p)++Z)) b:=by
 obtain⟨c,j⟩:=O7 inn g l i.toNat aA0 p x;rw [c]at h;rw [j];have a:Hp w S (inn (p,x)++(L++((((gz g l).take i.toNat).flatMap inn++((gz g l).drop (i.toNat+1)).flatMap inn)++Z))) b:=by refine h.sub (cW (cW (List.Sublist.append_right (cW (mT _ _) _) _) _) _)
 refine a.perm ?_;refine(XQ).trans ?_;rw [gH];refine gE L ?_;rw [gH,gH,gH,gH];refine gE _ ?_;rw [<-gH];exact XQ
theorem Hp.qs{L:List cB}{inn:T×G->List cB}(z:T)(x:G)(n:Nat)(Z:List cB)(g:∀r∈inn (z,x),r.own=ε/\r.ok ε)(h:Hp w S (L++Z) b):Hp w S (L++(gI inn (λ_=>x) (fH n z)++Z)) b:=by
 have key:∀r∈gI inn (λ_=>x) (fH n z),r.own=ε/\r.ok ε:=by intro r a;obtain⟨q,e,a⟩:=mJ.1 a;rw [<-N6]at e;rw [List.eq_of_mem_replicate e]at a;exact g r a
 have i:Hp w S (gI inn (λ_=>x) (fH n z)++(L++Z)) b:=by
  refine⟨h.os,h.tape,h.output,h.size,h.below,λr a=> ?_, ?_⟩
  ·rcases aR.1 a with a|a
   ·obtain⟨d,f⟩:=key r a;exact⟨by unfold cB.holds;rw [d];exact f,λj c=>by rw [d]at c;cases c⟩
   ·exact h.res r a
  ·refine dH.2 ⟨?_,h.sep,λr a r' _ j c=>by rw [(key r a).1]at c;cases c⟩;exact List.Pairwise.imp_of_mem (R:=λ_ _=>True) (λa _ _ j c=>by rw [(key _ a).1]at c;cases c) (List.pairwise_of_forall aA2)
 refine i.perm ?_;refine(XQ).trans ?_;rw [gH];exact gE L XQ
theorem Hp.mD{L1:List cB}(h:Hp w S L b)(n m:Nat)(a:n<=m)(g:L.take n++L.drop m=L1:=by kernel_rfl):Hp w S L1 b:=by
 refine h.sub ?_;rw [<-g];have e:L=L.take n++L.drop n:=(IL n L).symm
 conv=>rhs;rw [e]
 exact cW (List.drop_sublist_drop_left L a) _
theorem Hp.Hl(L1 T a:List cB)(h:Hp w S (L1++T) b)(p:a.Sublist T):Hp w S (L1++a) b:=h.sub (cW p L1)
theorem Hp.tlOut{A Z:List cB}(h:Hp w S (A++Z) b)(r:cB)(a:r∈Z):Hp w S (r::A) b:=by
 obtain⟨s,t,rfl⟩:=List.append_of_mem a;have g:Hp w S (r::(A++(s++t))) b:=by refine h.perm ?_;rw [<-gH,<-gH];exact List.perm_middle
 exact g.sub (.cons_cons r (List.sublist_append_left _ _))
theorem Hp.V1(A B C D:List cB)(h:Hp w S ((A++(B++[]))++(C++D)) b):Hp w S (A++(C++(B++D))) b:=by refine h.perm ?_;rw [fI,gH];refine gE A ?_;rw [<-gH,<-gH];exact MI D XQ
section
variable {P:ω}{n:Md}{ops:Array ψ}{Q:Exit->Act->ν->Prop}{F:Nat->θ}{w w0:ν}{S:List Nat}{L:List cB}
variable {d:Nat}{ty:φ}{pos:String}{after:Array Edge}{rest:List ψ}
variable {T G:Type}{f:T×G->List θ}
variable {x y:π}{t:φ}
theorem MT(u:Hp w0 S L w)(e sz b:Nat)(kl l:Α)(c:Int)(z:T)(g:G)(q:P.underlying t=δ (.slice e))(s:TI P e sz b)(k:0<b)(j:0<sz)
  (m:((P.info? e).bind (·.zero)).map (·.cells)=δ (f (z,g)).toArray) (hx:aZ n F x=.int kl c) (p:aZ n F y=.int l c)
  (r:0<=c/\(b:Int)*c<=281474976710656)
  (h:∀o a cap w',Hp w0 S (bA f e sz o a cap (gz (λ_=>g) (fH c.toNat z))::L) w'->W P n ops Q rest (dV F d (.slice a (γ (fH c.toNat z)) cap)) w'):
  W P n ops Q (⟨δ d,.makeSlice t x y,ty,pos,after,ε⟩::rest) F w:=by
 refine MS (f:=f) u e sz b kl l c (z,g) q s k j m hx p r λo a cap w' i=> ?_;rw [N6]at i;have:=h o a cap w' i;simpa using this
theorem RX(B:Hp w0 S L w)(k:Nat)(o:Option Nat)(a m:Option χ)(cap cx e sz b:Nat)(g:Nat->G)(l:List T)(p:T)(q:G)(C:oY f sz)(u:L[k]? =δ (bA f e sz o a cap (gz g l)))(s:P.underlying t=δ (.slice e))(z:TI P e sz b)(i:0<sz)(j:0<b)
  (hx:aZ n F x=.slice a (γ l) cap) (r:aZ n F y=.slice m 1 cx) (A:Rd w m (f (p,q))) (v:(γ l+1)*b<=140737488355328)
  (h:∀o' a' cap' w',Hp w0 S (L.set k (bA f e sz o' a' cap' (gz (He g (γ l) q) (l++[p])))) w'->W P n ops Q rest (dV F d (.slice a' (γ (l++[p])) cap')) w'):
  W P n ops Q (⟨δ d,.call ⟨.builtin .append, #[x,y], #[t,t]⟩,ty,pos,after,ε⟩::rest) F w:=by
 refine RH B k o a m cap cx e sz b (gz g l) [(p,q)] C u s z i j (by rw [rX];exact hx) r (by simpa using A) (by rw [rX];exact v) λo' a' cap' w' c=> ?_;rw [QE]at c⊢;rw [rX];exact h o' a' cap' w' c
theorem Jf(r:Hp w0 S L w)(k b m e:Nat)(cs:List θ)(l:List UInt8)(p:L[k]? =δ (aS b cs e))(f:l.map bt=cs)(u:γ l=m)(z:P.underlying t=δ (.slice e))(B:P.underlying e=δ (.int .u8))(hx:aZ n F x=.slice (δ ⟨b,0,ε⟩) m m)
  (h:∀w',Hp w0 S (L.set k (iY (.slice (δ ⟨b,0,ε⟩) m m) m l)) w'->W P n ops Q rest (dV F d (.slice (δ ⟨b,0,ε⟩) m m)) w'):W P n ops Q (⟨δ d,.convert t t x,ty,pos,after,ε⟩::rest) F w:=by
 have y:=r.dG k p;have o:=((r.res _ (aG p)).2 b rfl).1;have a:cs.toArray.size=m:=by rw [<-f,<-u];simp
 have g:w.shape? b=δ (e,m):=by unfold World.shape?;rw [y];simp only [a]
 have A:(w.freeze ⟨b,m,ε⟩ 1).heap[b]? =δ (.cells cs.toArray e (m,m+1)):=by unfold World.freeze;rw [aA aA1];simp [gG,y]
 refine gN (w':=w.freeze ⟨b,m,ε⟩ 1) rfl rfl ?_ (h _ ?_)
 ·simp [ξ,hx,convert,run_underlying z,run_underlying B,markStringish,g]
 ·have s:w.freeze ⟨b,m,ε⟩ 1={w with heap:=(w.freeze ⟨b,m,ε⟩ 1).heap}:=by unfold World.freeze;rw [aA aA1]
  refine r.change k _ _ p (by rw [s]) (by rw [s]) (by rw [s]) (by unfold World.freeze;rw [aA aA1];simp) (λj C i=> ?_) ?_ (λc v=> ?_)
  ·unfold World.freeze;rw [aA aA1];have q:¬b=j:=λh=>i (by rw [<-h];rfl);simp [gG,q]
  ·refine⟨u,b,m,cs.toArray,e,(m,m+1),rfl, ?_,eK _,aA0, ?_,aA0⟩
   ·exact A
   ·rw [f,<-a];simp
  ·simp [iY,Dd]at v;subst v;exact⟨.inl rfl,by unfold World.freeze;rw [aA aA1];simpa using o⟩
theorem IW{M:Type}{f:M->List θ}(g:Hp w0 S L w)(b:Nat)(K:Option χ)(m cx e sz k:Nat)(l c:List M)(s:oY f sz)(J:Rd w (δ ⟨b,0,ε⟩) (l.flatMap f))(hm:γ l=m)(X:P.underlying t=δ (.slice e))(hT:TI P e sz k)(C:0<sz)(H:0<k)
  (hx:aZ n F x=.slice (δ ⟨b,0,ε⟩) m m) (U:aZ n F y=.slice K (γ c) cx) (O:Rd w K (c.flatMap f)) (u:0<γ c/\(γ l+γ c)*k<=140737488355328)
  (h:∀o a cap w',Hp w0 S (bA f e sz o a cap (l++c)::L) w'->W P n ops Q rest (dV F d (.slice a (γ (l++c)) cap)) w'):
  W P n ops Q (⟨δ d,.call ⟨.builtin .append, #[x,y], #[t,t]⟩,ty,pos,after,ε⟩::rest) F w:=by
 obtain⟨h2,u⟩:=u;subst hm;obtain⟨i,z,hi,T,Y,I,B⟩:=hT.parts;subst Y;subst I;have N:γ l+γ c<=140737488355328:=lE (Nat.le_mul_of_pos_right _ H) u;have r:=s.flat c;cases K with
 |none=>
  have:0<γ (c.flatMap f):=by rw [r];exact Ww h2 C
  obtain⟨p,D,_⟩:=O 0 ((c.flatMap f)[0]) (by simp [this]);cases D
 |some p=>
  have rd:∀{q:χ} {A:List θ},Rd w (δ q) A->∀j v,A[j]? =δ v->w.cell? (q.add j)=δ v:=by intro q A Z j v V;obtain⟨p,D,hc⟩:=Z j v V;cases D;exact hc
  have key:=run_append_grow (P:=P) w t ty e i z X hi T ⟨b,0,ε⟩ (γ l) (γ l) (l.flatMap f) (s.flat l) (rd J) p (γ c) cx (c.flatMap f) r (rd O) aA0 aA0 (growslice_fits aA0 u);have G:=grownCap_ge w (γ l+γ c) (γ l) e;have E:=grownCap_le_maxLen w (γ l+γ c) (γ l) e aE6;have hd:Hp w0 S L w.drew:=⟨g.os,g.tape,g.output,g.size,g.below,g.res,g.sep⟩
  have hA:=hd.AO (.cells ((l.flatMap f).toArray++(c.flatMap f).toArray++Builtin.zeroCells z.cells (grownCap w (γ l+γ c) (γ l) e-(γ l+γ c))) e) (bA f e i.size (δ w.drew.heap.size) (δ ⟨w.drew.heap.size,0,ε⟩) (grownCap w (γ l+γ c) (γ l) e) (l++c)) rfl (.inr ⟨w.drew.heap.size,_,rfl,rfl,rfl,by simpa using G,E,(by
   simp only [Array.size_append,List.size_toArray,Builtin.zeroCells,Array.size_map,Array.size_range,s.flat,B,<-fN];congr 1;omega),(by
   simp only [Array.toList_append,bP,IK];rw [Cv (by simp [s.flat,fN]),jL (by simp [s.flat,fN])])⟩)
  have R:=h _ _ _ _ hA;rw [bP]at R;refine gN rfl rfl ?_ R;simp [ξ,resolve,invoke,builtin,hx,U,key]
end
section
variable {P:ω}{n:Md}{ops:Array ψ}{Q:Exit->Act->ν->Prop}{F:Nat->θ}{w:ν}
variable {d:Nat}{ty:φ}{pos:String}{after:Array Edge}{rest:List ψ}{k:Nat}{D:List Deferred}{ro:Option Nat}
theorem au{b:π}{gK:Array π}{a:Array φ}(f:FuncId)(cap:Array θ)(vs:List θ)(i:Enters P f)
  (c:aZ n F b=.func (.func f) #[] cap) (g: #[]++gK.map (aZ n F)++cap=vs.toArray) (e:CR P f vs w λv w'=>W P n ops Q rest (dV F d v) w'):
  W P n ops Q (⟨δ d,.call ⟨.value b,gK,a⟩,ty,pos,after,ε⟩::rest) F w:=
 pA f cap vs _ i c g e λ_ _ h=>h
end
end Go.Wk
namespace Go.Px
open Go.Wk
def bY(c:UInt8):Bool:=c==32||c==9
def eO(c:UInt8):Bool:=(decide (c<32)&&c !=9)||c==127
def uT(c:UInt8):Bool:=(decide (97<=c)&&decide (c<=122))||(decide (65<=c)&&decide (c<=90))
def hK(c:UInt8):Bool:=decide (48<=c)&&decide (c<=57)
def cA(c:UInt8):Bool:=uT c||hK c||c==45||c==46||c==33||c==37||c==42||c==95||c==43||c==39||c==126||c==96
def gB(c:UInt8):UInt8:=if 65<=c/\c<=90 then c+32 else c
def HI(c:UInt8):UInt8:=if 97<=c/\c<=122 then c-32 else c
def dN(p:UInt8->Bool):List UInt8->Nat
 |[]=>0
 |c::l=>if p c then dN p l+1 else 0
def AM(i:Int)(n:Nat):Nat:=(min (max i 0) (n:Int)).toNat
def cC(p:UInt8->Bool)(s:List UInt8)(i:Int):Nat:=AM i (γ s)+dN p (s.drop (AM i (γ s)))
theorem ID(p:UInt8->Bool):∀l,dN p l<=γ l
 |[]=>rE _
 |c::l=>by simp only [dN];have:=ID p l;split<;>simp<;>omega
theorem Wa(i:Int)(n:Nat):AM i n<=n:=aD5
theorem rU(p:UInt8->Bool)(s:List UInt8)(i:Int):cC p s i<=γ s:=by unfold cC;have a:=ID p (s.drop (AM i (γ s)));have b:=Wa i (γ s);simp at a;omega
theorem ta(k n:Nat)(h:k<=n):AM (k:Int) n=k:=aD5
theorem drop_at(s:List UInt8)(k:Nat)(h:k<γ s):s.drop k=at_ s k::s.drop (k+1):=by rw [Sy h];simp [at_,h]
theorem Tn(p:UInt8->Bool)(s:List UInt8):cC p s (γ s:Int)=γ s:=by unfold cC;rw [ta _ _ (rE _)];simp [dN]
theorem dS(p:UInt8->Prop)(h:∀i:Fin 256,p (UInt8.ofFin i)):∀c,p c:=λc=>h c.toFin
set_option maxRecDepth 10000
theorem qC(c:UInt8):hK c=ζ↔48<=(c.toNat:Int)/\(c.toNat:Int)<=57:=by revert c;exact dS _ aA1
def y5(c:UInt8):Bool:=decide (32<=c)&&decide (c<=126)
def eP(s:List UInt8):Bool:= !s.isEmpty&&s.all cA
theorem sH(p:UInt8->Bool):∀l,dN p l=γ l↔l.all p=ζ
 |[]=>by simp [dN]
 |c::l=>by
  have b:=sH p l;have d:=ID p l;simp only [dN,dM,List.all_cons,yP];split
  ·rename_i a;simp [a,b]
  ·rename_i a;simp [a]
theorem bk(s:List UInt8):(s≠[]/\(cC cA s 0:Int)=(γ s:Int))↔eP s=ζ:=by
 have h:=sH cA s;have e:cC cA s 0=dN cA s:=by have c:AM 0 (γ s)=0:=aD5;unfold cC;rw [c];simp
 rw [e];unfold eP;simp only [yP,dT,Sx,<-h];constructor
 ·rintro⟨a,b⟩;exact⟨a,aA0⟩
 ·rintro⟨a,b⟩;exact⟨a,aA0⟩
def wN(s:List UInt8):Nat:=s.foldl (λn c=>10*n+(c.toNat-48)) 0
theorem bcr(s:List UInt8)(c:UInt8):wN (s++[c])=10*wN s+(c.toNat-48):=by simp [wN,List.foldl_append]
theorem SL(s:List UInt8)(k:Nat)(h:k<γ s):s.take (k+1)=s.take k++[at_ s k]:=by rw [List.take_succ_eq_append_getElem h];simp [at_,h]
theorem Ft:∀(n:Nat) (s:List UInt8),γ s<=n->s.all hK=ζ->wN s<10^n:=by
 intro n;induction n with
 |zero=>intro s b _;have:s=[]:=List.eq_nil_of_length_eq_zero aA0;subst this;decide
 |succ n d=>
  intro s b a;rcases wQ s with rfl|⟨l,c,rfl⟩
  ·simp [wN];exact Nat.pow_pos aA0
  ·simp only [wS]at*;rw [bcr];rw [pE]at a;simp only [yP,List.all_cons,List.all_nil,Bool.and_true]at a;have f:=d l aE4 a.1;have e:=(qC c).1 a.2;rw [Nat.pow_succ];omega
def dR(s:List UInt8):List UInt8:=s.map gB
def jI(s:List UInt8):List UInt8:=s.map HI
def oS(c:UInt8):List UInt8:=if c=34\/c=92 then [92,c]else [c]
def dP(p:UInt8->Bool):List UInt8->Int
 |[]=> -1
 |b::l=>if p b then 0 else if dP p l= -1 then-1 else dP p l+1
theorem tB(p:UInt8->Bool):∀l,-1<=dP p l
 |[]=>by simp [dP]
 |b::l=>by have:=tB p l;unfold dP;split;(·omega);(·split<;>omega)
theorem EV(p:UInt8->Bool):∀l,dP p l=if dN (λc=> !p c) l=γ l then(-1:Int)else(dN (λc=> !p c) l:Int)
 |[]=>by simp [dP,dN]
 |b::l=>by
  have a:=EV p l;have d:=ID (λc=> !p c) l;unfold dP dN;cases e:p b
  ·simp only [Bool.not_false,iL,Bool.false_eq_true,oZ,dM];rw [a];by_cases h:dN (λc=> !p c) l=γ l
   ·rw [aB h,aB rfl,aB aA0]
   ·rw [aA h,aA aA0,aA aA0];omega
  ·simp
theorem lx(p:UInt8->Bool)(l:List UInt8):(dP p l= -1/\dN (λc=> !p c) l=γ l)\/(0<=dP p l/\dP p l<(γ l:Int)/\dP p l=(dN (λc=> !p c) l:Int)):=by
 have:=ID (λc=> !p c) l;rw [EV];split
 ·exact .inl ⟨rfl,by assumption⟩
 ·exact .inr ⟨aA0,aA0,rfl⟩
theorem wE(c:UInt8):∀l,Lib.indexByte l c=dP (·==c) l
 |[]=>rfl
 |b::l=>by unfold Lib.indexByte dP;rw [wE c l];simp
theorem att(cs:List UInt8):∀l,Lib.indexAny l cs=dP (cs.contains ·) l
 |[]=>rfl
 |b::l=>by unfold Lib.indexAny dP;rw [att cs l];simp
def kC(p:UInt8->Bool):List UInt8->Int
 |[]=> -1
 |b::l=>if kC p l= -1 then(if p b then 0 else-1)else kC p l+1
theorem Ek(p:UInt8->Bool):∀l:List UInt8,(kC p l= -1/\l.any p=η)\/(0<=kC p l/\kC p l<(γ l:Int))
 |[]=>.inl ⟨rfl,rfl⟩
 |b::l=>by
  have c:=Ek p l;unfold kC;by_cases h:kC p l= -1
  ·rw [aB h];have e:l.any p=η:=by rcases c with a|a;exact a.2;omega
   cases d:p b
   ·left;simp [d,e]
   ·right;simp
  ·rw [aA h];right;rcases c with a|a
   ·exact absurd a.1 h
   ·simp only [dM];omega
theorem El(p:UInt8->Bool)(b:UInt8):∀l:List UInt8,kC p (l++[b])=if p b then(γ l:Int)else kC p l
 |[]=>by simp [kC]
 |a::l=>by
  rw [HT,kC,El p b l];cases c:p b
  ·simp [kC]
  ·simp
theorem Ar(s:List UInt8)(c:UInt8):∀k:Nat,k<=γ s->Lib.lastIdx ⟨s.toArray⟩ (c.toNat:Int) k=kC (·==c) (s.take k)
 |0,_=>by simp [Lib.lastIdx,kC]
 |k+1,h=>by
  rw [SL s k aA0,El,Lib.lastIdx,Ar s c k aA0];have e:(⟨s.toArray⟩:ByteArray).data[k]! =at_ s k:=by simp [at_,show k<γ s by omega]
  rw [e];by_cases a:at_ s k=c
  ·rw [aB (by rw [a]),aB (by simp [a])];simp;omega
  ·rw [aA (λh=>a (pB.1 aA0)),aA aB9]
theorem xJ(s:List UInt8)(c:UInt8):Lib.lastIndexByte ⟨s.toArray⟩ (c.toNat:Int)=kC (·==c) s:=by unfold Lib.lastIndexByte;have:=Ar s c (γ s) (rE _);rw [iS]at this;exact this
theorem Bu(s t:List UInt8):γ (Lib.cut s t).1<=γ s/\γ (Lib.cut s t).2.1<=γ s:=by unfold Lib.cut;split<;>simp<;>omega
theorem Kv(s t:List UInt8):γ (Lib.trimPrefix s t)<=γ s:=by unfold Lib.trimPrefix;split<;>simp
theorem auq(p:UInt8->Bool)(l:List UInt8):γ (l.dropWhile p)<=γ l:=(wR p).length_le
theorem vY(s t:List UInt8):γ (Lib.trimLeftS s t)<=γ s:=auq _ _
theorem sF(s t:List UInt8):γ (Lib.trimRightS s t)<=γ s:=by unfold Lib.trimRightS;have:=auq (t.contains ·) s.reverse;simpa using this
theorem SH(s t:List UInt8):γ (Lib.trimS s t)<=γ s:=Ja (vY _ _) (sF _ _)
theorem LL(l:List UInt8)(i j:Int):γ (sub l i j)=min (j.toNat-i.toNat) (γ l-i.toNat):=by simp [sub]
theorem sub_le(s:List UInt8)(i j:Int):γ (sub s i j)<=γ s:=aD0
theorem iu{w:ν}(k:Nat)(a:Array Obj):Hp w [] [] (Sort.grow (w.drewN k) a):=Hp.Af ⟨rfl,rfl,rfl,by simp [Sort.grow,World.drewN],λk b=>by have:k<w.heap.size:=b;show(w.heap++a)[k]? =w.heap[k]?;rw [Array.getElem?_append_left this]⟩
abbrev Pce:=Int×List UInt8
abbrev Prm:=List UInt8×List UInt8×Bool
section
variable (s : List UInt8) (sep : UInt8) (f k b : Nat) (acc : List Pce)
end
open Go.Wk
def uy:List UInt8:=[45,95,46,33,126,42,39,40,41]
def LC(k:Int):List UInt8:=if k=0 then [38,61,43,36,44,59,63,47]else if k=1 then [91,93,47,58,38,43,36]else if k=2 then [91,93,47,63,58,43,36]else []
def jR(l:List UInt8)(c:UInt8):Bool:=l.any (·==c)
def Od(c:UInt8)(k:Int):Bool:=uT c||hK c||jR uy c||jR (LC k) c
theorem ia(l:List UInt8)(c:UInt8):(0<=dP (·==c) l)↔jR l c=ζ:=by
 induction l with
 |nil=>simp [dP,jR]
 |cons b l d=>
  have h:=tB (·==c) l;unfold dP jR;rw [List.any_cons];by_cases a:(b==c)=ζ
  ·simp [a]
  ·rw [aA a];simp only [a,dX];unfold jR at d;rw [<-d];split<;>omega
theorem EX(l:List UInt8)(c:UInt8):decide (0<=dP (·==c) l)=jR l c:=by rw [Bool.eq_iff_iff,bD,ia]
def kL(c:UInt8):Bool:=hK c||decide (97<=(c.toNat:Int)/\(c.toNat:Int)<=102)||decide (65<=(c.toNat:Int)/\(c.toNat:Int)<=70)
section
variable (s : List UInt8) (f k : Nat) (acc : List UInt8)
end
def qG(n:Int):UInt8:=at_ [48,49,50,51,52,53,54,55,56,57,65,66,67,68,69,70] n
def escC(k:Int)(c:UInt8):List UInt8:=if Od c k then [c]else [37,qG ((c.toNat:Int)/16),qG ((c.toNat:Int)%16)]
def iC(s:List UInt8)(k:Int):List UInt8:=s.flatMap (escC k)
abbrev JV(s:List UInt8):List UInt8:=s.map gB
def xQ(l:List Prm)(name:List UInt8):List UInt8×Bool:=match l.find? (λp=>JV p.1==JV name)with|some p=>(p.2.1,ζ)|none=>([],η)
variable {a:Type}
theorem Oz[Inhabited a](l:List a)(k:Nat)(h:k<γ l):el l (k:Int)=l[k]:=by simp [el,h]
theorem Ky[Inhabited a](l:List a)(k:Nat)(h:k<γ l):l.take (k+1)=l.take k++[el l (k:Int)]:=by rw [List.take_succ_eq_append_getElem h,Oz l k h]
end Go.Px
def _root_.Go.Wk.bN{σ ρ:Type}(f:(σ->Option ρ)->σ->Option ρ):Nat->σ->Option ρ
 |0,_=>ε
 |n+1,v=>f (Go.Wk.bN f n) v
namespace Go.Px
open Go.Wk
def cR(c:UInt8):List UInt8->List (List UInt8)
 |[]=>[[]]
 |b::l=>if b=c then []::cR c l else match cR c l with|x::r=>(b::x)::r|[]=>[[b]]
theorem A6(c:UInt8):∀l,cR c l≠[]
 |[]=>by simp [cR]
 |b::l=>by unfold cR;split;simp;split<;>simp
theorem wZ(c:UInt8):∀(s:List UInt8) (k:Nat),s.count c<=k->Lib.splitK [c] 0 k s=cR c s
 |[],k,_=>by cases k<;>simp [Lib.splitK,Lib.index,cR]
 |b::l,k,h=>by
  by_cases a:b=c
  ·subst a;obtain⟨k,rfl⟩:∃j,k=j+1:=⟨k-1,by simp at h;omega⟩;have d:=wZ b l k (by simp at h;omega);simp [Lib.splitK,Lib.index,cR,d]
  ·have g:(b::l).count c=l.count c:=by simp [List.count_cons,a]
   rw [g]at h;have d:=wZ c l k h;unfold cR;rw [aA a,<-d];cases k with
   |zero=>simp [Lib.splitK]
   |succ k=>
    have f:Lib.index (b::l) [c]=if Lib.index l [c]== -1 then-1 else Lib.index l [c]+1:=by
     conv=>lhs;unfold Lib.index
     rw [aA (by simp;exact λh=>a h.symm)]
    have n:=Lib.index_ge l [c];unfold Lib.splitK;rw [f];by_cases e:Lib.index l [c]= -1
    ·simp [e]
    ·have m:¬(Lib.index l [c]+1)= -1:=by omega
     have i:(Lib.index l [c]+1).toNat=(Lib.index l [c]).toNat+1:=aA0;simp [e,m,i]
theorem SO(s:List UInt8)(c:UInt8):(Lib.splitB ⟨#[c]⟩ 0 (Lib.countB ⟨s.toArray⟩ ⟨#[c]⟩) ⟨s.toArray⟩).map Value.string=(cR c s).map str:=by have h:=Lib.splitB_data ⟨#[c]⟩ 0 (Lib.countB ⟨s.toArray⟩ ⟨#[c]⟩) ⟨s.toArray⟩;have e:Lib.splitK [c] 0 (Lib.countB ⟨s.toArray⟩ ⟨#[c]⟩) s=cR c s:=wZ c s _ (Jb (Lib.count_one c s).symm);have a:(Lib.splitB ⟨#[c]⟩ 0 (Lib.countB ⟨s.toArray⟩ ⟨#[c]⟩) ⟨s.toArray⟩).map (·.data.toList)=cR c s:=h.trans e;rw [<-a,jN];refine List.map_congr_left λx _=> ?_;rfl
theorem Rn(s:List UInt8)(c:UInt8):Lib.countB ⟨s.toArray⟩ ⟨#[c]⟩+1=γ (cR c s):=by
 have:∀s:List UInt8,s.count c+1=γ (cR c s):=by
  intro s;induction s with
  |nil=>rfl
  |cons b l d=>
   unfold cR;by_cases a:b=c
   ·subst a;simp;omega
   ·rw [aA a];have e:(b::l).count c=l.count c:=by simp [List.count_cons,a]
    rw [e,d];split
    ·rename_i h;rw [h];simp
    ·rename_i h;exact absurd h (A6 c l)
 show Lib.count s [c]+1=_;rw [Lib.count_one,this]
theorem pP(c:UInt8):∀s:List UInt8,γ (cR c s)<=γ s+1/\∀x∈cR c s,γ x<=γ s
 |[]=>by simp [cR]
 |b::l=>by
  have d:=pP c l;unfold cR;split
  ·simp;exact⟨d.1,λx hx=>by have:=d.2 x hx;omega⟩
  ·split
   ·rename_i x r h;rw [h]at d;simp at d⊢;exact⟨aA0,aA0,λa e=>by have:=d.2.2 a e;omega⟩
   ·simp
variable {w:ν}
theorem C7(a:χ)(b:List (List UInt8))(h:Rd w (δ a) (b.map str)):∀(j:Nat) x,(b.map λl=>(⟨l.toArray⟩:ByteArray))[j]? =δ x->w.cell? (a.add j)=δ (.string x):=by intro j x hx;simp only [bE,bT]at hx;obtain⟨l,c,rfl⟩:=hx;obtain⟨p,e,d⟩:=h j (str l) (by simp [c]);cases e;exact d
theorem dk{p:χ}{v:θ}(h:w.cell? p=δ v):p.spot=ε:=by
 unfold World.cell? at h;split at h
 ·by_cases a:p.spot.isSome=ζ
  ·simp [a]at h
  ·simpa using a
 ·simp at h
theorem y6(sep:List UInt8)(m:Nat):∀b:List (List UInt8),(∀x∈b,γ x<=m)->γ (Lib.join b sep)<=γ b*(m+γ sep)
 |[],_=>by simp [Lib.join_nil]
 |x::r,h=>by
  rw [Lib.join_cons];have f:γ (Lib.joinTail sep r)<=γ r*(m+γ sep):=by
   have a:∀y∈r,γ y<=m:=λy c=>h y (lU _ c);clear h;induction r with
   |nil=>simp [Lib.joinTail]
   |cons y r d=>have:=d (λz e=>a z (lU _ e));have c:=a y aA2;simp only [Lib.joinTail,eR,List.flatten_cons,jO,dM,fN,Nat.one_mul]at*;omega
  have hx:=h x aA2;rw [jO,dM,fN,Nat.one_mul];omega
def Cz(g:List UInt8):Bool:=decide (1<=γ g)&&decide (γ g<=4)&&g.all kL
def mR(g:List UInt8):List UInt8:=if Lib.trimLeftS (JV g) [48]=[]then [48]else Lib.trimLeftS (JV g) [48]
theorem FV(g:List UInt8)(h:Cz g=ζ):γ (mR g)<=4:=by
 unfold Cz at h;simp only [yP,bD]at h;unfold mR;split
 ·simp
 ·have:=vY (JV g) [48];simp at this;omega
def Cj(s:List UInt8):List (List UInt8)×Bool:=if(cR 58 s).all Cz then((cR 58 s).map mR,ζ)else([],η)
theorem bbs(s:List UInt8):γ (Cj s).1<=γ s+1/\∀x∈(Cj s).1,γ x<=4:=by
 have h:=pP 58 s;unfold Cj;split
 ·rename_i b;refine⟨by simp;exact h.1,λx hx=> ?_⟩;simp at hx;obtain⟨y,a,rfl⟩:=hx;exact FV y (aT.1 b y a)
 ·simp
variable {a:Type}
theorem zw[Inhabited a](c b:List a)(k:Nat)(h:γ c=k):el (c++b) (k:Int)=el b 0:=by subst h;simp only [el,uE,bQ];rw [aN (rE _)];simp
theorem R2[Inhabited a](l:List a)(k:Nat):el (l.drop k) 0=el l (k:Int):=aF0
def QW(X:List (List UInt8))(k:Nat):List (List UInt8):=List.map mR (List.take k X)++List.drop k X
theorem KH(X:List (List UInt8))(k:Nat)(h:k<=γ X):γ (QW X k)=γ X:=by simp [QW];omega
theorem FW(X:List (List UInt8)):QW X 0=X:=by simp [QW]
theorem KI(X:List (List UInt8)):QW X (γ X)=X.map mR:=by simp [QW]
theorem O0(X:List (List UInt8))(k:Nat)(v:List UInt8)(h:k<γ X)(a:v=mR (el X (k:Int))):
  QW X (k+1)=List.set (QW X k) (k:Int).toNat v:=by
 unfold QW;have b:γ (List.map mR (List.take k X))=k:=aA4;rw [uE,kQ _ _ aA0,b,Iz,Ky X k h,a];rw [Sy h];simp only [List.map_append,eR,eG,List.append_assoc,HT,List.nil_append,List.set_cons_zero]
theorem yw(X:List (List UInt8))(k:Nat)(h:k<γ X):el (QW X k) (k:Int)=el X (k:Int):=by unfold QW;rw [zw _ _ k aA4,R2]
theorem VB(g:List UInt8)(h:Lib.trimLeftS (g.map gB) [48]=[]):[48]=mR g:=by unfold mR;rw [aB h]
theorem VD(g:List UInt8)(h:¬Lib.trimLeftS (g.map gB) [48]=[]):Lib.trimLeftS (g.map gB) [48]=mR g:=by unfold mR;rw [aA h]
theorem Vl(g:List UInt8)(h:(γ g:Int)<1\/4<(γ g:Int)):Cz g=η:=by
 unfold Cz;rcases h with h|h
 ·rw [show decide (1<=γ g)=η by(rw [bL];omega)];rfl
 ·rw [show decide (γ g<=4)=η by(rw [bL];omega)];simp
theorem VA(g:List UInt8)(h:g.all kL=η):Cz g=η:=by unfold Cz;rw [h];simp
theorem UZ(g:List UInt8)(b:¬(γ g:Int)<1)(a:¬4<(γ g:Int))(h:g.all kL=ζ):Cz g=ζ:=by unfold Cz;rw [h,show decide (1<=γ g)=ζ by(rw [bD];omega),show decide (γ g<=4)=ζ by(rw [bD];omega)];rfl
theorem Qe[Inhabited a](p:a->Bool)(s:List a)(k:Nat)(h:k<γ s)(c:(s.take k).all p=ζ)(b:p (el s (k:Int))=ζ):(s.take (k+1)).all p=ζ:=by rw [Ky s k h,pE,c];simpa using b
theorem Sr[Inhabited a](p:a->Bool)(s:List a)(k:Nat)(h:k<γ s)(b:p (el s (k:Int))=η):s.all p=η:=by rw [Bool.eq_false_iff];intro c;have:=aT.1 c (el s (k:Int)) (by simp [el,h]);rw [this]at b;cases b
theorem KJ(s:List UInt8)(h:(cR 58 s).all Cz=η):Cj s=([],η):=by unfold Cj;rw [h];rfl
theorem FX(s:List UInt8)(h:(cR 58 s).all Cz=ζ):Cj s=((cR 58 s).map mR,ζ):=by unfold Cj;rw [h];rfl
theorem K7(s:List UInt8)(h:γ s<=1000000000):γ (Lib.join (Cj s).1 [58])<=100000000000:=by have b:=bbs s;have a:=y6 [58] 4 (Cj s).1 b.2;simp at a;omega
def qY(x:List UInt8):List (List UInt8)×Bool:=if x=[]then([],ζ)else Cj x
theorem VE(x:List UInt8)(h:x=[]):qY x=([],ζ):=by unfold qY;rw [aB h]
theorem KK(x:List UInt8)(h:¬x=[]):qY x=Cj x:=by unfold qY;rw [aA h]
def Cc(s:List UInt8):List UInt8×Bool:=
 if 39<γ s then([],η)
 else if(Lib.cut s [58,58]).2.2=η then(Lib.join (Cj s).1 [58],(Cj s).2&&decide ((γ (Cj s).1:Int)=8))
 else if(!(qY (Lib.cut s [58,58]).1).2|| !(qY (Lib.cut s [58,58]).2.1).2||decide (7<(γ (qY (Lib.cut s [58,58]).1).1:Int)+(γ (qY (Lib.cut s [58,58]).2.1).1:Int)))=ζ then([],η)
 else(Lib.join (qY (Lib.cut s [58,58]).1).1 [58]++[58,58]++Lib.join (qY (Lib.cut s [58,58]).2.1).1 [58],ζ)
def lK(n:List UInt8):Bool:=n.all hK&& !(n==[])&&decide (wN n<=255)&&(n==Lib.itoa (wN n:Int))
def jX(s:List UInt8):Bool:=decide (γ s<=15)&&(cR 46 s).all lK&&decide (γ (cR 46 s)=4)
theorem Ue(n:List UInt8)(h:n.all hK=η):lK n=η:=by unfold lK;rw [h];rfl
theorem nV(n:List UInt8)(h:(n=[]\/255<(wN n:Int))\/¬n=Lib.itoa (wN n:Int)):lK n=η:=by
 unfold lK;rcases h with(h|h)|h
 ·subst h;rfl
 ·rw [show decide (wN n<=255)=η by(rw [bL];omega)];simp
 ·rw [show(n==Lib.itoa (wN n:Int))=η by simpa using h];simp
theorem TU(n:List UInt8)(h:n.all hK=ζ)(b:¬n=[])(c:¬255<(wN n:Int))(a:n=Lib.itoa (wN n:Int)):lK n=ζ:=by unfold lK;rw [h,show decide (wN n<=255)=ζ by(rw [bD];omega),show(n==Lib.itoa (wN n:Int))=ζ by rw [beq_iff_eq];exact a,show(n==[])=η by simpa using b];rfl
theorem JS(s:List UInt8)(h:15<(γ s:Int)):jX s=η:=by unfold jX;rw [show decide (γ s<=15)=η by(rw [bL];omega)];rfl
theorem H9(s:List UInt8)(h:(cR 46 s).all lK=η):jX s=η:=by unfold jX;rw [h];simp
theorem TW(s:List UInt8)(a:¬15<(γ s:Int))(h:(cR 46 s).all lK=ζ):jX s=decide ((γ (cR 46 s):Int)=4):=by unfold jX;rw [h,show decide (γ s<=15)=ζ by(rw [bD];omega)];rw [Bool.eq_iff_iff];simp;omega
theorem Zw[Inhabited a](l:List a)(k:Nat)(h:k<γ l):el l (k:Int)∈l:=by rw [Oz l k h];exact yN h
end Go.Px
namespace Go.Wk
open Go.Px
open Go.Value renaming slice → Vs, int → Vi, bool → Vb, pointer → Vp
def Fp(x:(aC×Int)):List θ:=[(str x.1),(Vi .i64 x.2)]
def dA(x:(aC×aC)):List θ:=[(str x.1),(str x.2)]
theorem yD:oY dA 2:=⟨λ_=>rfl,λx v h=>by simp only [dA,aP,fR,HP]at h;rcases h with h|h<;>subst h<;>rfl⟩
def cE(x:qL×(PA×PA)):List θ:=[(Vs x.2.1.2.1 (γ x.1.1) x.2.1.2.2),(Vs x.2.2.2.1 (γ x.1.2) x.2.2.2.2)]
theorem jT:oY cE 2:=⟨λ_=>rfl,λx v h=>by simp only [cE,aP,fR,HP]at h;rcases h with h|h<;>subst h<;>rfl⟩
def dJ(x:qL×(PA×PA)):List cB:=[oM dA x.2.1.1 x.2.1.2.1 x.2.1.2.2 x.1.1,oM eB x.2.2.1 x.2.2.2.1 x.2.2.2.2 x.1.2]
theorem BE{w0 w:ν}{S:List Nat}{L:List cB}{g:Nat->(PA×PA)}{l:dO}(h:Hp w0 S L w)(a:∀r∈gI dJ g l,r∈L)(i:Int)(c:0<=i/\i<(γ l:Int)):(Rd w (g (Int.toNat i)).1.2.1 (List.flatMap dA ((el l i).1))/\γ ((el l i).1)<=(g (Int.toNat i)).1.2.2/\((g (Int.toNat i)).1.2.1=ε->(g (Int.toNat i)).1.2.2=0))/\(Rd w (g (Int.toNat i)).2.2.1 (List.flatMap eB ((el l i).2))/\γ ((el l i).2)<=(g (Int.toNat i)).2.2.2/\((g (Int.toNat i)).2.2.1=ε->(g (Int.toNat i)).2.2.2=0)):=by have key:∀r∈dJ (el l i,g (Int.toNat i)),r.holds w:=λr b=>(h.res _ (a _ (O8 dJ g l i c _ b))).1;unfold dJ at key;exact⟨Zp (key _ (.head _)),Zp (key _ (.tail _ (.head _)))⟩
def fM(x:(Int×aC)):List θ:=[(Vi .i64 x.1),(str x.2)]
theorem ati:oY fM 2:=⟨λ_=>rfl,λx v h=>by simp only [fM,aP,fR,HP]at h;rcases h with h|h<;>subst h<;>rfl⟩
def fA(x:PQ):List θ:=[(str x.1),(str x.2.1),(Vb x.2.2)]
theorem akm:oY fA 3:=⟨λ_=>rfl,λx v h=>by simp only [fA,aP,fR,HP]at h;rcases h with h|h|h<;>subst h<;>rfl⟩
def W6:List aC:=[[67,97,108,108,45,73,68],[67,83,101,113],[77,73,77,69,45,86,101,114,115,105,111,110],[77,105,110,45,83,69],[82,65,99,107],[82,83,101,113],[87,87,87,45,65,117,116,104,101,110,116,105,99,97,116,101]]
def Iq:List (aC×Int):=[([70,114,111,109],1),([84,111],1),([67,111,110,116,97,99,116],1),([82,111,117,116,101],1),([82,101,99,111,114,100,45,82,111,117,116,101],1),([80,97,116,104],1),([83,101,114,118,105,99,101,45,82,111,117,116,101],1),([82,101,102,101,114,45,84,111],1),([82,101,102,101,114,114,101,100,45,66,121],1),([82,101,112,108,121,45,84,111],1),([86,105,97],2),([67,83,101,113],3),([82,65,99,107],4),([67,111,110,116,101,110,116,45,76,101,110,103,116,104],5),([69,120,112,105,114,101,115],5),([77,97,120,45,70,111,114,119,97,114,100,115],5),([77,105,110,45,69,120,112,105,114,101,115],5),([82,83,101,113],5),([67,111,110,116,101,110,116,45,68,105,115,112,111,115,105,116,105,111,110],6),([67,111,110,116,101,110,116,45,84,121,112,101],6),([69,118,101,110,116],6),([77,105,110,45,83,69],6),([83,101,115,115,105,111,110,45,69,120,112,105,114,101,115],6),([83,117,98,115,99,114,105,112,116,105,111,110,45,83,116,97,116,101],6),([65,99,99,101,112,116],7),([65,108,108,111,119],7),([65,108,108,111,119,45,69,118,101,110,116,115],7),([80,114,111,120,121,45,82,101,113,117,105,114,101],7),([82,101,113,117,105,114,101],7),([83,117,112,112,111,114,116,101,100],7),([85,110,115,117,112,112,111,114,116,101,100],7)]
def z7:List aC:=[[38,61,43,36,44,59,63,47],[91,93,47,58,38,43,36],[91,93,47,63,58,43,36]]
end Go.Wk
namespace Go.Ce
open Go.Wk
open Nat renaming beq → cV, succ → rY
open UInt8 renaming ofNat → uF
variable {a:Type}
noncomputable def bi(c:Bool)(x y:a):a:=Bool.rec y x c
noncomputable def ob{b:Type}(x:Option a)(f:a->Option b):Option b:=Option.rec ε f x
inductive Pk where
 |h
 |o (p:Pk)
 |i (p:Pk)
noncomputable def pkF(f:Nat):Nat->Pk:=
 Nat.rec (λ_=>.h) (λ_ r k=>bi (cV k (nat_lit 0)) .h (bi (cV (Nat.mod k (nat_lit 2)) (nat_lit 1)) (.i (r (Nat.div k (nat_lit 2)))) (.o (r (Nat.sub (Nat.div k (nat_lit 2)) (nat_lit 1)))))) f
noncomputable def pk(k:Nat):Pk:=pkF (rY k) k
inductive Tr (α:Type) where
 |e
 |n (l:Tr α) (v:Option α) (r:Tr α)
noncomputable def Tr.L(t:Tr a):Tr a:=Tr.rec .e (λl _ _ _ _=>l) t
noncomputable def Tr.V(t:Tr a):Option a:=Tr.rec ε (λ_ v _ _ _=>v) t
noncomputable def Tr.R(t:Tr a):Tr a:=Tr.rec .e (λ_ _ r _ _=>r) t
noncomputable def Tr.xQ(p:Pk):Tr a->Option a:=Pk.rec Tr.V (λ_ g t=>g t.R) (λ_ g t=>g t.L) p
noncomputable def Tr.B8(x:a)(p:Pk):Tr a->Tr a:=Pk.rec (λt=>.n t.L (δ x) t.R) (λ_ s t=>.n t.L t.V (s t.R)) (λ_ s t=>.n (s t.L) t.V t.R) p
noncomputable def Tr.get(t:Tr a)(k:Nat):Option a:=Tr.xQ (pk k) t
noncomputable def Tr.set(t:Tr a)(k:Nat)(x:a):Tr a:=Tr.B8 x (pk k) t
def dec:Nat->Nat->List UInt8
 |0,_=>[]
 |l+1,x=>uF (x%256)::dec l (x/256)
inductive Cp where
 |k (c:Nat)
 |r (off:Nat)
inductive SC where
 |b (x:Bool)
 |i (k:Α) (n:Nat)
 |s (l x:Nat)
 |np
 |ns
 |nf
 |ni
 |nm
 |p (i off:Nat)
 |g (i off:Nat)
 |sl (i base n:Nat) (c:Cp)
 |fn (f:Nat) (cs:List Nat)
 |y (i:Nat)
 |m (i:Nat)
 |z (i base d off:Nat)
inductive SA where
 |c (x:SC)
 |a (l:List SC)
inductive SV where
 |c (x:SC)
 |a (l:List SC)
 |t (l:List SA)
 |u
inductive Mo where
 |ex
 |rw (sz m:Nat)
 |bw
 |fb
inductive HB where
 |cl (t:Nat) (md:Mo) (xs:List SC)
 |it (l x pos:Nat)
 |lp (busy:Bool) (j k:Nat) (ps:List Nat) (asg body:Code) (F:Tr SV)
 |df
 |gn
 |mp (es:List (SC×SC))
structure Hs where
 nx:Nat
 t:Tr HB
structure T where
 F:Tr SV
 H:Hs
 D:Option Nat
structure M where
 n:Nat
 m:Option (Option Nat)
structure Cx where
 P:ω
 G:Nat->Option (List SC)
 X:Nat->Option (List SV->Hs->Option (SV×Hs))
 pure:Nat->Bool
 V:Nat->Bool
noncomputable def SV.cells:SV->Option (List SC):=SV.rec (λx=>δ [x]) δ (λ_=>ε) ε
noncomputable def km:Α->Nat:=IntKind.rec (nat_lit 256) (nat_lit 65536) (nat_lit 4294967296) (nat_lit 18446744073709551616) (nat_lit 256) (nat_lit 65536) (nat_lit 4294967296) (nat_lit 18446744073709551616)
noncomputable def kh:Α->Nat:=IntKind.rec (nat_lit 128) (nat_lit 32768) (nat_lit 2147483648) (nat_lit 9223372036854775808) (nat_lit 256) (nat_lit 65536) (nat_lit 4294967296) (nat_lit 18446744073709551616)
noncomputable def ures(k:Α)(m:Nat):Int:=bi (Nat.ble (kh k) m) (.negSucc (Nat.sub (Nat.sub (km k) (nat_lit 1)) m)) (.ofNat m)
noncomputable def SC.v:SC->Option θ
 |.b x=>δ (.bool x)
 |.i k n=>δ (.int k (ures k (Nat.mod n (km k))))
 |.s l x=>δ (str (dec l x))
 |.np=>δ (.pointer ε)
 |.ns=>δ (.slice ε 0 0)
 |.nf=>δ .nilFunc
 |.ni=>δ .nilIface
 |_=>ε
noncomputable def vcs:List SC->Option (List θ)
 |[]=>δ []
 |x::l=>ob x.v λv=>ob (vcs l) λa=>δ (v::a)
noncomputable def SV.v:SV->Option θ
 |.c x=>x.v
 |.a l=>ob (vcs l) λb=>δ (.agg b.toArray)
 |_=>ε
section
variable (C : Cx)
end
section
variable (C : Cx) (m : M) (S : T)
noncomputable def only{a:Type}(l:List a):Option a:=List.rec ε (λx b _=>bi b.isEmpty (δ x) ε) l
end
section
variable (C : Cx) (m : M) (S : T)
end
section
variable (C : Cx)
end
end Go.Ce
namespace Go.Oe
open Go.Wk
open Go.Ce (Tr)
open Go.Op renaming bytesLess → vI
open Int renaming toNat → bF
open List renaming drop → cG, replicate → fH, set → gQ, take → jV
open Nat renaming beq → cV, blt → gA, succ → rY
open Option renaming bind → pG
open Sum renaming elim → eN
open UInt8 renaming ofNat → uF
noncomputable section
inductive Ty where
 |i' (k:Α)
 |c'
 |s'
 |b'
 |u'
 |w' (x:Ty)
 |pr (x y:Ty)
 |sm (x y:Ty)
 |l' (e by_:Nat) (x:Ty)
 |y'
 |r' (x:Ty)
 |p' (e:Nat) (x:Ty)
 |z'
 |o' (j:Nat)
 |f' (k:Nat) (x:Ty)
@[reducible] def Ty.T:Ty->Type
 |.i' _=>Int
 |.c'=>UInt8
 |.s'=>aC
 |.b'=>Bool
 |.u'=>Unit
 |.w' x=>x.T
 |.pr x y=>x.T×y.T
 |.sm x y=>x.T⊕y.T
 |.l' _ _ x=>List x.T
 |.y'=>aC
 |.r' x=>List x.T
 |.p' _ x=>x.T
 |.z'=>Unit
 |.o' _=>Unit
 |.f' _ x=>x.T
def kN:Α->Nat
 |.i8=>0
 |.i16=>1
 |.i32=>2
 |.i64=>3
 |.u8=>4
 |.u16=>5
 |.u32=>6
 |.u64=>7
def JZ(a b:Α):Bool:=cV (kN a) (kN b)
def Ty.HX:Ty->Ty->Bool
 |.i' k,.i' k'=>JZ k k'
 |.c',.c'=>ζ
 |.s',.s'=>ζ
 |.b',.b'=>ζ
 |.u',.u'=>ζ
 |.w' x,.w' a=>x.HX a
 |.pr x y,.pr c b=>bif x.HX c then y.HX b else η
 |.sm x y,.sm c b=>bif x.HX c then y.HX b else η
 |.l' e h x,.l' d f a=>bif cV e d then bif cV h f then x.HX a else η else η
 |.y',.y'=>ζ
 |.r' x,.r' a=>x.HX a
 |.p' e x,.p' d a=>bif cV e d then x.HX a else η
 |.z',.z'=>ζ
 |.o' j,.o' j'=>cV j j'
 |.f' k x,.f' k' a=>bif cV k k' then x.HX a else η
 |_,_=>η
theorem iK{a b:Bool}(h:(bif a then b else η)=ζ):a=ζ/\b=ζ:=by cases a<;>cases b<;>simp_all
theorem mY{a b:Α}(h:JZ a b=ζ):a=b:=by revert h;cases a<;>cases b<;>first|(intro _;rfl)|(intro h;exact absurd h aA3)
theorem Ty.kM:∀{a b:Ty},a.HX b=ζ->a=b:=by
 intro a;induction a with
 |i' k=>intro b h;cases b with
  |i' k'=>rw [mY h]
  |_=>cases h
 |w' x c=>intro b h;cases b with
  |w' y=>rw [c h]
  |_=>cases h
 |pr x y c d=>intro b h;cases b with
  |pr i g=>have h:=iK h;rw [c h.1,d h.2]
  |_=>cases h
 |sm x y c d=>intro b h;cases b with
  |sm i g=>have h:=iK h;rw [c h.1,d h.2]
  |_=>cases h
 |l' e l x c=>intro b h;cases b with
  |l' e' b' y=>have h:=iK h;have f:=iK h.2;rw [c f.2,iB h.1,iB f.1]
  |_=>cases h
 |r' x c=>intro b h;cases b with
  |r' y=>rw [c h]
  |_=>cases h
 |p' e x c=>intro b h;cases b with
  |p' e' y=>have h:=iK h;rw [c h.2,iB h.1]
  |_=>cases h
 |o' j=>intro b h;cases b with
  |o' k=>rw [iB h]
  |_=>cases h
 |f' k x c=>intro b h;cases b with
  |f' k' y=>have h:=iK h;rw [c h.2,iB h.1]
  |_=>cases h
 |_=>intro b h;cases b<;>first|rfl|cases h
def HC{a b:Ty}(h:a.HX b=ζ)(l:List a.T):List b.T:=(Ty.kM h)▸l
@[reducible] def gL:List Ty->Ty
 |[]=>.u'
 |[x]=>x
 |x::y::l=>.pr x (gL (y::l))
def Ty.flat:Ty->Bool
 |.i' _=>ζ
 |.c'=>ζ
 |.s'=>ζ
 |.b'=>ζ
 |.w' x=>x.flat
 |.pr x y=>bif x.flat then y.flat else η
 |_=>η
def Ty.sz:Ty->Nat
 |.w' x=>x.sz
 |.pr x y=>x.sz+y.sz
 |_=>1
def Ty.enc:(t:Ty)->t.T->List θ
 |.i' k,n=>[.int k n]
 |.c',x=>[bt x]
 |.s',x=>[str x]
 |.b',x=>[.bool x]
 |.w' t,x=>t.enc x
 |.pr a b,x=>a.enc x.1++b.enc x.2
 |_,_=>[]
def Ty.agg:Ty->Bool
 |.w' _=>ζ
 |.pr _ _=>ζ
 |_=>η
inductive SC where
 |i' (k:Α) (n:Int)
 |c' (x:UInt8)
 |s' (x:aC)
 |b' (x:Bool)
 |d' (p:Prop) (h:Decidable p)
 |e' (p:Prop) (h:Decidable p)
 |o' (j:Nat)
 |n'
 |p' (id off:Nat)
 |q' (id:Nat) (j:Int) (sz off:Nat)
 |l' (id:Nat)
 |k' (id n:Nat)
 |f' (k:Nat) (ids:List Nat)
 |z' (id fl:Nat)
 |u'
inductive SA where
 |c' (x:SC)
 |a' (l:List SC)
inductive SV where
 |c' (x:SC)
 |a' (l:List SC)
 |t' (l:List SA)
 |n'
 |u'
inductive Ob where
 |bl (e:Nat) (cs:List SC)
 |rw (e by_:Nat) (t:Ty) (l:List t.T)
 |ro (t:Ty) (l:List t.T)
 |br (n:Nat) (l:aC)
 |dd (n:Nat)
structure Ad where
 o:Option Nat
 a:Option χ
 cap:Nat
 z:Bool
 ln:Nat
def Ad.b(d:Ad):Nat:=d.o.getD 0
def Ob.len:Ob->Nat
 |.rw _ _ _ l=>γ l
 |.ro _ l=>γ l
 |.br n _=>n
 |.dd n=>n
 |_=>0
def fU{a:Type}:List a->Nat->Option a
 |[],_=>ε
 |x::l,k=>match k with
  |0=>δ x
  |k+1=>fU l k
def gJ(H:List Ob)(id:Nat):Nat:=match fU H id with
 |some o=>o.len
 |none=>0
def ey:Nat->θ
 |0=>.pointer ε
 |1=>.nilFunc
 |_=>.nilIface
def jH(b off:Nat):θ:=.pointer (δ ⟨b,off,ε⟩)
def SC.v(ρ:Nat->Ad):SC->θ
 |.i' k n=>.int k n
 |.c' x=>bt x
 |.s' x=>str x
 |.b' x=>.bool x
 |.d' p h=>.bool (@decide p h)
 |.e' p h=>.bool (!@decide p h)
 |.o' j=>ey j
 |.n'=>.slice ε 0 0
 |.p' id off=>jH (ρ id).b off
 |.q' id j c off=>.pointer (δ (ea (ρ id).a (j.toNat*c+off)))
 |.l' id=>.slice (ρ id).a (ρ id).ln (ρ id).cap
 |.k' id n=>.slice (δ ⟨(ρ id).b,0,ε⟩) n n
 |.f' k ids=>.func (.func k) #[] (ids.map λid=>jH (ρ id).b 0).toArray
 |.z' id d=>.pointer (bif (ρ d).z then δ ⟨(ρ id).b,0,ε⟩else ε)
 |.u'=>.bool η
def SC.kn:SC->Bool
 |.u'=>η
 |_=>ζ
def knL:List SC->Bool
 |[]=>ζ
 |x::l=>bif x.kn then knL l else η
def SA.v(ρ:Nat->Ad):SA->θ
 |.c' x=>x.v ρ
 |.a' l=>.agg (l.map (SC.v ρ)).toArray
def SV.v(ρ:Nat->Ad):SV->Option θ
 |.c' x=>δ (x.v ρ)
 |.a' l=>δ (.agg (l.map (SC.v ρ)).toArray)
 |.t' l=>δ (.tuple (l.map (SA.v ρ)).toArray)
 |.n'=>δ undef
 |.u'=>ε
def SA.sv:SA->SV
 |.c' x=>.c' x
 |.a' l=>.a' l
def SV.cells:SV->Option (List SC)
 |.c' x=>δ [x]
 |.a' l=>δ l
 |_=>ε
def SV.sa:SV->Option SA
 |.c' x=>δ (.c' x)
 |.a' l=>δ (.a' l)
 |_=>ε
def Ty.sv(t:Ty)(cs:List SC):SV:=bif t.agg then .a' cs else match cs with
 |[x]=>.c' x
 |_=>.u'
def Ty.sa(t:Ty)(cs:List SC):SA:=bif t.agg then .a' cs else match cs with
 |[x]=>.c' x
 |_=>.a' cs
def pW:List SC->List Nat
 |[]=>[]
 |x::l=>match x with
  |.p' id _=>id::pW l
  |_=>pW l
def Ty.no:Ty->Nat
 |.w' x=>x.no
 |.pr x y=>x.no+y.no
 |.l' _ _ _=>1
 |.y'=>1
 |.r' _=>1
 |.p' _ x=>x.no+1
 |.z'=>1
 |.f' _ x=>x.no
 |_=>0
def Ty.lay:(t:Ty)->(self n:Nat)->t.T->List SC×List Ob
 |.i' k,_,_,x=>([.i' k x],[])
 |.c',_,_,x=>([.c' x],[])
 |.s',_,_,x=>([.s' x],[])
 |.b',_,_,x=>([.b' x],[])
 |.u',_,_,_=>([],[])
 |.w' t,s,n,x=>t.lay s n x
 |.pr a b,s,n,x=>((a.lay s n x.1).1++(b.lay s (n+a.no) x.2).1,(a.lay s n x.1).2++(b.lay s (n+a.no) x.2).2)
 |.sm _ _,_,_,_=>([],[])
 |.l' e b t,_,n,x=>([.l' n],[.rw e b t x])
 |.y',_,n,x=>([.l' n],[.br (γ x) x])
 |.r' t,_,n,x=>([.l' n],[.ro t x])
 |.p' e t,_,n,x=>([.p' n 0],.bl e (t.lay n (n+1) x).1::(t.lay n (n+1) x).2)
 |.z',s,n,_=>([.z' s n],[.dd 0])
 |.o' j,_,_,_=>([.o' j],[])
 |.f' k t,s,n,x=>([.f' k (pW (t.lay s n x).1)],(t.lay s n x).2)
inductive Src where
 |o' (id:Nat) (w:Bool)
 |n'
 |k' (id m:Nat) (w:Bool)
 |z' (t:Bool)
def Src.own:Src->List Nat
 |.o' id w=>bif w then [id]else []
 |.k' id _ w=>bif w then [id]else []
 |_=>[]
def Src.bor:Src->List Nat
 |.o' id w=>bif w then []else [id]
 |.k' id _ w=>bif w then []else [id]
 |_=>[]
variable {a:Type}
def qp(f:SC->Option a):List SC->Option (a×List SC×List Src)
 |[]=>ε
 |x::l=>match f x with
  |some y=>δ (y,l,[])
  |none=>ε
def SC.rI(k:Α):SC->Option Int
 |.i' a n=>bif JZ k a then δ n else ε
 |_=>ε
def SC.rC:SC->Option UInt8
 |.c' x=>δ x
 |_=>ε
def SC.rS:SC->Option aC
 |.s' x=>δ x
 |_=>ε
def SC.rB:SC->Option Bool
 |.b' x=>δ x
 |.d' p h=>δ (@decide p h)
 |.e' p h=>δ (!@decide p h)
 |_=>ε
def Ty.DC:(t:Ty)->List SC->Option (t.T×List SC)
 |.i' k,l=>match l with
  |x::l=>match x.rI k with
   |some y=>δ (y,l)
   |none=>ε
  |[]=>ε
 |.c',l=>match l with
  |x::l=>match x.rC with
   |some y=>δ (y,l)
   |none=>ε
  |[]=>ε
 |.s',l=>match l with
  |x::l=>match x.rS with
   |some y=>δ (y,l)
   |none=>ε
  |[]=>ε
 |.b',l=>match l with
  |x::l=>match x.rB with
   |some y=>δ (y,l)
   |none=>ε
  |[]=>ε
 |.w' t,l=>t.DC l
 |.pr a b,l=>match a.DC l with
  |some (x,d)=>match b.DC d with
   |some (y,c)=>δ ((x,y),c)
   |none=>ε
  |none=>ε
 |_,_=>ε
def qR(t:Ty):Nat->List SC->Option (List t.T)
 |0,l=>match l with
  |[]=>δ []
  |_=>ε
 |m+1,l=>match t.DC l with
  |some (x,a)=>match qR t m a with
   |some q=>δ (x::q)
   |none=>ε
  |none=>ε
def rowOf(t:Ty)(o:Option Ob):Option (List t.T):=match o with
 |some (.rw _ _ t' l)=>if h:t'.HX t=ζ then δ (HC h l)else ε
 |_=>ε
def strOf(t:Ty)(l:aC):Option (List t.T):=if h:Ty.c'.HX t=ζ then δ (HC h l)else ε
def Hu(t:Ty)(o:Option Ob):Option (List t.T):=match o with
 |some (.rw _ _ t' l)=>if h:t'.HX t=ζ then δ (HC h l)else ε
 |some (.ro t' l)=>if h:t'.HX t=ζ then δ (HC h l)else ε
 |some (.br _ l)=>strOf t l
 |_=>ε
def C9(t:Ty)(o:Option Ob):Option (List t.T):=match o with
 |some (.ro t' l)=>if h:t'.HX t=ζ then δ (HC h l)else ε
 |_=>ε
def rwE:Option Ob->Option (Nat×Nat)
 |some (.rw e b _ _)=>δ (e,b)
 |_=>ε
def Ty.tz:Ty->Bool
 |.w' x=>x.tz
 |.pr x y=>bif x.tz then ζ else y.tz
 |.z'=>ζ
 |.f' _ x=>x.tz
 |_=>η
def Ty.F1:Ty->Bool
 |.u'=>ζ
 |.p' _ _=>ζ
 |.pr x y=>bif x.F1 then y.F1 else η
 |_=>η
def Ty.rd(any:Bool)(H:List Ob):(t:Ty)->(self:Nat)->List SC->Option (t.T×List SC×List Src)
 |.i' k,_,l=>qp (SC.rI k) l
 |.c',_,l=>qp SC.rC l
 |.s',_,l=>qp SC.rS l
 |.b',_,l=>qp SC.rB l
 |.u',_,l=>δ ((),l,[])
 |.w' t,s,l=>t.rd any H s l
 |.pr a b,s,l=>match a.rd any H s l with
  |some (x,n,h)=>match b.rd any H s n with
   |some (y,i,g)=>δ ((x,y),i,h++g)
   |none=>ε
  |none=>ε
 |.sm _ _,_,_=>ε
 |.l' e b t,_,l=>match l with
  |.n'::l=>δ ([],l,[.n'])
  |.l' id::l=>match rwE (fU H id)with
   |some q=>bif cV q.1 e then(bif cV q.2 b then(match rowOf t (fU H id)with
    |some x=>δ (x,l,[.o' id ζ])
    |none=>ε)else ε)else ε
   |none=>ε
  |.k' id m::l=>match fU H id with
   |some (.bl e' cs)=>bif cV e' e then(bif t.flat then(bif Nat.ble m 1048576 then(match qR t m cs with
    |some x=>δ (x,l,[.k' id m ζ])
    |none=>ε)else ε)else ε)else ε
   |_=>ε
  |_=>ε
 |.y',_,l=>match l with
  |.l' id::l=>match fU H id with
   |some (.br _ x)=>δ (x,l,[.o' id ζ])
   |_=>ε
  |_=>ε
 |.r' t,_,l=>match l with
  |.n'::l=>δ ([],l,[.n'])
  |.l' id::l=>match(bif any then Hu t (fU H id)else C9 t (fU H id))with
   |some x=>δ (x,l,[.o' id η])
   |none=>ε
  |.k' id m::l=>match(bif any then fU H id else ε)with
   |some (.bl _ cs)=>match qR t m cs with
    |some x=>δ (x,l,[.k' id m η])
    |none=>ε
   |_=>ε
  |_=>ε
 |.p' e t,_,l=>match l with
  |.p' id off::l=>match fU H id with
   |some (.bl e' cs)=>bif cV off 0 then(bif cV e' e then(match t.rd any H id cs with
    |some (x,[],c)=>δ (x,l,.o' id ζ::c)
    |_=>ε)else ε)else ε
   |_=>ε
  |_=>ε
 |.z',s,l=>match l with
  |.o' j::l=>bif cV j 0 then δ ((),l,[.z' η])else ε
  |.p' id off::l=>bif cV off 0 then(bif cV id s then δ ((),l,[.z' ζ])else ε)else ε
  |.z' id f::l=>bif cV id s then(match fU H f with
   |some (.dd 0)=>δ ((),l,[.o' f η])
   |_=>ε)else ε
  |_=>ε
 |.o' j,_,l=>match l with
  |.o' j'::l=>bif cV j j' then δ ((),l,[])else ε
  |_=>ε
 |.f' k t,s,l=>match l with
  |.f' k' d::l=>bif cV k k' then(match(bif t.F1 then t.rd any H s (d.map λid=>.p' id 0)else ε)with
   |some (x,[],c)=>δ (x,l,c)
   |_=>ε)else ε
  |_=>ε
def Ty.cn:Ty->Nat
 |.u'=>0
 |.w' x=>x.cn
 |.pr x y=>x.cn+y.cn
 |.sm _ _=>0
 |_=>1
def Ap{a:Type}:List a->Nat->List a
 |[],_=>[]
 |x::l,k=>match k with
  |0=>x::l
  |k+1=>Ap l k
def Am{a:Type}:List a->Nat->Option (List a)
 |_,0=>δ []
 |[],_+1=>ε
 |x::l,k+1=>match Am l k with
  |some q=>δ (x::q)
  |none=>ε
def kA{a:Type}:List a->Nat->a->List a
 |[],_,_=>[]
 |x::l,k,y=>match k with
  |0=>y::l
  |k+1=>x::kA l k y
def vL:List SC->Nat->List SC->Option (List SC)
 |l,0,[]=>δ l
 |_::l,0,v::a=>match vL l 0 a with
  |some q=>δ (v::q)
  |none=>ε
 |x::l,k+1,a=>match vL l k a with
  |some q=>δ (x::q)
  |none=>ε
 |[],_,_=>ε
def Ye(l:List SC)(k:Nat)(vs:List SC):List SC:=match vL l k vs with
 |some q=>q
 |none=>l
inductive Key where
 |s' (t:Nat) (x:Ty)
 |o' (t off:Nat) (x:Ty)
 |w' (t:Nat) (x:Ty)
def Key.ty:Key->Ty
 |.s' _ x=>x
 |.o' _ _ x=>x
 |.w' _ x=>x
abbrev rQ(l:List Key):Ty:=gL (l.map Key.ty)
def oz(H:List Ob)(id:Nat):(x:Ty)->Option x.T
 |.l' e b t=>match rwE (fU H id)with
  |some q=>bif cV q.1 e then(bif cV q.2 b then rowOf t (fU H id)else ε)else ε
  |none=>ε
 |.y'=>match fU H id with
  |some (.br _ x)=>δ x
  |_=>ε
 |_=>ε
def Sd:Option (a×List SC×List Src)->Option (a×List Src)
 |some (x,[],b)=>δ (x,b)
 |_=>ε
def TF(any:Bool)(H:List Ob)(x:Ty):SV->Option (x.T×List Src)
 |.c' c=>bif x.tz then ε else(bif x.agg then ε else Sd (x.rd any H 0 [c]))
 |.a' l=>bif x.tz then ε else(bif x.agg then Sd (x.rd any H 0 l)else ε)
 |_=>ε
def rdB(H:List Ob)(id off:Nat)(x:Ty):Option (x.T×List Src):=match fU H id with
 |some (.bl _ cs)=>match Am (Ap cs off) x.cn with
  |some q=>Sd (x.rd η H id q)
  |none=>ε
 |_=>ε
def rdW(H:List Ob)(id:Nat)(x:Ty):Option (x.T×List Src):=match oz H id x with
 |some y=>δ (y,[])
 |none=>ε
def Key.rd(a:Nat->Nat)(F:Nat->SV)(H:List Ob):(k:Key)->Option (k.ty.T×List Src)
 |.s' t x=>TF η H x (F t)
 |.o' t off x=>rdB H (a t) off x
 |.w' t x=>rdW H (a t) x
def rdK(a:Nat->Nat)(F:Nat->SV)(H:List Ob):(l:List Key)->Option ((rQ l).T×List Src)
 |[]=>δ ((),[])
 |[k]=>k.rd a F H
 |k::d::l=>match k.rd a F H with
  |some (x,c)=>match rdK a F H (d::l)with
   |some (y,b)=>δ ((x,y),c++b)
   |none=>ε
  |none=>ε
def aw(n:Nat):(x:Ty)->x.T->Option Ob
 |.l' e b t,v=>δ (.rw e b t v)
 |.y',v=>δ (.br n v)
 |_,_=>ε
abbrev Fr:=Tr SV×List Ob
def wk(F:Tr SV)(H:List Ob)(t:Nat)(x:Ty)(v:x.T):Fr:=(F.set t (x.sv (x.lay 0 (γ H) v).1),H++(x.lay 0 (γ H) v).2)
def E7(H:List Ob)(id off:Nat)(x:Ty)(v:x.T):List Ob:=match fU H id with
 |some (.bl e cs)=>kA H id (.bl e (Ye cs off (x.lay id (γ H) v).1))++(x.lay id (γ H) v).2
 |_=>H++(x.lay id (γ H) v).2
def rK(H:List Ob)(id:Nat)(x:Ty)(v:x.T):List Ob:=match aw (gJ H id) x v with
 |some o=>kA H id o
 |none=>H
def Key.put(a:Nat->Nat)(S:Fr):(k:Key)->k.ty.T->Fr
 |.s' t x,v=>wk S.1 S.2 t x v
 |.o' t off x,v=>(S.1,E7 S.2 (a t) off x v)
 |.w' t x,v=>(S.1,rK S.2 (a t) x v)
def Ib(a:Nat->Nat)(S:Fr):(l:List Key)->(rQ l).T->Fr
 |[],_=>S
 |[k],v=>k.put a S v
 |k::b::l,v=>Ib a (k.put a S v.1) (b::l) v.2
inductive Rk where
 |r' (x:Ty)
 |o' (id e:Nat) (x:Ty)
 |w' (id:Nat) (x:Ty)
def Rk.ty:Rk->Ty
 |.r' x=>x
 |.o' _ _ x=>x
 |.w' _ x=>x
abbrev iF(l:List Rk):Ty:=gL (l.map Rk.ty)
def rdO(H:List Ob)(id e:Nat)(x:Ty):Option (x.T×List Src):=match fU H id with
 |some (.bl a cs)=>bif cV a e then Sd (x.rd η H id cs)else ε
 |_=>ε
def Rk.rd(H:List Ob):(k:Rk)->List SV->Option (k.ty.T×List Src×List SV)
 |.r' x,a=>match a with
  |v::a=>match TF η H x v with
   |some (x,b)=>δ (x,b,a)
   |none=>ε
  |[]=>ε
 |.o' id e x,a=>match rdO H id e x with
  |some (x,b)=>δ (x,b,a)
  |none=>ε
 |.w' id x,a=>match rdW H id x with
  |some (x,b)=>δ (x,b,a)
  |none=>ε
def rdR(H:List Ob):(l:List Rk)->List SV->Option ((iF l).T×List Src)
 |[],a=>match a with
  |[]=>δ ((),[])
  |_=>ε
 |[k],a=>match k.rd H a with
  |some (x,b,[])=>δ (x,b)
  |_=>ε
 |k::e::l,a=>match k.rd H a with
  |some (x,d,a)=>match rdR H (e::l) a with
   |some (y,c)=>δ ((x,y),d++c)
   |none=>ε
  |none=>ε
def putO(H:List Ob)(id e:Nat)(x:Ty)(v:x.T):List Ob:=kA H id (.bl e (x.lay id (γ H) v).1)++(x.lay id (γ H) v).2
def Rk.put(a:Nat->Nat)(S:List SA×List Ob):(k:Rk)->k.ty.T->List SA×List Ob
 |.r' x,v=>(S.1++[x.sa (x.lay 0 (γ S.2) v).1],S.2++(x.lay 0 (γ S.2) v).2)
 |.o' id e x,v=>(S.1,putO S.2 (a id) e x v)
 |.w' id x,v=>(S.1,rK S.2 (a id) x v)
def gM(a:Nat->Nat)(S:List SA×List Ob):(l:List Rk)->(iF l).T->List SA×List Ob
 |[],_=>S
 |[k],v=>k.put a S v
 |k::b::l,v=>gM a (k.put a S v.1) (b::l) v.2
def mA:List SA->SV
 |[x]=>x.sv
 |l=>.t' l
def OD(H:List Ob):(l:List Ty)->List SV->Option ((gL l).T×List Src)
 |[],c=>match c with
  |[]=>δ ((),[])
  |_=>ε
 |[x],c=>match c with
  |[v]=>TF ζ H x v
  |_=>ε
 |x::y::l,c=>match c with
  |v::c=>match TF ζ H x v with
   |some (a,e)=>match OD H (y::l) c with
    |some (b,d)=>δ ((a,b),e++d)
    |none=>ε
   |none=>ε
  |[]=>ε
def jZ(H:List Ob):(l:List Ty)->(gL l).T->List SV×List Ob
 |[],_=>([],H)
 |[x],v=>([x.sv (x.lay 0 (γ H) v).1],H++(x.lay 0 (γ H) v).2)
 |x::y::l,v=>(x.sv (x.lay 0 (γ H) v.1).1::(jZ (H++(x.lay 0 (γ H) v.1).2) (y::l) v.2).1,(jZ (H++(x.lay 0 (γ H) v.1).2) (y::l) v.2).2)
structure PD where
 p:Prop
 h:Decidable p
inductive Gv (α:Type) where
 |one (x:Option α)
 |gs (l:List PD) (x:α)
structure Ct where
 a:List Ty
 r:List Rk
 f:(gL a).T->Gv (iF r).T
def gdL{ρ:Type}(l:List PD)(x:Option ρ):Option ρ:=match l with
 |[]=>x
 |⟨p,h⟩::l=> @gd ρ p h (gdL l x)
def Gv.bd{ρ:Type}(g:Gv a)(k:a->Option ρ):Option ρ:=match g with
 |.one x=>x.bind k
 |.gs l x=>gdL l (k x)
structure Cx where
 P:ω
 X:Nat->List Ct
 E:Nat->Option (Nat×Nat×Ty)
 G:Nat->Option Nat
 nn:Nat
 fu:Nat
structure St where
 F:Tr SV
 H:List Ob
 nb:Nat
 al:List (Nat×Nat×Nat)
 m:List (Nat×Nat×Nat)
def St.at(S:St)(t:Nat):SV:=match S.F.get t with
 |some v=>v
 |none=>.u'
def St.set(S:St)(d:Nat)(v:SV):St:=⟨S.F.set d v,S.H,S.nb,S.al,S.m⟩
def St.xB(S:St)(d:Option Nat)(v:SV):St:=match d with
 |some d=>S.set d v
 |none=>S
def cvC:θ->Option SC
 |.bool b=>δ (.b' b)
 |.int k n=>bif JZ k .u8 then(if 0<=n/\n<256 then δ (.c' (uF n.toNat))else ε)else δ (.i' k n)
 |.string s=>δ (.s' s.data.toList)
 |.slice ε 0 0=>δ .n'
 |.pointer ε=>δ (.o' 0)
 |.nilFunc=>δ (.o' 1)
 |.nilIface=>δ (.o' 2)
 |_=>ε
def cvL:List θ->Option (List SC)
 |[]=>δ []
 |v::l=>match cvC v with
  |some x=>match cvL l with
   |some q=>δ (x::q)
   |none=>ε
  |none=>ε
def cv:θ->SV
 |.agg cs=>match cvL cs.toList with
  |some l=>.a' l
  |none=>.u'
 |v=>match cvC v with
  |some x=>.c' x
  |none=>.u'
section
variable (C : Cx)
def St.ev(S:St):π->SV
 |.tmp t=>bif gA t C.nn then S.at t else .u'
 |.const v=>cv v
 |.global g=>match C.G g with
  |some id=>.c' (.q' id 0 0 0)
  |none=>.u'
 |.func k=>.c' (.f' k [])
end
structure Ro where
 g:List PD
 v:SV
 H:List Ob
 m:List (Nat×Nat×Nat)
abbrev Rv:=Option (List PD×SV)
def iW(x:SC):Rv:=δ ([],.c' x)
def Sb(p:Prop)[h:Decidable p](x:SC):Rv:=δ ([⟨p,h⟩],.c' x)
def i64(k:Α):Bool:=JZ k .i64
def bI(b:BinOp)(k:Α)(u v:Int):Rv:=
 match b with
 |.lss=>iW (.d' (u<v) inferInstance)
 |.leq=>iW (.d' (u<=v) inferInstance)
 |.gtr=>iW (.d' (v<u) inferInstance)
 |.geq=>iW (.d' (v<=u) inferInstance)
 |.eql=>iW (.d' (u=v) inferInstance)
 |.neq=>iW (.e' (u=v) inferInstance)
 |.add=>bif i64 k then Sb (acl (u+v)) (.i' k (u+v))else iW (.i' k (k.wrap (u+v)))
 |.sub=>bif i64 k then Sb (acl (u-v)) (.i' k (u-v))else iW (.i' k (k.wrap (u-v)))
 |.mul=>bif i64 k then Sb (acl (u*v)) (.i' k (u*v))else iW (.i' k (k.wrap (u*v)))
 |.quo=>bif i64 k then Sb (0<=u/\0<v/\acl u) (.i' k (u/v))else ε
 |.rem=>bif i64 k then Sb (0<=u/\0<v/\acl u) (.i' k (u%v))else ε
 |.and=>iW (.i' k (andI k u v))
 |.or=>iW (.i' k (orI k u v))
 |_=>ε
def bC(b:BinOp)(u v:UInt8):Rv:=
 match b with
 |.lss=>iW (.d' (u<v) inferInstance)
 |.leq=>iW (.d' (u<=v) inferInstance)
 |.gtr=>iW (.d' (v<u) inferInstance)
 |.geq=>iW (.d' (v<=u) inferInstance)
 |.eql=>iW (.d' (u=v) inferInstance)
 |.neq=>iW (.e' (u=v) inferInstance)
 |.add=>iW (.c' (u+v))
 |.sub=>iW (.c' (u-v))
 |.mul=>iW (.c' (u*v))
 |.quo=>Sb (v≠0) (.c' (u/v))
 |.rem=>Sb (v≠0) (.c' (u%v))
 |.and=>iW (.c' (u&&&v))
 |.or=>iW (.c' (u|||v))
 |_=>ε
def bS(b:BinOp)(u v:aC):Rv:=
 match b with
 |.eql=>iW (.d' (u=v) inferInstance)
 |.neq=>iW (.e' (u=v) inferInstance)
 |.lss=>iW (.b' (vI u v))
 |.gtr=>iW (.b' (!(vI u v||u==v)))
 |.add=>Sb (γ u+γ v<=9223372036854775807) (.s' (u++v))
 |_=>ε
def bB(b:BinOp)(u v:Bool):Rv:=match b with
 |.eql=>iW (.b' (u==v))
 |.neq=>iW (.b' (!(u==v)))
 |_=>ε
def sh8(z:Bool)(b:BinOp)(u:UInt8)(v:Int):Rv:=
 match b with
 |.shl=>bif z then iW (.c' (SU u v))else Sb (0<=v) (.c' (SU u v))
 |.shr=>bif z then iW (.c' (Xs u v))else Sb (0<=v) (.c' (Xs u v))
 |_=>ε
def RC:SC->Option Int
 |.i' _ n=>δ n
 |.c' x=>δ x.toNat
 |_=>ε
def shI(k:Α)(u v:Int):Rv:=match v with
 |.ofNat n=>iW (.i' k (u/((2^(min n k.bits):Nat))))
 |_=>ε
def qf:BinOp->Bool
 |.shr=>ζ
 |_=>η
def shlI(k:Α)(u v:Int):Rv:=match v with
 |.ofNat n=>iW (.i' k (IntKind.wrap k (u*((2^(min n k.bits):Nat)))))
 |_=>ε
def qg:BinOp->Bool
 |.shl=>ζ
 |_=>η
def bin(z:Bool)(b:BinOp)(x y:SC):Rv:=
 match x,y with
 |.i' k u,.i' a v=>bif qf b then shI k u v else bif qg b then shlI k u v else bif JZ k a then bI b k u v else ε
 |.c' u,.c' v=>bC b u v
 |.c' u,.i' _ v=>sh8 z b u v
 |.s' u,.s' v=>bS b u v
 |_,_=>ε
def xg:SC->Rv
 |.b' x=>iW (.b' (!x))
 |.d' p h=>iW (.e' p h)
 |.e' p h=>iW (.d' p h)
 |_=>ε
def ixC(x a:SC):Rv:=
 match x with
 |.s' l=>match RC a with
  |some i=>Sb (0<=i/\i<γ l) (.c' (at_ l i))
  |none=>ε
 |_=>ε
def T1(x:SC)(c d:Option SC):Rv:=
 match x with
 |.s' l=>match c,d with
  |some a,δ b=>match RC a,RC b with
   |some i,δ j=>Sb (0<=i/\i<=j/\j<=γ l) (.s' (sub l i j))
   |_,_=>ε
  |some a,ε=>match RC a with
   |some i=>Sb (0<=i/\i<=γ l) (.s' (cG (bF i) l))
   |none=>ε
  |none,δ b=>match RC b with
   |some j=>Sb (0<=j/\j<=γ l) (.s' (jV (bF j) l))
   |none=>ε
  |none,ε=>ε
 |_=>ε
section
variable (C : Cx)
def kindOf(t:Nat):Option Α:=match C.P.underlying t with
 |some (.int k)=>δ k
 |_=>ε
def wJ(t:Nat):Bool:=match C.P.underlying t with
 |some .string=>ζ
 |_=>η
def SR(t:Nat):Option Nat:=match C.P.underlying t with
 |some (.slice e)=>δ e
 |_=>ε
def arE(t:Nat):Option (Nat×Nat):=match C.P.underlying t with
 |some (.array n e)=>δ (n,e)
 |_=>ε
def Tj(t:Nat):Option Nat:=Xk C.P (sizeOf t)
def ZX(t:Nat):Option Bool:=Xk C.P (isAgg t)
def KA(e:Nat):Bool:=match C.P.underlying e with
 |some (.int k)=>JZ k .u8
 |_=>η
def isK(e:Nat)(k:Α):Bool:=match kindOf C e with
 |some a=>JZ a k
 |none=>η
def T6(s t:Nat)(x:SC):Rv:=
 match x with
 |.c' u=>bif KA C s then(match kindOf C t with
  |some .u8=>iW (.c' u)
  |some .i64=>iW (.i' .i64 u.toNat)
  |some .i32=>iW (.i' .i32 u.toNat)
  |_=>ε)else ε
 |.i' k n=>bif isK C s k then(match kindOf C t with
  |some .u8=>iW (.c' (pb n))
  |some k'=>bif JZ k k' then(bif i64 k then Sb (acl n) (.i' k n)else Sb (IntKind.wrap k' n=n) (.i' k n))else iW (.i' k' (k'.wrap n))
  |none=>bif wJ C t then iW (.s' (ο n).data.toList)else ε)else ε
 |.s' l=>bif wJ C s then(bif wJ C t then iW (.s' l)else ε)else ε
 |_=>ε
def zC(t:Nat):Option (List SC):=match Xk C.P (zeroValue t)with
 |some v=>cvL v.cells.toList
 |none=>ε
def Vq(t f:Nat):Option (Nat×Nat×Bool):=match C.P.underlying t with
 |some (.struct c)=>match fU c.toList f with
  |some b=>match Tj C b.type,ZX C b.type with
   |some n,δ a=>δ (b.offset,n,a)
   |_,_=>ε
  |none=>ε
 |_=>ε
def wC(l:List SC)(off n:Nat)(a:Bool):Option SV:=
 bif a then(match Am (Ap l off) n with
  |some q=>bif knL q then δ (.a' q)else ε
  |none=>ε)else match fU l off with
  |some x=>bif x.kn then δ (.c' x)else ε
  |none=>ε
def Ly(H:List Ob)(r:Rv):Option Ro:=match r with
 |some (g,v)=>δ ⟨g,v,H,[]⟩
 |none=>ε
def nJ(H:List Ob)(v:Option SV):Option Ro:=match v with
 |some v=>δ ⟨[],v,H,[]⟩
 |none=>ε
variable {a:Type}
def hY(x:SV)(f:SC->Option a):Option a:=match x with
 |.c' x=>f x
 |_=>ε
def If(c:π->SV)(x:Option π)(f:Option SC->Option a):Option a:=match x with
 |none=>f ε
 |some o=>hY (c o) λb=>f (δ b)
end
@[reducible] def Ty.qh:(t:Ty)->Inhabited t.T
 |.i' _=>⟨0⟩
 |.c'=>⟨0⟩
 |.s'=>⟨[]⟩
 |.b'=>⟨η⟩
 |.u'=>⟨()⟩
 |.w' x=>x.qh
 |.pr x y=>⟨(x.qh.default,y.qh.default)⟩
 |.sm x _=>⟨.inl x.qh.default⟩
 |.l' _ _ x=>⟨[]⟩
 |.y'=>⟨[]⟩
 |.r' x=>⟨[]⟩
 |.p' _ x=>x.qh
 |.z'=>⟨()⟩
 |.o' _=>⟨()⟩
 |.f' _ x=>x.qh
def Z7:(t:Ty)->List t.T->Int->t.T
 |.c',l,j=>at_ l j
 |t,l,j=> @el t.T t.qh l j
def ry(t:Ty)(l:List t.T)(j:Int):List SC:=(t.lay 0 0 (Z7 t l j)).1
section
variable (C : Cx)
def wH(H:List Ob)(t:Ty)(x:SC):Option (List t.T):=match x with
 |.n'=>δ []
 |.l' id=>Hu t (fU H id)
 |.k' id m=>match fU H id with
  |some (.bl _ cs)=>qR t m cs
  |_=>ε
 |_=>ε
def CB(sz:Nat)(j:Int)(t:Ty):Bool:=bif cV sz t.sz then ζ else match j with
 |.ofNat 0=>ζ
 |_=>η
def sR(H:List Ob)(t:Ty)(l:List t.T)(j:Int)(sz off n:Nat)(a:Bool):Option Ro:=
 match wC (ry t l j) off n a with
 |some v=>bif (bif CB sz j t then t.flat else η)then δ ⟨[⟨0<=j/\j<γ l,inferInstance⟩],v,H,[]⟩else ε
 |none=>ε
def W5(t:Ty):List t.T->List SC
 |[]=>[]
 |x::l=>(t.lay 0 0 x).1++W5 t l
def Km(H:List Ob)(t:Ty)(l:List t.T)(j:Int)(off n:Nat)(a:Bool):Option Ro:=match j with
 |.ofNat 0=>bif t.flat then nJ H (wC (W5 t l) off n a)else ε
 |_=>ε
def lJ(H:List Ob)(t:Nat)(x:SC):Option Ro:=match Tj C t,ZX C t with
 |some n,δ a=>bif cV n 0 then ε else match x with
  |.p' id off=>match fU H id with
   |some (.bl _ cs)=>nJ H (wC cs off n a)
   |_=>ε
  |.q' id j b off=>match fU H id with
   |some (.rw _ _ t' l)=>sR H t' l j b off n a
   |some (.ro t' l)=>(match sR H t' l j b off n a with
    |some r=>δ r
    |none=>Km H t' l j off n a)
   |some (.br _ l)=>sR H .c' l j b off n a
   |_=>ε
  |_=>ε
 |_,_=>ε
def vn(t:Ty)(l:List t.T)(j:Int)(off:Nat)(vs:List SC):Option (List t.T):=match vL (ry t l j) off vs with
 |some cs=>match t.DC cs with
  |some (x,[])=>δ (gQ l (bF j) x)
  |_=>ε
 |none=>ε
def stoE(H:List Ob)(id:Nat)(j:Int)(len:Nat)(o:Ob):Option Ro:=δ ⟨[⟨0<=j/\j<len,inferInstance⟩],.u',kA H id o,[(id,0,1)]⟩
def Jm(H:List Ob)(t:Nat)(x:SC)(v:SV):Option Ro:=match Tj C t,v.cells with
 |some n,δ a=>bif cV (γ a) n then(match x with
  |.p' id off=>match fU H id with
   |some (.bl e cs)=>match vL cs off a with
    |some d=>δ ⟨[],.u',kA H id (.bl e d),[(id,off,off+n)]⟩
    |none=>ε
   |_=>ε
  |.q' id j f off=>bif cV n 0 then ε else match fU H id with
   |some (.rw e b t' l)=>match vn t' l j off a with
    |some l'=>bif (bif CB f j t' then t'.flat else η)then stoE H id j (γ l) (.rw e b t' l')else ε
    |none=>ε
   |some (.br m l)=>match v with
    |.c' y=>match y.rC with
     |some c=>bif (bif CB f j .c' then cV off 0 else η)then stoE H id j (γ l) (.br m (gQ l (bF j) c))else ε
     |none=>ε
    |_=>ε
   |_=>ε
  |_=>ε)else ε
 |_,_=>ε
def bcf(t f:Nat)(x:SC):Option SV:=match Vq C t f with
 |some q=>bif cV q.2.1 0 then ε else match x with
  |.p' id off=>δ (.c' (.p' id (off+q.1)))
  |.q' id j a off=>δ (.c' (.q' id j a (off+q.1)))
  |_=>ε
 |none=>ε
def UF(H:List Ob)(id:Nat):Option Nat:=match fU H id with
 |some (.rw _ _ t l)=>bif t.flat then δ (γ l) else ε
 |some (.ro t l)=>bif t.flat then δ (γ l) else ε
 |some (.br _ l)=>δ (γ l)
 |_=>ε
def sw(H:List Ob)(t:Nat)(x d:SC):Option Ro:=match RC d with
 |some j=>match SR C t with
  |some e=>match Tj C e with
   |some a=>match x with
    |.l' id=>match UF H id with
     |some m=>δ ⟨[⟨0<=j/\j<m,inferInstance⟩],.c' (.q' id j a 0),H,[]⟩
     |none=>ε
    |.k' id m=>δ ⟨[⟨0<=j/\j<m,inferInstance⟩],.c' (.p' id (j.toNat*a)),H,[]⟩
    |_=>ε
   |none=>ε
  |none=>match arE C t with
   |some q=>match Tj C q.2 with
    |some a=>match x with
     |.p' id off=>bif Nat.ble 2 q.1 then δ ⟨[⟨0<=j/\j<q.1,inferInstance⟩],.c' (.p' id (off+j.toNat*a)),H,[]⟩else ε
     |.q' id f c b=>bif Nat.ble 2 q.1 then(bif cV c 0 then(bif cV b 0 then δ ⟨[⟨0<=j/\j<q.1,inferInstance⟩],.c' (.q' id j a 0),H,[]⟩else ε)else ε)else ε
     |_=>ε
    |none=>ε
   |none=>ε
 |none=>ε
def AB(H:List Ob)(s t:Nat)(x:SC):Option Ro:=match SR C s with
 |some e=>bif wJ C t then(bif KA C e then(match wH H .c' x with
  |some l=>δ ⟨[],.c' (.s' l),H,[]⟩
  |none=>ε)else ε)else ε
 |none=>match x with
  |.s' l=>match SR C t with
   |some e=>bif wJ C s then(bif KA C e then δ ⟨[],.c' (.l' (γ H)),H++[.br (γ l) l],[]⟩else ε)else ε
   |none=>Ly H (T6 C s t x)
  |_=>Ly H (T6 C s t x)
def Yz(H:List Ob)(t:Nat)(x:SC):Rv:=match x with
 |.s' l=>bif wJ C t then iW (.i' .i64 (γ l))else ε
 |x=>match SR C t with
  |some _=>(match x with
   |.l' id=>(match fU H id with
    |some o=>iW (.i' .i64 o.len)
    |none=>ε)
   |.k' _ m=>iW (.i' .i64 m)
   |.n'=>iW (.i' .i64 0)
   |_=>ε)
  |none=>ε
def mmC(b:Builtin)(x y:SC):Rv:=match b,x,y with
 |.min,.i' k u,.i' k' v=>bif JZ k k' then iW (.i' k (min u v))else ε
 |.max,.i' k u,.i' k' v=>bif JZ k k' then iW (.i' k (max u v))else ε
 |_,_,_=>ε
def blL:Option Ob->Nat
 |some (.bl _ cs)=>rY (γ cs)
 |_=>1
def sU(H:List Ob)(t:Nat)(x y:SC):Option Ro:=match C.E t with
 |some (e,b,τ)=>match x with
  |.n'=>match wH H τ y with
   |some a=>δ ⟨[⟨(γ ([]:List τ.T)+γ a)*b<=140737488355328,inferInstance⟩],.c' (.l' (γ H)),H++[.rw e b τ ([]++a)],[]⟩
   |none=>ε
  |.l' id=>match oz H id (.l' e b τ),wH H τ y with
   |some l,δ a=>δ ⟨[⟨(γ l+γ a)*b<=140737488355328,inferInstance⟩],.c' (.l' (γ H)),kA H id (.dd (γ l))++[.rw e b τ (l++a)],[(id,0,1)]⟩
   |_,_=>ε
  |.k' id m=>match Ty.rd η H (.l' e b τ) 0 [.k' id m],wH H τ y with
   |some (l,_,_),δ a=>δ ⟨[⟨(γ l+γ a)*b<=140737488355328,inferInstance⟩],.c' (.l' (γ H)),kA H id (.dd 0)++[.rw e b τ (l++a)],[(id,0,blL (fU H id))]⟩
   |_,_=>ε
  |_=>ε
 |none=>ε
def zU8(e:Nat):Bool:=match C.P.info? e with
 |some i=>(match i.zero with
  |some (.int .u8 (.ofNat 0))=>ζ
  |_=>η)
 |none=>η
def Ud(H:List Ob)(t s:Nat)(x:SC)(a:aC):Option Ro:=bif wJ C s then(match C.E t with
 |some (e,b,.c')=>bif cV b 1 then(bif zU8 C e then(match x with
  |.n'=>δ ⟨[⟨(γ ([]:aC)+γ a)*1<=140737488355328,inferInstance⟩],.c' (.l' (γ H)),H++[.rw e 1 .c' ([]++a)],[]⟩
  |.l' id=>(match oz H id (.l' e 1 .c')with
   |some l=>δ ⟨[⟨(γ l+γ a)*1<=140737488355328,inferInstance⟩],.c' (.l' (γ H)),kA H id (.dd (γ l))++[.rw e 1 .c' (l++a)],[(id,0,1)]⟩
   |none=>ε)
  |_=>ε)else ε)else ε
 |_=>ε)else ε
def Xm(H:List Ob)(t s:Nat)(x:SC):SC->Option Ro
 |.s' a=>Ud C H t s x a
 |_=>ε
def LZ(d:π->SV)(H:List Ob)(b:Builtin)(gK:List π)(e:List Nat):Option Ro:=match b,gK,e with
 |.len,[x],[t]=>Ly H (hY (d x) (Yz C H t))
 |.append,[x,y],[t,t']=>bif cV t t' then hY (d x) λa=>hY (d y) λc=>sU C H t a c else hY (d x) λa=>hY (d y) λc=>Xm C H t t' a c
 |b,[x,y],_=>Ly H (hY (d x) λa=>hY (d y) λc=>mmC b a c)
 |_,_,_=>ε
def Hj(sz:Nat->Option (Nat×Nat))(b:π->SV):List (Nat×π)->List SC->Option (List SC)
 |[],l=>δ l
 |p::c,l=>match sz p.1,(b p.2).cells with
  |some q,δ a=>bif cV (γ a) q.2 then(match vL l q.1 a with
   |some l'=>Hj sz b c l'
   |none=>ε)else ε
  |_,_=>ε
def zR(z:List SC):Nat->List SC
 |0=>[]
 |n+1=>z++zR z n
def Jk:List Field->Option (List (Nat×Nat))
 |[]=>δ []
 |f::a=>match Tj C f.type with
  |some n=>match Jk a with
   |some l=>δ ((f.offset,n)::l)
   |none=>ε
  |none=>ε
def plOf(t:Nat):Option (Nat->Option (Nat×Nat)):=match C.P.underlying t with
 |some (.struct a)=>match Jk C a.toList with
  |some l=>δ (fU l)
  |none=>ε
 |some (.array _ e)=>match Tj C e with
  |some n=>δ λi=>δ (i*n,n)
  |none=>ε
 |_=>ε
def Jn(c:π->SV)(t:Nat)(a:List (Nat×π)):Option SV:=match zC C t,plOf C t with
 |some z,δ b=>match Hj b c a z with
  |some cs=>δ (.a' cs)
  |none=>ε
 |_,_=>ε
def ari(b:π->SV)(H:List Ob)(t len:Nat)(a:List (Nat×π)):Option Ro:=match SR C t with
 |some e=>match zC C e,Tj C e with
  |some z,δ n=>bif cV (γ z) n then(bif Nat.ble (len*n) 100000 then(match Hj (λi=>δ (i*n,n)) b a (zR z len)with
   |some cs=>δ ⟨[],.c' (.k' (γ H) len),H++[.bl e cs],[]⟩
   |none=>ε)else ε)else ε
  |_,_=>ε
 |none=>ε
def isZ:π->Bool
 |.const (.int _ (.ofNat 0))=>ζ
 |_=>η
def ig:π->Bool
 |.const (.int _ (.ofNat _))=>ζ
 |_=>η
def Ef(H:List Ob)(t:Nat)(z:Bool)(x y:SC):Option Ro:=match C.E t with
 |some (e,b,τ)=>bif z then(match RC y with
   |some c=>δ ⟨[⟨0<=c/\b*c<=281474976710656,dMk b c⟩],.c' (.l' (γ H)),H++[.rw e b τ []],[]⟩
   |_=>ε)else ε
 |none=>ε
def kq:List SV->Option (List Nat)
 |[]=>δ []
 |v::l=>match v with
  |.c' (.p' id off)=>bif cV off 0 then(match kq l with
   |some q=>δ (id::q)
   |none=>ε)else ε
  |_=>ε
def Ys(b:π->SV)(f:Fn)(first cap:List π):Option SV:=match f with
 |.func k=>match first with
  |[]=>match kq (cap.map b)with
   |some a=>δ (.c' (.f' k a))
   |none=>ε
  |_=>ε
 |_=>ε
def DQ(x:SC):Option SV:=match x with
 |.p' id off=>δ (.c' (.p' id off))
 |.q' id j b off=>δ (.c' (.q' id j b off))
 |.f' k a=>δ (.c' (.f' k a))
 |_=>ε
def PO(t:Nat):Bool:=match C.P.underlying t with
 |some (.pointer _)=>ζ
 |_=>η
def isBool(t:Nat):Bool:=match C.P.underlying t with
 |some .bool=>ζ
 |_=>η
def FB(t:Nat):Bool:=match C.P.underlying t with
 |some (.slice _)=>ζ
 |_=>η
def FC:BinOp->Bool
 |.eql=>ζ
 |_=>η
def la(z:Bool)(t:Nat)(b:BinOp)(x y:SC):Rv:=
 match x,y with
 |.p' _ _,.o' j=>bif cV j 0 then(bif PO C t then(bif FC b then iW (.b' η)else ε)else ε)else ε
 |.o' j,.o' a=>bif cV j 0 then(bif cV a 0 then(bif PO C t then(bif FC b then iW (.b' ζ)else ε)else ε)else ε)else ε
 |.k' _ _,.n'=>bif FB C t then(bif FC b then iW (.b' η)else ε)else ε
 |.n',.n'=>bif FB C t then(bif FC b then iW (.b' ζ)else ε)else ε
 |x,y=>match x.rB,y.rB with
  |some u,δ v=>bif isBool C t then bB b u v else ε
  |_,_=>bin z b x y
def bh:List SC->Option (aC×aC)
 |[.s' a,.s' b]=>δ (a,b)
 |_=>ε
def UO(t:Nat):Bool:=bif wJ C t then(match ZX C t with
 |some a=> !a
 |none=>η)else η
def yh(t:Nat):Bool:=match C.P.underlying t with
 |some (.struct a)=>(match a.toList with
  | [f, g] => bif UO C f.type then (bif UO C g.type then (bif cV f.offset 0 then (bif cV g.offset 1 then (bif f.name == "_" then η else (bif g.name == "_" then η else (bif C.P.stoodInHeld t then η else !C.P.eqGuardType C.P.depth t))) else η) else η) else η) else η
  |_=>η)
 |_=>η
def lb(z:Bool)(t:Nat)(b:BinOp)(x y:SV):Rv:=match x with
 |.a' l=>(match y with
  |.a' d=>(match bh l with
   |some u=>(match bh d with
    |some v=>bif yh C t then(match b with
     |.eql=>iW (.d' (u=v) inferInstance)
     |.neq=>iW (.e' (u=v) inferInstance)
     |_=>ε)else ε
    |none=>ε)
   |none=>ε)
  |_=>ε)
 |x=>hY x λa=>hY y λc=>la C z t b a c
def Ie(H:List Ob)(t:Nat)(x:SC)(d f:Option SC):Option Ro:=match x with
 |.l' id=>(match fU H id with
  |some (.ro τ l)=>(match SR C t with
   |some e=>(match Tj C e with
    |some c=>bif cV c τ.sz then(bif τ.flat then(match d,f with
     |none,δ b=>(match RC b with
      |some j=>δ ⟨[⟨0<=j/\j<=γ l,inferInstance⟩],.c' (.l' (γ H)),H++[.ro τ (jV (bF j) l)],[]⟩
      |none=>ε)
     |some a,ε=>(match RC a with
      |some j=>δ ⟨[⟨0<=j/\j<=γ l,inferInstance⟩],.c' (.l' (γ H)),H++[.ro τ (cG (bF j) l)],[]⟩
      |none=>ε)
     |_,_=>ε)else ε)else ε
    |none=>ε)
   |none=>ε)
  |_=>ε)
 |_=>ε
def L0(t:Nat)(cs:List SC)(i:SC):Rv:=match arE C t with
 |some q=>bif wJ C q.2 then(match Tj C q.2,ZX C q.2 with
  |some 1,δ η=>(match qR .s' q.1 cs,RC i with
   |some l,δ j=>Sb (0<=j/\j<γ l) (.s' (Z7 .s' l j))
   |_,_=>ε)
  |_,_=>ε)else ε
 |none=>ε
def jC(d:π->SV)(H:List Ob):Op->Option Ro
 |.move x=>nJ H (match d x with
  |.u'=>ε
  |v=>δ v)
 |.assign x=>nJ H (match d x with
  |.u'=>ε
  |v=>δ v)
 |.pick c a b=>hY (d c) λx=>match x with
  |.b' t=>nJ H (match(bif t then d a else d b)with
   |.u'=>ε
   |v=>δ v)
  |_=>ε
 |.binOp b t x y _=>Ly H (lb C (ig y) t b (d x) (d y))
 |.unOp .not _ x=>Ly H (hY (d x) xg)
 |.convert s t x=>hY (d x) (AB C H s t)
 |.index t x g=>bif wJ C t then Ly H (hY (d x) λa=>hY (d g) λi=>ixC a i)else(match d x with
  |.a' cs=>Ly H (hY (d g) λi=>L0 C t cs i)
  |_=>ε)
 |.slice t x k m ε=>bif wJ C t then Ly H (hY (d x) λa=>If d k λi=>If d m λj=>T1 a i j)else hY (d x) λa=>If d k λi=>If d m λj=>Ie C H t a i j
 |.extract x i=>match d x with
  |.t' l=>match fU l i with
   |some y=>δ ⟨[],y.sv,H,[]⟩
   |none=>ε
  |_=>ε
 |.field t x f=>match d x with
  |.a' l=>match Vq C t f with
   |some q=>nJ H (wC l q.1 q.2.1 q.2.2)
   |none=>ε
  |_=>ε
 |.build t h=>nJ H (Jn C d t h.toList)
 |.alloc e=>match zC C e with
  |some z=>δ ⟨[],.c' (.p' (γ H) 0),H++[.bl e z],[]⟩
  |none=>ε
 |.box e v=>match(d v).cells with
  |some cs=>δ ⟨[],.c' (.p' (γ H) 0),H++[.bl e cs],[]⟩
  |none=>ε
 |.buildSlice t n h=>ari C d H t n h.toList
 |.load t x=>hY (d x) λa=>lJ C H t a
 |.store t x v=>hY (d x) λa=>Jm C H t a (d v)
 |.fieldAddr t x f=>hY (d x) λa=>nJ H (bcf C t f a)
 |.indexAddr t x g=>hY (d x) λa=>hY (d g) λi=>sw C H t a i
 |.makeSlice t n c=>hY (d n) λa=>hY (d c) λi=>Ef C H t (isZ n) a i
 |.makeFunc f a b=>nJ H (Ys d f a.toList b.toList)
 |.nilCheck x=>hY (d x) λa=>nJ H (DQ a)
 |.call c=>match c.callee with
  |.builtin b=>LZ C d H b c.args.toList c.argTypes.toList
  |_=>ε
 |_=>ε
def opP(a:π->SV)(H:List Ob)(op:Op):Option Ro:=match op with
 |.convert s t x=>Ly H (hY (a x) (T6 C s t))
 |.slice t x c d b=>bif wJ C t then jC C a H (.slice t x c d b)else ε
 |op=>jC C a H op
end
inductive Ex where
 |nm
 |xt (id:Nat)
abbrev Rg:=Nat×Nat×Nat
inductive Sc where
 |n'
 |s' (a b:Sc)
 |j' (J:List Key) (R:List Nat) (a b:Sc)
 |r' (J:List Key) (R:List Nat) (a b:Sc)
 |l' (J:List Key) (a:Sc)
 |y' (a:Sc)
 |z' (a:Sc)
def Sc.A:Sc->Sc
 |.s' a _=>a
 |.j' _ _ a _=>a
 |.r' _ _ a _=>a
 |.l' _ a=>a
 |.y' a=>a
 |_=>.n'
def Sc.B:Sc->Sc
 |.s' _ b=>b
 |.j' _ _ _ b=>b
 |.r' _ _ _ b=>b
 |.z' b=>b
 |_=>.n'
def mF(t:Nat):List Nat->Bool
 |[]=>η
 |x::l=>bif cV t x then ζ else mF t l
def GQ(l r:List Nat):Bool:=match l with
 |[]=>ζ
 |x::l=>bif mF x r then η else GQ l r
def Rw:List Nat->Bool
 |[]=>ζ
 |x::l=>bif mF x l then η else Rw l
def eY(id j:Nat):List Rg->Bool
 |[]=>η
 |q::l=>bif cV q.1 id then(bif Nat.ble q.2.1 j then(bif gA j q.2.2 then ζ else eY id j l)else eY id j l)else eY id j l
def T3(id a:Nat)(b:List Rg):Nat->Bool
 |0=>ζ
 |n+1=>bif eY id (a+n) b then T3 id a b n else η
def St.ok(S:St)(q:Rg):Bool:=bif gA q.1 S.nb then T3 q.1 q.2.1 S.al (q.2.2-q.2.1)else ζ
def St.Gu(S:St):List Rg->Bool
 |[]=>ζ
 |x::l=>bif S.ok x then S.Gu l else η
def iG:List Src->List Nat
 |[]=>[]
 |s::l=>s.own++iG l
def ky:List Src->List Nat
 |[]=>[]
 |s::l=>s.bor++ky l
def wU(H:List Ob)(id:Nat):Rg:=(id,0,match fU H id with
 |some (.bl _ cs)=>rY (γ cs)
 |_=>1)
def tN(H:List Ob)(id:Nat):Rg:=(id,0,match fU H id with
 |some (.bl _ cs)=>γ cs
 |_=>1)
def AG(H:List Ob):List Nat->List Rg
 |[]=>[]
 |x::l=>tN H x::AG H l
def Wm(H:List Ob):List Nat->List Rg
 |[]=>[]
 |x::l=>wU H x::Wm H l
def St.take(S:St)(ss:List Src):Bool:=bif Rw (iG ss)then S.Gu (Wm S.H (iG ss))else η
def kill(H:List Ob):List Nat->List Ob
 |[]=>H
 |x::l=>kill (kA H x (.dd (gJ H x))) l
def SF:List SC->Nat->Nat->List SC
 |[],_,_=>[]
 |x::l,a,n=>match a with
  |a+1=>x::SF l a n
  |0=>match n with
   |0=>x::l
   |n+1=>.u'::SF l 0 n
def Wj(H:List Ob):List Rg->List Ob
 |[]=>H
 |q::l=>match fU H q.1 with
  |some (.bl e cs)=>Wj (kA H q.1 (.bl e (SF cs q.2.1 (q.2.2-q.2.1)))) l
  |_=>Wj (kA H q.1 (.dd (gJ H q.1))) l
def NV(a:Nat->Nat):List Key->List Rg
 |[]=>[]
 |k::l=>match k with
  |.s' _ _=>NV a l
  |.o' t off x=>(a t,off,off+x.cn)::NV a l
  |.w' t _=>(a t,0,1)::NV a l
def wI:Option Ob->Bool
 |some (.rw _ _ _ _)=>ζ
 |some (.br _ _)=>ζ
 |_=>η
def wA(H:List Ob):List SC->List Nat
 |[]=>[]
 |x::l=>match x with
  |.l' id=>bif wI (fU H id)then id::wA H l else wA H l
  |.k' id _=>match fU H id with
   |some (.bl _ _)=>id::wA H l
   |_=>wA H l
  |_=>wA H l
def Ty.KD:Ty->Bool
 |.w' x=>x.KD
 |.pr x y=>bif x.KD then ζ else y.KD
 |.l' _ _ _=>ζ
 |.y'=>ζ
 |_=>η
def zy(a:Nat->Nat)(F:Nat->SV)(H:List Ob):List Key->List Nat
 |[]=>[]
 |k::l=>(match k with
  |.s' t x=>bif x.KD then(match(F t).cells with
   |some cs=>wA H cs
   |none=>[])else []
  |.o' t off x=>bif x.KD then(match fU H (a t)with
   |some (.bl _ cs)=>match Am (Ap cs off) x.cn with
    |some q=>wA H q
    |none=>[]
   |_=>[])else []
  |.w' _ _=>[])++zy a F H l
def Key.B3:List Key->List Nat
 |[]=>[]
 |k::l=>match k with
  |.s' t _=>t::Key.B3 l
  |_=>Key.B3 l
def del(F:Tr SV):List Nat->Tr SV
 |[]=>F
 |x::l=>del (F.set x .u') l
def Gj:List ψ->List Nat
 |[]=>[]
 |o::l=>match o.dst with
  |some d=>d::Gj l
  |none=>Gj l
noncomputable def wr(c:Code):List Nat:=Code.rec [] (λ_ d _=>Gj d.toList) (λ_ _ a b=>a++b) (λ_ _ _ a b=>a++b) (λ_ _ a=>a) (λ_ a=>a) (λ_ e _ _ a b=>e.toList++(a++b))
 (λ_=>[]) (λ_ a=>a) (λ_=>[]) (λ_=>[]) [] (λ_=>[]) c
def SV.pid:SV->Nat
 |.c' (.p' id _)=>id
 |.c' (.l' id)=>id
 |.c' (.k' id _)=>id
 |.c' (.f' _ (id::_))=>id
 |_=>0
def St.ix(S:St)(t:Nat):Nat:=(S.at t).pid
def St.rz(S:St)(J:List Key):List Nat:=zy S.ix S.at S.H J
def St.Rs(S:St)(J:List Key):List Rg:=NV S.ix J++Wm S.H (S.rz J)
def KU:List Rg->Bool
 |[]=>ζ
 |q::l=>bif (VO q l)then KU l else η
where VO (q:Rg):List Rg->Bool
 |[]=>ζ
 |r::l=>bif cV q.1 r.1 then(bif Nat.ble q.2.2 r.2.1 then VO q l else(bif Nat.ble r.2.2 q.2.1 then VO q l else η))else VO q l
def ko(S:St):List Key->Bool
 |[]=>ζ
 |k::l=>bif (match k with
  |.o' t off x=>(match fU S.H (S.ix t)with
   |some (.bl _ cs)=>Nat.ble (off+x.cn) (γ cs)
   |_=>η)
  |.w' t x=>wI (fU S.H (S.ix t))
  |_=>ζ)then ko S l else η
def St.okJ(S:St)(J:List Key):Bool:=bif S.Gu (S.Rs J)then(bif KU (S.Rs J)then(bif Rw (Key.B3 J)then ko S J else η)else η)else η
def St.Zj(S:St):St:=⟨S.F,S.H,S.nb,S.al,[]⟩
def IZ(n:Nat)(a:List Rg):List Rg->Bool
 |[]=>ζ
 |q::l=>bif (bif gA q.1 n then T3 q.1 q.2.1 a (q.2.2-q.2.1)else ζ)then IZ n a l else η
def tk(S:St)(J:List Key)(ss:List Src):Bool:=bif Rw (iG ss)then tkI (γ S.H) (S.rz J) (iG ss)else η
where tkI (n:Nat) (e:List Nat):List Nat->Bool
 |[]=>ζ
 |id::l=>bif (bif Nat.ble n id then ζ else mF id e)then tkI n e l else η
def leaf(S:St)(J:List Key)(S2:St):Option (rQ J).T:=match rdK S.ix S2.at S2.H J with
 |some (v,a)=>bif tk S J a then(bif IZ (γ S.H) (S.Rs J) S2.m then δ v else ε)else ε
 |none=>ε
def St.out(S:St)(J:List Key)(w:List Nat)(v:(rQ J).T):St:=match Ib S.ix (del S.F w,kill (Wj S.H (NV S.ix J)) (S.rz J)) J v with
 |(F,H)=>⟨F,H,S.nb,S.al,S.Rs J++S.m⟩
def St.head(S:St)(J:List Key)(w:List Nat)(v:(rQ J).T):St:=match Ib S.ix (del S.F w,kill (Wj S.H (NV S.ix J)) (S.rz J)) J v with
 |(F,H)=>⟨F,H,S.nb,S.al,[]⟩
def St.as(S2 S:St)(J:List Key):St:=⟨S2.F,S2.H,S2.nb,S2.al,S2.m++(S.Rs J++S.m)⟩
section
variable (C : Cx) (τ : Ty) (res : St -> Option τ.T)
def Pd(d:Option Nat)(v:SV):Bool:=match d,v with
 |none,.u'=>ζ
 |none,_=>η
 |some _,.u'=>η
 |some _,_=>ζ
def St.run(S:St)(d:Option Nat)(v:SV)(H:List Ob)(m:List Rg):Option St:=bif Pd d v then(bif S.Gu m then δ (St.xB ⟨S.F,H,S.nb,S.al,m++S.m⟩ d v)else ε)else ε
def Jv(ss:List Src)(j:Nat):Nat:=match fU ss j with
 |some (.o' id _)=>id
 |_=>0
def Rk.ids:List Rk->List Nat
 |[]=>[]
 |k::l=>match k with
  |.r' _=>Rk.ids l
  |.o' id _ _=>id::Rk.ids l
  |.w' id _=>id::Rk.ids l
def lN(outs:List Nat):List Ob->Nat->List Src->List Nat
 |[],_,_=>[]
 |_::_,_,[]=>[]
 |o::a,j,s::b=>(bif wI (δ o)then(bif mF j outs then []else s.own)else [])++lN outs a (j+1) b
def lI(ss:List Src):List Nat->List Nat
 |[]=>[]
 |j::l=>Jv ss j::lI ss l
def lQ(c:Ct)(S:St)(a:(gL c.a).T)(ss:List Src):List Rg:=Wm S.H (lN (Rk.ids c.r) (jZ [] c.a a).2 0 ss)++AG S.H (lI ss (Rk.ids c.r))
def lP(c:Ct)(S:St)(d:Option Nat)(a:(gL c.a).T)(ss:List Src)(y:(iF c.r).T):St:=
 match gM (Jv ss) ([],kill S.H (lN (Rk.ids c.r) (jZ [] c.a a).2 0 ss)) c.r y with
 |(l,H)=>St.xB ⟨S.F,H,S.nb,S.al,lQ c S a ss++S.m⟩ d (mA l)
def Ty.nb:Ty->Bool
 |.w' x=>x.nb
 |.pr x y=>bif x.nb then y.nb else η
 |.r' _=>η
 |.p' _ x=>x.nb
 |.f' _ x=>x.nb
 |_=>ζ
def Lt(H:List Ob)(ss:List Src):List Rk->Bool
 |[]=>ζ
 |k::l=>bif (match k with
  |.r' x=>bif x.tz then η else x.nb
  |.o' j e x=>bif x.nb then(match fU ss j with
   |some (.o' id w)=>bif w then(match fU H id with
    |some (.bl a cs)=>bif cV a e then cV (γ cs) x.cn else η
    |_=>η)else η
   |_=>η)else η
  |.w' j x=>(match fU ss j with
   |some (.o' id w)=>bif w then wI (fU H id)else η
   |_=>η))then Lt H ss l else η
def nB(c:Ct)(S:St)(a:(gL c.a).T)(ss:List Src):Bool:=
 bif Rw (iG ss)then(bif GQ (ky ss) (iG ss)then(bif Lt S.H ss c.r then S.Gu (lQ c S a ss)else η)else η)else η
def mQ{ρ:Ty}(S:St)(d:Option Nat)(vs:List SV)(b:St->Option ρ.T):List Ct->Option ρ.T
 |[]=>ε
 |c::l=>match OD S.H c.a vs with
  |some (a,e)=>bif nB c S a e then(c.f a).bd λy=>b (lP c S d a e y)else ε
  |none=>mQ S d vs b l
variable {b:Ty}
def callD(S:St)(d:Option Nat)(k:Nat)(vs:List SV)(a:St->Option b.T):Option b.T:=mQ S d vs a (C.X k)
def fnV:SV->Option (Nat×List Nat)
 |.c' (.f' k a)=>δ (k,a)
 |_=>ε
def VU:List Nat->List SV
 |[]=>[]
 |id::l=>.c' (.p' id 0)::VU l
def da(S:St)(d:Option Nat)(op:Op)(ρ:St->Option b.T):Option b.T:=
 match jC C (S.ev C) S.H op with
 |some ⟨g,v,H,m⟩=>match S.run d v H m with
  |some e=>gdL g (ρ e)
  |none=>ε
 |none=>match op with
  |.call c=>match c.callee with
   |.value f=>match fnV (S.ev C f)with
    |some (k,a)=>callD C S d k (c.args.toList.map (S.ev C)++VU a) ρ
    |none=>ε
   |_=>ε
  |_=>ε
def isG(a:List ψ)(i:Nat):Bool:=match a with
 |[]=>η
 |o::l=>match o.guard with
  |some q=>bif cV q.1 i then ζ else isG l i
  |none=>isG l i
variable {a:Type}
def U7(v:SV)(y n:Option a):Option a:=match v with
 |.c' (.b' x)=>bif x then y else n
 |.c' (.d' p h)=> @ite _ p h y n
 |.c' (.e' p h)=> @ite _ p h n y
 |_=>ε
def L7:Op->Option π
 |.move x=>δ x
 |.assign x=>δ x
 |_=>ε
def cz(ρ:List ψ)(i:Nat)(S:St)(o:ψ)(a:St->Option b.T):Option b.T:=
 bif isG ρ i then(match L7 o.op with
  |some x=>match o.dst with
   |some d=>U7 (S.ev C x) (a (S.set d (.c' (.b' ζ)))) (a (S.set d (.c' (.b' η))))
   |none=>ε
  |none=>da C S o.dst o.op a)
 else da C S o.dst o.op a
def beqB(a b:Bool):Bool:=bif a then b else !b
def GA(a:List ψ)(i:Nat):Option Nat:=match fU a i with
 |some o=>o.dst
 |none=>ε
def TB(a:List ψ)(i:Nat)(S:St)(o:ψ)(ρ:St->Option b.T):Option b.T:=
 match o.guard with
 |none=>cz C a i S o ρ
 |some q=>match GA a q.1 with
  |some dg=>bif gA dg C.nn then(match S.at dg with
   |.c' (.b' x)=>bif beqB x q.2 then cz C a i S o ρ else(match o.dst with
    |some d=>ρ (S.set d .n')
    |none=>ε)
   |.n'=>(match o.dst with
    |some d=>ρ (S.set d .n')
    |none=>ε)
   |_=>ε)else ε
  |none=>ε
def TR{ρ:Ty}(a:List ψ):List ψ->Nat->St->(St->Option ρ.T)->Option ρ.T
 |[],_,S,b=>b S
 |o::l,i,S,b=>TB C a i S o λc=>TR a l (rY i) c b
def Ac:List π->List Nat
 |[]=>[]
 |x::l=>match x with
  |.tmp t=>t::Ac l
  |_=>Ac l
def Dw:Op->Bool
 |.move _=>ζ
 |.assign _=>ζ
 |.pick _ _ _=>ζ
 |.binOp _ _ _ _ _=>ζ
 |.unOp _ _ _=>ζ
 |.convert _ t _=> !FB C t
 |.index _ _ _=>ζ
 |.slice t _ _ _ _=>wJ C t
 |.extract _ _=>ζ
 |.field _ _ _=>ζ
 |.build _ _=>ζ
 |.fieldAddr _ _ _=>ζ
 |.load _ _=>ζ
 |.indexAddr _ _ _=>ζ
 |.makeFunc _ _ _=>ζ
 |.nilCheck _=>ζ
 |.call c=>match c.callee with
  |.builtin .len=>ζ
  |.builtin .min=>ζ
  |.builtin .max=>ζ
  |_=>η
 |_=>η
def Wg:SV->List Nat
 |.c' (.p' id _)=>[id]
 |.c' (.q' id _ _ _)=>[id]
 |.c' (.l' id)=>[id]
 |.c' (.k' id _)=>[id]
 |_=>[]
def GC(a:π->SV):List π->List Nat
 |[]=>[]
 |x::l=>Wg (a x)++GC a l
def Vn(a:π->SV):Op->List Nat
 |.load _ x=>Wg (a x)
 |.indexAddr _ x _=>Wg (a x)
 |.convert _ _ x=>Wg (a x)
 |.call c=>GC a c.args.toList
 |_=>[]
def ji(n:Nat):List Rg->List Nat
 |[]=>[]
 |q::l=>match n with
  |0=>[]
  |n+1=>q.1::ji n l
def fm:List Rg->Nat
 |[]=>0
 |_::l=>rY (fm l)
def Bo:List Ty->Bool
 |[]=>ζ
 |x::l=>bif cV x.no 0 then Bo l else η
def wF:List Rk->Bool
 |[]=>ζ
 |k::l=>match k with
  |.r' x=>bif cV x.no 0 then wF l else η
  |_=>η
def Q1:List Ct->Bool
 |[]=>ζ
 |c::l=>bif Bo c.a then(bif wF c.r then Q1 l else η)else η
def qt(op:Op):Bool:=bif Dw C op then ζ else(match op with
 |.call c=>(match c.callee with
  |.value (.func k)=>Q1 (C.X k)
  |_=>η)
 |_=>η)
def entry(S S2:St)(o:ψ):Bool×List Nat:=bif qt C o.op then(η,Vn (S.ev C) o.op)else(ζ,ji (Nat.sub (fm S2.m) (fm S.m)) S2.m)
def ei{ρ:Ty}(a:List ψ):List ψ->Nat->St->List (Bool×List Nat)->(St->List (Bool×List Nat)->Option ρ.T)->Option ρ.T
 |[],_,S,c,b=>b S c
 |o::l,i,S,c,b=>TB C a i S o λd=>ei a l (rY i) d (c++[entry C S d o]) b
def SG:List Nat->List Nat->List Nat
 |[],r=>r
 |x::l,r=>bif mF x r then SG l r else SG l (x::r)
def Qc(A:List (List Nat)):List Edge->List Nat
 |[]=>[]
 |e::l=>bif Region.binds .any e then SG (e.on::(match fU A e.on with
  |some a=>a
  |none=>[])) (Qc A l)else Qc A l
def iA:List ψ->List (List Nat)->List (List Nat)
 |[],A=>A
 |o::l,A=>iA l (A++[Qc A o.after.toList])
def Pu(A:List (List Nat))(i:Nat):List Nat:=match fU A i with
 |some a=>a
 |none=>[]
def Pt:List ψ->Nat->Bool
 |[],_=>ζ
 |o::l,i=>bif o.after.toList.all (λe=>bif Region.binds .any e then gA e.on i else ζ)then Pt l (rY i)else η
def Vj(a:List ψ)(o:ψ):List Nat:=match o.guard with
 |some q=>(match GA a q.1 with
  |some d=>[d]
  |none=>[])
 |none=>[]
def DP(A:List (List Nat))(i j:Nat):Bool:=bif mF i (Pu A j)then ζ else mF j (Pu A i)
def Yr(A:List (List Nat))(i:Nat)(rd:List Nat):List ψ->Nat->Bool
 |[],_=>ζ
 |o::l,j=>bif (match o.dst with
  |some d=>bif mF d rd then(bif cV i j then ζ else DP A i j)else ζ
  |none=>ζ)then Yr A i rd l (rY j)else η
def Jl(a:List ψ)(A:List (List Nat))(all:List ψ):List ψ->Nat->Bool
 |[],_=>ζ
 |o::l,i=>bif Yr A i (Ac o.op.operands.toList++Vj a o) all 0 then Jl a A all l (rY i)else η
def Yu(A:List (List Nat))(i:Nat)(q:Bool×List Nat):List (Bool×List Nat)->Nat->Bool
 |[],_=>ζ
 |p::l,j=>bif (bif cV i j then ζ else(bif DP A i j then ζ else(bif p.1 then(bif q.1 then η else GQ q.2 p.2)else ζ)))then Yu A i q l (rY j)else η
def OV(A:List (List Nat))(all:List (Bool×List Nat)):List (Bool×List Nat)->Nat->Bool
 |[],_=>ζ
 |q::l,i=>bif Yu A i q all 0 then OV A all l (rY i)else η
def QY{a:Type}:List a->Nat->List a
 |[],_=>[]
 |x::l,k=>match k with
  |0=>[]
  |k+1=>x::QY l k
def R7(a:Array ψ):Nat->Option Nat
 |0=>bif Fx a 0 then δ 0 else ε
 |k+1=>bif Fx a (rY k)then(match R7 a k with
  |some j=>δ j
  |none=>δ (rY k))else ε
def KT(a:Array ψ)(S:St)(c:St->Option b.T):Option b.T:=bif C.P.follows .mixedOrders then(match R7 a a.size with
 |some k=>(λl=>(λA=>bif Region.seqB .any a (Nat.sub a.size k) k (fH k ζ++fH (Nat.sub a.size k) η).toArray then(bif Pt l 0 then(bif Rw (Gj l)then(bif Jl a.toList A l l 0 then
   ei C a.toList l 0 S [] (λd ρ=>bif OV A ρ ρ 0 then TR C a.toList (Ap a.toList k) k d c else ε)else ε)else ε)else ε)else ε) (iA l [])) (QY a.toList k)
 |none=>ε)else ε
abbrev Dn(τ:Ty):=Sc->St->(a:Ty)->(τ.T->Option a.T)->(Ex->St->Option a.T)->Option a.T
def sd:Dn τ:=λ_ S _ _ a=>a .nm S
def S6:Dn τ:=λ_ _ _ _ _=>ε
def kd(a:Array ψ)(d:Bool):Dn τ:=λ_ S _ _ c=>bif d then KT C a S (λb=>c .nm b)else TR C a.toList a.toList 0 S λb=>c .nm b
def Gp(ρ:Ex->St->Option a)(f:St->Option a):Ex->St->Option a
 |.nm,S=>f S
 |.xt i,S=>ρ (.xt i) S
def noK:Ex->St->Option a:=λ_ _=>ε
def J9(S:St)(J:List Key)(S2:St):Option (Ty.sm (rQ J) τ).T:=match leaf S J S2 with
 |some v=>δ (.inl v)
 |none=>ε
def again(a:List ψ):List Nat->St->St
 |[],S=>S
 |i::R,S=>again a R (match fU a i with
  |some o=>(match o.dst with
   |some d=>(match opP C (S.ev C) S.H o.op with
    |some ⟨[],v,_,_⟩=>S.set d v
    |_=>S)
   |none=>S)
  |none=>S)
def opsOf:Code->List ψ
 |.region _ a d=>bif d then []else a.toList
 |_=>[]
def nA:Op->Bool
 |.move _=>ζ
 |.assign _=>ζ
 |.binOp _ _ _ _ _=>ζ
 |.unOp _ _ _=>ζ
 |.convert _ _ _=>ζ
 |.index _ _ _=>ζ
 |.extract _ _=>ζ
 |.field _ _ _=>ζ
 |.build _ _=>ζ
 |.fieldAddr _ _ _=>ζ
 |.slice _ _ _ _ _=>ζ
 |_=>η
def H6(a:List ψ)(i:Nat):Bool:=match fU a i with
 |some o=>bif o.guard.isNone then(bif nA o.op then(match o.dst with
  |some d=>(bif mF d (Gj (Ap a (rY i)))then η else GQ (Ac o.op.operands.toList) (d::Gj (Ap a (rY i))))
  |none=>η)else η)else η
 |none=>η
def okR(a:List ψ):List Nat->Bool
 |[]=>ζ
 |i::R=>bif H6 a i then okR a R else η
def dSeq(x:Code)(w:List Nat)(a b:Dn τ):Dn τ:=λf S d c e=>match f with
 |.j' J R h g=>bif S.okJ J then(bif okR (opsOf x) R then pG (a h S.Zj (rQ J) (λ_=>ε) (Gp noK (leaf S J))) λv=>b g (again C (opsOf x) R (S.out J w v)) d c e else ε)else ε
 |.r' J R h g=>bif S.okJ J then(bif okR (opsOf x) R then pG (a h S.Zj (.sm (rQ J) τ) (λr=>δ (.inr r)) (Gp noK (J9 τ S J))) λj=>eN (λv=>b g (again C (opsOf x) R (S.out J w v)) d c e) (λq=>c q) j else ε)else ε
 |f=>a f.A S d c (Gp e λi=>b f.B i d c e)
def dCond(c:π)(a b:Dn τ):Dn τ:=λf S d g e=>match f with
 |.y' i=>U7 (S.ev C c) (a i S d g e) ε
 |.z' h=>U7 (S.ev C c) ε (b h S d g e)
 |f=>U7 (S.ev C c) (a f.A S d g e) (b f.B S d g e)
def qm(id:Nat)(ρ:Ex->St->Option a):Ex->St->Option a
 |.nm,S=>ρ .nm S
 |.xt i,S=>bif cV i id then ρ .nm S else ρ (.xt i) S
def dBlock(id:Nat)(a:Dn τ):Dn τ:=λd S b e c=>a d S b e (qm id c)
def HG{T:Type}(ρ:St->Option T)(g:T->Option a)(S:St):Option a:=match ρ S with
 |some v=>g v
 |none=>ε
def dLoop(w:List Nat)(a:Dn τ):Dn τ:=λd S b h c=>match d with
 |.l' J f=>bif S.okJ J then(match leaf S J S.Zj with
  |some v=>bN (λg v=>a f (S.head J w v) b h (Gp (λe i=>c e (i.as S J)) (HG (leaf S J) g))) C.fu v
  |none=>ε)else ε
 |_=>ε
def dRet:Dn τ:=λ_ S _ a _=>match res S with
 |some r=>a r
 |none=>ε
noncomputable def den(c:Code):Dn τ:=Code.rec (motive:=λ_=>Dn τ) (sd τ) (λ_ e d=>kd C τ e d) (λx _ a b=>dSeq C τ x (wr x) a b) (λc _ _ a b=>dCond C τ c a b) (λid _ a=>dBlock τ id a) (λx a=>dLoop C τ (wr x) a) (λ_ _ _ _ _ _=>S6 τ)
 (λid _ S _ _ f=>f (.xt id) S) (λ_ a=>a) (λ_=>sd τ) (λ_=>S6 τ) (dRet τ res) (λ_=>S6 τ) c
end
def jB(C:Cx)(S:St):ResultVar->SV
 |.tmp t=>bif gA t C.nn then S.at t else .u'
 |.cell a t=>match bif gA a C.nn then S.at a else .u' with
  |.c' x=>match lJ C S.H t x with
   |some ⟨[],v,_,_⟩=>v
   |_=>.u'
  |_=>.u'
def TD(C:Cx)(b:Nat)(c:List Rg)(rs:List ResultVar)(r:List Rk)(S:St):Option (iF r).T:=match rdR S.H r (rs.map (jB C S))with
 |some (x,a)=>bif St.take ⟨S.F,S.H,b,c,[]⟩ a then(bif GQ (iG a) (Rk.ids r)then δ x else ε)else ε
 |none=>ε
def endK{ρ:Type}(res:St->Option ρ):Ex->St->Option ρ
 |.nm,S=>res S
 |.xt _,_=>ε
def SX(F:Tr SV):Nat->List SV->Tr SV
 |_,[]=>F
 |t,v::a=>SX (F.set t v) (t+1) a
def Ss(r:List Rk):List Ob->List Ob->Nat->List Rg
 |_,[],_=>[]
 |H,o::l,j=>(bif wI (δ o)then [(j,0,1)]else(bif mF j (Rk.ids r)then [tN H j]else []))++Ss r H l (j+1)
def st0(gs:List Ob)(a:List Ty)(r:List Rk)(x:(gL a).T):St:=match jZ [] a x with
 |(b,H)=>⟨SX Tr.e 0 b,H++gs,γ (H++gs),Ss r H H 0,[]⟩
def Ff:Ty->Bool
 |.l' _ _ _=>ζ
 |.y'=>ζ
 |_=>η
def OO(H:List Ob):List Rk->Bool
 |[]=>ζ
 |k::l=>bif (match k with
  |.r' _=>ζ
  |.o' id e x=>(match fU H id with
   |some (.bl a cs)=>bif cV a e then cV (γ cs) x.cn else η
   |_=>η)
  |.w' id x=>bif wI (fU H id)then Ff x else η)then OO H l else η
def TY:List Ty->Bool
 |[]=>ζ
 |x::l=>bif x.tz then η else TY l
def denF(C:Cx)(gs:List Ob)(c:Code)(rs:List ResultVar)(sc:Sc)(a:List Ty)(r:List Rk)(x:(gL a).T):Option (iF r).T:=
 match st0 gs a r x with
 |⟨F,H,b,d,m⟩=>bif (bif TY a then(bif Rw (Rk.ids r)then OO (jZ [] a x).2 r else η)else η)then den C (iF r) (TD C b d rs r) c sc ⟨F,H,b,d,m⟩ (iF r) δ (endK (TD C b d rs r))else ε
end
end Go.Oe
namespace Go.Ce
open Go.Wk
open Nat renaming beq → cV
variable {a:Type}
theorem bi_ite(c:Bool)(x y:a):bi c x y=if c=ζ then x else y:=by cases c<;>rfl
theorem ld(a b:Nat):(cV a b=ζ)=(a=b):=propext ⟨iB,λh=>by subst h;exact Nat.beq_refl a⟩
def Pk.val:Pk->Nat
 |.h=>0
 |.o p=>2*p.val+2
 |.i p=>2*p.val+1
theorem Yl:∀(f k:Nat),k<f->(pkF f k).val=k
 |0,k,h=>by omega
 |f+1,k,h=>by
  show(bi _ Pk.h (bi (cV (k%2) 1) (Pk.i (pkF f (k/2))) (Pk.o (pkF f (k/2-1))))).val=k;simp only [bi_ite,ld];by_cases a:k=0
  ·rw [aB a,a];rfl
  ·rw [aA a];by_cases b:k%2=1
   ·rw [aB b];show 2*(pkF f _).val+1=k;rw [Yl f _ aA0];omega
   ·rw [aA b];show 2*(pkF f _).val+2=k;rw [Yl f _ aA0];omega
theorem G4(k:Nat):(pk k).val=k:=Yl _ k (nF k)
theorem xb{k k':Nat}(h:pk k=pk k'):k=k':=by rw [<-G4 k,h,G4]
theorem bcp{α:Type}(x:α):∀(p:Pk) (t:Tr α),Tr.xQ p (Tr.B8 x p t)=δ x
 |.h,t=>rfl
 |.o p,t=>bcp x p t.R
 |.i p,t=>bcp x p t.L
theorem tG{α:Type}(x:α):∀(p q:Pk) (t:Tr α),q≠p->Tr.xQ q (Tr.B8 x p t)=Tr.xQ q t
 |.h,.h,t,h=>absurd rfl h
 |.h,.o q,t,_=>rfl
 |.h,.i q,t,_=>rfl
 |.o p,.h,t,_=>rfl
 |.o p,.o q,t,h=>tG x p q t.R λe=>h (by rw [e])
 |.o p,.i q,t,_=>rfl
 |.i p,.h,t,_=>rfl
 |.i p,.o q,t,_=>rfl
 |.i p,.i q,t,h=>tG x p q t.L λe=>h (by rw [e])
theorem Tr.Bk(t:Tr a)(k k':Nat)(x:a):(t.set k x).get k'=if k'=k then δ x else t.get k':=by
 by_cases h:k'=k
 ·subst h;rw [aB rfl];exact bcp x _ _
 ·rw [aA h];exact tG x _ _ _ λe=>h (xb e)
theorem KM{α:Type}:∀p:Pk,Tr.xQ p (.e:Tr α)=ε
 |.h=>rfl
 |.o p=>KM p
 |.i p=>KM p
theorem Tr.O4(k:Nat):(Tr.e:Tr a).get k=ε:=KM _
section
variable {α:Type}
end
abbrev En:=Nat->Nat×Nat
def Cp.re(E:En)(j:Nat):Cp->Nat
 |.k c=>c
 |.r off=>(E j).2-off
def SC.re(E:En):SC->θ
 |.b x=>.bool x
 |.i k n=>.int k (k.wrap (n:Int))
 |.s l x=>str (dec l x)
 |.np=>.pointer ε
 |.ns=>.slice ε 0 0
 |.nf=>.nilFunc
 |.ni=>.nilIface
 |.nm=>.map ε
 |.p j off=>.pointer (δ ⟨(E j).1,off,ε⟩)
 |.g j off=>.pointer (δ ⟨j,off,ε⟩)
 |.sl j base n c=>.slice (δ ⟨(E j).1,base,ε⟩) n (c.re E j)
 |.fn f cs=>.func (.func f) #[] (cs.map λj=>ς (δ ⟨(E j).1,0,ε⟩)).toArray
 |.y j=>.func (.yield (E j).1) #[] #[]
 |.m j=>.map (δ (E j).1)
 |.z j base dd off=>.slice (δ ⟨(E j).1,if(E j).2-off=0 then base else base+dd,ε⟩) 0 ((E j).2-off)
def SA.re(E:En):SA->θ
 |.c x=>x.re E
 |.a l=>.agg (l.map (SC.re E)).toArray
def SV.re(E:En):SV->θ
 |.c x=>x.re E
 |.a l=>.agg (l.map (SC.re E)).toArray
 |.t l=>.tuple (l.map (SA.re E)).toArray
 |.u=>undef
def SC.ok(n:Nat):SC->Prop
 |.p j _=>j<n
 |.sl j _ _ _=>j<n
 |.fn _ cs=>∀j∈cs,j<n
 |.y j=>j<n
 |.m j=>j<n
 |.z j _ _ _=>j<n
 |_=>True
def SA.ok(n:Nat):SA->Prop
 |.c x=>x.ok n
 |.a l=>∀x∈l,x.ok n
def SV.ok(n:Nat):SV->Prop
 |.c x=>x.ok n
 |.a l=>∀x∈l,x.ok n
 |.t l=>∀x∈l,x.ok n
 |.u=>True
noncomputable def tv(F:Tr SV)(t:Nat):SV:=(F.get t).getD .u
noncomputable def rF(E:En)(F:Tr SV):Nat->θ:=λt=>(tv F t).re E
def Fok(n:Nat)(F:Tr SV):Prop:=∀t v,F.get t=δ v->v.ok n
theorem Fok.set{n:Nat}{F:Tr SV}(h:Fok n F)(d:Nat){v:SV}(a:v.ok n):Fok n (F.set d v):=by
 intro t x hx;rw [Tr.Bk]at hx;split at hx
 ·cases hx;exact a
 ·exact h t x hx
def Mo.ok(md:Mo)(cap len size:Nat)(a:Nat×Nat):Prop:=
 match md with
 |.ex=>size=len/\a=(0,0)
 |.rw b m=>len=m*b/\m<=cap/\cap<=maxLen/\size=cap*b/\a=(0,0)
 |.bw=>len<=cap/\cap<=size/\size<=a.1
 |.fb=>size=len/\size<=a.1
def cres(b cap t:Nat)(md:Mo)(c:List θ):cB:=
 ⟨δ b,λo=>∃a t' d,o=δ (.cells a t' d)/\(md=.bw\/t'=t)/\γ c<=a.size/\a.toList.take (γ c)=c/\md.ok cap (γ c) a.size d⟩
def lpres(b:Nat)(busy:Bool)(j k:Nat)(d:List Nat)(c body:Code)(F:Nat->θ):cB:=
 ⟨δ b,λo=>∃a:Loop,a.assign=c/\a.body=body/\a.params=d.toArray/\a.tmps=(fr ⟨k,[],δ ε⟩ F).tmps/\
  (match busy with
  |false=>o=δ (.loop {a with state:=Z5 j,pending:=jmp j})
  |true=>∃e,o=δ (.loop {a with state:=.busy,pending:=e}))⟩
def mpres(b:Nat)(l:List (θ×θ)):cB:=⟨δ b,λo=>∃a clock,o=δ (.map a clock)/\a.toList.map (λe=>(e.key,e.val))=l⟩
noncomputable def jB(E:En)(i:Nat):HB->cB
 |.cl t e c=>cres (E i).1 (E i).2 t e (c.map (SC.re E))
 |.it l x pos=>SS (E i).1 (dec l x) pos
 |.lp busy j k d b a F=>lpres (E i).1 busy j k d b a (rF E F)
 |.df=>Bt (E i).1
 |.gn=>⟨ε,λ_=>True⟩
 |.mp f=>mpres (E i).1 (f.map λp=>(p.1.re E,p.2.re E))
def HB.ok(n:Nat):HB->Prop
 |.cl _ _ a=>∀x∈a,x.ok n
 |.lp _ _ _ _ _ _ F=>Fok n F
 |.mp b=>∀p∈b,p.1.ok n/\p.2.ok n
 |_=>True
noncomputable def kV(H:Hs)(i:Nat):HB:=(H.t.get i).getD .gn
noncomputable def NZ(E:En)(H:Hs):List cB:=(List.range H.nx).map λi=>jB E i (kV H i)
structure Inv (w0:ν) (E:En) (H:Hs) (w:ν):Prop where
 hp:Hp w0 [] (NZ E H) w
 lt:∀i b,H.t.get i=δ b->i<H.nx
 ok:∀i b,H.t.get i=δ b->b.ok H.nx
section
variable {w0 w:ν}{E:En}{H:Hs}
variable {i:Nat}
theorem D2(a:i<H.nx):(NZ E H)[i]? =δ (jB E i (kV H i)):=by simp [NZ,a]
theorem Inv.at(h:Inv w0 E H w){b:HB}(a:H.t.get i=δ b):(NZ E H)[i]? =δ (jB E i b):=by rw [D2 (h.lt i b a)];simp [kV,a]
theorem Inv.cells(h:Inv w0 E H w){i t:Nat}{md:Mo}{b:List SC}(g:H.t.get i=δ (.cl t md b)):
  ∃a t' c,w.heap[(E i).1]? =δ (.cells a t' c)/\(md=.bw\/t'=t)/\γ b<=a.size/\a.toList.take (γ b)=b.map (SC.re E)/\md.ok (E i).2 (γ b) a.size c:=by
 have l:=(h.hp.res _ (aG (h.at g))).1;obtain⟨a,t',c,k,j,f,e,d⟩:=l;simp only [Rf]at f e d;exact⟨a,t',c,k,j,f,e,d⟩
end
end Go.Ce
namespace Go.Oe
open Go.Wk
open Go.Ce (Tr)
open Nat renaming one_pos → Jd
theorem gV{a:Type}:∀(l:List a) k,fU l k=l[k]?
 |[],_=>rfl
 |x::l,0=>rfl
 |x::l,k+1=>by rw [iT];exact gV l k
theorem pY{a:Type}:∀l k (y:a),kA l k y=l.set k y
 |[],_,_=>rfl
 |x::l,0,y=>rfl
 |x::l,k+1,y=>by simp [kA,pY l k y]
theorem oC{a:Type}:∀(l:List a) k,Ap l k=l.drop k
 |[],k=>by simp [Ap]
 |x::l,0=>rfl
 |x::l,k+1=>by rw [nt];exact oC l k
theorem xI{a:Type}:∀{l:List a} {k:Nat} {q:List a},Am l k=δ q->q=l.take k/\k<=γ l
 |l,0,q,h=>by
  have:Am l 0=δ []:=by cases l<;>rfl
  rw [this]at h;cases h;simp
 |[],k+1,q,h=>by cases h
 |x::l,k+1,q,h=>by
  simp only [Am]at h;split at h
  ·rename_i q' d;cases h;obtain⟨c,b⟩:=xI d;exact⟨by simp [c],aB6⟩
  ·cases h
theorem ayw:∀{l:List SC} {k:Nat} {vs q:List SC},vL l k vs=δ q->k+γ vs<=γ l/\q=l.take k++vs++l.drop (k+γ vs)
 |l,0,[],q,h=>by
  have:vL l 0 []=δ l:=by cases l<;>rfl
  rw [this]at h;cases h;simp
 |[],0,v::vs,q,h=>by cases h
 |[],k+1,vs,q,h=>by cases vs<;>cases h
 |x::l,0,v::vs,q,h=>by
  simp only [vL]at h;split at h
  ·rename_i q' b;cases h;obtain⟨c,a⟩:=ayw b;simp at c a⊢;exact⟨aA0,a⟩
  ·cases h
 |x::l,k+1,vs,q,h=>by
  simp only [vL]at h;split at h
  ·rename_i q' b;cases h;obtain⟨c,a⟩:=ayw b;refine⟨by simp;omega, ?_⟩;rw [a];simp [Qp]
  ·cases h
variable {l r:List SC}{n:Nat}
theorem sP{q:List SC}(h:vL l n r=δ q)(j:Nat):q[j]? =if n<=j/\j<n+γ r then r[j-n]? else l[j]? :=by
 obtain⟨c,rfl⟩:=ayw h;by_cases b:j<n
 ·rw [aA aA0,gH,aI aA4,bO,aB b]
 ·by_cases a:j<n+γ r
  ·rw [aB ⟨aA0,a⟩,aI aA4,aN aA4];simp;congr 1;omega
  ·rw [aA aA0,aN aA4,bZ];congr 1;simp;omega
theorem zX{q:List SC}(h:vL l n r=δ q):γ q=γ l:=by obtain⟨a,rfl⟩:=ayw h;simp;omega
theorem PK:∀{l:List SC},knL l=ζ->∀x∈l,x.kn=ζ
 |[],_,x,hx=>by cases hx
 |y::l,h,x,hx=>by
  have h:=iK h;rcases aP.1 hx with rfl|hx
  ·exact h.1
  ·exact PK h.2 x hx
theorem I3(j:Nat):(ey j).oneCell'=ζ:=by unfold ey;split<;>rfl
theorem SC.one(ρ:Nat->Ad)(c:SC):(c.v ρ).oneCell'=ζ:=by cases c<;>first|rfl|exact I3 _
theorem XG(H:List Ob)(id:Nat):gJ H id=(H[id]?.map Ob.len).getD 0:=by unfold gJ;rw [gV];cases H[id]? <;>rfl
def SC.ids:SC->List Nat
 |.p' id _=>[id]
 |.q' id _ _ _=>[id]
 |.l' id=>[id]
 |.k' id _=>[id]
 |.f' _ ids=>ids
 |.z' id a=>[id,a]
 |_=>[]
variable {a d:Nat->Ad}{c:SC}
theorem SC.v_ext(h:∀id∈c.ids,d id=a id):c.v d=c.v a:=by
 cases c<;>simp only [SC.v]
 case p' id off=>rw [h id aE1]
 case q' id j e off=>rw [h id aE1]
 case l' id=>rw [h id aE1]
 case k' id n=>rw [h id aE1]
 case f' k ids=>
  have:(ids.map λid=>jH (d id).b 0)=ids.map λid=>jH (a id).b 0:=Y9 λid hid=>by rw [h id hid]
  rw [this]
 case z' id ρ=>rw [h id aE1,h ρ aE1]
def SC.ok(n:Nat)(c:SC):Prop:=∀id∈c.ids,id<n
def SA.ok(n:Nat):SA->Prop
 |.c' x=>x.ok n
 |.a' l=>∀x∈l,x.ok n
def SV.ok(n:Nat):SV->Prop
 |.c' x=>x.ok n
 |.a' l=>∀x∈l,x.ok n
 |.t' l=>∀x∈l,x.ok n
 |_=>True
def Up(n:Nat)(ρ a:Nat->Ad):Prop:=∀id,id<n->a id=ρ id
theorem Up.refl:Up n a a:=λ_ _=>rfl
theorem Up.trans{n m:Nat}{ρ a ρ3:Nat->Ad}(h:Up n ρ a)(c:Up m a ρ3)(d:n<=m):Up n ρ ρ3:=
 λid b=>(c id aA0).trans (h id b)
theorem SC.up(b:Up n a d)(h:c.ok n):c.v d=c.v a:=SC.v_ext λid ρ=>b id (h id ρ)
theorem Xx(b:Up n a d)(h:∀x∈l,x.ok n):l.map (SC.v d)=l.map (SC.v a):=Y9 λx hx=>SC.up b (h x hx)
theorem SA.up{n:Nat}{ρ a:Nat->Ad}{c:SA}(b:Up n ρ a)(h:c.ok n):c.v a=c.v ρ:=by
 cases c with
 |c' x=>exact SC.up b h
 |a' l=>simp only [SA.v];rw [Xx b h]
theorem SV.up{n:Nat}{ρ a:Nat->Ad}{c:SV}(b:Up n ρ a)(h:c.ok n):c.v a=c.v ρ:=by
 cases c with
 |c' x=>simp only [SV.v];rw [SC.up b h]
 |a' l=>simp only [SV.v];rw [Xx b h]
 |t' l=>simp only [SV.v];rw [Y9 λx hx=>SA.up b (h x hx)]
 |_=>rfl
variable {m:Nat}
theorem SC.cN(h:c.ok n)(a:n<=m):c.ok m:=λid b=>Tb (h id b) a
theorem SV.cN{n m:Nat}{c:SV}(h:c.ok n)(a:n<=m):c.ok m:=by
 cases c with
 |c' x=>exact SC.cN h a
 |a' l=>exact λx hx=>SC.cN (h x hx) a
 |t' l=>
  intro x hx;have:=h x hx;cases x with
  |c' y=>exact SC.cN this a
  |a' l=>exact λy b=>SC.cN (this y b) a
 |_=>trivial
theorem SA.bx(ρ:Nat->Ad)(x:SA):x.sv.v ρ=δ (x.v ρ):=by cases x<;>rfl
theorem SA.Gq{x:SA}(h:x.ok n):x.sv.ok n:=by cases x<;>exact h
variable {x:SV}
theorem SV.Kb{ρ:Nat->Ad}(h:x.cells=δ l):∃v,x.v ρ=δ v/\v.cells=(l.map (SC.v ρ)).toArray:=by
 cases x with
 |c' x=>cases h;refine⟨_,rfl, ?_⟩;have:=SC.one ρ x;rw [yS];generalize x.v ρ=v at this⊢;cases v<;>first|rfl|simp [Value.oneCell']at this
 |a' i=>cases h;exact⟨_,rfl,rfl⟩
 |_=>cases h
theorem SV.Pn(h:x.cells=δ l)(hx:x.ok n):∀c∈l,c.ok n:=by
 cases x with
 |c' x=>cases h;intro c a;simp at a;subst a;exact hx
 |a' i=>cases h;exact hx
 |_=>cases h
theorem Ty.Zu:∀(t:Ty) x,t.flat=ζ->γ (t.enc x)=t.sz:=by
 intro t;induction t with
 |w' t e=>intro x h;exact e x h
 |pr a b d c=>intro x h;have h:=iK h;show(a.enc x.1++b.enc x.2).length=a.sz+b.sz;rw [bP,d _ h.1,c _ h.2]
 |i' k=>intro x h;rfl
 |c'=>intro x h;rfl
 |s'=>intro x h;rfl
 |b'=>intro x h;rfl
 |_=>intro x h;cases h
theorem Ty.jr:∀(t:Ty) x,∀v∈t.enc x,v.oneCell'=ζ:=by
 intro t;induction t with
 |w' t f=>intro x;exact f x
 |pr a b e d=>
  intro x v c;rcases aR.1 (c)with h|h
  ·exact e _ v h
  ·exact d _ v h
 |i' k=>intro x v c;have:v=_:=aE.1 c;subst this;rfl
 |c'=>intro x v c;have:v=_:=aE.1 c;subst this;rfl
 |s'=>intro x v c;have:v=_:=aE.1 c;subst this;rfl
 |b'=>intro x v c;have:v=_:=aE.1 c;subst this;rfl
 |_=>intro x v c;cases c
variable {t:Ty}
theorem Ty.wG(h:t.flat=ζ):oY t.enc t.sz:=⟨λx=>t.Zu x h,λx=>t.jr x⟩
theorem Ty.Dm:∀{t:Ty},t.flat=ζ->0<t.sz:=by
 intro t;induction t with
 |w' t e=>intro h;exact e h
 |pr a b c d=>intro h;have h:=iK h;have:=c h.1;show 0<a.sz+b.sz;omega
 |_=>intro h;exact Jd
theorem Ty.Aq:∀(t:Ty) (s n) x,t.flat=ζ->(t.lay s n x).2=[]/\∀ρ,(t.lay s n x).1.map (SC.v ρ)=t.enc x:=by
 intro t;induction t with
 |w' t g=>intro s n x h;exact g s n x h
 |pr a b d c=>
  intro s n x h;have h:=iK h;have f:=d s n x.1 h.1;have e:=c s (n+a.no) x.2 h.2;refine⟨?_,λρ=> ?_⟩
  ·show(a.lay s n x.1).2++(b.lay s _ x.2).2=[];rw [f.1,e.1];rfl
  ·show((a.lay s n x.1).1++(b.lay s _ x.2).1).map _=a.enc x.1++b.enc x.2;rw [AY,f.2,e.2]
 |i' k=>intro s n x h;exact⟨rfl,λ_=>rfl⟩
 |c'=>intro s n x h;exact⟨rfl,λ_=>rfl⟩
 |s'=>intro s n x h;exact⟨rfl,λ_=>rfl⟩
 |b'=>intro s n x h;exact⟨rfl,λ_=>rfl⟩
 |_=>intro s n x h;cases h
theorem Ty.Uw:∀(t:Ty) (s n) x,t.flat=ζ->∀c∈(t.lay s n x).1,c.ids=[]/\c.kn=ζ:=by
 intro t;induction t with
 |w' t g=>intro s n x h;exact g s n x h
 |pr a b f e=>
  intro s n x h c d;have h:=iK h;rcases aR.1 (d)with d|d
  ·exact f s n x.1 h.1 c d
  ·exact e s _ x.2 h.2 c d
 |i' k=>intro s n x h c d;have:c=_:=aE.1 d;subst this;exact⟨rfl,rfl⟩
 |c'=>intro s n x h c d;have:c=_:=aE.1 d;subst this;exact⟨rfl,rfl⟩
 |s'=>intro s n x h c d;have:c=_:=aE.1 d;subst this;exact⟨rfl,rfl⟩
 |b'=>intro s n x h c d;have:c=_:=aE.1 d;subst this;exact⟨rfl,rfl⟩
 |_=>intro s n x h c d;cases h
theorem rI_v{k:Α}{y:Int}(h:c.rI k=δ y)(ρ:Nat->Ad):c.v ρ=.int k y:=by
 cases c<;>simp only [SC.rI,reduceCtorEq]at h;rename_i b n;cases a:JZ k b with
 |true=>rw [a]at h;cases h;rw [mY a];rfl
 |false=>rw [a]at h;cases h
theorem we{y:UInt8}(h:c.rC=δ y)(ρ:Nat->Ad):c.v ρ=bt y:=by cases c<;>simp only [SC.rC,reduceCtorEq]at h;cases h;rfl
theorem rS_v{y:aC}(h:c.rS=δ y)(ρ:Nat->Ad):c.v ρ=str y:=by cases c<;>simp only [SC.rS,reduceCtorEq]at h;cases h;rfl
variable {y:Bool}
theorem dv(h:c.rB=δ y)(ρ:Nat->Ad):c.v ρ=.bool y:=by cases c<;>simp only [SC.rB]at h<;>cases h<;>rfl
theorem D9:∀(t:Ty) l x r,t.DC l=δ (x,r)->t.flat=ζ/\∀ρ,l.map (SC.v ρ)=t.enc x++r.map (SC.v ρ):=by
 intro t;induction t with
 |w' t o=>intro l x r h;exact o l x r h
 |pr a b f e=>
  intro l x r h;simp only [Ty.DC]at h;split at h
  ·rename_i n g q;split at h
   ·rename_i m s p;cases h;have j:=f l n g q;have i:=e g m _ p;refine⟨by simp [Ty.flat,j.1,i.1],λρ=> ?_⟩;rw [j.2,i.2,<-gH];rfl
   ·cases h
  ·cases h
 |i' k=>
  intro l x r h;cases l with
  |nil=>cases h
  |cons c l=>
   simp only [Ty.DC]at h;split at h
   ·rename_i y d;cases h;exact⟨rfl,λρ=>by rw [yS,rI_v d];rfl⟩
   ·cases h
 |c'=>
  intro l x r h;cases l with
  |nil=>cases h
  |cons c l=>
   simp only [Ty.DC]at h;split at h
   ·rename_i y d;cases h;exact⟨rfl,λρ=>by rw [yS,we d];rfl⟩
   ·cases h
 |s'=>
  intro l x r h;cases l with
  |nil=>cases h
  |cons c l=>
   simp only [Ty.DC]at h;split at h
   ·rename_i y d;cases h;exact⟨rfl,λρ=>by rw [yS,rS_v d];rfl⟩
   ·cases h
 |b'=>
  intro l x r h;cases l with
  |nil=>cases h
  |cons c l=>
   simp only [Ty.DC]at h;split at h
   ·rename_i y d;cases h;exact⟨rfl,λρ=>by rw [yS,dv d];rfl⟩
   ·cases h
 |_=>intro l x r h;cases h
theorem y7{t:Ty}:∀{m:Nat} {l:List SC} {a:List t.T},qR t m l=δ a->γ a=m/\(m≠0->t.flat=ζ)/\∀ρ,l.map (SC.v ρ)=a.flatMap t.enc
 |0,l,a,h=>by
  cases l with
  |nil=>cases h;exact⟨rfl,λh=>absurd rfl h,λ_=>rfl⟩
  |cons c l=>cases h
 |m+1,l,a,h=>by
  simp only [qR]at h;split at h
  ·rename_i y b e;split at h
   ·rename_i q d;cases h;obtain⟨j,k,i⟩:=y7 d;obtain⟨g,f⟩:=D9 t l y b e;exact⟨by simp [j],λ_=>g,λρ=>by rw [f,i];rfl⟩
   ·cases h
  ·cases h
theorem zx(t:Ty)(l:List t.T)(j:Int):Z7 t l j= @el t.T t.qh l j:=by cases t<;>first|rfl|(show at_ _ _=_;rfl)
open Nat renaming beq → cV
def Mat(ρ:Nat->Ad)(cs:List SC)(vs:List θ):Prop:=γ vs=γ cs/\∀(j:Nat) c,cs[j]? =δ c->c.kn=ζ->vs[j]? =δ (c.v ρ)
def Wu(w0:ν)(S0:List Nat)(d:Ad)(t:Ty)(l:List t.T):Prop:=
 Rd w0 d.a (l.flatMap t.enc)/\(l.flatMap t.enc≠[]->∀p,d.a=δ p->p.block∉S0)/\γ l<=d.cap
def RO(w0:ν)(S0:List Nat)(ρ:Nat->Ad)(id:Nat):Ob->cB->Prop
 |.bl e cs,r=>∃c,r=aS (ρ id).b c e/\Mat ρ cs c
 |.rw e _ t l,r=>r=bA t.enc e t.sz (ρ id).o (ρ id).a (ρ id).cap l
 |.ro t l,r=>r.own=ε/\Wu w0 S0 (ρ id) t l
 |.br n l,r=>r=iY (.slice (ρ id).a n (ρ id).cap) n l
 |.dd _,r=>True
def Mt(w0:ν)(S0:List Nat)(ρ:Nat->Ad)(H:List Ob)(L:List cB):Prop:=
 (γ L)=γ H/\∀id o,H[id]? =δ o->o.len=(ρ id).ln/\∃r,L[id]? =δ r/\RO w0 S0 ρ id o r
def Src.ad(ρ:Nat->Ad):Src->Ad
 |.o' id _=>ρ id
 |.n'=>⟨ε,ε,0,η,0⟩
 |.k' id m _=>⟨δ (ρ id).b,δ ⟨(ρ id).b,0,ε⟩,m,η,m⟩
 |.z' t=>⟨ε,ε,0,t,0⟩
def WM(any:Bool)(ρ:Nat->Ad)(H:List Ob)(d:Nat->Ad):Src->Ob->Prop
 |s,.bl e a=>∃id cs,s=.o' id ζ/\H[id]? =δ (.bl e cs)/\cs.map (SC.v ρ)=a.map (SC.v d)/\(∀c∈cs,c.kn=ζ)/\∀c∈a,c.kn=ζ
 |s,.rw e b t l=>(∃id,s=.o' id ζ/\H[id]? =δ (.rw e b t l))\/(s=.n'/\l=[])\/(∃id m cs,s=.k' id m ζ/\H[id]? =δ (.bl e cs)/\qR t m cs=δ l/\t.flat=ζ/\m<=1048576)
 |s,.br n l=>n=γ l/\∃id m,s=.o' id ζ/\H[id]? =δ (.br m l)
 |s,.ro t l=>(∃id,s=.o' id η/\(bif any then Hu t H[id]? else C9 t H[id]?)=δ l)\/(s=.n'/\l=[])\/(any=ζ/\∃id m e cs,s=.k' id m η/\H[id]? =δ (.bl e cs)/\qR t m cs=δ l)
 |s,.dd n=>n=0/\((∃t,s=.z' t)\/∃f,s=.o' f η/\H[f]? =δ (.dd 0))
structure At (t:Ty) (ρ:Nat->Ad) (me:Nat) (ss:List Src) (cT:Nat->Ad) (CM n:Nat):Prop where
 sf:t.tz=ζ->(cT CM).b=(ρ me).b
 ad:∀(j:Nat) (s:Src),ss[j]? =δ s->cT (n+j)=s.ad ρ
variable {f:List Src}
theorem At.left{b:Ty}{g:List Src}{c:Nat}(h:At (.pr t b) a n (f++g) d m c):At t a n f d m c:=
 ⟨λi=>h.sf (by simp [Ty.tz,i]),λj s e=>h.ad j s (by rw [aI (aD.1 e).1];exact e)⟩
theorem At.right{b:Ty}{e:List Src}{c:Nat}(h:At (.pr t b) a n (f++e) d m c):At b a n e d m (c+γ f):=
 ⟨λg=>h.sf (by simp [Ty.tz,g]),λj s i=>by rw [De];exact h.ad _ s (by rw [aN aA0,<-i];congr 1;omega)⟩
theorem Ty.Zb:∀(t:Ty) (s n) x,γ (t.lay s n x).1=t.cn:=by
 intro t;induction t with
 |w' t e=>intro s n x;exact e s n x
 |pr a b d c=>intro s n x;show((a.lay s n x.1).1++(b.lay s _ x.2).1).length=a.cn+b.cn;rw [bP,d,c]
 |_=>intro s n x;rfl
theorem Ty.eL:∀(t:Ty) (s n) x,γ (t.lay s n x).2=t.no:=by
 intro t;induction t with
 |w' t c=>intro s n x;exact c s n x
 |pr a b f d=>intro s n x;show((a.lay s n x.1).2++(b.lay s _ x.2).2).length=a.no+b.no;rw [bP,f,d]
 |p' e t c=>intro s n x;show(_::(t.lay n _ x).2).length=t.no+1;rw [bX,c]
 |f' k t c=>intro s n x;exact c s n x
 |_=>intro s n x;rfl
theorem Ak:∀{l:List SC} {id:Nat},id∈pW l->∃c∈l,id∈c.ids
 |[],id,h=>by cases h
 |x::l,id,h=>by
  cases x
  case p' i off=>
   rcases aP.1 (h)with h|h
   ·subst h;exact⟨_,fE,by simp [SC.ids]⟩
   ·obtain⟨c,b,a⟩:=Ak h;exact⟨c,eT _ b,a⟩
  all_goals
   obtain⟨c,b,a⟩:=Ak (show id∈pW l from h);exact⟨c,eT _ b,a⟩
theorem Ty.Eo:∀(t:Ty) (s n) x,∀c∈(t.lay s n x).1,c.kn=ζ/\∀id∈c.ids,id=s\/(n<=id/\id<n+γ (t.lay s n x).2):=by
 intro t;induction t with
 |w' t g=>intro s n x;exact g s n x
 |pr a b m l=>
  intro s n x c d;have o:γ ((Ty.pr a b).lay s n x).2=a.no+γ (b.lay s (n+a.no) x.2).2:=by show((a.lay s n x.1).2++(b.lay s _ x.2).2).length=_;rw [bP,Ty.eL]
  have p:=a.eL s n x.1;rcases aR.1 (d)with d|d
  ·obtain⟨j,i⟩:=m s n x.1 c d;refine⟨j,λid f=> ?_⟩;rcases i id f with h|h
   ·exact .inl h
   ·right;rw [o];omega
  ·obtain⟨j,i⟩:=l s _ x.2 c d;refine⟨j,λid f=> ?_⟩;rcases i id f with h|h
   ·exact .inl h
   ·right;rw [o];omega
 |f' k t g=>intro s n x c d;have:c=_:=aE.1 d;subst this;refine⟨rfl,λid f=> ?_⟩;obtain⟨q,j,i⟩:=Ak (f);exact(g s n x q j).2 id i
 |p' e t g=>intro s n x c d;have:c=_:=aE.1 d;subst this;refine⟨rfl,λid f=> ?_⟩;have:id=n:=aE.1 f;subst this;exact .inr ⟨eK _,by show id<id+γ (_::_:List Ob);simp⟩
 |l' e b t g=>intro s n x c d;have:c=_:=aE.1 d;subst this;refine⟨rfl,λid f=> ?_⟩;have:id=n:=aE.1 f;subst this;exact .inr ⟨eK _,nF _⟩
 |r' t g=>intro s n x c d;have:c=_:=aE.1 d;subst this;refine⟨rfl,λid f=> ?_⟩;have:id=n:=aE.1 f;subst this;exact .inr ⟨eK _,nF _⟩
 |y'=>intro s n x c d;have:c=_:=aE.1 d;subst this;refine⟨rfl,λid f=> ?_⟩;have:id=n:=aE.1 f;subst this;exact .inr ⟨eK _,nF _⟩
 |z'=>
  intro s n x c d;have:c=_:=aE.1 d;subst this;refine⟨rfl,λid f=> ?_⟩;have:id=s\/id=n:=by simpa [SC.ids] using f
  rcases this with h|h
  ·exact .inl h
  ·subst h;exact .inr ⟨eK _,nF _⟩
 |u'=>intro s n x c d;cases d
 |sm a b _ _=>intro s n x c d;cases d
 |_=>intro s n x c d;have:c=_:=aE.1 d;subst this;exact⟨rfl,λid f=>by cases f⟩
theorem zY:∀a b,pW (a++b)=pW a++pW b
 |[],b=>rfl
 |x::a,b=>by have:=zY a b;cases x<;>simp [pW,this]
theorem E9:∀(t:Ty) (s n) x,t.F1=ζ->(t.lay s n x).1=(pW (t.lay s n x).1).map λid=>.p' id 0:=by
 intro t;induction t with
 |pr a b d c=>intro s n x h;have h:=iK h;show(a.lay s n x.1).1++(b.lay s _ x.2).1=(pW ((a.lay s n x.1).1++(b.lay s _ x.2).1)).map _;rw [zY,AY,<-d s n x.1 h.1,<-c _ _ _ h.2]
 |p' e t f=>intro s n x h;rfl
 |u'=>intro s n x h;rfl
 |_=>intro s n x h;cases h
variable {H:List Ob}{e:Ob}
theorem oB(h:H[n]? =δ e):gJ H n=e.len:=by rw [XG,h];rfl
variable {o:Option Ob}{b:List t.T}
theorem Wn(d:∀m x,o=δ (.br m x)->γ x=m)(h:Hu t o=δ b):∃ob,o=δ ob/\ob.len=γ b:=by
 unfold Hu at h;split at h
 ·rename_i e l t2 c;split at h
  ·rename_i a;obtain rfl:=Ty.kM a;cases h;exact⟨_,rfl,rfl⟩
  ·cases h
 ·rename_i t2 c;split at h
  ·rename_i a;obtain rfl:=Ty.kM a;cases h;exact⟨_,rfl,rfl⟩
  ·cases h
 ·rename_i m c;have:=d m c rfl;unfold strOf at h;split at h
  ·rename_i a;obtain rfl:=Ty.kM a;cases h;exact⟨_,rfl,this.symm⟩
  ·cases h
 ·cases h
theorem Du(h:C9 t o=δ b):o=δ (.ro t b):=by
 unfold C9 at h;split at h
 ·rename_i t2 l;split at h
  ·rename_i a;obtain rfl:=Ty.kM a;cases h;rfl
  ·cases h
 ·cases h
theorem uM{q:Nat×Nat}(h:rwE o=δ q)(a:rowOf t o=δ b):o=δ (.rw q.1 q.2 t b):=by
 unfold rwE at h;split at h
 ·rename_i e l t2 d;cases h;unfold rowOf at a;simp only at a;split at a
  ·rename_i c;obtain rfl:=Ty.kM c;cases a;rfl
  ·cases a
 ·cases h
variable {g:Type}
theorem oL{a:SC->Option g}{x:g}(h:qp a l=δ (x,r,f)):∃c,l=c::r/\a c=δ x/\f=[]:=by
 cases l with
 |nil=>cases h
 |cons c l=>
  simp only [qp]at h;split at h
  ·rename_i y b;cases h;exact⟨c,rfl,b,rfl⟩
  ·cases h
structure RdOk (any:Bool) (H:List Ob) (t:Ty) (me:Nat) (l:List SC) (x:t.T) (r:List SC) (ss:List Src):Prop where
 no:γ ss=t.no
 kn:∃us,l=us++r/\∀c∈us,c.kn=ζ
 to:∀(ρ cT:Nat->Ad) (CM n:Nat),At t ρ me ss cT CM n->
  l.map (SC.v ρ)=(t.lay CM n x).1.map (SC.v cT)++r.map (SC.v ρ)/\∀(j:Nat) (s:Src) (o:Ob),ss[j]? =δ s->(t.lay CM n x).2[j]? =δ o->WM any ρ H cT s o
theorem xC{x:t.T}{s:Src}{g:Nat->SC}(m:c.kn=ζ)(d:t.no=1)(o:∀r w,t.lay r w x=([g w],[e]))
  (i:∀ρ a w,a w=s.ad ρ->c.v ρ=(g w).v a) (k:∀ρ a,WM y ρ H a s e):RdOk y H t n (c::l) x l [s]:=by
 refine⟨by rw [d];rfl,⟨[c],rfl,λu h=>by rw [aE.1 h];exact m⟩,λρ a b w h=> ?_⟩;rw [o];refine⟨?_,λj r q f p=> ?_⟩
 ·have:=i ρ a w (h.ad 0 s rfl);simp [this]
 ·cases j with
  |zero=>cases f;cases p;exact k ρ a
  |succ j=>simp at f
def MD(H:List Ob):Prop:=∀(id m:Nat) x,H[id]? =δ (.br m x)->γ x=m
theorem dK{a:Option g}{r:g}(h:(bif y then a else ε)=δ r):y=ζ/\a=δ r:=by
 cases y with
 |true=>exact⟨rfl,h⟩
 |false=>cases h
theorem D6(any:Bool)(H:List Ob)(U:MD H):∀t self l x r ss,t.rd any H self l=δ (x,r,ss)->RdOk any H t self l x r ss:=by
 intro t;induction t with
 |i' k=>intro self l x r ss h;obtain⟨c,rfl,w,rfl⟩:=oL h;exact⟨rfl,⟨[c],rfl,λc2 h=>by rw [aE.1 h];cases c<;>first|rfl|cases w⟩,λu f d n h=>⟨by rw [yS,rI_v w];rfl,λj s o p=>by simp at p⟩⟩
 |c'=>intro self l x r ss h;obtain⟨c,rfl,w,rfl⟩:=oL h;exact⟨rfl,⟨[c],rfl,λc2 h=>by rw [aE.1 h];cases c<;>first|rfl|cases w⟩,λu f d n h=>⟨by rw [yS,we w];rfl,λj s o p=>by simp at p⟩⟩
 |s'=>intro self l x r ss h;obtain⟨c,rfl,w,rfl⟩:=oL h;exact⟨rfl,⟨[c],rfl,λc2 h=>by rw [aE.1 h];cases c<;>first|rfl|cases w⟩,λu f d n h=>⟨by rw [yS,rS_v w];rfl,λj s o p=>by simp at p⟩⟩
 |b'=>intro self l x r ss h;obtain⟨c,rfl,w,rfl⟩:=oL h;exact⟨rfl,⟨[c],rfl,λc2 h=>by rw [aE.1 h];cases c<;>first|rfl|cases w⟩,λu f d n h=>⟨by rw [yS,dv w];rfl,λj s o p=>by simp at p⟩⟩
 |u'=>intro self l x r ss h;cases h;exact⟨rfl,⟨[],rfl,λc h=>by cases h⟩,λu f d n h=>⟨rfl,λj s o p=>by simp at p⟩⟩
 |w' t I=>intro self l x r ss h;exact⟨(I self l x r ss h).no,(I self l x r ss h).kn,λu f d n kV=>(I self l x r ss h).to u f d n ⟨kV.sf,kV.ad⟩⟩
 |pr a b a4 a3=>
  intro self l x r ss h;simp only [Ty.rd]at h;split at h
  ·rename_i Z l1 s1 R;split at h
   ·rename_i y2 E s2 hq;cases h;have X:=a4 self l Z l1 s1 R;have P:=a3 self l1 y2 _ s2 hq;obtain⟨us,J,N⟩:=X.kn;obtain⟨ws,a7,a6⟩:=P.kn;refine⟨by rw [bP,X.no,P.no];rfl,⟨us++ws,by rw [J,a7,gH],λc w=>(aR.1 w).elim (N c) (a6 c)⟩,λu f d n kV=> ?_⟩;have hl:γ s1=γ (a.lay d n Z).2:=by rw [X.no,Ty.eL]
    obtain⟨p,G⟩:=X.to u f d n kV.left;obtain⟨h3,h4⟩:=P.to u f d (n+a.no) (by have:=kV.right;rwa [X.no]at this);refine⟨?_,λj s o z A=> ?_⟩
    ·show _=((a.lay d n Z).1++(b.lay d (n+a.no) y2).1).map _++_;rw [p,h3,AY,gH]
    ·have L:((a.lay d n Z).2++(b.lay d (n+a.no) y2).2)[j]? =δ o:=A;by_cases F:j<γ s1
     ·rw [aI F]at z;rw [aI aA0]at L;exact G j s o z L
     ·rw [aN aA0]at z;rw [aN aA0,<-hl]at L;exact h4 _ s o z L
   ·cases h
  ·cases h
 |sm a b _ _=>intro self l x r ss h;cases h
 |l' e b t I=>
  intro self l x r ss h;simp only [Ty.rd]at h;split at h
  ·cases h;exact xC (g:=λn=>.l' n) rfl rfl (λ_ _=>rfl) (λu f n p=>by simp [SC.v,p,Src.ad]) (λ_ _=>.inr (.inl ⟨rfl,rfl⟩))
  ·rename_i id E;split at h
   ·rename_i q hq;cases D:cV q.1 e with
    |false=>rw [D]at h;cases h
    |true=>
     cases P:cV q.2 b with
     |false=>rw [D,P]at h;cases h
     |true=>
      rw [D,P]at h;simp at h;split at h
      ·rename_i y C;cases h;have B:=uM hq C;rw [gV,iB D,iB P]at B;exact xC (g:=λn=>.l' n) rfl rfl (λ_ _=>rfl) (λu f n p=>by simp [SC.v,p,Src.ad]) (λ_ _=>.inl ⟨id,rfl,B⟩)
      ·cases h
   ·cases h
  ·rename_i id m E;split at h
   ·rename_i Y cs B;rw [gV]at B;cases D:cV Y e with
    |false=>rw [D]at h;cases h
    |true=>
     rw [D]at h;simp at h;have h:=dK h;have hm:=dK h.2;have G:=hm.2;split at G
     ·rename_i y C;cases G;rw [iB D]at B;refine xC (g:=λn=>.l' n) rfl rfl (λ_ _=>rfl) (λu f n p=> ?_) (λ_ _=>.inr (.inr ⟨id,m,cs,rfl,B,C,h.1,BJ hm.1⟩));have:=(y7 C).1;simp [SC.v,p,Src.ad]
     ·cases G
   ·cases h
  ·cases h
 |y'=>
  intro self l x r ss h;simp only [Ty.rd]at h;split at h
  ·rename_i id E;split at h
   ·rename_i m y B;cases h;rw [gV]at B;have hm:=U id m x B;exact xC (g:=λn=>.l' n) rfl rfl (λ_ _=>rfl) (λu f n p=>by simp [SC.v,p,Src.ad]) (λ_ _=>⟨rfl,id,m,rfl,B⟩)
   ·cases h
  ·cases h
 |r' t I=>
  intro self l x r ss h;simp only [Ty.rd]at h;split at h
  ·cases h;exact xC (g:=λn=>.l' n) rfl rfl (λ_ _=>rfl) (λu f n p=>by simp [SC.v,p,Src.ad]) (λ_ _=>.inr (.inl ⟨rfl,rfl⟩))
  ·rename_i id E;split at h
   ·rename_i y C;cases h
    rw [gV]at C;have b5:gJ H id=γ x:=by
     cases any with
     |true=>obtain⟨ob,p,G⟩:=Wn (λm x hx=>U id m x hx) (show Hu t H[id]? =δ x from C);rw [oB p,G]
     |false=>have p:=Du (show C9 t H[id]? =δ x from C);rw [oB p];rfl
    exact xC (g:=λn=>.l' n) rfl rfl (λ_ _=>rfl) (λu f n p=>by simp [SC.v,p,Src.ad]) (λ_ _=>.inl ⟨id,rfl,C⟩)
   ·cases h
  ·rename_i id m E;cases any with
   |false=>cases h
   |true=>
    simp at h;split at h
    ·rename_i Y cs B;rw [gV]at B;split at h
     ·rename_i y C;cases h;refine xC (g:=λn=>.l' n) rfl rfl (λ_ _=>rfl) (λu f n p=> ?_) (λ_ _=>.inr (.inr ⟨rfl,id,m,Y,cs,rfl,B,C⟩));have:=(y7 C).1;simp [SC.v,p,Src.ad]
     ·cases h
    ·cases h
  ·cases h
 |p' e t I=>
  intro self l x r ss h;simp only [Ty.rd]at h;split at h
  ·rename_i id off E;split at h
   ·rename_i Y cs B;rw [gV]at B;cases A:cV off 0 with
    |false=>rw [A]at h;cases h
    |true=>
     cases D:cV Y e with
     |false=>rw [A,D]at h;cases h
     |true=>
      rw [A,D]at h;simp at h;split at h
      ·rename_i y M C;cases h;rw [iB D]at B;have Q:=I id cs x [] M C;obtain⟨us,J,N⟩:=Q.kn;rw [fI]at J;subst J;refine⟨by rw [bX,Q.no];rfl,⟨[_],rfl,λc w=>by rw [aE.1 w];rfl⟩,λu f d n kV=> ?_⟩;have W:f n=u id:=kV.ad 0 _ rfl;have V:At t u id M f n (n+1):=⟨λ_=>by rw [W],λj s F=>by rw [Qp];exact kV.ad (j+1) s (by simpa using F)⟩;obtain⟨p,G⟩:=Q.to u f n (n+1) V;refine⟨?_,λj s o z S=> ?_⟩
       ·show(SC.p' id off).v u::_=[(SC.p' n 0).v f]++_;simp [SC.v,W,iB A]
       ·cases j with
        |zero=>cases z;have:Ob.bl e (t.lay n (n+1) x).1=o:=aJ S;subst this;refine⟨id,cs,rfl,B,by simpa using p,N,λc w=>(Ty.Eo t n (n+1) x c w).1⟩
        |succ j=>exact G j s o (by simpa using z) (by simpa [Ty.lay] using S)
      ·cases h
   ·cases h
  ·cases h
 |z'=>
  intro self l x r ss h;simp only [Ty.rd]at h;split at h
  ·rename_i j E;cases F:cV j 0 with
   |false=>rw [F]at h;cases h
   |true=>
    rw [F]at h;cases h;refine⟨rfl,⟨[_],rfl,λc w=>by rw [aE.1 w];rfl⟩,λu f d n kV=>⟨?_,λi s o z A=> ?_⟩⟩
    ·have:=kV.ad 0 _ rfl;simp at this;simp [Ty.lay,SC.v,this,Src.ad,iB F,ey]
    ·cases i with
     |zero=>cases z;cases(aJ A);exact⟨rfl,.inl ⟨_,rfl⟩⟩
     |succ i=>simp at z
  ·rename_i id off E;cases A:cV off 0 with
   |false=>rw [A]at h;cases h
   |true=>
    cases O:cV id self with
    |false=>rw [A,O]at h;cases h
    |true=>
     rw [A,O]at h;cases h;refine⟨rfl,⟨[_],rfl,λc w=>by rw [aE.1 w];rfl⟩,λu f d n kV=>⟨?_,λi s o z A=> ?_⟩⟩
     ·have:=kV.ad 0 _ rfl;simp at this;have K:=kV.sf rfl;rw [<-iB O]at K;simp [Ty.lay,SC.v,this,Src.ad,iB A,jH]
     ·cases i with
      |zero=>cases z;cases(aJ A);exact⟨rfl,.inl ⟨_,rfl⟩⟩
      |succ i=>simp at z
  ·rename_i id fl E;cases O:cV id self with
   |false=>rw [O]at h;cases h
   |true=>
    rw [O]at h;simp at h;split at h
    ·rename_i T;cases h;rw [gV]at T;refine⟨rfl,⟨[_],rfl,λc w=>by rw [aE.1 w];rfl⟩,λu f d n kV=>⟨?_,λi s o z A=> ?_⟩⟩
     ·have:=kV.ad 0 _ rfl;simp at this;have K:=kV.sf rfl;rw [<-iB O]at K;simp [Ty.lay,SC.v,this,Src.ad,K]
     ·cases i with
      |zero=>cases z;cases(aJ A);exact⟨rfl,.inr ⟨fl,rfl,T⟩⟩
      |succ i=>simp at z
    ·cases h
  ·cases h
 |o' j=>
  intro self l x r ss h;simp only [Ty.rd]at h;split at h
  ·rename_i j2 E;cases F:cV j j2 with
   |false=>rw [F]at h;cases h
   |true=>rw [F]at h;cases h;exact⟨rfl,⟨[_],rfl,λc w=>by rw [aE.1 w];rfl⟩,λu f d n kV=>⟨by simp [Ty.lay,SC.v,iB F],λi s o z A=>by simp at z⟩⟩
  ·cases h
 |f' k t I=>
  intro self l x r ss h;simp only [Ty.rd]at h;split at h
  ·rename_i k2 a5 E;cases hk:cV k k2 with
   |false=>rw [hk]at h;cases h
   |true=>
    cases R:t.F1 with
    |false=>rw [hk,R]at h;cases h
    |true=>
     rw [hk,R]at h;split at h
     ·rename_i y M C;cases h;have Q:=I self _ x [] ss C;refine⟨Q.no,⟨[_],rfl,λc w=>by rw [aE.1 w];rfl⟩,λu f d n kV=> ?_⟩;obtain⟨p,G⟩:=Q.to u f d n ⟨kV.sf,kV.ad⟩;refine⟨?_,G⟩;have h3:=E9 t d n x R;rw [h3,eG,fI,jN,jN]at p;have h4:(a5.map λid=>jH (u id).b 0)=(pW (t.lay d n x).1).map λid=>jH (f id).b 0:=p;simp [Ty.lay,SC.v,iB hk,h4]
     ·cases h
  ·cases h
open Nat renaming blt → gA
theorem Hp.pick{w0 w:ν}{S:List Nat}{L L2:List cB}(M:List (Option Nat))(h:Hp w0 S L w)
  (o:∀(j:Nat) r,L2[j]? =δ r->r.holds w/\∀b,r.own=δ b->∃i a,M[j]? =δ (δ i)/\L[i]? =δ a/\a.own=δ b)
  (D:∀j k i:Nat,M[j]? =δ (δ i)->M[k]? =δ (δ i)->j=k):Hp w0 S L2 w:=by
 refine⟨h.os,h.tape,h.output,h.size,h.below,λr A=> ?_, ?_⟩
 ·obtain⟨j,m⟩:=gD.1 A;obtain⟨H,G⟩:=o j r m;refine⟨H,λb q=> ?_⟩;obtain⟨i,a,_,t,g⟩:=G b q;exact(h.res a (aG t)).2 b g
 ·refine eM.2 λj k m B C b q p=> ?_;obtain⟨i,a,F,t,g⟩:=(o j _ (aO m)).2 b q;obtain⟨f,z,u,s,e⟩:=(o k _ (aO B)).2 b p;obtain⟨d,y⟩:=aD.1 t;obtain⟨c,x⟩:=aD.1 s;have v:=eM.1 h.sep
  have:i=f:=by
   rcases Nat.lt_trichotomy i f with l|E|n
   ·exact absurd (by rw [x];exact e) (v i f d c l b (by rw [y];exact g))
   ·exact E
   ·exact absurd (by rw [y];exact g) (v f i c d n b (by rw [x];exact e))
  subst this;have:=D j k i F u;omega
theorem lR(S:St)(d t:Nat)(v:SV):(S.set d v).at t=if t=d then v else S.at t:=by
 unfold St.at St.set;by_cases h:t=d
 ·subst h;rw [Go.Ce.Tr.Bk];simp
 ·rw [Go.Ce.Tr.Bk,aA h,aA h]
theorem vF(S:St)(d:Option Nat)(v:SV)(t:Nat):(S.xB d v).at t=if d=δ t then v else S.at t:=by
 cases d with
 |none=>simp [St.xB]
 |some d=>
  simp only [St.xB,lR,aW];by_cases h:t=d
  ·subst h;simp
  ·rw [aA h,aA (λe=>h e.symm)]
structure Rel (C:Cx) (w0:ν) (S0:List Nat) (ρ:Nat->Ad) (S:St) (F:Nat->θ) (w:ν):Prop where
 gl:∀g id,C.G g=δ id->id<γ S.H/\(ρ id).a=δ ⟨g,0,ε⟩
 fr:∀(t:Nat) (v:θ),(S.at t).v ρ=δ v->F t=v
 fo:∀t,(S.at t).ok (γ S.H)
 ho:∀(id e:Nat) (cs:List SC),S.H[id]? =δ (.bl e cs)->∀c∈cs,c.ok (γ S.H)
 mem:∃L,Hp w0 S0 L w/\Mt w0 S0 ρ S.H L
def lS(f:List Rg)(id:Nat)(ρ g:Nat->Ad)(d:Option Ob):Ob->Prop
 |.bl e cs=>(∀j,j<=γ cs->eY id j f=ζ)\/∃a,d=δ (.bl e a)/\γ a=γ cs/\∀j c,cs[j]? =δ c->eY id j f=ζ\/∃h,a[j]? =δ h/\(c.kn=ζ->h.kn=ζ/\h.v g=c.v ρ)
 |.rw e b t l=>eY id 0 f=ζ\/d=δ (.rw e b t l)
 |.br m l=>eY id 0 f=ζ\/d=δ (.br m l)
 |.ro t l=>d=δ (.ro t l)
 |.dd n=>d=δ (.dd n)
structure Le (nb:Nat) (al:List Rg) (ρ:Nat->Ad) (H:List Ob) (cT:Nat->Ad) (H2:List Ob):Prop where
 len:γ H<=γ H2
 up:Up (γ H) ρ cT
 kp:∀(id:Nat) (o:Ob),id<nb->H[id]? =δ o->lS al id ρ cT H2[id]? o
variable {k:List Rg}
theorem lS.refl:lS k n a a (δ e) e:=by
 cases e with
 |bl ρ cs=>exact .inr ⟨cs,rfl,rfl,λj c h=>.inr ⟨c,h,λd=>⟨d,rfl⟩⟩⟩
 |rw ρ b t l=>exact .inr rfl
 |br m l=>exact .inr rfl
 |ro t l=>exact rfl
 |dd o=>exact rfl
theorem Le.refl{a:Nat}{b:List Rg}{ρ:Nat->Ad}{H:List Ob}:Le a b ρ H ρ H:=⟨eK _,Up.refl,λid o _ h=>by rw [h];exact lS.refl⟩
theorem lS.mono{i:List Rg}{id:Nat}(h:lS k id a d o e)(f:∀j,eY id j k=ζ->eY id j i=ζ):lS i id a d o e:=by
 cases e with
 |bl ρ cs=>
  rcases h with h|⟨g,u,s,r⟩
  ·exact .inl λj p=>f j (h j p)
  ·exact .inr ⟨g,u,s,λj c q=>(r j c q).imp (f j) λh=>h⟩
 |rw ρ b t l=>exact h.imp (f 0) λh=>h
 |br m l=>exact h.imp (f 0) λh=>h
 |ro t l=>exact h
 |dd n=>exact h
theorem Le.mono{d a:Nat}{e c:List Rg}{ρ b:Nat->Ad}{H H2:List Ob}(h:Le d e ρ H b H2)(k:a<=d)(g:∀id j,id<a->eY id j e=ζ->eY id j c=ζ):Le a c ρ H b H2:=
 ⟨h.len,h.up,λid o i f=>(h.kp id o aA0 f).mono λj=>g id j i⟩
theorem Le.trans{r:Nat}{w:List Rg}{ρ k ρ3:Nat->Ad}{H H2 x:List Ob}(h:Le r w ρ H k H2)(g:Le r w k H2 ρ3 x):Le r w ρ H ρ3 x:=by
 refine⟨lE h.len g.len,h.up.trans g.up h.len,λid o i y=> ?_⟩;have f:=h.kp id o i y;cases o with
 |bl e cs=>
  rcases f with f|⟨E,p,K,D⟩
  ·exact .inl f
  ·rcases g.kp id _ i p with C|⟨v,B,J,A⟩
   ·exact .inl λj I=>C j aA0
   ·refine .inr ⟨v,B,aA0,λj c z=> ?_⟩;rcases D j c z with u|⟨G,u,d⟩
    ·exact .inl u
    ·rcases A j G u with a|⟨F,a,q⟩
     ·exact .inl a
     ·exact .inr ⟨F,a,λs=>⟨(q (d s).1).1,((q (d s).1).2).trans (d s).2⟩⟩
 |rw e b t l=>exact f.elim .inl λp=>g.kp id _ i p
 |br m l=>exact f.elim .inl λp=>g.kp id _ i p
 |ro t l=>exact g.kp id _ i f
 |dd n=>exact g.kp id _ i f
theorem Pj{id a:Nat}{c:List Rg}:∀{n:Nat},T3 id a c n=ζ->∀j,a<=j->j<a+n->eY id j c=ζ
 |0,_,j,b,e=>by omega
 |n+1,h,j,b,e=>by
  have h:=iK h;by_cases d:j=a+n
  ·subst d;exact h.1
  ·exact Pj h.2 j b aA0
theorem xc{S:St}{q:Rg}(h:S.ok q=ζ)(a:q.1<S.nb)(j:Nat)(c:q.2.1<=j)(d:j<q.2.2):eY q.1 j S.al=ζ:=by
 unfold St.ok at h;have b:gA q.1 S.nb=ζ:=by simpa [jK] using a
 rw [b]at h;exact Pj h j c aA0
theorem OP{S:St}:∀{l:List Rg},S.Gu l=ζ->∀q∈l,S.ok q=ζ
 |[],_,q,h=>by cases h
 |x::l,h,q,a=>by
  have h:=iK h;rcases aP.1 a with rfl|a
  ·exact h.1
  ·exact OP h.2 q a
open UInt8 renaming ofNat → uF
variable {v:θ}
theorem S8(h:cvC v=δ c):c.ids=[]/\c.kn=ζ/\∀ρ,c.v ρ=v:=by
 unfold cvC at h;split at h
 ·cases h;exact⟨rfl,rfl,λ_=>rfl⟩
 ·rename_i k n;cases a:JZ k .u8 with
  |true=>
   rw [a]at h;split at h
   ·rename_i b;cases h;refine⟨rfl,rfl,λ_=> ?_⟩;rw [mY a];have:((uF n.toNat).toNat)=n:=by rw [qO];omega
    show bt _=_;unfold bt;rw [this]
   ·cases h
  |false=>rw [a]at h;cases h;exact⟨rfl,rfl,λ_=>rfl⟩
 ·cases h;refine⟨rfl,rfl,λ_=> ?_⟩;congr 1
 ·cases h;exact⟨rfl,rfl,λ_=>rfl⟩
 ·cases h;exact⟨rfl,rfl,λ_=>rfl⟩
 ·cases h;exact⟨rfl,rfl,λ_=>rfl⟩
 ·cases h;exact⟨rfl,rfl,λ_=>rfl⟩
 ·cases h
theorem KW:∀{l:List θ} {cs:List SC},cvL l=δ cs->(∀c∈cs,c.ids=[]/\c.kn=ζ)/\∀ρ,cs.map (SC.v ρ)=l
 |[],cs,h=>by cases h;exact⟨λc h=>absurd h aA2,λ_=>rfl⟩
 |v::l,cs,h=>by
  simp only [cvL]at h;split at h
  ·rename_i x hx;split at h
   ·rename_i q a;cases h;obtain⟨j,i,g⟩:=S8 hx;obtain⟨f,d⟩:=KW a;exact⟨λc b=>(aP.1 b).elim (λe=>e▸⟨j,i⟩) (f c),λρ=>by rw [yS,g,d]⟩
   ·cases h
  ·cases h
theorem se{u:θ}(n:Nat):(cv v).ok n/\∀ρ,(cv v).v ρ=δ u->u=v:=by
 unfold cv;split
 ·rename_i cs;split
  ·rename_i l e;obtain⟨b,d⟩:=KW e;refine⟨λc f=>λid a=>(by rw [(b c f).1]at a;cases a),λρ h=> ?_⟩;simp only [SV.v,d]at h;cases h;rfl
  ·exact⟨trivial,λρ h=>by cases h⟩
 ·split
  ·rename_i x hx;obtain⟨b,d,g⟩:=S8 hx;refine⟨λid a=>(by rw [b]at a;cases a),λρ h=> ?_⟩;simp only [SV.v,g]at h;cases h;rfl
  ·exact⟨trivial,λρ h=>by cases h⟩
section
variable {C:Cx}{md:Md}{w0 w:ν}{S0:List Nat}{ρ:Nat->Ad}{S:St}{F:Nat->θ}
theorem Sl(h:Rel C w0 S0 ρ S F w)(c:C.nn=md.n)(x:π):(S.ev C x).ok (γ S.H)/\∀u,(S.ev C x).v ρ=δ u->aZ md F x=u:=by
 cases x with
 |tmp t=>
  simp only [St.ev,aZ,c];cases f:gA t md.n with
  |true=>exact⟨h.fo t,λu a=>h.fr t u a⟩
  |false=>exact⟨trivial,λu a=>by cases a⟩
 |const v=>exact⟨(se (u:=v) _).1,λu a=>((se 0).2 _ a).symm⟩
 |global g=>
  simp only [St.ev];cases d:C.G g with
  |none=>exact⟨trivial,λu a=>by cases a⟩
  |some id=>obtain⟨j,e⟩:=h.gl g id d;refine⟨λi b=>(by have:i=id:=aE.1 b;omega),λu a=> ?_⟩;simp only [SV.v,SC.v,e]at a;cases a;simp [aZ,ea,Addr.add]
 |func k=>exact⟨λi b=>(by cases b),λu a=>(by cases a;rfl)⟩
variable {x:π}{f:SC}
theorem oT(h:Rel C w0 S0 ρ S F w)(d:C.nn=md.n)(e:S.ev C x=.c' f):f.ok (γ S.H)/\aZ md F x=f.v ρ:=by obtain⟨b,a⟩:=Sl h d x;rw [e]at b a;exact⟨b,a _ rfl⟩
def vT(C:Cx)(md:Md)(ρ:Nat->Ad)(S:St)(F:Nat->θ)(w:ν)(op:Op)(v:SV):Prop:=
 v.ok (γ S.H)/\∃u,v.v ρ=δ u/\∀(d:Nat) a pos after,(ξ (aZ md F) (⟨δ d,op,a,pos,after,ε⟩)).run C.P w=.ok (.value u) w
def Iy:List PD->Prop
 |[]=>True
 |q::l=>q.p/\Iy l
theorem fV{op:Op}{u:θ}(b:f.ids=[])(e:u=f.v ρ)(h:∀(d:Nat) (ty:φ) (pos:String) (after:Array Edge),(ξ (aZ md F) (⟨δ d,op,ty,pos,after,ε⟩:ψ)).run C.P w=.ok (.value u) w):vT C md ρ S F w op (.c' f):=
 ⟨λid a=>(by rw [b]at a;cases a),u,by rw [e];rfl,h⟩
variable {r:SV}
theorem mH{a:Type}{f:SC->Option a}{x:a}(h:hY r f=δ x):∃c,r=.c' c/\f c=δ x:=by
 cases r with
 |c' c=>exact⟨c,rfl,h⟩
 |_=>cases h
variable {k:Α}
theorem Fh(h:i64 k=ζ):k=.i64:=mY h
variable {b:BinOp}{t a:φ}{y:π}{v:Int}{g:List PD}
theorem bI_ok{u:Int}(hx:aZ md F x=.int k v)(c:aZ md F y=.int k u)(h:bI b k v u=δ (g,r))(f:Iy g):vT C md ρ S F w (.binOp b t x y a) r:=by
 cases b<;>simp only [bI,iW,Sb,reduceCtorEq,aW,bR]at h
 case lss=>obtain⟨-,rfl⟩:=h;exact fV rfl rfl λd e pos after=>XZ k v u hx c
 case leq=>obtain⟨-,rfl⟩:=h;exact fV rfl rfl λd e pos after=>YA k v u hx c
 case gtr=>obtain⟨-,rfl⟩:=h;exact fV rfl rfl λd e pos after=>YD k v u hx c
 case geq=>obtain⟨-,rfl⟩:=h;exact fV rfl rfl λd e pos after=>YE k v u hx c
 case eql=>obtain⟨-,rfl⟩:=h;exact fV rfl rfl λd e pos after=>YF k v u hx c
 case neq=>obtain⟨-,rfl⟩:=h;exact fV rfl rfl λd e pos after=>XX k v u hx c
 case and=>obtain⟨-,rfl⟩:=h;exact fV rfl rfl λd e pos after=>oo k v u hx c
 case or=>obtain⟨-,rfl⟩:=h;exact fV rfl rfl λd e pos after=>x_or k v u hx c
 case add=>
  cases i:i64 k with
  |true=>rw [i]at h;obtain rfl:=Fh i;simp only [aQ,aW,bR]at h;obtain⟨rfl,rfl⟩:=h;exact fV rfl rfl λd e pos after=>yZ v u hx c ⟨f.1.lo,f.1.hi⟩
  |false=>rw [i]at h;simp only [aH,aW,bR]at h;obtain⟨-,rfl⟩:=h;exact fV rfl rfl λd e pos after=>YH k v u hx c
 case sub=>
  cases i:i64 k with
  |true=>rw [i]at h;obtain rfl:=Fh i;simp only [aQ,aW,bR]at h;obtain⟨rfl,rfl⟩:=h;exact fV rfl rfl λd e pos after=>uG v u hx c ⟨f.1.lo,f.1.hi⟩
  |false=>rw [i]at h;simp only [aH,aW,bR]at h;obtain⟨-,rfl⟩:=h;exact fV rfl rfl λd e pos after=>XU k v u hx c
 case mul=>
  cases i:i64 k with
  |true=>rw [i]at h;obtain rfl:=Fh i;simp only [aQ,aW,bR]at h;obtain⟨rfl,rfl⟩:=h;exact fV rfl rfl λd e pos after=>MP v u hx c ⟨f.1.lo,f.1.hi⟩
  |false=>rw [i]at h;simp only [aH,aW,bR]at h;obtain⟨-,rfl⟩:=h;exact fV rfl rfl λd e pos after=>XY k v u hx c
 case quo=>
  cases i:i64 k with
  |true=>rw [i]at h;obtain rfl:=Fh i;simp only [aQ,aW,bR]at h;obtain⟨rfl,rfl⟩:=h;exact fV rfl rfl λd e pos after=>tt v u hx c f.1
  |false=>rw [i]at h;cases h
 case rem=>
  cases i:i64 k with
  |true=>rw [i]at h;obtain rfl:=Fh i;simp only [aQ,aW,bR]at h;obtain⟨rfl,rfl⟩:=h;exact fV rfl rfl λd e pos after=>tr v u hx c f.1
  |false=>rw [i]at h;cases h
variable {n:Md}{P:ω}{e:Nat}{d:String}{c:Array Edge}
theorem ua{t':φ}(l b:UInt8)(hx:aZ n F x=bt l)(m:aZ n F y=bt b)(h:b≠0):(ξ (aZ n F) (⟨δ e,.binOp .quo a x y t',t,d,c,ε⟩)).run P w=.ok (.value (bt (l/b))) w:=by
 have j:=Qo λo=>h (pB.1 o);have f:=lT (l/b);have i:=UInt8.toNat_div l b;have g:l.toNat/b.toNat=((l/b).toNat:Int):=by rw [i];rfl
 rw [od .u8 _ b.toNat hx m aA0 aA0 (by rw [g,IntKind.wrap_u8];omega)];rfl
theorem tx{t':φ}(l b:UInt8)(hx:aZ n F x=bt l)(m:aZ n F y=bt b)(h:b≠0):(ξ (aZ n F) (⟨δ e,.binOp .rem a x y t',t,d,c,ε⟩)).run P w=.ok (.value (bt (l%b))) w:=by
 have j:=Qo λo=>h (pB.1 o);have f:=lT (l%b);have i:=UInt8.toNat_mod l b;have g:l.toNat%b.toNat=((l%b).toNat:Int):=by rw [i];rfl
 rw [nz .u8 _ b.toNat hx m aA0 aA0 (by rw [g,IntKind.wrap_u8];omega)];rfl
variable {u:UInt8}
theorem bC_ok{v:UInt8}(hx:aZ md F x=bt u)(i:aZ md F y=bt v)(h:bC b u v=δ (g,r))(e:Iy g):vT C md ρ S F w (.binOp b t x y a) r:=by
 cases b<;>simp only [bC,iW,Sb,reduceCtorEq,aW,bR]at h<;>obtain⟨rfl,rfl⟩:=h
 case lss=>exact fV rfl rfl λd c pos after=>YM u v hx i
 case leq=>exact fV rfl rfl λd c pos after=>uc u v hx i
 case gtr=>exact fV rfl rfl λd c pos after=>YN u v hx i
 case geq=>exact fV rfl rfl λd c pos after=>ud u v hx i
 case eql=>exact fV rfl rfl λd c pos after=>YO u v hx i
 case neq=>exact fV rfl rfl λd c pos after=>YL u v hx i
 case add=>exact fV rfl rfl λd c pos after=>uf u v hx i
 case sub=>exact fV rfl rfl λd c pos after=>YI u v hx i
 case mul=>exact fV rfl rfl λd c pos after=>ub u v hx i
 case quo=>exact fV rfl rfl λd c pos after=>ua u v hx i e.1
 case rem=>exact fV rfl rfl λd c pos after=>tx u v hx i e.1
 case and=>exact fV rfl rfl λd c pos after=>ue u v hx i
 case or=>exact fV rfl rfl λd c pos after=>x8_or u v hx i
theorem bS_ok{u v:aC}(hx:aZ md F x=str u)(i:aZ md F y=str v)(h:bS b u v=δ (g,r))(e:Iy g):vT C md ρ S F w (.binOp b t x y a) r:=by
 cases b<;>simp only [bS,iW,Sb,reduceCtorEq,aW,bR]at h<;>obtain⟨rfl,rfl⟩:=h
 case lss=>exact fV rfl rfl λd c pos after=>ML u v hx i
 case gtr=>exact fV rfl rfl λd c pos after=>MM u v hx i
 case eql=>exact fV rfl rfl λd c pos after=>MN u v hx i
 case neq=>exact fV rfl rfl λd c pos after=>MK u v hx i
 case add=>exact fV rfl rfl λd c pos after=>BK u v hx i e.1
variable {z:Bool}
theorem bB_ok{v:Bool}(c:C.P.underlying t=δ .bool)(hx:aZ md F x=.bool z)(u:aZ md F y=.bool v)(h:bB b z v=δ (g,r)):vT C md ρ S F w (.binOp b t x y a) r:=by
 cases b<;>simp only [bB]at h<;>obtain⟨rfl,rfl⟩:=h
 case eql=>exact fV rfl rfl λd e pos after=>x_eqb z v c hx u
 case neq=>exact fV rfl rfl λd e pos after=>x_neb z v c hx u
theorem vm(hx:aZ md F x=bt u)(i:aZ md F y=.int k v)(e:z=ζ->0<=v)(h:sh8 z b u v=δ (g,r))(f:Iy g):vT C md ρ S F w (.binOp b t x y a) r:=by
 cases b<;>simp only [sh8,iW,Sb,reduceCtorEq]at h
 case shl=>
  cases z with
  |true=>cases h;exact fV rfl rfl λd c pos after=>YK k u v hx i (e rfl)
  |false=>cases h;exact fV rfl rfl λd c pos after=>YK k u v hx i f.1
 case shr=>
  cases z with
  |true=>cases h;exact fV rfl rfl λd c pos after=>YJ k u v hx i (e rfl)
  |false=>cases h;exact fV rfl rfl λd c pos after=>YJ k u v hx i f.1
theorem ie(a:aZ md F x=.int k v)(h:ig x=ζ):0<=v:=by
 unfold ig at h;split at h
 ·rename_i k' n;have:υ k' _=.int k v:=a;cases this;exact Qu n
 ·cases h
end
open Go.Wk
open Go.Ce (Tr)
open Nat renaming beq → cV, blt → gA, succ → rY
theorem beqN(a b:Nat):cV a b=decide (a=b):=by
 by_cases h:a=b
 ·subst h;simp
 ·cases c:cV a b with
  |true=>exact absurd (iB c) h
  |false=>simp [h]
theorem bleN(a b:Nat):Nat.ble a b=decide (a<=b):=by
 by_cases h:a<=b
 ·simp [h]
 ·cases c:Nat.ble a b with
  |true=>exact absurd (BJ c) h
  |false=>simp [h]
theorem bltN(a b:Nat):gA a b=decide (a<b):=by unfold gA;rw [bleN];rfl
theorem wO{id j:Nat}:∀{l:List Rg},eY id j l=ζ↔∃q∈l,q.1=id/\q.2.1<=j/\j<q.2.2
 |[]=>by simp [eY]
 |q::l=>by have a:=wO (id:=id) (j:=j) (l:=l);simp only [eY,WU,exists_eq_or_imp];rw [<-a];by_cases c:q.1=id<;>by_cases b:q.2.1<=j<;>by_cases d:j<q.2.2<;>simp [c,b]
variable {k j:Nat}{a:List Rg}
theorem Hv{b:List Rg}:eY k j (a++b)=ζ↔eY k j a=ζ\/eY k j b=ζ:=by
 simp only [wO,aR];constructor
 ·rintro⟨q,h|h,c⟩
  ·exact .inl ⟨q,h,c⟩
  ·exact .inr ⟨q,h,c⟩
 ·rintro(⟨q,h,c⟩|⟨q,h,c⟩)
  ·exact⟨q,.inl h,c⟩
  ·exact⟨q,.inr h,c⟩
theorem Wo{t:Nat}:∀{l:List Nat},mF t l=ζ↔t∈l
 |[]=>by simp [mF]
 |x::l=>by simp only [mF,WU];rw [<-Wo];by_cases h:t=x<;>simp
theorem tI:∀{l r:List Nat},GQ l r=ζ↔∀x∈l,x∉r
 |[],r=>by simp [GQ]
 |x::l,r=>by have a:=tI (l:=l) (r:=r);have b:=Wo (t:=x) (l:=r);simp only [GQ,WU,forall_eq_or_imp];rw [<-a,<-b];cases mF x r<;>simp
theorem nY:∀{l:List Nat},Rw l=ζ↔l.Nodup
 |[]=>by simp [Rw]
 |x::l=>by have a:=nY (l:=l);have b:=Wo (t:=x) (l:=l);simp only [Rw,List.nodup_cons];rw [<-a,<-b];cases mF x l<;>simp
variable {n:Nat}
theorem ke(h:T3 k j a n=ζ){b:Nat}(d:j<=b)(c:b<j+n):eY k b a=ζ:=Pj h b d c
theorem Xl{n:Nat}{f:List Rg}:∀{m:List Rg},IZ n f m=ζ->∀{id j:Nat},id<n->eY id j m=ζ->eY id j f=ζ
 |[],_,id,j,_,b=>by simp [eY]at b
 |q::m,h,id,j,hid,b=>by
  have h:=iK h;obtain⟨r,a,e,d,g⟩:=wO.1 b;rcases aP.1 a with rfl|a
  ·have c:=h.1;rw [e,bltN]at c;simp only [hid]at c;exact ke c d aA0
  ·exact Xl h.2 hid (wO.2 ⟨r,a,e,d,g⟩)
theorem Ae{S:St}(h:S.Gu a=ζ)(hid:k<S.nb)(b:eY k j a=ζ):eY k j S.al=ζ:=by obtain⟨q,l,e,d,c⟩:=wO.1 b;subst e;exact xc (OP h q l) hid j d c
theorem bbd{H:List Ob}:∀{l:List Nat} {id:Nat},id∈l->wU H id∈Wm H l
 |x::l,id,h=>by
  rcases aP.1 h with rfl|h
  ·exact fE
  ·exact eT _ (bbd h)
theorem Te{H:List Ob}:∀{l:List Nat} {q:Rg},q∈Wm H l->∃id∈l,q=wU H id
 |x::l,q,h=>by
  rcases aP.1 (h)with rfl|h
  ·exact⟨x,fE,rfl⟩
  ·obtain⟨id,b,a⟩:=Te h;exact⟨id,eT _ b,a⟩
variable {H:List Ob}{l:List Nat}
theorem Kl{cs:List SC}(h:H[k]? =δ (.bl j cs))(a:k∈l)(b:n<=γ cs):eY k n (Wm H l)=ζ:=by refine wO.2 ⟨_,bbd a,rfl,cO _, ?_⟩;unfold wU;rw [gV,h];show n<rY (γ cs);omega
theorem avu(a:k∈l):eY k 0 (Wm H l)=ζ:=by
 refine wO.2 ⟨_,bbd a,rfl,cO _, ?_⟩;unfold wU;split
 ·rename_i h;simp_all
 ·simp
variable {b:Type}{d:List b}{y:b}
theorem yA:(kA d k y)[j]? =if j=k/\k<γ d then δ y else d[j]? :=by
 rw [pY,eH];by_cases h:k=j
 ·subst h;by_cases a:k<γ d
  ·simp [a]
  ·simp [a]
 ·rw [aA h,aA aA0]
theorem LU:γ (kA d k y)=γ d:=by rw [pY,pD]
theorem bci:∀{l:List Nat} {H:List Ob},γ (kill H l)=γ H
 |[],_=>rfl
 |x::l,H=>by show(kill _ l).length=_;rw [bci,LU]
theorem RD{id:Nat}:∀{l:List Nat} {H:List Ob},(kill H l)[id]? =if id∈l then(H[id]?).map (λo=>.dd o.len)else H[id]?
 |[],H=>by simp [kill]
 |x::l,H=>by
  show(kill _ l)[id]? =_;rw [RD,yA];by_cases h:id=x
  ·subst h;by_cases a:id<γ H
   ·have e:=aO a;simp [a,XG,Ob.len]
   ·have e:H[id]? =ε:=bM aA0;simp [a]
  ·simp [h]
theorem Xf:∀{l:List SC} {a n j:Nat},(SF l a n)[j]? =if a<=j/\j<a+n then(l[j]?).map (λ_=>SC.u')else l[j]?
 |[],a,n,j=>by cases a<;>cases n<;>simp [SF]
 |x::l,a+1,n,j=>by
  simp only [SF];cases j with
  |zero=>simp
  |succ j=>
   rw [iT,iT,Xf];by_cases h:a<=j/\j<a+n
   ·rw [aB h,aB aA0]
   ·rw [aA h,aA aA0]
 |x::l,0,0,j=>by simp [SF]
 |x::l,0,n+1,j=>by
  simp only [SF];cases j with
  |zero=>simp
  |succ j=>
   rw [iT,iT,Xf];by_cases h:j<n
   ·rw [aB aA0,aB aA0]
   ·rw [aA aA0,aA aA0]
theorem Xe:∀{l:List SC} {a n:Nat},γ (SF l a n)=γ l
 |[],a,n=>by cases a<;>cases n<;>rfl
 |x::l,a+1,n=>by simp [SF,Xe]
 |x::l,0,0=>rfl
 |x::l,0,n+1=>by simp [SF,Xe]
def Fgt(rs:List Rg)(id:Nat)(o b:Ob):Prop:=match o with
 |.bl e cs=>∃a,b=.bl e a/\γ a=γ cs/\∀j,a[j]? =if eY id j rs=ζ then(cs[j]?).map (λ_=>SC.u')else cs[j]?
 |o=>(b=o/\∀q∈rs,q.1≠id)\/(b=.dd o.len/\∃q∈rs,q.1=id)
theorem bbt:∀{rs:List Rg} {H:List Ob},γ (Wj H rs)=γ H
 |[],_=>rfl
 |q::rs,H=>by simp only [Wj];split<;>rw [bbt,LU]
theorem awc{id:Nat}:∀{rs:List Rg} {H:List Ob} {o:Ob},H[id]? =δ o->∃b,(Wj H rs)[id]? =δ b/\Fgt rs id o b
 |[],H,o,h=>by refine⟨o,h, ?_⟩;cases o<;>simp [Fgt,eY]
 |q::rs,H,o,h=>by
  have g:=(aD.1 h).1;simp only [Wj];by_cases m:q.1=id
  ·subst m;rw [gV,h];cases o with
   |bl e cs=>
    obtain⟨b,k,d,rfl,c,i⟩:=awc (id:=q.1) (rs:=rs) (H:=kA H q.1 (.bl e (SF cs q.2.1 (q.2.2-q.2.1)))) (o:=.bl e (SF cs q.2.1 (q.2.2-q.2.1))) (by rw [yA];simp [g]);refine⟨_,k,d,rfl,by rw [c,Xe],λj=> ?_⟩
    rw [i,Xf];have p:eY q.1 j (q::rs)=ζ↔(q.2.1<=j/\j<q.2.1+(q.2.2-q.2.1))\/eY q.1 j rs=ζ:=by
     rw [show q::rs=[q]++rs from rfl,Hv,wO];simp;constructor
     ·rintro(h|h)
      ·exact .inl aA0
      ·exact .inr h
     ·rintro(h|h)
      ·exact .inl aA0
      ·exact .inr h
    by_cases f:eY q.1 j rs=ζ
    ·rw [aB f,aB (p.2 (.inr f))];split<;>simp [Function.comp_def]
    ·rw [aA f];by_cases n:q.2.1<=j/\j<q.2.1+(q.2.2-q.2.1)
     ·rw [aB n,aB (p.2 (.inl n))]
     ·rw [aA n,aA (λh=>(p.1 h).elim n f)]
   |_=>
    obtain⟨b,k,a⟩:=awc (id:=q.1) (rs:=rs) (H:=kA H q.1 (.dd (gJ H q.1))) (o:=.dd (gJ H q.1)) (by rw [yA];simp [g]);refine⟨b,k,.inr ⟨?_,q,fE,rfl⟩⟩
    have e:b=.dd (gJ H q.1):=by
     rcases a with⟨a,_⟩|⟨a,_⟩
     ·exact a
     ·exact a
    rw [e,oB h]
  ·have key:∀y,(kA H q.1 y)[id]? =δ o:=λy=>by rw [yA,aA (λt=>m t.1.symm)];exact h
   have l:∀y,∃b,(Wj (kA H q.1 y) rs)[id]? =δ b/\Fgt (q::rs) id o b:=by
    intro y;obtain⟨b,k,a⟩:=awc (key y);refine⟨b,k, ?_⟩;cases o with
    |bl e cs=>
     obtain⟨d,c,i,f⟩:=a;refine⟨d,c,i,λj=> ?_⟩;rw [f]
     have:eY id j (q::rs)=eY id j rs:=by
      have u:cV q.1 id=η:=by rw [beqN];simp [m]
      simp [eY,u]
     rw [this]
    |_=>
     rcases a with⟨a,c⟩|⟨a,r,c,i⟩
     ·exact .inl ⟨a,λr s=>(aP.1 s).elim (λe=>e▸m) (c r)⟩
     ·exact .inr ⟨a,r,eT _ c,i⟩
   split
   ·exact l _
   ·exact l _
theorem Hg(h:H[k]? =ε):(Wj H a)[k]? =ε:=by rw [List.getElem?_eq_none_iff]at h⊢;rw [bbt];exact h
noncomputable def Sa(F:Tr SV)(t:Nat):SV:=match F.get t with
 |some v=>v
 |none=>.u'
theorem St.at_eq(S:St)(t:Nat):S.at t=Sa S.F t:=rfl
theorem Jw(F:Tr SV)(d t:Nat)(v:SV):Sa (F.set d v) t=if t=d then v else Sa F t:=by
 unfold Sa;by_cases h:t=d
 ·subst h;rw [Go.Ce.Tr.Bk];simp
 ·rw [Go.Ce.Tr.Bk,aA h,aA h]
theorem Zy{t:Nat}:∀{w:List Nat} {F:Tr SV},Sa (del F w) t=if t∈w then .u' else Sa F t
 |[],F=>by simp [del]
 |x::w,F=>by
  show Sa (del _ w) t=_;rw [Zy,Jw];by_cases h:t=x
  ·subst h;simp
  ·simp [h]
theorem lj:∀(t:Ty) (s n) x (j e:Nat) cs,(t.lay s n x).2[j]? =δ (.bl e cs)->∀c∈cs,c.ok (n+γ (t.lay s n x).2):=by
 intro t;induction t with
 |w' t d=>intro s n x;exact d s n x
 |pr a b l i=>
  intro s n x j e cs h;have h:((a.lay s n x.1).2++(b.lay s _ x.2).2)[j]? =δ _:=h;have o:γ ((Ty.pr a b).lay s n x).2=γ (a.lay s n x.1).2+γ (b.lay s (n+a.no) x.2).2:=by show((a.lay s n x.1).2++(b.lay s (n+a.no) x.2).2).length=_;rw [bP]
  have m:=a.eL s n x.1;intro c f;by_cases p:j<γ (a.lay s n x.1).2
  ·rw [aI p]at h;exact SC.cN (l _ _ _ _ _ _ h c f) aA0
  ·rw [aN aA0]at h;exact SC.cN (i _ _ _ _ _ _ h c f) aA0
 |p' e t d=>
  intro s n x j g cs h;have o:γ ((Ty.p' e t).lay s n x).2=γ (t.lay n (n+1) x).2+1:=by show(_::_:List Ob).length=_;rw [bX]
  intro c f;cases j with
  |zero=>cases h;intro id q;rcases(Ty.Eo t n _ x c f).2 id q with h|h<;>omega
  |succ j=>exact SC.cN (d _ _ _ _ _ _ h c f) aA0
 |f' k t d=>intro s n x;exact d s n x
 |l' e b t d=>
  intro s n x j g cs h;cases j with
  |zero=>cases aJ h
  |succ j=>simp [Ty.lay]at h
 |y'=>
  intro s n x j g cs h;cases j with
  |zero=>cases aJ h
  |succ j=>simp [Ty.lay]at h
 |r' t d=>
  intro s n x j g cs h;cases j with
  |zero=>cases aJ h
  |succ j=>simp [Ty.lay]at h
 |z'=>
  intro s n x j g cs h;cases j with
  |zero=>cases aJ h
  |succ j=>simp [Ty.lay]at h
 |_=>intro s n x j g cs h;simp [Ty.lay]at h
theorem bbi:∀(t:Ty) (s n) x,t.tz=η->∀c∈(t.lay s n x).1,c.ok (n+γ (t.lay s n x).2):=by
 intro t;induction t with
 |w' t g=>intro s n x h;exact g s n x h
 |pr a b l j=>
  intro s n x h c d;have i:a.tz=η:=by
   cases i:a.tz with
   |true=>simp [Ty.tz,i]at h
   |false=>rfl
  have o:b.tz=η:=by simpa [Ty.tz,i] using h
  have u:γ ((Ty.pr a b).lay s n x).2=γ (a.lay s n x.1).2+γ (b.lay s (n+a.no) x.2).2:=by show((a.lay s n x.1).2++(b.lay s _ x.2).2).length=_;rw [bP]
  have m:=a.eL s n x.1;rcases aR.1 (d)with d|d
  ·exact SC.cN (l _ _ _ i c d) aA0
  ·exact SC.cN (j _ _ _ o c d) aA0
 |f' k t g=>intro s n x h c d;have:c=_:=aE.1 d;subst this;intro id f;obtain⟨r,q,p⟩:=Ak (f);exact g s n x h r q id p
 |z'=>intro s n x h;cases h
 |u'=>intro s n x h c d;cases d
 |sm a b _ _=>intro s n x h c d;cases d
 |p' e t g=>intro s n x h c d;have:c=_:=aE.1 d;subst this;intro id f;have:id=n:=aE.1 f;subst this;show id<id+γ (_::_:List Ob);simp
 |l' e b t g=>intro s n x h c d;have:c=_:=aE.1 d;subst this;intro id f;have:id=n:=aE.1 f;subst this;exact nF _
 |r' t g=>intro s n x h c d;have:c=_:=aE.1 d;subst this;intro id f;have:id=n:=aE.1 f;subst this;exact nF _
 |y'=>intro s n x h c d;have:c=_:=aE.1 d;subst this;intro id f;have:id=n:=aE.1 f;subst this;exact nF _
 |_=>intro s n x h c d;have:c=_:=aE.1 d;subst this;intro id f;cases f
open Go.Value renaming agg → kR
open Nat renaming beq → cV
def MC(ρ:Nat->Ad)(H:List Ob):Prop:=∀id o,H[id]? =δ o->o.len=(ρ id).ln
theorem NJ{ρ cT:Nat->Ad}(c:MC ρ H)(g:MD H){s:Src}{o:Ob}(h:WM η ρ H cT s o):o.len=(s.ad ρ).ln:=by
 cases o with
 |bl e cs=>obtain⟨id,f,rfl,a,_⟩:=h;exact(c id (.bl e f) a)
 |rw e b t l=>
  rcases h with⟨id,rfl,a⟩|⟨rfl,rfl⟩|⟨id,m,cs,rfl,a,d,_⟩
  ·exact c id _ a
  ·rfl
  ·exact(y7 d).1
 |ro t l=>
  rcases h with⟨id,rfl,a⟩|⟨rfl,rfl⟩|⟨h,_⟩
  ·exact c id _ (Du a)
  ·rfl
  ·cases h
 |br n l=>obtain⟨rfl,id,m,rfl,a⟩:=h;have d:=c id _ a;have i:=g id m l a;rw [i];exact d
 |dd n=>
  obtain⟨rfl,⟨t,rfl⟩|⟨j,rfl,a⟩⟩:=h
  ·rfl
  ·exact c j _ a
structure RdV (any:Bool) (H:List Ob) (x:Ty) (sv:SV) (v:x.T) (ss:List Src):Prop where
 no:γ ss=x.no
 tz:x.tz=η
 to:∀(ρ cT:Nat->Ad) (n:Nat),(∀(j:Nat) (s:Src),ss[j]? =δ s->cT (n+j)=s.ad ρ)->
  (∃u,sv.v ρ=δ u/\(x.sv (x.lay 0 n v).1).v cT=δ u/\(x.sa (x.lay 0 n v).1).v cT=u)/\∀(j:Nat) (s:Src) (o:Ob),ss[j]? =δ s->(x.lay 0 n v).2[j]? =δ o->WM any ρ H cT s o
variable {c:List Src}
theorem uZ{r:Option (b×List SC×List Src)}(h:Sd r=δ (y,c)):r=δ (y,[],c):=by
 unfold Sd at h;split at h
 ·cases h;rfl
 ·cases h
theorem Yc{any:Bool}(m:MD H){x:Ty}{j:SV}{v:x.T}(h:TF any H x j=δ (v,c)):RdV any H x j v c:=by
 unfold TF at h;split at h
 ·rename_i q;cases a:x.tz with
  |true=>rw [a]at h;cases h
  |false=>
   cases b:x.agg with
   |true=>rw [a,b]at h;cases h
   |false=>
    rw [a,b]at h;have g:=D6 any H m x 0 _ _ _ _ (uZ h);refine⟨g.no,a,λρ cT n e=> ?_⟩;obtain⟨d,i⟩:=g.to ρ cT 0 n ⟨λf=>(by rw [a]at f;cases f),e⟩;refine⟨⟨q.v ρ,rfl, ?_⟩,i⟩;unfold Ty.sv Ty.sa;rw [b];cases k:(x.lay 0 n v).1 with
    |nil=>rw [k]at d;cases d
    |cons o p=>
     rw [k]at d;cases p with
     |cons _ _=>simp at d
     |nil=>have d:q.v ρ=o.v cT:=aC9;exact⟨by show δ _=_;rw [d],by show o.v cT=_;rw [d]⟩
 ·rename_i l;cases a:x.tz with
  |true=>rw [a]at h;cases h
  |false=>
   cases b:x.agg with
   |false=>rw [a,b]at h;cases h
   |true=>rw [a,b]at h;have g:=D6 any H m x 0 _ _ _ _ (uZ h);refine⟨g.no,a,λρ cT n e=> ?_⟩;obtain⟨d,i⟩:=g.to ρ cT 0 n ⟨λf=>(by rw [a]at f;cases f),e⟩;refine⟨⟨_,rfl, ?_⟩,i⟩;rw [eG,fI]at d;unfold Ty.sv Ty.sa;rw [b];exact⟨by show δ _=_;rw [d],by show kR _=_;rw [d]⟩
 ·cases h
def BO(H2:List Ob)(cT ρ3:Nat->Ad)(id:Nat):Ob->Prop
 |.bl e cs=>∃a,H2[id]? =δ (.bl e a)/\γ a=γ cs/\∀(j:Nat) c,cs[j]? =δ c->c.kn=ζ->∃b,a[j]? =δ b/\b.kn=ζ/\b.v cT=c.v ρ3
 |.dd _=>True
 |o=>H2[id]? =δ o
structure PI (n0:Nat) (H2:List Ob) (ρ cT ρ3:Nat->Ad) (F2:Nat->θ) (E:List Nat) (H0:List Ob) (al:List Rg) (Fm:Tr SV) (H1:List Ob) (done:List Src):Prop where
 len:γ H1=n0+γ done
 fr:∀t u,(Sa Fm t).v ρ3=δ u->F2 t=u
 fo:∀t,(Sa Fm t).ok (γ H1)
 ho:∀(id e:Nat) (cs:List SC),H1[id]? =δ (.bl e cs)->∀c∈cs,c.ok (γ H1)
 ln:MC ρ3 H1
 ba:∀(id:Nat) (o:Ob),id<n0->H1[id]? =δ o->BO H2 cT ρ3 id o
 nw:∀(j:Nat) (s:Src) (o:Ob),done[j]? =δ s->H1[n0+j]? =δ o->WM η cT H2 ρ3 s o
 de:∀id,id<n0->id∈E->∃m,H1[id]? =δ (.dd m)
 kp:∀(id:Nat) (o:Ob),H0[id]? =δ o->lS al id ρ ρ3 H1[id]? o
section
variable {n0:Nat}{H2 H0 H1:List Ob}{ρ cT ρ3:Nat->Ad}{F2:Nat->θ}{E:List Nat}{al:List Rg}{Fm:Tr SV}{done:List Src}
theorem PI.app(h:PI n0 H2 ρ cT ρ3 F2 E H0 al Fm H1 done)(iX:MC cT H2)(k:MD H2)(p:γ H0<=n0){obs:List Ob}{d:List Src}(q:γ d=γ obs)
  (l:∀j s,d[j]? =δ s->ρ3 (γ H1+j)=s.ad cT) (m:∀(j:Nat) s o,d[j]? =δ s->obs[j]? =δ o->WM η cT H2 ρ3 s o)
  (u:∀(j e:Nat) cs,obs[j]? =δ (.bl e cs)->∀c∈cs,c.ok (γ H1+γ obs)):PI n0 H2 ρ cT ρ3 F2 E H0 al Fm (H1++obs) (done++d):=by
 have n:=h.len;refine⟨by simp [h.len,q,De],h.fr,λt=>SV.cN (h.fo t) aA2,λid e cs a c g=> ?_,λid o a=> ?_,λid o b a=> ?_,λj s o i a=> ?_,λid b r=> ?_,λid o a=> ?_⟩
 ·by_cases b:id<γ H1
  ·rw [aI b]at a;exact SC.cN (h.ho id e cs a c g) aA2
  ·rw [aN aA0]at a;rw [bP];exact u _ e cs a c g
 ·by_cases b:id<γ H1
  ·rw [aI b]at a;exact h.ln id o a
  ·rw [aN aA0]at a;have v:=(aD.1 a).1;have f:d[id-γ H1]? =δ _:=aO aA0;have e:=l _ _ f;rw [show γ H1+(id-γ H1)=id by omega]at e;rw [e];exact NJ iX k (m _ _ o f a)
 ·rw [aI aA0]at a;exact h.ba id o b a
 ·by_cases b:j<γ done
  ·rw [aI b]at i;rw [aI aA0]at a;exact h.nw j s o i a
  ·rw [aN aA0]at i;rw [aN aA0]at a;rw [show n0+j-γ H1=j-γ done by omega]at a;exact m _ s o i a
 ·rw [aI aA0];exact h.de id b r
 ·have:=(aD.1 a).1;rw [aI aA0];exact h.kp id o a
theorem PI.set(h:PI n0 H2 ρ cT ρ3 F2 E H0 al Fm H1 done){t:Nat}{v:SV}(b:∀u,v.v ρ3=δ u->F2 t=u)(c:v.ok (γ H1)):PI n0 H2 ρ cT ρ3 F2 E H0 al (Fm.set t v) H1 done:=by
 refine⟨h.len,λt2 u a=> ?_,λt2=> ?_,h.ho,h.ln,h.ba,h.nw,h.de,h.kp⟩
 ·rw [Jw]at a;by_cases e:t2=t
  ·subst e;rw [aB rfl]at a;exact b u a
  ·rw [aA e]at a;exact h.fr t2 u a
 ·rw [Jw];by_cases e:t2=t
  ·rw [aB e];exact c
  ·rw [aA e];exact h.fo t2
theorem PI.dV(h:PI n0 H2 ρ cT ρ3 F2 E H0 al Fm H1 done){id:Nat}{o d:Ob}(w:id<n0)(v:H1[id]? =δ d)(iX:o.len=d.len)(l:BO H2 cT ρ3 id o)(u:id∉E)
  (f:∀e cs,o=.bl e cs->∀c∈cs,c.ok (γ H1)) (g:∀m,H0[id]? =δ m->lS al id ρ ρ3 (δ o) m):PI n0 H2 ρ cT ρ3 F2 E H0 al Fm (kA H1 id o) done:=by
 refine⟨by rw [LU];exact h.len,h.fr,λt=>by rw [LU];exact h.fo t,λk e cs a c q=> ?_,λk p a=> ?_,λk p i a=> ?_,λj s p r a=> ?_,λk i n=> ?_,λk p a=> ?_⟩
 ·rw [yA]at a;rw [LU];split at a
  ·cases a;exact f e cs rfl c q
  ·exact h.ho k e cs a c q
 ·rw [yA]at a;split at a
  ·rename_i b;cases a;rw [b.1,iX];exact h.ln id d v
  ·exact h.ln k p a
 ·rw [yA]at a;split at a
  ·rename_i b;cases a;rw [b.1];exact l
  ·exact h.ba k p i a
 ·rw [yA,aA aA0]at a;exact h.nw j s p r a
 ·rw [yA,aA (λ(b:k=id/\_)=>u (b.1▸n))];exact h.de k i n
 ·rw [yA];split
  ·rename_i b;rw [b.1]at a⊢;exact g p a
  ·exact h.kp k p a
end
variable {a:List SC}{n:Nat}
theorem Ty.Gq{x:Ty}(h:∀c∈a,c.ok n):(x.sv a).ok n:=by
 unfold Ty.sv;cases x.agg with
 |true=>exact h
 |false=>
  split
  ·exact h _ (aE.2 rfl)
  ·trivial
theorem Ty.sa_ok{x:Ty}(h:∀c∈a,c.ok n):(x.sa a).ok n:=by
 unfold Ty.sa;cases x.agg with
 |true=>exact h
 |false=>
  split
  ·exact h _ (aE.2 rfl)
  ·exact h
def KC(n0:Nat)(H0:List Ob)(E:List Nat)(al:List Rg)(ix:Nat->Nat):Key->Prop
 |.s' _ _=>True
 |.o' t off x=>ix t<n0/\∀j,off<=j->j<off+x.cn->eY (ix t) j al=ζ
 |.w' t _=>ix t<n0/\eY (ix t) 0 al=ζ/\ix t∉E/\wI H0[ix t]? =ζ
section
variable {n0:Nat}{H2 H0 H1:List Ob}{ρ cT ρ3:Nat->Ad}{F2:Nat->θ}{E:List Nat}{al:List Rg}{Fm:Tr SV}{done:List Src}{ix:Nat->Nat}{at2:Nat->SV}
variable {t:Nat}{x:Ty}{d:List Src}{v:x.T}
theorem PI.stepS(h:PI n0 H2 ρ cT ρ3 F2 E H0 al Fm H1 done)(iX:MC cT H2)(b:MD H2)(f:γ H0<=n0)(k:∀t u,(at2 t).v cT=δ u->F2 t=u)(g:TF η H2 x (at2 t)=δ (v,d))
  (c:∀j s,d[j]? =δ s->ρ3 (γ H1+j)=s.ad cT):PI n0 H2 ρ cT ρ3 F2 E H0 al (wk Fm H1 t x v).1 (wk Fm H1 t x v).2 (done++d):=by
 have e:=Yc b g;obtain⟨⟨u,n,m,_⟩,l⟩:=e.to cT ρ3 (γ H1) c;have i:γ d=γ (x.lay 0 (γ H1) v).2:=by rw [e.no,Ty.eL]
 refine(h.app iX b f i c l (lj x 0 (γ H1) v)).set ?_ ?_
 ·intro o a;rw [m]at a;cases a;exact k t u n
 ·rw [bP];exact Ty.Gq (bbi x 0 (γ H1) v e.tz)
theorem PI.pg(h:PI n0 H2 ρ cT ρ3 F2 E H0 al Fm H1 done)(iX:MC cT H2)(C:MD H2)(O:γ H0<=n0)(L:Up n0 cT ρ3){off:Nat}(H:rdB H2 t off x=δ (v,d))(hid:t<n0)
  (A:∀j,off<=j->j<off+x.cn->eY t j al=ζ) (G:∀j s,d[j]? =δ s->ρ3 (γ H1+j)=s.ad cT):PI n0 H2 ρ cT ρ3 F2 E H0 al Fm (E7 H1 t off x v) (done++d):=by
 unfold rdB at H;split at H
 ·rename_i e2 Y S;rw [gV]at S;split at H
  ·rename_i q hq;have l:=D6 η H2 C x t _ _ _ _ (uZ H);obtain⟨n,b⟩:=xI hq;rw [oC]at n b;obtain⟨h1,h2⟩:=l.to cT ρ3 t (γ H1) ⟨λ_=>by rw [L t hid],G⟩;rw [eG,fI]at h1;have hl:γ d=γ (x.lay t (γ H1) v).2:=by rw [l.no,Ty.eL]
   have h3:=h.app iX C O hl G h2 (lj x t (γ H1) v);have w:t<γ H1:=by have:=h.len;omega
   unfold E7;split
   ·rename_i e cs p;rw [gV]at p;have B:kA H1 t (.bl e (Ye cs off (x.lay t (γ H1) v).1))++(x.lay t (γ H1) v).2=kA (H1++(x.lay t (γ H1) v).2) t (.bl e (Ye cs off (x.lay t (γ H1) v).1)):=by rw [pY,pY,Y4 _ _ w]
    rw [B];have V:(H1++(x.lay t (γ H1) v).2)[t]? =δ (.bl e cs):=by rw [aI w];exact p
    obtain⟨X,F,W,D⟩:=h.ba t _ hid p;rw [S]at F;cases F;have y:=x.Zb t (γ H1) v;have a4:γ q=x.cn:=by rw [n,kX];omega
    have k:∀j c,(Ye cs off (x.lay t (γ H1) v).1)[j]? =δ c->(off<=j/\j<off+x.cn/\(x.lay t (γ H1) v).1[j-off]? =δ c)\/(cs[j]? =δ c/\¬(off<=j/\j<off+x.cn))\/(cs[j]? =δ c/\vL cs off (x.lay t (γ H1) v).1=ε):=by
     intro j c T;unfold Ye at T;split at T
     ·rename_i Z b;rw [sP b,y]at T;split at T
      ·rename_i I;exact .inl ⟨I.1,I.2,T⟩
      ·rename_i I;exact .inr (.inl ⟨T,I⟩)
     ·rename_i hn;exact .inr (.inr ⟨T,hn⟩)
    have z:γ (Ye cs off (x.lay t (γ H1) v).1)=γ cs:=by
     unfold Ye;split
     ·rename_i Z b;exact zX b
     ·rfl
    refine h3.dV hid V rfl ⟨Y,S,by rw [W,z],λj c T g=> ?_⟩ (λhE=> ?_) (λe3 X he c U=> ?_) (λo0 N=> ?_)
    ·rcases k j c T with⟨ha,hb,a⟩|⟨a,_⟩|⟨a,_⟩
     ·have r:(q.map (SC.v cT))[j-off]? =δ (c.v ρ3):=by rw [h1,bE,a];rfl
      rw [bE]at r;cases f:q[j-off]? with
      |none=>rw [f]at r;cases r
      |some K=>rw [f]at r;have r:=aJ r;obtain⟨us,u,M⟩:=l.kn;rw [fI]at u;refine⟨K, ?_,M K (u▸aG f),r⟩;rw [n,bO,aB aA0,bZ]at f;rw [<-f];congr 1;omega
     ·exact D j c a g
     ·exact D j c a g
    ·obtain⟨m,hm⟩:=h.de t hid hE;rw [p]at hm;cases hm
    ·cases he;obtain⟨j,T⟩:=gD.1 U;rcases k j c T with⟨ha,hb,a⟩|⟨a,_⟩|⟨a,_⟩
     ·intro i hi;rw [bP];rcases(Ty.Eo x t (γ H1) v c (aG a)).2 i hi with h6|h6<;>omega
     ·exact SC.cN (h.ho t _ cs p c (aG a)) aA2
     ·exact SC.cN (h.ho t _ cs p c (aG a)) aA2
    ·have g:=h.kp t o0 N;rw [p]at g;cases o0 with
     |bl e0 b7=>
      rcases g with g|⟨b6,R,Q,P⟩
      ·exact .inl g
      ·cases R;refine .inr ⟨_,rfl,by rw [z,Q],λj c T=> ?_⟩;by_cases o:off<=j/\j<off+x.cn
       ·exact .inl (A j o.1 o.2)
       ·rcases P j c T with J|⟨K,J,h8⟩
        ·exact .inl J
        ·right;refine⟨K, ?_,h8⟩;unfold Ye;split
         ·rename_i Z b;rw [sP b,y,aA o];exact J
         ·exact J
     |rw _ _ _ _=>exact g.elim .inl λh=>by cases h
     |br _ _=>exact g.elim .inl λh=>by cases h
     |ro _ _=>cases g
     |dd _=>cases g
   ·exact h3
  ·cases H
 ·cases H
theorem BS{H:List Ob}(h:oz H t x=δ v):(∃m,∃o,aw m x v=δ o/\∃a,H[t]? =δ a/\(a.len=m->a=o)/\((∃e b j l,o=.rw e b j l/\a=o)\/∃l g,o=.br m l/\a=.br g l)):=by
 cases x with
 |l' e b j=>
  simp only [oz]at h;split at h
  ·rename_i q i;cases d:cV q.1 e with
   |false=>rw [d]at h;cases h
   |true=>
    cases f:cV q.2 b with
    |false=>rw [d,f]at h;cases h
    |true=>rw [d,f]at h;have c:=uM i h;rw [gV,iB d,iB f]at c;exact⟨0,_,rfl,_,c,λ_=>rfl,.inl ⟨e,b,j,v,rfl,rfl⟩⟩
  ·cases h
 |y'=>
  simp only [oz]at h;split at h
  ·rename_i m x c;rw [gV]at c;cases h;exact⟨m,_,rfl,_,c,λ_=>rfl,.inr ⟨v,m,rfl,rfl⟩⟩
  ·cases h
 |_=>cases h
theorem PI.pe(h:PI n0 H2 ρ cT ρ3 F2 E H0 al Fm H1 done)(iX:MC cT H2)(F:MD H2)(D:γ H0<=n0)(q:Up n0 cT ρ3)(k:rdW H2 t x=δ (v,d))(hid:t<n0)
  (f:eY t 0 al=ζ) (B:t∉E) (I:wI H0[t]? =ζ):PI n0 H2 ρ cT ρ3 F2 E H0 al Fm (rK H1 t x v) (done++d):=by
 unfold rdW at k;split at k
 ·rename_i y p;cases k;rw [fI];have w:t<γ H1:=by have:=h.len;omega
  have n:=aO w;have a:(H1[t]).len=(cT t).ln:=by rw [h.ln t _ n,q t hid]
  have g:∀o j,H0[t]? =δ j->lS al t ρ ρ3 (δ o) j:=by
   intro o j u;rw [u]at I;cases j with
   |rw _ _ _ _=>exact .inl f
   |br _ _=>exact .inl f
   |_=>cases I
  unfold rK;rw [oB n,a];cases x with
  |l' e b A=>
   obtain⟨m,o,r,C,i,s,z⟩:=BS p;cases r;rcases z with⟨_,_,_,_,c,rfl⟩|⟨_,_,c,_⟩
   ·exact h.dV hid n (by rw [a];exact iX t _ i) i B (λe cs c=>by cases c) (g _)
   ·cases c
  |y'=>
   obtain⟨m,o,r,C,i,s,z⟩:=BS p;cases r;rcases z with⟨_,_,_,_,c,_⟩|⟨l,H,c,rfl⟩
   ·cases c
   ·cases c;have G:=iX t _ i;refine h.dV hid n (by rw [a];rfl) ?_ B (λe cs c=>by cases c) (g _);rw [<-G];exact i
  |_=>cases p
 ·cases k
theorem PI.step(h:PI n0 H2 ρ cT ρ3 F2 E H0 al Fm H1 done)(iX:MC cT H2)(b:MD H2)(a:γ H0<=n0)(f:Up n0 cT ρ3)(i:∀t u,(at2 t).v cT=δ u->F2 t=u){k:Key}{v:k.ty.T}(g:k.rd ix at2 H2=δ (v,d))
  (c:KC n0 H0 E al ix k) (e:∀j s,d[j]? =δ s->ρ3 (γ H1+j)=s.ad cT):PI n0 H2 ρ cT ρ3 F2 E H0 al (k.put ix (Fm,H1) v).1 (k.put ix (Fm,H1) v).2 (done++d):=by
 cases k with
 |s' t x=>exact h.stepS iX b a i g e
 |o' t off x=>exact h.pg iX b a f g c.1 c.2 e
 |w' t x=>exact h.pe iX b a f g c.1 c.2.1 c.2.2.1 c.2.2.2
theorem PI.steps(iX:MC cT H2)(e:MD H2)(d:γ H0<=n0)(c:Up n0 cT ρ3)(i:∀t u,(at2 t).v cT=δ u->F2 t=u):∀J Fm H1 done v ss,PI n0 H2 ρ cT ρ3 F2 E H0 al Fm H1 done->rdK ix at2 H2 J=δ (v,ss)->
  (∀k∈J,KC n0 H0 E al ix k)->(∀j s,ss[j]? =δ s->ρ3 (γ H1+j)=s.ad cT)->PI n0 H2 ρ cT ρ3 F2 E H0 al (Ib ix (Fm,H1) J v).1 (Ib ix (Fm,H1) J v).2 (done++ss)
 |[],Fm,H1,done,v,ss,h,a,_,_=>by cases a;rw [fI];exact h
 |[k],Fm,H1,done,v,ss,h,a,f,b=>h.step iX e d c i a (f k fE) b
 |k::A::l,Fm,H1,done,v,ss,h,a,f,b=>by
  simp only [rdK]at a;split at a
  ·rename_i x p hx;split at a
   ·rename_i y o r;cases a;have n:=h.step iX e d c i hx (f k fE) (λj s g=>b j s (by rw [aI (aD.1 g).1];exact g));have m:=PI.steps iX e d c i _ _ _ _ y o n r (λq w=>f q (eT _ w)) (λj s g=>by have z:=n.len;have B:=h.len;rw [bP]at z;rw [show(k.put ix _ x).2.length+j=γ H1+(γ p+j)by omega];exact b _ s (by rw [aN aA0,<-g];congr 1;omega));rw [gH]at m;exact m
   ·cases a
  ·cases a
end
open Go.Wk
open Go.Ce (Tr)
open Nat renaming succ → rY
theorem vy:∀(t:Ty) l x r,t.DC l=δ (x,r)->∃e,l=e++r/\∀c∈e,c.kn=ζ:=by
 intro t;induction t with
 |w' t p=>intro l x r h;exact p l x r h
 |pr a b g f=>
  intro l x r h;simp only [Ty.DC]at h;split at h
  ·rename_i n j s;split at h
   ·rename_i m B q;cases h;obtain⟨e,A,z⟩:=g l n j s;obtain⟨o,w,v⟩:=f j m _ q;exact⟨e++o,by rw [A,w,gH],λc u=>(aR.1 u).elim (z c) (v c)⟩
   ·cases h
  ·cases h
 |i' k=>
  intro l x r h;cases l with
  |nil=>cases h
  |cons c l=>
   simp only [Ty.DC]at h;split at h
   ·rename_i y d;cases h;exact⟨[c],rfl,λi h=>by rw [aE.1 h];cases c<;>first|rfl|cases d⟩
   ·cases h
 |c'=>
  intro l x r h;cases l with
  |nil=>cases h
  |cons c l=>
   simp only [Ty.DC]at h;split at h
   ·rename_i y d;cases h;exact⟨[c],rfl,λi h=>by rw [aE.1 h];cases c<;>first|rfl|cases d⟩
   ·cases h
 |s'=>
  intro l x r h;cases l with
  |nil=>cases h
  |cons c l=>
   simp only [Ty.DC]at h;split at h
   ·rename_i y d;cases h;exact⟨[c],rfl,λi h=>by rw [aE.1 h];cases c<;>first|rfl|cases d⟩
   ·cases h
 |b'=>
  intro l x r h;cases l with
  |nil=>cases h
  |cons c l=>
   simp only [Ty.DC]at h;split at h
   ·rename_i y d;cases h;exact⟨[c],rfl,λi h=>by rw [aE.1 h];cases c<;>first|rfl|cases d⟩
   ·cases h
 |_=>intro l x r h;cases h
theorem sN{t:Ty}:∀{m:Nat} {l:List SC} {b:List t.T},qR t m l=δ b->∀c∈l,c.kn=ζ
 |0,l,b,h=>by
  cases l with
  |nil=>intro c a;cases a
  |cons c l=>cases h
 |m+1,l,b,h=>by
  simp only [qR]at h;split at h
  ·rename_i y d f;split at h
   ·rename_i q e;obtain⟨j,i,g⟩:=vy t l y d f;intro c a;rw [i]at a;exact(aR.1 a).elim (g c) (sN e c)
   ·cases h
  ·cases h
variable {a:Nat->Ad}{b:List SC}
theorem Mat.all{vs:List θ}(h:Mat a b vs)(d:∀c∈b,c.kn=ζ):vs=b.map (SC.v a):=by
 apply bV;intro j;rw [bE];by_cases ρ:j<γ b
 ·rw [h.2 j _ (aO ρ) (d _ (yN ρ)),aO ρ];rfl
 ·have:=h.1;rw [bM aA0,bM aA0];rfl
theorem Mat.of:Mat a b (b.map (SC.v a)):=⟨aA2,λj c h _=>by rw [bE,h];rfl⟩
section
variable {w0 w:ν}{S0:List Nat}{ρ:Nat->Ad}{H:List Ob}{L:List cB}
theorem Mt.lns(h:Mt w0 S0 ρ H L):MC ρ H:=λid o a=>(h.2 id o a).1
theorem Mt.brk(h:Mt w0 S0 ρ H L)(c:Hp w0 S0 L w):MD H:=λid m x hx=>by obtain⟨_,r,a,b⟩:=h.2 id _ hx;subst b;exact c.AK id a
end
def dQ:cB:=⟨ε,λ_=>True⟩
def Src.ow:Src->Option Nat
 |.o' id w=>bif w then δ id else ε
 |.k' id _ w=>bif w then δ id else ε
 |_=>ε
theorem xG(s:Src):s.own=s.ow.toList:=by
 cases s with
 |o' id w=>cases w<;>rfl
 |k' id m w=>cases w<;>rfl
 |_=>rfl
variable {a:List Src}{j:Nat}{s:Src}
theorem sT{i:Nat}(h:a[j]? =δ s)(c:s.ow=δ i):i∈iG a:=by
 induction a generalizing j with
 |nil=>simp at h
 |cons f l b=>
  show i∈f.own++iG l;cases j with
  |zero=>have:f=s:=aA8;subst this;rw [xG,c];simp
  |succ j=>exact XP _ (b aA8)
theorem Ml(m:(iG a).Nodup){k i:Nat}{c:Src}(h:a[j]? =δ s)(f:s.ow=δ i)(e:a[k]? =δ c)(b:c.ow=δ i):j=k:=by
 induction a generalizing j k with
 |nil=>simp at h
 |cons n l g=>
  have d:=List.nodup_append.1 m;cases j with
  |zero=>
   cases k with
   |zero=>rfl
   |succ k=>have:n=s:=aA8;subst this;exact absurd rfl (d.2.2 i (by rw [xG,f];simp) i (sT aD2 b))
  |succ j=>
   cases k with
   |zero=>have:n=c:=aD2;subst this;exact absurd rfl (d.2.2 i (by rw [xG,b];simp) i (sT aA8 f))
   |succ k=>exact aV rY (g d.2.1 (show l[j]? =δ s by simpa using h) (show l[k]? =δ c by simpa using e))
theorem Jr{p:Nat->cB->Prop}:∀n,(∀j,j<n->∃r,p j r)->∃L:List cB,γ L=n/\∀j r,L[j]? =δ r->p j r
 |0,_=>⟨[],rfl,λj r h=>by simp at h⟩
 |n+1,h=>by
  obtain⟨L,f,d⟩:=Jr n λj a=>h j aA0;obtain⟨r,c⟩:=h n aA0;refine⟨L++[r],by simp [f],λj b a=> ?_⟩;by_cases g:j<n
  ·rw [aI aA0]at a;exact d j b a
  ·rw [aN aA0]at a;have:j-γ L=0:=by have:=(aD.1 a).1;simp at this;omega
   rw [this]at a;have e:r=b:=aB9;subst e;rw [show j=n by omega];exact c
variable {e w:ν}{b:List Nat}{d q:Nat->Ad}{c:List Ob}{L:List cB}{o:Ob}
theorem B1(p:Hp e b L w)(v:Mt e b d c L)(h:WM η d c q s o)(f:q j=s.ad d):
  ∃r,RO e b q j o r/\r.holds w/\∀P,r.own=δ P->∃i E,s.ow=δ i/\L[i]? =δ E/\E.own=δ P:=by
 cases o with
 |bl k J=>
  obtain⟨id,cs,rfl,g,x,D,H⟩:=h;obtain⟨_,r,M,y,rfl,B⟩:=v.2 id _ g;refine⟨aS (q j).b y k,⟨y,rfl, ?_⟩, ?_,λP N=>⟨id,_,rfl,M, ?_⟩⟩
  ·have I:=(B.all D).trans x;rw [I];exact Mat.of
  ·rw [f];exact(p.res _ (aG M)).1
  ·rw [f]at N;exact N
 |rw k P t l=>
  rcases h with⟨id,rfl,g⟩|⟨rfl,rfl⟩|⟨id,m,cs,rfl,g,x,D,H⟩
  ·obtain⟨_,r,M,u⟩:=v.2 id _ g;subst u;refine⟨bA t.enc k t.sz (q j).o (q j).a (q j).cap l,rfl, ?_,λP N=>⟨id,_,rfl,M, ?_⟩⟩
   ·rw [f];exact(p.res _ (aG M)).1
   ·rw [f]at N;exact N
  ·have:=(p.dF t.enc k t.sz ε).res _ fE;refine⟨bA t.enc k t.sz (q j).o (q j).a (q j).cap [],rfl, ?_,λP N=> ?_⟩
   ·rw [f];exact this.1
   ·rw [f]at N;cases N
  ·obtain⟨_,r,M,y,rfl,B⟩:=v.2 id _ g;have hx:=y7 x;have z:=B.all (sN x);have A:m<=maxLen:=by unfold maxLen;omega
   have G:=p.Wf id t.sz m l M (Ty.wG D) (by rw [z,hx.2.2]) hx.1 A;have C:=(aD.1 M).1;have O:=G.res _ (aG (i:=id) (by rw [eH];simp [C];rfl));refine⟨bA t.enc k t.sz (q j).o (q j).a (q j).cap l,rfl, ?_,λP N=>⟨id,_,rfl,M, ?_⟩⟩
   ·rw [f];exact O.1
   ·rw [f]at N;exact N
 |ro t l=>
  rcases h with⟨id,rfl,g⟩|⟨rfl,rfl⟩|⟨h,_⟩
  ·obtain⟨_,r,M,K,u⟩:=v.2 id _ (Du g);refine⟨dQ,⟨rfl, ?_⟩,trivial,λP N=>by cases N⟩;rw [f];exact u
  ·refine⟨dQ,⟨rfl, ?_⟩,trivial,λP N=>by cases N⟩;exact⟨Rd.nil _ _,λh=>absurd rfl h,cO _⟩
  ·cases h
 |br n l=>
  obtain⟨rfl,id,m,rfl,g⟩:=h;obtain⟨_,r,M,u⟩:=v.2 id _ g;subst u;have F:=p.AK id M;refine⟨iY _ (γ l) l,rfl, ?_,λP N=>⟨id,_,rfl,M, ?_⟩⟩
  ·rw [f,F];exact(p.res _ (aG M)).1
  ·rw [f,F]at N;exact N
 |dd n=>exact⟨dQ,trivial,trivial,λP N=>by cases N⟩
theorem bo_ro(p:Hp e b L w)(i:Mt e b d c L)(h:BO c d q j o)(g:q j=d j)(x:∀m,o≠.dd m):
  ∃r,L[j]? =δ r/\RO e b q j o r/\r.holds w:=by
 cases o with
 |bl k cs=>obtain⟨F,E,D,C⟩:=h;obtain⟨_,r,a,s,rfl,J⟩:=i.2 j _ E;refine⟨_,a,⟨s,by rw [g],by rw [J.1,D],λH I v y=> ?_⟩,(p.res _ (aG a)).1⟩;obtain⟨G,B,A,z⟩:=C H I v y;rw [<-z];exact J.2 H G B A
 |rw k K t l=>obtain⟨_,r,a,f⟩:=i.2 j _ h;exact⟨r,a,by show r=_;rw [g];exact f,(p.res _ (aG a)).1⟩
 |ro t l=>obtain⟨_,r,a,u,f⟩:=i.2 j _ h;exact⟨r,a,⟨u,by rw [g];exact f⟩,(p.res _ (aG a)).1⟩
 |br n l=>obtain⟨_,r,a,f⟩:=i.2 j _ h;exact⟨r,a,by show r=_;rw [g];exact f,(p.res _ (aG a)).1⟩
 |dd n=>exact absurd rfl (x n)
def FD:Ob->Bool
 |.dd _=>ζ
 |_=>η
theorem yi(h:FD o=η):∀m,o≠.dd m:=by intro m e;subst e;cases h
theorem PI.mem{w0 w:ν}{S0:List Nat}{c:Nat}{H2 H0 f:List Ob}{ρ q ρ3:Nat->Ad}{F2:Nat->θ}{E:List Nat}{Z:List Rg}{Fm:Tr SV}{done:List Src}{L:List cB}(h:PI c H2 ρ q ρ3 F2 E H0 Z Fm f done)(K:Hp w0 S0 L w)(Q:Mt w0 S0 q H2 L)(G:Up c q ρ3)
  (J:∀j s,done[j]? =δ s->ρ3 (c+j)=s.ad q) (S:(iG done).Nodup) (X:∀id∈iG done,id<c->id∈E):∃D,Hp w0 S0 D w/\Mt w0 S0 ρ3 f D:=by
 let src:Nat->Option Nat:=λj=>if j<c then(match f[j]? with
  |some o=>bif FD o then ε else δ j
  |none=>ε)else(done[j-c]?).bind Src.ow
 have R:∀j,j<γ f->∃r,(∀o,f[j]? =δ o->RO w0 S0 ρ3 j o r)/\r.holds w/\∀b,r.own=δ b->∃i A,src j=δ i/\L[i]? =δ A/\A.own=δ b:=by
  intro j l;have g:=aO l;by_cases a:j<c
  ·cases p:FD f[j]with
   |true=>refine⟨dQ,λo e=> ?_,trivial,λb y=>by cases y⟩;rw [g]at e;cases e;cases hx:f[j]<;>rw [hx]at p<;>first|trivial|cases p
   |false=>
    obtain⟨r,n,e,z⟩:=bo_ro K Q (h.ba j _ a g) (G j a) (yi p);refine⟨r,λo v=> ?_,z,λb y=>⟨j,r, ?_,n,y⟩⟩
    ·rw [g]at v;cases v;exact e
    ·simp only [src,a,iL,g,p,aH]
  ·have hl:=h.len;have d:done[j-c]? =δ _:=aO aA0;have H:f[c+(j-c)]? =δ f[j]:=by rw [show c+(j-c)=j by omega];exact g
   have x:=J _ _ d;rw [show c+(j-c)=j by omega]at x;obtain⟨r,n,e,z⟩:=B1 K Q (h.nw _ _ _ d H) x;refine⟨r,λo v=> ?_,e,λb y=> ?_⟩
   ·rw [g]at v;cases v;exact n
   ·obtain⟨i,A,B,O⟩:=z b y;refine⟨i,A, ?_,O⟩;simp only [src,a,d];exact B
 obtain⟨D,I,C⟩:=Jr (γ f) R;refine⟨D,Go.Oe.Hp.pick ((List.range (γ f)).map src) K (λj r l=> ?_) (λj k i l V=> ?_),I,λid o g=>⟨h.ln id o g, ?_⟩⟩
 ·obtain⟨_,e,z⟩:=C j r l;refine⟨e,λb y=> ?_⟩;obtain⟨i,A,v,B⟩:=z b y;have a:=(aD.1 l).1;refine⟨i,A, ?_,B⟩;rw [bE,cX aA0];exact aV δ v
 ·have key:∀j,((List.range (γ f)).map src)[j]? =δ (δ i)->j<γ f/\src j=δ i:=by
   intro j l;rw [bE]at l;by_cases a:j<γ f
   ·rw [cX a]at l;exact⟨a,aJ l⟩
   ·rw [bM aA4]at l;cases l
  obtain⟨W,u⟩:=key j l;obtain⟨U,t⟩:=key k V;have base:∀j,j<c->src j=δ i->j=i/\∃o,f[j]? =δ o/\FD o=η:=by
   intro j a d;simp only [src,a,iL]at d;split at d
   ·rename_i o g;cases p:FD o with
    |true=>rw [p]at d;cases d
    |false=>rw [p]at d;exact⟨aJ d,o,g,p⟩
   ·cases d
  have F:∀j,¬j<c->src j=δ i->∃s,done[j-c]? =δ s/\s.ow=δ i:=by
   intro j a d;simp only [src,a]at d;cases p:done[j-c]? with
   |none=>rw [p]at d;cases d
   |some s=>rw [p]at d;exact⟨s,rfl,d⟩
  have no:∀j k,j<c->¬k<c->src j=δ i->src k=δ i->False:=by intro j k n e z v;obtain⟨rfl,o,B,O⟩:=base j n z;obtain⟨s,N,M⟩:=F k e v;obtain⟨m,T⟩:=h.de j n (X j (sT N M) n);rw [T]at B;cases B;cases O
  by_cases n:j<c<;>by_cases e:k<c
  ·rw [(base j n u).1,(base k e t).1]
  ·exact(no j k n e u t).elim
  ·exact(no k j e n t u).elim
  ·obtain⟨s,N,M⟩:=F j n u;obtain⟨s2,Y,P⟩:=F k e t;have:=Ml S N M Y P;omega
 ·have a:=(aD.1 g).1;exact⟨_,aO aA0,(C id _ (aO aA0)).1 o g⟩
open Go.Wk
open Go.Ce (Tr)
open Nat renaming one_pos → Jd
theorem Xz{d:Nat->Nat}:∀{J:List Key} {q:Rg},q∈NV d J->∃k∈J,(∃t off x,k=.o' t off x/\q=(d t,off,off+x.cn))\/∃t x,k=.w' t x/\q=(d t,0,1)
 |k::J,q,h=>by
  cases k with
  |s' t x=>obtain⟨a,c,b⟩:=Xz (show q∈NV d J from h);exact⟨a,eT _ c,b⟩
  |o' t off x=>
   rcases aP.1 (h)with rfl|h
   ·exact⟨_,fE,.inl ⟨t,off,x,rfl,rfl⟩⟩
   ·obtain⟨a,c,b⟩:=Xz h;exact⟨a,eT _ c,b⟩
  |w' t x=>
   rcases aP.1 (h)with rfl|h
   ·exact⟨_,fE,.inr ⟨t,x,rfl,rfl⟩⟩
   ·obtain⟨a,c,b⟩:=Xz h;exact⟨a,eT _ c,b⟩
theorem NU{a:Nat->Nat}{t off:Nat}{x:Ty}:∀{J:List Key},Key.o' t off x∈J->(a t,off,off+x.cn)∈NV a J
 |k::J,h=>by
  rcases aP.1 h with rfl|b
  ·exact fE
  ·cases k with
   |s' _ _=>exact(show _∈NV a J from NU b)
   |o' _ _ _=>exact eT _ (NU b)
   |w' _ _=>exact eT _ (NU b)
theorem CW{a:Nat->Nat}{t:Nat}{x:Ty}:∀{J:List Key},Key.w' t x∈J->(a t,0,1)∈NV a J
 |k::J,h=>by
  rcases aP.1 h with rfl|b
  ·exact fE
  ·cases k with
   |s' _ _=>exact(show _∈NV a J from CW b)
   |o' _ _ _=>exact eT _ (CW b)
   |w' _ _=>exact eT _ (CW b)
theorem Ka{S:St}:∀{J:List Key},ko S J=ζ->∀k∈J,match k with
  |.o' t off x=>∃e cs,S.H[S.ix t]? =δ (.bl e cs)/\off+x.cn<=γ cs
  |.w' t _=>wI S.H[S.ix t]? =ζ
  |.s' _ _=>True
 |k::J,h,c,b=>by
  have h:=iK h;rcases aP.1 b with rfl|b
  ·cases c with
   |s' _ _=>trivial
   |o' t off x=>
    have a:=h.1;simp only [gV]at a;split at a
    ·rename_i e cs d;exact⟨e,cs,d,BJ a⟩
    ·cases a
   |w' t x=>have a:=h.1;simp only [gV]at a;exact a
  ·exact Ka h.2 c b
theorem bcd{H:List Ob}:∀{l:List SC} {id:Nat},id∈wA H l->wI H[id]? =ζ\/∃e cs,H[id]? =δ (.bl e cs)
 |x::l,id,h=>by
  cases x
  case l' i=>
   simp only [wA]at h;cases a:wI (fU H i)with
   |true=>
    rw [a]at h;rcases aP.1 h with rfl|h
    ·rw [gV]at a;exact .inl a
    ·exact bcd h
   |false=>rw [a]at h;exact bcd h
  case k' i n=>
   simp only [wA]at h;split at h
   ·rename_i e cs b;rcases aP.1 h with rfl|h
    ·rw [gV]at b;exact .inr ⟨e,cs,b⟩
    ·exact bcd h
   ·exact bcd h
  all_goals exact bcd (l:=l) h
theorem QL{a:Nat->Nat}{F:Nat->SV}{H:List Ob}:∀{J:List Key} {id:Nat},id∈zy a F H J->wI H[id]? =ζ\/∃e cs,H[id]? =δ (.bl e cs)
 |k::J,id,h=>by
  rcases aR.1 h with h|h
  ·cases k with
   |s' t x=>
    simp only at h;cases hx:x.KD with
    |false=>rw [hx]at h;cases h
    |true=>
     rw [hx]at h;split at h
     ·exact bcd h
     ·cases h
   |o' t off x=>
    simp only at h;cases hx:x.KD with
    |false=>rw [hx]at h;cases h
    |true=>
     rw [hx]at h;split at h
     ·split at h
      ·exact bcd h
      ·cases h
     ·cases h
   |w' t x=>cases h
  ·exact QL h
theorem QN:∀{a b:List Rg},KU (a++b)=ζ->∀q∈a,∀r∈b,q.1=r.1->q.2.2<=r.2.1\/r.2.2<=q.2.1
 |x::a,b,h,q,c,r,e,f=>by
  have h:=iK h;rcases aP.1 c with rfl|c
  ·have key:∀l:List Rg,KU.VO q l=ζ->r∈l->q.2.2<=r.2.1\/r.2.2<=q.2.1:=by
    intro l;induction l with
    |nil=>intro _ h;cases h
    |cons y l j=>
     intro h d;simp only [KU.VO,beqN,bleN,Bool.cond_decide]at h;rcases aP.1 d with rfl|d
     ·rw [aB f]at h;by_cases i:q.2.2<=r.2.1
      ·exact .inl i
      ·rw [aA i]at h;by_cases g:r.2.2<=q.2.1
       ·exact .inr g
       ·rw [aA g]at h;cases h
     ·refine j ?_ d;split at h
      ·split at h
       ·exact h
       ·split at h
        ·exact h
        ·cases h
      ·exact h
   exact key _ h.1 (XP _ e)
  ·exact QN h.2 q c r e f
theorem ZT{n:Nat}{e:List Nat}:∀{l:List Nat},tk.tkI n e l=ζ->∀id∈l,id<n->id∈e
 |x::l,h,id,b,a=>by
  have h:=iK h;rcases aP.1 b with rfl|b
  ·have c:=h.1;rw [bleN]at c;have:¬n<=id:=aA0;simp only [this]at c;exact Wo.1 c
  ·exact ZT h.2 id b a
theorem Fgt.len{rs:List Rg}{id:Nat}{o a:Ob}(h:Fgt rs id o a):a.len=o.len:=by
 cases o with
 |bl e cs=>obtain⟨b,rfl,_⟩:=h;rfl
 |_=>
  rcases h with⟨rfl,_⟩|⟨rfl,_⟩
  ·rfl
  ·rfl
noncomputable def St.base(S:St)(J:List Key)(w:List Nat):Fr:=(del S.F w,kill (Wj S.H (NV S.ix J)) (S.rz J))
structure OkJ (S:St) (J:List Key):Prop where
 Gu:S.Gu (S.Rs J)=ζ
 dis:KU (S.Rs J)=ζ
 chk:ko S J=ζ
theorem JR{S:St}{J:List Key}(h:S.okJ J=ζ):OkJ S J:=by have b:=iK h;have a:=iK b.2;have c:=iK a.2;exact⟨b.1,a.1,c.2⟩
section
variable {C:Cx}{w0 w w2:ν}{S0:List Nat}{ρ cT ρ3:Nat->Ad}{S S2:St}{F F2:Nat->θ}{J:List Key}{wl:List Nat}
theorem zT{w:ν}(h:Rel C w0 S0 ρ S F w):MC ρ S.H:=by obtain⟨L,_,a⟩:=h.mem;exact a.lns
theorem zU{w:ν}(h:Rel C w0 S0 ρ S F w):MD S.H:=by obtain⟨L,b,a⟩:=h.mem;exact a.brk b
theorem PI.si{H H2:List Ob}{R:List Rg}{E:List Nat}{Fm:Tr SV}(iX:MC ρ H)(P:∀(id e:Nat) cs,H[id]? =δ (.bl e cs)->∀c∈cs,c.ok (γ H))
  (y:∀q∈R,(∃e cs,H[q.1]? =δ (.bl e cs)/\q.2.2<=γ cs)\/(wI H[q.1]? =ζ/\q.2=(0,1))) (M:∀id∈E,wI H[id]? =ζ\/∃e cs,H[id]? =δ (.bl e cs))
  (a1:Le (γ H) (R++Wm H E) ρ H cT H2) (N:Up (γ H) ρ ρ3) (a5:∀t u,(Sa Fm t).v ρ3=δ u->F2 t=u) (a6:∀t,(Sa Fm t).ok (γ H)):
  PI (γ H) H2 ρ cT ρ3 F2 E H (R++Wm H E) Fm (kill (Wj H R) E) []:=by
 have C:γ (kill (Wj H R) E)=γ H:=by rw [bci,bbt]
 have get:∀id o,H[id]? =δ o->∃A,(Wj H R)[id]? =δ A/\Fgt R id o A/\(kill (Wj H R) E)[id]? =if id∈E then δ (.dd o.len)else δ A:=by intro id o f;obtain⟨A,L,d⟩:=awc f;refine⟨A,L,d, ?_⟩;rw [RD,L,WW,d.len]
 have w:∀(id:Nat) (A:Ob),(kill (Wj H R) E)[id]? =δ A->∃o,H[id]? =δ o:=by intro id A h;have:=(aD.1 h).1;exact⟨_,aO aA0⟩
 have W:∀{id j:Nat},eY id j (R++Wm H E)=ζ->eY id j R=ζ\/id∈E:=by
  intro id j h;rcases Hv.1 h with h|h
  ·exact .inl h
  ·obtain⟨q,x,L,_⟩:=wO.1 h;obtain⟨a9,d,rfl⟩:=Te x;exact .inr (L▸d)
 have G:∀{id j:Nat},eY id j R=ζ->eY id j (R++Wm H E)=ζ:=λh=>Hv.2 (.inl h);have F:∀{id j:Nat},eY id j (Wm H E)=ζ->eY id j (R++Wm H E)=ζ:=λh=>Hv.2 (.inr h);refine⟨by rw [C];rfl,a5,λt=>by rw [C];exact a6 t,λid e cs f c X=> ?_,λid o f=> ?_,λid o U f=> ?_,λj s o g=>by simp at g,λid U he=> ?_,λid o f=> ?_⟩
 ·rw [C];obtain⟨o,z⟩:=w id _ f;obtain⟨A,L,d,K⟩:=get id o z;rw [K]at f;split at f
  ·cases f
  ·cases f;cases o with
   |bl e2 B=>
    obtain⟨b2,h4,Y,V⟩:=d;cases h4;obtain⟨j,g⟩:=gD.1 X;rw [V]at g;split at g
    ·cases D:B[j]? with
     |none=>rw [D]at g;cases g
     |some _=>rw [D]at g;cases g;intro i U;cases U
    ·exact P id e B z c (aG g)
   |_=>
    rcases d with⟨d,_⟩|⟨d,_⟩
    ·cases d
    ·cases d
 ·obtain⟨T,z⟩:=w id _ f;obtain⟨A,L,d,K⟩:=get id T z;have a0:=(aD.1 z).1;rw [N id a0,<-iX id T z];rw [K]at f;split at f
  ·cases f;rfl
  ·cases f;exact d.len
 ·obtain⟨T,z⟩:=w id _ f;obtain⟨A,L,d,K⟩:=get id T z;rw [K]at f;have r:=a1.kp id T U z;split at f
  ·cases f;trivial
  ·rename_i J;cases f;have p:∀{j:Nat},eY id j _=ζ->eY id j (R)=ζ:=λh=>(W h).resolve_right J;cases T with
   |bl e S=>
    obtain⟨cs,rfl,Y,V⟩:=d;rcases r with r|⟨B,a4,a3,a2⟩
    ·exfalso;obtain⟨q,x,I,h8,h9⟩:=wO.1 (p (r (γ S) (eK _)));rcases y q x with⟨e4,Q,a,k⟩|⟨a,k⟩
     ·rw [I,z]at a;cases a;omega
     ·rw [I,z]at a;cases a
    ·refine⟨B,a4,by rw [a3,Y],λj c g O=> ?_⟩;rw [V]at g;split at g
     ·cases D:S[j]? with
      |none=>rw [D]at g;cases g
      |some _=>rw [D]at g;cases g;cases O
     ·rename_i Z;rcases a2 j c g with I|⟨c2,I,h8⟩
      ·exact absurd (p I) Z
      ·refine⟨c2,I,(h8 O).1, ?_⟩;rw [(h8 O).2];exact(SC.up N (P id e S z c (aG g))).symm
   |rw e b t l=>
    rcases d with⟨rfl,d⟩|⟨rfl,_⟩
    ·rcases r with r|r
     ·obtain⟨q,x,I,_⟩:=wO.1 (p r);exact absurd I (d q x)
     ·exact r
    ·trivial
   |br m l=>
    rcases d with⟨rfl,d⟩|⟨rfl,_⟩
    ·rcases r with r|r
     ·obtain⟨q,x,I,_⟩:=wO.1 (p r);exact absurd I (d q x)
     ·exact r
    ·trivial
   |ro t l=>
    rcases d with⟨rfl,d⟩|⟨rfl,_⟩
    ·exact r
    ·trivial
   |dd n=>rcases d with⟨rfl,d⟩|⟨rfl,_⟩<;>trivial
 ·obtain⟨o,z⟩:∃o,H[id]? =δ o:=⟨_,aO U⟩;obtain⟨A,L,d,K⟩:=get id o z;rw [K,aB he];exact⟨_,rfl⟩
 ·obtain⟨A,L,d,K⟩:=get id o f;rw [K];by_cases J:id∈E
  ·rw [aB J];cases o with
   |bl e cs=>exact .inl λj g=>F (Kl f J g)
   |rw e b t l=>exact .inl (F (avu J))
   |br m l=>exact .inl (F (avu J))
   |ro t l=>rcases M id J with h|⟨_,_,h⟩<;>rw [f]at h<;>cases h
   |dd n=>rcases M id J with h|⟨_,_,h⟩<;>rw [f]at h<;>cases h
  ·rw [aA J];cases o with
   |bl e cs=>
    obtain⟨B,rfl,Y,V⟩:=d;refine .inr ⟨B,rfl,Y,λj c g=> ?_⟩;by_cases X:eY id j (R)=ζ
    ·exact .inl (G X)
    ·exact .inr ⟨c,by rw [V,aA X];exact g,λr=>⟨r,SC.up N (P id e cs f c (aG g))⟩⟩
   |rw e b t l=>
    rcases d with⟨rfl,_⟩|⟨rfl,q,x,rfl⟩
    ·exact .inr rfl
    ·rcases y q x with⟨e4,Q,a,k⟩|⟨a,k⟩
     ·rw [f]at a;cases a
     ·exact .inl (G (wO.2 ⟨q,x,rfl,by rw [k];exact eK _,by rw [k];exact Jd⟩))
   |br m l=>
    rcases d with⟨rfl,_⟩|⟨rfl,q,x,rfl⟩
    ·exact .inr rfl
    ·rcases y q x with⟨e4,Q,a,k⟩|⟨a,k⟩
     ·rw [f]at a;cases a
     ·exact .inl (G (wO.2 ⟨q,x,rfl,by rw [k];exact eK _,by rw [k];exact Jd⟩))
   |ro t l=>
    rcases d with⟨rfl,_⟩|⟨rfl,q,x,rfl⟩
    ·rfl
    ·rcases y q x with⟨e4,Q,a,k⟩|⟨a,k⟩<;>rw [f]at a<;>cases a
   |dd n=>rcases d with⟨rfl,_⟩|⟨rfl,_⟩<;>rfl
theorem PI.base(b:Rel C w0 S0 ρ S F w)(f:OkJ S J)(d:Le (γ S.H) (S.Rs J) ρ S.H cT S2.H)(g:∀t,t∉wl->F2 t=F t)(a:Up (γ S.H) ρ ρ3):
  PI (γ S.H) S2.H ρ cT ρ3 F2 (S.rz J) S.H (S.Rs J) (S.base J wl).1 (S.base J wl).2 []:=by
 refine PI.si (zT b) b.ho (λq i=> ?_) (λid hid=>QL hid) d a (λt u c=> ?_) (λt=> ?_)
 ·obtain⟨k,e,⟨t,off,x,rfl,rfl⟩|⟨t,x,rfl,rfl⟩⟩:=Xz i
  ·exact .inl (Ka f.chk _ e)
  ·exact .inr ⟨Ka f.chk _ e,rfl⟩
 ·rw [show(S.base J wl).1=del S.F wl from rfl,Zy]at c;split at c
  ·cases c
  ·rename_i h;rw [g t h];refine b.fr t u ?_;rw [<-SV.up a (b.fo t)];exact c
 ·rw [show(S.base J wl).1=del S.F wl from rfl,Zy];split
  ·trivial
  ·exact b.fo t
theorem Zg(V:Rel C w0 S0 ρ S F w)(O:OkJ S J)(y:Le (γ S.H) (S.Rs J) ρ S.H cT S2.H)(h:Rel C w0 S0 cT S2 F2 w2)(Y:∀t,t∉wl->F2 t=F t){v:(rQ J).T}(f:leaf S J S2=δ v):
  ∃ρ3,Up (γ S.H) ρ ρ3/\(∀D:St,D.F=(Ib S.ix (S.base J wl) J v).1->D.H=(Ib S.ix (S.base J wl) J v).2->Rel C w0 S0 ρ3 D F2 w2)/\
   ∀(E:Nat) (R:List Rg),(∀id j,id<E->eY id j (S.Rs J)=ζ->eY id j R=ζ)->Le E R ρ S.H ρ3 (Ib S.ix (S.base J wl) J v).2:=by
 unfold leaf at f;split at f
 ·rename_i v2 q Z;cases a:tk S J q with
  |false=>rw [a]at f;cases f
  |true=>
   cases l:IZ (γ S.H) (S.Rs J) S2.m with
   |false=>rw [a,l]at f;cases f
   |true=>
    rw [a,l]at f;cases f;have a:=iK a
    let ρ3:Nat->Ad:=λid=>if id<γ S.H then cT id else match q[id-γ S.H]? with
     |some s=>s.ad cT
     |none=>cT id
    have c:Up (γ S.H) cT ρ3:=λid K=>by simp only [ρ3,K,iL]
    have d:Up (γ S.H) ρ ρ3:=y.up.trans c (eK _);have z:∀(j:Nat) (s:Src),q[j]? =δ s->ρ3 (γ S.H+j)=s.ad cT:=by intro j s hj;have p:¬γ S.H+j<γ S.H:=aA0;have B:γ S.H+j-γ S.H=j:=aA0;simp only [ρ3,p,oZ,B,hj]
    have X:=PI.base (wl:=wl) V O y Y d;have r:γ (S.base J wl).2=γ S.H:=X.len;have I:∀k∈J,KC (γ S.H) S.H (S.rz J) (S.Rs J) S.ix k:=by
     intro k A;have b:=Ka O.chk k A;cases k with
     |s' _ _=>trivial
     |o' t off x=>obtain⟨e,cs,p,B⟩:=b;exact⟨(aD.1 p).1,λj h3 h4=>Hv.2 (.inl (wO.2 ⟨_,NU A,rfl,h3,h4⟩))⟩
     |w' t x=>
      have b:wI S.H[S.ix t]? =ζ:=b;have G:S.ix t<γ S.H:=by
       cases p:S.H[S.ix t]? with
       |none=>rw [p]at b;cases b
       |some _=>exact(aD.1 p).1
      refine⟨G,Hv.2 (.inl (wO.2 ⟨_,CW A,rfl,eK _,Jd⟩)),λhE=> ?_,b⟩;have:=QN (show KU (NV S.ix J++Wm S.H (S.rz J))=ζ from O.dis) _ (CW A) _ (bbd hE) rfl
      have h5:0<(wU S.H (S.ix t)).2.2:=by
       unfold wU;simp only;split
       ·exact Nat.succ_pos _
       ·exact Jd
      rcases this with Q|Q
      ·exact absurd Q (by show¬1<=0;omega)
      ·exact absurd Q (by show¬_<=0;omega)
    have n:=PI.steps (zT h) (zU h) (eK _) c h.fr J _ _ [] v q X Z I (by rw [r];exact z);rw [vX]at n;obtain⟨L,hH,hM⟩:=h.mem;obtain⟨L3,P,N⟩:=n.mem hH hM c z (nY.1 a.1) (ZT a.2);refine⟨ρ3,d,λD W i=> ?_,λE R M=> ?_⟩
    ·refine⟨λg id hg=> ?_,λt u U=> ?_,λt=> ?_, ?_,⟨L3,P,by rw [i];exact N⟩⟩
     ·obtain⟨p,B⟩:=V.gl g id hg;have:=n.len;rw [i];exact⟨by have:γ (Ib S.ix (S.base J wl) J v).2=γ S.H+γ q:=this;omega,by rw [d id p];exact B⟩
     ·rw [St.at_eq,W]at U;exact n.fr t u U
     ·rw [St.at_eq,W,i];exact n.fo t
     ·rw [i];exact n.ho
    ·refine⟨?_,d,λid o K ho=>(n.kp id o ho).mono λj=>M id j K⟩;have:γ (Ib S.ix (S.base J wl) J v).2=γ S.H+γ q:=n.len;omega
 ·cases f
end
open Go.Wk
open Go.Ce (Tr)
section
variable {P:ω}{n:Md}{Q:Exit->Act->ν->Prop}{F:Nat->θ}{w:ν}
variable {c:Code}{a:Nat->θ}
theorem c_fr(h:Go.Wk.C P n Q c F w)(e:fr n a=fr n F):Go.Wk.C P n Q c a w:=by unfold Go.Wk.C at h⊢;rw [e];exact h
theorem RE{f G:Nat->θ}{t:Nat}:∀{l:List Nat},app (l.map λt=>(t,f t)) G t=if t∈l then f t else G t
 |[]=>by simp [app]
 |x::l=>by
  show dV _ x _ t=_;by_cases h:t=x
  ·subst h;rw [lz];simp
  ·rw [Kp _ _ _ _ h,RE];simp [h]
theorem xY{f:Nat->θ}:∀{l:List Nat},nD f (l.map λt=>(t,f t))
 |[]=>trivial
 |x::l=>⟨rfl,xY⟩
theorem O9(h:∀t,t<n.n->a t=F t):fr n a=fr n F:=by unfold fr;congr 1;congr 1;funext i;exact h i.val i.isLt
theorem ks(I:Nat->(Nat->θ)->ν->Prop)(d:Nat)(m:I d F w)(round:∀k F w,I k F w->Go.Wk.C P n (Exit.then (λa' w'=>∃k' b,a'=fr n b/\k'<k/\I k' b w') Q) c F w):Go.Wk.C P n Q (.loop c) F w:=by
 refine U0 (σ:=Nat×(Nat->θ)) (λs=>(List.range n.n).map λt=>(t,s.2 t)) (λs w=>I s.1 s.2 w) (λs=>s.1) (d,F) xY m λs w G g=> ?_;have e:fr n (app ((List.range n.n).map λt=>(t,s.2 t)) G)=fr n s.2:=O9 λt f=>by rw [RE];simp [f]
 refine c_fr (AJ (round s.1 s.2 w g) λe a w' h=> ?_) e;cases e with
 |normal=>obtain⟨k',b,l,j,i⟩:=h;exact⟨(k',b),b,l,xY,i,j⟩
 |_=>exact h
theorem Yd(h:Go.Wk.C P n Q c F w):Fy P n c Q .normal (fr n F) w:=by exact HY h
end
structure Lf (S:St) (ρ:Nat->Ad) (S2:St) (cT:Nat->Ad):Prop where
 nb:S2.nb=S.nb
 al:S2.al=S.al
 le:Le S.nb S.al ρ S.H cT S2.H
structure Nx (S:St) (ρ:Nat->Ad) (S2:St) (cT:Nat->Ad):Prop extends Lf S ρ S2 cT where
 lg:Le (γ S.H) S2.m ρ S.H cT S2.H
 mm:∀id j,eY id j S.m=ζ->eY id j S2.m=ζ
theorem Lf.refl{S:St}{ρ:Nat->Ad}:Lf S ρ S ρ:=⟨rfl,rfl,Le.refl⟩
theorem Lf.trans{S S2 d:St}{ρ a ρ3:Nat->Ad}(h:Lf S ρ S2 a)(b:Lf S2 a d ρ3):Lf S ρ d ρ3:=by have c:=b.le;rw [h.nb,h.al]at c;exact⟨b.nb.trans h.nb,b.al.trans h.al,h.le.trans c⟩
theorem Nx.refl{S:St}{ρ:Nat->Ad}:Nx S ρ S ρ:=⟨Lf.refl,Le.refl,λ_ _ h=>h⟩
theorem Nx.trans{S S2 d:St}{ρ a ρ3:Nat->Ad}(h:Nx S ρ S2 a)(c:Nx S2 a d ρ3):Nx S ρ d ρ3:=
 ⟨h.toLf.trans c.toLf,(h.lg.mono (eK _) λid j _ b=>c.mm id j b).trans (c.lg.mono h.lg.len λid j _ b=>b),λid j b=>c.mm id j (h.mm id j b)⟩
def exO:Ex->Exit
 |.nm=>.normal
 |.xt i=>.exit i
def WN(C:Cx)(md:Md)(c:Code)(F:Nat->θ):Prop:=∀(i d:Nat) o,H6 (opsOf c) i=ζ->(opsOf c)[i]? =δ o->o.dst=δ d->∃b a,(ξ (aZ md F) o).run C.P b=.ok (.value (F d)) a
def AU(C:Cx)(md:Md):Prop:=∀w0 S0 a S F w op v H (m:List Rg),Rel C w0 S0 a S F w->nA op=ζ->opP C (S.ev C) S.H op=δ ⟨[],v,H,m⟩->∀w',vT C md a S F w' op v
def Y1(C:Cx)(md:Md)(w0:ν)(S0:List Nat)(id:Nat)(a:Array ψ)(d:Bool):Prop:=∀(e:Ty) S f (r:e.T) h F w Q,(bif d then KT C a S f else TR C a.toList a.toList 0 S f)=δ r->Rel C w0 S0 h S F w->
 (∀g b c i,f g=δ r->Rel C w0 S0 b g c i->Nx S h g b->(∀t,t∉Gj a.toList->c t=F t)->WN C md (.region id a d) c->Q .normal (fr md c) i)->Go.Wk.C C.P md Q (.region id a d) F w
def qK(C:Cx)(md:Md)(w0:ν)(S0:List Nat):Code->Prop
 |.region id c d=>Y1 C md w0 S0 id c d
 |.seq a b=>qK C md w0 S0 a/\qK C md w0 S0 b
 |.cond _ a b=>qK C md w0 S0 a/\qK C md w0 S0 b
 |.block _ a=>qK C md w0 S0 a
 |.loop a=>qK C md w0 S0 a
 |.scope a=>qK C md w0 S0 a
 |_=>True
section
variable {C:Cx}{md:Md}{w0:ν}{S0:List Nat}{τ:Ty}{res:St->Option τ.T}
variable {a:Nat->Ad}{S:St}{F:Nat->θ}{w:ν}
theorem Rel.same{S2:St}(h:Rel C w0 S0 a S F w)(d:S2.F=S.F)(ρ:S2.H=S.H):Rel C w0 S0 a S2 F w:=by
 have b:∀t,S2.at t=S.at t:=λt=>by rw [St.at_eq,St.at_eq,d]
 refine⟨?_,λt v c=>h.fr t v (by rw [<-b];exact c),λt=>by rw [b,ρ];exact h.fo t, ?_, ?_⟩
 ·rw [ρ];exact h.gl
 ·rw [ρ];exact h.ho
 ·rw [ρ];exact h.mem
theorem Rel.set{ρ:Nat->Ad}{S:St}{F:Nat->θ}{w:ν}(h:Rel C w0 S0 ρ S F w){d:Nat}{v:SV}(b:∀u,v.v ρ=δ u->F d=u)(c:v.ok (γ S.H)):Rel C w0 S0 ρ (S.set d v) F w:=by
 refine⟨h.gl,λt u a=> ?_,λt=> ?_,h.ho,h.mem⟩
 ·rw [lR]at a;by_cases e:t=d
  ·rw [aB e]at a;subst e;exact b u a
  ·rw [aA e]at a;exact h.fr t u a
 ·rw [lR];by_cases e:t=d
  ·rw [aB e];exact c
  ·rw [aA e];exact h.fo t
theorem Qi(l:AU C md){c:Code}{ρ:Nat->Ad}{F:Nat->θ}{w:ν}(b:WN C md c F):∀R S,okR (opsOf c) R=ζ->Rel C w0 S0 ρ S F w->
  Rel C w0 S0 ρ (again C (opsOf c) R S) F w/\(again C (opsOf c) R S).H=S.H/\(again C (opsOf c) R S).nb=S.nb/\(again C (opsOf c) R S).al=S.al/\(again C (opsOf c) R S).m=S.m
 |[],S,_,h=>⟨h,rfl,rfl,rfl,rfl⟩
 |i::R,S,g,h=>by
  have g:=iK g;have a:=Qi l b R S g.2 h;simp only [again];split
  ·rename_i o r;split
   ·rename_i d t;split
    ·rename_i v H m n
     ·rw [gV]at r;obtain⟨y,E,A⟩:=b i d o g.1 r t;have f:=g.1;unfold H6 at f;rw [gV,r]at f;have f:=iK f;have D:=iK f.2;obtain⟨p,u,z,hx⟩:=l w0 S0 ρ S F w o.op v H m h D.1 n y;have s:o.guard=ε:=by
       cases s:o.guard with
       |none=>rfl
       |some q=>rw [s]at f;cases f.1
      have k:u=F d:=by
       have e:o=⟨δ d,o.op,o.type,o.pos,o.after,ε⟩:=by rw [<-t,<-s]
       have x:=hx d o.type o.pos o.after;rw [<-e,A]at x;cases x;rfl
      have B:=Qi l b R (S.set d v) g.2 (h.set (λG j=>by rw [z]at j;cases j;exact k.symm) p);exact B
    ·exact a
   ·exact a
  ·exact a
theorem LI{T:Type}(h:Rel C w0 S0 a S F w)(f:C.nn=md.n){c:π}{y n:Option T}{r:T}(ρ:U7 (S.ev C c) y n=δ r):
  ∃b,aZ md F c=.bool b/\(b=ζ->y=δ r)/\(b=η->n=δ r):=by
 unfold U7 at ρ;split at ρ
 ·rename_i x hx;refine⟨x,(oT h f hx).2,λe=> ?_,λe=> ?_⟩<;>(subst e;exact ρ)
 ·rename_i p d hx;refine⟨@decide p d,(oT h f hx).2,λe=> ?_,λe=> ?_⟩
  ·rw [aB (bU e)]at ρ;exact ρ
  ·rw [aA (fY e)]at ρ;exact ρ
 ·rename_i p d hx;refine⟨!@decide p d,(oT h f hx).2,λe=> ?_,λe=> ?_⟩
  ·have:¬p:=by simpa using e
   rw [aA this]at ρ;exact ρ
  ·have:p:=by simpa using e
   rw [aB this]at ρ;exact ρ
 ·cases ρ
def Snd(C:Cx)(md:Md)(w0:ν)(S0:List Nat)(τ:Ty)(res:St->Option τ.T)(c:Code):Prop:=
 ∀k S g j i r h F w Q,den C τ res c k S g j i=δ r->Rel C w0 S0 h S F w->
  (∀e b a d f,i e b=δ r->Rel C w0 S0 a b d f->Nx S h b a->(∀t,t∉wr c->d t=F t)->(e=.nm->WN C md c d)->Q (exO e) (fr md d) f)->
  (∀y b a d f,res b=δ y->j y=δ r->Rel C w0 S0 a b d f->Lf S h b a->Q .ret (fr md d) f)->Go.Wk.C C.P md Q c F w
theorem V8{c:Code}(h:opsOf c=[]):WN C md c F:=λi d o _ a=>by rw [h]at a;simp at a
end
open Go.Wk
open Go.Ce (Tr)
open Nat renaming beq → cV
open Option renaming bind → pG
section
variable {C:Cx}{md:Md}{w0:ν}{S0:List Nat}{τ:Ty}{res:St->Option τ.T}
variable {S c:St}{J:List Key}{v:(rQ J).T}
theorem EA(h:leaf S J c=δ v):IZ (γ S.H) (S.Rs J) c.m=ζ:=by
 unfold leaf at h;split at h
 ·cases a:tk S J _ with
  |false=>rw [a]at h;cases h
  |true=>
   cases b:IZ (γ S.H) _ c.m with
   |false=>rw [a,b]at h;cases h
   |true=>rfl
 ·cases h
variable {w:List Nat}
theorem out_F:(S.out J w v).F=(Ib S.ix (S.base J w) J v).1:=rfl
theorem pw:(S.out J w v).H=(Ib S.ix (S.base J w) J v).2:=rfl
variable {d:Code}
theorem nM{b:Code}(L:Snd C md w0 S0 τ res d)(K:Snd C md w0 S0 τ res b)(D B:Sc)(S:St)(ρ':Ty)(k:τ.T->Option ρ'.T)(l:Ex->St->Option ρ'.T)(r:ρ'.T)(ρ:Nat->Ad)(F:Nat->θ)(w:ν)(Q:Exit->Act->ν->Prop)
  (h:den C τ res d D S ρ' k (Gp l λS2=>den C τ res b B S2 ρ' k l)=δ r) (M:Rel C w0 S0 ρ S F w)
  (I:∀e S2 c F2 a,l e S2=δ r->Rel C w0 S0 c S2 F2 a->Nx S ρ S2 c->(∀t,t∉wr (.seq d b)->F2 t=F t)->(e=.nm->WN C md (.seq d b) F2)->Q (exO e) (fr md F2) a)
  (H:∀y S2 c F2 a,res S2=δ y->k y=δ r->Rel C w0 S0 c S2 F2 a->Lf S ρ S2 c->Q .ret (fr md F2) a):Go.Wk.C C.P md Q (.seq d b) F w:=by
 have J:wr (.seq d b)=wr d++wr b:=rfl;refine AL (L D S ρ' k _ r ρ F w _ h M (λe S2 c F2 a G f v E _=> ?_) (λy S2 c F2 a o p f x=>CN (H y S2 c F2 a o p f x)));cases e with
 |nm=>refine Yd (K B S2 ρ' k l r c F2 a Q G f (λN z g A n s j u q _=> ?_) (λy z g A n o p j x=>H y z g A n o p j (v.toLf.trans x)));exact I N z g A n s j (v.trans u) (λt m=>by rw [q t λh=>m (XP _ h),E t λh=>m (yT _ h)]) (λ_=>V8 rfl)
 |xt i=>exact yV (I _ S2 c F2 a G f v (λt m=>E t λh=>m (by rw [J];exact yT _ h)) (λh=>by cases h))
variable {a b:Nat->Ad}
theorem xd{H:List Ob}(l:OkJ S J)(h:c.H=H)(d:c.nb=S.nb)(e:c.al=S.al)(g:c.m=S.Rs J++S.m)(ρ:∀f i,(∀id j,id<f->eY id j (S.Rs J)=ζ->eY id j i=ζ)->Le f i a S.H b H):Nx S a c b:=by
 refine⟨⟨d,e, ?_⟩, ?_,λid j m=> ?_⟩
 ·rw [h];exact ρ S.nb S.al λid j k m=>Ae l.Gu k m
 ·rw [h,g];exact ρ _ _ λid j _ m=>Hv.2 (.inl m)
 ·rw [g];exact Hv.2 (.inr m)
theorem ij(h:Le (γ S.H) c.m a S.H b c.H)(ρ:IZ (γ S.H) (S.Rs J) c.m=ζ):Le (γ S.H) (S.Rs J) a S.H b c.H:=
 h.mono (eK _) λid j e d=>Xl ρ e d
theorem H3(i:AU C md){F F2:Nat->θ}{ρ e:ν}(k:Rel C w0 S0 a S F ρ)(g:OkJ S J)(l:okR (opsOf d) w=ζ)(R:Rel C w0 S0 b c F2 e)(m:Nx S.Zj a c b)
  (j:∀t,t∉wr d->F2 t=F t) (x:WN C md d F2)  (f:leaf S J c=δ v):∃ρ3,Rel C w0 S0 ρ3 (again C (opsOf d) w (S.out J (wr d) v)) F2 e/\Nx S a (again C (opsOf d) w (S.out J (wr d) v)) ρ3:=by
 obtain⟨ρ3,h,u,s⟩:=Zg k g (ij m.lg (EA f)) R j f;obtain⟨r,q,p,o,n⟩:=Qi i x w _ l (u _ out_F pw);exact⟨ρ3,r,xd g (q.trans pw) p o n s⟩
theorem VQ(hn:C.nn=md.n)(hD:∃k,md=⟨k,[],ε⟩)(hp:AU C md):∀c,qK C md w0 S0 c->Snd C md w0 S0 τ res c:=by
 intro c;induction c with
 |skip=>intro _ Z S m A z r E F w Q h D K U;exact Ps (K .nm S E F w h D Nx.refl (λ_ _=>rfl) (λ_=>V8 rfl))
 |label l=>intro _ Z S m A z r E F w Q h D K U;exact kt (K .nm S E F w h D Nx.refl (λ_ _=>rfl) (λ_=>V8 rfl))
 |exit id=>intro _ Z S m A z r E F w Q h D K U;exact Ch (K (.xt id) S E F w h D Nx.refl (λ_ _=>rfl) (λh=>by cases h))
 |goto l=>intro _ Z S m A z r E F w Q h;cases h
 |refuse l=>intro _ Z S m A z r E F w Q h;cases h
 |rangeFunc f p a b _ _=>intro _ Z S m A z r E F w Q h;cases h
 |ret=>
  intro _ Z S m A z r E F w Q h D K U;have h:(match res S with
   |some q=>A q
   |none=>ε)=δ r:=h
  split at h
  ·rename_i q hq;exact Wc (U q S E F w hq h D Lf.refl)
  ·cases h
 |region id e2 d=>intro u Z S m A z r E F w Q h D K U;exact u m S (λS2=>z .nm S2) r E F w Q h D λS2 s F2 L Y o X W M=>K .nm S2 s F2 L Y o X W (λ_=>M)
 |scope a ih=>
  intro u Z S m A z r E F w Q h D K U;obtain⟨k,rfl⟩:=hD;refine AI (ih u Z S m A z r E F w _ h D (λe S2 s F2 L B o X W M=> ?_) (λy S2 s F2 L hy G o hL=>Ul (U y S2 s F2 L hy G o hL)));have:=K e S2 s F2 L B o X W (λ_=>V8 rfl);cases e with
  |nm=>exact I7 this
  |xt i=>exact xk this
 |block id a ih=>
  intro u Z S m A z r E F w Q h D K U;refine QV (ih u Z S m A (qm id z) r E F w _ h D (λe S2 s F2 L B o X W M=> ?_) (λy S2 s F2 L hy G o hL=>b_ret (U y S2 s F2 L hy G o hL)));cases e with
  |nm=>exact V2 (K .nm S2 s F2 L B o X W (λ_=>V8 rfl))
  |xt i=>
   have B:(bif cV i id then z .nm S2 else z (.xt i) S2)=δ r:=B;cases hb:cV i id with
   |true=>rw [hb]at B;rw [iB hb];exact Cg (K .nm S2 s F2 L B o X W (λ_=>V8 rfl))
   |false=>rw [hb]at B;exact LK hb (K (.xt i) S2 s F2 L B o X W (λh=>by cases h))
 |cond c a b O N=>
  intro u Z S m A z r E F w Q h D K U;have a8:wr (.cond c a b)=wr a++wr b:=rfl;have hA:∀V,den C τ res a V S m A z=δ r->Go.Wk.C C.P md Q a F w:=λV h=>O u.1 V S m A z r E F w Q h D (λe S2 s F2 L B o X W _=>K e S2 s F2 L B o X (λt ht=>W t λh=>ht (by rw [a8];exact yT _ h)) (λ_=>V8 rfl)) U;have hB:∀sb,den C τ res b sb S m A z=δ r->Go.Wk.C C.P md Q b F w:=λsb h=>N u.2 sb S m A z r E F w Q h D (λe S2 s F2 L B o X W _=>K e S2 s F2 L B o X (λt ht=>W t λh=>ht (by rw [a8];exact XP _ h)) (λ_=>V8 rfl)) U;have both:∀V sb,U7 (S.ev C c) (den C τ res a V S m A z) (den C τ res b sb S m A z)=δ r->Go.Wk.C C.P md Q (.cond c a b) F w:=by intro V sb h;obtain⟨x,h1,Y,h3⟩:=LI D hn h;exact tR h1 (λe=>hA V (Y e)) (λe=>hB sb (h3 e))
  cases Z with
  |y' V=>obtain⟨x,h1,Y,h3⟩:=LI D hn (show U7 (S.ev C c) (den C τ res a V S m A z) ε=δ r from h);exact tR h1 (λe=>hA V (Y e)) (λe=>by have:=h3 e;cases this)
  |z' sb=>obtain⟨x,h1,Y,h3⟩:=LI D hn (show U7 (S.ev C c) ε (den C τ res b sb S m A z)=δ r from h);exact tR h1 (λe=>by have:=Y e;cases this) (λe=>hB sb (h3 e))
  |n'=>exact both _ _ h
  |s' x y=>exact both _ _ h
  |j' J R x y=>exact both _ _ h
  |r' J R x y=>exact both _ _ h
  |l' J x=>exact both _ _ h
 |seq a b O N=>
  intro u Z S m A z r E F w Q h D K U;have O:=O u.1;have N:=N u.2;have a8:wr (.seq a b)=wr a++wr b:=rfl;cases Z with
  |j' J R V sb=>
   have h:(bif S.okJ J then(bif okR (opsOf a) R then pG (den C τ res a V S.Zj (rQ J) (λ_=>ε) (Gp noK (leaf S J))) (λv=>den C τ res b sb (again C (opsOf a) R (S.out J (wr a) v)) m A z)else ε)else ε)=δ r:=h;have h:=dK h;have Y:=dK h.2;have hJ:=JR h.1;obtain⟨v,h3,h4⟩:=Ca Y.2;refine AL (O V S.Zj (rQ J) _ _ v E F w _ h3 (D.same rfl rfl) (λe S2 s F2 L B o X W M=> ?_) (λy S2 s F2 L hy G=>by cases G));cases e with
   |xt i=>cases B
   |nm=>obtain⟨a1,h5,h6⟩:=H3 hp D hJ Y.1 o X W (M rfl) B;refine Yd (N sb _ m A z r a1 F2 L Q h4 h5 (λe3 S3 a0 F3 w3 b7 a4 b8 b5 _=> ?_) (λy S3 a0 F3 w3 hy G a4 hL=>U y S3 a0 F3 w3 hy G a4 (h6.toLf.trans hL)));exact K e3 S3 a0 F3 w3 b7 a4 (h6.trans b8) (λt ht=>by rw [b5 t λh=>ht (XP _ h),W t λh=>ht (yT _ h)]) (λ_=>V8 rfl)
  |r' J R V sb=>
   have h:=dK h;have Y:=dK h.2;have hJ:=JR h.1;obtain⟨v,h3,h4⟩:=Ca Y.2;refine AL (O V S.Zj (.sm (rQ J) τ) _ _ v E F w _ h3 (D.same rfl rfl) (λe S2 s F2 L B o X W M=> ?_) (λy S2 s F2 L hy G o hL=> ?_))
   ·cases e with
    |xt i=>cases B
    |nm=>
     have B:J9 τ S J S2=δ v:=B;unfold J9 at B;split at B
     ·rename_i v2 a9;cases B;obtain⟨a1,h5,h6⟩:=H3 hp D hJ Y.1 o X W (M rfl) a9;refine Yd (N sb _ m A z r a1 F2 L Q h4 h5 (λe3 S3 a0 F3 w3 b7 a4 b8 b5 _=> ?_) (λy S3 a0 F3 w3 hy G a4 hL=>U y S3 a0 F3 w3 hy G a4 (h6.toLf.trans hL)));exact K e3 S3 a0 F3 w3 b7 a4 (h6.trans b8) (λt ht=>by rw [b5 t λh=>ht (XP _ h),W t λh=>ht (yT _ h)]) (λ_=>V8 rfl)
     ·cases B
   ·cases G;exact CN (U y S2 s F2 L hy h4 o ⟨hL.nb,hL.al,hL.le⟩)
  |n'=>exact nM O N _ _ S m A z r E F w Q h D K U
  |s' x y=>exact nM O N _ _ S m A z r E F w Q h D K U
  |l' J x=>exact nM O N _ _ S m A z r E F w Q h D K U
  |y' x=>exact nM O N _ _ S m A z r E F w Q h D K U
  |z' x=>exact nM O N _ _ S m A z r E F w Q h D K U
 |loop a ih=>
  intro u Z S m A z r E F w Q h D K U;have a8:wr (.loop a)=wr a:=rfl;cases Z with
  |l' J V=>
   have h:(bif S.okJ J then(match leaf S J S.Zj with
    |some v=>bN (λg v=>den C τ res a V (S.head J (wr a) v) m A (Gp (λe S2=>z e (S2.as S J)) (HG (leaf S J) g))) C.fu v
    |none=>ε)else ε)=δ r:=h
   have h:=dK h;have hJ:=JR h.1;have Y:=h.2;split at Y
   ·rename_i v hv;generalize c5:(λ(g:(rQ J).T->Option m.T) v=>den C τ res a V (S.head J (wr a) v) m A (Gp (λe S2=>z e (S2.as S J)) (HG (leaf S J) g)))=f0 at Y;let I:Nat->(Nat->θ)->ν->Prop:=λk F' w'=>∃(v:(rQ J).T) (m:Nat->Ad),bN f0 k v=δ r/\Rel C w0 S0 m (S.head J (wr a) v) F' w'/\(∀(nb:Nat) (al:List Rg),(∀id j,id<nb->eY id j (S.Rs J)=ζ->eY id j al=ζ)->Le nb al E S.H m (S.head J (wr a) v).H)/\∀t,t∉wr a->F' t=F t;have d3:I C.fu F w:=by obtain⟨a1,d0,h3,h4⟩:=Zg (S2:=S.Zj) (wl:=wr a) (F2:=F) D hJ Le.refl (D.same rfl rfl) (λ_ _=>rfl) hv;exact⟨v,a1,Y,h3 _ rfl rfl,h4,λ_ _=>rfl⟩
    refine ks I C.fu d3 λk F' w' hI=> ?_;obtain⟨v',c3,h3,h4,h5,h6⟩:=hI;cases k with
    |zero=>cases h3
    |succ k=>
     rw [<-c5]at h3;have c6:Lf S E (S.head J (wr a) v') c3:=⟨rfl,rfl,h5 _ _ λid j hi hc=>Ae hJ.Gu hi hc⟩;refine ih u V (S.head J (wr a) v') m A _ r c3 F' w' _ h3 h4 (λe S2 s F2 L B o X W M=> ?_) (λy S2 s F2 L hy G o hL=>kW (U y S2 s F2 L hy G o (c6.trans hL)));have b6:∀t,t∉wr a->F2 t=F t:=λt ht=>(W t ht).trans (h6 t ht);cases e with
     |nm=>
      have B:HG (leaf S J) (bN f0 k) S2=δ r:=by rw [c5]at B;exact B
      unfold HG at B;split at B
      ·rename_i v2 a9;have d2:Le (γ S.H) (S.Rs J) E S.H s S2.H:=(h5 (γ S.H) (S.Rs J) λ_ _ _ h=>h).trans (X.lg.mono (h5 0 [] (λid j hi=>absurd hi aA0)).len λid j hi hc=>Xl (EA a9) hi hc);obtain⟨a1,d0,h7,h8⟩:=Zg (wl:=wr a) D hJ d2 o b6 a9;exact wj ⟨k,F2,rfl,nF k,v2,a1,B,h7 _ rfl rfl,h8,b6⟩
      ·cases B
     |xt i=>
      refine Ci (K (.xt i) (S2.as S J) s F2 L B (o.same rfl rfl) ⟨?_, ?_,λid j hc=> ?_⟩ (λt ht=>b6 t (by rw [a8]at ht;exact ht)) (λh=>by cases h))
      ·have:=c6.trans X.toLf;exact⟨this.nb,this.al,this.le⟩
      ·refine(h5 (γ S.H) _ λid j _ hc=>Hv.2 (.inr (Hv.2 (.inl hc)))).trans ?_;exact X.lg.mono (h5 0 [] (λid j hi=>absurd hi aA0)).len λid j _ hc=>Hv.2 (.inl hc)
      ·exact Hv.2 (.inr (Hv.2 (.inr hc)))
   ·cases Y
  |_=>cases h
end
end Go.Oe
namespace Go.Ce
open Go.Wk
section
variable {C:Cx}{m:M}{S:T}{n:Md}{w0 w:ν}{E:En}
variable {d:Option Nat}{ty:φ}{pos:String}{after:Array Edge}{gd:Option (Nat×Bool)}
theorem qw:∀(off:Nat) (vs cells:List θ) (k:Nat),off+k+γ vs<=γ cells->
  (vs.zipIdx k).foldl (λcs (p:θ×Nat)=>cs.setIfInBounds (off+p.2) p.1) cells.toArray=(cells.take (off+k)++vs++cells.drop (off+k+γ vs)).toArray
 |off,[],cells,k,h=>by simp
 |off,v::vs,cells,k,h=>by
  simp only [bX]at h;simp only [List.zipIdx_cons,RQ];have e:(cells.toArray.setIfInBounds (off+k) v)=(cells.set (off+k) v).toArray:=aA2;rw [e,qw off vs _ _ aA4];congr 1;have c:(cells.set (off+k) v).take (off+(k+1))=cells.take (off+k)++[v]:=by rw [zbK,aB aA0];have a:γ (cells.take (off+k))=off+k:=aA4;rw [yL,a,jL (by rw [a];omega),show off+(k+1)-(off+k)=1 by omega];simp
  have b:(cells.set (off+k) v).drop (off+(k+1)+γ vs)=cells.drop (off+k+(γ vs+1)):=by rw [List.drop_set_of_lt aA0];congr 1;omega
  rw [c,b];simp
end
end Go.Ce
namespace Go.Oe
open Go.Wk
open Go.Ce (Tr)
section
variable {C:Cx}{md:Md}{w0 w:ν}{S0:List Nat}{ρ:Nat->Ad}{S:St}{F:Nat->θ}
variable {t:Nat}
theorem Uf{z:Nat}(h:Tj C t=δ z)(w:ν):(sizeOf t).run C.P w=.ok z w:=zJ h w
variable {z:Bool}
theorem TV(h:ZX C t=δ z)(w:ν):(isAgg t).run C.P w=.ok z w:=zJ h w
theorem Eh(h:wJ C t=ζ):C.P.underlying t=δ .string:=by
 unfold wJ at h;split at h
 ·assumption
 ·cases h
theorem oBool(h:isBool C t=ζ):C.P.underlying t=δ .bool:=by
 unfold isBool at h;split at h
 ·assumption
 ·cases h
theorem ep{e:Nat}(h:SR C t=δ e):C.P.underlying t=δ (.slice e):=by
 unfold SR at h;split at h
 ·rename_i a;cases h;exact a
 ·cases h
theorem oAr{q:Nat×Nat}(h:arE C t=δ q):C.P.underlying t=δ (.array q.1 q.2):=by
 unfold arE at h;split at h
 ·rename_i a;cases h;exact a
 ·cases h
variable {k:Α}
theorem oK(h:kindOf C t=δ k):C.P.underlying t=δ (.int k):=by
 unfold kindOf at h;split at h
 ·rename_i a;cases h;exact a
 ·cases h
theorem oU8(h:KA C t=ζ):C.P.underlying t=δ (.int .u8):=by
 unfold KA at h;split at h
 ·rename_i a;rw [a,mY h]
 ·cases h
theorem oIsK(h:isK C t k=ζ):C.P.underlying t=δ (.int k):=by
 unfold isK at h;split at h
 ·rename_i a;rw [oK a,mY h]
 ·cases h
theorem oPtr(h:PO C t=ζ):∃e,C.P.underlying t=δ (.pointer e):=by
 unfold PO at h;split at h
 ·rename_i e a;exact⟨e,a⟩
 ·cases h
theorem pz(h:FB C t=ζ):∃e,C.P.underlying t=δ (.slice e):=by
 unfold FB at h;split at h
 ·rename_i e a;exact⟨e,a⟩
 ·cases h
variable {b:BinOp}
theorem Zs(h:FC b=ζ):b=.eql:=by cases b<;>first|rfl|cases h
variable {a:SC}
theorem wM{i:Int}(h:RC a=δ i)(ρ:Nat->Ad):∃k,a.v ρ=.int k i:=by
 cases a<;>simp only [RC,reduceCtorEq,aW]at h
 ·subst h;exact⟨_,rfl⟩
 ·subst h;exact⟨_,rfl⟩
variable {s c:φ}{x y:π}{i:SC}{g:List PD}{r:SV}
theorem bin_ok(hx:aZ md F x=a.v ρ)(e:aZ md F y=i.v ρ)(q:∀k v,z=ζ->aZ md F y=.int k v->0<=v)(h:bin z b a i=δ (g,r))(A:Iy g):vT C md ρ S F w (.binOp b s x y c) r:=by
 unfold bin at h;split at h
 ·rename_i k u j v;cases o:qf b with
  |true=>
   have m:b=.shr:=by cases b<;>first|rfl|cases o
   subst m;cases v with
   |negSucc n=>cases h
   |ofNat n=>
    cases h;refine fV rfl rfl λd p pos after=>nv k j u _ _ hx e (Qu n) ?_ ?_
    ·show 2^(min n k.bits)=((2^(min n k.bits):Nat):Int);rfl
    ·exact Int.natCast_pos.2 (Nat.pow_pos aA1)
  |false=>
  rw [o]at h;cases f:qg b with
  |true=>
   have m:b=.shl:=by cases b<;>first|rfl|cases f
   subst m;cases v with
   |negSucc n=>cases h
   |ofNat n=>cases h;refine fV rfl rfl λd p pos after=>ny k j u _ _ hx e (Qu n) ?_;rfl
  |false=>
  rw [f]at h;cases l:JZ k j with
  |false=>rw [l]at h;cases h
  |true=>rw [l]at h;obtain rfl:=mY l;exact bI_ok hx e h A
 ·exact bC_ok hx e h A
 ·exact vm hx e (λt=>q _ _ t e) h A
 ·exact bS_ok hx e h A
 ·cases h
theorem kz(hx:aZ md F x=a.v ρ)(n:aZ md F y=i.v ρ)(B:∀k v,z=ζ->aZ md F y=.int k v->0<=v)(h:la C z s b a i=δ (g,r))(G:Iy g):vT C md ρ S F w (.binOp b s x y c) r:=by
 unfold la at h;split at h
 ·rename_i I off j;have f:=dK h;have l:=dK f.2;have o:=dK l.2;have t:=iB f.1;obtain rfl:=Zs o.1;cases o.2;subst t;obtain⟨e,m⟩:=oPtr l.1;exact fV rfl rfl λd p pos after=>IP _ m hx n
 ·rename_i j H;have f:=dK h;have l:=dK f.2;have o:=dK l.2;have A:=dK o.2;have t:=iB f.1;have q:=iB l.1;obtain rfl:=Zs A.1;cases A.2;subst t;subst q;obtain⟨e,m⟩:=oPtr o.1;exact fV rfl rfl λd p pos after=>IP _ m hx n
 ·have f:=dK h;have l:=dK f.2;obtain rfl:=Zs l.1;cases l.2;obtain⟨e,m⟩:=pz f.1;exact fV rfl rfl λd p pos after=>IM _ _ _ e m hx n
 ·have f:=dK h;have l:=dK f.2;obtain rfl:=Zs l.1;cases l.2;obtain⟨e,m⟩:=pz f.1;exact fV rfl rfl λd p pos after=>IM _ _ _ e m hx n
 ·split at h
  ·rename_i u v E D;have f:=dK h;exact bB_ok (oBool f.1) (hx.trans (dv E ρ)) (n.trans (dv D ρ)) f.2
  ·exact bin_ok hx n B h G
theorem xf(hx:aZ md F x=a.v ρ)(h:xg a=δ (g,r)):vT C md ρ S F w (.unOp .not s x) r:=by
 unfold xg at h;split at h
 ·cases h;exact fV rfl rfl λd b pos after=>XW _ hx
 ·cases h;exact fV rfl rfl λd b pos after=>XW _ hx
 ·rename_i p c;cases h;exact fV rfl rfl λd b pos after=>tu _ hx
 ·cases h
theorem M0(c:wJ C s=ζ)(hx:aZ md F x=a.v ρ)(m:aZ md F y=i.v ρ)(h:ixC a i=δ (g,r))(n:Iy g):vT C md ρ S F w (.index s x y) r:=by
 unfold ixC at h;split at h
 ·rename_i l;split at h
  ·rename_i j f;cases h;obtain⟨k,e⟩:=wM f ρ;exact fV rfl rfl λd o pos after=>pJ l k j (Eh c) hx (m.trans e) n.1
  ·cases h
 ·cases h
theorem zL{n y:Option π}{i j:Option SC}(p:wJ C s=ζ)(hx:aZ md F x=a.v ρ)(t:(n=ε/\i=ε)\/∃o c,n=δ o/\i=δ c/\aZ md F o=c.v ρ)(z:(y=ε/\j=ε)\/∃o c,y=δ o/\j=δ c/\aZ md F o=c.v ρ)
  (h:T1 a i j=δ (g,r)) (A:Iy g):vT C md ρ S F w (.slice s x n y ε) r:=by
 unfold T1 at h;split at h
 ·rename_i l;rcases t with⟨rfl,rfl⟩|⟨o,c,rfl,rfl,D⟩<;>rcases z with⟨rfl,rfl⟩|⟨H,I,rfl,rfl,b⟩
  ·cases h
  ·simp only at h;split at h
   ·rename_i m e;cases h;obtain⟨k,f⟩:=wM e ρ;exact fV rfl rfl λd B pos after=>Ki l k m (Eh p) hx (b.trans f) A.1
   ·cases h
  ·simp only at h;split at h
   ·rename_i m e;cases h;obtain⟨k,f⟩:=wM e ρ;exact fV rfl rfl λd B pos after=>pI l k m (Eh p) hx (D.trans f) A.1
   ·cases h
  ·simp only at h;split at h
   ·rename_i m E e q;cases h;obtain⟨k,f⟩:=wM e ρ;obtain⟨G,u⟩:=wM q ρ;exact fV rfl rfl λd B pos after=>MO l k G m E (Eh p) hx (D.trans f) (b.trans u) A.1
   ·cases h
 ·cases h
theorem AD(hx:aZ md F x=a.v ρ)(h:T6 C s c a=δ (g,r))(m:Iy g):vT C md ρ S F w (.convert s c x) r:=by
 unfold T6 at h;split at h
 ·rename_i u;have i:=dK h;have e:=oU8 i.1;have b:=i.2;have q:=lT u;split at b
  ·rename_i t;cases b;refine fV rfl rfl λd f pos after=> ?_;exact uH .u8 .u8 _ e (oK t) hx (by rw [IntKind.wrap_u8];omega)
  ·rename_i t;cases b;refine fV rfl rfl λd f pos after=> ?_;exact uH .i64 .u8 _ e (oK t) hx (Gi u)
  ·rename_i t;cases b;refine fV rfl rfl λd f pos after=> ?_;exact uH .i32 .u8 _ e (oK t) hx (by simp [IntKind.wrap,IntKind.bits];omega)
  ·cases b
 ·rename_i k n;have i:=dK h;have e:=oIsK i.1;have b:=i.2;split at b
  ·rename_i t;cases b;exact fV rfl rfl λd f pos after=>XT k n e (oK t) hx
  ·rename_i k' _ t;cases o:JZ k k' with
   |true=>
    rw [o]at b;obtain rfl:=mY o;cases j:i64 k with
    |true=>obtain rfl:=Fh j;cases b;exact fV rfl rfl λd f pos after=>uH .i64 .i64 n e (oK t) hx (bbc m.1.lo m.1.hi)
    |false=>rw [j]at b;cases b;exact fV rfl rfl λd f pos after=>uH k k n e (oK t) hx m.1
   |false=>rw [o]at b;cases b;exact fV rfl rfl λd f pos after=>IQ k' k n e (oK t) hx
  ·have p:=dK b;cases p.2;exact fV rfl rfl λd f pos after=>Tc k k n e (Eh p.1) hx
 ·rename_i l;have i:=dK h;have b:=dK i.2;cases b.2;exact fV rfl rfl λd f pos after=>RT l (Eh i.1) (Eh b.1) hx
 ·cases h
end
open Go.Wk
open Go.Ce (Tr)
open Nat renaming beq → cV
section
variable {C:Cx}{md:Md}{w0 w:ν}{S0:List Nat}{ρ:Nat->Ad}{S:St}{F:Nat->θ}
variable {l:List SC}{t f:Nat}{a:Bool}{v:SV}
theorem sS(h:wC l t f a=δ v):
  (a=η/\∃x,l[t]? =δ x/\x.kn=ζ/\v=.c' x)\/(a=ζ/\t+f<=γ l/\(∀x∈(l.drop t).take f,x.kn=ζ)/\v=.a' ((l.drop t).take f))\/(a=ζ/\f=0/\v=.a' []):=by
 unfold wC at h;cases a with
 |true=>
  split at h
  ·rename_i q e;have b:=dK h;cases b.2;obtain⟨d,c⟩:=xI e;rw [oC]at d c;subst d;by_cases n:f=0
   ·subst n;exact .inr (.inr ⟨rfl,rfl,aA2⟩)
   ·refine .inr (.inl ⟨rfl, ?_,PK b.1,rfl⟩);simp at c;omega
  ·cases h
 |false=>
  simp at h;split at h
  ·rename_i x hx;have b:=dK h;cases b.2;rw [gV]at hx;exact .inl ⟨rfl,x,hx,b.1,rfl⟩
  ·cases h
theorem Ea{k:Nat}(h:wC l t f a=δ v)(b:∀x∈l,x.ok k):v.ok k:=by
 rcases sS h with⟨_,x,c,_,rfl⟩|⟨_,_,_,rfl⟩|⟨_,_,rfl⟩
 ·exact b x (aG c)
 ·exact λx hx=>b x (Rh (Cw hx))
 ·intro x hx;cases hx
variable {q:Nat×Nat×Bool}
theorem Ow(h:Vq C t f=δ q):∃(l:List Field) (b:Field),C.P.underlying t=δ (.struct l.toArray)/\l[f]? =δ b/\q.1=b.offset/\Tj C b.type=δ q.2.1/\ZX C b.type=δ q.2.2:=by
 unfold Vq at h;split at h
 ·rename_i i d;split at h
  ·rename_i b c;split at h
   ·rename_i n a e g;cases h;rw [gV]at c;exact⟨i.toList,b,aC9,c,rfl,e,g⟩
   ·cases h
  ·cases h
 ·cases h
theorem eg{n:Nat}(h:wC l f n a=δ v)(d:Tj C t=δ n)(c:ZX C t=δ a):∃u,v.v ρ=δ u/\(part t (l.map (SC.v ρ)).toArray f).run C.P w=.ok u w:=by
 rcases sS h with⟨rfl,x,b,_,rfl⟩|⟨rfl,g,_,rfl⟩|⟨rfl,rfl,rfl⟩
 ·exact⟨_,rfl,by simp [part,TV c w,b]⟩
 ·refine⟨_,rfl, ?_⟩;have e:(l.map (SC.v ρ)).toArray.extract f (f+n)=(((l.drop f).take n).map (SC.v ρ)).toArray:=by simp only [List.extract_toArray,List.extract_eq_take_drop,zbM];rw [List.map_take,List.map_drop]
  simp only [part,Sem.run_bind,TV c w,Result.andThen_ok,iL,Uf d w,Sem.run_pure,e]
 ·refine⟨_,rfl, ?_⟩;have e:(l.map (SC.v ρ)).toArray.extract f (f+0)= #[]:=aA2;simp only [part,Sem.run_bind,TV c w,Result.andThen_ok,iL,Uf d w,e];rfl
theorem Tg{u:aC×aC}(h:bh l=δ u):l=[.s' u.1,.s' u.2]:=by
 unfold bh at h;split at h
 ·cases h;rfl
 ·cases h
theorem Vd(h:UO C t=ζ):C.P.underlying t=δ .string/\ZX C t=δ η:=by
 unfold UO at h;cases b:wJ C t<;>rw [b]at h
 ·cases h
 ·refine⟨Eh b, ?_⟩;split at h
  ·rename_i a c;cases a
   ·exact c
   ·cases h
  ·cases h
variable {x:π}
theorem zg{z:Bool}{b:BinOp}{t t':φ}{y:π}{g:List PD}{r:SV}(hx:aZ md F x=.agg (l.map (SC.v ρ)).toArray)(c:∀e,v=.a' e->aZ md F y=.agg (e.map (SC.v ρ)).toArray)(h:lb C z t b (.a' l) v=δ (g,r)):vT C md ρ S F w (.binOp b t x y t') r:=by
 cases v with
 |a' e=>
  have c:=c e rfl;unfold lb at h;simp only at h;split at h
  ·rename_i u M;split at h
   ·rename_i v L;cases a:yh C t with
    |false=>rw [a]at h;cases h
    |true=>
     rw [a]at h;rw [Tg M]at hx;rw [Tg L]at c;obtain⟨i,n,s,p,q⟩:∃i:List Field,C.P.underlying t=δ (.struct i.toArray)/\EqF C.P w [str u.1,str u.2] [str v.1,str v.2] i [decide (u.1=v.1),decide (u.2=v.2)]/\C.P.stoodInHeld t=η/\C.P.eqGuardType C.P.depth t=η:=by
      unfold yh at a;split at a
      ·rename_i i j;split at a
       ·rename_i f g N;cases E:UO C f.type<;>rw [E]at a<;>first|cases a|skip
        cases D:UO C g.type<;>rw [D]at a<;>first|cases a|skip
        cases m:cV f.offset 0<;>rw [m]at a<;>first|cases a|skip
        cases k:cV g.offset 1<;>rw [k]at a<;>first|cases a|skip
        cases B : f.name == "_" <;> rw [B] at a <;> first | cases a | skip
        cases A : g.name == "_" <;> rw [A] at a <;> first | cases a | skip
        cases Q:C.P.stoodInHeld t<;>rw [Q]at a<;>first|cases a|skip
        have O:C.P.eqGuardType C.P.depth t=η:=aB9;obtain⟨K,H⟩:=Vd E;obtain⟨J,G⟩:=Vd D;refine⟨[f,g],by rw [j,<-N],⟨ne_of_beq_false B,⟨_,_, ?_, ?_,λd=>vB d _ _ K⟩,ne_of_beq_false A,⟨_,_, ?_, ?_,λd=>vB d _ _ J⟩,trivial⟩,rfl,O⟩
        ·simp [part,TV H w,iB m]
        ·simp [part,TV H w,iB m]
        ·simp [part,TV G w,iB k]
        ·simp [part,TV G w,iB k]
       ·cases a
      ·cases a
     have o:[decide (u.1=v.1),decide (u.2=v.2)].all id=decide (u=v):=by simp [Prod.ext_iff]
     cases b<;>simp at h<;>obtain⟨rfl,rfl⟩:=h
     ·exact fV rfl rfl λd I pos after=>YG _ _ _ _ n p q hx c s o
     ·exact fV rfl rfl λd I pos after=>BM _ _ _ _ n p q hx c s o
   ·cases h
  ·cases h
 |_=>cases h
theorem Q3(hx:aZ md F x=.agg (l.map (SC.v ρ)).toArray)(c:∀x∈l,x.ok (γ S.H))(b:Vq C t f=δ q)(h:wC l q.1 q.2.1 q.2.2=δ v):vT C md ρ S F w (.field t x f) v:=by obtain⟨o,p,m,k,j,i,g⟩:=Ow b;obtain⟨u,e,a⟩:=eg (ρ:=ρ) h i g;refine⟨Ea h c,u,e,λd n pos after=> ?_⟩;rw [j]at a;simp [ξ,hx,Instr.field,run_underlying m,k,asAgg];rw [a];rfl
theorem Zr{c:SC}(hx:aZ md F x=c.v ρ)(i:c.ok (γ S.H))(h:bcf C t f c=δ v):vT C md ρ S F w (.fieldAddr t x f) v:=by
 unfold bcf at h;split at h
 ·rename_i q m;obtain⟨u,g,p,o,k,n,s⟩:=Ow m;cases a:cV q.2.1 0 with
  |true=>rw [a]at h;cases h
  |false=>
   rw [a]at h;have b:q.2.1≠0:=λe=>by rw [e]at a;cases a
   have kV:∀A:χ,(Instr.fieldAt t (.pointer (δ A)) f).run C.P w=.ok (.pointer (δ (A.add g.offset))) w:=by simp [Instr.fieldAt,run_underlying p,o,Instr.sureAddr,fieldPlace,Uf n w,b]
   split at h
   ·rename_i id off;cases h;refine⟨i,_,rfl,λd l pos after=> ?_⟩;rw [om _ g.offset hx (kV _),LY,<-k];rfl
   ·rename_i id j r off;cases h;refine⟨i,_,rfl,λd l pos after=> ?_⟩;rw [pK _ _ g.offset hx (by rw [<-KS];exact kV _),<-k,De];rfl
   ·cases h
 ·cases h
theorem KO{l:List SA}{y:SA}(hx:aZ md F x=.tuple (l.map (SA.v ρ)).toArray)(a:∀x∈l,x.ok (γ S.H))(h:fU l t=δ y):vT C md ρ S F w (.extract x t) y.sv:=by rw [gV]at h;exact⟨SA.Gq (a y (aG h)),_,SA.bx ρ y,λd b pos after=>Td _ _ hx (by simp [h])⟩
theorem XS(h:zC C t=δ l)(w:ν):∃v,(zeroValue t).run C.P w=.ok v w/\(∀c∈l,c.ids=[]/\c.kn=ζ)/\∀ρ,v.cells=(l.map (SC.v ρ)).toArray:=by
 unfold zC at h;split at h
 ·rename_i v a;obtain⟨d,b⟩:=KW h;exact⟨v,zJ a w,d,λρ=>by rw [b]⟩
 ·cases h
theorem Ox{w:π->SV}{y:Nat->Option (Nat×Nat)}{k:Nat}:∀c (cs r),(∀p∈c,(w p.2).ok k/\∀u,(w p.2).v ρ=δ u->aZ md F p.2=u)->(∀x∈cs,x.ok k)->Hj y w c cs=δ r->
  Instr.fill y (cs.map (SC.v ρ)).toArray (c.map λp=>(p.1,aZ md F p.2))=δ (r.map (SC.v ρ)).toArray/\γ r=γ cs/\∀x∈r,x.ok k
 |[],cs,r,_,l,h=>by cases h;exact⟨rfl,rfl,l⟩
 |p::c,cs,r,A,l,h=>by
  simp only [Hj]at h;split at h
  ·rename_i q b G d;have C:=dK h;have t:=C.2;split at t
   ·rename_i j a;obtain⟨M,B⟩:=ayw a;have i:=A p fE;have n:=SV.Pn d i.1;obtain⟨v,o,f⟩:=SV.Kb (ρ:=ρ) d;have m:=i.2 v o;have g:∀x∈j,x.ok k:=by
     rw [B];intro x hx;rcases aR.1 hx with hx|hx
     ·rcases aR.1 hx with hx|hx
      ·exact l x (Cw hx)
      ·exact n x hx
     ·exact l x (Rh hx)
    obtain⟨L,K,J⟩:=Ox c j r (λD H=>A D (eT _ H)) g t;refine⟨?_,by rw [K,zX a],J⟩;obtain⟨off,size⟩:=q;have E:=iB C.1;simp only [yS,Instr.fill,G,m];have I:v.cells.size=γ b:=by rw [f];simp
    have s:¬((v.cells.size≠size||decide (off+v.cells.size>(cs.map (SC.v ρ)).toArray.size))=ζ):=by simp;omega
    rw [aA s,<-L];rw [f];have z:=Go.Ce.qw off (b.map (SC.v ρ)) (cs.map (SC.v ρ)) 0 (by simp;exact M);simp only [BG,Rf]at z;rw [B];have e:((cs.take off++b++cs.drop (off+γ b)).map (SC.v ρ))=(cs.map (SC.v ρ)).take off++b.map (SC.v ρ)++(cs.map (SC.v ρ)).drop (off+γ b):=aA2;rw [e,<-z];simp
   ·cases t
  ·cases h
theorem Mb:∀{b:List Field} {l:List (Nat×Nat)},Jk C b=δ l->(b.mapM λf=>(do pure (f.offset,<-sizeOf f.type):Sem (Nat×Nat))).run C.P w=.ok l w
 |[],l,a=>by cases a;simp
 |f::b,l,a=>by
  simp only [Jk]at a;split at a
  ·rename_i z e;split at a
   ·rename_i q d;cases a;have c:=Mb d;rw [List.mapM_cons];simp only [Sem.run_bind,Uf e w,Result.andThen_ok,Sem.run_pure,c]
   ·cases a
  ·cases a
theorem U3{y:ν}(I:Rel C w0 S0 ρ S F y)(B:C.nn=md.n){f:Array (Nat×π)}(h:Jn C (S.ev C) t f.toList=δ v):vT C md ρ S F w (.build t f) v:=by
 unfold Jn at h;split at h
 ·rename_i z O A a;split at h
  ·rename_i cs r;cases h;obtain⟨M,x,K,l⟩:=XS A w;obtain⟨s,Q,J⟩:=Ox (ρ:=ρ) (md:=md) (F:=F) (k:=γ S.H) f.toList z cs (λp _=>Sl I B p.2) (λc G i u=>by rw [(K c G).1]at u;cases u) r;refine⟨J,_,rfl,λd N pos after=> ?_⟩;have b:(f.map λp=>(p.1,aZ md F p.2)).toList=f.toList.map λp=>(p.1,aZ md F p.2):=aA2;have l:=l ρ;unfold plOf at a;split at a
   ·rename_i L q;split at a
    ·rename_i lp o;cases a;have D:=Mb (w:=w) o;have g:fU lp=λi=>lp.toArray[i]? :=by funext i;rw [gV];simp
     rw [g]at s;have j:C.P.underlying t=δ (.struct L.toList.toArray):=by simpa using q
     simp only [ξ,Instr.build,Sem.run_bind,x,Result.andThen_ok,run_underlying j,l,List.mapM_toArray,Sem.run_map,D];rw [b,s];rfl
    ·cases a
   ·rename_i k e E;split at a
    ·rename_i n m;cases a;simp only [ξ,Instr.build,Sem.run_bind,x,Result.andThen_ok,run_underlying E,l,Uf m w];rw [b,s];rfl
    ·cases a
   ·cases a
  ·cases h
 ·cases h
end
open Go.Wk
open Go.Ce (Tr)
section
variable {C:Cx}{md:Md}{w0 w:ν}{S0:List Nat}{ρ:Nat->Ad}{S:St}{F:Nat->θ}
variable {H:List Ob}{a:Ro}
theorem IE{r:Rv}(h:Ly H r=δ a):∃g v,r=δ (g,v)/\a=⟨g,v,H,[]⟩:=by
 unfold Ly at h;split at h
 ·cases h;exact⟨_,_,rfl,rfl⟩
 ·cases h
theorem W3{v:Option SV}(h:nJ H v=δ a):∃x,v=δ x/\a=⟨[],x,H,[]⟩:=by
 unfold nJ at h;split at h
 ·cases h;exact⟨_,rfl,rfl⟩
 ·cases h
theorem Zd{x v:SV} (h:(match x with
  |.u'=>ε
  |v=>δ v)=δ v):x=v/\∃u,v.v ρ=δ u:=by
 cases x<;>simp at h
 ·subst h;exact⟨rfl,_,rfl⟩
 ·subst h;exact⟨rfl,_,rfl⟩
 ·subst h;exact⟨rfl,_,rfl⟩
 ·subst h;exact⟨rfl,_,rfl⟩
theorem XI{a:Type}{b:π->SV}{x:Option π}{f:Option SC->Option a}{r:a}(h:If b x f=δ r):(x=ε/\f ε=δ r)\/∃o c,x=δ o/\b o=.c' c/\f (δ c)=δ r:=by
 cases x with
 |none=>exact .inl ⟨rfl,h⟩
 |some o=>obtain⟨c,e,d⟩:=mH h;exact .inr ⟨o,c,rfl,e,d⟩
variable {t:Nat}
theorem W4{q:Nat×Nat}(h:arE C t=δ q):C.P.underlying t=δ (.array q.1 q.2):=by
 unfold arE at h;split at h
 ·rename_i a;cases h;exact a
 ·cases h
theorem K9{x b:π}{cs:List SC}{i:SC}{g:List PD}{v:SV}(hx:aZ md F x=.agg (cs.map (SC.v ρ)).toArray)(p:aZ md F b=i.v ρ)(h:L0 C t cs i=δ (g,v))(r:Iy g):vT C md ρ S F w (.index t x b) v:=by
 unfold L0 at h;split at h
 ·rename_i q f;have h:=(dK h).2;split at h
  ·rename_i B A;split at h
   ·rename_i l j m o;cases h
    obtain⟨k,n⟩:=wM o ρ;obtain⟨z,_,y⟩:=y7 m;have u:(l.map λs=>[str s])=(cs.map (SC.v ρ)).map λc=>[c]:=by
     rw [y ρ,List.map_flatMap]
     have:∀l:List aC,(l.map λs=>[str s])=l.flatMap λa=>List.map (λc=>[c]) ((Ty.s').enc a):=by
      intro l;induction l with
      |nil=>rfl
      |cons s l e=>rw [yS,e];rfl
     exact this l
    exact fV rfl rfl λd D pos after=>x_ixA _ l q.1 k j _ _ u (W4 f) z (TV A w) (Uf B w) hx (p.trans n) rfl r.1
   ·cases h
  ·cases h
 ·cases h
theorem V6(r:C.nn=md.n)(z:Rel C w0 S0 ρ S F w){op:Op}(Y:nA op=ζ)(h:opP C (S.ev C) S.H op=δ a)(G:Iy a.g)(w':ν):vT C md ρ S F w' op a.v/\a.H=S.H/\a.m=[]:=by
 cases op<;>first|cases Y|skip
 case move x=>
  obtain⟨v,e,rfl⟩:=W3 h;obtain⟨p,u,B⟩:=Zd (ρ:=ρ) e;obtain⟨A,D⟩:=Sl z r x;rw [p]at A D;exact⟨⟨A,u,B,λd Q pos after=>by rw [<-D u B];rfl⟩,rfl,rfl⟩
 case assign x=>
  obtain⟨v,e,rfl⟩:=W3 h;obtain⟨p,u,B⟩:=Zd (ρ:=ρ) e;obtain⟨A,D⟩:=Sl z r x;rw [p]at A D;exact⟨⟨A,u,B,λd Q pos after=>by rw [<-D u B];rfl⟩,rfl,rfl⟩
 case binOp b t x y t'=>
  obtain⟨g,v,e,rfl⟩:=IE h;by_cases E:∃l,S.ev C x=.a' l
  ·obtain⟨l,E⟩:=E;rw [E]at e;exact⟨zg ((Sl z r x).2 _ (by rw [E];rfl)) (λl2 p=>(Sl z r y).2 _ (by rw [p];rfl)) e,rfl,rfl⟩
  have e:hY (S.ev C x) (λn=>hY (S.ev C y) λc=>la C (ig y) t b n c)=δ (g,v):=by
   unfold lb at e;split at e
   ·rename_i hx;exact absurd ⟨_,hx⟩ E
   ·exact e
  obtain⟨n,p,B⟩:=mH e;obtain⟨c,A,D⟩:=mH B;exact⟨kz (oT z r p).2 (oT z r A).2 (λk v U W=>ie W U) D G,rfl,rfl⟩
 case unOp u t x=>
  cases u<;>first|cases h|skip
  obtain⟨g,v,e,rfl⟩:=IE h;obtain⟨n,p,B⟩:=mH e;exact⟨xf (oT z r p).2 B,rfl,rfl⟩
 case convert s t x=>
  obtain⟨g,v,e,rfl⟩:=IE h;obtain⟨n,p,B⟩:=mH e;exact⟨AD (oT z r p).2 B G,rfl,rfl⟩
 case index t x ix=>
  have h:(bif wJ C t then Ly S.H _ else(match S.ev C x with
   |.a' cs=>Ly S.H _
   |_=>ε))=δ a:=h
  cases M:wJ C t with
  |true=>rw [M]at h;obtain⟨g,v,e,rfl⟩:=IE h;obtain⟨n,p,B⟩:=mH e;obtain⟨c,A,D⟩:=mH B;exact⟨M0 M (oT z r p).2 (oT z r A).2 D G,rfl,rfl⟩
  |false=>
   rw [M]at h;have K:=Sl z r x;split at h
   ·rename_i cs N;obtain⟨g,v,e,rfl⟩:=IE h;obtain⟨c,A,D⟩:=mH e;rw [N]at K;exact⟨K9 (K.2 _ rfl) (oT z r A).2 D G,rfl,rfl⟩
   ·cases h
 case slice t x T Z R=>
  cases R with
  |some m=>have:=(dK (h)).2;cases this
  |none=>
   have h:=dK (h);have p:(bif wJ C t then Ly S.H _ else hY _ λn=>If _ T λi=>If _ Z λj=>Ie C S.H t n i j)=δ a:=h.2;rw [h.1]at p;have h:=And.intro h.1 p;obtain⟨g,v,e,rfl⟩:=IE h.2;obtain⟨n,p,B⟩:=mH e;refine⟨?_,rfl,rfl⟩;rcases XI B with⟨A,D⟩|⟨o,c,A,D,h6⟩
   ·rcases XI D with⟨J,I⟩|⟨L,P,J,I,O⟩
    ·exact zL h.1 (oT z r p).2 (.inl ⟨A,rfl⟩) (.inl ⟨J,rfl⟩) I G
    ·exact zL h.1 (oT z r p).2 (.inl ⟨A,rfl⟩) (.inr ⟨L,P,J,rfl,(oT z r I).2⟩) O G
   ·rcases XI h6 with⟨J,I⟩|⟨L,P,J,I,O⟩
    ·exact zL h.1 (oT z r p).2 (.inr ⟨o,c,A,rfl,(oT z r D).2⟩) (.inl ⟨J,rfl⟩) I G
    ·exact zL h.1 (oT z r p).2 (.inr ⟨o,c,A,rfl,(oT z r D).2⟩) (.inr ⟨L,P,J,rfl,(oT z r I).2⟩) O G
 case extract x i=>
  have h:(match S.ev C x with
   |.t' l=>match fU l i with
    |some y=>δ _
    |none=>ε
   |_=>ε)=δ a:=h
  obtain⟨e,p⟩:=Sl z r x;split at h
  ·rename_i l E;split at h
   ·rename_i y V;cases h;rw [E]at e p;exact⟨KO (p _ rfl) e V,rfl,rfl⟩
   ·cases h
  ·cases h
 case field t x f=>
  have h:(match S.ev C x with
   |.a' l=>match Vq C t f with
    |some q=>nJ S.H _
    |none=>ε
   |_=>ε)=δ a:=h
  obtain⟨e,p⟩:=Sl z r x;split at h
  ·rename_i l E;split at h
   ·rename_i q X;obtain⟨v,B,rfl⟩:=W3 h;rw [E]at e p;exact⟨Q3 (p _ rfl) e X B,rfl,rfl⟩
   ·cases h
  ·cases h
 case build t ps=>
  obtain⟨v,e,rfl⟩:=W3 h;exact⟨U3 z r e,rfl,rfl⟩
 case fieldAddr t x f=>
  obtain⟨n,e,p⟩:=mH (h);obtain⟨v,B,rfl⟩:=W3 p;obtain⟨A,D⟩:=oT z r e;exact⟨Zr D A B,rfl,rfl⟩
theorem wm(b:C.nn=md.n):AU C md:=λw0 S0 ρ S F w op v H m c a h w'=>(V6 b c a h trivial w').1
end
open Go.Wk
open Go.Ce (Tr)
def Step(C:Cx)(md:Md)(w0:ν)(S0:List Nat)(ρ:Nat->Ad)(S:St)(F:Nat->θ)(w:ν)(o:ψ)(S2:St):Prop:=
 ∀c Q a,
  (∀b e f,Rel C w0 S0 b S2 e f->Nx S ρ S2 b->(∀t,o.dst≠δ t->e t=F t)->(∀d,o.dst=δ d->nA o.op=ζ->∃g,(ξ (aZ md F) o).run C.P w=.ok (.value (e d)) g)->W C.P md c Q a e f)->W C.P md c Q (o::a) F w
section
variable {C:Cx}{md:Md}{w0 w:ν}{S0:List Nat}{ρ:Nat->Ad}{S:St}{F:Nat->θ}
variable {d:Nat}{ty:φ}{pos:String}{after:Array Edge}
variable {b:St}{c:ν}{v:SV}{u:θ}
theorem lq{a:Nat->Ad}(h:Rel C w0 S0 a b F c)(g:v.v a=δ u)(i:v.ok (γ b.H)):Rel C w0 S0 a (b.set d v) (dV F d u) c:=by
 refine⟨h.gl,λt f j=> ?_,λt=> ?_,h.ho,h.mem⟩
 ·rw [lR]at j;by_cases e:t=d
  ·rw [aB e]at j;rw [g]at j;cases j;subst e;rw [lz]
  ·rw [aA e]at j;rw [Kp _ _ _ _ e];exact h.fr t f j
 ·rw [lR];by_cases e:t=d
  ·rw [aB e];exact i
  ·rw [aA e];exact h.fo t
theorem RB:∀t,(δ d)≠δ t->dV F d u t=F t:=λt h=>Kp _ _ _ _ λe=>h (by rw [e])
theorem A1{op:Op}(g:Rel C w0 S0 ρ S F w)(h:vT C md ρ S F w op v):Step C md w0 S0 ρ S F w ⟨δ d,op,ty,pos,after,ε⟩ (St.set ⟨S.F,S.H,S.nb,S.al,[]++S.m⟩ d v):=by intro c Q a e;obtain⟨j,u,i,b⟩:=h;refine gN rfl rfl (b d ty pos after) (e ρ _ w (lq (g.same rfl rfl) i j) ⟨⟨rfl,rfl,Le.refl⟩,Le.refl,λ_ _ h=>h⟩ RB λd2 f _=>⟨w, ?_⟩);cases f;rw [lz];exact b d ty pos after
def Hw(ρ:Nat->Ad)(n:Nat)(a:Ad):Nat->Ad:=λid=>if id=n then a else ρ id
variable {n:Nat}{a:Ad}
theorem yC:Up n ρ (Hw ρ n a):=λid b=>by unfold Hw;rw [aA aA0]
theorem oU:Hw ρ n a n=a:=by unfold Hw;rw [aB rfl]
variable {L:List cB}{r:cB}
theorem Hp.rot{w0 w:ν}{S:List Nat}(h:Hp w0 S (r::L) w):Hp w0 S (L++[r]) w:=by refine⟨h.os,h.tape,h.output,h.size,h.below,λx hx=>h.res x (by simp at hx⊢;exact hx.symm), ?_⟩;have c:=fZ.1 h.sep;refine dH.2 ⟨c.2,List.pairwise_singleton _ _,λa g b d=> ?_⟩;simp at d;subst d;intro k f e;exact c.1 a g k e f
theorem RO.up{n:Nat}{a:Nat->Ad}{id:Nat}{o:Ob}{r:cB}(h:RO w0 S0 ρ id o r)(d:Up n ρ a)(f:id<n)(k:∀e cs,o=.bl e cs->∀c∈cs,c.ok n):RO w0 S0 a id o r:=by
 cases o with
 |bl e cs=>obtain⟨i,rfl,s,q⟩:=h;refine⟨i,by rw [d id f],s,λj c g p=> ?_⟩;rw [q j c g p,SC.up d (k e cs rfl c (aG g))]
 |rw e b t l=>show r=_;rw [d id f];exact h
 |ro t l=>exact⟨h.1,by rw [d id f];exact h.2⟩
 |br m l=>show r=_;rw [d id f];exact h
 |dd m=>trivial
theorem zS{o:Ob}{S2:St}(l:Rel C w0 S0 ρ S F w)(m:Mt w0 S0 ρ S.H L)(E:Hp w0 S0 (r::L) c)(y:RO w0 S0 (Hw ρ (γ S.H) a) (γ S.H) o r)(A:o.len=a.ln)(z:∀e cs,o=.bl e cs->∀n∈cs,n.ok (γ S.H+1))
  (G:S2.F=S.F) (h:S2.H=S.H++[o]):Rel C w0 S0 (Hw ρ (γ S.H) a) S2 F c:=by
 have v:∀t,S2.at t=S.at t:=λt=>by rw [St.at_eq,St.at_eq,G]
 have d:γ S2.H=γ S.H+1:=aA5;refine⟨λg id B=> ?_,λt u q=> ?_,λt=> ?_,λid e cs f n s=> ?_,⟨L++[r],Hp.rot E,by simp [m.1,d],λid p b=> ?_⟩⟩
 ·obtain⟨M,b⟩:=l.gl g id B;exact⟨aA0,by rw [yC id M];exact b⟩
 ·rw [v,SV.up yC (l.fo t)]at q;exact l.fr t u q
 ·rw [v];exact SV.cN (l.fo t) aA0
 ·rw [d];rw [h]at f;by_cases j:id<γ S.H
  ·rw [aI j]at f;exact SC.cN (l.ho id e cs f n s) aA0
  ·rw [aN aA0]at f
   have:o=.bl e cs:=by
    cases i:id-γ S.H with
    |zero=>rw [i]at f;simpa using f
    |succ k=>rw [i]at f;simp at f
   exact z e cs this n s
 ·rw [h]at b;by_cases j:id<γ S.H
  ·rw [aI j]at b;obtain⟨K,x,J,I⟩:=m.2 id p b;refine⟨by rw [yC id j];exact K,x,by rw [aI (by rw [m.1];exact j)];exact J,I.up yC j λe cs D=> ?_⟩;subst D;exact l.ho id e cs b
  ·rw [aN aA0]at b;have i:id-γ S.H=0:=by
    cases i:id-γ S.H with
    |zero=>rfl
    |succ k=>rw [i]at b;simp at b
   have hid:id=γ S.H:=aA0;rw [i]at b;have:o=p:=aB6;subst this;subst hid;exact⟨by rw [oU];exact A,r,by rw [aN (by rw [m.1];exact eK _),m.1];simp,y⟩
theorem Mr{o:Ob}{m:List Rg}(x:Rel C w0 S0 ρ S F w)(h:b.H=S.H++[o])(f:b.nb=S.nb)(g:b.al=S.al)(r:b.m=m++S.m):Nx S ρ b (Hw ρ (γ S.H) a):=by
 have d:∀k p,Le k p ρ S.H (Hw ρ (γ S.H) a) b.H:=by
  intro k p;rw [h];refine⟨aA2,yC,λid q _ i=> ?_⟩;have u:=(aD.1 i).1;rw [aI u,i];cases q with
  |bl e cs=>exact .inr ⟨cs,rfl,rfl,λj c n=>.inr ⟨c,n,λs=>⟨s,SC.up yC (x.ho id e cs i c (aG n))⟩⟩⟩
  |rw e y t l=>exact .inr rfl
  |br m l=>exact .inr rfl
  |ro t l=>rfl
  |dd m=>rfl
 exact⟨⟨f,g,d _ _⟩,d _ _,λid j v=>by rw [r];exact Hv.2 (.inr v)⟩
end
end Go.Oe
