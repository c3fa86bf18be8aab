/-
  The law BodiesApart holds (part 2 of 8).
-/
import Derived.Test.YtbljlpflaehacaaGreatDoorYc1
import Derived.Lib.Bytealg
import Derived.Lib.IndexAny
import Derived.Lib.LastIndexByte
import Derived.Lib.IndexMore
import Derived.Lib.SlTrimSet
import Derived.Lib.TrimByte
import Derived.Lib.Strings
import Derived.Lib.ItoaNum
import Derived.Lib.Join
import Derived.Sort.Grow
import Derived.Lib.SplitLaws
import Derived.Lib.Split
set_option linter.constructorNameAsVariable false
namespace Go.Px
open Go.Wk
def cW(c:UInt8):Bool:=c==32||c==9
def gN(c:UInt8):Bool:=(decide (c<32)&&c !=9)||c==127
def sD(c:UInt8):Bool:=(decide (97<=c)&&decide (c<=122))||(decide (65<=c)&&decide (c<=90))
def jO(c:UInt8):Bool:=decide (48<=c)&&decide (c<=57)
def dR(c:UInt8):Bool:=sD c||jO c||c==45||c==46||c==33||c==37||c==42||c==95||c==43||c==39||c==126||c==96
def gX(c:UInt8):UInt8:=if 65<=c/\c<=90 then c+32 else c
def Zs(c:UInt8):UInt8:=if 97<=c/\c<=122 then c-32 else c
def eR(p:UInt8->Bool):List UInt8->Nat
 |[]=>0
 |c::l=>if p c then eR p l+1 else 0
def Yx(i:Int)(n:Nat):Nat:=(min (max i 0) (n:Int)).toNat
def cD(p:UInt8->Bool)(s:List UInt8)(i:Int):Nat:=Yx i s.length+eR p (s.drop (Yx i s.length))
theorem HD(p:UInt8->Bool):∀l,eR p l<=l.length
 |[]=>oN _
 |c::l=>by simp only [eR];have:=HD p l;split<;>simp<;>omega
theorem Ag(i:Int)(n:Nat):Yx i n<=n:=aE5
theorem qW(p:UInt8->Bool)(s:List UInt8)(i:Int):cD p s i<=s.length:=by unfold cD;have h1:=HD p (s.drop (Yx i s.length));have h2:=Ag i s.length;simp at h1;omega
theorem baw(k n:Nat)(h:k<=n):Yx (k:Int) n=k:=aE5
theorem drop_at(s:List UInt8)(k:Nat)(h:k<s.length):s.drop k=at_ s k::s.drop (k+1):=by rw [dG h];simp [at_,h]
theorem IJ(p:UInt8->Bool)(s:List UInt8):cD p s (s.length:Int)=s.length:=by unfold cD;rw [baw _ _ (oN _)];simp [eR]
theorem iG(p:UInt8->Prop)(h:∀i:Fin 256,p (UInt8.ofFin i)):∀c,p c:=fun c=>h c.toFin
set_option maxRecDepth 10000
theorem nM(c:UInt8):jO c=true↔48<=(c.toNat:Int)/\(c.toNat:Int)<=57:=by revert c;exact iG _ aA1
def K8(c:UInt8):Bool:=decide (32<=c)&&decide (c<=126)
def mJ(s:List UInt8):Bool:= !s.isEmpty&&s.all dR
theorem Bf(p:UInt8->Bool):∀l,eR p l=l.length↔l.all p=true
 |[]=>by simp [eR]
 |c::l=>by
  have h1:=Bf p l;have h2:=HD p l;simp only [eR,dD,List.all_cons,dE];split
  ·rename_i a;simp [a,h1]
  ·rename_i a;simp [a]
theorem ZC(s:List UInt8):(s≠[]/\(cD dR s 0:Int)=(s.length:Int))↔mJ s=true:=by
 have h:=Bf dR s;have e:cD dR s 0=eR dR s:=by have c:Yx 0 s.length=0:=aE5;unfold cD;rw [c];simp
 rw [e];unfold mJ;simp only [dE,rN,List.isEmpty_eq_false_iff,<-h];constructor
 ·rintro⟨a,b⟩;exact⟨a,aA0⟩
 ·rintro⟨a,b⟩;exact⟨a,aA0⟩
def tH(s:List UInt8):Nat:=s.foldl (fun n c=>10*n+(c.toNat-48)) 0
theorem yx(s:List UInt8)(c:UInt8):tH (s++[c])=10*tH s+(c.toNat-48):=by simp [tH,List.foldl_append]
theorem IC(s:List UInt8)(k:Nat)(h:k<s.length):s.take (k+1)=s.take k++[at_ s k]:=by rw [List.take_succ_eq_append_getElem h];simp [at_,h]
theorem Ae:∀(n:Nat) (s:List UInt8),s.length<=n->s.all jO=true->tH s<10^n:=by
 intro n;induction n with
 |zero=>intro s b _;have:s=[]:=List.eq_nil_of_length_eq_zero aA0;subst this;decide
 |succ n d=>
  intro s b a;rcases LV s with rfl|⟨l,c,rfl⟩
  ·simp [tH];exact Nat.pow_pos aA0
  ·simp only [LW]at*;rw [yx];rw [mN]at a;simp only [dE,List.all_cons,List.all_nil,Bool.and_true]at a;have h1:=d l (by simp at b;omega) a.1;have h2:=(nM c).1 a.2;rw [Nat.pow_succ];omega
def dS(s:List UInt8):List UInt8:=s.map gX
def Yz(s:List UInt8):List UInt8:=s.map Zs
def Bw(c:UInt8):List UInt8:=if c=34\/c=92 then [92,c]else [c]
end Go.Px
set_option linter.unusedSimpArgs false
set_option linter.unusedVariables false
namespace Go.Px
open Go.Wk
def dJ(p:UInt8->Bool):List UInt8->Int
 |[]=> -1
 |b::l=>if p b then 0 else if dJ p l= -1 then-1 else dJ p l+1
theorem qE(p:UInt8->Bool):∀l,-1<=dJ p l
 |[]=>by simp [dJ]
 |b::l=>by have:=qE p l;unfold dJ;split;(·omega);(·split<;>omega)
theorem Wy(p:UInt8->Bool):∀l,dJ p l=if eR (fun c=> !p c) l=l.length then(-1:Int)else(eR (fun c=> !p c) l:Int)
 |[]=>by simp [dJ,eR]
 |b::l=>by
  have a:=Wy p l;have d:=HD (fun c=> !p c) l;unfold dJ eR;cases e:p b
  ·simp only [Bool.not_false,eM,Jy,cL,dD];rw [a];by_cases h:eR (fun c=> !p c) l=l.length
   ·rw [aC h,aC rfl,aC aA0]
   ·rw [aB h,aB aA0,aB aA0];omega
  ·simp
theorem K9(p:UInt8->Bool)(l:List UInt8):(dJ p l= -1/\eR (fun c=> !p c) l=l.length)\/(0<=dJ p l/\dJ p l<(l.length:Int)/\dJ p l=(eR (fun c=> !p c) l:Int)):=by
 have:=HD (fun c=> !p c) l;rw [Wy];split
 ·exact .inl ⟨rfl,by assumption⟩
 ·exact .inr ⟨aA0,aA0,rfl⟩
theorem sY(c:UInt8):∀l,Lib.indexByte l c=dJ (·==c) l
 |[]=>rfl
 |b::l=>by unfold Lib.indexByte dJ;rw [sY c l];simp
theorem jn(cs:List UInt8):∀l,Lib.indexAny l cs=dJ (cs.contains ·) l
 |[]=>rfl
 |b::l=>by unfold Lib.indexAny dJ;rw [jn cs l];simp
def nP(p:UInt8->Bool):List UInt8->Int
 |[]=> -1
 |b::l=>if nP p l= -1 then(if p b then 0 else-1)else nP p l+1
theorem Mw(p:UInt8->Bool):∀l:List UInt8,(nP p l= -1/\l.any p=false)\/(0<=nP p l/\nP p l<(l.length:Int))
 |[]=>.inl ⟨rfl,rfl⟩
 |b::l=>by
  have a:=Mw p l;unfold nP;by_cases h:nP p l= -1
  ·rw [aC h];have d:l.any p=false:=by rcases a with h1|h1;exact h1.2;omega
   cases c:p b
   ·left;simp [c,d]
   ·right;simp
  ·rw [aB h];right;rcases a with h1|h1
   ·exact absurd h1.1 h
   ·simp only [dD];omega
theorem Mx(p:UInt8->Bool)(b:UInt8):∀l:List UInt8,nP p (l++[b])=if p b then(l.length:Int)else nP p l
 |[]=>by simp [nP]
 |a::l=>by
  rw [Zm,nP,Mx p b l];cases c:p b
  ·simp [nP]
  ·simp
theorem wU(s:List UInt8)(c:UInt8):∀k:Nat,k<=s.length->Lib.lastIdx ⟨s.toArray⟩ (c.toNat:Int) k=nP (·==c) (s.take k)
 |0,_=>by simp [Lib.lastIdx,nP]
 |k+1,h=>by
  rw [IC s k aA0,Mx,Lib.lastIdx,wU s c k aA0];have e:(⟨s.toArray⟩:ByteArray).data[k]! =at_ s k:=by simp [at_,show k<s.length by omega]
  rw [e];by_cases a:at_ s k=c
  ·rw [aC (by rw [a]),aC (by simp [a])];simp;omega
  ·rw [aB (fun h=>a (mL.1 aA0)),aB aC3]
theorem uF(s:List UInt8)(c:UInt8):Lib.lastIndexByte ⟨s.toArray⟩ (c.toNat:Int)=nP (·==c) s:=by unfold Lib.lastIndexByte;have:=wU s c s.length (oN _);rw [Zj]at this;exact this
theorem Rs(s t:List UInt8):(Lib.cut s t).1.length<=s.length/\(Lib.cut s t).2.1.length<=s.length:=by unfold Lib.cut;split<;>simp<;>omega
theorem Es(s t:List UInt8):(Lib.trimPrefix s t).length<=s.length:=by unfold Lib.trimPrefix;split<;>simp
theorem bau(p:UInt8->Bool)(l:List UInt8):(l.dropWhile p).length<=l.length:=(tL p).length_le
theorem Kh(s t:List UInt8):(Lib.trimLeftS s t).length<=s.length:=bau _ _
theorem CQ(l:List UInt8)(i j:Int):(sub l i j).length=min (j.toNat-i.toNat) (l.length-i.toNat):=by simp [sub]
theorem sub_le(s:List UInt8)(i j:Int):(sub s i j).length<=s.length:=aD5
theorem G1{w:World}(k:Nat)(a:Array Obj):Hp w [] [] (Sort.grow (w.drewN k) a):=Hp.wK ⟨rfl,rfl,rfl,by simp [Sort.grow,World.drewN],fun k b=>by have:k<w.heap.size:=b;show(w.heap++a)[k]? =w.heap[k]?;rw [Array.getElem?_append_left this]⟩
abbrev Pce:=Int×List UInt8
abbrev Prm:=List UInt8×List UInt8×Bool
section
variable (s : List UInt8) (sep : UInt8) (f k b : Nat) (acc : List Pce)
end
open Go.Wk
def X9:List UInt8:=[45,95,46,33,126,42,39,40,41]
def CJ(k:Int):List UInt8:=if k=0 then [38,61,43,36,44,59,63,47]else if k=1 then [91,93,47,58,38,43,36]else if k=2 then [91,93,47,63,58,43,36]else []
def hasB(l:List UInt8)(c:UInt8):Bool:=l.any (·==c)
def Zp(c:UInt8)(k:Int):Bool:=sD c||jO c||hasB X9 c||hasB (CJ k) c
theorem E5(l:List UInt8)(c:UInt8):(0<=dJ (·==c) l)↔hasB l c=true:=by
 induction l with
 |nil=>simp [dJ,hasB]
 |cons b l d=>
  have h:=qE (·==c) l;unfold dJ hasB;rw [eG];by_cases a:(b==c)=true
  ·simp [a]
  ·rw [aB a];simp only [a,eH];unfold hasB at d;rw [<-d];split<;>omega
theorem Xa(l:List UInt8)(c:UInt8):decide (0<=dJ (·==c) l)=hasB l c:=by rw [fY,bE,E5]
def iU(c:UInt8):Bool:=jO c||decide (97<=(c.toNat:Int)/\(c.toNat:Int)<=102)||decide (65<=(c.toNat:Int)/\(c.toNat:Int)<=70)
section
variable (s : List UInt8) (f k : Nat) (acc : List UInt8)
end
def TO(n:Int):UInt8:=at_ [48,49,50,51,52,53,54,55,56,57,65,66,67,68,69,70] n
def escC(k:Int)(c:UInt8):List UInt8:=if Zp c k then [c]else [37,TO ((c.toNat:Int)/16),TO ((c.toNat:Int)%16)]
def uJ(s:List UInt8)(k:Int):List UInt8:=s.flatMap (escC k)
abbrev Cj(s:List UInt8):List UInt8:=s.map gX
def Kv(l:List Prm)(name:List UInt8):List UInt8×Bool:=match l.find? (fun p=>Cj p.1==Cj name)with|some p=>(p.2.1,true)|none=>([],false)
theorem Ih{α:Type}[Inhabited α](l:List α)(k:Nat)(h:k<l.length):el l (k:Int)=l[k]:=by simp [el,h]
theorem Et{α:Type}[Inhabited α](l:List α)(k:Nat)(h:k<l.length):l.take (k+1)=l.take k++[el l (k:Int)]:=by rw [List.take_succ_eq_append_getElem h,Ih l k h]
end Go.Px
def _root_.Go.Wk.bM{σ ρ:Type}(f:(σ->Option ρ)->σ->Option ρ):Nat->σ->Option ρ
 |0,_=>none
 |n+1,v=>f (Go.Wk.bM f n) v
namespace Go.Px
open Go.Wk
def cO(c:UInt8):List UInt8->List (List UInt8)
 |[]=>[[]]
 |b::l=>if b=c then []::cO c l else match cO c l with|x::r=>(b::x)::r|[]=>[[b]]
theorem PM(c:UInt8):∀l,cO c l≠[]
 |[]=>by simp [cO]
 |b::l=>by unfold cO;split;simp;split<;>simp
theorem tU(c:UInt8):∀(s:List UInt8) (k:Nat),s.count c<=k->Lib.splitK [c] 0 k s=cO c s
 |[],k,_=>by cases k<;>simp [Lib.splitK,Lib.index,cO]
 |b::l,k,h=>by
  by_cases a:b=c
  ·subst a;obtain⟨k,rfl⟩:∃j,k=j+1:=⟨k-1,by simp at h;omega⟩;have d:=tU b l k (by simp at h;omega);simp [Lib.splitK,Lib.index,cO,d]
  ·have f:(b::l).count c=l.count c:=by simp [List.count_cons,a]
   rw [f]at h;have d:=tU c l k h;unfold cO;rw [aB a,<-d];cases k with
   |zero=>simp [Lib.splitK]
   |succ k=>
    have e:Lib.index (b::l) [c]=if Lib.index l [c]== -1 then-1 else Lib.index l [c]+1:=by
     conv=>lhs;unfold Lib.index
     rw [aB (by simp;exact fun h=>a h.symm)]
    have g:=Lib.index_ge l [c];unfold Lib.splitK;rw [e];by_cases h1:Lib.index l [c]= -1
    ·simp [h1]
    ·have h2:¬(Lib.index l [c]+1)= -1:=by omega
     have h3:(Lib.index l [c]+1).toNat=(Lib.index l [c]).toNat+1:=aA0;simp [h1,h2,h3]
theorem IG(s:List UInt8)(c:UInt8):(Lib.splitB ⟨#[c]⟩ 0 (Lib.countB ⟨s.toArray⟩ ⟨#[c]⟩) ⟨s.toArray⟩).map Value.string=(cO c s).map str:=by have h:=Lib.splitB_data ⟨#[c]⟩ 0 (Lib.countB ⟨s.toArray⟩ ⟨#[c]⟩) ⟨s.toArray⟩;have e:Lib.splitK [c] 0 (Lib.countB ⟨s.toArray⟩ ⟨#[c]⟩) s=cO c s:=tU c s _ (DI (Lib.count_one c s).symm);have a:(Lib.splitB ⟨#[c]⟩ 0 (Lib.countB ⟨s.toArray⟩ ⟨#[c]⟩) ⟨s.toArray⟩).map (·.data.toList)=cO c s:=h.trans e;rw [<-a,jZ];refine List.map_congr_left fun x _=> ?_;rfl
theorem Km(s:List UInt8)(c:UInt8):Lib.countB ⟨s.toArray⟩ ⟨#[c]⟩+1=(cO c s).length:=by
 have:∀s:List UInt8,s.count c+1=(cO c s).length:=by
  intro s;induction s with
  |nil=>rfl
  |cons b l d=>
   unfold cO;by_cases a:b=c
   ·subst a;simp;omega
   ·rw [aB a];have e:(b::l).count c=l.count c:=by simp [List.count_cons,a]
    rw [e,d];split
    ·rename_i h;rw [h];simp
    ·rename_i h;exact absurd h (PM c l)
 show Lib.count s [c]+1=_;rw [Lib.count_one,this]
theorem mX(c:UInt8):∀s:List UInt8,(cO c s).length<=s.length+1/\∀x∈cO c s,x.length<=s.length
 |[]=>by simp [cO]
 |b::l=>by
  have d:=mX c l;unfold cO;split
  ·simp;exact⟨d.1,fun x hx=>by have:=d.2 x hx;omega⟩
  ·split
   ·rename_i x r h;rw [h]at d;simp at d⊢;exact⟨aA0,aA0,fun a e=>by have:=d.2.2 a e;omega⟩
   ·simp
theorem QE{w:World}(a:Addr)(b:List (List UInt8))(h:Rd w (some a) (b.map str)):∀(j:Nat) x,(b.map fun l=>(⟨l.toArray⟩:ByteArray))[j]? =some x->w.cell? (a.add j)=some (.string x):=by intro j x hx;simp only [aZ,bY]at hx;obtain⟨l,c,rfl⟩:=hx;obtain⟨p,e,d⟩:=h j (str l) (by simp [c]);cases e;exact d
theorem ZX{w:World}{p:Addr}{v:Value}(h:w.cell? p=some v):p.spot=none:=by
 unfold World.cell? at h;split at h
 ·by_cases a:p.spot.isSome=true
  ·simp [a]at h
  ·simpa using a
 ·simp at h
theorem XV(sep:List UInt8)(m:Nat):∀b:List (List UInt8),(∀x∈b,x.length<=m)->(Lib.join b sep).length<=b.length*(m+sep.length)
 |[],_=>by simp [Lib.join_nil]
 |x::r,h=>by
  rw [Lib.join_cons];have f:(Lib.joinTail sep r).length<=r.length*(m+sep.length):=by
   have a:∀y∈r,y.length<=m:=fun y c=>h y (jP _ c);clear h;induction r with
   |nil=>simp [Lib.joinTail]
   |cons y r d=>have:=d (fun z e=>a z (jP _ e));have c:=a y aA2;simp only [Lib.joinTail,gC,List.flatten_cons,Jv,dD,gY,Nat.one_mul]at*;omega
  have hx:=h x aA2;rw [Jv,dD,gY,Nat.one_mul];omega
def xT(g:List UInt8):Bool:=decide (1<=g.length)&&decide (g.length<=4)&&g.all iU
def jL(g:List UInt8):List UInt8:=if Lib.trimLeftS (Cj g) [48]=[]then [48]else Lib.trimLeftS (Cj g) [48]
theorem Xn(g:List UInt8)(h:xT g=true):(jL g).length<=4:=by
 unfold xT at h;simp only [dE,bE]at h;unfold jL;split
 ·simp
 ·have:=Kh (Cj g) [48];simp at this;omega
def xX(s:List UInt8):List (List UInt8)×Bool:=if(cO 58 s).all xT then((cO 58 s).map jL,true)else([],false)
theorem ti(s:List UInt8):(xX s).1.length<=s.length+1/\∀x∈(xX s).1,x.length<=4:=by
 have h:=mX 58 s;unfold xX;split
 ·rename_i b;refine⟨by simp;exact h.1,fun x hx=> ?_⟩;simp at hx;obtain⟨y,a,rfl⟩:=hx;exact Xn y (bH.1 b y a)
 ·simp
theorem eg{α:Type}[Inhabited α](a b:List α)(k:Nat)(h:a.length=k):el (a++b) (k:Int)=el b 0:=by subst h;simp only [el,rK,bV];rw [aK (oN _)];simp
theorem VD{α:Type}[Inhabited α](l:List α)(k:Nat):el (l.drop k) 0=el l (k:Int):=by simp [el]
def GZ(X:List (List UInt8))(k:Nat):List (List UInt8):=List.map jL (List.take k X)++List.drop k X
theorem BQ(X:List (List UInt8))(k:Nat)(h:k<=X.length):(GZ X k).length=X.length:=by simp [GZ];omega
theorem Xo(X:List (List UInt8)):GZ X 0=X:=by simp [GZ]
theorem BR(X:List (List UInt8)):GZ X X.length=X.map jL:=by simp [GZ]
theorem TX(X:List (List UInt8))(k:Nat)(v:List UInt8)(h:k<X.length)(a:v=jL (el X (k:Int))):
  GZ X (k+1)=List.set (GZ X k) (k:Int).toNat v:=by
 unfold GZ;have b:(List.map jL (List.take k X)).length=k:=aA6;rw [rK,List.set_append_right _ _ aA0,b,Dd,Et X k h,a];rw [dG h];simp only [List.map_append,gC,dP,List.append_assoc,Zm,List.nil_append,Js]
theorem cz(X:List (List UInt8))(k:Nat)(h:k<X.length):el (GZ X k) (k:Int)=el X (k:Int):=by unfold GZ;rw [eg _ _ k aA6,VD]
theorem KH(g:List UInt8)(h:Lib.trimLeftS (g.map gX) [48]=[]):[48]=jL g:=by unfold jL;rw [aC h]
theorem KJ(g:List UInt8)(h:¬Lib.trimLeftS (g.map gX) [48]=[]):Lib.trimLeftS (g.map gX) [48]=jL g:=by unfold jL;rw [aB h]
theorem Nl(g:List UInt8)(h:(g.length:Int)<1\/4<(g.length:Int)):xT g=false:=by
 unfold xT;rcases h with h|h
 ·rw [show decide (1<=g.length)=false by(rw [cH];omega)];rfl
 ·rw [show decide (g.length<=4)=false by(rw [cH];omega)];simp
theorem KG(g:List UInt8)(h:g.all iU=false):xT g=false:=by unfold xT;rw [h];simp
theorem KE(g:List UInt8)(h1:¬(g.length:Int)<1)(h2:¬4<(g.length:Int))(h:g.all iU=true):xT g=true:=by unfold xT;rw [h,show decide (1<=g.length)=true by(rw [bE];omega),show decide (g.length<=4)=true by(rw [bE];omega)];rfl
theorem Jg{α:Type}[Inhabited α](p:α->Bool)(s:List α)(k:Nat)(h:k<s.length)(b:(s.take k).all p=true)(a:p (el s (k:Int))=true):(s.take (k+1)).all p=true:=by rw [Et s k h,mN,b];simpa using a
theorem Li{α:Type}[Inhabited α](p:α->Bool)(s:List α)(k:Nat)(h:k<s.length)(a:p (el s (k:Int))=false):s.all p=false:=by rw [Bool.eq_false_iff];intro b;have:=bH.1 b (el s (k:Int)) (by simp [el,h]);rw [this]at a;cases a
theorem BS(s:List UInt8)(h:(cO 58 s).all xT=false):xX s=([],false):=by unfold xX;rw [h];rfl
theorem Xp(s:List UInt8)(h:(cO 58 s).all xT=true):xX s=((cO 58 s).map jL,true):=by unfold xX;rw [h];rfl
theorem SS(s:List UInt8)(h:s.length<=1000000000):(Lib.join (xX s).1 [58]).length<=100000000000:=by have h1:=ti s;have h2:=XV [58] 4 (xX s).1 h1.2;simp at h2;omega
def oL(x:List UInt8):List (List UInt8)×Bool:=if x=[]then([],true)else xX x
theorem KK(x:List UInt8)(h:x=[]):oL x=([],true):=by unfold oL;rw [aC h]
theorem BT(x:List UInt8)(h:¬x=[]):oL x=xX x:=by unfold oL;rw [aB h]
def Ak(s:List UInt8):List UInt8×Bool:=
 if 39<s.length then([],false)
 else if(Lib.cut s [58,58]).2.2=false then(Lib.join (xX s).1 [58],(xX s).2&&decide (((xX s).1.length:Int)=8))
 else if(!(oL (Lib.cut s [58,58]).1).2|| !(oL (Lib.cut s [58,58]).2.1).2||decide (7<((oL (Lib.cut s [58,58]).1).1.length:Int)+((oL (Lib.cut s [58,58]).2.1).1.length:Int)))=true then([],false)
 else(Lib.join (oL (Lib.cut s [58,58]).1).1 [58]++[58,58]++Lib.join (oL (Lib.cut s [58,58]).2.1).1 [58],true)
def jF(n:List UInt8):Bool:=n.all jO&& !(n==[])&&decide (tH n<=255)&&(n==Lib.itoa (tH n:Int))
def jG(s:List UInt8):Bool:=decide (s.length<=15)&&(cO 46 s).all jF&&decide ((cO 46 s).length=4)
theorem Mj(n:List UInt8)(h:n.all jO=false):jF n=false:=by unfold jF;rw [h];rfl
theorem lF(n:List UInt8)(h:(n=[]\/255<(tH n:Int))\/¬n=Lib.itoa (tH n:Int)):jF n=false:=by
 unfold jF;rcases h with(h|h)|h
 ·subst h;rfl
 ·rw [show decide (tH n<=255)=false by(rw [cH];omega)];simp
 ·rw [show(n==Lib.itoa (tH n:Int))=false by simpa using h];simp
theorem JF(n:List UInt8)(h:n.all jO=true)(h1:¬n=[])(h2:¬255<(tH n:Int))(h3:n=Lib.itoa (tH n:Int)):jF n=true:=by unfold jF;rw [h,show decide (tH n<=255)=true by(rw [bE];omega),show(n==Lib.itoa (tH n:Int))=true by rw [beq_iff_eq];exact h3,show(n==[])=false by simpa using h1];rfl
theorem BB(s:List UInt8)(h:15<(s.length:Int)):jG s=false:=by unfold jG;rw [show decide (s.length<=15)=false by(rw [cH];omega)];rfl
theorem RR(s:List UInt8)(h:(cO 46 s).all jF=false):jG s=false:=by unfold jG;rw [h];simp
theorem JG(s:List UInt8)(a:¬15<(s.length:Int))(h:(cO 46 s).all jF=true):jG s=decide (((cO 46 s).length:Int)=4):=by unfold jG;rw [h,show decide (s.length<=15)=true by(rw [bE];omega)];rw [fY];simp;omega
theorem Rm{α:Type}[Inhabited α](l:List α)(k:Nat)(h:k<l.length):el l (k:Int)∈l:=by rw [Ih l k h];exact vB h
end Go.Px
namespace Go.Wk
open Go.Px
open Go.Value renaming slice → Vs, int → Vi, bool → Vb, pointer → Vp
def Aa(x:(aA×Int)):List Value:=[(str x.1),(Vi .i64 x.2)]
def dL(x:((List (aA×aA))×(List UInt8))×(PA×PA)):List Value:=[(Vs x.2.1.2.1 x.1.1.length x.2.1.2.2),(Vs x.2.2.2.1 x.1.2.length x.2.2.2.2)]
theorem Jk:oV dL 2:=⟨fun _=>rfl,fun x v h=>by simp only [dL,aN,jY,or_false]at h;rcases h with h|h<;>subst h<;>rfl⟩
def fS(x:(aA×aA)):List Value:=[(str x.1),(str x.2)]
theorem MR:oV fS 2:=⟨fun _=>rfl,fun x v h=>by simp only [fS,aN,jY,or_false]at h;rcases h with h|h<;>subst h<;>rfl⟩
def eE(x:((List (aA×aA))×(List UInt8))×(PA×PA)):List bX:=[xK fS x.2.1.1 x.2.1.2.1 x.2.1.2.2 x.1.1,xK eB x.2.2.1 x.2.2.2.1 x.2.2.2.2 x.1.2]
theorem MT{w0 w:World}{S:List Nat}{L:List bX}{g:Nat->(PA×PA)}{l:List ((List (aA×aA))×(List UInt8))}(h:Hp w0 S L w)(a:∀r∈gI eE g l,r∈L)(i:Int)(c:0<=i/\i<(l.length:Int)):(Rd w (g (Int.toNat i)).1.2.1 (List.flatMap fS ((el l i).1))/\((el l i).1).length<=(g (Int.toNat i)).1.2.2/\((g (Int.toNat i)).1.2.1=none->(g (Int.toNat i)).1.2.2=0))/\(Rd w (g (Int.toNat i)).2.2.1 (List.flatMap eB ((el l i).2))/\((el l i).2).length<=(g (Int.toNat i)).2.2.2/\((g (Int.toNat i)).2.2.1=none->(g (Int.toNat i)).2.2.2=0)):=by have key:∀r∈eE (el l i,g (Int.toNat i)),r.holds w:=fun r b=>(h.res _ (a _ (di eE g l i c _ b))).1;unfold eE at key;exact⟨UG (key _ (.head _)),UG (key _ (.tail _ (.head _)))⟩
def dF(x:(Int×aA)):List Value:=[(Vi .i64 x.1),(str x.2)]
theorem fy:oV dF 2:=⟨fun _=>rfl,fun x v h=>by simp only [dF,aN,jY,or_false]at h;rcases h with h|h<;>subst h<;>rfl⟩
def dY(x:PQ):List Value:=[(str x.1),(str x.2.1),(Vb x.2.2)]
theorem kq:oV dY 3:=⟨fun _=>rfl,fun x v h=>by simp only [dY,aN,jY,or_false]at h;rcases h with h|h|h<;>subst h<;>rfl⟩
def YA:List aA:=[[67,97,108,108,45,73,68],[67,83,101,113],[77,73,77,69,45,86,101,114,115,105,111,110],[77,105,110,45,83,69],[82,65,99,107],[82,83,101,113],[87,87,87,45,65,117,116,104,101,110,116,105,99,97,116,101]]
def Kd:List (aA×Int):=[([70,114,111,109],1),([84,111],1),([67,111,110,116,97,99,116],1),([82,111,117,116,101],1),([82,101,99,111,114,100,45,82,111,117,116,101],1),([80,97,116,104],1),([83,101,114,118,105,99,101,45,82,111,117,116,101],1),([82,101,102,101,114,45,84,111],1),([82,101,102,101,114,114,101,100,45,66,121],1),([82,101,112,108,121,45,84,111],1),([86,105,97],2),([67,83,101,113],3),([82,65,99,107],4),([67,111,110,116,101,110,116,45,76,101,110,103,116,104],5),([69,120,112,105,114,101,115],5),([77,97,120,45,70,111,114,119,97,114,100,115],5),([77,105,110,45,69,120,112,105,114,101,115],5),([82,83,101,113],5),([67,111,110,116,101,110,116,45,68,105,115,112,111,115,105,116,105,111,110],6),([67,111,110,116,101,110,116,45,84,121,112,101],6),([69,118,101,110,116],6),([77,105,110,45,83,69],6),([83,101,115,115,105,111,110,45,69,120,112,105,114,101,115],6),([83,117,98,115,99,114,105,112,116,105,111,110,45,83,116,97,116,101],6),([65,99,99,101,112,116],7),([65,108,108,111,119],7),([65,108,108,111,119,45,69,118,101,110,116,115],7),([80,114,111,120,121,45,82,101,113,117,105,114,101],7),([82,101,113,117,105,114,101],7),([83,117,112,112,111,114,116,101,100],7),([85,110,115,117,112,112,111,114,116,101,100],7)]
def XZ:List aA:=[[38,61,43,36,44,59,63,47],[91,93,47,58,38,43,36],[91,93,47,63,58,43,36]]
end Go.Wk
namespace Go.Ce
open Go.Wk
open Nat renaming beq → cP, succ → mG
open UInt8 renaming ofNat → rO
noncomputable def bi{α:Type}(c:Bool)(x y:α):α:=Bool.rec y x c
noncomputable def ob{α a:Type}(x:Option α)(f:α->Option a):Option a:=Option.rec none f x
inductive Pk where
 |h
 |o (p:Pk)
 |i (p:Pk)
noncomputable def iv(f:Nat):Nat->Pk:=
 Nat.rec (fun _=>.h) (fun _ r k=>bi (cP k (nat_lit 0)) .h (bi (cP (Nat.mod k (nat_lit 2)) (nat_lit 1)) (.i (r (Nat.div k (nat_lit 2)))) (.o (r (Nat.sub (Nat.div k (nat_lit 2)) (nat_lit 1)))))) f
noncomputable def pk(k:Nat):Pk:=iv (mG k) k
inductive Tr (α:Type) where
 |e
 |n (l:Tr α) (v:Option α) (r:Tr α)
noncomputable def Tr.L{α:Type}(t:Tr α):Tr α:=Tr.rec .e (fun l _ _ _ _=>l) t
noncomputable def Tr.V{α:Type}(t:Tr α):Option α:=Tr.rec none (fun _ v _ _ _=>v) t
noncomputable def Tr.R{α:Type}(t:Tr α):Tr α:=Tr.rec .e (fun _ _ r _ _=>r) t
noncomputable def Tr.Kv{α:Type}(p:Pk):Tr α->Option α:=Pk.rec Tr.V (fun _ g t=>g t.R) (fun _ g t=>g t.L) p
noncomputable def Tr.PY{α:Type}(x:α)(p:Pk):Tr α->Tr α:=Pk.rec (fun t=>.n t.L (some x) t.R) (fun _ s t=>.n t.L t.V (s t.R)) (fun _ s t=>.n (s t.L) t.V t.R) p
noncomputable def Tr.get{α:Type}(t:Tr α)(k:Nat):Option α:=Tr.Kv (pk k) t
noncomputable def Tr.set{α:Type}(t:Tr α)(k:Nat)(x:α):Tr α:=Tr.PY x (pk k) t
def dec:Nat->Nat->List UInt8
 |0,_=>[]
 |l+1,x=>rO (x%256)::dec l (x/256)
inductive Cp where
 |k (c:Nat)
 |r (off:Nat)
inductive SC where
 |b (x:Bool)
 |i (k:IntKind) (n:Nat)
 |s (l x:Nat)
 |np
 |ns
 |nf
 |ni
 |nm
 |p (i off:Nat)
 |g (i off:Nat)
 |sl (i base n:Nat) (c:Cp)
 |fn (f:Nat) (cs:List Nat)
 |y (i:Nat)
 |m (i:Nat)
 |z (i base d off:Nat)
inductive SA where
 |c (x:SC)
 |a (l:List SC)
inductive SV where
 |c (x:SC)
 |a (l:List SC)
 |t (l:List SA)
 |u
inductive Mo where
 |ex
 |rw (sz m:Nat)
 |bw
 |fb
inductive HB where
 |cl (t:Nat) (md:Mo) (xs:List SC)
 |it (l x pos:Nat)
 |lp (busy:Bool) (j k:Nat) (ps:List Nat) (asg body:Code) (F:Tr SV)
 |df
 |gn
 |mp (es:List (SC×SC))
structure Hs where
 nx:Nat
 t:Tr HB
structure T where
 F:Tr SV
 H:Hs
 D:Option Nat
structure M where
 n:Nat
 m:Option (Option Nat)
structure Cx where
 P:Program
 G:Nat->Option (List SC)
 X:Nat->Option (List SV->Hs->Option (SV×Hs))
 pure:Nat->Bool
 V:Nat->Bool
noncomputable def SV.cells:SV->Option (List SC):=SV.rec (fun x=>some [x]) some (fun _=>none) none
noncomputable def km:IntKind->Nat:=IntKind.rec (nat_lit 256) (nat_lit 65536) (nat_lit 4294967296) (nat_lit 18446744073709551616) (nat_lit 256) (nat_lit 65536) (nat_lit 4294967296) (nat_lit 18446744073709551616)
noncomputable def kh:IntKind->Nat:=IntKind.rec (nat_lit 128) (nat_lit 32768) (nat_lit 2147483648) (nat_lit 9223372036854775808) (nat_lit 256) (nat_lit 65536) (nat_lit 4294967296) (nat_lit 18446744073709551616)
noncomputable def ures(k:IntKind)(m:Nat):Int:=bi (Nat.ble (kh k) m) (.negSucc (Nat.sub (Nat.sub (km k) (nat_lit 1)) m)) (.ofNat m)
noncomputable def SC.v:SC->Option Value
 |.b x=>some (.bool x)
 |.i k n=>some (.int k (ures k (Nat.mod n (km k))))
 |.s l x=>some (str (dec l x))
 |.np=>some (.pointer none)
 |.ns=>some (.slice none 0 0)
 |.nf=>some .nilFunc
 |.ni=>some .nilIface
 |_=>none
noncomputable def vcs:List SC->Option (List Value)
 |[]=>some []
 |x::l=>ob x.v fun v=>ob (vcs l) fun a=>some (v::a)
noncomputable def SV.v:SV->Option Value
 |.c x=>x.v
 |.a l=>ob (vcs l) fun b=>some (.agg b.toArray)
 |_=>none
section
variable (C : Cx)
end
section
variable (C : Cx) (m : M) (S : T)
noncomputable def only{α:Type}(l:List α):Option α:=List.rec none (fun x a _=>bi a.isEmpty (some x) none) l
end
section
variable (C : Cx) (m : M) (S : T)
end
section
variable (C : Cx)
end
end Go.Ce
namespace Go.Oe
open Go.Wk
open Go.Ce (Tr)
open Go.IntKind renaming wrap → bN
open Go.Op renaming bytesLess → nZ
open Int renaming toNat → aR
open List renaming drop → bK, replicate → hC, set → eA, take → kO
open Nat renaming beq → cP, blt → fC, succ → mG
open Sum renaming elim → eF
open UInt8 renaming ofNat → rO
noncomputable section
inductive Ty where
 |i' (k:IntKind)
 |c'
 |s'
 |b'
 |u'
 |w' (x:Ty)
 |pr (x y:Ty)
 |sm (x y:Ty)
 |l' (e by_:Nat) (x:Ty)
 |y'
 |r' (x:Ty)
 |p' (e:Nat) (x:Ty)
 |z'
 |o' (j:Nat)
 |f' (k:Nat) (x:Ty)
@[reducible] def Ty.T:Ty->Type
 |.i' _=>Int
 |.c'=>UInt8
 |.s'=>aA
 |.b'=>Bool
 |.u'=>Unit
 |.w' x=>x.T
 |.pr x y=>x.T×y.T
 |.sm x y=>x.T⊕y.T
 |.l' _ _ x=>List x.T
 |.y'=>aA
 |.r' x=>List x.T
 |.p' _ x=>x.T
 |.z'=>Unit
 |.o' _=>Unit
 |.f' _ x=>x.T
def kN:IntKind->Nat
 |.i8=>0
 |.i16=>1
 |.i32=>2
 |.i64=>3
 |.u8=>4
 |.u16=>5
 |.u32=>6
 |.u64=>7
def BH(a b:IntKind):Bool:=cP (kN a) (kN b)
def Ty.Zq:Ty->Ty->Bool
 |.i' k,.i' k'=>BH k k'
 |.c',.c'=>true
 |.s',.s'=>true
 |.b',.b'=>true
 |.u',.u'=>true
 |.w' x,.w' a=>x.Zq a
 |.pr x y,.pr c b=>bif x.Zq c then y.Zq b else false
 |.sm x y,.sm c b=>bif x.Zq c then y.Zq b else false
 |.l' e h x,.l' d f a=>bif cP e d then bif cP h f then x.Zq a else false else false
 |.y',.y'=>true
 |.r' x,.r' a=>x.Zq a
 |.p' e x,.p' d a=>bif cP e d then x.Zq a else false
 |.z',.z'=>true
 |.o' j,.o' j'=>cP j j'
 |.f' k x,.f' k' a=>bif cP k k' then x.Zq a else false
 |_,_=>false
theorem gJ{a b:Bool}(h:(bif a then b else false)=true):a=true/\b=true:=by cases a<;>cases b<;>simp_all
theorem kT{a b:IntKind}(h:BH a b=true):a=b:=by revert h;cases a<;>cases b<;>first|(intro _;rfl)|(intro h;exact absurd h aA3)
theorem Ty.iM:∀{a b:Ty},a.Zq b=true->a=b:=by
 intro a;induction a with
 |i' k=>intro b h;cases b with
  |i' k'=>rw [kT h]
  |_=>cases h
 |w' x c=>intro b h;cases b with
  |w' y=>rw [c h]
  |_=>cases h
 |pr x y c d=>intro b h;cases b with
  |pr i g=>have h:=gJ h;rw [c h.1,d h.2]
  |_=>cases h
 |sm x y c d=>intro b h;cases b with
  |sm i g=>have h:=gJ h;rw [c h.1,d h.2]
  |_=>cases h
 |l' e l x c=>intro b h;cases b with
  |l' e' b' y=>have h:=gJ h;have f:=gJ h.2;rw [c f.2,gP h.1,gP f.1]
  |_=>cases h
 |r' x c=>intro b h;cases b with
  |r' y=>rw [c h]
  |_=>cases h
 |p' e x c=>intro b h;cases b with
  |p' e' y=>have h:=gJ h;rw [c h.2,gP h.1]
  |_=>cases h
 |o' j=>intro b h;cases b with
  |o' k=>rw [gP h]
  |_=>cases h
 |f' k x c=>intro b h;cases b with
  |f' k' y=>have h:=gJ h;rw [c h.2,gP h.1]
  |_=>cases h
 |_=>intro b h;cases b<;>first|rfl|cases h
def Yn{a b:Ty}(h:a.Zq b=true)(l:List a.T):List b.T:=(Ty.iM h)▸l
@[reducible] def fP:List Ty->Ty
 |[]=>.u'
 |[x]=>x
 |x::y::l=>.pr x (fP (y::l))
def Ty.flat:Ty->Bool
 |.i' _=>true
 |.c'=>true
 |.s'=>true
 |.b'=>true
 |.w' x=>x.flat
 |.pr x y=>bif x.flat then y.flat else false
 |_=>false
def Ty.sz:Ty->Nat
 |.w' x=>x.sz
 |.pr x y=>x.sz+y.sz
 |_=>1
def Ty.enc:(t:Ty)->t.T->List Value
 |.i' k,n=>[.int k n]
 |.c',x=>[bt x]
 |.s',x=>[str x]
 |.b',x=>[.bool x]
 |.w' t,x=>t.enc x
 |.pr a b,x=>a.enc x.1++b.enc x.2
 |_,_=>[]
def Ty.agg:Ty->Bool
 |.w' _=>true
 |.pr _ _=>true
 |_=>false
inductive SC where
 |i' (k:IntKind) (n:Int)
 |c' (x:UInt8)
 |s' (x:aA)
 |b' (x:Bool)
 |d' (p:Prop) (h:Decidable p)
 |e' (p:Prop) (h:Decidable p)
 |o' (j:Nat)
 |n'
 |p' (id off:Nat)
 |q' (id:Nat) (j:Int) (sz off:Nat)
 |l' (id:Nat)
 |k' (id n:Nat)
 |f' (k:Nat) (ids:List Nat)
 |z' (id fl:Nat)
 |u'
inductive SA where
 |c' (x:SC)
 |a' (l:List SC)
inductive SV where
 |c' (x:SC)
 |a' (l:List SC)
 |t' (l:List SA)
 |n'
 |u'
inductive Ob where
 |bl (e:Nat) (cs:List SC)
 |rw (e by_:Nat) (t:Ty) (l:List t.T)
 |ro (t:Ty) (l:List t.T)
 |br (n:Nat) (l:aA)
 |dd (n:Nat)
structure Ad where
 o:Option Nat
 a:Option Addr
 cap:Nat
 z:Bool
 ln:Nat
def Ad.b(d:Ad):Nat:=d.o.getD 0
def Ob.len:Ob->Nat
 |.rw _ _ _ l=>l.length
 |.ro _ l=>l.length
 |.br n _=>n
 |.dd n=>n
 |_=>0
def eK{α:Type}:List α->Nat->Option α
 |[],_=>none
 |x::l,k=>match k with
  |0=>some x
  |k+1=>eK l k
def eY(H:List Ob)(id:Nat):Nat:=match eK H id with
 |some o=>o.len
 |none=>0
def B7:Nat->Value
 |0=>.pointer none
 |1=>.nilFunc
 |_=>.nilIface
def gM(b off:Nat):Value:=.pointer (some ⟨b,off,none⟩)
def SC.v(ρ:Nat->Ad):SC->Value
 |.i' k n=>.int k n
 |.c' x=>bt x
 |.s' x=>str x
 |.b' x=>.bool x
 |.d' p h=>.bool (@decide p h)
 |.e' p h=>.bool (!@decide p h)
 |.o' j=>B7 j
 |.n'=>.slice none 0 0
 |.p' id off=>gM (ρ id).b off
 |.q' id j sz off=>.pointer (some (ea (ρ id).a (j.toNat*sz+off)))
 |.l' id=>.slice (ρ id).a (ρ id).ln (ρ id).cap
 |.k' id n=>.slice (some ⟨(ρ id).b,0,none⟩) n n
 |.f' k ids=>.func (.func k) #[] (ids.map fun id=>gM (ρ id).b 0).toArray
 |.z' id c=>.pointer (bif (ρ c).z then some ⟨(ρ id).b,0,none⟩else none)
 |.u'=>.bool false
def SC.kn:SC->Bool
 |.u'=>false
 |_=>true
def knL:List SC->Bool
 |[]=>true
 |x::l=>bif x.kn then knL l else false
def SA.v(ρ:Nat->Ad):SA->Value
 |.c' x=>x.v ρ
 |.a' l=>.agg (l.map (SC.v ρ)).toArray
def SV.v(ρ:Nat->Ad):SV->Option Value
 |.c' x=>some (x.v ρ)
 |.a' l=>some (.agg (l.map (SC.v ρ)).toArray)
 |.t' l=>some (.tuple (l.map (SA.v ρ)).toArray)
 |.n'=>some undef
 |.u'=>none
def SA.sv:SA->SV
 |.c' x=>.c' x
 |.a' l=>.a' l
def SV.cells:SV->Option (List SC)
 |.c' x=>some [x]
 |.a' l=>some l
 |_=>none
def SV.sa:SV->Option SA
 |.c' x=>some (.c' x)
 |.a' l=>some (.a' l)
 |_=>none
def Ty.sv(t:Ty)(cs:List SC):SV:=bif t.agg then .a' cs else match cs with
 |[x]=>.c' x
 |_=>.u'
def Ty.sa(t:Ty)(cs:List SC):SA:=bif t.agg then .a' cs else match cs with
 |[x]=>.c' x
 |_=>.a' cs
def iT:List SC->List Nat
 |[]=>[]
 |x::l=>match x with
  |.p' id _=>id::iT l
  |_=>iT l
def Ty.no:Ty->Nat
 |.w' x=>x.no
 |.pr x y=>x.no+y.no
 |.l' _ _ _=>1
 |.y'=>1
 |.r' _=>1
 |.p' _ x=>x.no+1
 |.z'=>1
 |.f' _ x=>x.no
 |_=>0
def Ty.lay:(t:Ty)->(self n:Nat)->t.T->List SC×List Ob
 |.i' k,_,_,x=>([.i' k x],[])
 |.c',_,_,x=>([.c' x],[])
 |.s',_,_,x=>([.s' x],[])
 |.b',_,_,x=>([.b' x],[])
 |.u',_,_,_=>([],[])
 |.w' t,s,n,x=>t.lay s n x
 |.pr a b,s,n,x=>((a.lay s n x.1).1++(b.lay s (n+a.no) x.2).1,(a.lay s n x.1).2++(b.lay s (n+a.no) x.2).2)
 |.sm _ _,_,_,_=>([],[])
 |.l' e b t,_,n,x=>([.l' n],[.rw e b t x])
 |.y',_,n,x=>([.l' n],[.br x.length x])
 |.r' t,_,n,x=>([.l' n],[.ro t x])
 |.p' e t,_,n,x=>([.p' n 0],.bl e (t.lay n (n+1) x).1::(t.lay n (n+1) x).2)
 |.z',s,n,_=>([.z' s n],[.dd 0])
 |.o' j,_,_,_=>([.o' j],[])
 |.f' k t,s,n,x=>([.f' k (iT (t.lay s n x).1)],(t.lay s n x).2)
inductive Src where
 |o' (id:Nat) (w:Bool)
 |n'
 |k' (id m:Nat) (w:Bool)
 |z' (t:Bool)
def Src.own:Src->List Nat
 |.o' id w=>bif w then [id]else []
 |.k' id _ w=>bif w then [id]else []
 |_=>[]
def Src.ja:Src->List Nat
 |.o' id w=>bif w then []else [id]
 |.k' id _ w=>bif w then []else [id]
 |_=>[]
def R3{α:Type}(f:SC->Option α):List SC->Option (α×List SC×List Src)
 |[]=>none
 |x::l=>match f x with
  |some y=>some (y,l,[])
  |none=>none
def SC.rI(k:IntKind):SC->Option Int
 |.i' a n=>bif BH k a then some n else none
 |_=>none
def SC.rC:SC->Option UInt8
 |.c' x=>some x
 |_=>none
def SC.rS:SC->Option aA
 |.s' x=>some x
 |_=>none
def SC.rB:SC->Option Bool
 |.b' x=>some x
 |.d' p h=>some (@decide p h)
 |.e' p h=>some (!@decide p h)
 |_=>none
def Ty.Vj:(t:Ty)->List SC->Option (t.T×List SC)
 |.i' k,l=>match l with
  |x::l=>match x.rI k with
   |some y=>some (y,l)
   |none=>none
  |[]=>none
 |.c',l=>match l with
  |x::l=>match x.rC with
   |some y=>some (y,l)
   |none=>none
  |[]=>none
 |.s',l=>match l with
  |x::l=>match x.rS with
   |some y=>some (y,l)
   |none=>none
  |[]=>none
 |.b',l=>match l with
  |x::l=>match x.rB with
   |some y=>some (y,l)
   |none=>none
  |[]=>none
 |.w' t,l=>t.Vj l
 |.pr a b,l=>match a.Vj l with
  |some (x,d)=>match b.Vj d with
   |some (y,c)=>some ((x,y),c)
   |none=>none
  |none=>none
 |_,_=>none
def oC(t:Ty):Nat->List SC->Option (List t.T)
 |0,l=>match l with
  |[]=>some []
  |_=>none
 |m+1,l=>match t.Vj l with
  |some (x,a)=>match oC t m a with
   |some q=>some (x::q)
   |none=>none
  |none=>none
def rowOf(t:Ty)(o:Option Ob):Option (List t.T):=match o with
 |some (.rw _ _ t' l)=>if h:t'.Zq t=true then some (Yn h l)else none
 |_=>none
def strOf(t:Ty)(l:aA):Option (List t.T):=if h:Ty.c'.Zq t=true then some (Yn h l)else none
def tG(t:Ty)(o:Option Ob):Option (List t.T):=match o with
 |some (.rw _ _ t' l)=>if h:t'.Zq t=true then some (Yn h l)else none
 |some (.ro t' l)=>if h:t'.Zq t=true then some (Yn h l)else none
 |some (.br _ l)=>strOf t l
 |_=>none
def QF(t:Ty)(o:Option Ob):Option (List t.T):=match o with
 |some (.ro t' l)=>if h:t'.Zq t=true then some (Yn h l)else none
 |_=>none
def yi:Option Ob->Option (Nat×Nat)
 |some (.rw e b _ _)=>some (e,b)
 |_=>none
def Ty.tz:Ty->Bool
 |.w' x=>x.tz
 |.pr x y=>bif x.tz then true else y.tz
 |.z'=>true
 |.f' _ x=>x.tz
 |_=>false
def Ty.QV:Ty->Bool
 |.u'=>true
 |.p' _ _=>true
 |.pr x y=>bif x.QV then y.QV else false
 |_=>false
def Ty.rd(any:Bool)(H:List Ob):(t:Ty)->(self:Nat)->List SC->Option (t.T×List SC×List Src)
 |.i' k,_,l=>R3 (SC.rI k) l
 |.c',_,l=>R3 SC.rC l
 |.s',_,l=>R3 SC.rS l
 |.b',_,l=>R3 SC.rB l
 |.u',_,l=>some ((),l,[])
 |.w' t,s,l=>t.rd any H s l
 |.pr a b,s,l=>match a.rd any H s l with
  |some (x,i,g)=>match b.rd any H s i with
   |some (y,h,f)=>some ((x,y),h,g++f)
   |none=>none
  |none=>none
 |.sm _ _,_,_=>none
 |.l' e b t,_,l=>match l with
  |.n'::l=>some ([],l,[.n'])
  |.l' id::l=>match yi (eK H id)with
   |some q=>bif cP q.1 e then(bif cP q.2 b then(match rowOf t (eK H id)with
    |some x=>some (x,l,[.o' id true])
    |none=>none)else none)else none
   |none=>none
  |.k' id m::l=>match eK H id with
   |some (.bl e' cs)=>bif cP e' e then(bif t.flat then(bif Nat.ble m 1048576 then(match oC t m cs with
    |some x=>some (x,l,[.k' id m true])
    |none=>none)else none)else none)else none
   |_=>none
  |_=>none
 |.y',_,l=>match l with
  |.l' id::l=>match eK H id with
   |some (.br _ x)=>some (x,l,[.o' id true])
   |_=>none
  |_=>none
 |.r' t,_,l=>match l with
  |.n'::l=>some ([],l,[.n'])
  |.l' id::l=>match(bif any then tG t (eK H id)else QF t (eK H id))with
   |some x=>some (x,l,[.o' id false])
   |none=>none
  |.k' id m::l=>match(bif any then eK H id else none)with
   |some (.bl _ cs)=>match oC t m cs with
    |some x=>some (x,l,[.k' id m false])
    |none=>none
   |_=>none
  |_=>none
 |.p' e t,_,l=>match l with
  |.p' id off::l=>match eK H id with
   |some (.bl e' cs)=>bif cP off 0 then(bif cP e' e then(match t.rd any H id cs with
    |some (x,[],ss)=>some (x,l,.o' id true::ss)
    |_=>none)else none)else none
   |_=>none
  |_=>none
 |.z',s,l=>match l with
  |.o' j::l=>bif cP j 0 then some ((),l,[.z' false])else none
  |.p' id off::l=>bif cP off 0 then(bif cP id s then some ((),l,[.z' true])else none)else none
  |.z' id d::l=>bif cP id s then(match eK H d with
   |some (.dd 0)=>some ((),l,[.o' d false])
   |_=>none)else none
  |_=>none
 |.o' j,_,l=>match l with
  |.o' j'::l=>bif cP j j' then some ((),l,[])else none
  |_=>none
 |.f' k t,s,l=>match l with
  |.f' k' c::l=>bif cP k k' then(match(bif t.QV then t.rd any H s (c.map fun id=>.p' id 0)else none)with
   |some (x,[],ss)=>some (x,l,ss)
   |_=>none)else none
  |_=>none
def Ty.cn:Ty->Nat
 |.u'=>0
 |.w' x=>x.cn
 |.pr x y=>x.cn+y.cn
 |.sm _ _=>0
 |_=>1
def wS{α:Type}:List α->Nat->List α
 |[],_=>[]
 |x::l,k=>match k with
  |0=>x::l
  |k+1=>wS l k
def wP{α:Type}:List α->Nat->Option (List α)
 |_,0=>some []
 |[],_+1=>none
 |x::l,k+1=>match wP l k with
  |some q=>some (x::q)
  |none=>none
def gU{α:Type}:List α->Nat->α->List α
 |[],_,_=>[]
 |x::l,k,y=>match k with
  |0=>y::l
  |k+1=>x::gU l k y
def sN:List SC->Nat->List SC->Option (List SC)
 |l,0,[]=>some l
 |_::l,0,v::a=>match sN l 0 a with
  |some q=>some (v::q)
  |none=>none
 |x::l,k+1,a=>match sN l k a with
  |some q=>some (x::q)
  |none=>none
 |[],_,_=>none
def Pz(l:List SC)(k:Nat)(vs:List SC):List SC:=match sN l k vs with
 |some q=>q
 |none=>l
inductive Key where
 |s' (t:Nat) (x:Ty)
 |o' (t off:Nat) (x:Ty)
 |w' (t:Nat) (x:Ty)
def Key.ty:Key->Ty
 |.s' _ x=>x
 |.o' _ _ x=>x
 |.w' _ x=>x
abbrev lR(l:List Key):Ty:=fP (l.map Key.ty)
def P2(H:List Ob)(id:Nat):(x:Ty)->Option x.T
 |.l' e b t=>match yi (eK H id)with
  |some q=>bif cP q.1 e then(bif cP q.2 b then rowOf t (eK H id)else none)else none
  |none=>none
 |.y'=>match eK H id with
  |some (.br _ x)=>some x
  |_=>none
 |_=>none
def Kx{α:Type}:Option (α×List SC×List Src)->Option (α×List Src)
 |some (x,[],ss)=>some (x,ss)
 |_=>none
def IS(any:Bool)(H:List Ob)(x:Ty):SV->Option (x.T×List Src)
 |.c' c=>bif x.tz then none else(bif x.agg then none else Kx (x.rd any H 0 [c]))
 |.a' l=>bif x.tz then none else(bif x.agg then Kx (x.rd any H 0 l)else none)
 |_=>none
def oz(H:List Ob)(id off:Nat)(x:Ty):Option (x.T×List Src):=match eK H id with
 |some (.bl _ cs)=>match wP (wS cs off) x.cn with
  |some q=>Kx (x.rd false H id q)
  |none=>none
 |_=>none
def yj(H:List Ob)(id:Nat)(x:Ty):Option (x.T×List Src):=match P2 H id x with
 |some y=>some (y,[])
 |none=>none
def Key.rd(ix:Nat->Nat)(F:Nat->SV)(H:List Ob):(k:Key)->Option (k.ty.T×List Src)
 |.s' t x=>IS false H x (F t)
 |.o' t off x=>oz H (ix t) off x
 |.w' t x=>yj H (ix t) x
def yk(ix:Nat->Nat)(F:Nat->SV)(H:List Ob):(l:List Key)->Option ((lR l).T×List Src)
 |[]=>some ((),[])
 |[k]=>k.rd ix F H
 |k::c::l=>match k.rd ix F H with
  |some (x,b)=>match yk ix F H (c::l)with
   |some (y,a)=>some ((x,y),b++a)
   |none=>none
  |none=>none
def YU(n:Nat):(x:Ty)->x.T->Option Ob
 |.l' e b t,v=>some (.rw e b t v)
 |.y',v=>some (.br n v)
 |_,_=>none
abbrev Fr:=Tr SV×List Ob
def ae(F:Tr SV)(H:List Ob)(t:Nat)(x:Ty)(v:x.T):Fr:=(F.set t (x.sv (x.lay 0 H.length v).1),H++(x.lay 0 H.length v).2)
def QS(H:List Ob)(id off:Nat)(x:Ty)(v:x.T):List Ob:=match eK H id with
 |some (.bl e cs)=>gU H id (.bl e (Pz cs off (x.lay id H.length v).1))++(x.lay id H.length v).2
 |_=>H++(x.lay id H.length v).2
def oQ(H:List Ob)(id:Nat)(x:Ty)(v:x.T):List Ob:=match YU (eY H id) x v with
 |some o=>gU H id o
 |none=>H
def Key.put(ix:Nat->Nat)(S:Fr):(k:Key)->k.ty.T->Fr
 |.s' t x,v=>ae S.1 S.2 t x v
 |.o' t off x,v=>(S.1,QS S.2 (ix t) off x v)
 |.w' t x,v=>(S.1,oQ S.2 (ix t) x v)
def Cg(ix:Nat->Nat)(S:Fr):(l:List Key)->(lR l).T->Fr
 |[],_=>S
 |[k],v=>k.put ix S v
 |k::a::l,v=>Cg ix (k.put ix S v.1) (a::l) v.2
inductive Rk where
 |r' (x:Ty)
 |o' (id e:Nat) (x:Ty)
 |w' (id:Nat) (x:Ty)
def Rk.ty:Rk->Ty
 |.r' x=>x
 |.o' _ _ x=>x
 |.w' _ x=>x
abbrev fM(l:List Rk):Ty:=fP (l.map Rk.ty)
def rdO(H:List Ob)(id e:Nat)(x:Ty):Option (x.T×List Src):=match eK H id with
 |some (.bl a cs)=>bif cP a e then Kx (x.rd false H id cs)else none
 |_=>none
def Rk.rd(H:List Ob):(k:Rk)->List SV->Option (k.ty.T×List Src×List SV)
 |.r' x,a=>match a with
  |v::a=>match IS false H x v with
   |some (x,ss)=>some (x,ss,a)
   |none=>none
  |[]=>none
 |.o' id e x,a=>match rdO H id e x with
  |some (x,ss)=>some (x,ss,a)
  |none=>none
 |.w' id x,a=>match yj H id x with
  |some (x,ss)=>some (x,ss,a)
  |none=>none
def oy(H:List Ob):(l:List Rk)->List SV->Option ((fM l).T×List Src)
 |[],a=>match a with
  |[]=>some ((),[])
  |_=>none
 |[k],a=>match k.rd H a with
  |some (x,ss,[])=>some (x,ss)
  |_=>none
 |k::d::l,a=>match k.rd H a with
  |some (x,c,a)=>match oy H (d::l) a with
   |some (y,b)=>some ((x,y),c++b)
   |none=>none
  |none=>none
def putO(H:List Ob)(id e:Nat)(x:Ty)(v:x.T):List Ob:=gU H id (.bl e (x.lay id H.length v).1)++(x.lay id H.length v).2
def Rk.put(ix:Nat->Nat)(S:List SA×List Ob):(k:Rk)->k.ty.T->List SA×List Ob
 |.r' x,v=>(S.1++[x.sa (x.lay 0 S.2.length v).1],S.2++(x.lay 0 S.2.length v).2)
 |.o' id e x,v=>(S.1,putO S.2 (ix id) e x v)
 |.w' id x,v=>(S.1,oQ S.2 (ix id) x v)
def eT(ix:Nat->Nat)(S:List SA×List Ob):(l:List Rk)->(fM l).T->List SA×List Ob
 |[],_=>S
 |[k],v=>k.put ix S v
 |k::a::l,v=>eT ix (k.put ix S v.1) (a::l) v.2
def lD:List SA->SV
 |[x]=>x.sv
 |l=>.t' l
def FA(H:List Ob):(l:List Ty)->List SV->Option ((fP l).T×List Src)
 |[],c=>match c with
  |[]=>some ((),[])
  |_=>none
 |[x],c=>match c with
  |[v]=>IS true H x v
  |_=>none
 |x::y::l,c=>match c with
  |v::c=>match IS true H x v with
   |some (a,e)=>match FA H (y::l) c with
    |some (b,d)=>some ((a,b),e++d)
    |none=>none
   |none=>none
  |[]=>none
def hV(H:List Ob):(l:List Ty)->(fP l).T->List SV×List Ob
 |[],_=>([],H)
 |[x],v=>([x.sv (x.lay 0 H.length v).1],H++(x.lay 0 H.length v).2)
 |x::y::l,v=>(x.sv (x.lay 0 H.length v.1).1::(hV (H++(x.lay 0 H.length v.1).2) (y::l) v.2).1,(hV (H++(x.lay 0 H.length v.1).2) (y::l) v.2).2)
structure PD where
 p:Prop
 h:Decidable p
inductive Gv (α:Type) where
 |one (x:Option α)
 |gs (l:List PD) (x:α)
structure Bz where
 a:List Ty
 r:List Rk
 f:(fP a).T->Gv (fM r).T
def qs{ρ:Type}(l:List PD)(x:Option ρ):Option ρ:=match l with
 |[]=>x
 |⟨p,h⟩::l=> @gd ρ p h (qs l x)
def Gv.bd{α ρ:Type}(g:Gv α)(k:α->Option ρ):Option ρ:=match g with
 |.one x=>x.bind k
 |.gs l x=>qs l (k x)
structure Cx where
 P:Program
 X:Nat->List Bz
 E:Nat->Option (Nat×Nat×Ty)
 G:Nat->Option Nat
 nn:Nat
 fu:Nat
structure St where
 F:Tr SV
 H:List Ob
 nb:Nat
 al:List (Nat×Nat×Nat)
 m:List (Nat×Nat×Nat)
def St.at(S:St)(t:Nat):SV:=match S.F.get t with
 |some v=>v
 |none=>.u'
def St.set(S:St)(d:Nat)(v:SV):St:=⟨S.F.set d v,S.H,S.nb,S.al,S.m⟩
def St.sM(S:St)(d:Option Nat)(v:SV):St:=match d with
 |some d=>S.set d v
 |none=>S
def yu:Value->Option SC
 |.bool b=>some (.b' b)
 |.int k n=>bif BH k .u8 then(if 0<=n/\n<256 then some (.c' (rO n.toNat))else none)else some (.i' k n)
 |.string s=>some (.s' s.data.toList)
 |.slice none 0 0=>some .n'
 |.pointer none=>some (.o' 0)
 |.nilFunc=>some (.o' 1)
 |.nilIface=>some (.o' 2)
 |_=>none
def so:List Value->Option (List SC)
 |[]=>some []
 |v::l=>match yu v with
  |some x=>match so l with
   |some q=>some (x::q)
   |none=>none
  |none=>none
def cv:Value->SV
 |.agg cs=>match so cs.toList with
  |some l=>.a' l
  |none=>.u'
 |v=>match yu v with
  |some x=>.c' x
  |none=>.u'
section
variable (C : Cx)
def St.ev(S:St):Operand->SV
 |.tmp t=>bif fC t C.nn then S.at t else .u'
 |.const v=>cv v
 |.global g=>match C.G g with
  |some id=>.c' (.q' id 0 0 0)
  |none=>.u'
 |.func k=>.c' (.f' k [])
end
structure Ro where
 g:List PD
 v:SV
 H:List Ob
 m:List (Nat×Nat×Nat)
abbrev Rv:=Option (List PD×SV)
def gR(x:SC):Rv:=some ([],.c' x)
def Kw(p:Prop)[h:Decidable p](x:SC):Rv:=some ([⟨p,h⟩],.c' x)
def i64(k:IntKind):Bool:=BH k .i64
def bI(b:BinOp)(k:IntKind)(u v:Int):Rv:=
 match b with
 |.lss=>gR (.d' (u<v) inferInstance)
 |.leq=>gR (.d' (u<=v) inferInstance)
 |.gtr=>gR (.d' (v<u) inferInstance)
 |.geq=>gR (.d' (v<=u) inferInstance)
 |.eql=>gR (.d' (u=v) inferInstance)
 |.neq=>gR (.e' (u=v) inferInstance)
 |.add=>bif i64 k then Kw (bJ (u+v)) (.i' k (u+v))else gR (.i' k (k.wrap (u+v)))
 |.sub=>bif i64 k then Kw (bJ (u-v)) (.i' k (u-v))else gR (.i' k (k.wrap (u-v)))
 |.mul=>bif i64 k then Kw (bJ (u*v)) (.i' k (u*v))else gR (.i' k (k.wrap (u*v)))
 |.quo=>bif i64 k then Kw (0<=u/\0<v/\bJ u) (.i' k (u/v))else none
 |.rem=>bif i64 k then Kw (0<=u/\0<v/\bJ u) (.i' k (u%v))else none
 |.and=>gR (.i' k (gk k u v))
 |.or=>gR (.i' k (orI k u v))
 |_=>none
def bC(b:BinOp)(u v:UInt8):Rv:=
 match b with
 |.lss=>gR (.d' (u<v) inferInstance)
 |.leq=>gR (.d' (u<=v) inferInstance)
 |.gtr=>gR (.d' (v<u) inferInstance)
 |.geq=>gR (.d' (v<=u) inferInstance)
 |.eql=>gR (.d' (u=v) inferInstance)
 |.neq=>gR (.e' (u=v) inferInstance)
 |.add=>gR (.c' (u+v))
 |.sub=>gR (.c' (u-v))
 |.mul=>gR (.c' (u*v))
 |.quo=>Kw (v≠0) (.c' (u/v))
 |.rem=>Kw (v≠0) (.c' (u%v))
 |.and=>gR (.c' (u&&&v))
 |.or=>gR (.c' (u|||v))
 |_=>none
def bS(b:BinOp)(u v:aA):Rv:=
 match b with
 |.eql=>gR (.d' (u=v) inferInstance)
 |.neq=>gR (.e' (u=v) inferInstance)
 |.lss=>gR (.b' (nZ u v))
 |.gtr=>gR (.b' (!(nZ u v||u==v)))
 |.add=>Kw (u.length+v.length<=9223372036854775807) (.s' (u++v))
 |_=>none
def bB(b:BinOp)(u v:Bool):Rv:=match b with
 |.eql=>gR (.b' (u==v))
 |.neq=>gR (.b' (!(u==v)))
 |_=>none
def sh8(z:Bool)(b:BinOp)(u:UInt8)(v:Int):Rv:=
 match b with
 |.shl=>bif z then gR (.c' (AO u v))else Kw (0<=v) (.c' (AO u v))
 |.shr=>bif z then gR (.c' (Pl u v))else Kw (0<=v) (.c' (Pl u v))
 |_=>none
def HF:SC->Option Int
 |.i' _ n=>some n
 |.c' x=>some (x.toNat:Int)
 |_=>none
def shI(k:IntKind)(u v:Int):Rv:=match v with
 |.ofNat n=>gR (.i' k (u/((2^(min n k.bits):Nat):Int)))
 |_=>none
def Q7:BinOp->Bool
 |.shr=>true
 |_=>false
def oe(k:IntKind)(u v:Int):Rv:=match v with
 |.ofNat n=>gR (.i' k (bN k (u*((2^(min n k.bits):Nat):Int))))
 |_=>none
def Q8:BinOp->Bool
 |.shl=>true
 |_=>false
def bin(z:Bool)(b:BinOp)(x y:SC):Rv:=
 match x,y with
 |.i' k u,.i' a v=>bif Q7 b then shI k u v else bif Q8 b then oe k u v else bif BH k a then bI b k u v else none
 |.c' u,.c' v=>bC b u v
 |.c' u,.i' _ v=>sh8 z b u v
 |.s' u,.s' v=>bS b u v
 |_,_=>none
def au:SC->Rv
 |.b' x=>gR (.b' (!x))
 |.d' p h=>gR (.e' p h)
 |.e' p h=>gR (.d' p h)
 |_=>none
def yp(x ix:SC):Rv:=
 match x with
 |.s' l=>match HF ix with
  |some i=>Kw (0<=i/\i<(l.length:Int)) (.c' (at_ l i))
  |none=>none
 |_=>none
def CG(x:SC)(c d:Option SC):Rv:=
 match x with
 |.s' l=>match c,d with
  |some a,some b=>match HF a,HF b with
   |some i,some j=>Kw (0<=i/\i<=j/\j<=(l.length:Int)) (.s' (sub l i j))
   |_,_=>none
  |some a,none=>match HF a with
   |some i=>Kw (0<=i/\i<=(l.length:Int)) (.s' (bK (aR i) l))
   |none=>none
  |none,some b=>match HF b with
   |some j=>Kw (0<=j/\j<=(l.length:Int)) (.s' (kO (aR j) l))
   |none=>none
  |none,none=>none
 |_=>none
section
variable (C : Cx)
def kindOf(t:Nat):Option IntKind:=match C.P.underlying t with
 |some (.int k)=>some k
 |_=>none
def tD(t:Nat):Bool:=match C.P.underlying t with
 |some .string=>true
 |_=>false
def II(t:Nat):Option Nat:=match C.P.underlying t with
 |some (.slice e)=>some e
 |_=>none
def js(t:Nat):Option (Nat×Nat):=match C.P.underlying t with
 |some (.array n e)=>some (n,e)
 |_=>none
def Lq(t:Nat):Option Nat:=Oz C.P (sizeOf t)
def ZG(t:Nat):Option Bool:=Oz C.P (isAgg t)
def BJ(e:Nat):Bool:=match C.P.underlying e with
 |some (.int k)=>BH k .u8
 |_=>false
def isK(e:Nat)(k:IntKind):Bool:=match kindOf C e with
 |some a=>BH a k
 |none=>false
def VQ(s t:Nat)(x:SC):Rv:=
 match x with
 |.c' u=>bif BJ C s then(match kindOf C t with
  |some .u8=>gR (.c' u)
  |some .i64=>gR (.i' .i64 (u.toNat:Int))
  |some .i32=>gR (.i' .i32 (u.toNat:Int))
  |_=>none)else none
 |.i' k n=>bif isK C s k then(match kindOf C t with
  |some .u8=>gR (.c' (P3 n))
  |some k'=>bif BH k k' then(bif i64 k then Kw (bJ n) (.i' k n)else Kw (bN k' n=n) (.i' k n))else gR (.i' k' (k'.wrap n))
  |none=>bif tD C t then gR (.s' (Utf8.encode n).data.toList)else none)else none
 |.s' l=>bif tD C s then(bif tD C t then gR (.s' l)else none)else none
 |_=>none
def zC(t:Nat):Option (List SC):=match Oz C.P (zeroValue t)with
 |some v=>so v.cells.toList
 |none=>none
def Nt(t f:Nat):Option (Nat×Nat×Bool):=match C.P.underlying t with
 |some (.struct c)=>match eK c.toList f with
  |some b=>match Lq C b.type,ZG C b.type with
   |some n,some a=>some (b.offset,n,a)
   |_,_=>none
  |none=>none
 |_=>none
def pQ(l:List SC)(off n:Nat)(a:Bool):Option SV:=
 bif a then(match wP (wS l off) n with
  |some q=>bif knL q then some (.a' q)else none
  |none=>none)else match eK l off with
  |some x=>bif x.kn then some (.c' x)else none
  |none=>none
def Fs(H:List Ob)(r:Rv):Option Ro:=match r with
 |some (g,v)=>some ⟨g,v,H,[]⟩
 |none=>none
def kR(H:List Ob)(v:Option SV):Option Ro:=match v with
 |some v=>some ⟨[],v,H,[]⟩
 |none=>none
def eX{α:Type}(x:SV)(f:SC->Option α):Option α:=match x with
 |.c' x=>f x
 |_=>none
def uB{α:Type}(ev:Operand->SV)(x:Option Operand)(f:Option SC->Option α):Option α:=match x with
 |none=>f none
 |some o=>eX (ev o) fun a=>f (some a)
end
@[reducible] def Ty.F7:(t:Ty)->Inhabited t.T
 |.i' _=>⟨(0:Int)⟩
 |.c'=>⟨(0:UInt8)⟩
 |.s'=>⟨([]:aA)⟩
 |.b'=>⟨false⟩
 |.u'=>⟨()⟩
 |.w' x=>x.F7
 |.pr x y=>⟨(x.F7.default,y.F7.default)⟩
 |.sm x _=>⟨.inl x.F7.default⟩
 |.l' _ _ x=>⟨([]:List x.T)⟩
 |.y'=>⟨([]:aA)⟩
 |.r' x=>⟨([]:List x.T)⟩
 |.p' _ x=>x.F7
 |.z'=>⟨()⟩
 |.o' _=>⟨()⟩
 |.f' _ x=>x.F7
def MH:(t:Ty)->List t.T->Int->t.T
 |.c',l,j=>at_ l j
 |t,l,j=> @el t.T t.F7 l j
def T5(t:Ty)(l:List t.T)(j:Int):List SC:=(t.lay 0 0 (MH t l j)).1
section
variable (C : Cx)
def tB(H:List Ob)(t:Ty)(x:SC):Option (List t.T):=match x with
 |.n'=>some []
 |.l' id=>tG t (eK H id)
 |.k' id m=>match eK H id with
  |some (.bl _ cs)=>oC t m cs
  |_=>none
 |_=>none
def Uh(sz:Nat)(j:Int)(t:Ty):Bool:=bif cP sz t.sz then true else match j with
 |.ofNat 0=>true
 |_=>false
def pO(H:List Ob)(t:Ty)(l:List t.T)(j:Int)(sz off n:Nat)(a:Bool):Option Ro:=
 match pQ (T5 t l j) off n a with
 |some v=>bif (bif Uh sz j t then t.flat else false)then some ⟨[⟨0<=j/\j<(l.length:Int),inferInstance⟩],v,H,[]⟩else none
 |none=>none
def LH(t:Ty):List t.T->List SC
 |[]=>[]
 |x::l=>(t.lay 0 0 x).1++LH t l
def yO(H:List Ob)(t:Ty)(l:List t.T)(j:Int)(off n:Nat)(a:Bool):Option Ro:=match j with
 |.ofNat 0=>bif t.flat then kR H (pQ (LH t l) off n a)else none
 |_=>none
def jE(H:List Ob)(t:Nat)(x:SC):Option Ro:=match Lq C t,ZG C t with
 |some n,some a=>bif cP n 0 then none else match x with
  |.p' id off=>match eK H id with
   |some (.bl _ cs)=>kR H (pQ cs off n a)
   |_=>none
  |.q' id j sz off=>match eK H id with
   |some (.rw _ _ t' l)=>pO H t' l j sz off n a
   |some (.ro t' l)=>(match pO H t' l j sz off n a with
    |some r=>some r
    |none=>yO H t' l j off n a)
   |some (.br _ l)=>pO H .c' l j sz off n a
   |_=>none
  |_=>none
 |_,_=>none
def Z4(t:Ty)(l:List t.T)(j:Int)(off:Nat)(vs:List SC):Option (List t.T):=match sN (T5 t l j) off vs with
 |some cs=>match t.Vj cs with
  |some (x,[])=>some (eA l (aR j) x)
  |_=>none
 |none=>none
def oc(H:List Ob)(id:Nat)(j:Int)(len:Nat)(o:Ob):Option Ro:=some ⟨[⟨0<=j/\j<(len:Int),inferInstance⟩],.u',gU H id o,[(id,0,1)]⟩
def wI(H:List Ob)(t:Nat)(x:SC)(v:SV):Option Ro:=match Lq C t,v.cells with
 |some n,some a=>bif cP a.length n then(match x with
  |.p' id off=>match eK H id with
   |some (.bl e cs)=>match sN cs off a with
    |some d=>some ⟨[],.u',gU H id (.bl e d),[(id,off,off+n)]⟩
    |none=>none
   |_=>none
  |.q' id j sz off=>bif cP n 0 then none else match eK H id with
   |some (.rw e b t' l)=>match Z4 t' l j off a with
    |some l'=>bif (bif Uh sz j t' then t'.flat else false)then oc H id j l.length (.rw e b t' l')else none
    |none=>none
   |some (.br m l)=>match v with
    |.c' y=>match y.rC with
     |some c=>bif (bif Uh sz j .c' then cP off 0 else false)then oc H id j l.length (.br m (eA l (aR j) c))else none
     |none=>none
    |_=>none
   |_=>none
  |_=>none)else none
 |_,_=>none
def tm(t f:Nat)(x:SC):Option SV:=match Nt C t f with
 |some q=>bif cP q.2.1 0 then none else match x with
  |.p' id off=>some (.c' (.p' id (off+q.1)))
  |.q' id j sz off=>some (.c' (.q' id j sz (off+q.1)))
  |_=>none
 |none=>none
def JQ(H:List Ob)(id:Nat):Option Nat:=match eK H id with
 |some (.rw _ _ t l)=>bif t.flat then some l.length else none
 |some (.ro t l)=>bif t.flat then some l.length else none
 |some (.br _ l)=>some l.length
 |_=>none
def U5(H:List Ob)(t:Nat)(x ix:SC):Option Ro:=match HF ix with
 |some j=>match II C t with
  |some e=>match Lq C e with
   |some sz=>match x with
    |.l' id=>match JQ H id with
     |some m=>some ⟨[⟨0<=j/\j<(m:Int),inferInstance⟩],.c' (.q' id j sz 0),H,[]⟩
     |none=>none
    |.k' id m=>some ⟨[⟨0<=j/\j<(m:Int),inferInstance⟩],.c' (.p' id (j.toNat*sz)),H,[]⟩
    |_=>none
   |none=>none
  |none=>match js C t with
   |some q=>match Lq C q.2 with
    |some sz=>match x with
     |.p' id off=>bif Nat.ble 2 q.1 then some ⟨[⟨0<=j/\j<(q.1:Int),inferInstance⟩],.c' (.p' id (off+j.toNat*sz)),H,[]⟩else none
     |.q' id c b a=>bif Nat.ble 2 q.1 then(bif cP b 0 then(bif cP a 0 then some ⟨[⟨0<=j/\j<(q.1:Int),inferInstance⟩],.c' (.q' id j sz 0),H,[]⟩else none)else none)else none
     |_=>none
    |none=>none
   |none=>none
 |none=>none
def Rt(H:List Ob)(s t:Nat)(x:SC):Option Ro:=match II C s with
 |some e=>bif tD C t then(bif BJ C e then(match tB H .c' x with
  |some l=>some ⟨[],.c' (.s' l),H,[]⟩
  |none=>none)else none)else none
 |none=>match x with
  |.s' l=>match II C t with
   |some e=>bif tD C s then(bif BJ C e then some ⟨[],.c' (.l' H.length),H++[.br l.length l],[]⟩else none)else none
   |none=>Fs H (VQ C s t x)
  |_=>Fs H (VQ C s t x)
def Qt(H:List Ob)(t:Nat)(x:SC):Rv:=match x with
 |.s' l=>bif tD C t then gR (.i' .i64 (l.length:Int))else none
 |x=>match II C t with
  |some _=>(match x with
   |.l' id=>(match eK H id with
    |some o=>gR (.i' .i64 (o.len:Int))
    |none=>none)
   |.k' _ m=>gR (.i' .i64 (m:Int))
   |.n'=>gR (.i' .i64 (0:Int))
   |_=>none)
  |none=>none
def mmC(b:Builtin)(x y:SC):Rv:=match b,x,y with
 |.min,.i' k u,.i' k' v=>bif BH k k' then gR (.i' k (min u v))else none
 |.max,.i' k u,.i' k' v=>bif BH k k' then gR (.i' k (max u v))else none
 |_,_,_=>none
def yw:Option Ob->Nat
 |some (.bl _ cs)=>mG cs.length
 |_=>1
def pS(H:List Ob)(t:Nat)(x y:SC):Option Ro:=match C.E t with
 |some (e,b,τ)=>match x with
  |.n'=>match tB H τ y with
   |some a=>some ⟨[⟨(([]:List τ.T).length+a.length)*b<=140737488355328,inferInstance⟩],.c' (.l' H.length),H++[.rw e b τ ([]++a)],[]⟩
   |none=>none
  |.l' id=>match P2 H id (.l' e b τ),tB H τ y with
   |some l,some a=>some ⟨[⟨(l.length+a.length)*b<=140737488355328,inferInstance⟩],.c' (.l' H.length),gU H id (.dd l.length)++[.rw e b τ (l++a)],[(id,0,1)]⟩
   |_,_=>none
  |.k' id m=>match Ty.rd false H (.l' e b τ) 0 [.k' id m],tB H τ y with
   |some (l,_,_),some a=>some ⟨[⟨(l.length+a.length)*b<=140737488355328,inferInstance⟩],.c' (.l' H.length),gU H id (.dd 0)++[.rw e b τ (l++a)],[(id,0,yw (eK H id))]⟩
   |_,_=>none
  |_=>none
 |none=>none
def yf(e:Nat):Bool:=match C.P.info? e with
 |some i=>(match i.zero with
  |some (.int .u8 (.ofNat 0))=>true
  |_=>false)
 |none=>false
def Mi(H:List Ob)(t s:Nat)(x:SC)(a:aA):Option Ro:=bif tD C s then(match C.E t with
 |some (e,b,.c')=>bif cP b 1 then(bif yf C e then(match x with
  |.n'=>some ⟨[⟨(([]:aA).length+a.length)*1<=140737488355328,inferInstance⟩],.c' (.l' H.length),H++[.rw e 1 .c' ([]++a)],[]⟩
  |.l' id=>(match P2 H id (.l' e 1 .c')with
   |some l=>some ⟨[⟨(l.length+a.length)*1<=140737488355328,inferInstance⟩],.c' (.l' H.length),gU H id (.dd l.length)++[.rw e 1 .c' (l++a)],[(id,0,1)]⟩
   |none=>none)
  |_=>none)else none)else none
 |_=>none)else none
def Pc(H:List Ob)(t s:Nat)(x:SC):SC->Option Ro
 |.s' a=>Mi C H t s x a
 |_=>none
def CY(ev:Operand->SV)(H:List Ob)(b:Builtin)(fE:List Operand)(d:List Nat):Option Ro:=match b,fE,d with
 |.len,[x],[t]=>Fs H (eX (ev x) (Qt C H t))
 |.append,[x,y],[t,t']=>bif cP t t' then eX (ev x) fun a=>eX (ev y) fun c=>pS C H t a c else eX (ev x) fun a=>eX (ev y) fun c=>Pc C H t t' a c
 |b,[x,y],_=>Fs H (eX (ev x) fun a=>eX (ev y) fun c=>mmC b a c)
 |_,_,_=>none
def Bq(sz:Nat->Option (Nat×Nat))(ev:Operand->SV):List (Nat×Operand)->List SC->Option (List SC)
 |[],l=>some l
 |p::b,l=>match sz p.1,(ev p.2).cells with
  |some q,some a=>bif cP a.length q.2 then(match sN l q.1 a with
   |some l'=>Bq sz ev b l'
   |none=>none)else none
  |_,_=>none
def tV(z:List SC):Nat->List SC
 |0=>[]
 |n+1=>z++tV z n
def Dr:List Field->Option (List (Nat×Nat))
 |[]=>some []
 |f::a=>match Lq C f.type with
  |some n=>match Dr a with
   |some l=>some ((f.offset,n)::l)
   |none=>none
  |none=>none
def pg(t:Nat):Option (Nat->Option (Nat×Nat)):=match C.P.underlying t with
 |some (.struct a)=>match Dr C a.toList with
  |some l=>some (eK l)
  |none=>none
 |some (.array _ e)=>match Lq C e with
  |some n=>some fun i=>some (i*n,n)
  |none=>none
 |_=>none
def Ds(ev:Operand->SV)(t:Nat)(a:List (Nat×Operand)):Option SV:=match zC C t,pg C t with
 |some z,some b=>match Bq b ev a z with
  |some cs=>some (.a' cs)
  |none=>none
 |_,_=>none
def fz(ev:Operand->SV)(H:List Ob)(t len:Nat)(a:List (Nat×Operand)):Option Ro:=match II C t with
 |some e=>match zC C e,Lq C e with
  |some z,some n=>bif cP z.length n then(bif Nat.ble (len*n) 100000 then(match Bq (fun i=>some (i*n,n)) ev a (tV z len)with
   |some cs=>some ⟨[],.c' (.k' H.length len),H++[.bl e cs],[]⟩
   |none=>none)else none)else none
  |_,_=>none
 |none=>none
def qi:Operand->Bool
 |.const (.int _ (.ofNat 0))=>true
 |_=>false
def ca:Operand->Bool
 |.const (.int _ (.ofNat _))=>true
 |_=>false
def uA(H:List Ob)(t:Nat)(z:Bool)(x y:SC):Option Ro:=match C.E t with
 |some (e,b,τ)=>bif z then(match HF y with
   |some c=>some ⟨[⟨0<=c/\(b:Int)*c<=281474976710656,sj b c⟩],.c' (.l' H.length),H++[.rw e b τ []],[]⟩
   |_=>none)else none
 |none=>none
def J3:List SV->Option (List Nat)
 |[]=>some []
 |v::l=>match v with
  |.c' (.p' id off)=>bif cP off 0 then(match J3 l with
   |some q=>some (id::q)
   |none=>none)else none
  |_=>none
def Qm(ev:Operand->SV)(f:Fn)(first cap:List Operand):Option SV:=match f with
 |.func k=>match first with
  |[]=>match J3 (cap.map ev)with
   |some a=>some (.c' (.f' k a))
   |none=>none
  |_=>none
 |_=>none
def Vw(x:SC):Option SV:=match x with
 |.p' id off=>some (.c' (.p' id off))
 |.q' id j sz off=>some (.c' (.q' id j sz off))
 |.f' k a=>some (.c' (.f' k a))
 |_=>none
def FZ(t:Nat):Bool:=match C.P.underlying t with
 |some (.pointer _)=>true
 |_=>false
def isBool(t:Nat):Bool:=match C.P.underlying t with
 |some .bool=>true
 |_=>false
def Xd(t:Nat):Bool:=match C.P.underlying t with
 |some (.slice _)=>true
 |_=>false
def Xe:BinOp->Bool
 |.eql=>true
 |_=>false
def fg(z:Bool)(t:Nat)(b:BinOp)(x y:SC):Rv:=
 match x,y with
 |.p' _ _,.o' j=>bif cP j 0 then(bif FZ C t then(bif Xe b then gR (.b' false)else none)else none)else none
 |.o' j,.o' a=>bif cP j 0 then(bif cP a 0 then(bif FZ C t then(bif Xe b then gR (.b' true)else none)else none)else none)else none
 |.k' _ _,.n'=>bif Xd C t then(bif Xe b then gR (.b' false)else none)else none
 |.n',.n'=>bif Xd C t then(bif Xe b then gR (.b' true)else none)else none
 |x,y=>match x.rB,y.rB with
  |some u,some v=>bif isBool C t then bB b u v else none
  |_,_=>bin z b x y
def zH(H:List Ob)(t:Nat)(x:SC)(c d:Option SC):Option Ro:=match x with
 |.l' id=>(match eK H id with
  |some (.ro τ l)=>(match II C t with
   |some e=>(match Lq C e with
    |some sz=>bif cP sz τ.sz then(bif τ.flat then(match c,d with
     |none,some b=>(match HF b with
      |some j=>some ⟨[⟨0<=j/\j<=(l.length:Int),inferInstance⟩],.c' (.l' H.length),H++[.ro τ (kO (aR j) l)],[]⟩
      |none=>none)
     |some a,none=>(match HF a with
      |some j=>some ⟨[⟨0<=j/\j<=(l.length:Int),inferInstance⟩],.c' (.l' H.length),H++[.ro τ (bK (aR j) l)],[]⟩
      |none=>none)
     |_,_=>none)else none)else none
    |none=>none)
   |none=>none)
  |_=>none)
 |_=>none
def FX(t:Nat)(cs:List SC)(i:SC):Rv:=match js C t with
 |some q=>bif tD C q.2 then(match Lq C q.2,ZG C q.2 with
  |some 1,some false=>(match oC .s' q.1 cs,HF i with
   |some l,some j=>Kw (0<=j/\j<(l.length:Int)) (.s' (MH .s' l j))
   |_,_=>none)
  |_,_=>none)else none
 |none=>none
def gQ(ev:Operand->SV)(H:List Ob):Op->Option Ro
 |.move x=>kR H (match ev x with
  |.u'=>none
  |v=>some v)
 |.assign x=>kR H (match ev x with
  |.u'=>none
  |v=>some v)
 |.pick c a b=>eX (ev c) fun x=>match x with
  |.b' t=>kR H (match(bif t then ev a else ev b)with
   |.u'=>none
   |v=>some v)
  |_=>none
 |.binOp b t x y _=>Fs H (eX (ev x) fun a=>eX (ev y) fun c=>fg C (ca y) t b a c)
 |.unOp .not _ x=>Fs H (eX (ev x) au)
 |.convert s t x=>eX (ev x) (Rt C H s t)
 |.index t x ix=>bif tD C t then Fs H (eX (ev x) fun a=>eX (ev ix) fun i=>yp a i)else(match ev x with
  |.a' cs=>Fs H (eX (ev ix) fun i=>FX C t cs i)
  |_=>none)
 |.slice t x g h none=>bif tD C t then Fs H (eX (ev x) fun a=>uB ev g fun i=>uB ev h fun j=>CG a i j)else eX (ev x) fun a=>uB ev g fun i=>uB ev h fun j=>zH C H t a i j
 |.extract x i=>match ev x with
  |.t' l=>match eK l i with
   |some y=>some ⟨[],y.sv,H,[]⟩
   |none=>none
  |_=>none
 |.field t x f=>match ev x with
  |.a' l=>match Nt C t f with
   |some q=>kR H (pQ l q.1 q.2.1 q.2.2)
   |none=>none
  |_=>none
 |.build t d=>kR H (Ds C ev t d.toList)
 |.alloc e=>match zC C e with
  |some z=>some ⟨[],.c' (.p' H.length 0),H++[.bl e z],[]⟩
  |none=>none
 |.box e v=>match(ev v).cells with
  |some cs=>some ⟨[],.c' (.p' H.length 0),H++[.bl e cs],[]⟩
  |none=>none
 |.buildSlice t n d=>fz C ev H t n d.toList
 |.load t x=>eX (ev x) fun a=>jE C H t a
 |.store t x v=>eX (ev x) fun a=>wI C H t a (ev v)
 |.fieldAddr t x f=>eX (ev x) fun a=>kR H (tm C t f a)
 |.indexAddr t x ix=>eX (ev x) fun a=>eX (ev ix) fun i=>U5 C H t a i
 |.makeSlice t n c=>eX (ev n) fun a=>eX (ev c) fun i=>uA C H t (qi n) a i
 |.makeFunc f a b=>kR H (Qm ev f a.toList b.toList)
 |.nilCheck x=>eX (ev x) fun a=>kR H (Vw a)
 |.call c=>match c.callee with
  |.builtin b=>CY C ev H b c.args.toList c.argTypes.toList
  |_=>none
 |_=>none
def opP(ev:Operand->SV)(H:List Ob)(op:Op):Option Ro:=match op with
 |.convert s t x=>Fs H (eX (ev x) (VQ C s t))
 |.slice t x b c a=>bif tD C t then gQ C ev H (.slice t x b c a)else none
 |op=>gQ C ev H op
end
inductive Ex where
 |nm
 |xt (id:Nat)
abbrev Rg:=Nat×Nat×Nat
inductive Sc where
 |n'
 |s' (a b:Sc)
 |j' (J:List Key) (R:List Nat) (a b:Sc)
 |r' (J:List Key) (R:List Nat) (a b:Sc)
 |l' (J:List Key) (a:Sc)
 |y' (a:Sc)
 |z' (a:Sc)
def Sc.A:Sc->Sc
 |.s' a _=>a
 |.j' _ _ a _=>a
 |.r' _ _ a _=>a
 |.l' _ a=>a
 |.y' a=>a
 |_=>.n'
def Sc.B:Sc->Sc
 |.s' _ b=>b
 |.j' _ _ _ b=>b
 |.r' _ _ _ b=>b
 |.z' b=>b
 |_=>.n'
def jU(t:Nat):List Nat->Bool
 |[]=>false
 |x::l=>bif cP t x then true else jU t l
def Yg(l r:List Nat):Bool:=match l with
 |[]=>true
 |x::l=>bif jU x r then false else Yg l r
def Ci:List Nat->Bool
 |[]=>true
 |x::l=>bif jU x l then false else Ci l
def eL(id j:Nat):List Rg->Bool
 |[]=>false
 |q::l=>bif cP q.1 id then(bif Nat.ble q.2.1 j then(bif fC j q.2.2 then true else eL id j l)else eL id j l)else eL id j l
def KX(id a:Nat)(al:List Rg):Nat->Bool
 |0=>true
 |n+1=>bif eL id (a+n) al then KX id a al n else false
def St.ok(S:St)(q:Rg):Bool:=bif fC q.1 S.nb then KX q.1 q.2.1 S.al (q.2.2-q.2.1)else true
def St.yH(S:St):List Rg->Bool
 |[]=>true
 |x::l=>bif S.ok x then S.yH l else false
def fQ:List Src->List Nat
 |[]=>[]
 |s::l=>s.own++fQ l
def WE:List Src->List Nat
 |[]=>[]
 |s::l=>s.ja++WE l
def pA(H:List Ob)(id:Nat):Rg:=(id,0,match eK H id with
 |some (.bl _ cs)=>mG cs.length
 |_=>1)
def qO(H:List Ob)(id:Nat):Rg:=(id,0,match eK H id with
 |some (.bl _ cs)=>cs.length
 |_=>1)
def Ry(H:List Ob):List Nat->List Rg
 |[]=>[]
 |x::l=>qO H x::Ry H l
def Jd(H:List Ob):List Nat->List Rg
 |[]=>[]
 |x::l=>pA H x::Jd H l
def St.take(S:St)(ss:List Src):Bool:=bif Ci (fQ ss)then S.yH (Jd S.H (fQ ss))else false
def kill(H:List Ob):List Nat->List Ob
 |[]=>H
 |x::l=>kill (gU H x (.dd (eY H x))) l
def HX:List SC->Nat->Nat->List SC
 |[],_,_=>[]
 |x::l,a,n=>match a with
  |a+1=>x::HX l a n
  |0=>match n with
   |0=>x::l
   |n+1=>.u'::HX l 0 n
def Of(H:List Ob):List Rg->List Ob
 |[]=>H
 |q::l=>match eK H q.1 with
  |some (.bl e cs)=>Of (gU H q.1 (.bl e (HX cs q.2.1 (q.2.2-q.2.1)))) l
  |_=>Of (gU H q.1 (.dd (eY H q.1))) l
def Zn(ix:Nat->Nat):List Key->List Rg
 |[]=>[]
 |k::l=>match k with
  |.s' _ _=>Zn ix l
  |.o' t off x=>(ix t,off,off+x.cn)::Zn ix l
  |.w' t _=>(ix t,0,1)::Zn ix l
def tC:Option Ob->Bool
 |some (.rw _ _ _ _)=>true
 |some (.br _ _)=>true
 |_=>false
def sX(H:List Ob):List SC->List Nat
 |[]=>[]
 |x::l=>match x with
  |.l' id=>bif tC (eK H id)then id::sX H l else sX H l
  |.k' id _=>match eK H id with
   |some (.bl _ _)=>id::sX H l
   |_=>sX H l
  |_=>sX H l
def Ty.BN:Ty->Bool
 |.w' x=>x.BN
 |.pr x y=>bif x.BN then true else y.BN
 |.l' _ _ _=>true
 |.y'=>true
 |_=>false
def I3(ix:Nat->Nat)(F:Nat->SV)(H:List Ob):List Key->List Nat
 |[]=>[]
 |k::l=>(match k with
  |.s' t x=>bif x.BN then(match(F t).cells with
   |some cs=>sX H cs
   |none=>[])else []
  |.o' t off x=>bif x.BN then(match eK H (ix t)with
   |some (.bl _ cs)=>match wP (wS cs off) x.cn with
    |some q=>sX H q
    |none=>[]
   |_=>[])else []
  |.w' _ _=>[])++I3 ix F H l
def Key.PU:List Key->List Nat
 |[]=>[]
 |k::l=>match k with
  |.s' t _=>t::Key.PU l
  |_=>Key.PU l
def del(F:Tr SV):List Nat->Tr SV
 |[]=>F
 |x::l=>del (F.set x .u') l
def Ba:List Oper->List Nat
 |[]=>[]
 |o::l=>match o.dst with
  |some d=>d::Ba l
  |none=>Ba l
noncomputable def wr(c:Code):List Nat:=Code.rec [] (fun _ ops _=>Ba ops.toList) (fun _ _ a b=>a++b) (fun _ _ _ a b=>a++b) (fun _ _ a=>a) (fun _ a=>a) (fun _ d _ _ a b=>d.toList++(a++b))
 (fun _=>[]) (fun _ a=>a) (fun _=>[]) (fun _=>[]) [] (fun _=>[]) c
def SV.pid:SV->Nat
 |.c' (.p' id _)=>id
 |.c' (.l' id)=>id
 |.c' (.k' id _)=>id
 |.c' (.f' _ (id::_))=>id
 |_=>0
def St.ix(S:St)(t:Nat):Nat:=(S.at t).pid
def St.T6(S:St)(J:List Key):List Nat:=I3 S.ix S.at S.H J
def St.Fk(S:St)(J:List Key):List Rg:=Zn S.ix J++Jd S.H (S.T6 J)
def Rq:List Rg->Bool
 |[]=>true
 |q::l=>bif (CB q l)then Rq l else false
where CB (q:Rg):List Rg->Bool
 |[]=>true
 |r::l=>bif cP q.1 r.1 then(bif Nat.ble q.2.2 r.2.1 then CB q l else(bif Nat.ble r.2.2 q.2.1 then CB q l else false))else CB q l
def VR(S:St):List Key->Bool
 |[]=>true
 |k::l=>bif (match k with
  |.o' t off x=>(match eK S.H (S.ix t)with
   |some (.bl _ cs)=>Nat.ble (off+x.cn) cs.length
   |_=>false)
  |.w' t x=>tC (eK S.H (S.ix t))
  |_=>true)then VR S l else false
def St.Q2(S:St)(J:List Key):Bool:=bif S.yH (S.Fk J)then(bif Rq (S.Fk J)then(bif Ci (Key.PU J)then VR S J else false)else false)else false
def St.Kt(S:St):St:=⟨S.F,S.H,S.nb,S.al,[]⟩
def Uk(n:Nat)(al:List Rg):List Rg->Bool
 |[]=>true
 |q::l=>bif (bif fC q.1 n then KX q.1 q.2.1 al (q.2.2-q.2.1)else true)then Uk n al l else false
def tk(S:St)(J:List Key)(ss:List Src):Bool:=bif Ci (fQ ss)then yg S.H.length (S.T6 J) (fQ ss)else false
where yg (n:Nat) (e:List Nat):List Nat->Bool
 |[]=>true
 |id::l=>bif (bif Nat.ble n id then true else jU id e)then yg n e l else false
def leaf(S:St)(J:List Key)(S2:St):Option (lR J).T:=match yk S.ix S2.at S2.H J with
 |some (v,ss)=>bif tk S J ss then(bif Uk S.H.length (S.Fk J) S2.m then some v else none)else none
 |none=>none
def St.out(S:St)(J:List Key)(w:List Nat)(v:(lR J).T):St:=match Cg S.ix (del S.F w,kill (Of S.H (Zn S.ix J)) (S.T6 J)) J v with
 |(F,H)=>⟨F,H,S.nb,S.al,S.Fk J++S.m⟩
def St.head(S:St)(J:List Key)(w:List Nat)(v:(lR J).T):St:=match Cg S.ix (del S.F w,kill (Of S.H (Zn S.ix J)) (S.T6 J)) J v with
 |(F,H)=>⟨F,H,S.nb,S.al,[]⟩
def St.as(S2 S:St)(J:List Key):St:=⟨S2.F,S2.H,S2.nb,S2.al,S2.m++(S.Fk J++S.m)⟩
section
variable (C : Cx) (τ : Ty) (res : St -> Option τ.T)
def Ii(d:Option Nat)(v:SV):Bool:=match d,v with
 |none,.u'=>true
 |none,_=>false
 |some _,.u'=>false
 |some _,_=>true
def St.run(S:St)(d:Option Nat)(v:SV)(H:List Ob)(m:List Rg):Option St:=bif Ii d v then(bif S.yH m then some (St.sM ⟨S.F,H,S.nb,S.al,m++S.m⟩ d v)else none)else none
def sS(ss:List Src)(j:Nat):Nat:=match eK ss j with
 |some (.o' id _)=>id
 |_=>0
def Rk.ids:List Rk->List Nat
 |[]=>[]
 |k::l=>match k with
  |.r' _=>Rk.ids l
  |.o' id _ _=>id::Rk.ids l
  |.w' id _=>id::Rk.ids l
def Sh(outs:List Nat):List Ob->Nat->List Src->List Nat
 |[],_,_=>[]
 |_::_,_,[]=>[]
 |o::a,j,s::ss=>(bif tC (some o)then(bif jU j outs then []else s.own)else [])++Sh outs a (j+1) ss
def jD(ss:List Src):List Nat->List Nat
 |[]=>[]
 |j::l=>sS ss j::jD ss l
def iF(c:Bz)(S:St)(a:(fP c.a).T)(ss:List Src):List Rg:=Jd S.H (Sh (Rk.ids c.r) (hV [] c.a a).2 0 ss)++Ry S.H (jD ss (Rk.ids c.r))
def iS(c:Bz)(S:St)(d:Option Nat)(a:(fP c.a).T)(ss:List Src)(y:(fM c.r).T):St:=
 match eT (sS ss) ([],kill S.H (Sh (Rk.ids c.r) (hV [] c.a a).2 0 ss)) c.r y with
 |(l,H)=>St.sM ⟨S.F,H,S.nb,S.al,iF c S a ss++S.m⟩ d (lD l)
def Ty.nb:Ty->Bool
 |.w' x=>x.nb
 |.pr x y=>bif x.nb then y.nb else false
 |.r' _=>false
 |.p' _ x=>x.nb
 |.f' _ x=>x.nb
 |_=>true
def Cf(H:List Ob)(ss:List Src):List Rk->Bool
 |[]=>true
 |k::l=>bif (match k with
  |.r' x=>bif x.tz then false else x.nb
  |.o' j e x=>bif x.nb then(match eK ss j with
   |some (.o' id w)=>bif w then(match eK H id with
    |some (.bl a cs)=>bif cP a e then cP cs.length x.cn else false
    |_=>false)else false
   |_=>false)else false
  |.w' j x=>(match eK ss j with
   |some (.o' id w)=>bif w then tC (eK H id)else false
   |_=>false))then Cf H ss l else false
def kW(c:Bz)(S:St)(a:(fP c.a).T)(ss:List Src):Bool:=
 bif Ci (fQ ss)then(bif Yg (WE ss) (fQ ss)then(bif Cf S.H ss c.r then S.yH (iF c S a ss)else false)else false)else false
def kJ{ρ:Ty}(S:St)(d:Option Nat)(vs:List SV)(b:St->Option ρ.T):List Bz->Option ρ.T
 |[]=>none
 |c::l=>match FA S.H c.a vs with
  |some (a,ss)=>bif kW c S a ss then(c.f a).bd fun y=>b (iS c S d a ss y)else none
  |none=>kJ S d vs b l
def sp{ρ:Ty}(S:St)(d:Option Nat)(k:Nat)(vs:List SV)(a:St->Option ρ.T):Option ρ.T:=kJ S d vs a (C.X k)
def fnV:SV->Option (Nat×List Nat)
 |.c' (.f' k a)=>some (k,a)
 |_=>none
def LC:List Nat->List SV
 |[]=>[]
 |id::l=>.c' (.p' id 0)::LC l
def ZS{ρ:Ty}(S:St)(d:Option Nat)(op:Op)(b:St->Option ρ.T):Option ρ.T:=
 match gQ C (S.ev C) S.H op with
 |some ⟨g,v,H,m⟩=>match S.run d v H m with
  |some S2=>qs g (b S2)
  |none=>none
 |none=>match op with
  |.call c=>match c.callee with
   |.value f=>match fnV (S.ev C f)with
    |some (k,a)=>sp C S d k (c.args.toList.map (S.ev C)++LC a) b
    |none=>none
   |_=>none
  |_=>none
def yq(ops:List Oper)(i:Nat):Bool:=match ops with
 |[]=>false
 |o::l=>match o.guard with
  |some q=>bif cP q.1 i then true else yq l i
  |none=>yq l i
def WC{ρ:Type}(v:SV)(y n:Option ρ):Option ρ:=match v with
 |.c' (.b' x)=>bif x then y else n
 |.c' (.d' p h)=> @ite _ p h y n
 |.c' (.e' p h)=> @ite _ p h n y
 |_=>none
def TA:Op->Option Operand
 |.move x=>some x
 |.assign x=>some x
 |_=>none
def ZR{ρ:Ty}(ops:List Oper)(i:Nat)(S:St)(o:Oper)(a:St->Option ρ.T):Option ρ.T:=
 bif yq ops i then(match TA o.op with
  |some x=>match o.dst with
   |some d=>WC (S.ev C x) (a (S.set d (.c' (.b' true)))) (a (S.set d (.c' (.b' false))))
   |none=>none
  |none=>ZS C S o.dst o.op a)
 else ZS C S o.dst o.op a
def K2(a b:Bool):Bool:=bif a then b else !b
def Xs(ops:List Oper)(i:Nat):Option Nat:=match eK ops i with
 |some o=>o.dst
 |none=>none
def IN{ρ:Ty}(ops:List Oper)(i:Nat)(S:St)(o:Oper)(a:St->Option ρ.T):Option ρ.T:=
 match o.guard with
 |none=>ZR C ops i S o a
 |some q=>match Xs ops q.1 with
  |some dg=>bif fC dg C.nn then(match S.at dg with
   |.c' (.b' x)=>bif K2 x q.2 then ZR C ops i S o a else(match o.dst with
    |some d=>a (S.set d .n')
    |none=>none)
   |.n'=>(match o.dst with
    |some d=>a (S.set d .n')
    |none=>none)
   |_=>none)else none
  |none=>none
def AY{ρ:Ty}(ops:List Oper):List Oper->Nat->St->(St->Option ρ.T)->Option ρ.T
 |[],_,S,a=>a S
 |o::l,i,S,a=>IN C ops i S o fun S2=>AY ops l (mG i) S2 a
def wH:List Operand->List Nat
 |[]=>[]
 |x::l=>match x with
  |.tmp t=>t::wH l
  |_=>wH l
def yY:Op->Bool
 |.move _=>true
 |.assign _=>true
 |.pick _ _ _=>true
 |.binOp _ _ _ _ _=>true
 |.unOp _ _ _=>true
 |.convert _ t _=> !Xd C t
 |.index _ _ _=>true
 |.slice t _ _ _ _=>tD C t
 |.extract _ _=>true
 |.field _ _ _=>true
 |.build _ _=>true
 |.fieldAddr _ _ _=>true
 |.load _ _=>true
 |.indexAddr _ _ _=>true
 |.makeFunc _ _ _=>true
 |.nilCheck _=>true
 |.call c=>match c.callee with
  |.builtin .len=>true
  |.builtin .min=>true
  |.builtin .max=>true
  |_=>false
 |_=>false
def Lb:SV->List Nat
 |.c' (.p' id _)=>[id]
 |.c' (.q' id _ _ _)=>[id]
 |.c' (.l' id)=>[id]
 |.c' (.k' id _)=>[id]
 |_=>[]
def Nr(ev:Operand->SV):List Operand->List Nat
 |[]=>[]
 |x::l=>Lb (ev x)++Nr ev l
def Np(ev:Operand->SV):Op->List Nat
 |.load _ x=>Lb (ev x)
 |.indexAddr _ x _=>Lb (ev x)
 |.convert _ _ x=>Lb (ev x)
 |.call c=>Nr ev c.args.toList
 |_=>[]
def UF(n:Nat):List Rg->List Nat
 |[]=>[]
 |q::l=>match n with
  |0=>[]
  |n+1=>q.1::UF n l
def SK:List Rg->Nat
 |[]=>0
 |_::l=>mG (SK l)
def oJ:List Ty->Bool
 |[]=>true
 |x::l=>bif cP x.no 0 then oJ l else false
def oI:List Rk->Bool
 |[]=>true
 |k::l=>match k with
  |.r' x=>bif cP x.no 0 then oI l else false
  |_=>false
def GI:List Bz->Bool
 |[]=>true
 |c::l=>bif oJ c.a then(bif oI c.r then GI l else false)else false
def qt(op:Op):Bool:=bif yY C op then true else(match op with
 |.call c=>(match c.callee with
  |.value (.func k)=>GI (C.X k)
  |_=>false)
 |_=>false)
def entry(S S2:St)(o:Oper):Bool×List Nat:=bif qt C o.op then(false,Np (S.ev C) o.op)else(true,UF (Nat.sub (SK S2.m) (SK S.m)) S2.m)
def B1{ρ:Ty}(ops:List Oper):List Oper->Nat->St->List (Bool×List Nat)->(St->List (Bool×List Nat)->Option ρ.T)->Option ρ.T
 |[],_,S,b,a=>a S b
 |o::l,i,S,b,a=>IN C ops i S o fun S2=>B1 ops l (mG i) S2 (b++[entry C S S2 o]) a
def HY:List Nat->List Nat->List Nat
 |[],r=>r
 |x::l,r=>bif jU x r then HY l r else HY l (x::r)
def Ct(A:List (List Nat)):List Edge->List Nat
 |[]=>[]
 |e::l=>bif Region.binds .any e then HY (e.on::(match eK A e.on with
  |some a=>a
  |none=>[])) (Ct A l)else Ct A l
def eZ:List Oper->List (List Nat)->List (List Nat)
 |[],A=>A
 |o::l,A=>eZ l (A++[Ct A o.after.toList])
def yI(A:List (List Nat))(i:Nat):List Nat:=match eK A i with
 |some a=>a
 |none=>[]
def Bu:List Oper->Nat->Bool
 |[],_=>true
 |o::l,i=>bif o.after.toList.all (fun e=>bif Region.binds .any e then fC e.on i else true)then Bu l (mG i)else false
def Nj(ops:List Oper)(o:Oper):List Nat:=match o.guard with
 |some q=>(match Xs ops q.1 with
  |some d=>[d]
  |none=>[])
 |none=>[]
def Vv(A:List (List Nat))(i j:Nat):Bool:=bif jU i (yI A j)then true else jU j (yI A i)
def Gg(A:List (List Nat))(i:Nat)(rd:List Nat):List Oper->Nat->Bool
 |[],_=>true
 |o::l,j=>bif (match o.dst with
  |some d=>bif jU d rd then(bif cP i j then true else Vv A i j)else true
  |none=>true)then Gg A i rd l (mG j)else false
def wG(ops:List Oper)(A:List (List Nat))(all:List Oper):List Oper->Nat->Bool
 |[],_=>true
 |o::l,i=>bif Gg A i (wH o.op.operands.toList++Nj ops o) all 0 then wG ops A all l (mG i)else false
def Gn(A:List (List Nat))(i:Nat)(q:Bool×List Nat):List (Bool×List Nat)->Nat->Bool
 |[],_=>true
 |p::l,j=>bif (bif cP i j then true else(bif Vv A i j then true else(bif p.1 then(bif q.1 then false else Yg q.2 p.2)else true)))then Gn A i q l (mG j)else false
def Wb(A:List (List Nat))(all:List (Bool×List Nat)):List (Bool×List Nat)->Nat->Bool
 |[],_=>true
 |q::l,i=>bif Gn A i q all 0 then Wb A all l (mG i)else false
def Yy{α:Type}:List α->Nat->List α
 |[],_=>[]
 |x::l,k=>match k with
  |0=>[]
  |k+1=>x::Yy l k
def Ye(ops:Array Oper):Nat->Option Nat
 |0=>bif Ao ops 0 then some 0 else none
 |k+1=>bif Ao ops (mG k)then(match Ye ops k with
  |some j=>some j
  |none=>some (mG k))else none
def Rp{ρ:Ty}(ops:Array Oper)(S:St)(b:St->Option ρ.T):Option ρ.T:=bif C.P.follows .mixedOrders then(match Ye ops ops.size with
 |some k=>(fun l=>(fun A=>bif Region.seqB .any ops (Nat.sub ops.size k) k (hC k true++hC (Nat.sub ops.size k) false).toArray then(bif Bu l 0 then(bif Ci (Ba l)then(bif wG ops.toList A l l 0 then
   B1 C ops.toList l 0 S [] (fun S2 a=>bif Wb A a a 0 then AY C ops.toList (wS ops.toList k) k S2 b else none)else none)else none)else none)else none) (eZ l [])) (Yy ops.toList k)
 |none=>none)else none
abbrev Dn(τ:Ty):=Sc->St->(ρ:Ty)->(τ.T->Option ρ.T)->(Ex->St->Option ρ.T)->Option ρ.T
def T7:Dn τ:=fun _ S _ _ a=>a .nm S
def VL:Dn τ:=fun _ _ _ _ _=>none
def J0(ops:Array Oper)(d:Bool):Dn τ:=fun _ S _ _ a=>bif d then Rp C ops S (fun S2=>a .nm S2)else AY C ops.toList ops.toList 0 S fun S2=>a .nm S2
def vM{ρ:Type}(a:Ex->St->Option ρ)(f:St->Option ρ):Ex->St->Option ρ
 |.nm,S=>f S
 |.xt i,S=>a (.xt i) S
def yl{ρ:Type}:Ex->St->Option ρ:=fun _ _=>none
def FN(S:St)(J:List Key)(S2:St):Option (Ty.sm (lR J) τ).T:=match leaf S J S2 with
 |some v=>some (.inl v)
 |none=>none
def again(ops:List Oper):List Nat->St->St
 |[],S=>S
 |i::R,S=>again ops R (match eK ops i with
  |some o=>(match o.dst with
   |some d=>(match opP C (S.ev C) S.H o.op with
    |some ⟨[],v,_,_⟩=>S.set d v
    |_=>S)
   |none=>S)
  |none=>S)
def Od:Code->List Oper
 |.region _ ops d=>bif d then []else ops.toList
 |_=>[]
def kU:Op->Bool
 |.move _=>true
 |.assign _=>true
 |.binOp _ _ _ _ _=>true
 |.unOp _ _ _=>true
 |.convert _ _ _=>true
 |.index _ _ _=>true
 |.extract _ _=>true
 |.field _ _ _=>true
 |.build _ _=>true
 |.fieldAddr _ _ _=>true
 |.slice _ _ _ _ _=>true
 |_=>false
def RP(ops:List Oper)(i:Nat):Bool:=match eK ops i with
 |some o=>bif o.guard.isNone then(bif kU o.op then(match o.dst with
  |some d=>(bif jU d (Ba (wS ops (mG i)))then false else Yg (wH o.op.operands.toList) (d::Ba (wS ops (mG i))))
  |none=>false)else false)else false
 |none=>false
def Q1(ops:List Oper):List Nat->Bool
 |[]=>true
 |i::R=>bif RP ops i then Q1 ops R else false
def dSeq(x:Code)(w:List Nat)(a b:Dn τ):Dn τ:=fun e S ρ c d=>match e with
 |.j' J R g f=>bif S.Q2 J then(bif Q1 (Od x) R then Option.bind (a g S.Kt (lR J) (fun _=>none) (vM yl (leaf S J))) fun v=>b f (again C (Od x) R (S.out J w v)) ρ c d else none)else none
 |.r' J R g f=>bif S.Q2 J then(bif Q1 (Od x) R then Option.bind (a g S.Kt (.sm (lR J) τ) (fun r=>some (.inr r)) (vM yl (FN τ S J))) fun j=>eF (fun v=>b f (again C (Od x) R (S.out J w v)) ρ c d) (fun q=>c q) j else none)else none
 |e=>a e.A S ρ c (vM d fun S2=>b e.B S2 ρ c d)
def sn(c:Operand)(a b:Dn τ):Dn τ:=fun e S ρ f d=>match e with
 |.y' h=>WC (S.ev C c) (a h S ρ f d) none
 |.z' g=>WC (S.ev C c) none (b g S ρ f d)
 |e=>WC (S.ev C c) (a e.A S ρ f d) (b e.B S ρ f d)
def R2{ρ:Type}(id:Nat)(a:Ex->St->Option ρ):Ex->St->Option ρ
 |.nm,S=>a .nm S
 |.xt i,S=>bif cP i id then a .nm S else a (.xt i) S
def er(id:Nat)(a:Dn τ):Dn τ:=fun c S ρ d b=>a c S ρ d (R2 id b)
def Yw{ρ:Type}{T:Type}(a:St->Option T)(g:T->Option ρ)(S:St):Option ρ:=match a S with
 |some v=>g v
 |none=>none
def sk(w:List Nat)(a:Dn τ):Dn τ:=fun c S ρ f b=>match c with
 |.l' J d=>bif S.Q2 J then(match leaf S J S.Kt with
  |some v=>bM (fun g v=>a d (S.head J w v) ρ f (vM (fun e S2=>b e (S2.as S J)) (Yw (leaf S J) g))) C.fu v
  |none=>none)else none
 |_=>none
def dRet:Dn τ:=fun _ S _ a _=>match res S with
 |some r=>a r
 |none=>none
noncomputable def den(c:Code):Dn τ:=Code.rec (motive:=fun _=>Dn τ) (T7 τ) (fun _ ops d=>J0 C τ ops d) (fun x _ a b=>dSeq C τ x (wr x) a b) (fun c _ _ a b=>sn C τ c a b) (fun id _ a=>er τ id a) (fun x a=>sk C τ (wr x) a) (fun _ _ _ _ _ _=>VL τ)
 (fun id _ S _ _ e=>e (.xt id) S) (fun _ a=>a) (fun _=>T7 τ) (fun _=>VL τ) (dRet τ res) (fun _=>VL τ) c
end
def gK(C:Cx)(S:St):ResultVar->SV
 |.tmp t=>bif fC t C.nn then S.at t else .u'
 |.cell a t=>match bif fC a C.nn then S.at a else .u' with
  |.c' x=>match jE C S.H t x with
   |some ⟨[],v,_,_⟩=>v
   |_=>.u'
  |_=>.u'
def Pu(C:Cx)(a:Nat)(al:List Rg)(rs:List ResultVar)(r:List Rk)(S:St):Option (fM r).T:=match oy S.H r (rs.map (gK C S))with
 |some (x,ss)=>bif St.take ⟨S.F,S.H,a,al,[]⟩ ss then(bif Yg (fQ ss) (Rk.ids r)then some x else none)else none
 |none=>none
def ef{ρ:Type}(res:St->Option ρ):Ex->St->Option ρ
 |.nm,S=>res S
 |.xt _,_=>none
def AT(F:Tr SV):Nat->List SV->Tr SV
 |_,[]=>F
 |t,v::a=>AT (F.set t v) (t+1) a
def qV(r:List Rk):List Ob->List Ob->Nat->List Rg
 |_,[],_=>[]
 |H,o::l,j=>(bif tC (some o)then [(j,0,1)]else(bif jU j (Rk.ids r)then [qO H j]else []))++qV r H l (j+1)
def st0(gs:List Ob)(a:List Ty)(r:List Rk)(x:(fP a).T):St:=match hV [] a x with
 |(b,H)=>⟨AT Tr.e 0 b,H++gs,(H++gs).length,qV r H H 0,[]⟩
def zU:Ty->Bool
 |.l' _ _ _=>true
 |.y'=>true
 |_=>false
def Me(H:List Ob):List Rk->Bool
 |[]=>true
 |k::l=>bif (match k with
  |.r' _=>true
  |.o' id e x=>(match eK H id with
   |some (.bl a cs)=>bif cP a e then cP cs.length x.cn else false
   |_=>false)
  |.w' id x=>bif tC (eK H id)then zU x else false)then Me H l else false
def BD:List Ty->Bool
 |[]=>true
 |x::l=>bif x.tz then false else BD l
def ep(C:Cx)(gs:List Ob)(c:Code)(rs:List ResultVar)(sc:Sc)(a:List Ty)(r:List Rk)(x:(fP a).T):Option (fM r).T:=
 match st0 gs a r x with
 |⟨F,H,b,al,m⟩=>bif (bif BD a then(bif Ci (Rk.ids r)then Me (hV [] a x).2 r else false)else false)then den C (fM r) (Pu C b al rs r) c sc ⟨F,H,b,al,m⟩ (fM r) some (ef (Pu C b al rs r))else none
end
end Go.Oe
namespace Go.Ce
open Go.Wk
open Nat renaming beq → cP
theorem fh{α:Type}(c:Bool)(x y:α):bi c x y=if c=true then x else y:=by cases c<;>rfl
theorem K1(a b:Nat):(cP a b=true)=(a=b):=propext ⟨gP,fun h=>by subst h;exact Nat.beq_refl a⟩
def Pk.val:Pk->Nat
 |.h=>0
 |.o p=>2*p.val+2
 |.i p=>2*p.val+1
theorem Qh:∀(f k:Nat),k<f->(iv f k).val=k
 |0,k,h=>by omega
 |f+1,k,h=>by
  show(bi (cP k 0) Pk.h (bi (cP (k%2) 1) (Pk.i (iv f (k/2))) (Pk.o (iv f (k/2-1))))).val=k;simp only [fh,K1];by_cases a:k=0
  ·rw [aC a,a];rfl
  ·rw [aB a];by_cases h1:k%2=1
   ·rw [aC h1];show 2*(iv f (k/2)).val+1=k;rw [Qh f _ aA0];omega
   ·rw [aB h1];show 2*(iv f (k/2-1)).val+2=k;rw [Qh f _ aA0];omega
theorem RF(k:Nat):(pk k).val=k:=Qh (k+1) k (sL k)
theorem ak{k k':Nat}(h:pk k=pk k'):k=k':=by rw [<-RF k,h,RF]
theorem bar{α:Type}(x:α):∀(p:Pk) (t:Tr α),Tr.Kv p (Tr.PY x p t)=some x
 |.h,t=>rfl
 |.o p,t=>bar x p t.R
 |.i p,t=>bar x p t.L
theorem qI{α:Type}(x:α):∀(p q:Pk) (t:Tr α),q≠p->Tr.Kv q (Tr.PY x p t)=Tr.Kv q t
 |.h,.h,t,h=>absurd rfl h
 |.h,.o q,t,_=>rfl
 |.h,.i q,t,_=>rfl
 |.o p,.h,t,_=>rfl
 |.o p,.o q,t,h=>qI x p q t.R fun e=>h (by rw [e])
 |.o p,.i q,t,_=>rfl
 |.i p,.h,t,_=>rfl
 |.i p,.o q,t,_=>rfl
 |.i p,.i q,t,h=>qI x p q t.L fun e=>h (by rw [e])
theorem Tr.xI{α:Type}(t:Tr α)(k k':Nat)(x:α):(t.set k x).get k'=if k'=k then some x else t.get k':=by
 by_cases h:k'=k
 ·subst h;rw [aC rfl];exact bar x _ _
 ·rw [aB h];exact qI x _ _ _ fun e=>h (ak e)
theorem BU{α:Type}:∀p:Pk,Tr.Kv p (.e:Tr α)=none
 |.h=>rfl
 |.o p=>BU p
 |.i p=>BU p
theorem Tr.UB{α:Type}(k:Nat):(Tr.e:Tr α).get k=none:=BU _
section
variable {α : Type}
end
abbrev En:=Nat->Nat×Nat
def Cp.re(E:En)(j:Nat):Cp->Nat
 |.k c=>c
 |.r off=>(E j).2-off
def SC.re(E:En):SC->Value
 |.b x=>.bool x
 |.i k n=>.int k (k.wrap (n:Int))
 |.s l x=>str (dec l x)
 |.np=>.pointer none
 |.ns=>.slice none 0 0
 |.nf=>.nilFunc
 |.ni=>.nilIface
 |.nm=>.map none
 |.p j off=>.pointer (some ⟨(E j).1,off,none⟩)
 |.g j off=>.pointer (some ⟨j,off,none⟩)
 |.sl j base n c=>.slice (some ⟨(E j).1,base,none⟩) n (c.re E j)
 |.fn f cs=>.func (.func f) #[] (cs.map fun j=>Value.pointer (some ⟨(E j).1,0,none⟩)).toArray
 |.y j=>.func (.yield (E j).1) #[] #[]
 |.m j=>.map (some (E j).1)
 |.z j base dd off=>.slice (some ⟨(E j).1,if(E j).2-off=0 then base else base+dd,none⟩) 0 ((E j).2-off)
def SA.re(E:En):SA->Value
 |.c x=>x.re E
 |.a l=>.agg (l.map (SC.re E)).toArray
def SV.re(E:En):SV->Value
 |.c x=>x.re E
 |.a l=>.agg (l.map (SC.re E)).toArray
 |.t l=>.tuple (l.map (SA.re E)).toArray
 |.u=>undef
def SC.ok(n:Nat):SC->Prop
 |.p j _=>j<n
 |.sl j _ _ _=>j<n
 |.fn _ cs=>∀j∈cs,j<n
 |.y j=>j<n
 |.m j=>j<n
 |.z j _ _ _=>j<n
 |_=>True
def SA.ok(n:Nat):SA->Prop
 |.c x=>x.ok n
 |.a l=>∀x∈l,x.ok n
def SV.ok(n:Nat):SV->Prop
 |.c x=>x.ok n
 |.a l=>∀x∈l,x.ok n
 |.t l=>∀x∈l,x.ok n
 |.u=>True
noncomputable def tv(F:Tr SV)(t:Nat):SV:=(F.get t).getD .u
noncomputable def rF(E:En)(F:Tr SV):Nat->Value:=fun t=>(tv F t).re E
def Fok(n:Nat)(F:Tr SV):Prop:=∀t v,F.get t=some v->v.ok n
theorem Fok.set{n:Nat}{F:Tr SV}(h:Fok n F)(d:Nat){v:SV}(a:v.ok n):Fok n (F.set d v):=by
 intro t x hx;rw [Tr.xI]at hx;split at hx
 ·cases hx;exact a
 ·exact h t x hx
def Mo.ok(md:Mo)(cap len size:Nat)(a:Nat×Nat):Prop:=
 match md with
 |.ex=>size=len/\a=(0,0)
 |.rw sz m=>len=m*sz/\m<=cap/\cap<=maxLen/\size=cap*sz/\a=(0,0)
 |.bw=>len<=cap/\cap<=size/\size<=a.1
 |.fb=>size=len/\size<=a.1
def cres(b cap t:Nat)(md:Mo)(c:List Value):bX:=
 ⟨some b,fun o=>∃a t' d,o=some (.cells a t' d)/\(md=.bw\/t'=t)/\c.length<=a.size/\a.toList.take c.length=c/\md.ok cap c.length a.size d⟩
def qd(b:Nat)(busy:Bool)(j k:Nat)(d:List Nat)(c body:Code)(F:Nat->Value):bX:=
 ⟨some b,fun o=>∃a:Loop,a.assign=c/\a.body=body/\a.params=d.toArray/\a.tmps=(fr ⟨k,[],some none⟩ F).tmps/\
  (match busy with
  |false=>o=some (.loop {a with state:=MD j,pending:=jmp j})
  |true=>∃e,o=some (.loop {a with state:=.busy,pending:=e}))⟩
def qa(b:Nat)(l:List (Value×Value)):bX:=⟨some b,fun o=>∃es clock,o=some (.map es clock)/\es.toList.map (fun e=>(e.key,e.val))=l⟩
noncomputable def gK(E:En)(i:Nat):HB->bX
 |.cl t md c=>cres (E i).1 (E i).2 t md (c.map (SC.re E))
 |.it l x pos=>IK (E i).1 (dec l x) pos
 |.lp busy j k d b a F=>qd (E i).1 busy j k d b a (rF E F)
 |.df=>jT (E i).1
 |.gn=>⟨none,fun _=>True⟩
 |.mp es=>qa (E i).1 (es.map fun p=>(p.1.re E,p.2.re E))
def HB.ok(n:Nat):HB->Prop
 |.cl _ _ a=>∀x∈a,x.ok n
 |.lp _ _ _ _ _ _ F=>Fok n F
 |.mp es=>∀p∈es,p.1.ok n/\p.2.ok n
 |_=>True
noncomputable def jQ(H:Hs)(i:Nat):HB:=(H.t.get i).getD .gn
noncomputable def EX(E:En)(H:Hs):List bX:=(List.range H.nx).map fun i=>gK E i (jQ H i)
structure Inv (w0:World) (E:En) (H:Hs) (w:World):Prop where
 hp:Hp w0 [] (EX E H) w
 lt:∀i b,H.t.get i=some b->i<H.nx
 ok:∀i b,H.t.get i=some b->b.ok H.nx
section
variable {w0 w : World} {E : En} {H : Hs}
theorem QI{i:Nat}(a:i<H.nx):(EX E H)[i]? =some (gK E i (jQ H i)):=by simp [EX,a]
theorem Inv.at(h:Inv w0 E H w){i:Nat}{b:HB}(a:H.t.get i=some b):(EX E H)[i]? =some (gK E i b):=by rw [QI (h.lt i b a)];simp [jQ,a]
theorem Inv.cells(h:Inv w0 E H w){i t:Nat}{md:Mo}{b:List SC}(g:H.t.get i=some (.cl t md b)):
  ∃a t' c,w.heap[(E i).1]? =some (.cells a t' c)/\(md=.bw\/t'=t)/\b.length<=a.size/\a.toList.take b.length=b.map (SC.re E)/\md.ok (E i).2 b.length a.size c:=by
 have h1:=(h.hp.res _ (aG (h.at g))).1;obtain⟨a,t',c,h2,h3,f,e,d⟩:=h1;simp only [Dj]at f e d;exact⟨a,t',c,h2,h3,f,e,d⟩
end
end Go.Ce
namespace Go.Oe
open Go.Wk
open Go.Ce (Tr)
open Nat renaming one_pos → Di
theorem fW{α:Type}:∀(l:List α) (k:Nat),eK l k=l[k]?
 |[],_=>rfl
 |x::l,0=>rfl
 |x::l,k+1=>by rw [bT];exact fW l k
theorem nH{α:Type}:∀(l:List α) (k:Nat) (y:α),gU l k y=l.set k y
 |[],_,_=>rfl
 |x::l,0,y=>rfl
 |x::l,k+1,y=>by simp [gU,nH l k y]
theorem lL{α:Type}:∀(l:List α) (k:Nat),wS l k=l.drop k
 |[],k=>by simp [wS]
 |x::l,0=>rfl
 |x::l,k+1=>by rw [eP];exact lL l k
theorem uE{α:Type}:∀{l:List α} {k:Nat} {q:List α},wP l k=some q->q=l.take k/\k<=l.length
 |l,0,q,h=>by
  have:wP l 0=some []:=by cases l<;>rfl
  rw [this]at h;cases h;simp
 |[],k+1,q,h=>by cases h
 |x::l,k+1,q,h=>by
  simp only [wP]at h;split at h
  ·rename_i q' a;cases h;obtain⟨h1,h2⟩:=uE a;exact⟨by simp [h1],aC8⟩
  ·cases h
theorem ft:∀{l:List SC} {k:Nat} {vs q:List SC},sN l k vs=some q->k+vs.length<=l.length/\q=l.take k++vs++l.drop (k+vs.length)
 |l,0,[],q,h=>by
  have:sN l 0 []=some l:=by cases l<;>rfl
  rw [this]at h;cases h;simp
 |[],0,v::vs,q,h=>by cases h
 |[],k+1,vs,q,h=>by cases vs<;>cases h
 |x::l,0,v::vs,q,h=>by
  simp only [sN]at h;split at h
  ·rename_i q' a;cases h;obtain⟨h1,h2⟩:=ft a;simp at h1 h2⊢;exact⟨aA0,h2⟩
  ·cases h
 |x::l,k+1,vs,q,h=>by
  simp only [sN]at h;split at h
  ·rename_i q' a;cases h;obtain⟨h1,h2⟩:=ft a;refine⟨by simp;omega, ?_⟩;rw [h2];simp [Jq]
  ·cases h
theorem pM{l vs q:List SC}{k:Nat}(h:sN l k vs=some q)(j:Nat):q[j]? =if k<=j/\j<k+vs.length then vs[j-k]? else l[j]? :=by
 obtain⟨h1,rfl⟩:=ft h;by_cases b:j<k
 ·rw [aB aA0,iI,aI aA6,bO,aC b]
 ·by_cases a:j<k+vs.length
  ·rw [aC ⟨aA0,a⟩,aI aA6,aK aA6];simp;congr 1;omega
  ·rw [aB aA0,aK aA6,bU];congr 1;simp;omega
theorem wB{l vs q:List SC}{k:Nat}(h:sN l k vs=some q):q.length=l.length:=by obtain⟨h1,rfl⟩:=ft h;simp;omega
theorem FV:∀{l:List SC},knL l=true->∀x∈l,x.kn=true
 |[],_,x,hx=>by cases hx
 |y::l,h,x,hx=>by
  have h:=gJ h;rcases aN.1 hx with rfl|hx
  ·exact h.1
  ·exact FV h.2 x hx
theorem RU(j:Nat):(B7 j).oneCell'=true:=by unfold B7;split<;>rfl
theorem SC.one(ρ:Nat->Ad)(c:SC):(c.v ρ).oneCell'=true:=by cases c<;>first|rfl|exact RU _
theorem MI(H:List Ob)(id:Nat):eY H id=(H[id]?.map Ob.len).getD 0:=by unfold eY;rw [fW];cases H[id]? <;>rfl
def SC.ids:SC->List Nat
 |.p' id _=>[id]
 |.q' id _ _ _=>[id]
 |.l' id=>[id]
 |.k' id _=>[id]
 |.f' _ ids=>ids
 |.z' id a=>[id,a]
 |_=>[]
theorem SC.nk{ρ bD:Nat->Ad}{c:SC}(h:∀id∈c.ids,bD id=ρ id):c.v bD=c.v ρ:=by
 cases c<;>simp only [SC.v]
 case p' id off=>rw [h id aE2]
 case q' id j sz off=>rw [h id aE2]
 case l' id=>rw [h id aE2]
 case k' id n=>rw [h id aE2]
 case f' k ids=>
  have:(ids.map fun id=>gM (bD id).b 0)=ids.map fun id=>gM (ρ id).b 0:=YE fun id hid=>by rw [h id hid]
  rw [this]
 case z' id a=>rw [h id aE2,h a aE2]
def SC.ok(n:Nat)(c:SC):Prop:=∀id∈c.ids,id<n
def SA.ok(n:Nat):SA->Prop
 |.c' x=>x.ok n
 |.a' l=>∀x∈l,x.ok n
def SV.ok(n:Nat):SV->Prop
 |.c' x=>x.ok n
 |.a' l=>∀x∈l,x.ok n
 |.t' l=>∀x∈l,x.ok n
 |_=>True
def Up(n:Nat)(ρ bD:Nat->Ad):Prop:=∀id,id<n->bD id=ρ id
theorem Up.refl{n:Nat}{ρ:Nat->Ad}:Up n ρ ρ:=fun _ _=>rfl
theorem Up.trans{n m:Nat}{ρ bD ρ3:Nat->Ad}(h:Up n ρ bD)(b:Up m bD ρ3)(c:n<=m):Up n ρ ρ3:=
 fun id a=>(b id aA0).trans (h id a)
theorem SC.up{n:Nat}{ρ bD:Nat->Ad}{c:SC}(a:Up n ρ bD)(h:c.ok n):c.v bD=c.v ρ:=SC.nk fun id b=>a id (h id b)
theorem Pq{n:Nat}{ρ bD:Nat->Ad}{l:List SC}(a:Up n ρ bD)(h:∀x∈l,x.ok n):l.map (SC.v bD)=l.map (SC.v ρ):=YE fun x hx=>SC.up a (h x hx)
theorem SA.up{n:Nat}{ρ bD:Nat->Ad}{c:SA}(a:Up n ρ bD)(h:c.ok n):c.v bD=c.v ρ:=by
 cases c with
 |c' x=>exact SC.up a h
 |a' l=>simp only [SA.v];rw [Pq a h]
theorem SV.up{n:Nat}{ρ bD:Nat->Ad}{c:SV}(a:Up n ρ bD)(h:c.ok n):c.v bD=c.v ρ:=by
 cases c with
 |c' x=>simp only [SV.v];rw [SC.up a h]
 |a' l=>simp only [SV.v];rw [Pq a h]
 |t' l=>simp only [SV.v];rw [YE fun x hx=>SA.up a (h x hx)]
 |_=>rfl
theorem SC.cK{n m:Nat}{c:SC}(h:c.ok n)(a:n<=m):c.ok m:=fun id b=>To (h id b) a
theorem SV.cK{n m:Nat}{c:SV}(h:c.ok n)(a:n<=m):c.ok m:=by
 cases c with
 |c' x=>exact SC.cK h a
 |a' l=>exact fun x hx=>SC.cK (h x hx) a
 |t' l=>
  intro x hx;have:=h x hx;cases x with
  |c' y=>exact SC.cK this a
  |a' l=>exact fun y b=>SC.cK (this y b) a
 |_=>trivial
theorem SA.ZI(ρ:Nat->Ad)(x:SA):x.sv.v ρ=some (x.v ρ):=by cases x<;>rfl
theorem SA.Be{n:Nat}{x:SA}(h:x.ok n):x.sv.ok n:=by cases x<;>exact h
theorem SV.Eb{ρ:Nat->Ad}{x:SV}{cs:List SC}(h:x.cells=some cs):∃v,x.v ρ=some v/\v.cells=(cs.map (SC.v ρ)).toArray:=by
 cases x with
 |c' x=>cases h;refine⟨_,rfl, ?_⟩;have:=SC.one ρ x;rw [tM,dP];generalize x.v ρ=v at this⊢;cases v<;>first|rfl|simp [Value.oneCell']at this
 |a' l=>cases h;exact⟨_,rfl,rfl⟩
 |_=>cases h
theorem SV.It{n:Nat}{x:SV}{cs:List SC}(h:x.cells=some cs)(hx:x.ok n):∀c∈cs,c.ok n:=by
 cases x with
 |c' x=>cases h;intro c a;simp at a;subst a;exact hx
 |a' l=>cases h;exact hx
 |_=>cases h
theorem Ty.Rl:∀(t:Ty) (x:t.T),t.flat=true->(t.enc x).length=t.sz:=by
 intro t;induction t with
 |w' t e=>intro x h;exact e x h
 |pr a b d c=>intro x h;have h:=gJ h;show(a.enc x.1++b.enc x.2).length=a.sz+b.sz;rw [cB,d _ h.1,c _ h.2]
 |i' k=>intro x h;rfl
 |c'=>intro x h;rfl
 |s'=>intro x h;rfl
 |b'=>intro x h;rfl
 |_=>intro x h;cases h
theorem Ty.I1:∀(t:Ty) (x:t.T),∀v∈t.enc x,v.oneCell'=true:=by
 intro t;induction t with
 |w' t f=>intro x;exact f x
 |pr a b e d=>
  intro x v c;rcases aU.1 (show v∈a.enc x.1++b.enc x.2 from c)with h|h
  ·exact e _ v h
  ·exact d _ v h
 |i' k=>intro x v c;have:v=_:=aE.1 c;subst this;rfl
 |c'=>intro x v c;have:v=_:=aE.1 c;subst this;rfl
 |s'=>intro x v c;have:v=_:=aE.1 c;subst this;rfl
 |b'=>intro x v c;have:v=_:=aE.1 c;subst this;rfl
 |_=>intro x v c;cases c
theorem Ty.tA{t:Ty}(h:t.flat=true):oV t.enc t.sz:=⟨fun x=>t.Rl x h,fun x=>t.I1 x⟩
theorem Ty.yS:∀{t:Ty},t.flat=true->0<t.sz:=by
 intro t;induction t with
 |w' t e=>intro h;exact e h
 |pr a b c d=>intro h;have h:=gJ h;have:=c h.1;show 0<a.sz+b.sz;omega
 |_=>intro h;exact Di
theorem Ty.wT:∀(t:Ty) (s n:Nat) (x:t.T),t.flat=true->(t.lay s n x).2=[]/\∀ρ,(t.lay s n x).1.map (SC.v ρ)=t.enc x:=by
 intro t;induction t with
 |w' t e=>intro s n x h;exact e s n x h
 |pr a b d c=>
  intro s n x h;have h:=gJ h;have h1:=d s n x.1 h.1;have h2:=c s (n+a.no) x.2 h.2;refine⟨?_,fun ρ=> ?_⟩
  ·show(a.lay s n x.1).2++(b.lay s (n+a.no) x.2).2=[];rw [h1.1,h2.1];rfl
  ·show((a.lay s n x.1).1++(b.lay s (n+a.no) x.2).1).map (SC.v ρ)=a.enc x.1++b.enc x.2;rw [Om,h1.2,h2.2]
 |i' k=>intro s n x h;exact⟨rfl,fun _=>rfl⟩
 |c'=>intro s n x h;exact⟨rfl,fun _=>rfl⟩
 |s'=>intro s n x h;exact⟨rfl,fun _=>rfl⟩
 |b'=>intro s n x h;exact⟨rfl,fun _=>rfl⟩
 |_=>intro s n x h;cases h
theorem Ty.My:∀(t:Ty) (s n:Nat) (x:t.T),t.flat=true->∀c∈(t.lay s n x).1,c.ids=[]/\c.kn=true:=by
 intro t;induction t with
 |w' t g=>intro s n x h;exact g s n x h
 |pr a b f e=>
  intro s n x h c d;have h:=gJ h;rcases aU.1 (show c∈(a.lay s n x.1).1++(b.lay s (n+a.no) x.2).1 from d)with d|d
  ·exact f s n x.1 h.1 c d
  ·exact e s _ x.2 h.2 c d
 |i' k=>intro s n x h c d;have:c=_:=aE.1 d;subst this;exact⟨rfl,rfl⟩
 |c'=>intro s n x h c d;have:c=_:=aE.1 d;subst this;exact⟨rfl,rfl⟩
 |s'=>intro s n x h c d;have:c=_:=aE.1 d;subst this;exact⟨rfl,rfl⟩
 |b'=>intro s n x h c d;have:c=_:=aE.1 d;subst this;exact⟨rfl,rfl⟩
 |_=>intro s n x h c d;cases h
theorem pc{k:IntKind}{x:SC}{y:Int}(h:x.rI k=some y)(ρ:Nat->Ad):x.v ρ=.int k y:=by
 cases x<;>simp only [SC.rI,reduceCtorEq]at h;rename_i b n;cases a:BH k b with
 |true=>rw [a]at h;cases h;rw [kT a];rfl
 |false=>rw [a]at h;cases h
theorem z1{x:SC}{y:UInt8}(h:x.rC=some y)(ρ:Nat->Ad):x.v ρ=bt y:=by cases x<;>simp only [SC.rC,reduceCtorEq]at h;cases h;rfl
theorem pb{x:SC}{y:aA}(h:x.rS=some y)(ρ:Nat->Ad):x.v ρ=str y:=by cases x<;>simp only [SC.rS,reduceCtorEq]at h;cases h;rfl
theorem A4{x:SC}{y:Bool}(h:x.rB=some y)(ρ:Nat->Ad):x.v ρ=.bool y:=by cases x<;>simp only [SC.rB,reduceCtorEq]at h<;>cases h<;>rfl
theorem QM:∀(t:Ty) (l:List SC) (x:t.T) (r:List SC),t.Vj l=some (x,r)->t.flat=true/\∀ρ,l.map (SC.v ρ)=t.enc x++r.map (SC.v ρ):=by
 intro t;induction t with
 |w' t m=>intro l x r h;exact m l x r h
 |pr a b f e=>
  intro l x r h;simp only [Ty.Vj]at h;split at h
  ·rename_i j g o;split at h
   ·rename_i i p n;cases h;have h1:=f l j g o;have h2:=e g i _ n;refine⟨by simp [Ty.flat,h1.1,h2.1],fun ρ=> ?_⟩;rw [h1.2,h2.2,<-iI];rfl
   ·cases h
  ·cases h
 |i' k=>
  intro l x r h;cases l with
  |nil=>cases h
  |cons c l=>
   simp only [Ty.Vj]at h;split at h
   ·rename_i y d;cases h;exact⟨rfl,fun ρ=>by rw [tM,pc d];rfl⟩
   ·cases h
 |c'=>
  intro l x r h;cases l with
  |nil=>cases h
  |cons c l=>
   simp only [Ty.Vj]at h;split at h
   ·rename_i y d;cases h;exact⟨rfl,fun ρ=>by rw [tM,z1 d];rfl⟩
   ·cases h
 |s'=>
  intro l x r h;cases l with
  |nil=>cases h
  |cons c l=>
   simp only [Ty.Vj]at h;split at h
   ·rename_i y d;cases h;exact⟨rfl,fun ρ=>by rw [tM,pb d];rfl⟩
   ·cases h
 |b'=>
  intro l x r h;cases l with
  |nil=>cases h
  |cons c l=>
   simp only [Ty.Vj]at h;split at h
   ·rename_i y d;cases h;exact⟨rfl,fun ρ=>by rw [tM,A4 d];rfl⟩
   ·cases h
 |_=>intro l x r h;cases h
theorem XX{t:Ty}:∀{m:Nat} {l:List SC} {a:List t.T},oC t m l=some a->a.length=m/\(m≠0->t.flat=true)/\∀ρ,l.map (SC.v ρ)=a.flatMap t.enc
 |0,l,a,h=>by
  cases l with
  |nil=>cases h;exact⟨rfl,fun h=>absurd rfl h,fun _=>rfl⟩
  |cons c l=>cases h
 |m+1,l,a,h=>by
  simp only [oC]at h;split at h
  ·rename_i y b e;split at h
   ·rename_i q d;cases h;obtain⟨h1,h2,h3⟩:=XX d;obtain⟨g,f⟩:=QM t l y b e;exact⟨by simp [h1],fun _=>g,fun ρ=>by rw [f,h3];rfl⟩
   ·cases h
  ·cases h
theorem eh(t:Ty)(l:List t.T)(j:Int):MH t l j= @el t.T t.F7 l j:=by cases t<;>first|rfl|(show at_ _ _=_;rfl)
open Nat renaming beq → cP
def mh(ρ:Nat->Ad)(cs:List SC)(vs:List Value):Prop:=vs.length=cs.length/\∀(j:Nat) (c:SC),cs[j]? =some c->c.kn=true->vs[j]? =some (c.v ρ)
def Ta(w0:World)(S0:List Nat)(d:Ad)(t:Ty)(l:List t.T):Prop:=
 Rd w0 d.a (l.flatMap t.enc)/\(l.flatMap t.enc≠[]->∀p,d.a=some p->p.block∉S0)/\l.length<=d.cap
def RO(w0:World)(S0:List Nat)(ρ:Nat->Ad)(id:Nat):Ob->bX->Prop
 |.bl e cs,r=>∃c,r=aM (ρ id).b c e/\mh ρ cs c
 |.rw e _ t l,r=>r=aX t.enc e t.sz (ρ id).o (ρ id).a (ρ id).cap l
 |.ro t l,r=>r.own=none/\Ta w0 S0 (ρ id) t l
 |.br n l,r=>r=eN (.slice (ρ id).a n (ρ id).cap) n l
 |.dd _,r=>True
def Mt(w0:World)(S0:List Nat)(ρ:Nat->Ad)(H:List Ob)(L:List bX):Prop:=
 L.length=H.length/\∀(id:Nat) (o:Ob),H[id]? =some o->o.len=(ρ id).ln/\∃r,L[id]? =some r/\RO w0 S0 ρ id o r
def Src.ad(ρ:Nat->Ad):Src->Ad
 |.o' id _=>ρ id
 |.n'=>⟨none,none,0,false,0⟩
 |.k' id m _=>⟨some (ρ id).b,some ⟨(ρ id).b,0,none⟩,m,false,m⟩
 |.z' t=>⟨none,none,0,t,0⟩
def LM(any:Bool)(ρ:Nat->Ad)(H:List Ob)(bD:Nat->Ad):Src->Ob->Prop
 |s,.bl e a=>∃id cs,s=.o' id true/\H[id]? =some (.bl e cs)/\cs.map (SC.v ρ)=a.map (SC.v bD)/\(∀c∈cs,c.kn=true)/\∀c∈a,c.kn=true
 |s,.rw e b t l=>(∃id,s=.o' id true/\H[id]? =some (.rw e b t l))\/(s=.n'/\l=[])\/(∃id m cs,s=.k' id m true/\H[id]? =some (.bl e cs)/\oC t m cs=some l/\t.flat=true/\m<=1048576)
 |s,.br n l=>n=l.length/\∃id m,s=.o' id true/\H[id]? =some (.br m l)
 |s,.ro t l=>(∃id,s=.o' id false/\(bif any then tG t H[id]? else QF t H[id]?)=some l)\/(s=.n'/\l=[])\/(any=true/\∃id m e cs,s=.k' id m false/\H[id]? =some (.bl e cs)/\oC t m cs=some l)
 |s,.dd n=>n=0/\((∃t,s=.z' t)\/∃d,s=.o' d false/\H[d]? =some (.dd 0))
structure At (t:Ty) (ρ:Nat->Ad) (me:Nat) (ss:List Src) (bD:Nat->Ad) (Ur n:Nat):Prop where
 sf:t.tz=true->(bD Ur).b=(ρ me).b
 ad:∀(j:Nat) (s:Src),ss[j]? =some s->bD (n+j)=s.ad ρ
theorem At.left{a b:Ty}{ρ:Nat->Ad}{self:Nat}{d f:List Src}{bD:Nat->Ad}{c n:Nat}(h:At (.pr a b) ρ self (d++f) bD c n):At a ρ self d bD c n:=
 ⟨fun g=>h.sf (by simp [Ty.tz,g]),fun j s e=>h.ad j s (by rw [aI (aD.1 e).1];exact e)⟩
theorem At.right{a b:Ty}{ρ:Nat->Ad}{self:Nat}{d e:List Src}{bD:Nat->Ad}{c n:Nat}(h:At (.pr a b) ρ self (d++e) bD c n):At b ρ self e bD c (n+d.length):=
 ⟨fun f=>h.sf (by simp [Ty.tz,f]),fun j s g=>by rw [Ax];exact h.ad (d.length+j) s (by rw [aK aA0,<-g];congr 1;omega)⟩
theorem Ty.Qw:∀(t:Ty) (s n:Nat) (x:t.T),(t.lay s n x).1.length=t.cn:=by
 intro t;induction t with
 |w' t e=>intro s n x;exact e s n x
 |pr a b d c=>intro s n x;show((a.lay s n x.1).1++(b.lay s (n+a.no) x.2).1).length=a.cn+b.cn;rw [cB,d,c]
 |_=>intro s n x;rfl
theorem Ty.dZ:∀(t:Ty) (s n:Nat) (x:t.T),(t.lay s n x).2.length=t.no:=by
 intro t;induction t with
 |w' t c=>intro s n x;exact c s n x
 |pr a b f d=>intro s n x;show((a.lay s n x.1).2++(b.lay s (n+a.no) x.2).2).length=a.no+b.no;rw [cB,f,d]
 |p' e t c=>intro s n x;show(_::(t.lay n (n+1) x).2).length=t.no+1;rw [cF,c]
 |f' k t c=>intro s n x;exact c s n x
 |_=>intro s n x;rfl
theorem wN:∀{l:List SC} {id:Nat},id∈iT l->∃c∈l,id∈c.ids
 |[],id,h=>by cases h
 |x::l,id,h=>by
  cases x
  case p' i off=>
   rcases aN.1 (show id∈i::iT l from h)with h|h
   ·subst h;exact⟨_,iH,by simp [SC.ids]⟩
   ·obtain⟨c,h1,h2⟩:=wN h;exact⟨c,fU _ h1,h2⟩
  all_goals
   obtain⟨c,h1,h2⟩:=wN (show id∈iT l from h);exact⟨c,fU _ h1,h2⟩
theorem Ty.zM:∀(t:Ty) (s n:Nat) (x:t.T),∀c∈(t.lay s n x).1,c.kn=true/\∀id∈c.ids,id=s\/(n<=id/\id<n+(t.lay s n x).2.length):=by
 intro t;induction t with
 |w' t g=>intro s n x;exact g s n x
 |pr a b j i=>
  intro s n x c d;have l:((Ty.pr a b).lay s n x).2.length=a.no+(b.lay s (n+a.no) x.2).2.length:=by show((a.lay s n x.1).2++(b.lay s (n+a.no) x.2).2).length=_;rw [cB,Ty.dZ]
  have m:=a.dZ s n x.1;rcases aU.1 (show c∈(a.lay s n x.1).1++(b.lay s (n+a.no) x.2).1 from d)with d|d
  ·obtain⟨h1,h2⟩:=j s n x.1 c d;refine⟨h1,fun id f=> ?_⟩;rcases h2 id f with h|h
   ·exact .inl h
   ·right;rw [l];omega
  ·obtain⟨h1,h2⟩:=i s _ x.2 c d;refine⟨h1,fun id f=> ?_⟩;rcases h2 id f with h|h
   ·exact .inl h
   ·right;rw [l];omega
 |f' k t g=>intro s n x c d;have:c=_:=aE.1 d;subst this;refine⟨rfl,fun id f=> ?_⟩;obtain⟨o,h1,h2⟩:=wN (show id∈iT (t.lay s n x).1 from f);exact(g s n x o h1).2 id h2
 |p' e t g=>intro s n x c d;have:c=_:=aE.1 d;subst this;refine⟨rfl,fun id f=> ?_⟩;have:id=n:=aE.1 f;subst this;exact .inr ⟨eJ _,by show id<id+(_::_:List Ob).length;simp⟩
 |l' e b t g=>intro s n x c d;have:c=_:=aE.1 d;subst this;refine⟨rfl,fun id f=> ?_⟩;have:id=n:=aE.1 f;subst this;exact .inr ⟨eJ _,sL _⟩
 |r' t g=>intro s n x c d;have:c=_:=aE.1 d;subst this;refine⟨rfl,fun id f=> ?_⟩;have:id=n:=aE.1 f;subst this;exact .inr ⟨eJ _,sL _⟩
 |y'=>intro s n x c d;have:c=_:=aE.1 d;subst this;refine⟨rfl,fun id f=> ?_⟩;have:id=n:=aE.1 f;subst this;exact .inr ⟨eJ _,sL _⟩
 |z'=>
  intro s n x c d;have:c=_:=aE.1 d;subst this;refine⟨rfl,fun id f=> ?_⟩;have:id=s\/id=n:=by simpa [SC.ids] using f
  rcases this with h|h
  ·exact .inl h
  ·subst h;exact .inr ⟨eJ _,sL _⟩
 |u'=>intro s n x c d;cases d
 |sm a b _ _=>intro s n x c d;cases d
 |_=>intro s n x c d;have:c=_:=aE.1 d;subst this;exact⟨rfl,fun id f=>by cases f⟩
theorem wC:∀(a b:List SC),iT (a++b)=iT a++iT b
 |[],b=>rfl
 |x::a,b=>by have:=wC a b;cases x<;>simp [iT,this]
theorem QU:∀(t:Ty) (s n:Nat) (x:t.T),t.QV=true->(t.lay s n x).1=(iT (t.lay s n x).1).map fun id=>.p' id 0:=by
 intro t;induction t with
 |pr a b d c=>intro s n x h;have h:=gJ h;show(a.lay s n x.1).1++(b.lay s (n+a.no) x.2).1=(iT ((a.lay s n x.1).1++(b.lay s (n+a.no) x.2).1)).map _;rw [wC,Om,<-d s n x.1 h.1,<-c _ _ _ h.2]
 |p' e t f=>intro s n x h;rfl
 |u'=>intro s n x h;rfl
 |_=>intro s n x h;cases h
theorem lK{H:List Ob}{id:Nat}{o:Ob}(h:H[id]? =some o):eY H id=o.len:=by rw [MI,h];rfl
theorem Og{t:Ty}{o:Option Ob}{l:List t.T}(d:∀m x,o=some (.br m x)->x.length=m)(h:tG t o=some l):∃ob,o=some ob/\ob.len=l.length:=by
 unfold tG at h;split at h
 ·rename_i e b t2 c;split at h
  ·rename_i a;obtain rfl:=Ty.iM a;cases h;exact⟨_,rfl,rfl⟩
  ·cases h
 ·rename_i t2 c;split at h
  ·rename_i a;obtain rfl:=Ty.iM a;cases h;exact⟨_,rfl,rfl⟩
  ·cases h
 ·rename_i m c;have:=d m c rfl;unfold strOf at h;split at h
  ·rename_i a;obtain rfl:=Ty.iM a;cases h;exact⟨_,rfl,this.symm⟩
  ·cases h
 ·cases h
theorem yW{t:Ty}{o:Option Ob}{l:List t.T}(h:QF t o=some l):o=some (.ro t l):=by
 unfold QF at h;split at h
 ·rename_i t2 b;split at h
  ·rename_i a;obtain rfl:=Ty.iM a;cases h;rfl
  ·cases h
 ·cases h
theorem rW{t:Ty}{o:Option Ob}{q:Nat×Nat}{l:List t.T}(h:yi o=some q)(h2:rowOf t o=some l):o=some (.rw q.1 q.2 t l):=by
 unfold yi at h;split at h
 ·rename_i e b t2 c;cases h;unfold rowOf at h2;simp only at h2;split at h2
  ·rename_i a;obtain rfl:=Ty.iM a;cases h2;rfl
  ·cases h2
 ·cases h
theorem lV{α:Type}{f:SC->Option α}{l r:List SC}{x:α}{ss:List Src}(h:R3 f l=some (x,r,ss)):∃c,l=c::r/\f c=some x/\ss=[]:=by
 cases l with
 |nil=>cases h
 |cons c l=>
  simp only [R3]at h;split at h
  ·rename_i y a;cases h;exact⟨c,rfl,a,rfl⟩
  ·cases h
structure ya (any:Bool) (H:List Ob) (t:Ty) (me:Nat) (l:List SC) (x:t.T) (r:List SC) (ss:List Src):Prop where
 no:ss.length=t.no
 kn:∃us,l=us++r/\∀c∈us,c.kn=true
 to:∀(ρ bD:Nat->Ad) (Ur n:Nat),At t ρ me ss bD Ur n->
  l.map (SC.v ρ)=(t.lay Ur n x).1.map (SC.v bD)++r.map (SC.v ρ)/\∀(j:Nat) (s:Src) (o:Ob),ss[j]? =some s->(t.lay Ur n x).2[j]? =some o->LM any ρ H bD s o
theorem tW{any:Bool}{H:List Ob}{t:Ty}{self:Nat}{c:SC}{x:t.T}{r:List SC}{s:Src}{o:Ob}{g:Nat->SC}(k:c.kn=true)(b:t.no=1)(i:∀d n,t.lay d n x=([g n],[o]))
  (e:∀(ρ bD:Nat->Ad) (n:Nat),bD n=s.ad ρ->c.v ρ=(g n).v bD) (f:∀(ρ bD:Nat->Ad),LM any ρ H bD s o):ya any H t self (c::r) x r [s]:=by
 refine⟨by rw [b];rfl,⟨[c],rfl,fun m h=>by rw [aE.1 h];exact k⟩,fun ρ bD a n h=> ?_⟩;rw [i];refine⟨?_,fun j d l h1 h2=> ?_⟩
 ·have:=e ρ bD n (h.ad 0 s rfl);simp [this]
 ·cases j with
  |zero=>cases h1;cases h2;exact f ρ bD
  |succ j=>simp at h1
def DF(H:List Ob):Prop:=∀(id m:Nat) (x:aA),H[id]? =some (.br m x)->x.length=m
theorem dC{α:Type}{c:Bool}{a:Option α}{r:α}(h:(bif c then a else none)=some r):c=true/\a=some r:=by
 cases c with
 |true=>exact⟨rfl,h⟩
 |false=>cases h
theorem QK(any:Bool)(H:List Ob)(Q:DF H):∀(t:Ty) (self:Nat) (l:List SC) (x:t.T) (r:List SC) (ss:List Src),t.rd any H self l=some (x,r,ss)->ya any H t self l x r ss:=by
 intro t;induction t with
 |i' k=>intro self l x r ss h;obtain⟨c,rfl,f,rfl⟩:=lV h;exact⟨rfl,⟨[c],rfl,fun c2 h=>by rw [aE.1 h];cases c<;>first|rfl|cases f⟩,fun ρ bD d n h=>⟨by rw [tM,pc f];rfl,fun j s o h1=>by simp at h1⟩⟩
 |c'=>intro self l x r ss h;obtain⟨c,rfl,f,rfl⟩:=lV h;exact⟨rfl,⟨[c],rfl,fun c2 h=>by rw [aE.1 h];cases c<;>first|rfl|cases f⟩,fun ρ bD d n h=>⟨by rw [tM,z1 f];rfl,fun j s o h1=>by simp at h1⟩⟩
 |s'=>intro self l x r ss h;obtain⟨c,rfl,f,rfl⟩:=lV h;exact⟨rfl,⟨[c],rfl,fun c2 h=>by rw [aE.1 h];cases c<;>first|rfl|cases f⟩,fun ρ bD d n h=>⟨by rw [tM,pb f];rfl,fun j s o h1=>by simp at h1⟩⟩
 |b'=>intro self l x r ss h;obtain⟨c,rfl,f,rfl⟩:=lV h;exact⟨rfl,⟨[c],rfl,fun c2 h=>by rw [aE.1 h];cases c<;>first|rfl|cases f⟩,fun ρ bD d n h=>⟨by rw [tM,A4 f];rfl,fun j s o h1=>by simp at h1⟩⟩
 |u'=>intro self l x r ss h;cases h;exact⟨rfl,⟨[],rfl,fun c h=>by cases h⟩,fun ρ bD d n h=>⟨rfl,fun j s o h1=>by simp at h1⟩⟩
 |w' t E=>intro self l x r ss h;exact⟨(E self l x r ss h).no,(E self l x r ss h).kn,fun ρ bD d n jQ=>(E self l x r ss h).to ρ bD d n ⟨jQ.sf,jQ.ad⟩⟩
 |pr a b a1 a0=>
  intro self l x r ss h;simp only [Ty.rd]at h;split at h
  ·rename_i W l1 Z N;split at h
   ·rename_i Y B s2 hq;cases h;have U:=a1 self l W l1 Z N;have L:=a0 self l1 Y _ s2 hq;obtain⟨us,F,J⟩:=U.kn;obtain⟨ws,a4,a3⟩:=L.kn;refine⟨by rw [cB,U.no,L.no];rfl,⟨us++ws,by rw [F,a4,iI],fun c f=>(aU.1 f).elim (J c) (a3 c)⟩,fun ρ bD d n jQ=> ?_⟩;have hl:Z.length=(a.lay d n W).2.length:=by rw [U.no,Ty.dZ]
    obtain⟨h1,h2⟩:=U.to ρ bD d n jQ.left;obtain⟨h3,h4⟩:=L.to ρ bD d (n+a.no) (by have:=jQ.right;rwa [U.no]at this);refine⟨?_,fun j s o p u=> ?_⟩
    ·show _=((a.lay d n W).1++(b.lay d (n+a.no) Y).1).map _++_;rw [h1,h3,Om,iI]
    ·have G:((a.lay d n W).2++(b.lay d (n+a.no) Y).2)[j]? =some o:=u;by_cases D:j<Z.length
     ·rw [aI D]at p;rw [aI aA0]at G;exact h2 j s o p G
     ·rw [aK aA0]at p;rw [aK aA0,<-hl]at G;exact h4 _ s o p G
   ·cases h
  ·cases h
 |sm a b _ _=>intro self l x r ss h;cases h
 |l' e b t E=>
  intro self l x r ss h;simp only [Ty.rd]at h;split at h
  ·cases h;exact tW (g:=fun n=>.l' n) rfl rfl (fun _ _=>rfl) (fun ρ bD n h1=>by simp [SC.v,h1,Src.ad]) (fun _ _=>.inr (.inl ⟨rfl,rfl⟩))
  ·rename_i id B;split at h
   ·rename_i q hq;cases A:cP q.1 e with
    |false=>rw [A]at h;cases h
    |true=>
     cases L:cP q.2 b with
     |false=>rw [A,L]at h;cases h
     |true=>
      rw [A,L]at h;simp only [aL]at h;split at h
      ·rename_i y z;cases h;have w:=rW hq z;rw [fW,gP A,gP L]at w;exact tW (g:=fun n=>.l' n) rfl rfl (fun _ _=>rfl) (fun ρ bD n h1=>by simp [SC.v,h1,Src.ad]) (fun _ _=>.inl ⟨id,rfl,w⟩)
      ·cases h
   ·cases h
  ·rename_i id m B;split at h
   ·rename_i V cs w;rw [fW]at w;cases A:cP V e with
    |false=>rw [A]at h;cases h
    |true=>
     rw [A]at h;simp only [aL]at h;have h:=dC h;have hm:=dC h.2;have h2:=hm.2;split at h2
     ·rename_i y z;cases h2;rw [gP A]at w;refine tW (g:=fun n=>.l' n) rfl rfl (fun _ _=>rfl) (fun ρ bD n h1=> ?_) (fun _ _=>.inr (.inr ⟨id,m,cs,rfl,w,z,h.1,Tp hm.1⟩));have:=(XX z).1;simp [SC.v,h1,Src.ad]
     ·cases h2
   ·cases h
  ·cases h
 |y'=>
  intro self l x r ss h;simp only [Ty.rd]at h;split at h
  ·rename_i id B;split at h
   ·rename_i m y w;cases h;rw [fW]at w;have hm:=Q id m x w;exact tW (g:=fun n=>.l' n) rfl rfl (fun _ _=>rfl) (fun ρ bD n h1=>by simp [SC.v,h1,Src.ad]) (fun _ _=>⟨rfl,id,m,rfl,w⟩)
   ·cases h
  ·cases h
 |r' t E=>
  intro self l x r ss h;simp only [Ty.rd]at h;split at h
  ·cases h;exact tW (g:=fun n=>.l' n) rfl rfl (fun _ _=>rfl) (fun ρ bD n h1=>by simp [SC.v,h1,Src.ad]) (fun _ _=>.inr (.inl ⟨rfl,rfl⟩))
  ·rename_i id B;split at h
   ·rename_i y z;cases h
    rw [fW]at z;have b1:eY H id=x.length:=by
     cases any with
     |true=>obtain⟨ob,h1,h2⟩:=Og (fun m x hx=>Q id m x hx) (show tG t H[id]? =some x from z);rw [lK h1,h2]
     |false=>have h1:=yW (show QF t H[id]? =some x from z);rw [lK h1];rfl
    exact tW (g:=fun n=>.l' n) rfl rfl (fun _ _=>rfl) (fun ρ bD n h1=>by simp [SC.v,h1,Src.ad]) (fun _ _=>.inl ⟨id,rfl,z⟩)
   ·cases h
  ·rename_i id m B;cases any with
   |false=>cases h
   |true=>
    simp only [aL]at h;split at h
    ·rename_i V cs w;rw [fW]at w;split at h
     ·rename_i y z;cases h;refine tW (g:=fun n=>.l' n) rfl rfl (fun _ _=>rfl) (fun ρ bD n h1=> ?_) (fun _ _=>.inr (.inr ⟨rfl,id,m,V,cs,rfl,w,z⟩));have:=(XX z).1;simp [SC.v,h1,Src.ad]
     ·cases h
    ·cases h
  ·cases h
 |p' e t E=>
  intro self l x r ss h;simp only [Ty.rd]at h;split at h
  ·rename_i id off B;split at h
   ·rename_i V cs w;rw [fW]at w;cases u:cP off 0 with
    |false=>rw [u]at h;cases h
    |true=>
     cases A:cP V e with
     |false=>rw [u,A]at h;cases h
     |true=>
      rw [u,A]at h;simp only [aL]at h;split at h
      ·rename_i y I z;cases h;rw [gP A]at w;have M:=E id cs x [] I z;obtain⟨us,F,J⟩:=M.kn;rw [kP]at F;subst F;refine⟨by rw [cF,M.no];rfl,⟨[_],rfl,fun c f=>by rw [aE.1 f];rfl⟩,fun ρ bD d n jQ=> ?_⟩;have S:bD n=ρ id:=jQ.ad 0 _ rfl;have R:At t ρ id I bD n (n+1):=⟨fun _=>by rw [S],fun j s D=>by rw [Jq];exact jQ.ad (j+1) s (by simpa using D)⟩;obtain⟨h1,h2⟩:=M.to ρ bD n (n+1) R;refine⟨?_,fun j s o p O=> ?_⟩
       ·show(SC.p' id off).v ρ::_=[(SC.p' n 0).v bD]++_;simp [SC.v,S,gP u]
       ·cases j with
        |zero=>cases p;have:Ob.bl e (t.lay n (n+1) x).1=o:=aP O;subst this;refine⟨id,cs,rfl,w,aC5,J,fun c f=>(Ty.zM t n (n+1) x c f).1⟩
        |succ j=>exact h2 j s o (by simpa using p) (by simpa [Ty.lay] using O)
      ·cases h
   ·cases h
  ·cases h
 |z'=>
  intro self l x r ss h;simp only [Ty.rd]at h;split at h
  ·rename_i j B;cases D:cP j 0 with
   |false=>rw [D]at h;cases h
   |true=>
    rw [D]at h;cases h;refine⟨rfl,⟨[_],rfl,fun c f=>by rw [aE.1 f];rfl⟩,fun ρ bD d n jQ=>⟨?_,fun i s o p u=> ?_⟩⟩
    ·have:=jQ.ad 0 _ rfl;simp only [Dg]at this;simp [Ty.lay,SC.v,this,Src.ad,gP D,B7]
    ·cases i with
     |zero=>cases p;cases(aP u);exact⟨rfl,.inl ⟨_,rfl⟩⟩
     |succ i=>simp at p
  ·rename_i id off B;cases u:cP off 0 with
   |false=>rw [u]at h;cases h
   |true=>
    cases K:cP id self with
    |false=>rw [u,K]at h;cases h
    |true=>
     rw [u,K]at h;cases h;refine⟨rfl,⟨[_],rfl,fun c f=>by rw [aE.1 f];rfl⟩,fun ρ bD d n jQ=>⟨?_,fun i s o p u=> ?_⟩⟩
     ·have:=jQ.ad 0 _ rfl;simp only [Dg]at this;have C:=jQ.sf rfl;rw [<-gP K]at C;simp [Ty.lay,SC.v,this,Src.ad,gP u,gM,C]
     ·cases i with
      |zero=>cases p;cases(aP u);exact⟨rfl,.inl ⟨_,rfl⟩⟩
      |succ i=>simp at p
  ·rename_i id fl B;cases K:cP id self with
   |false=>rw [K]at h;cases h
   |true=>
    rw [K]at h;simp only [aL]at h;split at h
    ·rename_i P;cases h;rw [fW]at P;refine⟨rfl,⟨[_],rfl,fun c f=>by rw [aE.1 f];rfl⟩,fun ρ bD d n jQ=>⟨?_,fun i s o p u=> ?_⟩⟩
     ·have:=jQ.ad 0 _ rfl;simp only [Dg]at this;have C:=jQ.sf rfl;rw [<-gP K]at C;simp [Ty.lay,SC.v,this,Src.ad,C]
     ·cases i with
      |zero=>cases p;cases(aP u);exact⟨rfl,.inr ⟨fl,rfl,P⟩⟩
      |succ i=>simp at p
    ·cases h
  ·cases h
 |o' j=>
  intro self l x r ss h;simp only [Ty.rd]at h;split at h
  ·rename_i j2 B;cases D:cP j j2 with
   |false=>rw [D]at h;cases h
   |true=>rw [D]at h;cases h;exact⟨rfl,⟨[_],rfl,fun c f=>by rw [aE.1 f];rfl⟩,fun ρ bD d n jQ=>⟨by simp [Ty.lay,SC.v,gP D],fun i s o p u=>by simp at p⟩⟩
  ·cases h
 |f' k t E=>
  intro self l x r ss h;simp only [Ty.rd]at h;split at h
  ·rename_i k2 a2 B;cases X:cP k k2 with
   |false=>rw [X]at h;cases h
   |true=>
    cases N:t.QV with
    |false=>rw [X,N]at h;cases h
    |true=>
     rw [X,N]at h;simp only [aL]at h;split at h
     ·rename_i y I z;cases h;have M:=E self _ x [] ss z;refine⟨M.no,⟨[_],rfl,fun c f=>by rw [aE.1 f];rfl⟩,fun ρ bD d n jQ=> ?_⟩;obtain⟨h1,h2⟩:=M.to ρ bD d n ⟨jQ.sf,jQ.ad⟩;refine⟨?_,h2⟩;have h3:=QU t d n x N;rw [h3,dP,kP,jZ,jZ]at h1;have h4:(a2.map fun id=>gM (ρ id).b 0)=(iT (t.lay d n x).1).map fun id=>gM (bD id).b 0:=h1;simp [Ty.lay,SC.v,gP X,h4]
     ·cases h
  ·cases h
open Nat renaming blt → fC
theorem Hp.pick{w0 w:World}{S:List Nat}{L L2:List bX}(M:List (Option Nat))(h:Hp w0 S L w)
  (o:∀(j:Nat) (r:bX),L2[j]? =some r->r.holds w/\∀b,r.own=some b->∃i a,M[j]? =some (some i)/\L[i]? =some a/\a.own=some b)
  (D:∀j k i:Nat,M[j]? =some (some i)->M[k]? =some (some i)->j=k):Hp w0 S L2 w:=by
 refine⟨h.os,h.tape,h.output,h.size,h.below,fun r A=> ?_, ?_⟩
 ·obtain⟨j,m⟩:=fH.1 A;obtain⟨h1,h2⟩:=o j r m;refine⟨h1,fun b q=> ?_⟩;obtain⟨i,a,_,t,g⟩:=h2 b q;exact(h.res a (aG t)).2 b g
 ·refine eC.2 fun j k m B C b q p=> ?_;obtain⟨i,a,h3,t,g⟩:=(o j _ (aJ m)).2 b q;obtain⟨f,z,u,s,e⟩:=(o k _ (aJ B)).2 b p;obtain⟨d,y⟩:=aD.1 t;obtain⟨c,x⟩:=aD.1 s;have v:=eC.1 h.sep
  have:i=f:=by
   rcases Nat.lt_trichotomy i f with l|E|n
   ·exact absurd (by rw [x];exact e) (v i f d c l b (by rw [y];exact g))
   ·exact E
   ·exact absurd (by rw [y];exact g) (v f i c d n b (by rw [x];exact e))
  subst this;have:=D j k i h3 u;omega
theorem jM(S:St)(d t:Nat)(v:SV):(S.set d v).at t=if t=d then v else S.at t:=by
 unfold St.at St.set;simp only;by_cases h:t=d
 ·subst h;rw [Go.Ce.Tr.xI];simp
 ·rw [Go.Ce.Tr.xI,aB h,aB h]
theorem sK(S:St)(d:Option Nat)(v:SV)(t:Nat):(S.sM d v).at t=if d=some t then v else S.at t:=by
 cases d with
 |none=>simp [St.sM]
 |some d=>
  simp only [St.sM,jM,aV];by_cases h:t=d
  ·subst h;simp
  ·rw [aB h,aB (fun e=>h e.symm)]
structure Rel (C:Cx) (w0:World) (S0:List Nat) (ρ:Nat->Ad) (S:St) (F:Nat->Value) (w:World):Prop where
 gl:∀g id,C.G g=some id->id<S.H.length/\(ρ id).a=some ⟨g,0,none⟩
 fr:∀(t:Nat) (v:Value),(S.at t).v ρ=some v->F t=v
 fo:∀t,(S.at t).ok S.H.length
 ho:∀(id e:Nat) (cs:List SC),S.H[id]? =some (.bl e cs)->∀c∈cs,c.ok S.H.length
 mem:∃L,Hp w0 S0 L w/\Mt w0 S0 ρ S.H L
def Ai(al:List Rg)(id:Nat)(ρ bD:Nat->Ad)(d:Option Ob):Ob->Prop
 |.bl e cs=>(∀j,j<=cs.length->eL id j al=true)\/∃a,d=some (.bl e a)/\a.length=cs.length/\∀(j:Nat) (c:SC),cs[j]? =some c->eL id j al=true\/∃f,a[j]? =some f/\(c.kn=true->f.kn=true/\f.v bD=c.v ρ)
 |.rw e b t l=>eL id 0 al=true\/d=some (.rw e b t l)
 |.br m l=>eL id 0 al=true\/d=some (.br m l)
 |.ro t l=>d=some (.ro t l)
 |.dd n=>d=some (.dd n)
structure Le (nb:Nat) (al:List Rg) (ρ:Nat->Ad) (H:List Ob) (bD:Nat->Ad) (H2:List Ob):Prop where
 len:H.length<=H2.length
 up:Up H.length ρ bD
 kp:∀(id:Nat) (o:Ob),id<nb->H[id]? =some o->Ai al id ρ bD H2[id]? o
theorem Ai.refl{al:List Rg}{id:Nat}{ρ:Nat->Ad}{o:Ob}:Ai al id ρ ρ (some o) o:=by
 cases o with
 |bl e cs=>exact .inr ⟨cs,rfl,rfl,fun j c h=>.inr ⟨c,h,fun a=>⟨a,rfl⟩⟩⟩
 |rw e b t l=>exact .inr rfl
 |br m l=>exact .inr rfl
 |ro t l=>exact rfl
 |dd n=>exact rfl
theorem Le.refl{a:Nat}{al:List Rg}{ρ:Nat->Ad}{H:List Ob}:Le a al ρ H ρ H:=⟨eJ _,Up.refl,fun id o _ h=>by rw [h];exact Ai.refl⟩
theorem Ai.mono{al a:List Rg}{id:Nat}{ρ bD:Nat->Ad}{g:Option Ob}{o:Ob}(h:Ai al id ρ bD g o)(d:∀j,eL id j al=true->eL id j a=true):Ai a id ρ bD g o:=by
 cases o with
 |bl e cs=>
  rcases h with h|⟨f,h1,h2,h3⟩
  ·exact .inl fun j i=>d j (h j i)
  ·exact .inr ⟨f,h1,h2,fun j c k=>(h3 j c k).imp (d j) fun h=>h⟩
 |rw e b t l=>exact h.imp (d 0) fun h=>h
 |br m l=>exact h.imp (d 0) fun h=>h
 |ro t l=>exact h
 |dd n=>exact h
theorem Le.mono{c a:Nat}{al b:List Rg}{ρ bD:Nat->Ad}{H H2:List Ob}(h:Le c al ρ H bD H2)(g:a<=c)(e:∀id j,id<a->eL id j al=true->eL id j b=true):Le a b ρ H bD H2:=
 ⟨h.len,h.up,fun id o f d=>(h.kp id o aA0 d).mono fun j=>e id j f⟩
theorem Le.trans{k:Nat}{al:List Rg}{ρ bD ρ3:Nat->Ad}{H H2 s:List Ob}(h:Le k al ρ H bD H2)(f:Le k al bD H2 ρ3 s):Le k al ρ H ρ3 s:=by
 refine⟨oA h.len f.len,h.up.trans f.up h.len,fun id o g u=> ?_⟩;have h1:=h.kp id o g u;cases o with
 |bl e cs=>
  rcases h1 with h1|⟨A,h2,h3,z⟩
  ·exact .inl h1
  ·rcases f.kp id _ g h2 with y|⟨r,x,E,w⟩
   ·exact .inl fun j D=>y j aA0
   ·refine .inr ⟨r,x,aA0,fun j c v=> ?_⟩;rcases z j c v with q|⟨C,q,d⟩
    ·exact .inl q
    ·rcases w j C q with a|⟨B,a,i⟩
     ·exact .inl a
     ·exact .inr ⟨B,a,fun p=>⟨(i (d p).1).1,((i (d p).1).2).trans (d p).2⟩⟩
 |rw e b t l=>exact h1.elim .inl fun h2=>f.kp id _ g h2
 |br m l=>exact h1.elim .inl fun h2=>f.kp id _ g h2
 |ro t l=>exact f.kp id _ g h1
 |dd n=>exact f.kp id _ g h1
theorem Io{id a:Nat}{al:List Rg}:∀{n:Nat},KX id a al n=true->∀j,a<=j->j<a+n->eL id j al=true
 |0,_,j,h1,h2=>by omega
 |n+1,h,j,h1,h2=>by
  simp only [KX]at h;have h:=gJ h;by_cases b:j=a+n
  ·subst b;exact h.1
  ·exact Io h.2 j h1 aA0
theorem an{S:St}{q:Rg}(h:S.ok q=true)(a:q.1<S.nb)(j:Nat)(h1:q.2.1<=j)(h2:j<q.2.2):eL q.1 j S.al=true:=by
 unfold St.ok at h;have b:fC q.1 S.nb=true:=by simpa [hY] using a
 rw [b]at h;exact Io h j h1 aA0
theorem FJ{S:St}:∀{l:List Rg},S.yH l=true->∀q∈l,S.ok q=true
 |[],_,q,h=>by cases h
 |x::l,h,q,a=>by
  simp only [St.yH]at h;have h:=gJ h;rcases aN.1 a with rfl|a
  ·exact h.1
  ·exact FJ h.2 q a
open UInt8 renaming ofNat → rO
theorem VM{v:Value}{c:SC}(h:yu v=some c):c.ids=[]/\c.kn=true/\∀ρ,c.v ρ=v:=by
 unfold yu at h;split at h
 ·cases h;exact⟨rfl,rfl,fun _=>rfl⟩
 ·rename_i k n;cases a:BH k .u8 with
  |true=>
   rw [a]at h;simp only [aL]at h;split at h
   ·rename_i b;cases h;refine⟨rfl,rfl,fun _=> ?_⟩;rw [kT a];have:((rO n.toNat).toNat:Int)=n:=by rw [nY];omega
    show bt _=_;unfold bt;rw [this]
   ·cases h
  |false=>rw [a]at h;cases h;exact⟨rfl,rfl,fun _=>rfl⟩
 ·cases h;refine⟨rfl,rfl,fun _=> ?_⟩;show str _=_;unfold str;congr 1
 ·cases h;exact⟨rfl,rfl,fun _=>rfl⟩
 ·cases h;exact⟨rfl,rfl,fun _=>rfl⟩
 ·cases h;exact⟨rfl,rfl,fun _=>rfl⟩
 ·cases h;exact⟨rfl,rfl,fun _=>rfl⟩
 ·cases h
theorem CE:∀{l:List Value} {cs:List SC},so l=some cs->(∀c∈cs,c.ids=[]/\c.kn=true)/\∀ρ,cs.map (SC.v ρ)=l
 |[],cs,h=>by cases h;exact⟨fun c h=>absurd h aA2,fun _=>rfl⟩
 |v::l,cs,h=>by
  simp only [so]at h;split at h
  ·rename_i x hx;split at h
   ·rename_i q a;cases h;obtain⟨h1,h2,h3⟩:=VM hx;obtain⟨f,d⟩:=CE a;exact⟨fun c b=>(aN.1 b).elim (fun e=>e▸⟨h1,h2⟩) (f c),fun ρ=>by rw [tM,h3,d]⟩
   ·cases h
  ·cases h
theorem T8{v u:Value}(n:Nat):(cv v).ok n/\∀ρ,(cv v).v ρ=some u->u=v:=by
 unfold cv;split
 ·rename_i cs;split
  ·rename_i l b;obtain⟨h1,h2⟩:=CE b;refine⟨fun c d=>fun id a=>(by rw [(h1 c d).1]at a;cases a),fun ρ h=> ?_⟩;simp only [SV.v,h2]at h;cases h;rfl
  ·exact⟨trivial,fun ρ h=>by cases h⟩
 ·split
  ·rename_i x hx;obtain⟨h1,h2,h3⟩:=VM hx;refine⟨fun id a=>(by rw [h1]at a;cases a),fun ρ h=> ?_⟩;simp only [SV.v,h3]at h;cases h;rfl
  ·exact⟨trivial,fun ρ h=>by cases h⟩
section
variable {C : Cx} {md : Md} {w0 w : World} {S0 : List Nat} {ρ : Nat -> Ad} {S : St} {F : Nat -> Value}
theorem Sj(h:Rel C w0 S0 ρ S F w)(c:C.nn=md.n)(x:Operand):(S.ev C x).ok S.H.length/\∀u,(S.ev C x).v ρ=some u->aW md F x=u:=by
 cases x with
 |tmp t=>
  simp only [St.ev,aW,c];cases e:fC t md.n with
  |true=>exact⟨h.fo t,fun u a=>h.fr t u a⟩
  |false=>exact⟨trivial,fun u a=>by cases a⟩
 |const v=>exact⟨(T8 (u:=v) _).1,fun u a=>((T8 0).2 _ a).symm⟩
 |global g=>
  simp only [St.ev];cases d:C.G g with
  |none=>exact⟨trivial,fun u a=>by cases a⟩
  |some id=>obtain⟨h1,h2⟩:=h.gl g id d;refine⟨fun i b=>(by have:i=id:=aE.1 b;omega),fun u a=> ?_⟩;simp only [SV.v,SC.v,h2,Int.toNat_zero,DG,Dh]at a;cases a;simp [aW,ea,Addr.add]
 |func k=>exact⟨fun i b=>(by cases b),fun u a=>(by cases a;rfl)⟩
theorem mC(h:Rel C w0 S0 ρ S F w)(a:C.nn=md.n){x:Operand}{c:SC}(b:S.ev C x=.c' c):c.ok S.H.length/\aW md F x=c.v ρ:=by obtain⟨h1,h2⟩:=Sj h a x;rw [b]at h1 h2;exact⟨h1,h2 _ rfl⟩
def tJ(C:Cx)(md:Md)(ρ:Nat->Ad)(S:St)(F:Nat->Value)(w:World)(op:Op)(v:SV):Prop:=
 v.ok S.H.length/\∃u,v.v ρ=some u/\∀(d:Nat) (ty:TypeId) (pos:String) (after:Array Edge),(execOp (aW md F) (⟨some d,op,ty,pos,after,none⟩:Oper)).run C.P w=.ok (.value u) w
def Dc:List PD->Prop
 |[]=>True
 |q::l=>q.p/\Dc l
theorem fF{op:Op}{c:SC}{u:Value}(b:c.ids=[])(e:u=c.v ρ)(h:∀(d:Nat) (ty:TypeId) (pos:String) (after:Array Edge),(execOp (aW md F) (⟨some d,op,ty,pos,after,none⟩:Oper)).run C.P w=.ok (.value u) w):tJ C md ρ S F w op (.c' c):=
 ⟨fun id a=>(by rw [b]at a;cases a),u,by rw [e];rfl,h⟩
theorem jW{α:Type}{x:SV}{f:SC->Option α}{r:α}(h:eX x f=some r):∃c,x=.c' c/\f c=some r:=by
 cases x with
 |c' c=>exact⟨c,rfl,h⟩
 |_=>cases h
theorem zW{k:IntKind}(h:i64 k=true):k=.i64:=kT h
theorem te{b:BinOp}{t t':TypeId}{x y:Operand}{k:IntKind}{u v:Int}{g:List PD}{r:SV}(hx:aW md F x=.int k u)(c:aW md F y=.int k v)(h:bI b k u v=some (g,r))(e:Dc g):tJ C md ρ S F w (.binOp b t x y t') r:=by
 cases b<;>simp only [bI,gR,Kw,reduceCtorEq,aV,cE]at h
 case lss=>obtain⟨-,rfl⟩:=h;exact fF rfl rfl fun d ty pos after=>NI k u v hx c
 case leq=>obtain⟨-,rfl⟩:=h;exact fF rfl rfl fun d ty pos after=>NJ k u v hx c
 case gtr=>obtain⟨-,rfl⟩:=h;exact fF rfl rfl fun d ty pos after=>NM k u v hx c
 case geq=>obtain⟨-,rfl⟩:=h;exact fF rfl rfl fun d ty pos after=>NN k u v hx c
 case eql=>obtain⟨-,rfl⟩:=h;exact fF rfl rfl fun d ty pos after=>NQ k u v hx c
 case neq=>obtain⟨-,rfl⟩:=h;exact fF rfl rfl fun d ty pos after=>NG k u v hx c
 case and=>obtain⟨-,rfl⟩:=h;exact fF rfl rfl fun d ty pos after=>O6 k u v hx c
 case or=>obtain⟨-,rfl⟩:=h;exact fF rfl rfl fun d ty pos after=>mq k u v hx c
 case add=>
  cases a:i64 k with
  |true=>rw [a]at h;obtain rfl:=zW a;simp only [aL,aV,cE]at h;obtain⟨rfl,rfl⟩:=h;exact fF rfl rfl fun d ty pos after=>vF u v hx c ⟨e.1.lo,e.1.hi⟩
  |false=>rw [a]at h;simp only [aH,aV,cE]at h;obtain⟨-,rfl⟩:=h;exact fF rfl rfl fun d ty pos after=>NS k u v hx c
 case sub=>
  cases a:i64 k with
  |true=>rw [a]at h;obtain rfl:=zW a;simp only [aL,aV,cE]at h;obtain⟨rfl,rfl⟩:=h;exact fF rfl rfl fun d ty pos after=>rP u v hx c ⟨e.1.lo,e.1.hi⟩
  |false=>rw [a]at h;simp only [aH,aV,cE]at h;obtain⟨-,rfl⟩:=h;exact fF rfl rfl fun d ty pos after=>NC k u v hx c
 case mul=>
  cases a:i64 k with
  |true=>rw [a]at h;obtain rfl:=zW a;simp only [aL,aV,cE]at h;obtain⟨rfl,rfl⟩:=h;exact fF rfl rfl fun d ty pos after=>DR u v hx c ⟨e.1.lo,e.1.hi⟩
  |false=>rw [a]at h;simp only [aH,aV,cE]at h;obtain⟨-,rfl⟩:=h;exact fF rfl rfl fun d ty pos after=>NH k u v hx c
 case quo=>
  cases a:i64 k with
  |true=>rw [a]at h;obtain rfl:=zW a;simp only [aL,aV,cE]at h;obtain⟨rfl,rfl⟩:=h;exact fF rfl rfl fun d ty pos after=>V8 u v hx c e.1
  |false=>rw [a]at h;cases h
 case rem=>
  cases a:i64 k with
  |true=>rw [a]at h;obtain rfl:=zW a;simp only [aL,aV,cE]at h;obtain⟨rfl,rfl⟩:=h;exact fF rfl rfl fun d ty pos after=>V7 u v hx c e.1
  |false=>rw [a]at h;cases h
theorem W2{n:Md}{P:Program}{d:Nat}{ty:TypeId}{pos:String}{after:Array Edge}{x y:Operand}{t t':TypeId}(a b:UInt8)(hx:aW n F x=bt a)(f:aW n F y=bt b)(h:b≠0):(execOp (aW n F) (⟨some d,.binOp .quo t x y t',ty,pos,after,none⟩:Oper)).run P w=.ok (.value (bt (a/b))) w:=by
 have j:0<b.toNat:=Jp fun e=>h (mL.1 e);have g:=MX (a/b);have i:(a/b).toNat=a.toNat/b.toNat:=UInt8.toNat_div a b;have c:(a.toNat:Int)/(b.toNat:Int)=((a/b).toNat:Int):=by rw [i];rfl
 rw [N9 .u8 (a.toNat:Int) (b.toNat:Int) hx f aA0 aA0 (by rw [c,IntKind.wrap_u8];omega),c];rfl
theorem W1{n:Md}{P:Program}{d:Nat}{ty:TypeId}{pos:String}{after:Array Edge}{x y:Operand}{t t':TypeId}(a b:UInt8)(hx:aW n F x=bt a)(f:aW n F y=bt b)(h:b≠0):(execOp (aW n F) (⟨some d,.binOp .rem t x y t',ty,pos,after,none⟩:Oper)).run P w=.ok (.value (bt (a%b))) w:=by
 have j:0<b.toNat:=Jp fun e=>h (mL.1 e);have g:=MX (a%b);have i:(a%b).toNat=a.toNat%b.toNat:=UInt8.toNat_mod a b;have c:(a.toNat:Int)%(b.toNat:Int)=((a%b).toNat:Int):=by rw [i];rfl
 rw [N6 .u8 (a.toNat:Int) (b.toNat:Int) hx f aA0 aA0 (by rw [c,IntKind.wrap_u8];omega),c];rfl
theorem tf{b:BinOp}{t t':TypeId}{x y:Operand}{u v:UInt8}{g:List PD}{r:SV}(hx:aW md F x=bt u)(a:aW md F y=bt v)(h:bC b u v=some (g,r))(c:Dc g):tJ C md ρ S F w (.binOp b t x y t') r:=by
 cases b<;>simp only [bC,gR,Kw,reduceCtorEq,aV,cE]at h<;>obtain⟨rfl,rfl⟩:=h
 case lss=>exact fF rfl rfl fun d ty pos after=>NX u v hx a
 case leq=>exact fF rfl rfl fun d ty pos after=>W4 u v hx a
 case gtr=>exact fF rfl rfl fun d ty pos after=>NY u v hx a
 case geq=>exact fF rfl rfl fun d ty pos after=>W5 u v hx a
 case eql=>exact fF rfl rfl fun d ty pos after=>NZ u v hx a
 case neq=>exact fF rfl rfl fun d ty pos after=>NW u v hx a
 case add=>exact fF rfl rfl fun d ty pos after=>W7 u v hx a
 case sub=>exact fF rfl rfl fun d ty pos after=>NT u v hx a
 case mul=>exact fF rfl rfl fun d ty pos after=>W3 u v hx a
 case quo=>exact fF rfl rfl fun d ty pos after=>W2 u v hx a c.1
 case rem=>exact fF rfl rfl fun d ty pos after=>W1 u v hx a c.1
 case and=>exact fF rfl rfl fun d ty pos after=>W6 u v hx a
 case or=>exact fF rfl rfl fun d ty pos after=>mx u v hx a
theorem td{b:BinOp}{t t':TypeId}{x y:Operand}{u v:aA}{g:List PD}{r:SV}(hx:aW md F x=str u)(a:aW md F y=str v)(h:bS b u v=some (g,r))(c:Dc g):tJ C md ρ S F w (.binOp b t x y t') r:=by
 cases b<;>simp only [bS,gR,Kw,reduceCtorEq,aV,cE]at h<;>obtain⟨rfl,rfl⟩:=h
 case lss=>exact fF rfl rfl fun d ty pos after=>DN u v hx a
 case gtr=>exact fF rfl rfl fun d ty pos after=>DO u v hx a
 case eql=>exact fF rfl rfl fun d ty pos after=>DP u v hx a
 case neq=>exact fF rfl rfl fun d ty pos after=>DM u v hx a
 case add=>exact fF rfl rfl fun d ty pos after=>Tq u v hx a c.1
theorem tg{b:BinOp}{t t':TypeId}{x y:Operand}{u v:Bool}{g:List PD}{r:SV}(c:C.P.underlying t=some .bool)(hx:aW md F x=.bool u)(a:aW md F y=.bool v)(h:bB b u v=some (g,r)):tJ C md ρ S F w (.binOp b t x y t') r:=by
 cases b<;>simp only [bB,gR,reduceCtorEq,aV,cE]at h<;>obtain⟨rfl,rfl⟩:=h
 case eql=>exact fF rfl rfl fun d ty pos after=>mw u v c hx a
 case neq=>exact fF rfl rfl fun d ty pos after=>mr u v c hx a
theorem Z3{z:Bool}{b:BinOp}{t t':TypeId}{x y:Operand}{k:IntKind}{u:UInt8}{v:Int}{g:List PD}{r:SV}(hx:aW md F x=bt u)(a:aW md F y=.int k v)(c:z=true->0<=v)(h:sh8 z b u v=some (g,r))(e:Dc g):tJ C md ρ S F w (.binOp b t x y t') r:=by
 cases b<;>simp only [sh8,gR,Kw,reduceCtorEq]at h
 case shl=>
  cases z with
  |true=>cases h;exact fF rfl rfl fun d ty pos after=>NV k u v hx a (c rfl)
  |false=>cases h;exact fF rfl rfl fun d ty pos after=>NV k u v hx a e.1
 case shr=>
  cases z with
  |true=>cases h;exact fF rfl rfl fun d ty pos after=>NU k u v hx a (c rfl)
  |false=>cases h;exact fF rfl rfl fun d ty pos after=>NU k u v hx a e.1
theorem E8{y:Operand}{k:IntKind}{v:Int}(a:aW md F y=.int k v)(h:ca y=true):0<=v:=by
 unfold ca at h;split at h
 ·rename_i k' n;have:Value.int k' (.ofNat n)=.int k v:=a;cases this;exact Jx n
 ·cases h
end
open Go.Wk
open Go.Ce (Tr)
open Nat renaming beq → cP, blt → fC, succ → mG
theorem WH(a b:Nat):cP a b=decide (a=b):=by
 by_cases h:a=b
 ·subst h;simp
 ·cases c:cP a b with
  |true=>exact absurd (gP c) h
  |false=>simp [h]
theorem J9(a b:Nat):Nat.ble a b=decide (a<=b):=by
 by_cases h:a<=b
 ·simp [h,Nat.ble_eq]
 ·cases c:Nat.ble a b with
  |true=>exact absurd (Tp c) h
  |false=>simp [h]
theorem sx(a b:Nat):fC a b=decide (a<b):=by unfold fC;rw [J9];rfl
theorem tI{id j:Nat}:∀{l:List Rg},eL id j l=true↔∃q∈l,q.1=id/\q.2.1<=j/\j<q.2.2
 |[]=>by simp [eL]
 |q::l=>by have a:=tI (id:=id) (j:=j) (l:=l);simp only [eL,WH,J9,sx,Bool.cond_decide,aN,exists_eq_or_imp];rw [<-a];by_cases h1:q.1=id<;>by_cases h2:q.2.1<=j<;>by_cases h3:j<q.2.2<;>simp [h1,h2,h3]
theorem By{id j:Nat}{a b:List Rg}:eL id j (a++b)=true↔eL id j a=true\/eL id j b=true:=by
 simp only [tI,aU];constructor
 ·rintro⟨q,h|h,h2⟩
  ·exact .inl ⟨q,h,h2⟩
  ·exact .inr ⟨q,h,h2⟩
 ·rintro(⟨q,h,h2⟩|⟨q,h,h2⟩)
  ·exact⟨q,.inl h,h2⟩
  ·exact⟨q,.inr h,h2⟩
theorem Oh{t:Nat}:∀{l:List Nat},jU t l=true↔t∈l
 |[]=>by simp [jU]
 |x::l=>by simp only [jU,WH,Bool.cond_decide,aN];rw [<-Oh (l:=l)];by_cases h:t=x<;>simp [h]
theorem qL:∀{l r:List Nat},Yg l r=true↔∀x∈l,x∉r
 |[],r=>by simp [Yg]
 |x::l,r=>by have a:=qL (l:=l) (r:=r);have b:=Oh (t:=x) (l:=r);simp only [Yg,aN,forall_eq_or_imp];rw [<-a,<-b];cases jU x r<;>simp
theorem lH:∀{l:List Nat},Ci l=true↔l.Nodup
 |[]=>by simp [Ci]
 |x::l=>by have a:=lH (l:=l);have b:=Oh (t:=x) (l:=l);simp only [Ci,List.nodup_cons];rw [<-a,<-b];cases jU x l<;>simp
theorem J1{id a:Nat}{al:List Rg}{n:Nat}(h:KX id a al n=true){j:Nat}(h1:a<=j)(h2:j<a+n):eL id j al=true:=Io h j h1 h2
theorem Pb{n:Nat}{al:List Rg}:∀{m:List Rg},Uk n al m=true->∀{id j:Nat},id<n->eL id j m=true->eL id j al=true
 |[],_,id,j,_,b=>by simp [eL]at b
 |q::m,h,id,j,hid,b=>by
  simp only [Uk]at h;have h:=gJ h;obtain⟨r,a,h1,h2,h3⟩:=tI.1 b;rcases aN.1 a with rfl|a
  ·have c:=h.1;rw [h1,sx]at c;simp only [hid,decide_true,aL]at c;exact J1 c h2 aA0
  ·exact Pb h.2 hid (tI.2 ⟨r,a,h1,h2,h3⟩)
theorem wJ{S:St}{l:List Rg}(h:S.yH l=true){id j:Nat}(hid:id<S.nb)(b:eL id j l=true):eL id j S.al=true:=by obtain⟨q,a,h1,h2,h3⟩:=tI.1 b;subst h1;exact an (FJ h q a) hid j h2 h3
theorem tj{H:List Ob}:∀{l:List Nat} {id:Nat},id∈l->pA H id∈Jd H l
 |x::l,id,h=>by
  rcases aN.1 h with rfl|h
  ·exact iH
  ·exact fU _ (tj h)
theorem Ln{H:List Ob}:∀{l:List Nat} {q:Rg},q∈Jd H l->∃id∈l,q=pA H id
 |x::l,q,h=>by
  rcases aN.1 (show q∈pA H x::Jd H l from h)with rfl|h
  ·exact⟨x,iH,rfl⟩
  ·obtain⟨id,h1,h2⟩:=Ln h;exact⟨id,fU _ h1,h2⟩
theorem Eh{H:List Ob}{id e:Nat}{cs:List SC}(h:H[id]? =some (.bl e cs)){l:List Nat}(a:id∈l){j:Nat}(b:j<=cs.length):eL id j (Jd H l)=true:=by refine tI.2 ⟨_,tj a,rfl,dH _, ?_⟩;unfold pA;rw [fW,h];show j<mG cs.length;omega
theorem jm{H:List Ob}{id:Nat}{l:List Nat}(a:id∈l):eL id 0 (Jd H l)=true:=by
 refine tI.2 ⟨_,tj a,rfl,dH _, ?_⟩;unfold pA;rw [fW];split
 ·rename_i h;simp_all
 ·simp
theorem uQ{α:Type}{l:List α}{k j:Nat}{y:α}:(gU l k y)[j]? =if j=k/\k<l.length then some y else l[j]? :=by
 rw [nH,dV];by_cases h:k=j
 ·subst h;by_cases h2:k<l.length
  ·simp [h2]
  ·simp [h2,bL (vA h2)]
 ·rw [aB h,aB aA0]
theorem CU{α:Type}{l:List α}{k:Nat}{y:α}:(gU l k y).length=l.length:=by rw [nH,Cc]
theorem fm:∀{l:List Nat} {H:List Ob},(kill H l).length=H.length
 |[],_=>rfl
 |x::l,H=>by show(kill (gU H x _) l).length=_;rw [fm,CU]
theorem HG{id:Nat}:∀{l:List Nat} {H:List Ob},(kill H l)[id]? =if id∈l then(H[id]?).map (fun o=>.dd o.len)else H[id]?
 |[],H=>by simp [kill]
 |x::l,H=>by
  show(kill (gU H x _) l)[id]? =_;rw [HG,uQ];by_cases h:id=x
  ·subst h;by_cases a:id<H.length
   ·have e:H[id]? =some H[id]:=aJ a;simp [a,MI,Ob.len]
   ·have e:H[id]? =none:=bL aA0;simp [a,e]
  ·simp [h]
theorem Ow:∀{l:List SC} {a n j:Nat},(HX l a n)[j]? =if a<=j/\j<a+n then(l[j]?).map (fun _=>SC.u')else l[j]?
 |[],a,n,j=>by cases a<;>cases n<;>simp [HX]
 |x::l,a+1,n,j=>by
  simp only [HX];cases j with
  |zero=>simp
  |succ j=>
   rw [bT,bT,Ow];by_cases h:a<=j/\j<a+n
   ·rw [aC h,aC aA0]
   ·rw [aB h,aB aA0]
 |x::l,0,0,j=>by simp [HX]
 |x::l,0,n+1,j=>by
  simp only [HX];cases j with
  |zero=>simp
  |succ j=>
   rw [bT,bT,Ow];by_cases h:j<n
   ·rw [aC aA0,aC aA0]
   ·rw [aB aA0,aB aA0]
theorem Ov:∀{l:List SC} {a n:Nat},(HX l a n).length=l.length
 |[],a,n=>by cases a<;>cases n<;>rfl
 |x::l,a+1,n=>by simp [HX,Ov (l:=l)]
 |x::l,0,0=>rfl
 |x::l,0,n+1=>by simp [HX,Ov (l:=l)]
def mi(rs:List Rg)(id:Nat)(o b:Ob):Prop:=match o with
 |.bl e cs=>∃a,b=.bl e a/\a.length=cs.length/\∀j,a[j]? =if eL id j rs=true then(cs[j]?).map (fun _=>SC.u')else cs[j]?
 |o=>(b=o/\∀q∈rs,q.1≠id)\/(b=.dd o.len/\∃q∈rs,q.1=id)
theorem th:∀{rs:List Rg} {H:List Ob},(Of H rs).length=H.length
 |[],_=>rfl
 |q::rs,H=>by simp only [Of];split<;>rw [th,CU]
theorem fx{id:Nat}:∀{rs:List Rg} {H:List Ob} {o:Ob},H[id]? =some o->∃a,(Of H rs)[id]? =some a/\mi rs id o a
 |[],H,o,h=>by refine⟨o,h, ?_⟩;cases o<;>simp [mi,eL]
 |q::rs,H,o,h=>by
  have f:id<H.length:=(aD.1 h).1;simp only [Of];by_cases k:q.1=id
  ·subst k;rw [fW,h];cases o with
   |bl e cs=>
    simp only;obtain⟨a,h2,c,rfl,b,g⟩:=fx (id:=q.1) (rs:=rs) (H:=gU H q.1 (.bl e (HX cs q.2.1 (q.2.2-q.2.1)))) (o:=.bl e (HX cs q.2.1 (q.2.2-q.2.1))) (by rw [uQ];simp [f]);refine⟨_,h2,c,rfl,by rw [b,Ov],fun j=> ?_⟩
    rw [g,Ow];have n:eL q.1 j (q::rs)=true↔(q.2.1<=j/\j<q.2.1+(q.2.2-q.2.1))\/eL q.1 j rs=true:=by
     rw [show q::rs=[q]++rs from rfl,By,tI (l:=[q])];simp only [aE,exists_eq_left,true_and];constructor
     ·rintro(h|h)
      ·exact .inl aA0
      ·exact .inr h
     ·rintro(h|h)
      ·exact .inl aA0
      ·exact .inr h
    by_cases d:eL q.1 j rs=true
    ·rw [aC d,aC (n.2 (.inr d))];split<;>simp [Function.comp_def]
    ·rw [aB d];by_cases m:q.2.1<=j/\j<q.2.1+(q.2.2-q.2.1)
     ·rw [aC m,aC (n.2 (.inl m))]
     ·rw [aB m,aB (fun h=>(n.1 h).elim m d)]
   |_=>
    simp only;obtain⟨a,h2,h3⟩:=fx (id:=q.1) (rs:=rs) (H:=gU H q.1 (.dd (eY H q.1))) (o:=.dd (eY H q.1)) (by rw [uQ];simp [f]);refine⟨a,h2,.inr ⟨?_,q,iH,rfl⟩⟩
    have e:a=.dd (eY H q.1):=by
     rcases h3 with⟨h3,_⟩|⟨h3,_⟩
     ·exact h3
     ·exact h3
    rw [e,lK h]
  ·have key:∀y,(gU H q.1 y)[id]? =some o:=fun y=>by rw [uQ,aB (fun s=>k s.1.symm)];exact h
   have i:∀y,∃a,(Of (gU H q.1 y) rs)[id]? =some a/\mi (q::rs) id o a:=by
    intro y;obtain⟨a,h2,h3⟩:=fx (rs:=rs) (key y);refine⟨a,h2, ?_⟩;cases o with
    |bl e cs=>
     obtain⟨c,b,g,d⟩:=h3;refine⟨c,b,g,fun j=> ?_⟩;rw [d]
     have:eL id j (q::rs)=eL id j rs:=by
      have t:cP q.1 id=false:=by rw [WH];simp [k]
      simp [eL,t]
     rw [this]
    |_=>
     rcases h3 with⟨h3,b⟩|⟨h3,r,b,g⟩
     ·exact .inl ⟨h3,fun r p=>(aN.1 p).elim (fun e=>e▸k) (b r)⟩
     ·exact .inr ⟨h3,r,fU _ b,g⟩
   split
   ·exact i _
   ·exact i _
theorem Bn{rs:List Rg}{H:List Ob}{id:Nat}(h:H[id]? =none):(Of H rs)[id]? =none:=by rw [List.getElem?_eq_none_iff]at h⊢;rw [th];exact h
noncomputable def Ku(F:Tr SV)(t:Nat):SV:=match F.get t with
 |some v=>v
 |none=>.u'
theorem St.at_eq(S:St)(t:Nat):S.at t=Ku S.F t:=rfl
theorem Dx(F:Tr SV)(d t:Nat)(v:SV):Ku (F.set d v) t=if t=d then v else Ku F t:=by
 unfold Ku;by_cases h:t=d
 ·subst h;rw [Go.Ce.Tr.xI];simp
 ·rw [Go.Ce.Tr.xI,aB h,aB h]
theorem Rr{t:Nat}:∀{w:List Nat} {F:Tr SV},Ku (del F w) t=if t∈w then .u' else Ku F t
 |[],F=>by simp [del]
 |x::w,F=>by
  show Ku (del (F.set x .u') w) t=_;rw [Rr,Dx];by_cases h:t=x
  ·subst h;simp
  ·simp [h]
theorem K5:∀(t:Ty) (s n:Nat) (x:t.T) (j e:Nat) (cs:List SC),(t.lay s n x).2[j]? =some (.bl e cs)->∀c∈cs,c.ok (n+(t.lay s n x).2.length):=by
 intro t;induction t with
 |w' t d=>intro s n x;exact d s n x
 |pr a b l i=>
  intro s n x j e cs h;have h:((a.lay s n x.1).2++(b.lay s (n+a.no) x.2).2)[j]? =some (.bl e cs):=h;have m:((Ty.pr a b).lay s n x).2.length=(a.lay s n x.1).2.length+(b.lay s (n+a.no) x.2).2.length:=by show((a.lay s n x.1).2++(b.lay s (n+a.no) x.2).2).length=_;rw [cB]
  have o:=a.dZ s n x.1;intro c g;rw [m];by_cases p:j<(a.lay s n x.1).2.length
  ·rw [aI p]at h;exact SC.cK (l _ _ _ _ _ _ h c g) aA0
  ·rw [aK aA0]at h;exact SC.cK (i _ _ _ _ _ _ h c g) aA0
 |p' e t d=>
  intro s n x j f cs h;have m:((Ty.p' e t).lay s n x).2.length=(t.lay n (n+1) x).2.length+1:=by show(_::_:List Ob).length=_;rw [cF]
  intro c g;rw [m];cases j with
  |zero=>have h:Ob.bl e (t.lay n (n+1) x).1=.bl f cs:=aP h;cases h;intro id q;rcases(Ty.zM t n (n+1) x c g).2 id q with h|h<;>omega
  |succ j=>have h:(t.lay n (n+1) x).2[j]? =some (.bl f cs):=h;exact SC.cK (d _ _ _ _ _ _ h c g) aA0
 |f' k t d=>intro s n x;exact d s n x
 |l' e b t d=>
  intro s n x j f cs h;cases j with
  |zero=>cases aP h
  |succ j=>simp [Ty.lay]at h
 |y'=>
  intro s n x j f cs h;cases j with
  |zero=>cases aP h
  |succ j=>simp [Ty.lay]at h
 |r' t d=>
  intro s n x j f cs h;cases j with
  |zero=>cases aP h
  |succ j=>simp [Ty.lay]at h
 |z'=>
  intro s n x j f cs h;cases j with
  |zero=>cases aP h
  |succ j=>simp [Ty.lay]at h
 |_=>intro s n x j f cs h;simp [Ty.lay]at h
theorem jd:∀(t:Ty) (s n:Nat) (x:t.T),t.tz=false->∀c∈(t.lay s n x).1,c.ok (n+(t.lay s n x).2.length):=by
 intro t;induction t with
 |w' t g=>intro s n x h;exact g s n x h
 |pr a b l j=>
  intro s n x h c d;have i:a.tz=false:=by
   cases i:a.tz with
   |true=>simp [Ty.tz,i]at h
   |false=>rfl
  have p:b.tz=false:=by simpa [Ty.tz,i] using h
  have o:((Ty.pr a b).lay s n x).2.length=(a.lay s n x.1).2.length+(b.lay s (n+a.no) x.2).2.length:=by show((a.lay s n x.1).2++(b.lay s (n+a.no) x.2).2).length=_;rw [cB]
  have m:=a.dZ s n x.1;rw [o];rcases aU.1 (show c∈(a.lay s n x.1).1++(b.lay s (n+a.no) x.2).1 from d)with d|d
  ·exact SC.cK (l _ _ _ i c d) aA0
  ·exact SC.cK (j _ _ _ p c d) aA0
 |f' k t g=>intro s n x h c d;have:c=_:=aE.1 d;subst this;intro id f;obtain⟨q,h1,h2⟩:=wN (show id∈iT (t.lay s n x).1 from f);exact g s n x h q h1 id h2
 |z'=>intro s n x h;cases h
 |u'=>intro s n x h c d;cases d
 |sm a b _ _=>intro s n x h c d;cases d
 |p' e t g=>intro s n x h c d;have:c=_:=aE.1 d;subst this;intro id f;have:id=n:=aE.1 f;subst this;show id<id+(_::_:List Ob).length;simp
 |l' e b t g=>intro s n x h c d;have:c=_:=aE.1 d;subst this;intro id f;have:id=n:=aE.1 f;subst this;exact sL _
 |r' t g=>intro s n x h c d;have:c=_:=aE.1 d;subst this;intro id f;have:id=n:=aE.1 f;subst this;exact sL _
 |y'=>intro s n x h c d;have:c=_:=aE.1 d;subst this;intro id f;have:id=n:=aE.1 f;subst this;exact sL _
 |_=>intro s n x h c d;have:c=_:=aE.1 d;subst this;intro id f;cases f
open Go.Value renaming agg → gH
open Nat renaming beq → cP
def DE(ρ:Nat->Ad)(H:List Ob):Prop:=∀(id:Nat) (o:Ob),H[id]? =some o->o.len=(ρ id).ln
theorem EI{ρ bD:Nat->Ad}{H:List Ob}(a:DE ρ H)(d:DF H){s:Src}{o:Ob}(h:LM false ρ H bD s o):o.len=(s.ad ρ).ln:=by
 cases o with
 |bl e cs=>obtain⟨id,c,rfl,h1,_⟩:=h;exact(a id (.bl e c) h1:_)
 |rw e b t l=>
  rcases h with⟨id,rfl,h1⟩|⟨rfl,rfl⟩|⟨id,m,cs,rfl,h1,h2,_⟩
  ·exact a id _ h1
  ·rfl
  ·exact(XX h2).1
 |ro t l=>
  rcases h with⟨id,rfl,h1⟩|⟨rfl,rfl⟩|⟨h,_⟩
  ·exact a id _ (yW h1)
  ·rfl
  ·cases h
 |br n l=>obtain⟨rfl,id,m,rfl,h1⟩:=h;have h2:=a id _ h1;have h3:=d id m l h1;show l.length=_;rw [h3];exact h2
 |dd n=>
  obtain⟨rfl,⟨t,rfl⟩|⟨f,rfl,h1⟩⟩:=h
  ·rfl
  ·exact a f _ h1
structure RdV (any:Bool) (H:List Ob) (x:Ty) (sv:SV) (v:x.T) (ss:List Src):Prop where
 no:ss.length=x.no
 tz:x.tz=false
 to:∀(ρ bD:Nat->Ad) (n:Nat),(∀(j:Nat) (s:Src),ss[j]? =some s->bD (n+j)=s.ad ρ)->
  (∃u,sv.v ρ=some u/\(x.sv (x.lay 0 n v).1).v bD=some u/\(x.sa (x.lay 0 n v).1).v bD=u)/\∀(j:Nat) (s:Src) (o:Ob),ss[j]? =some s->(x.lay 0 n v).2[j]? =some o->LM any ρ H bD s o
theorem sH{α:Type}{r:Option (α×List SC×List Src)}{x:α}{ss:List Src}(h:Kx r=some (x,ss)):r=some (x,[],ss):=by
 unfold Kx at h;split at h
 ·cases h;rfl
 ·cases h
theorem Pw{any:Bool}{H:List Ob}(k:DF H){x:Ty}{i:SV}{v:x.T}{ss:List Src}(h:IS any H x i=some (v,ss)):RdV any H x i v ss:=by
 unfold IS at h;split at h
 ·rename_i c;cases a:x.tz with
  |true=>rw [a]at h;cases h
  |false=>
   cases b:x.agg with
   |true=>rw [a,b]at h;cases h
   |false=>
    rw [a,b]at h;simp only [aH]at h;have f:=QK any H k x 0 _ _ _ _ (sH h);refine⟨f.no,a,fun ρ bD n d=> ?_⟩;obtain⟨h1,h2⟩:=f.to ρ bD 0 n ⟨fun e=>(by rw [a]at e;cases e),d⟩;refine⟨⟨c.v ρ,rfl, ?_⟩,h2⟩;rw [dP,kP]at h1;unfold Ty.sv Ty.sa;rw [b];cases j:(x.lay 0 n v).1 with
    |nil=>rw [j]at h1;cases h1
    |cons g m=>
     rw [j]at h1;cases m with
     |cons _ _=>simp at h1
     |nil=>have h1:c.v ρ=g.v bD:=aC5;exact⟨by show some (g.v bD)=_;rw [h1],by show g.v bD=_;rw [h1]⟩
 ·rename_i l;cases a:x.tz with
  |true=>rw [a]at h;cases h
  |false=>
   cases b:x.agg with
   |false=>rw [a,b]at h;cases h
   |true=>rw [a,b]at h;simp only [aH,aL]at h;have f:=QK any H k x 0 _ _ _ _ (sH h);refine⟨f.no,a,fun ρ bD n d=> ?_⟩;obtain⟨h1,h2⟩:=f.to ρ bD 0 n ⟨fun e=>(by rw [a]at e;cases e),d⟩;refine⟨⟨_,rfl, ?_⟩,h2⟩;rw [dP,kP]at h1;unfold Ty.sv Ty.sa;rw [b];exact⟨by show some (gH _)=_;rw [h1],by show gH _=_;rw [h1]⟩
 ·cases h
def BO(H2:List Ob)(bD ρ3:Nat->Ad)(id:Nat):Ob->Prop
 |.bl e cs=>∃a,H2[id]? =some (.bl e a)/\a.length=cs.length/\∀(j:Nat) (c:SC),cs[j]? =some c->c.kn=true->∃b,a[j]? =some b/\b.kn=true/\b.v bD=c.v ρ3
 |.dd _=>True
 |o=>H2[id]? =some o
structure PI (n0:Nat) (H2:List Ob) (ρ bD ρ3:Nat->Ad) (F2:Nat->Value) (E:List Nat) (H0:List Ob) (al:List Rg) (Fm:Tr SV) (H1:List Ob) (done:List Src):Prop where
 len:H1.length=n0+done.length
 fr:∀t u,(Ku Fm t).v ρ3=some u->F2 t=u
 fo:∀t,(Ku Fm t).ok H1.length
 ho:∀(id e:Nat) (cs:List SC),H1[id]? =some (.bl e cs)->∀c∈cs,c.ok H1.length
 ln:DE ρ3 H1
 ba:∀(id:Nat) (o:Ob),id<n0->H1[id]? =some o->BO H2 bD ρ3 id o
 nw:∀(j:Nat) (s:Src) (o:Ob),done[j]? =some s->H1[n0+j]? =some o->LM false bD H2 ρ3 s o
 de:∀id,id<n0->id∈E->∃m,H1[id]? =some (.dd m)
 kp:∀(id:Nat) (o:Ob),H0[id]? =some o->Ai al id ρ ρ3 H1[id]? o
section
variable {n0 : Nat} {H2 H0 H1 : List Ob} {ρ bD ρ3 : Nat -> Ad} {F2 : Nat -> Value} {E : List Nat} {al : List Rg} {Fm : Tr SV} {done : List Src}
theorem PI.app(h:PI n0 H2 ρ bD ρ3 F2 E H0 al Fm H1 done)(k:DE bD H2)(l:DF H2)(q:H0.length<=n0){obs:List Ob}{d:List Src}(u:d.length=obs.length)
  (m:∀(j:Nat) (s:Src),d[j]? =some s->ρ3 (H1.length+j)=s.ad bD) (n:∀(j:Nat) (s:Src) (o:Ob),d[j]? =some s->obs[j]? =some o->LM false bD H2 ρ3 s o)
  (w:∀(j e:Nat) (cs:List SC),obs[j]? =some (.bl e cs)->∀c∈cs,c.ok (H1.length+obs.length)):PI n0 H2 ρ bD ρ3 F2 E H0 al Fm (H1++obs) (done++d):=by
 have r:∀{id:Nat} {o:Ob},id<H1.length->(H1++obs)[id]? =H1[id]? :=fun h=>aI h;have p:=h.len;refine⟨by simp [h.len,u,Ax],h.fr,fun t=>SV.cK (h.fo t) aA2,fun id e cs a c g=> ?_,fun id o a=> ?_,fun id o b a=> ?_,fun j s o i a=> ?_,fun id b v=> ?_,fun id o a=> ?_⟩
 ·by_cases b:id<H1.length
  ·rw [aI b]at a;exact SC.cK (h.ho id e cs a c g) aA2
  ·rw [aK aA0]at a;rw [cB];exact w _ e cs a c g
 ·by_cases b:id<H1.length
  ·rw [aI b]at a;exact h.ln id o a
  ·rw [aK aA0]at a;have x:=(aD.1 a).1;have f:d[id-H1.length]? =some (d[id-H1.length]' aA0):=aJ aA0;have e:=m _ _ f;rw [show H1.length+(id-H1.length)=id by omega]at e;rw [e];exact EI k l (n _ _ o f a)
 ·rw [aI aA0]at a;exact h.ba id o b a
 ·by_cases b:j<done.length
  ·rw [aI b]at i;rw [aI aA0]at a;exact h.nw j s o i a
  ·rw [aK aA0]at i;rw [aK aA0]at a;rw [show n0+j-H1.length=j-done.length by omega]at a;exact n _ s o i a
 ·rw [aI aA0];exact h.de id b v
 ·have:=(aD.1 a).1;rw [aI aA0];exact h.kp id o a
theorem PI.set(h:PI n0 H2 ρ bD ρ3 F2 E H0 al Fm H1 done){t:Nat}{v:SV}(b:∀u,v.v ρ3=some u->F2 t=u)(c:v.ok H1.length):PI n0 H2 ρ bD ρ3 F2 E H0 al (Fm.set t v) H1 done:=by
 refine⟨h.len,fun t2 u a=> ?_,fun t2=> ?_,h.ho,h.ln,h.ba,h.nw,h.de,h.kp⟩
 ·rw [Dx]at a;by_cases e:t2=t
  ·subst e;rw [aC rfl]at a;exact b u a
  ·rw [aB e]at a;exact h.fr t2 u a
 ·rw [Dx];by_cases e:t2=t
  ·rw [aC e];exact c
  ·rw [aB e];exact h.fo t2
theorem PI.dN(h:PI n0 H2 ρ bD ρ3 F2 E H0 al Fm H1 done){id:Nat}{o d:Ob}(y:id<n0)(h1:H1[id]? =some d)(g:o.len=d.len)(m:BO H2 bD ρ3 id o)(x:id∉E)
  (f:∀(e:Nat) (cs:List SC),o=.bl e cs->∀c∈cs,c.ok H1.length) (i:∀n,H0[id]? =some n->Ai al id ρ ρ3 (some o) n):PI n0 H2 ρ bD ρ3 F2 E H0 al Fm (gU H1 id o) done:=by
 have v:=(aD.1 h1).1;have q:=h.len;refine⟨by rw [CU];exact h.len,h.fr,fun t=>by rw [CU];exact h.fo t,fun k e cs a c u=> ?_,fun k p a=> ?_,fun k p l a=> ?_,fun j s p w a=> ?_,fun k l r=> ?_,fun k p a=> ?_⟩
 ·rw [uQ]at a;rw [CU];split at a
  ·cases a;exact f e cs rfl c u
  ·exact h.ho k e cs a c u
 ·rw [uQ]at a;split at a
  ·rename_i b;cases a;rw [b.1,g];exact h.ln id d h1
  ·exact h.ln k p a
 ·rw [uQ]at a;split at a
  ·rename_i b;cases a;rw [b.1];exact m
  ·exact h.ba k p l a
 ·rw [uQ,aB aA0]at a;exact h.nw j s p w a
 ·rw [uQ,aB (fun(b:k=id/\_)=>x (b.1▸r))];exact h.de k l r
 ·rw [uQ];split
  ·rename_i b;rw [b.1]at a⊢;exact i p a
  ·exact h.kp k p a
end
theorem Ty.Be{x:Ty}{cs:List SC}{n:Nat}(h:∀c∈cs,c.ok n):(x.sv cs).ok n:=by
 unfold Ty.sv;cases x.agg with
 |true=>exact h
 |false=>
  simp only [aH];split
  ·exact h _ (aE.2 rfl)
  ·trivial
theorem Ty.oh{x:Ty}{cs:List SC}{n:Nat}(h:∀c∈cs,c.ok n):(x.sa cs).ok n:=by
 unfold Ty.sa;cases x.agg with
 |true=>exact h
 |false=>
  simp only [aH];split
  ·exact h _ (aE.2 rfl)
  ·exact h
def KC(n0:Nat)(H0:List Ob)(E:List Nat)(al:List Rg)(ix:Nat->Nat):Key->Prop
 |.s' _ _=>True
 |.o' t off x=>ix t<n0/\∀j,off<=j->j<off+x.cn->eL (ix t) j al=true
 |.w' t _=>ix t<n0/\eL (ix t) 0 al=true/\ix t∉E/\tC H0[ix t]? =true
section
variable {n0 : Nat} {H2 H0 H1 : List Ob} {ρ bD ρ3 : Nat -> Ad} {F2 : Nat -> Value} {E : List Nat} {al : List Rg} {Fm : Tr SV} {done : List Src} {ix : Nat -> Nat} {at2 : Nat -> SV}
theorem PI.od(h:PI n0 H2 ρ bD ρ3 F2 E H0 al Fm H1 done)(g:DE bD H2)(b:DF H2)(f:H0.length<=n0)(l:∀t u,(at2 t).v bD=some u->F2 t=u){t:Nat}{x:Ty}{v:x.T}{d:List Src}(i:IS false H2 x (at2 t)=some (v,d))
  (c:∀(j:Nat) (s:Src),d[j]? =some s->ρ3 (H1.length+j)=s.ad bD):PI n0 H2 ρ bD ρ3 F2 E H0 al (ae Fm H1 t x v).1 (ae Fm H1 t x v).2 (done++d):=by
 have e:=Pw b i;obtain⟨⟨u,h1,h2,_⟩,h3⟩:=e.to bD ρ3 H1.length c;have k:d.length=(x.lay 0 H1.length v).2.length:=by rw [e.no,Ty.dZ]
 refine(h.app g b f k c h3 (K5 x 0 H1.length v)).set ?_ ?_
 ·intro m a;rw [h2]at a;cases a;exact l t u h1
 ·rw [cB];exact Ty.Be (jd x 0 H1.length v e.tz)
theorem PI.P7(h:PI n0 H2 ρ bD ρ3 F2 E H0 al Fm H1 done)(P:DE bD H2)(C:DF H2)(O:H0.length<=n0)(L:Up n0 bD ρ3){id off:Nat}{x:Ty}{v:x.T}{I:List Src}(t:oz H2 id off x=some (v,I))(hid:id<n0)
  (A:∀j,off<=j->j<off+x.cn->eL id j al=true) (G:∀(j:Nat) (s:Src),I[j]? =some s->ρ3 (H1.length+j)=s.ad bD):PI n0 H2 ρ bD ρ3 F2 E H0 al Fm (QS H1 id off x v) (done++I):=by
 unfold oz at t;split at t
 ·rename_i e2 Z U;rw [fW]at U;split at t
  ·rename_i q hq;have l:=QK false H2 C x id _ _ _ _ (sH t);obtain⟨n,b⟩:=uE hq;rw [lL]at n b;obtain⟨h1,h2⟩:=l.to bD ρ3 id H1.length ⟨fun _=>by rw [L id hid],G⟩;rw [dP,kP]at h1;have hl:I.length=(x.lay id H1.length v).2.length:=by rw [l.no,Ty.dZ]
   have h3:=h.app P C O hl G h2 (K5 x id H1.length v);have w:id<H1.length:=by have:=h.len;omega
   unfold QS;split
   ·rename_i e cs p;rw [fW]at p;have B:gU H1 id (.bl e (Pz cs off (x.lay id H1.length v).1))++(x.lay id H1.length v).2=gU (H1++(x.lay id H1.length v).2) id (.bl e (Pz cs off (x.lay id H1.length v).1)):=by rw [nH,nH,XH _ _ w]
    rw [B];have W:(H1++(x.lay id H1.length v).2)[id]? =some (.bl e cs):=by rw [aI w];exact p
    obtain⟨Y,F,X,D⟩:=h.ba id _ hid p;rw [U]at F;cases F;have y:=x.Qw id H1.length v;have a3:q.length=x.cn:=by rw [n,eI];omega
    have k:∀(j:Nat) (c:SC),(Pz cs off (x.lay id H1.length v).1)[j]? =some c->(off<=j/\j<off+x.cn/\(x.lay id H1.length v).1[j-off]? =some c)\/(cs[j]? =some c/\¬(off<=j/\j<off+x.cn))\/(cs[j]? =some c/\sN cs off (x.lay id H1.length v).1=none):=by
     intro j c d;unfold Pz at d;split at d
     ·rename_i q2 b;rw [pM b,y]at d;split at d
      ·rename_i J;exact .inl ⟨J.1,J.2,d⟩
      ·rename_i J;exact .inr (.inl ⟨d,J⟩)
     ·rename_i hn;exact .inr (.inr ⟨d,hn⟩)
    have z:(Pz cs off (x.lay id H1.length v).1).length=cs.length:=by
     unfold Pz;split
     ·rename_i q2 b;exact wB b
     ·rfl
    refine h3.dN hid W rfl ⟨Z,U,by rw [X,z],fun j c d g=> ?_⟩ (fun hE=> ?_) (fun e3 Y he c V=> ?_) (fun o0 N=> ?_)
    ·rcases k j c d with⟨ha,hb,a⟩|⟨a,_⟩|⟨a,_⟩
     ·have r:(q.map (SC.v bD))[j-off]? =some (c.v ρ3):=by rw [h1,aZ,a];rfl
      rw [aZ]at r;cases f:q[j-off]? with
      |none=>rw [f]at r;cases r
      |some H=>rw [f]at r;have r:H.v bD=c.v ρ3:=aP r;obtain⟨us,u,M⟩:=l.kn;rw [kP]at u;refine⟨H, ?_,M H (u▸aG f),r⟩;rw [n,bO,aC aA0,bU]at f;rw [<-f];congr 1;omega
     ·exact D j c a g
     ·exact D j c a g
    ·obtain⟨m,hm⟩:=h.de id hid hE;rw [p]at hm;cases hm
    ·cases he;obtain⟨j,d⟩:=fH.1 V;rcases k j c d with⟨ha,hb,a⟩|⟨a,_⟩|⟨a,_⟩
     ·intro i hi;rw [cB];rcases(Ty.zM x id H1.length v c (aG a)).2 i hi with h6|h6<;>omega
     ·exact SC.cK (h.ho id _ cs p c (aG a)) aA2
     ·exact SC.cK (h.ho id _ cs p c (aG a)) aA2
    ·have g:=h.kp id o0 N;rw [p]at g;cases o0 with
     |bl e0 b5=>
      rcases g with g|⟨b4,S,R,Q⟩
      ·exact .inl g
      ·cases S;refine .inr ⟨_,rfl,by rw [z,R],fun j c d=> ?_⟩;by_cases o:off<=j/\j<off+x.cn
       ·exact .inl (A j o.1 o.2)
       ·rcases Q j c d with K|⟨H,K,h8⟩
        ·exact .inl K
        ·right;refine⟨H, ?_,h8⟩;unfold Pz;split
         ·rename_i q2 b;rw [pM b,y,aB o];exact K
         ·exact K
     |rw _ _ _ _=>exact g.elim .inl fun h=>by cases h
     |br _ _=>exact g.elim .inl fun h=>by cases h
     |ro _ _=>cases g
     |dd _=>cases g
   ·exact h3
  ·cases t
 ·cases t
theorem Ua{H:List Ob}{id:Nat}{x:Ty}{v:x.T}(h:P2 H id x=some v):(∃m,∃o,YU m x v=some o/\∃a,H[id]? =some a/\(a.len=m->a=o)/\((∃e b t l,o=.rw e b t l/\a=o)\/∃l g,o=.br m l/\a=.br g l)):=by
 cases x with
 |l' e b t=>
  simp only [P2]at h;split at h
  ·rename_i q i;cases d:cP q.1 e with
   |false=>rw [d]at h;cases h
   |true=>
    cases f:cP q.2 b with
    |false=>rw [d,f]at h;cases h
    |true=>rw [d,f]at h;have c:=rW i h;rw [fW,gP d,gP f]at c;exact⟨0,_,rfl,_,c,fun _=>rfl,.inl ⟨e,b,t,v,rfl,rfl⟩⟩
  ·cases h
 |y'=>
  simp only [P2]at h;split at h
  ·rename_i m x c;rw [fW]at c;cases h;exact⟨m,_,rfl,_,c,fun _=>rfl,.inr ⟨v,m,rfl,rfl⟩⟩
  ·cases h
 |_=>cases h
theorem PI.P5(h:PI n0 H2 ρ bD ρ3 F2 E H0 al Fm H1 done)(g:DE bD H2)(G:DF H2)(F:H0.length<=n0)(q:Up n0 bD ρ3){id:Nat}{x:Ty}{v:x.T}{A:List Src}(n:yj H2 id x=some (v,A))(hid:id<n0)
  (f:eL id 0 al=true) (B:id∉E) (d:tC H0[id]? =true):PI n0 H2 ρ bD ρ3 F2 E H0 al Fm (oQ H1 id x v) (done++A):=by
 unfold yj at n;split at n
 ·rename_i y p;cases n;rw [kP];have w:id<H1.length:=by have:=h.len;omega
  have h1:H1[id]? =some H1[id]:=aJ w;have a:(H1[id]).len=(bD id).ln:=by rw [h.ln id _ h1,q id hid]
  have i:∀(o:Ob) (k:Ob),H0[id]? =some k->Ai al id ρ ρ3 (some o) k:=by
   intro o k u;rw [u]at d;cases k with
   |rw _ _ _ _=>exact .inl f
   |br _ _=>exact .inl f
   |_=>cases d
  unfold oQ;rw [lK h1,a];cases x with
  |l' e b t=>
   obtain⟨m,o,r,C,j,s,z⟩:=Ua p;cases r;rcases z with⟨_,_,_,_,c,rfl⟩|⟨_,_,c,_⟩
   ·exact h.dN hid h1 (by rw [a];exact g id _ j) j B (fun e cs c=>by cases c) (i _)
   ·cases c
  |y'=>
   obtain⟨m,o,r,C,j,s,z⟩:=Ua p;cases r;rcases z with⟨_,_,_,_,c,_⟩|⟨l,D,c,rfl⟩
   ·cases c
   ·cases c;have h2:D=(bD id).ln:=g id _ j;refine h.dN hid h1 (by rw [a];rfl) ?_ B (fun e cs c=>by cases c) (i _);show H2[id]? =some (.br (bD id).ln v);rw [<-h2];exact j
  |_=>cases p
 ·cases n
theorem PI.step(h:PI n0 H2 ρ bD ρ3 F2 E H0 al Fm H1 done)(b:DE bD H2)(c:DF H2)(a:H0.length<=n0)(e:Up n0 bD ρ3)(l:∀t u,(at2 t).v bD=some u->F2 t=u){k:Key}{v:k.ty.T}{g:List Src}(i:k.rd ix at2 H2=some (v,g))
  (d:KC n0 H0 E al ix k) (f:∀(j:Nat) (s:Src),g[j]? =some s->ρ3 (H1.length+j)=s.ad bD):PI n0 H2 ρ bD ρ3 F2 E H0 al (k.put ix (Fm,H1) v).1 (k.put ix (Fm,H1) v).2 (done++g):=by
 cases k with
 |s' t x=>exact h.od b c a l i f
 |o' t off x=>exact h.P7 b c a e i d.1 d.2 f
 |w' t x=>exact h.P5 b c a e i d.1 d.2.1 d.2.2.1 d.2.2.2
theorem PI.steps(e:DE bD H2)(f:DF H2)(d:H0.length<=n0)(c:Up n0 bD ρ3)(m:∀t u,(at2 t).v bD=some u->F2 t=u):∀(J:List Key) (Fm:Tr SV) (H1:List Ob) (done:List Src) (v:(lR J).T) (ss:List Src),PI n0 H2 ρ bD ρ3 F2 E H0 al Fm H1 done->yk ix at2 H2 J=some (v,ss)->
  (∀k∈J,KC n0 H0 E al ix k)->(∀(j:Nat) (s:Src),ss[j]? =some s->ρ3 (H1.length+j)=s.ad bD)->PI n0 H2 ρ bD ρ3 F2 E H0 al (Cg ix (Fm,H1) J v).1 (Cg ix (Fm,H1) J v).2 (done++ss)
 |[],Fm,H1,done,v,ss,h,a,_,_=>by cases a;rw [kP];exact h
 |[k],Fm,H1,done,v,ss,h,a,g,b=>h.step e f d c m a (g k iH) b
 |k::q::l,Fm,H1,done,v,ss,h,a,g,b=>by
  simp only [yk]at a;split at a
  ·rename_i x o hx;split at a
   ·rename_i y n r;cases a;have h1:=h.step e f d c m hx (g k iH) (fun j s i=>b j s (by rw [aI (aD.1 i).1];exact i));have h2:=PI.steps e f d c m (q::l) _ _ _ y n h1 r (fun p h3=>g p (fU _ h3)) (fun j s i=>by have w:=h1.len;have z:=h.len;rw [cB]at w;rw [show(k.put ix (Fm,H1) x).2.length+j=H1.length+(o.length+j)by omega];exact b _ s (by rw [aK aA0,<-i];congr 1;omega));rw [iI]at h2;exact h2
   ·cases a
  ·cases a
end
open Go.Wk
open Go.Ce (Tr)
open Nat renaming succ → mG
theorem y5:∀(t:Ty) (l:List SC) (x:t.T) (r:List SC),t.Vj l=some (x,r)->∃e,l=e++r/\∀c∈e,c.kn=true:=by
 intro t;induction t with
 |w' t p=>intro l x r h;exact p l x r h
 |pr a b g f=>
  intro l x r h;simp only [Ty.Vj]at h;split at h
  ·rename_i n j s;split at h
   ·rename_i m w q;cases h;obtain⟨e,h1,h2⟩:=g l n j s;obtain⟨o,h3,v⟩:=f j m _ q;exact⟨e++o,by rw [h1,h3,iI],fun c u=>(aU.1 u).elim (h2 c) (v c)⟩
   ·cases h
  ·cases h
 |i' k=>
  intro l x r h;cases l with
  |nil=>cases h
  |cons c l=>
   simp only [Ty.Vj]at h;split at h
   ·rename_i y d;cases h;exact⟨[c],rfl,fun i h=>by rw [aE.1 h];cases c<;>first|rfl|cases d⟩
   ·cases h
 |c'=>
  intro l x r h;cases l with
  |nil=>cases h
  |cons c l=>
   simp only [Ty.Vj]at h;split at h
   ·rename_i y d;cases h;exact⟨[c],rfl,fun i h=>by rw [aE.1 h];cases c<;>first|rfl|cases d⟩
   ·cases h
 |s'=>
  intro l x r h;cases l with
  |nil=>cases h
  |cons c l=>
   simp only [Ty.Vj]at h;split at h
   ·rename_i y d;cases h;exact⟨[c],rfl,fun i h=>by rw [aE.1 h];cases c<;>first|rfl|cases d⟩
   ·cases h
 |b'=>
  intro l x r h;cases l with
  |nil=>cases h
  |cons c l=>
   simp only [Ty.Vj]at h;split at h
   ·rename_i y d;cases h;exact⟨[c],rfl,fun i h=>by rw [aE.1 h];cases c<;>first|rfl|cases d⟩
   ·cases h
 |_=>intro l x r h;cases h
theorem pJ{t:Ty}:∀{m:Nat} {l:List SC} {b:List t.T},oC t m l=some b->∀c∈l,c.kn=true
 |0,l,b,h=>by
  cases l with
  |nil=>intro c a;cases a
  |cons c l=>cases h
 |m+1,l,b,h=>by
  simp only [oC]at h;split at h
  ·rename_i y d f;split at h
   ·rename_i q e;cases h;obtain⟨g,h1,h2⟩:=y5 t l y d f;intro c a;rw [h1]at a;exact(aU.1 a).elim (h2 c) (pJ e c)
   ·cases h
  ·cases h
theorem mh.all{ρ:Nat->Ad}{cs:List SC}{vs:List Value}(h:mh ρ cs vs)(b:∀c∈cs,c.kn=true):vs=cs.map (SC.v ρ):=by
 apply bZ;intro j;rw [aZ];by_cases a:j<cs.length
 ·rw [h.2 j _ (aJ a) (b _ (vB a)),aJ a];rfl
 ·have:=h.1;rw [bL (l:=vs) aA0,bL (l:=cs) aA0];rfl
theorem mh.of{ρ:Nat->Ad}{cs:List SC}:mh ρ cs (cs.map (SC.v ρ)):=⟨aA2,fun j c h _=>by rw [aZ,h];rfl⟩
section
variable {w0 w : World} {S0 : List Nat} {ρ : Nat -> Ad} {H : List Ob} {L : List bX}
theorem Mt.lns(h:Mt w0 S0 ρ H L):DE ρ H:=fun id o a=>(h.2 id o a).1
theorem Mt.brk(h:Mt w0 S0 ρ H L)(c:Hp w0 S0 L w):DF H:=fun id m x hx=>by obtain⟨_,r,b,a⟩:=h.2 id _ hx;have a:r=eN _ m x:=a;subst a;exact c.Sf id b
end
def dQ:bX:=⟨none,fun _=>True⟩
def Src.ow:Src->Option Nat
 |.o' id w=>bif w then some id else none
 |.k' id _ w=>bif w then some id else none
 |_=>none
theorem tZ(s:Src):s.own=s.ow.toList:=by
 cases s with
 |o' id w=>cases w<;>rfl
 |k' id m w=>cases w<;>rfl
 |_=>rfl
theorem pR{ss:List Src}{j i:Nat}{s:Src}(h:ss[j]? =some s)(c:s.ow=some i):i∈fQ ss:=by
 induction ss generalizing j with
 |nil=>simp at h
 |cons a l b=>
  show i∈a.own++fQ l;cases j with
  |zero=>have:a=s:=aB0;subst this;rw [tZ,c];simp
  |succ j=>exact MW _ (b aB0)
theorem Ge{ss:List Src}(d:(fQ ss).Nodup){j k i:Nat}{s c:Src}(h:ss[j]? =some s)(f:s.ow=some i)(h2:ss[k]? =some c)(b:c.ow=some i):j=k:=by
 induction ss generalizing j k with
 |nil=>simp at h
 |cons a l g=>
  have d:(a.own++fQ l).Nodup:=d;have e:=List.nodup_append.1 d;cases j with
  |zero=>
   cases k with
   |zero=>rfl
   |succ k=>have:a=s:=aB0;subst this;exact absurd rfl (e.2.2 i (by rw [tZ,f];simp) i (pR aC8 b))
  |succ j=>
   cases k with
   |zero=>have:a=c:=aC8;subst this;exact absurd rfl (e.2.2 i (by rw [tZ,b];simp) i (pR aB0 f))
   |succ k=>exact bP mG (g e.2.1 (show l[j]? =some s by simpa using h) (show l[k]? =some c by simpa using h2))
theorem Dt{p:Nat->bX->Prop}:∀(n:Nat),(∀j,j<n->∃r,p j r)->∃L:List bX,L.length=n/\∀(j:Nat) (r:bX),L[j]? =some r->p j r
 |0,_=>⟨[],rfl,fun j r h=>by simp at h⟩
 |n+1,h=>by
  obtain⟨L,h1,h2⟩:=Dt n fun j a=>h j aA0;obtain⟨r,c⟩:=h n aA0;refine⟨L++[r],by simp [h1],fun j b a=> ?_⟩;by_cases d:j<n
  ·rw [aI aA0]at a;exact h2 j b a
  ·rw [aK aA0]at a;have:j-L.length=0:=by have:=(aD.1 a).1;simp at this;omega
   rw [this]at a;have e:r=b:=aC3;subst e;rw [show j=n by omega];exact c
theorem PS{w0 w:World}{S0:List Nat}{bD ρ3:Nat->Ad}{H2:List Ob}{L:List bX}(p:Hp w0 S0 L w)(u:Mt w0 S0 bD H2 L){s:Src}{o:Ob}{k:Nat}(h:LM false bD H2 ρ3 s o)(g:ρ3 k=s.ad bD):
  ∃r,RO w0 S0 ρ3 k o r/\r.holds w/\∀b,r.own=some b->∃i D,s.ow=some i/\L[i]? =some D/\D.own=some b:=by
 cases o with
 |bl e C=>
  obtain⟨id,cs,rfl,h1,h2,h3,G⟩:=h;obtain⟨_,r,d,x,rfl,A⟩:=u.2 id _ h1;refine⟨aM (ρ3 k).b x e,⟨x,rfl, ?_⟩, ?_,fun b c=>⟨id,_,rfl,d, ?_⟩⟩
  ·have H:x=C.map (SC.v ρ3):=(A.all h3).trans h2;rw [H];exact mh.of
  ·rw [g];exact(p.res _ (aG d)).1
  ·rw [g]at c;exact c
 |rw e b t l=>
  rcases h with⟨id,rfl,h1⟩|⟨rfl,rfl⟩|⟨id,m,cs,rfl,h1,h2,h3,G⟩
  ·obtain⟨_,r,d,j⟩:=u.2 id _ h1;have j:r=aX t.enc e t.sz (bD id).o (bD id).a (bD id).cap l:=j;subst j;refine⟨aX t.enc e t.sz (ρ3 k).o (ρ3 k).a (ρ3 k).cap l,rfl, ?_,fun b c=>⟨id,_,rfl,d, ?_⟩⟩
   ·rw [g];exact(p.res _ (aG d)).1
   ·rw [g]at c;exact c
  ·have:=(p.dB t.enc e t.sz none).res _ iH;refine⟨aX t.enc e t.sz (ρ3 k).o (ρ3 k).a (ρ3 k).cap [],rfl, ?_,fun b c=> ?_⟩
   ·rw [g];exact this.1
   ·rw [g]at c;cases c
  ·obtain⟨_,r,d,x,rfl,A⟩:=u.2 id _ h1;have hx:=XX h2;have y:=A.all (pJ h2);have z:m<=maxLen:=by unfold maxLen;omega
   have F:=p.Yv (f:=t.enc) id t.sz m l d (Ty.tA h3) (by rw [y,hx.2.2]) hx.1 z;have B:=(aD.1 d).1;have q:=F.res _ (aG (i:=id) (by rw [dV];simp [B];rfl));refine⟨aX t.enc e t.sz (ρ3 k).o (ρ3 k).a (ρ3 k).cap l,rfl, ?_,fun b c=>⟨id,_,rfl,d, ?_⟩⟩
   ·rw [g];exact q.1
   ·rw [g]at c;exact c
 |ro t l=>
  rcases h with⟨id,rfl,h1⟩|⟨rfl,rfl⟩|⟨h,_⟩
  ·obtain⟨_,r,d,I,j⟩:=u.2 id _ (yW h1);refine⟨dQ,⟨rfl, ?_⟩,trivial,fun b c=>by cases c⟩;rw [g];exact j
  ·refine⟨dQ,⟨rfl, ?_⟩,trivial,fun b c=>by cases c⟩;rw [g];exact⟨Rd.nil _ _,fun h=>absurd rfl h,dH _⟩
  ·cases h
 |br n l=>
  obtain⟨rfl,id,m,rfl,h1⟩:=h;obtain⟨_,r,d,j⟩:=u.2 id _ h1;have j:r=eN (.slice (bD id).a m (bD id).cap) m l:=j;subst j;have E:=p.Sf id d;refine⟨eN (.slice (ρ3 k).a l.length (ρ3 k).cap) l.length l,rfl, ?_,fun b c=>⟨id,_,rfl,d, ?_⟩⟩
  ·rw [g,E];exact(p.res _ (aG d)).1
  ·rw [g,E]at c;exact c
 |dd n=>exact⟨dQ,trivial,trivial,fun b c=>by cases c⟩
theorem sw{w0 w:World}{S0:List Nat}{bD ρ3:Nat->Ad}{H2:List Ob}{L:List bX}(i:Hp w0 S0 L w)(g:Mt w0 S0 bD H2 L){o:Ob}{k:Nat}(h:BO H2 bD ρ3 k o)(f:ρ3 k=bD k)(v:∀m,o≠.dd m):
  ∃r,L[k]? =some r/\RO w0 S0 ρ3 k o r/\r.holds w:=by
 cases o with
 |bl e cs=>obtain⟨B,h1,h2,h3⟩:=h;obtain⟨_,r,a,q,rfl,p⟩:=g.2 k _ h1;refine⟨_,a,⟨q,by rw [f],by rw [p.1,h2],fun j c u x=> ?_⟩,(i.res _ (aG a)).1⟩;obtain⟨C,A,z,y⟩:=h3 j c u x;rw [<-y];exact p.2 j C A z
 |rw e b t l=>obtain⟨_,r,a,d⟩:=g.2 k _ h;exact⟨r,a,by show r=_;rw [f];exact d,(i.res _ (aG a)).1⟩
 |ro t l=>obtain⟨_,r,a,s,d⟩:=g.2 k _ h;exact⟨r,a,⟨s,by rw [f];exact d⟩,(i.res _ (aG a)).1⟩
 |br n l=>obtain⟨_,r,a,d⟩:=g.2 k _ h;exact⟨r,a,by show r=_;rw [f];exact d,(i.res _ (aG a)).1⟩
 |dd n=>exact absurd rfl (v n)
def Xf:Ob->Bool
 |.dd _=>true
 |_=>false
theorem cf{o:Ob}(h:Xf o=false):∀m,o≠.dd m:=by intro m e;subst e;cases h
theorem PI.mem{w0 w:World}{S0:List Nat}{n0:Nat}{H2 H0 H1:List Ob}{ρ bD ρ3:Nat->Ad}{F2:Nat->Value}{E:List Nat}{al:List Rg}{Fm:Tr SV}{done:List Src}{L:List bX}(h:PI n0 H2 ρ bD ρ3 F2 E H0 al Fm H1 done)(D:Hp w0 S0 L w)(J:Mt w0 S0 bD H2 L)(z:Up n0 bD ρ3)
  (C:∀(j:Nat) (s:Src),done[j]? =some s->ρ3 (n0+j)=s.ad bD) (M:(fQ done).Nodup) (R:∀id∈fQ done,id<n0->id∈E):∃x,Hp w0 S0 x w/\Mt w0 S0 ρ3 H1 x:=by
 let src:Nat->Option Nat:=fun j=>if j<n0 then(match H1[j]? with
  |some o=>bif Xf o then none else some j
  |none=>none)else(done[j-n0]?).bind Src.ow
 have K:∀j,j<H1.length->∃r,(∀o,H1[j]? =some o->RO w0 S0 ρ3 j o r)/\r.holds w/\∀b,r.own=some b->∃i t,src j=some i/\L[i]? =some t/\t.own=some b:=by
  intro j e;have d:=aJ e;by_cases a:j<n0
  ·cases f:Xf H1[j]with
   |true=>refine⟨dQ,fun o h2=> ?_,trivial,fun b q=>by cases q⟩;rw [d]at h2;cases h2;cases hx:H1[j]<;>rw [hx]at f<;>first|trivial|cases f
   |false=>
    obtain⟨r,h1,h2,h3⟩:=sw D J (h.ba j _ a d) (z j a) (cf f);refine⟨r,fun o n=> ?_,h3,fun b q=>⟨j,r, ?_,h1,q⟩⟩
    ·rw [d]at n;cases n;exact h2
    ·simp only [src,a,eM,d,f,aH]
  ·have U:=h.len;have c:done[j-n0]? =some (done[j-n0]' aA0):=aJ aA0;have A:H1[n0+(j-n0)]? =some H1[j]:=by rw [show n0+(j-n0)=j by omega];exact d
   have p:=C _ _ c;rw [show n0+(j-n0)=j by omega]at p;obtain⟨r,h1,h2,h3⟩:=PS D J (h.nw _ _ _ c A) p;refine⟨r,fun o n=> ?_,h2,fun b q=> ?_⟩
   ·rw [d]at n;cases n;exact h1
   ·obtain⟨i,t,u,H⟩:=h3 b q;refine⟨i,t, ?_,H⟩;simp only [src,a,cL,c];exact u
 obtain⟨x,B,v⟩:=Dt H1.length K;refine⟨x,Go.Oe.Hp.pick ((List.range H1.length).map src) D (fun j r e=> ?_) (fun j k i e P=> ?_),B,fun id o d=>⟨h.ln id o d, ?_⟩⟩
 ·obtain⟨_,h2,h3⟩:=v j r e;refine⟨h2,fun b q=> ?_⟩;obtain⟨i,t,n,u⟩:=h3 b q;have a:=(aD.1 e).1;refine⟨i,t, ?_,u⟩;rw [aZ,cU aA0];exact bP some n
 ·have key:∀j,((List.range H1.length).map src)[j]? =some (some i)->j<H1.length/\src j=some i:=by
   intro j e;rw [aZ]at e;by_cases a:j<H1.length
   ·rw [cU a]at e;exact⟨a,aP e⟩
   ·rw [bL aA6]at e;cases e
  obtain⟨Q,l⟩:=key j e;obtain⟨O,g⟩:=key k P;have base:∀j,j<n0->src j=some i->j=i/\∃o,H1[j]? =some o/\Xf o=false:=by
   intro j a c;simp only [src,a,eM]at c;split at c
   ·rename_i o d;cases f:Xf o with
    |true=>rw [f]at c;cases c
    |false=>rw [f]at c;exact⟨aP c,o,d,f⟩
   ·cases c
  have y:∀j,¬j<n0->src j=some i->∃s,done[j-n0]? =some s/\s.ow=some i:=by
   intro j a c;simp only [src,a,cL]at c;cases f:done[j-n0]? with
   |none=>rw [f]at c;cases c
   |some s=>rw [f]at c;exact⟨s,rfl,c⟩
  have no:∀j k,j<n0->¬k<n0->src j=some i->src k=some i->False:=by intro j k h1 h2 h3 n;obtain⟨rfl,o,u,H⟩:=base j h1 h3;obtain⟨s,G,F⟩:=y k h2 n;obtain⟨m,N⟩:=h.de j h1 (R j (pR G F) h1);rw [N]at u;cases u;cases H
  by_cases h1:j<n0<;>by_cases h2:k<n0
  ·rw [(base j h1 l).1,(base k h2 g).1]
  ·exact(no j k h1 h2 l g).elim
  ·exact(no k j h2 h1 g l).elim
  ·obtain⟨s,G,F⟩:=y j h1 l;obtain⟨T,S,I⟩:=y k h2 g;have:=Ge M G F S I;omega
 ·have a:=(aD.1 d).1;exact⟨_,aJ aA0,(v id _ (aJ aA0)).1 o d⟩
open Go.Wk
open Go.Ce (Tr)
open Nat renaming one_pos → Di
theorem Ps{ix:Nat->Nat}:∀{J:List Key} {q:Rg},q∈Zn ix J->∃k∈J,(∃t off x,k=.o' t off x/\q=(ix t,off,off+x.cn))\/∃t x,k=.w' t x/\q=(ix t,0,1)
 |k::J,q,h=>by
  cases k with
  |s' t x=>obtain⟨a,h1,h2⟩:=Ps (show q∈Zn ix J from h);exact⟨a,fU _ h1,h2⟩
  |o' t off x=>
   rcases aN.1 (show q∈(ix t,off,off+x.cn)::Zn ix J from h)with rfl|h
   ·exact⟨_,iH,.inl ⟨t,off,x,rfl,rfl⟩⟩
   ·obtain⟨a,h1,h2⟩:=Ps h;exact⟨a,fU _ h1,h2⟩
  |w' t x=>
   rcases aN.1 (show q∈(ix t,0,1)::Zn ix J from h)with rfl|h
   ·exact⟨_,iH,.inr ⟨t,x,rfl,rfl⟩⟩
   ·obtain⟨a,h1,h2⟩:=Ps h;exact⟨a,fU _ h1,h2⟩
theorem ET{ix:Nat->Nat}{t off:Nat}{x:Ty}:∀{J:List Key},Key.o' t off x∈J->(ix t,off,off+x.cn)∈Zn ix J
 |k::J,h=>by
  rcases aN.1 h with rfl|h2
  ·exact iH
  ·cases k with
   |s' _ _=>exact(show _∈Zn ix J from ET h2)
   |o' _ _ _=>exact fU _ (ET h2)
   |w' _ _=>exact fU _ (ET h2)
theorem Va{ix:Nat->Nat}{t:Nat}{x:Ty}:∀{J:List Key},Key.w' t x∈J->(ix t,0,1)∈Zn ix J
 |k::J,h=>by
  rcases aN.1 h with rfl|h2
  ·exact iH
  ·cases k with
   |s' _ _=>exact(show _∈Zn ix J from Va h2)
   |o' _ _ _=>exact fU _ (Va h2)
   |w' _ _=>exact fU _ (Va h2)
theorem Ea{S:St}:∀{J:List Key},VR S J=true->∀k∈J,match k with
  |.o' t off x=>∃e cs,S.H[S.ix t]? =some (.bl e cs)/\off+x.cn<=cs.length
  |.w' t _=>tC S.H[S.ix t]? =true
  |.s' _ _=>True
 |k::J,h,b,a=>by
  simp only [VR]at h;have h:=gJ h;rcases aN.1 a with rfl|a
  ·cases b with
   |s' _ _=>trivial
   |o' t off x=>
    have h1:=h.1;simp only [fW]at h1;split at h1
    ·rename_i e cs c;exact⟨e,cs,c,Tp h1⟩
    ·cases h1
   |w' t x=>have h1:=h.1;simp only [fW]at h1;exact h1
  ·exact Ea h.2 b a
theorem fq{H:List Ob}:∀{l:List SC} {id:Nat},id∈sX H l->tC H[id]? =true\/∃e cs,H[id]? =some (.bl e cs)
 |x::l,id,h=>by
  cases x
  case l' i=>
   simp only [sX]at h;cases a:tC (eK H i)with
   |true=>
    rw [a]at h;rcases aN.1 h with rfl|h
    ·rw [fW]at a;exact .inl a
    ·exact fq h
   |false=>rw [a]at h;exact fq h
  case k' i n=>
   simp only [sX]at h;split at h
   ·rename_i e cs b;rcases aN.1 h with rfl|h
    ·rw [fW]at b;exact .inr ⟨e,cs,b⟩
    ·exact fq h
   ·exact fq h
  all_goals exact fq (l:=l) h
theorem GO{ix:Nat->Nat}{F:Nat->SV}{H:List Ob}:∀{J:List Key} {id:Nat},id∈I3 ix F H J->tC H[id]? =true\/∃e cs,H[id]? =some (.bl e cs)
 |k::J,id,h=>by
  simp only [I3]at h;rcases aU.1 h with h|h
  ·cases k with
   |s' t x=>
    simp only at h;cases hx:x.BN with
    |false=>rw [hx]at h;cases h
    |true=>
     rw [hx]at h;simp only [aL]at h;split at h
     ·exact fq h
     ·cases h
   |o' t off x=>
    simp only at h;cases hx:x.BN with
    |false=>rw [hx]at h;cases h
    |true=>
     rw [hx]at h;simp only [aL]at h;split at h
     ·split at h
      ·exact fq h
      ·cases h
     ·cases h
   |w' t x=>cases h
  ·exact GO h
theorem GR:∀{a b:List Rg},Rq (a++b)=true->∀q∈a,∀r∈b,q.1=r.1->q.2.2<=r.2.1\/r.2.2<=q.2.1
 |x::a,b,h,q,c,r,e,f=>by
  have h:(bif Rq.CB x (a++b)then Rq (a++b)else false)=true:=h;have h:=gJ h;rcases aN.1 c with rfl|c
  ·have key:∀l:List Rg,Rq.CB q l=true->r∈l->q.2.2<=r.2.1\/r.2.2<=q.2.1:=by
    intro l;induction l with
    |nil=>intro _ h;cases h
    |cons y l g=>
     intro h d;simp only [Rq.CB,WH,J9,Bool.cond_decide]at h;rcases aN.1 d with rfl|d
     ·rw [aC f]at h;by_cases h1:q.2.2<=r.2.1
      ·exact .inl h1
      ·rw [aB h1]at h;by_cases h2:r.2.2<=q.2.1
       ·exact .inr h2
       ·rw [aB h2]at h;cases h
     ·refine g ?_ d;split at h
      ·split at h
       ·exact h
       ·split at h
        ·exact h
        ·cases h
      ·exact h
   exact key _ h.1 (MW _ e)
  ·exact GR h.2 q c r e f
theorem OX{n:Nat}{e:List Nat}:∀{l:List Nat},tk.yg n e l=true->∀id∈l,id<n->id∈e
 |x::l,h,id,b,a=>by
  simp only [tk.yg]at h;have h:=gJ h;rcases aN.1 b with rfl|b
  ·have h1:=h.1;rw [J9]at h1;have:¬n<=id:=aA0;simp only [this,decide_false,aH]at h1;exact Oh.1 h1
  ·exact OX h.2 id b a
theorem mi.len{rs:List Rg}{id:Nat}{o a:Ob}(h:mi rs id o a):a.len=o.len:=by
 cases o with
 |bl e cs=>obtain⟨b,rfl,_⟩:=h;rfl
 |_=>
  rcases h with⟨rfl,_⟩|⟨rfl,_⟩
  ·rfl
  ·rfl
noncomputable def St.base(S:St)(J:List Key)(w:List Nat):Fr:=(del S.F w,kill (Of S.H (Zn S.ix J)) (S.T6 J))
structure yb (S:St) (J:List Key):Prop where
 yH:S.yH (S.Fk J)=true
 dis:Rq (S.Fk J)=true
 chk:VR S J=true
theorem AZ{S:St}{J:List Key}(h:S.Q2 J=true):yb S J:=by unfold St.Q2 at h;have h1:=gJ h;have h2:=gJ h1.2;have h3:=gJ h2.2;exact⟨h1.1,h2.1,h3.2⟩
section
variable {C : Cx} {w0 w w2 : World} {S0 : List Nat} {ρ bD ρ3 : Nat -> Ad} {S S2 : St} {F F2 : Nat -> Value} {J : List Key} {wl : List Nat}
theorem vY{w:World}(h:Rel C w0 S0 ρ S F w):DE ρ S.H:=by obtain⟨L,_,a⟩:=h.mem;exact a.lns
theorem vZ{w:World}(h:Rel C w0 S0 ρ S F w):DF S.H:=by obtain⟨L,b,a⟩:=h.mem;exact a.brk b
theorem PI.U0{H H2:List Ob}{R:List Rg}{E:List Nat}{Fm:Tr SV}(Y:DE ρ H)(M:∀(id e:Nat) (cs:List SC),H[id]? =some (.bl e cs)->∀c∈cs,c.ok H.length)
  (x:∀q∈R,(∃e cs,H[q.1]? =some (.bl e cs)/\q.2.2<=cs.length)\/(tC H[q.1]? =true/\q.2=(0,1))) (J:∀id∈E,tC H[id]? =true\/∃e cs,H[id]? =some (.bl e cs))
  (Z:Le H.length (R++Jd H E) ρ H bD H2) (K:Up H.length ρ ρ3) (a3:∀t u,(Ku Fm t).v ρ3=some u->F2 t=u) (a4:∀t,(Ku Fm t).ok H.length):
  PI H.length H2 ρ bD ρ3 F2 E H (R++Jd H E) Fm (kill (Of H R) E) []:=by
 have B:(kill (Of H R) E).length=H.length:=by rw [fm,th]
 have get:∀(id:Nat) (o:Ob),H[id]? =some o->∃z,(Of H R)[id]? =some z/\mi R id o z/\(kill (Of H R) E)[id]? =if id∈E then some (.dd o.len)else some z:=by intro id o d;obtain⟨z,h1,h2⟩:=fx (rs:=R) d;refine⟨z,h1,h2, ?_⟩;rw [HG,h1,Tg,h2.len]
 have r:∀(id:Nat) (z:Ob),(kill (Of H R) E)[id]? =some z->∃o,H[id]? =some o:=by intro id z h;have:=(aD.1 h).1;exact⟨_,aJ aA0⟩
 have T:∀{id j:Nat},eL id j (R++Jd H E)=true->eL id j R=true\/id∈E:=by
  intro id j h;rcases By.1 h with h|h
  ·exact .inl h
  ·obtain⟨q,w,h1,_⟩:=tI.1 h;obtain⟨a7,h2,rfl⟩:=Ln w;exact .inr (h1▸h2)
 have F:∀{id j:Nat},eL id j R=true->eL id j (R++Jd H E)=true:=fun h=>By.2 (.inl h);have D:∀{id j:Nat},eL id j (Jd H E)=true->eL id j (R++Jd H E)=true:=fun h=>By.2 (.inr h);refine⟨by rw [B];rfl,a3,fun t=>by rw [B];exact a4 t,fun id e cs d c U=> ?_,fun id o d=> ?_,fun id o Q d=> ?_,fun j s o f=>by simp at f,fun id Q he=> ?_,fun id o d=> ?_⟩
 ·rw [B];obtain⟨o,y⟩:=r id _ d;obtain⟨z,h1,h2,h3⟩:=get id o y;rw [h3]at d;split at d
  ·cases d
  ·cases d;cases o with
   |bl e2 A=>
    obtain⟨b0,h4,V,S⟩:=h2;cases h4;obtain⟨j,f⟩:=fH.1 U;rw [S]at f;split at f
    ·cases C:A[j]? with
     |none=>rw [C]at f;cases f
     |some _=>rw [C]at f;cases f;intro i Q;cases Q
    ·exact M id e A y c (aG f)
   |_=>
    rcases h2 with⟨h2,_⟩|⟨h2,_⟩
    ·cases h2
    ·cases h2
 ·obtain⟨P,y⟩:=r id _ d;obtain⟨z,h1,h2,h3⟩:=get id P y;have X:=(aD.1 y).1;rw [K id X,<-Y id P y];rw [h3]at d;split at d
  ·cases d;rfl
  ·cases d;exact h2.len
 ·obtain⟨P,y⟩:=r id _ d;obtain⟨z,h1,h2,h3⟩:=get id P y;rw [h3]at d;have p:=Z.kp id P Q y;split at d
  ·cases d;trivial
  ·rename_i I;cases d;have k:∀{j:Nat},eL id j ((R++Jd H E))=true->eL id j (R)=true:=fun h=>(T h).resolve_right I;cases P with
   |bl e O=>
    obtain⟨cs,rfl,V,S⟩:=h2;rcases p with p|⟨A,a2,a1,a0⟩
    ·exfalso;obtain⟨q,w,G,h8,h9⟩:=tI.1 (k (p O.length (eJ _)));rcases x q w with⟨e4,N,a,g⟩|⟨a,g⟩
     ·rw [G,y]at a;cases a;omega
     ·rw [G,y]at a;cases a
    ·refine⟨A,a2,by rw [a1,V],fun j c f L=> ?_⟩;rw [S]at f;split at f
     ·cases C:O[j]? with
      |none=>rw [C]at f;cases f
      |some _=>rw [C]at f;cases f;cases L
     ·rename_i W;rcases a0 j c f with G|⟨c2,G,h8⟩
      ·exact absurd (k G) W
      ·refine⟨c2,G,(h8 L).1, ?_⟩;rw [(h8 L).2];exact(SC.up K (M id e O y c (aG f))).symm
   |rw e b t l=>
    rcases h2 with⟨rfl,h2⟩|⟨rfl,_⟩
    ·rcases p with p|p
     ·obtain⟨q,w,G,_⟩:=tI.1 (k p);exact absurd G (h2 q w)
     ·exact p
    ·trivial
   |br m l=>
    rcases h2 with⟨rfl,h2⟩|⟨rfl,_⟩
    ·rcases p with p|p
     ·obtain⟨q,w,G,_⟩:=tI.1 (k p);exact absurd G (h2 q w)
     ·exact p
    ·trivial
   |ro t l=>
    rcases h2 with⟨rfl,h2⟩|⟨rfl,_⟩
    ·exact p
    ·trivial
   |dd n=>rcases h2 with⟨rfl,h2⟩|⟨rfl,_⟩<;>trivial
 ·obtain⟨o,y⟩:∃o,H[id]? =some o:=⟨_,aJ Q⟩;obtain⟨z,h1,h2,h3⟩:=get id o y;rw [h3,aC he];exact⟨_,rfl⟩
 ·obtain⟨z,h1,h2,h3⟩:=get id o d;rw [h3];by_cases I:id∈E
  ·rw [aC I];cases o with
   |bl e cs=>exact .inl fun j f=>D (Eh d I f)
   |rw e b t l=>exact .inl (D (jm I))
   |br m l=>exact .inl (D (jm I))
   |ro t l=>rcases J id I with h|⟨_,_,h⟩<;>rw [d]at h<;>cases h
   |dd n=>rcases J id I with h|⟨_,_,h⟩<;>rw [d]at h<;>cases h
  ·rw [aB I];cases o with
   |bl e cs=>
    obtain⟨A,rfl,V,S⟩:=h2;refine .inr ⟨A,rfl,V,fun j c f=> ?_⟩;by_cases U:eL id j (R)=true
    ·exact .inl (F U)
    ·exact .inr ⟨c,by rw [S,aB U];exact f,fun p=>⟨p,SC.up K (M id e cs d c (aG f))⟩⟩
   |rw e b t l=>
    rcases h2 with⟨rfl,_⟩|⟨rfl,q,w,rfl⟩
    ·exact .inr rfl
    ·rcases x q w with⟨e4,N,a,g⟩|⟨a,g⟩
     ·rw [d]at a;cases a
     ·exact .inl (F (tI.2 ⟨q,w,rfl,by rw [g];exact eJ _,by rw [g];exact Di⟩))
   |br m l=>
    rcases h2 with⟨rfl,_⟩|⟨rfl,q,w,rfl⟩
    ·exact .inr rfl
    ·rcases x q w with⟨e4,N,a,g⟩|⟨a,g⟩
     ·rw [d]at a;cases a
     ·exact .inl (F (tI.2 ⟨q,w,rfl,by rw [g];exact eJ _,by rw [g];exact Di⟩))
   |ro t l=>
    rcases h2 with⟨rfl,_⟩|⟨rfl,q,w,rfl⟩
    ·rfl
    ·rcases x q w with⟨e4,N,a,g⟩|⟨a,g⟩<;>rw [d]at a<;>cases a
   |dd n=>rcases h2 with⟨rfl,_⟩|⟨rfl,_⟩<;>rfl
theorem PI.base(b:Rel C w0 S0 ρ S F w)(f:yb S J)(d:Le S.H.length (S.Fk J) ρ S.H bD S2.H)(g:∀t,t∉wl->F2 t=F t)(a:Up S.H.length ρ ρ3):
  PI S.H.length S2.H ρ bD ρ3 F2 (S.T6 J) S.H (S.Fk J) (S.base J wl).1 (S.base J wl).2 []:=by
 refine PI.U0 (vY b) b.ho (fun q i=> ?_) (fun id hid=>GO hid) d a (fun t u c=> ?_) (fun t=> ?_)
 ·obtain⟨k,e,⟨t,off,x,rfl,rfl⟩|⟨t,x,rfl,rfl⟩⟩:=Ps i
  ·exact .inl (Ea f.chk _ e)
  ·exact .inr ⟨Ea f.chk _ e,rfl⟩
 ·rw [show(S.base J wl).1=del S.F wl from rfl,Rr]at c;split at c
  ·cases c
  ·rename_i h;rw [g t h];refine b.fr t u ?_;rw [<-SV.up a (b.fo t)];exact c
 ·rw [show(S.base J wl).1=del S.F wl from rfl,Rr];split
  ·trivial
  ·exact b.fo t
theorem Ra(P:Rel C w0 S0 ρ S F w)(K:yb S J)(q:Le S.H.length (S.Fk J) ρ S.H bD S2.H)(h:Rel C w0 S0 bD S2 F2 w2)(U:∀t,t∉wl->F2 t=F t){v:(lR J).T}(f:leaf S J S2=some v):
  ∃ρ3,Up S.H.length ρ ρ3/\(∀z:St,z.F=(Cg S.ix (S.base J wl) J v).1->z.H=(Cg S.ix (S.base J wl) J v).2->Rel C w0 S0 ρ3 z F2 w2)/\
   ∀(A:Nat) (al:List Rg),(∀id j,id<A->eL id j (S.Fk J)=true->eL id j al=true)->Le A al ρ S.H ρ3 (Cg S.ix (S.base J wl) J v).2:=by
 unfold leaf at f;split at f
 ·rename_i v2 ss V;cases a:tk S J ss with
  |false=>rw [a]at f;cases f
  |true=>
   cases l:Uk S.H.length (S.Fk J) S2.m with
   |false=>rw [a,l]at f;cases f
   |true=>
    rw [a,l]at f;cases f;have a:=gJ a
    let ρ3:Nat->Ad:=fun id=>if id<S.H.length then bD id else match ss[id-S.H.length]? with
     |some s=>s.ad bD
     |none=>bD id
    have c:Up S.H.length bD ρ3:=fun id E=>by simp only [ρ3,E,eM]
    have d:Up S.H.length ρ ρ3:=q.up.trans c (eJ _);have r:∀(j:Nat) (s:Src),ss[j]? =some s->ρ3 (S.H.length+j)=s.ad bD:=by intro j s X;have h1:¬S.H.length+j<S.H.length:=aA0;have h2:S.H.length+j-S.H.length=j:=aA0;simp only [ρ3,h1,cL,h2,X]
    have R:=PI.base (wl:=wl) P K q U d;have p:(S.base J wl).2.length=S.H.length:=R.len;have D:∀k∈J,KC S.H.length S.H (S.T6 J) (S.Fk J) S.ix k:=by
     intro k y;have b:=Ea K.chk k y;cases k with
     |s' _ _=>trivial
     |o' t off x=>obtain⟨e,cs,h1,h2⟩:=b;exact⟨(aD.1 h1).1,fun j h3 h4=>By.2 (.inl (tI.2 ⟨_,ET y,rfl,h3,h4⟩))⟩
     |w' t x=>
      have b:tC S.H[S.ix t]? =true:=b;have B:S.ix t<S.H.length:=by
       cases h1:S.H[S.ix t]? with
       |none=>rw [h1]at b;cases b
       |some _=>exact(aD.1 h1).1
      refine⟨B,By.2 (.inl (tI.2 ⟨_,Va y,rfl,eJ _,Di⟩)),fun hE=> ?_,b⟩;have:=GR (show Rq (Zn S.ix J++Jd S.H (S.T6 J))=true from K.dis) _ (Va y) _ (tj hE) rfl
      have h5:0<(pA S.H (S.ix t)).2.2:=by
       unfold pA;simp only;split
       ·exact Nat.succ_pos _
       ·exact Di
      rcases this with N|N
      ·exact absurd N (by show¬1<=0;omega)
      ·exact absurd N (by show¬_<=0;omega)
    have n:=PI.steps (vY h) (vZ h) (eJ _) c h.fr J _ _ [] v ss R V D (by rw [p];exact r);rw [Ka]at n;obtain⟨L,hH,Z⟩:=h.mem;obtain⟨L3,M,I⟩:=n.mem hH Z c r (lH.1 a.1) (OX a.2);refine⟨ρ3,d,fun z Q i=> ?_,fun A al G=> ?_⟩
    ·refine⟨fun g id Y=> ?_,fun t u O=> ?_,fun t=> ?_, ?_,⟨L3,M,by rw [i];exact I⟩⟩
     ·obtain⟨h1,h2⟩:=P.gl g id Y;have:=n.len;rw [i];exact⟨by have:(Cg S.ix (S.base J wl) J v).2.length=S.H.length+ss.length:=this;omega,by rw [d id h1];exact h2⟩
     ·rw [St.at_eq,Q]at O;exact n.fr t u O
     ·rw [St.at_eq,Q,i];exact n.fo t
     ·rw [i];exact n.ho
    ·refine⟨?_,d,fun id o E W=>(n.kp id o W).mono fun j=>G id j E⟩;have:(Cg S.ix (S.base J wl) J v).2.length=S.H.length+ss.length:=n.len;omega
 ·cases f
end
open Go.Wk
open Go.Ce (Tr)
section
variable {P : Program} {n : Md} {Q : Exit -> Act -> World -> Prop} {F : Nat -> Value} {w : World}
theorem c_fr{c:Code}{F2:Nat->Value}(h:Go.Wk.C P n Q c F w)(e:fr n F2=fr n F):Go.Wk.C P n Q c F2 w:=by unfold Go.Wk.C at h⊢;rw [e];exact h
theorem HH{f G:Nat->Value}{t:Nat}:∀{l:List Nat},app (l.map fun t=>(t,f t)) G t=if t∈l then f t else G t
 |[]=>by simp [app]
 |x::l=>by
  show dN (app (l.map fun t=>(t,f t)) G) x (f x) t=_;by_cases h:t=x
  ·subst h;rw [L4];simp
  ·rw [Em _ _ _ _ h,HH];simp [h]
theorem uP{f:Nat->Value}:∀{l:List Nat},kX f (l.map fun t=>(t,f t))
 |[]=>trivial
 |x::l=>⟨rfl,uP⟩
theorem UH{F2:Nat->Value}(h:∀t,t<n.n->F2 t=F t):fr n F2=fr n F:=by unfold fr;congr 1;congr 1;funext i;exact h i.val i.isLt
theorem J5{c:Code}(I:Nat->(Nat->Value)->World->Prop)(d:Nat)(i:I d F w)(round:∀k F w,I k F w->Go.Wk.C P n (Exit.then (fun a' w'=>∃k' b,a'=fr n b/\k'<k/\I k' b w') Q) c F w):Go.Wk.C P n Q (.loop c) F w:=by
 refine VT (σ:=Nat×(Nat->Value)) (fun s=>(List.range n.n).map fun t=>(t,s.2 t)) (fun s w=>I s.1 s.2 w) (fun s=>s.1) (d,F) uP i fun s w G g=> ?_;have e:fr n (app ((List.range n.n).map fun t=>(t,s.2 t)) G)=fr n s.2:=UH fun t f=>by rw [HH];simp [f]
 refine c_fr (Sd (round s.1 s.2 w g) fun e a w' h=> ?_) e;cases e with
 |normal=>obtain⟨k',b,h1,h2,h3⟩:=h;exact⟨(k',b),b,h1,uP,h3,h2⟩
 |_=>exact h
theorem Py{y:Code}(h:Go.Wk.C P n Q y F w):Aq P n y Q .normal (fr n F) w:=by obtain⟨k,D,ro⟩:=n;exact Zr h
end
structure Lf (S:St) (ρ:Nat->Ad) (S2:St) (bD:Nat->Ad):Prop where
 nb:S2.nb=S.nb
 al:S2.al=S.al
 le:Le S.nb S.al ρ S.H bD S2.H
structure Nx (S:St) (ρ:Nat->Ad) (S2:St) (bD:Nat->Ad):Prop extends Lf S ρ S2 bD where
 lg:Le S.H.length S2.m ρ S.H bD S2.H
 mm:∀id j,eL id j S.m=true->eL id j S2.m=true
theorem Lf.refl{S:St}{ρ:Nat->Ad}:Lf S ρ S ρ:=⟨rfl,rfl,Le.refl⟩
theorem Lf.trans{S S2 c:St}{ρ bD ρ3:Nat->Ad}(h:Lf S ρ S2 bD)(a:Lf S2 bD c ρ3):Lf S ρ c ρ3:=by have b:=a.le;rw [h.nb,h.al]at b;exact⟨a.nb.trans h.nb,a.al.trans h.al,h.le.trans b⟩
theorem Nx.refl{S:St}{ρ:Nat->Ad}:Nx S ρ S ρ:=⟨Lf.refl,Le.refl,fun _ _ h=>h⟩
theorem Nx.trans{S S2 c:St}{ρ bD ρ3:Nat->Ad}(h:Nx S ρ S2 bD)(b:Nx S2 bD c ρ3):Nx S ρ c ρ3:=
 ⟨h.toLf.trans b.toLf,(h.lg.mono (eJ _) fun id j _ a=>b.mm id j a).trans (b.lg.mono h.lg.len fun id j _ a=>a),fun id j a=>b.mm id j (h.mm id j a)⟩
def exO:Ex->Exit
 |.nm=>.normal
 |.xt i=>.exit i
def LN(C:Cx)(md:Md)(c:Code)(F:Nat->Value):Prop:=∀(i d:Nat) (o:Oper),RP (Od c) i=true->(Od c)[i]? =some o->o.dst=some d->∃a w2,(execOp (aW md F) o).run C.P a=.ok (.value (F d)) w2
def Tb(C:Cx)(md:Md):Prop:=∀(w0:World) (S0:List Nat) (ρ:Nat->Ad) (S:St) (F:Nat->Value) (w:World) (op:Op) (v:SV) (H:List Ob) (m:List Rg),Rel C w0 S0 ρ S F w->kU op=true->opP C (S.ev C) S.H op=some ⟨[],v,H,m⟩->∀w',tJ C md ρ S F w' op v
def XD(C:Cx)(md:Md)(w0:World)(S0:List Nat)(id:Nat)(ops:Array Oper)(d:Bool):Prop:=∀(ρ':Ty) (S:St) (a:St->Option ρ'.T) (r:ρ'.T) (ρ:Nat->Ad) (F:Nat->Value) (w:World) (Q:Exit->Act->World->Prop),(bif d then Rp C ops S a else AY C ops.toList ops.toList 0 S a)=some r->Rel C w0 S0 ρ S F w->
 (∀S2 bD F2 w2,a S2=some r->Rel C w0 S0 bD S2 F2 w2->Nx S ρ S2 bD->(∀t,t∉Ba ops.toList->F2 t=F t)->LN C md (.region id ops d) F2->Q .normal (fr md F2) w2)->Go.Wk.C C.P md Q (.region id ops d) F w
def nV(C:Cx)(md:Md)(w0:World)(S0:List Nat):Code->Prop
 |.region id ops d=>XD C md w0 S0 id ops d
 |.seq a b=>nV C md w0 S0 a/\nV C md w0 S0 b
 |.cond _ a b=>nV C md w0 S0 a/\nV C md w0 S0 b
 |.block _ a=>nV C md w0 S0 a
 |.loop a=>nV C md w0 S0 a
 |.scope a=>nV C md w0 S0 a
 |_=>True
section
variable {C : Cx} {md : Md} {w0 : World} {S0 : List Nat} {τ : Ty} {res : St -> Option τ.T}
theorem Rel.same{ρ:Nat->Ad}{S S2:St}{F:Nat->Value}{w:World}(h:Rel C w0 S0 ρ S F w)(d:S2.F=S.F)(a:S2.H=S.H):Rel C w0 S0 ρ S2 F w:=by
 have b:∀t,S2.at t=S.at t:=fun t=>by rw [St.at_eq,St.at_eq,d]
 refine⟨?_,fun t v c=>h.fr t v (by rw [<-b];exact c),fun t=>by rw [b,a];exact h.fo t, ?_, ?_⟩
 ·rw [a];exact h.gl
 ·rw [a];exact h.ho
 ·rw [a];exact h.mem
theorem Rel.set{ρ:Nat->Ad}{S:St}{F:Nat->Value}{w:World}(h:Rel C w0 S0 ρ S F w){d:Nat}{v:SV}(b:∀u,v.v ρ=some u->F d=u)(c:v.ok S.H.length):Rel C w0 S0 ρ (S.set d v) F w:=by
 refine⟨h.gl,fun t u a=> ?_,fun t=> ?_,h.ho,h.mem⟩
 ·rw [jM]at a;by_cases e:t=d
  ·rw [aC e]at a;subst e;exact b u a
  ·rw [aB e]at a;exact h.fr t u a
 ·rw [jM];by_cases e:t=d
  ·rw [aC e];exact c
  ·rw [aB e];exact h.fo t
theorem Jj(k:Tb C md){c:Code}{ρ:Nat->Ad}{F:Nat->Value}{w:World}(b:LN C md c F):∀(R:List Nat) (S:St),Q1 (Od c) R=true->Rel C w0 S0 ρ S F w->
  Rel C w0 S0 ρ (again C (Od c) R S) F w/\(again C (Od c) R S).H=S.H/\(again C (Od c) R S).nb=S.nb/\(again C (Od c) R S).al=S.al/\(again C (Od c) R S).m=S.m
 |[],S,_,h=>⟨h,rfl,rfl,rfl,rfl⟩
 |i::R,S,f,h=>by
  simp only [Q1]at f;have f:=gJ f;have a:=Jj k b R S f.2 h;simp only [again];split
  ·rename_i o p;split
   ·rename_i d s;split
    ·rename_i v H m l
     ·rw [fW]at p;obtain⟨t,w2,y⟩:=b i d o f.1 p s;have h1:=f.1;unfold RP at h1;rw [fW,p]at h1;simp only [s]at h1;have h1:=gJ h1;have h2:=gJ h1.2;obtain⟨n,u,x,hx⟩:=k w0 S0 ρ S F w o.op v H m h h2.1 l t;have r:o.guard=none:=by
       cases r:o.guard with
       |none=>rfl
       |some q=>rw [r]at h1;cases h1.1
      have j:u=F d:=by
       have e:o=⟨some d,o.op,o.type,o.pos,o.after,none⟩:=by rw [<-s,<-r]
       have h3:=hx d o.type o.pos o.after;rw [<-e,y]at h3;cases h3;rfl
      have z:=Jj k b R (S.set d v) f.2 (h.set (fun A g=>by rw [x]at g;cases g;exact j.symm) n);exact z
    ·exact a
   ·exact a
  ·exact a
theorem CN{T:Type}{ρ:Nat->Ad}{S:St}{F:Nat->Value}{w:World}(h:Rel C w0 S0 ρ S F w)(f:C.nn=md.n){c:Operand}{y n:Option T}{r:T}(a:WC (S.ev C c) y n=some r):
  ∃b,aW md F c=.bool b/\(b=true->y=some r)/\(b=false->n=some r):=by
 unfold WC at a;split at a
 ·rename_i x hx;refine⟨x,(mC h f hx).2,fun e=> ?_,fun e=> ?_⟩<;>(subst e;exact a)
 ·rename_i p d hx;refine⟨@decide p d,(mC h f hx).2,fun e=> ?_,fun e=> ?_⟩
  ·rw [aC (cJ e)]at a;exact a
  ·rw [aB (fB e)]at a;exact a
 ·rename_i p d hx;refine⟨!@decide p d,(mC h f hx).2,fun e=> ?_,fun e=> ?_⟩
  ·have:¬p:=by simpa using e
   rw [aB this]at a;exact a
  ·have:p:=by simpa using e
   rw [aC this]at a;exact a
 ·cases a
def Snd(C:Cx)(md:Md)(w0:World)(S0:List Nat)(τ:Ty)(res:St->Option τ.T)(c:Code):Prop:=
 ∀(d:Sc) (S:St) (ρ':Ty) (b:τ.T->Option ρ'.T) (a:Ex->St->Option ρ'.T) (r:ρ'.T) (ρ:Nat->Ad) (F:Nat->Value) (w:World) (Q:Exit->Act->World->Prop),den C τ res c d S ρ' b a=some r->Rel C w0 S0 ρ S F w->
  (∀e S2 bD F2 w2,a e S2=some r->Rel C w0 S0 bD S2 F2 w2->Nx S ρ S2 bD->(∀t,t∉wr c->F2 t=F t)->(e=.nm->LN C md c F2)->Q (exO e) (fr md F2) w2)->
  (∀y S2 bD F2 w2,res S2=some y->b y=some r->Rel C w0 S0 bD S2 F2 w2->Lf S ρ S2 bD->Q .ret (fr md F2) w2)->Go.Wk.C C.P md Q c F w
theorem WM{c:Code}{F:Nat->Value}(h:Od c=[]):LN C md c F:=fun i d o _ a=>by rw [h]at a;simp at a
end
open Go.Wk
open Go.Ce (Tr)
open Nat renaming beq → cP
open Sum renaming elim → eF
section
variable {C : Cx} {md : Md} {w0 : World} {S0 : List Nat} {τ : Ty} {res : St -> Option τ.T}
theorem Wf{S S2:St}{J:List Key}{v:(lR J).T}(h:leaf S J S2=some v):Uk S.H.length (S.Fk J) S2.m=true:=by
 unfold leaf at h;split at h
 ·cases a:tk S J _ with
  |false=>rw [a]at h;cases h
  |true=>
   cases b:Uk S.H.length (S.Fk J) S2.m with
   |false=>rw [a,b]at h;cases h
   |true=>rfl
 ·cases h
theorem pj{S:St}{J:List Key}{w:List Nat}{v:(lR J).T}:(S.out J w v).F=(Cg S.ix (S.base J w) J v).1:=rfl
theorem Q0{S:St}{J:List Key}{w:List Nat}{v:(lR J).T}:(S.out J w v).H=(Cg S.ix (S.base J w) J v).2:=rfl
theorem lC{a b:Code}(I:Snd C md w0 S0 τ res a)(H:Snd C md w0 S0 τ res b)(z x:Sc)(S:St)(ρ':Ty)(f:τ.T->Option ρ'.T)(j:Ex->St->Option ρ'.T)(r:ρ'.T)(ρ:Nat->Ad)(F:Nat->Value)(w:World)(Q:Exit->Act->World->Prop)
  (h:den C τ res a z S ρ' f (vM j fun S2=>den C τ res b x S2 ρ' f j)=some r) (J:Rel C w0 S0 ρ S F w)
  (G:∀e S2 bD F2 w2,j e S2=some r->Rel C w0 S0 bD S2 F2 w2->Nx S ρ S2 bD->(∀t,t∉wr (.seq a b)->F2 t=F t)->(e=.nm->LN C md (.seq a b) F2)->Q (exO e) (fr md F2) w2)
  (E:∀y S2 bD F2 w2,res S2=some y->f y=some r->Rel C w0 S0 bD S2 F2 w2->Lf S ρ S2 bD->Q .ret (fr md F2) w2):Go.Wk.C C.P md Q (.seq a b) F w:=by
 have A:wr (.seq a b)=wr a++wr b:=rfl;refine Sg (I z S ρ' f _ r ρ F w _ h J (fun e S2 bD F2 w2 D c q B _=> ?_) (fun y S2 bD F2 w2 l m c s=>Us (E y S2 bD F2 w2 l m c s)));cases e with
 |nm=>refine Py (H x S2 ρ' f j r bD F2 w2 Q D c (fun K u ρ3 v k o d p n _=> ?_) (fun y u ρ3 v k l m d s=>E y u ρ3 v k l m d (q.toLf.trans s)));exact G K u ρ3 v k o d (q.trans p) (fun t g=>by rw [A]at g;rw [n t fun h=>g (MW _ h),B t fun h=>g (Ed _ h)]) (fun _=>WM rfl)
 |xt i=>exact yJ (G (.xt i) S2 bD F2 w2 D c q (fun t g=>B t fun h=>g (by rw [A];exact Ed _ h)) (fun h=>by cases h))
theorem ao{S c:St}{ρ ρ3:Nat->Ad}{J:List Key}{H:List Ob}(k:yb S J)(h:c.H=H)(d:c.nb=S.nb)(e:c.al=S.al)(g:c.m=S.Fk J++S.m)(a:∀(f:Nat) (al:List Rg),(∀id j,id<f->eL id j (S.Fk J)=true->eL id j al=true)->Le f al ρ S.H ρ3 H):Nx S ρ c ρ3:=by
 refine⟨⟨d,e, ?_⟩, ?_,fun id j b=> ?_⟩
 ·rw [h];exact a S.nb S.al fun id j i b=>wJ k.yH i b
 ·rw [h,g];exact a _ _ fun id j _ b=>By.2 (.inl b)
 ·rw [g];exact By.2 (.inr b)
theorem E9{S S2:St}{ρ bD:Nat->Ad}{J:List Key}(h:Le S.H.length S2.m ρ S.H bD S2.H)(a:Uk S.H.length (S.Fk J) S2.m=true):Le S.H.length (S.Fk J) ρ S.H bD S2.H:=
 h.mono (eJ _) fun id j b c=>Pb a b c
theorem RM(g:Tb C md){a:Code}{S S2:St}{J:List Key}{R:List Nat}{ρ bD:Nat->Ad}{F F2:Nat->Value}{w w2:World}(i:Rel C w0 S0 ρ S F w)(e:yb S J)(j:Q1 (Od a) R=true)(c:Rel C w0 S0 bD S2 F2 w2)(k:Nx S.Kt ρ S2 bD)
  (h:∀t,t∉wr a->F2 t=F t) (b:LN C md a F2) {v:(lR J).T} (d:leaf S J S2=some v):∃ρ3,Rel C w0 S0 ρ3 (again C (Od a) R (S.out J (wr a) v)) F2 w2/\Nx S ρ (again C (Od a) R (S.out J (wr a) v)) ρ3:=by
 obtain⟨ρ3,f,h1,h2⟩:=Ra (wl:=wr a) i e (E9 k.lg (Wf d)) c h d;obtain⟨h3,o,n,m,l⟩:=Jj g b R _ j (h1 (S.out J (wr a) v) pj Q0);exact⟨ρ3,h3,ao e (o.trans Q0) n m l h2⟩
theorem KV(hn:C.nn=md.n)(hD:∃k,md=⟨k,[],none⟩)(hp:Tb C md):∀(c:Code),nV C md w0 S0 c->Snd C md w0 S0 τ res c:=by
 intro c;induction c with
 |skip=>intro _ V S ρ' z u r ρ F w Q h B E M;exact Iy (E .nm S ρ F w h B Nx.refl (fun _ _=>rfl) (fun _=>WM rfl))
 |label l=>intro _ V S ρ' z u r ρ F w Q h B E M;exact J6 (E .nm S ρ F w h B Nx.refl (fun _ _=>rfl) (fun _=>WM rfl))
 |exit id=>intro _ V S ρ' z u r ρ F w Q h B E M;exact An (E (.xt id) S ρ F w h B Nx.refl (fun _ _=>rfl) (fun h=>by cases h))
 |goto l=>intro _ V S ρ' z u r ρ F w Q h;cases h
 |refuse l=>intro _ V S ρ' z u r ρ F w Q h;cases h
 |rangeFunc f p a b _ _=>intro _ V S ρ' z u r ρ F w Q h;cases h
 |ret=>
  intro _ V S ρ' z u r ρ F w Q h B E M;have h:(match res S with
   |some q=>z q
   |none=>none)=some r:=h
  split at h
  ·rename_i q hq;exact Oa (M q S ρ F w hq h B Lf.refl)
  ·cases h
 |region id ops d=>intro s V S ρ' z u r ρ F w Q h B E M;exact s ρ' S (fun S2=>u .nm S2) r ρ F w Q h B fun S2 bD F2 w2 h2 o U O G=>E .nm S2 bD F2 w2 h2 o U O (fun _=>G)
 |scope a ih=>
  intro s V S ρ' z u r ρ F w Q h B E M;obtain⟨k,rfl⟩:=hD;refine Sb (ih s V S ρ' z u r ρ F w _ h B (fun e S2 bD F2 w2 A o U O G=> ?_) (fun y S2 bD F2 w2 hy D o hL=>Mp (M y S2 bD F2 w2 hy D o hL)));have:=E e S2 bD F2 w2 A o U O (fun _=>WM rfl);cases e with
  |nm=>exact RW this
  |xt i=>exact ax this
 |block id a ih=>
  intro s V S ρ' z u r ρ F w Q h B E M;refine GY (ih s V S ρ' z (R2 id u) r ρ F w _ h B (fun e S2 bD F2 w2 A o U O G=> ?_) (fun y S2 bD F2 w2 hy D o hL=>tc (M y S2 bD F2 w2 hy D o hL)));cases e with
  |nm=>exact WJ (E .nm S2 bD F2 w2 A o U O (fun _=>WM rfl))
  |xt i=>
   have A:(bif cP i id then u .nm S2 else u (.xt i) S2)=some r:=A;cases hb:cP i id with
   |true=>rw [hb]at A;rw [gP hb];exact Am (E .nm S2 bD F2 w2 A o U O (fun _=>WM rfl))
   |false=>rw [hb]at A;exact CO hb (E (.xt i) S2 bD F2 w2 A o U O (fun h=>by cases h))
 |cond c a b L K=>
  intro s V S ρ' z u r ρ F w Q h B E M;have Z:wr (.cond c a b)=wr a++wr b:=rfl;have hA:∀N,den C τ res a N S ρ' z u=some r->Go.Wk.C C.P md Q a F w:=fun N h=>L s.1 N S ρ' z u r ρ F w Q h B (fun e S2 bD F2 w2 A o U O _=>E e S2 bD F2 w2 A o U (fun t W=>O t fun h=>W (by rw [Z];exact Ed _ h)) (fun _=>WM rfl)) M;have hB:∀X,den C τ res b X S ρ' z u=some r->Go.Wk.C C.P md Q b F w:=fun X h=>K s.2 X S ρ' z u r ρ F w Q h B (fun e S2 bD F2 w2 A o U O _=>E e S2 bD F2 w2 A o U (fun t W=>O t fun h=>W (by rw [Z];exact MW _ h)) (fun _=>WM rfl)) M;have both:∀N X,WC (S.ev C c) (den C τ res a N S ρ' z u) (den C τ res b X S ρ' z u)=some r->Go.Wk.C C.P md Q (.cond c a b) F w:=by intro N X h;obtain⟨x,h1,h2,h3⟩:=CN B hn h;exact qS h1 (fun e=>hA N (h2 e)) (fun e=>hB X (h3 e))
  cases V with
  |y' N=>obtain⟨x,h1,h2,h3⟩:=CN B hn (show WC (S.ev C c) (den C τ res a N S ρ' z u) none=some r from h);exact qS h1 (fun e=>hA N (h2 e)) (fun e=>by have:=h3 e;cases this)
  |z' X=>obtain⟨x,h1,h2,h3⟩:=CN B hn (show WC (S.ev C c) none (den C τ res b X S ρ' z u)=some r from h);exact qS h1 (fun e=>by have:=h2 e;cases this) (fun e=>hB X (h3 e))
  |n'=>exact both _ _ h
  |s' x y=>exact both _ _ h
  |j' J R x y=>exact both _ _ h
  |r' J R x y=>exact both _ _ h
  |l' J x=>exact both _ _ h
 |seq a b L K=>
  intro s V S ρ' z u r ρ F w Q h B E M;have L:=L s.1;have K:=K s.2;have Z:wr (.seq a b)=wr a++wr b:=rfl;cases V with
  |j' J R N X=>
   have h:(bif S.Q2 J then(bif Q1 (Od a) R then Option.bind (den C τ res a N S.Kt (lR J) (fun _=>none) (vM yl (leaf S J))) (fun v=>den C τ res b X (again C (Od a) R (S.out J (wr a) v)) ρ' z u)else none)else none)=some r:=h;have h:=dC h;have h2:=dC h.2;have hJ:=AZ h.1;obtain⟨v,h3,h4⟩:=xS h2.2;refine Sg (L N S.Kt (lR J) _ _ v ρ F w _ h3 (B.same rfl rfl) (fun e S2 bD F2 w2 A o U O G=> ?_) (fun y S2 bD F2 w2 hy D=>by cases D));cases e with
   |xt i=>cases A
   |nm=>obtain⟨ρ3,h5,h6⟩:=RM hp B hJ h2.1 o U O (G rfl) A;refine Py (K X _ ρ' z u r ρ3 F2 w2 Q h4 h5 (fun e3 S3 Y F3 w3 b1 a0 b2 a9 _=> ?_) (fun y S3 Y F3 w3 hy D a0 hL=>M y S3 Y F3 w3 hy D a0 (h6.toLf.trans hL)));exact E e3 S3 Y F3 w3 b1 a0 (h6.trans b2) (fun t W=>by rw [Z]at W;rw [a9 t fun h=>W (MW _ h),O t fun h=>W (Ed _ h)]) (fun _=>WM rfl)
  |r' J R N X=>
   have h:(bif S.Q2 J then(bif Q1 (Od a) R then Option.bind (den C τ res a N S.Kt (.sm (lR J) τ) (fun r=>some (.inr r)) (vM yl (FN τ S J))) (fun j=>eF (fun v=>den C τ res b X (again C (Od a) R (S.out J (wr a) v)) ρ' z u) (fun q=>z q) j)else none)else none)=some r:=h;have h:=dC h;have h2:=dC h.2;have hJ:=AZ h.1;obtain⟨v,h3,h4⟩:=xS h2.2;refine Sg (L N S.Kt (.sm (lR J) τ) _ _ v ρ F w _ h3 (B.same rfl rfl) (fun e S2 bD F2 w2 A o U O G=> ?_) (fun y S2 bD F2 w2 hy D o hL=> ?_))
   ·cases e with
    |xt i=>cases A
    |nm=>
     have A:FN τ S J S2=some v:=A;unfold FN at A;split at A
     ·rename_i v2 a3;cases A;obtain⟨ρ3,h5,h6⟩:=RM hp B hJ h2.1 o U O (G rfl) a3;refine Py (K X _ ρ' z u r ρ3 F2 w2 Q h4 h5 (fun e3 S3 Y F3 w3 b1 a0 b2 a9 _=> ?_) (fun y S3 Y F3 w3 hy D a0 hL=>M y S3 Y F3 w3 hy D a0 (h6.toLf.trans hL)));exact E e3 S3 Y F3 w3 b1 a0 (h6.trans b2) (fun t W=>by rw [Z]at W;rw [a9 t fun h=>W (MW _ h),O t fun h=>W (Ed _ h)]) (fun _=>WM rfl)
     ·cases A
   ·cases D;exact Us (M y S2 bD F2 w2 hy h4 o ⟨hL.nb,hL.al,hL.le⟩)
  |n'=>exact lC L K _ _ S ρ' z u r ρ F w Q h B E M
  |s' x y=>exact lC L K _ _ S ρ' z u r ρ F w Q h B E M
  |l' J x=>exact lC L K _ _ S ρ' z u r ρ F w Q h B E M
  |y' x=>exact lC L K _ _ S ρ' z u r ρ F w Q h B E M
  |z' x=>exact lC L K _ _ S ρ' z u r ρ F w Q h B E M
 |loop a ih=>
  intro s V S ρ' z u r ρ F w Q h B E M;have Z:wr (.loop a)=wr a:=rfl;cases V with
  |l' J N=>
   have h:(bif S.Q2 J then(match leaf S J S.Kt with
    |some v=>bM (fun g v=>den C τ res a N (S.head J (wr a) v) ρ' z (vM (fun e S2=>u e (S2.as S J)) (Yw (leaf S J) g))) C.fu v
    |none=>none)else none)=some r:=h
   have h:=dC h;have hJ:=AZ h.1;have h2:=h.2;split at h2
   ·rename_i v hv;generalize b9:(fun(g:(lR J).T->Option ρ'.T) v=>den C τ res a N (S.head J (wr a) v) ρ' z (vM (fun e S2=>u e (S2.as S J)) (Yw (leaf S J) g)))=f0 at h2;let I:Nat->(Nat->Value)->World->Prop:=fun k F' w'=>∃(v:(lR J).T) (ρ':Nat->Ad),bM f0 k v=some r/\Rel C w0 S0 ρ' (S.head J (wr a) v) F' w'/\(∀(nb:Nat) (al:List Rg),(∀id j,id<nb->eL id j (S.Fk J)=true->eL id j al=true)->Le nb al ρ S.H ρ' (S.head J (wr a) v).H)/\∀t,t∉wr a->F' t=F t;have c7:I C.fu F w:=by obtain⟨ρ3,c4,h3,h4⟩:=Ra (S2:=S.Kt) (wl:=wr a) (F2:=F) B hJ Le.refl (B.same rfl rfl) (fun _ _=>rfl) hv;exact⟨v,ρ3,h2,h3 _ rfl rfl,h4,fun _ _=>rfl⟩
    refine J5 I C.fu c7 fun k F' w' hI=> ?_;obtain⟨v',b7,h3,h4,h5,h6⟩:=hI;cases k with
    |zero=>cases h3
    |succ k=>
     have h3:f0 (bM f0 k) v'=some r:=h3;rw [<-b9]at h3;have c0:Lf S ρ (S.head J (wr a) v') b7:=⟨rfl,rfl,h5 _ _ fun id j hi hc=>wJ hJ.yH hi hc⟩;refine ih s N (S.head J (wr a) v') ρ' z _ r b7 F' w' _ h3 h4 (fun e S2 bD F2 w2 A o U O G=> ?_) (fun y S2 bD F2 w2 hy D o hL=>iW (M y S2 bD F2 w2 hy D o (c0.trans hL)));have b0:∀t,t∉wr a->F2 t=F t:=fun t W=>(O t W).trans (h6 t W);cases e with
     |nm=>
      have A:Yw (leaf S J) (bM f0 k) S2=some r:=by rw [b9]at A;exact A
      unfold Yw at A;split at A
      ·rename_i v2 a3;have c6:Le S.H.length (S.Fk J) ρ S.H bD S2.H:=(h5 S.H.length (S.Fk J) fun _ _ _ h=>h).trans (U.lg.mono (h5 0 [] (fun id j hi=>absurd hi aA0)).len fun id j hi hc=>Pb (Wf a3) hi hc);obtain⟨ρ3,c4,h7,h8⟩:=Ra (wl:=wr a) B hJ c6 o b0 a3;exact ab ⟨k,F2,rfl,sL k,v2,ρ3,A,h7 _ rfl rfl,h8,b0⟩
      ·cases A
     |xt i=>
      refine Bx (E (.xt i) (S2.as S J) bD F2 w2 A (o.same rfl rfl) ⟨?_, ?_,fun id j hc=> ?_⟩ (fun t W=>b0 t (by rw [Z]at W;exact W)) (fun h=>by cases h))
      ·have:=c0.trans U.toLf;exact⟨this.nb,this.al,this.le⟩
      ·refine(h5 S.H.length (S2.m++(S.Fk J++S.m)) fun id j _ hc=>By.2 (.inr (By.2 (.inl hc)))).trans ?_;exact U.lg.mono (h5 0 [] (fun id j hi=>absurd hi aA0)).len fun id j _ hc=>By.2 (.inl hc)
      ·exact By.2 (.inr (By.2 (.inr hc)))
   ·cases h2
  |_=>cases h
end
end Go.Oe
namespace Go.Ce
open Go.Wk
section
variable {C : Cx} {m : M} {S : T} {n : Md} {w0 w : World} {E : En}
variable {d : Option Nat} {ty : TypeId} {pos : String} {after : Array Edge} {gd : Option (Nat × Bool)}
theorem R5:∀(off:Nat) (vs cells:List Value) (k:Nat),off+k+vs.length<=cells.length->
  (vs.zipIdx k).foldl (fun cs (p:Value×Nat)=>cs.setIfInBounds (off+p.2) p.1) cells.toArray=(cells.take (off+k)++vs++cells.drop (off+k+vs.length)).toArray
 |off,[],cells,k,h=>by simp
 |off,v::vs,cells,k,h=>by
  simp only [cF]at h;simp only [List.zipIdx_cons,mM];have e:(cells.toArray.setIfInBounds (off+k) v)=(cells.set (off+k) v).toArray:=aA2;rw [e,R5 off vs (cells.set (off+k) v) (k+1) aA6];congr 1;have h1:(cells.set (off+k) v).take (off+(k+1))=cells.take (off+k)++[v]:=by rw [ye,aC aA0];have a:(cells.take (off+k)).length=off+k:=aA6;rw [List.take_append,a,rH (by rw [a];omega),show off+(k+1)-(off+k)=1 by omega];simp
  have h2:(cells.set (off+k) v).drop (off+(k+1)+vs.length)=cells.drop (off+k+(vs.length+1)):=by rw [List.drop_set_of_lt aA0];congr 1;omega
  rw [h1,h2];simp
end
end Go.Ce
namespace Go.Oe
open Go.Wk
open Go.Ce (Tr)
open Go.IntKind renaming wrap → bN
section
variable {C : Cx} {md : Md} {w0 w : World} {S0 : List Nat} {ρ : Nat -> Ad} {S : St} {F : Nat -> Value}
theorem Mk{t z:Nat}(h:Lq C t=some z)(w:World):(sizeOf t).run C.P w=.ok z w:=vN h w
theorem B4{t:Nat}{b:Bool}(h:ZG C t=some b)(w:World):(isAgg t).run C.P w=.ok b w:=vN h w
theorem Ch{t:Nat}(h:tD C t=true):C.P.underlying t=some .string:=by
 unfold tD at h;split at h
 ·assumption
 ·cases h
theorem pq{t:Nat}(h:isBool C t=true):C.P.underlying t=some .bool:=by
 unfold isBool at h;split at h
 ·assumption
 ·cases h
theorem B3{t e:Nat}(h:II C t=some e):C.P.underlying t=some (.slice e):=by
 unfold II at h;split at h
 ·rename_i a;cases h;exact a
 ·cases h
theorem oAr{t:Nat}{q:Nat×Nat}(h:js C t=some q):C.P.underlying t=some (.array q.1 q.2):=by
 unfold js at h;split at h
 ·rename_i a;cases h;exact a
 ·cases h
theorem oK{t:Nat}{k:IntKind}(h:kindOf C t=some k):C.P.underlying t=some (.int k):=by
 unfold kindOf at h;split at h
 ·rename_i a;cases h;exact a
 ·cases h
theorem oU8{t:Nat}(h:BJ C t=true):C.P.underlying t=some (.int .u8):=by
 unfold BJ at h;split at h
 ·rename_i a;rw [a,kT h]
 ·cases h
theorem oIsK{t:Nat}{k:IntKind}(h:isK C t k=true):C.P.underlying t=some (.int k):=by
 unfold isK at h;split at h
 ·rename_i a;rw [oK a,kT h]
 ·cases h
theorem po{t:Nat}(h:FZ C t=true):∃e,C.P.underlying t=some (.pointer e):=by
 unfold FZ at h;split at h
 ·rename_i e a;exact⟨e,a⟩
 ·cases h
theorem Q3{t:Nat}(h:Xd C t=true):∃e,C.P.underlying t=some (.slice e):=by
 unfold Xd at h;split at h
 ·rename_i e a;exact⟨e,a⟩
 ·cases h
theorem Rj{b:BinOp}(h:Xe b=true):b=.eql:=by cases b<;>first|rfl|cases h
theorem tF{c:SC}{i:Int}(h:HF c=some i)(ρ:Nat->Ad):∃k,c.v ρ=.int k i:=by
 cases c<;>simp only [HF,reduceCtorEq,aV]at h
 ·subst h;exact⟨_,rfl⟩
 ·subst h;exact⟨_,rfl⟩
theorem ff{z:Bool}{b:BinOp}{t t':TypeId}{x y:Operand}{a c:SC}{g:List PD}{r:SV}(hx:aW md F x=a.v ρ)(f:aW md F y=c.v ρ)(p:∀k v,z=true->aW md F y=.int k v->0<=v)(h:bin z b a c=some (g,r))(j:Dc g):tJ C md ρ S F w (.binOp b t x y t') r:=by
 unfold bin at h;split at h
 ·rename_i k u l v;cases i:Q7 b with
  |true=>
   rw [i]at h;have o:b=.shr:=by cases b<;>first|rfl|cases i
   subst o;have h:shI k u v=some (g,r):=h;clear i;cases v with
   |negSucc n=>cases h
   |ofNat n=>
    cases h;refine fF rfl rfl fun d ty pos after=>N4 k l u (Int.ofNat n) _ hx f (Jx n) ?_ ?_
    ·show(2:Int)^(min n k.bits)=((2^(min n k.bits):Nat):Int);rw [Int.natCast_pow];rfl
    ·exact Int.natCast_pos.2 (Nat.pow_pos aA1)
  |false=>
  rw [i]at h;simp only [aH]at h;cases e:Q8 b with
  |true=>
   rw [e]at h;have o:b=.shl:=by cases b<;>first|rfl|cases e
   subst o;have h:oe k u v=some (g,r):=h;clear i e;cases v with
   |negSucc n=>cases h
   |ofNat n=>cases h;refine fF rfl rfl fun d ty pos after=>N5 k l u (Int.ofNat n) _ hx f (Jx n) ?_;show(2:Int)^(min n k.bits)=((2^(min n k.bits):Nat):Int);rw [Int.natCast_pow];rfl
  |false=>
  rw [e]at h;simp only [aH]at h;cases m:BH k l with
  |false=>rw [m]at h;cases h
  |true=>rw [m]at h;obtain rfl:=kT m;exact te hx f h j
 ·exact tf hx f h j
 ·exact Z3 hx f (fun q=>p _ _ q f) h j
 ·exact td hx f h j
 ·cases h
theorem K0{z:Bool}{b:BinOp}{t t':TypeId}{x y:Operand}{a c:SC}{g:List PD}{r:SV}(hx:aW md F x=a.v ρ)(l:aW md F y=c.v ρ)(p:∀k v,z=true->aW md F y=.int k v->0<=v)(h:fg C z t b a c=some (g,r))(A:Dc g):tJ C md ρ S F w (.binOp b t x y t') r:=by
 unfold fg at h;split at h
 ·rename_i i off j;have h1:=dC h;have h2:=dC h1.2;have h3:=dC h2.2;have n:=gP h1.1;obtain rfl:=Rj h3.1;cases h3.2;subst n;obtain⟨e,f⟩:=po h2.1;exact fF rfl rfl fun d ty pos after=>AD _ f hx l
 ·rename_i j B;have h1:=dC h;have h2:=dC h1.2;have h3:=dC h2.2;have o:=dC h3.2;have n:=gP h1.1;have m:=gP h2.1;obtain rfl:=Rj o.1;cases o.2;subst n;subst m;obtain⟨e,f⟩:=po h3.1;exact fF rfl rfl fun d ty pos after=>AD _ f hx l
 ·have h1:=dC h;have h2:=dC h1.2;obtain rfl:=Rj h2.1;cases h2.2;obtain⟨e,f⟩:=Q3 h1.1;exact fF rfl rfl fun d ty pos after=>Zz _ _ _ e f hx l
 ·have h1:=dC h;have h2:=dC h1.2;obtain rfl:=Rj h2.1;cases h2.2;obtain⟨e,f⟩:=Q3 h1.1;exact fF rfl rfl fun d ty pos after=>Zz _ _ _ e f hx l
 ·split at h
  ·rename_i u v s q;have h1:=dC h;exact tg (pq h1.1) (hx.trans (A4 s ρ)) (l.trans (A4 q ρ)) h1.2
  ·exact ff hx l p h A
theorem ar{x:Operand}{t:TypeId}{a:SC}{g:List PD}{r:SV}(hx:aW md F x=a.v ρ)(h:au a=some (g,r)):tJ C md ρ S F w (.unOp .not t x) r:=by
 unfold au at h;split at h
 ·cases h;exact fF rfl rfl fun d ty pos after=>NF _ hx
 ·cases h;exact fF rfl rfl fun d ty pos after=>NF _ hx
 ·rename_i p b;cases h;exact fF rfl rfl fun d ty pos after=>V9 _ hx
 ·cases h
theorem TF{x ix:Operand}{t:TypeId}{a i:SC}{g:List PD}{r:SV}(b:tD C t=true)(hx:aW md F x=a.v ρ)(f:aW md F ix=i.v ρ)(h:yp a i=some (g,r))(m:Dc g):tJ C md ρ S F w (.index t x ix) r:=by
 unfold yp at h;split at h
 ·rename_i l;split at h
  ·rename_i j e;cases h;obtain⟨k,c⟩:=tF e ρ;exact fF rfl rfl fun d ty pos after=>mT l k j (Ch b) hx (f.trans c) m.1
  ·cases h
 ·cases h
theorem vR{x:Operand}{n y:Option Operand}{t:TypeId}{a:SC}{i j:Option SC}{g:List PD}{r:SV}(p:tD C t=true)(hx:aW md F x=a.v ρ)(s:(n=none/\i=none)\/∃o c,n=some o/\i=some c/\aW md F o=c.v ρ)(z:(y=none/\j=none)\/∃o c,y=some o/\j=some c/\aW md F o=c.v ρ)
  (h:CG a i j=some (g,r)) (A:Dc g):tJ C md ρ S F w (.slice t x n y none) r:=by
 unfold CG at h;split at h
 ·rename_i l;rcases s with⟨rfl,rfl⟩|⟨o,c,rfl,rfl,B⟩<;>rcases z with⟨rfl,rfl⟩|⟨G,H,rfl,rfl,b⟩
  ·cases h
  ·simp only at h;split at h
   ·rename_i m e;cases h;obtain⟨k,f⟩:=tF e ρ;exact fF rfl rfl fun d ty pos after=>Ef l k m (Ch p) hx (b.trans f) A.1
   ·cases h
  ·simp only at h;split at h
   ·rename_i m e;cases h;obtain⟨k,f⟩:=tF e ρ;exact fF rfl rfl fun d ty pos after=>mS l k m (Ch p) hx (B.trans f) A.1
   ·cases h
  ·simp only at h;split at h
   ·rename_i m D e q;cases h;obtain⟨k,f⟩:=tF e ρ;obtain⟨E,u⟩:=tF q ρ;exact fF rfl rfl fun d ty pos after=>DQ l k E m D (Ch p) hx (B.trans f) (b.trans u) A.1
   ·cases h
 ·cases h
theorem Ru{x:Operand}{s t:TypeId}{a:SC}{g:List PD}{r:SV}(hx:aW md F x=a.v ρ)(h:VQ C s t a=some (g,r))(f:Dc g):tJ C md ρ S F w (.convert s t x) r:=by
 unfold VQ at h;split at h
 ·rename_i u;have h1:=dC h;have c:=oU8 h1.1;have h2:=h1.2;have hx:aW md F x=.int .u8 (u.toNat:Int):=hx;have j:=MX u;split at h2
  ·rename_i b;cases h2;refine fF rfl rfl fun d ty pos after=> ?_;exact rQ .u8 .u8 _ c (oK b) hx (by rw [IntKind.wrap_u8];omega)
  ·rename_i b;cases h2;refine fF rfl rfl fun d ty pos after=> ?_;exact rQ .i64 .u8 _ c (oK b) hx (Az u)
  ·rename_i b;cases h2;refine fF rfl rfl fun d ty pos after=> ?_;exact rQ .i32 .u8 _ c (oK b) hx (by simp [bN,IntKind.bits,IntKind.signed];omega)
  ·cases h2
 ·rename_i k n;have h1:=dC h;have c:=oIsK h1.1;have h2:=h1.2;split at h2
  ·rename_i b;cases h2;exact fF rfl rfl fun d ty pos after=>NB k n c (oK b) hx
  ·rename_i k' _ b;cases i:BH k k' with
   |true=>
    rw [i]at h2;obtain rfl:=kT i;simp only [aL]at h2;cases e:i64 k with
    |true=>rw [e]at h2;obtain rfl:=zW e;cases h2;exact fF rfl rfl fun d ty pos after=>rQ .i64 .i64 n c (oK b) hx (fw f.1.lo f.1.hi)
    |false=>rw [e]at h2;cases h2;exact fF rfl rfl fun d ty pos after=>rQ k k n c (oK b) hx f.1
   |false=>rw [i]at h2;cases h2;exact fF rfl rfl fun d ty pos after=>AE k' k n c (oK b) hx
  ·have h3:=dC h2;cases h3.2;exact fF rfl rfl fun d ty pos after=>Ll k k n c (Ch h3.1) hx
 ·rename_i l;have h1:=dC h;have h2:=dC h1.2;cases h2.2;exact fF rfl rfl fun d ty pos after=>HQ l (Ch h1.1) (Ch h2.1) hx
 ·cases h
end
open Go.Wk
open Go.Ce (Tr)
open Nat renaming beq → cP
section
variable {C : Cx} {md : Md} {w0 w : World} {S0 : List Nat} {ρ : Nat -> Ad} {S : St} {F : Nat -> Value}
theorem pP{l:List SC}{off n:Nat}{a:Bool}{v:SV}(h:pQ l off n a=some v):
  (a=false/\∃x,l[off]? =some x/\x.kn=true/\v=.c' x)\/(a=true/\off+n<=l.length/\(∀x∈(l.drop off).take n,x.kn=true)/\v=.a' ((l.drop off).take n))\/(a=true/\n=0/\v=.a' []):=by
 unfold pQ at h;cases a with
 |true=>
  simp only [aL]at h;split at h
  ·rename_i q b;have h1:=dC h;cases h1.2;obtain⟨h2,h3⟩:=uE b;rw [lL]at h2 h3;subst h2;by_cases c:n=0
   ·subst c;exact .inr (.inr ⟨rfl,rfl,aA2⟩)
   ·refine .inr (.inl ⟨rfl, ?_,FV h1.1,rfl⟩);simp at h3;omega
  ·cases h
 |false=>
  simp only [aH]at h;split at h
  ·rename_i x hx;have h1:=dC h;cases h1.2;rw [fW]at hx;exact .inl ⟨rfl,x,hx,h1.1,rfl⟩
  ·cases h
theorem zB{l:List SC}{off n k:Nat}{a:Bool}{v:SV}(h:pQ l off n a=some v)(b:∀x∈l,x.ok k):v.ok k:=by
 rcases pP h with⟨_,x,h1,_,rfl⟩|⟨_,_,_,rfl⟩|⟨_,_,rfl⟩
 ·exact b x (aG h1)
 ·exact fun x hx=>b x (Zy (yE hx))
 ·intro x hx;cases hx
theorem Ic{t f:Nat}{q:Nat×Nat×Bool}(h:Nt C t f=some q):∃(l:List Field) (b:Field),C.P.underlying t=some (.struct l.toArray)/\l[f]? =some b/\q.1=b.offset/\Lq C b.type=some q.2.1/\ZG C b.type=some q.2.2:=by
 unfold Nt at h;split at h
 ·rename_i i d;split at h
  ·rename_i b c;split at h
   ·rename_i n a e g;cases h;rw [fW]at c;exact⟨i.toList,b,by simpa using d,c,rfl,e,g⟩
   ·cases h
  ·cases h
 ·cases h
theorem A9{t:Nat}{b:List SC}{off n:Nat}{a:Bool}{v:SV}(h:pQ b off n a=some v)(d:Lq C t=some n)(c:ZG C t=some a):∃u,v.v ρ=some u/\(part t (b.map (SC.v ρ)).toArray off).run C.P w=.ok u w:=by
 rcases pP h with⟨rfl,x,h2,_,rfl⟩|⟨rfl,h3,_,rfl⟩|⟨rfl,rfl,rfl⟩
 ·exact⟨_,rfl,by simp [part,B4 c w,h2]⟩
 ·refine⟨_,rfl, ?_⟩;have e:(b.map (SC.v ρ)).toArray.extract off (off+n)=(((b.drop off).take n).map (SC.v ρ)).toArray:=by simp only [List.extract_toArray,List.extract_eq_take_drop,gO];rw [List.map_take,List.map_drop]
  simp only [part,Sem.run_bind,B4 c w,Result.andThen_ok,eM,Mk d w,Sem.run_pure,e]
 ·refine⟨_,rfl, ?_⟩;have e:(b.map (SC.v ρ)).toArray.extract off (off+0)= #[]:=aA2;simp only [part,Sem.run_bind,B4 c w,Result.andThen_ok,eM,Mk d w,Sem.run_pure,e];rfl
theorem UR{t f:Nat}{x:Operand}{l:List SC}{v:SV}{q:Nat×Nat×Bool}(hx:aW md F x=.agg (l.map (SC.v ρ)).toArray)(c:∀x∈l,x.ok S.H.length)(b:Nt C t f=some q)(h:pQ l q.1 q.2.1 q.2.2=some v):tJ C md ρ S F w (.field t x f) v:=by obtain⟨j,k,h1,h2,h3,i,g⟩:=Ic b;obtain⟨u,e,a⟩:=A9 (w:=w) (ρ:=ρ) h i g;refine⟨zB h c,u,e,fun d ty pos after=> ?_⟩;rw [h3]at a;simp [execOp,hx,Instr.field,run_underlying h1,h2,asAgg];rw [a];rfl
theorem Ri{t f:Nat}{x:Operand}{c:SC}{v:SV}(hx:aW md F x=c.v ρ)(l:c.ok S.H.length)(h:tm C t f c=some v):tJ C md ρ S F w (.fieldAddr t x f) v:=by
 unfold tm at h;split at h
 ·rename_i q m;obtain⟨p,k,h1,h2,h3,n,o⟩:=Ic m;cases g:cP q.2.1 0 with
  |true=>rw [g]at h;cases h
  |false=>
   rw [g]at h;simp only [aH]at h;have i:q.2.1≠0:=fun e=>by rw [e]at g;cases g
   have jQ:∀A:Addr,(Instr.fieldAt t (.pointer (some A)) f).run C.P w=.ok (.pointer (some (A.add k.offset))) w:=by intro A;simp [Instr.fieldAt,run_underlying h1,h2,Instr.sureAddr,fieldPlace,Mk n w,i]
   split at h
   ·rename_i id off;cases h;refine⟨l,_,rfl,fun d ty pos after=> ?_⟩;have hx:aW md F x=.pointer (some ⟨(ρ id).b,off,none⟩):=hx;rw [O5 _ k.offset hx (jQ _),HJ,<-h3];rfl
   ·rename_i id j sz off;cases h;refine⟨l,_,rfl,fun d ty pos after=> ?_⟩;have hx:aW md F x=.pointer (some (ea (ρ id).a (j.toNat*sz+off))):=hx;rw [NO _ _ k.offset hx (by rw [<-BZ];exact jQ _),<-h3,Ax];rfl
   ·cases h
 ·cases h
theorem BW{x:Operand}{i:Nat}{l:List SA}{y:SA}(hx:aW md F x=.tuple (l.map (SA.v ρ)).toArray)(a:∀x∈l,x.ok S.H.length)(h:eK l i=some y):tJ C md ρ S F w (.extract x i) y.sv:=by rw [fW]at h;exact⟨SA.Be (a y (aG h)),_,SA.ZI ρ y,fun d ty pos after=>Lm _ _ hx (by simp [h])⟩
theorem MZ{t:Nat}{z:List SC}(h:zC C t=some z)(w:World):∃v,(zeroValue t).run C.P w=.ok v w/\(∀c∈z,c.ids=[]/\c.kn=true)/\∀ρ,v.cells=(z.map (SC.v ρ)).toArray:=by
 unfold zC at h;split at h
 ·rename_i v a;obtain⟨h1,h2⟩:=CE h;exact⟨v,vN a w,h1,fun ρ=>by rw [h2]⟩
 ·cases h
theorem Ie{ev:Operand->SV}{A:Nat->Option (Nat×Nat)}{k:Nat}:∀(c:List (Nat×Operand)) (cs r:List SC),(∀p∈c,(ev p.2).ok k/\∀u,(ev p.2).v ρ=some u->aW md F p.2=u)->(∀x∈cs,x.ok k)->Bq A ev c cs=some r->
  Instr.fill A (cs.map (SC.v ρ)).toArray (c.map fun p=>(p.1,aW md F p.2))=some (r.map (SC.v ρ)).toArray/\r.length=cs.length/\∀x∈r,x.ok k
 |[],cs,r,_,m,h=>by cases h;exact⟨rfl,rfl,m⟩
 |p::c,cs,r,C,m,h=>by
  simp only [Bq]at h;split at h
  ·rename_i q a G d;have h1:=dC h;have h2:=h1.2;split at h2
   ·rename_i l b;obtain⟨h3,D⟩:=ft b;have j:=C p iH;have s:=SV.It d j.1;obtain⟨v,t,f⟩:=SV.Eb (ρ:=ρ) d;have n:=j.2 v t;have g:∀x∈l,x.ok k:=by
     rw [D];intro x hx;rcases aU.1 hx with hx|hx
     ·rcases aU.1 hx with hx|hx
      ·exact m x (yE hx)
      ·exact s x hx
     ·exact m x (Zy hx)
    obtain⟨K,J,I⟩:=Ie c l r (fun E H=>C E (fU _ H)) g h2;refine⟨?_,by rw [J,wB b],I⟩;obtain⟨off,size⟩:=q;obtain⟨i,o⟩:=p;have w:a.length=size:=gP h1.1;have h3:off+a.length<=cs.length:=h3;simp only [tM,Instr.fill,G,n];have y:v.cells.size=a.length:=by rw [f];simp
    have z:¬((v.cells.size≠size||decide (off+v.cells.size>(cs.map (SC.v ρ)).toArray.size))=true):=by rw [y];simp [w];omega
    rw [aB z,<-K];congr 1;rw [f];have B:=Go.Ce.R5 off (a.map (SC.v ρ)) (cs.map (SC.v ρ)) 0 (by simp;exact h3);simp only [Dg,Dj]at B;rw [D];have e:((cs.take off++a++cs.drop (off+a.length)).map (SC.v ρ))=(cs.map (SC.v ρ)).take off++a.map (SC.v ρ)++(cs.map (SC.v ρ)).drop (off+a.length):=aA2;simp only at e⊢;rw [e,<-B,<-Array.foldl_toList];simp [Array.toList_zipIdx]
   ·cases h2
  ·cases h
theorem Fx:∀{b:List Field} {l:List (Nat×Nat)},Dr C b=some l->(b.mapM fun f=>(do pure (f.offset,<-sizeOf f.type):Sem (Nat×Nat))).run C.P w=.ok l w
 |[],l,a=>by cases a;simp
 |f::b,l,a=>by
  simp only [Dr]at a;split at a
  ·rename_i z h1;split at a
   ·rename_i q h2;cases a;have c:=Fx h2;rw [List.mapM_cons];simp only [Sem.run_bind,Mk h1 w,Result.andThen_ok,Sem.run_pure,c]
   ·cases a
  ·cases a
theorem VX{w2:World}(D:Rel C w0 S0 ρ S F w2)(x:C.nn=md.n){t:Nat}{f:Array (Nat×Operand)}{v:SV}(h:Ds C (S.ev C) t f.toList=some v):tJ C md ρ S F w (.build t f) v:=by
 unfold Ds at h;split at h
 ·rename_i z J u a;split at h
  ·rename_i cs q;cases h;obtain⟨I,h1,h2,h3⟩:=MZ u w;obtain⟨r,K,E⟩:=Ie (ρ:=ρ) (md:=md) (F:=F) (k:=S.H.length) f.toList z cs (fun p _=>Sj D x p.2) (fun c B i s=>by rw [(h2 c B).1]at s;cases s) q;refine⟨E,_,rfl,fun d ty pos after=> ?_⟩;have b:(f.map fun p=>(p.1,aW md F p.2)).toList=f.toList.map fun p=>(p.1,aW md F p.2):=aA2;have h3:=h3 ρ;unfold pg at a;split at a
   ·rename_i G o;split at a
    ·rename_i lp m;cases a;have y:=Fx (w:=w) m;have g:eK lp=fun i=>lp.toArray[i]? :=by funext i;rw [fW];simp
     rw [g]at r;have j:C.P.underlying t=some (.struct G.toList.toArray):=by simpa using o
     simp only [execOp,Instr.build,Sem.run_bind,h1,Result.andThen_ok,run_underlying j,h3,List.mapM_toArray,Sem.run_map,y,Sem.run_pure];rw [b,r];rfl
    ·cases a
   ·rename_i k e A;split at a
    ·rename_i n l;cases a;simp only [execOp,Instr.build,Sem.run_bind,h1,Result.andThen_ok,run_underlying A,h3,Mk l w];rw [b,r];rfl
    ·cases a
   ·cases a
  ·cases h
 ·cases h
end
open Go.Wk
open Go.Ce (Tr)
section
variable {C : Cx} {md : Md} {w0 w : World} {S0 : List Nat} {ρ : Nat -> Ad} {S : St} {F : Nat -> Value}
theorem Zv{H:List Ob}{r:Rv}{ro:Ro}(h:Fs H r=some ro):∃g v,r=some (g,v)/\ro=⟨g,v,H,[]⟩:=by
 unfold Fs at h;split at h
 ·cases h;exact⟨_,_,rfl,rfl⟩
 ·cases h
theorem WS{H:List Ob}{v:Option SV}{ro:Ro}(h:kR H v=some ro):∃x,v=some x/\ro=⟨[],x,H,[]⟩:=by
 unfold kR at h;split at h
 ·cases h;exact⟨_,rfl,rfl⟩
 ·cases h
theorem Qx{x v:SV} (h:(match x with
  |.u'=>none
  |v=>some v)=some v):x=v/\∃u,v.v ρ=some u:=by
 cases x<;>simp only [aV,reduceCtorEq]at h
 ·subst h;exact⟨rfl,_,rfl⟩
 ·subst h;exact⟨rfl,_,rfl⟩
 ·subst h;exact⟨rfl,_,rfl⟩
 ·subst h;exact⟨rfl,_,rfl⟩
theorem ML{α:Type}{ev:Operand->SV}{x:Option Operand}{f:Option SC->Option α}{r:α}(h:uB ev x f=some r):(x=none/\f none=some r)\/∃o c,x=some o/\ev o=.c' c/\f (some c)=some r:=by
 cases x with
 |none=>exact .inl ⟨rfl,h⟩
 |some o=>obtain⟨c,h1,h2⟩:=jW h;exact .inr ⟨o,c,rfl,h1,h2⟩
theorem WT{t:Nat}{q:Nat×Nat}(h:js C t=some q):C.P.underlying t=some (.array q.1 q.2):=by
 unfold js at h;split at h
 ·rename_i a;cases h;exact a
 ·cases h
theorem SW{x ix:Operand}{t:Nat}{cs:List SC}{i:SC}{g:List PD}{v:SV}(hx:aW md F x=.agg (cs.map (SC.v ρ)).toArray)(p:aW md F ix=i.v ρ)(h:FX C t cs i=some (g,v))(r:Dc g):tJ C md ρ S F w (.index t x ix) v:=by
 unfold FX at h;split at h
 ·rename_i q f;have h:=(dC h).2;split at h
  ·rename_i h1 h2;split at h
   ·rename_i l j m o;cases h
    obtain⟨k,n⟩:=tF o ρ;obtain⟨h3,_,y⟩:=XX m;have u:(l.map fun s=>[str s])=(cs.map (SC.v ρ)).map fun c=>[c]:=by
     rw [y ρ,List.map_flatMap]
     have:∀l:List aA,(l.map fun s=>[str s])=l.flatMap fun a=>List.map (fun c=>[c]) ((Ty.s').enc a):=by
      intro l;induction l with
      |nil=>rfl
      |cons s l b=>rw [tM,tN,b];rfl
     exact this l
    letI:=Ty.F7 .s';exact fF rfl rfl fun d ty pos after=>mu (e:=q.2) (fun s=>[str s]) l q.1 k j (cs.map (SC.v ρ)) (str (MH .s' l j)) u (WT f) h3 (B4 h2 w) (Mk h1 w) hx (p.trans n) rfl r.1
   ·cases h
  ·cases h
 ·cases h
theorem WL(e:C.nn=md.n)(p:Rel C w0 S0 ρ S F w){op:Op}(V:kU op=true){ro:Ro}(h:opP C (S.ev C) S.H op=some ro)(A:Dc ro.g)(w':World):tJ C md ρ S F w' op ro.v/\ro.H=S.H/\ro.m=[]:=by
 cases op<;>first|cases V|skip
 case move x=>
  obtain⟨v,h1,rfl⟩:=WS h;obtain⟨h2,u,h3⟩:=Qx (ρ:=ρ) h1;obtain⟨r,z⟩:=Sj p e x;rw [h2]at r z;exact⟨⟨r,u,h3,fun d ty pos after=>by rw [<-z u h3];rfl⟩,rfl,rfl⟩
 case assign x=>
  obtain⟨v,h1,rfl⟩:=WS h;obtain⟨h2,u,h3⟩:=Qx (ρ:=ρ) h1;obtain⟨r,z⟩:=Sj p e x;rw [h2]at r z;exact⟨⟨r,u,h3,fun d ty pos after=>by rw [<-z u h3];rfl⟩,rfl,rfl⟩
 case binOp b t x y t'=>
  obtain⟨g,v,h1,rfl⟩:=Zv h;obtain⟨a,h2,h3⟩:=jW h1;obtain⟨c,r,z⟩:=jW h3;exact⟨K0 (mC p e h2).2 (mC p e r).2 (fun k v Q T=>E8 T Q) z A,rfl,rfl⟩
 case unOp u t x=>
  cases u<;>first|cases h|skip
  obtain⟨g,v,h1,rfl⟩:=Zv h;obtain⟨a,h2,h3⟩:=jW h1;exact⟨ar (mC p e h2).2 h3,rfl,rfl⟩
 case convert s t x=>
  obtain⟨g,v,h1,rfl⟩:=Zv h;obtain⟨a,h2,h3⟩:=jW h1;exact⟨Ru (mC p e h2).2 h3 A,rfl,rfl⟩
 case index t x ix=>
  have h:(bif tD C t then Fs S.H (eX (S.ev C x) fun a=>eX (S.ev C ix) fun i=>yp a i)else(match S.ev C x with
   |.a' cs=>Fs S.H (eX (S.ev C ix) fun i=>FX C t cs i)
   |_=>none))=some ro:=h
  cases K:tD C t with
  |true=>rw [K]at h;obtain⟨g,v,h1,rfl⟩:=Zv h;obtain⟨a,h2,h3⟩:=jW h1;obtain⟨c,r,z⟩:=jW h3;exact⟨TF K (mC p e h2).2 (mC p e r).2 z A,rfl,rfl⟩
  |false=>
   rw [K]at h;simp only [aH]at h;have E:=Sj p e x;split at h
   ·rename_i cs M;obtain⟨g,v,h1,rfl⟩:=Zv h;obtain⟨c,r,z⟩:=jW h1;rw [M]at E;exact⟨SW (E.2 _ rfl) (mC p e r).2 z A,rfl,rfl⟩
   ·cases h
 case slice t x G I P=>
  cases P with
  |some m=>have:=(dC (show(bif tD C t then gQ C (S.ev C) S.H (.slice t x G I (some m))else none)=some ro from h)).2;cases this
  |none=>
   have h:=dC (show(bif tD C t then gQ C (S.ev C) S.H (.slice t x G I none)else none)=some ro from h);have h2:(bif tD C t then Fs S.H (eX (S.ev C x) fun a=>uB (S.ev C) G fun i=>uB (S.ev C) I fun j=>CG a i j)else eX (S.ev C x) fun a=>uB (S.ev C) G fun i=>uB (S.ev C) I fun j=>zH C S.H t a i j)=some ro:=h.2;rw [h.1]at h2;have h:=And.intro h.1 h2;obtain⟨g,v,h1,rfl⟩:=Zv h.2;obtain⟨a,h2,h3⟩:=jW h1;refine⟨?_,rfl,rfl⟩;rcases ML h3 with⟨r,z⟩|⟨o,c,r,z,W⟩
   ·rcases ML z with⟨D,B⟩|⟨J,O,D,B,N⟩
    ·exact vR h.1 (mC p e h2).2 (.inl ⟨r,rfl⟩) (.inl ⟨D,rfl⟩) B A
    ·exact vR h.1 (mC p e h2).2 (.inl ⟨r,rfl⟩) (.inr ⟨J,O,D,rfl,(mC p e B).2⟩) N A
   ·rcases ML W with⟨D,B⟩|⟨J,O,D,B,N⟩
    ·exact vR h.1 (mC p e h2).2 (.inr ⟨o,c,r,rfl,(mC p e z).2⟩) (.inl ⟨D,rfl⟩) B A
    ·exact vR h.1 (mC p e h2).2 (.inr ⟨o,c,r,rfl,(mC p e z).2⟩) (.inr ⟨J,O,D,rfl,(mC p e B).2⟩) N A
 case extract x i=>
  have h:(match S.ev C x with
   |.t' l=>match eK l i with
    |some y=>some (Ro.mk [] y.sv S.H [])
    |none=>none
   |_=>none)=some ro:=h
  obtain⟨h1,h2⟩:=Sj p e x;split at h
  ·rename_i l L;split at h
   ·rename_i y R;cases h;rw [L]at h1 h2;exact⟨BW (h2 _ rfl) h1 R,rfl,rfl⟩
   ·cases h
  ·cases h
 case field t x f=>
  have h:(match S.ev C x with
   |.a' l=>match Nt C t f with
    |some q=>kR S.H (pQ l q.1 q.2.1 q.2.2)
    |none=>none
   |_=>none)=some ro:=h
  obtain⟨h1,h2⟩:=Sj p e x;split at h
  ·rename_i l L;split at h
   ·rename_i q U;obtain⟨v,h3,rfl⟩:=WS h;rw [L]at h1 h2;exact⟨UR (h2 _ rfl) h1 U h3,rfl,rfl⟩
   ·cases h
  ·cases h
 case build t X=>
  obtain⟨v,h1,rfl⟩:=WS h;exact⟨VX p e h1,rfl,rfl⟩
 case fieldAddr t x f=>
  obtain⟨a,h1,h2⟩:=jW (show eX (S.ev C x) (fun a=>kR S.H (tm C t f a))=some ro from h);obtain⟨v,h3,rfl⟩:=WS h2;obtain⟨r,z⟩:=mC p e h1;exact⟨Ri z r h3,rfl,rfl⟩
theorem af(b:C.nn=md.n):Tb C md:=fun w0 S0 ρ S F w op v H m c a h w'=>(WL b c a h trivial w').1
end
open Go.Wk
open Go.Ce (Tr)
def Step(C:Cx)(md:Md)(w0:World)(S0:List Nat)(ρ:Nat->Ad)(S:St)(F:Nat->Value)(w:World)(o:Oper)(S2:St):Prop:=
 ∀(ops:Array Oper) (Q:Exit->Act->World->Prop) (rest:List Oper),
  (∀bD F2 w2,Rel C w0 S0 bD S2 F2 w2->Nx S ρ S2 bD->(∀t,o.dst≠some t->F2 t=F t)->(∀d,o.dst=some d->kU o.op=true->∃a,(execOp (aW md F) o).run C.P w=.ok (.value (F2 d)) a)->W C.P md ops Q rest F2 w2)->W C.P md ops Q (o::rest) F w
section
variable {C : Cx} {md : Md} {w0 w : World} {S0 : List Nat} {ρ : Nat -> Ad} {S : St} {F : Nat -> Value}
variable {d : Nat} {ty : TypeId} {pos : String} {after : Array Edge}
theorem K7{bD:Nat->Ad}{S2:St}{w2:World}{v:SV}{u:Value}(h:Rel C w0 S0 bD S2 F w2)(c:v.v bD=some u)(f:v.ok S2.H.length):Rel C w0 S0 bD (S2.set d v) (dN F d u) w2:=by
 refine⟨h.gl,fun t b a=> ?_,fun t=> ?_,h.ho,h.mem⟩
 ·rw [jM]at a;by_cases e:t=d
  ·rw [aC e]at a;rw [c]at a;cases a;subst e;rw [L4]
  ·rw [aB e]at a;rw [Em _ _ _ _ e];exact h.fr t b a
 ·rw [jM];by_cases e:t=d
  ·rw [aC e];exact f
  ·rw [aB e];exact h.fo t
theorem HE{u:Value}:∀t,(some d:Option Nat)≠some t->dN F d u t=F t:=fun t h=>Em _ _ _ _ fun e=>h (by rw [e])
theorem PG{op:Op}{v:SV}(c:Rel C w0 S0 ρ S F w)(h:tJ C md ρ S F w op v):Step C md w0 S0 ρ S F w ⟨some d,op,ty,pos,after,none⟩ (St.set ⟨S.F,S.H,S.nb,S.al,[]++S.m⟩ d v):=by intro ops Q rest a;obtain⟨h1,u,h2,h3⟩:=h;refine fA rfl rfl (h3 d ty pos after) (a ρ _ w (K7 (c.same rfl rfl) h2 h1) ⟨⟨rfl,rfl,Le.refl⟩,Le.refl,fun _ _ h=>h⟩ HE fun d2 b _=>⟨w, ?_⟩);cases b;rw [L4];exact h3 d ty pos after
def Ap(ρ:Nat->Ad)(n:Nat)(a:Ad):Nat->Ad:=fun id=>if id=n then a else ρ id
theorem uS{n:Nat}{a:Ad}:Up n ρ (Ap ρ n a):=fun id b=>by unfold Ap;rw [aB aA0]
theorem mE{n:Nat}{a:Ad}:Ap ρ n a n=a:=by unfold Ap;rw [aC rfl]
theorem Hp.rot{w0 w:World}{S:List Nat}{L:List bX}{r:bX}(h:Hp w0 S (r::L) w):Hp w0 S (L++[r]) w:=by refine⟨h.os,h.tape,h.output,h.size,h.below,fun x hx=>h.res x (by simp at hx⊢;exact hx.symm), ?_⟩;have c:=hZ.1 h.sep;refine dU.2 ⟨c.2,List.pairwise_singleton _ _,fun a g b d=> ?_⟩;simp at d;subst d;intro k f e;exact c.1 a g k e f
theorem RO.up{n:Nat}{bD:Nat->Ad}{id:Nat}{o:Ob}{r:bX}(h:RO w0 S0 ρ id o r)(a:Up n ρ bD)(d:id<n)(i:∀e cs,o=.bl e cs->∀c∈cs,c.ok n):RO w0 S0 bD id o r:=by
 cases o with
 |bl e cs=>obtain⟨g,rfl,h1,h2⟩:=h;refine⟨g,by rw [a id d],h1,fun j c f k=> ?_⟩;rw [h2 j c f k,SC.up a (i e cs rfl c (aG f))]
 |rw e b t l=>show r=_;rw [a id d];exact h
 |ro t l=>exact⟨h.1,by rw [a id d];exact h.2⟩
 |br m l=>show r=_;rw [a id d];exact h
 |dd m=>trivial
theorem vX{L:List bX}{r:bX}{w2:World}{o:Ob}{a:Ad}{S2:St}(j:Rel C w0 S0 ρ S F w)(l:Mt w0 S0 ρ S.H L)(B:Hp w0 S0 (r::L) w2)(v:RO w0 S0 (Ap ρ S.H.length a) S.H.length o r)(y:o.len=a.ln)(x:∀e cs,o=.bl e cs->∀c∈cs,c.ok (S.H.length+1))
  (D:S2.F=S.F) (f:S2.H=S.H++[o]):Rel C w0 S0 (Ap ρ S.H.length a) S2 F w2:=by
 have q:∀t,S2.at t=S.at t:=fun t=>by rw [St.at_eq,St.at_eq,D]
 have b:S2.H.length=S.H.length+1:=by rw [f];simp
 refine⟨fun g id z=> ?_,fun t u n=> ?_,fun t=> ?_,fun id e cs d c p=> ?_,⟨L++[r],Hp.rot B,by simp [l.1,b],fun id m h2=> ?_⟩⟩
 ·obtain⟨h1,h2⟩:=j.gl g id z;exact⟨aA0,by rw [uS id h1];exact h2⟩
 ·rw [q,SV.up uS (j.fo t)]at n;exact j.fr t u n
 ·rw [q,b];exact SV.cK (j.fo t) aA0
 ·rw [b];rw [f]at d;by_cases i:id<S.H.length
  ·rw [aI i]at d;exact SC.cK (j.ho id e cs d c p) aA0
  ·rw [aK aA0]at d
   have:o=.bl e cs:=by
    cases h:id-S.H.length with
    |zero=>rw [h]at d;simpa using d
    |succ k=>rw [h]at d;simp at d
   exact x e cs this c p
 ·rw [f]at h2;by_cases i:id<S.H.length
  ·rw [aI i]at h2;obtain⟨h3,s,G,E⟩:=l.2 id m h2;refine⟨by rw [uS id i];exact h3,s,by rw [aI (by rw [l.1];exact i)];exact G,E.up uS i fun e cs A=> ?_⟩;subst A;exact j.ho id e cs h2
  ·rw [aK aA0]at h2;have h:id-S.H.length=0:=by
    cases h:id-S.H.length with
    |zero=>rfl
    |succ k=>rw [h]at h2;simp at h2
   have hid:id=S.H.length:=aA0;rw [h]at h2;have:o=m:=aC8;subst this;subst hid;exact⟨by rw [mE];exact y,r,by rw [aK (by rw [l.1];exact eJ _),l.1];simp,v⟩
theorem Gi{o:Ob}{a:Ad}{S2:St}{m:List Rg}(u:Rel C w0 S0 ρ S F w)(h:S2.H=S.H++[o])(f:S2.nb=S.nb)(g:S2.al=S.al)(p:S2.m=m++S.m):Nx S ρ S2 (Ap ρ S.H.length a):=by
 have d:∀i al,Le i al ρ S.H (Ap ρ S.H.length a) S2.H:=by
  intro i al;rw [h];refine⟨aA2,uS,fun id n _ h2=> ?_⟩;have r:=(aD.1 h2).1;rw [aI r,h2];cases n with
  |bl e cs=>exact .inr ⟨cs,rfl,rfl,fun j c k=>.inr ⟨c,k,fun q=>⟨q,SC.up uS (u.ho id e cs h2 c (aG k))⟩⟩⟩
  |rw e b t l=>exact .inr rfl
  |br m l=>exact .inr rfl
  |ro t l=>rfl
  |dd m=>rfl
 exact⟨⟨f,g,d _ _⟩,d _ _,fun id j s=>by rw [p];exact By.2 (.inr s)⟩
end
open Go.Wk
open Go.Ce (Tr)
section
variable {C : Cx} {md : Md} {w0 w : World} {S0 : List Nat} {ρ : Nat -> Ad} {S : St} {F : Nat -> Value}
variable {d : Nat} {ty : TypeId} {pos : String} {after : Array Edge}
def adB(b:Nat):Ad:=⟨some b,some ⟨b,0,none⟩,0,false,0⟩
theorem Ez{op:Op}{cs:List SC}{e:Nat}{x:SC}{V:Nat->Value}(h:Rel C w0 S0 ρ S F w)(f:∀c∈cs,c.ok S.H.length)(hx:x.ok (S.H.length+1))(k:kU op=false)
  (r:∀b,x.v (Ap ρ S.H.length (adB b))=V b) (a:(execOp (aW md F) (⟨some d,op,ty,pos,after,none⟩:Oper)).run C.P w=.ok (.value (V w.heap.size)) (w.alloc (.cells (cs.map (SC.v ρ)).toArray e (0,0)))):
  Step C md w0 S0 ρ S F w ⟨some d,op,ty,pos,after,none⟩ (St.set ⟨S.F,S.H++[.bl e cs],S.nb,S.al,[]++S.m⟩ d (.c' x)):=by
 intro ops Q rest l;obtain⟨L,t,s⟩:=h.mem;refine iC t (cs.map (SC.v ρ)) e V rfl rfl a fun b w2 i=> ?_
 have h1:Rel C w0 S0 (Ap ρ S.H.length (adB b)) ⟨S.F,S.H++[.bl e cs],S.nb,S.al,[]++S.m⟩ F w2:=by
  refine vX (o:=.bl e cs) h s i ⟨cs.map (SC.v ρ),by rw [mE];rfl,aA2,fun j c n l=> ?_⟩ rfl (fun y u p c q=> ?_) rfl rfl
  ·rw [aZ,n,SC.up uS (f c (aG n))];rfl
  ·cases p;exact SC.cK (f c q) aA0
 refine l _ _ w2 (K7 h1 (by show some (x.v _)=_;rw [r]) (by show x.ok (S.H++[_]).length;simpa using hx)) (Gi h rfl rfl rfl rfl) HE fun d2 _ g=> ?_;rw [show kU op=true from g]at k;cases k
theorem AK(j:Rel C w0 S0 ρ S F w){e:Nat}{ro:Ro}(h:gQ C (S.ev C) S.H (.alloc e)=some ro):Step C md w0 S0 ρ S F w ⟨some d,.alloc e,ty,pos,after,none⟩ (St.set ⟨S.F,ro.H,S.nb,S.al,ro.m++S.m⟩ d ro.v):=by
 have h:(match zC C e with
  |some z=>some (Ro.mk [] (.c' (.p' S.H.length 0)) (S.H++[.bl e z]) [])
  |none=>none)=some ro:=h
 split at h
 ·rename_i z f;cases h;obtain⟨k,h1,h2,h3⟩:=MZ f w;refine Ez (V:=fun b=>.pointer (some ⟨b,0,none⟩)) j (fun c g i a=>by rw [(h2 c g).1]at a;cases a) (fun i a=>by have:i=S.H.length:=aE.1 a;omega) rfl (fun b=>by show gM (Ap ρ _ _ _).b 0=_;rw [mE];rfl) ?_;have h3:=h3 ρ;simp [execOp,Instr.alloc,h1,newVar,newRow,h3]
 ·cases h
theorem PH(c:Rel C w0 S0 ρ S F w)(f:C.nn=md.n){e:Nat}{x:Operand}{ro:Ro}(h:gQ C (S.ev C) S.H (.box e x)=some ro):Step C md w0 S0 ρ S F w ⟨some d,.box e x,ty,pos,after,none⟩ (St.set ⟨S.F,ro.H,S.nb,S.al,ro.m++S.m⟩ d ro.v):=by
 have h:(match(S.ev C x).cells with
  |some cs=>some (Ro.mk [] (.c' (.p' S.H.length 0)) (S.H++[.bl e cs]) [])
  |none=>none)=some ro:=h
 split at h
 ·rename_i cs a;cases h;obtain⟨h1,h2⟩:=Sj c f x;obtain⟨u,h3,k⟩:=SV.Eb (ρ:=ρ) a;have j:=h2 u h3;refine Ez (V:=fun b=>.pointer (some ⟨b,0,none⟩)) c (SV.It a h1) (fun i g=>by have:i=S.H.length:=aE.1 g;omega) rfl (fun b=>by show gM (Ap ρ _ _ _).b 0=_;rw [mE];rfl) ?_;simp [execOp,Instr.box,j,newVar,newRow,k]
 ·cases h
theorem vW(z:List SC):∀k,(tV z k).length=k*z.length
 |0=>by simp [tV]
 |k+1=>by show(z++tV z k).length=_;rw [cB,vW z k,cZ,Df]
theorem Vd{z:List SC}{p:SC->Prop}(a:∀x∈z,p x):∀k,∀x∈tV z k,p x
 |0,x,h=>by cases h
 |k+1,x,h=>by
  rcases aU.1 (show x∈z++tV z k from h)with h|h
  ·exact a x h
  ·exact Vd a k x h
theorem Ve(z:List SC):∀(k j:Nat),j<k*z.length->(tV z k)[j]? =z[j%z.length]?
 |0,j,h=>by omega
 |k+1,j,h=>by
  show(z++tV z k)[j]? =_;by_cases a:j<z.length
  ·rw [aI a,Zi a]
  ·rw [aK aA0,Ve z k _ (by rw [cZ]at h;omega)];rw [<-Nat.mod_eq_sub_mod aA0]
theorem C1{z:List SC}{k:Nat}{a:Array Value}(j:a=(z.map (SC.v ρ)).toArray):(Array.range (k*z.length)).map (a[·%a.size]!)=((tV z k).map (SC.v ρ)).toArray:=by
 subst j;apply YD
 ·simp [vW]
 ·intro i h1 h2;have b:i<k*z.length:=by simpa using h1
  have f:0<z.length:=by
   rcases Nat.eq_zero_or_pos z.length with h|h
   ·rw [h]at b;simp at b
   ·exact h
  have e:=Ve z k i b;have d:i%z.length<z.length:=Nat.mod_lt _ f;have g:i<(tV z k).length:=by rw [vW];exact b
  rw [aJ d,aJ g]at e;have c:=aP e;simp only [Array.getElem_map,Array.getElem_range,List.getElem_toArray,List.getElem_map,c];simp [d]
theorem Cd(B:Rel C w0 S0 ρ S F w)(I:C.nn=md.n){t len:Nat}{j:Array (Nat×Operand)}{ro:Ro}(h:gQ C (S.ev C) S.H (.buildSlice t len j)=some ro):Step C md w0 S0 ρ S F w ⟨some d,.buildSlice t len j,ty,pos,after,none⟩ (St.set ⟨S.F,ro.H,S.nb,S.al,ro.m++S.m⟩ d ro.v):=by
 have h:fz C (S.ev C) S.H t len j.toList=some ro:=h;unfold fz at h;split at h
 ·rename_i e A;split at h
  ·rename_i z n G o;have h1:=dC h;have h2:=dC h1.2;have h3:=h2.2;split at h3
   ·rename_i cs x;cases h3;have l:z.length=n:=gP h1.1;have J:len*n<=100000:=Tp h2.1;obtain⟨E,P,O,y⟩:=MZ G w;have y:=y ρ;obtain⟨D,Q,N⟩:=Ie (ρ:=ρ) (md:=md) (F:=F) (k:=S.H.length) j.toList (tV z len) cs (fun p _=>Sj B I p.2) (Vd (fun c L i s=>by rw [(O c L).1]at s;cases s) len) x;have f:(j.map fun p=>(p.1,aW md F p.2)).toList=j.toList.map fun p=>(p.1,aW md F p.2):=aA2;refine Ez (V:=fun b=>.slice (some ⟨b,0,none⟩) len len) B N (fun i s=>by have:i=S.H.length:=aE.1 s;omega) rfl (fun b=>by show Value.slice (some ⟨(Ap ρ _ _ _).b,0,none⟩) len len=_;rw [mE];rfl) ?_;have r:¬len*n>2^24:=aA0
    have q:∀a:Array Value,(len*n≠0->a=(z.map (SC.v ρ)).toArray)->(Array.range (len*n)).map (a[·%a.size]!)=((tV z len).map (SC.v ρ)).toArray:=by
     intro a M;by_cases g:len*n=0
     ·have K:(tV z len).length=0:=by rw [vW,l,g]
      have:tV z len=[]:=Jz K;rw [g,this];simp
     ·rw [<-l];exact C1 (M g)
    by_cases g:len*n=0
    ·have u:=q #[] (fun h=>absurd g h);simp only [execOp,Instr.buildSlice,Sem.run_bind,run_underlying (B3 A),Result.andThen_ok,Mk o w];rw [aB r,aC g];simp only [Sem.run_bind,Sem.run_pure,Result.andThen_ok];rw [f,u,D];simp [newRow]
    ·have u:=q E.cells (fun _=>y);simp only [execOp,Instr.buildSlice,Sem.run_bind,run_underlying (B3 A),Result.andThen_ok,Mk o w];rw [aB r,aB g];simp only [Sem.run_bind,P,Sem.run_pure,Result.andThen_ok];rw [f,u,D];simp [newRow]
   ·cases h3
  ·cases h
 ·cases h
end
open Go.Wk
open Go.Ce (Tr)
open List renaming length → aS
open Nat renaming beq → cP
theorem xL{α:Type}{f:α->List Value}{sz:Nat}(a:oV f sz):∀(l:List α) (i:Nat) (x:α),l[i]? =some x->∃A B,l.flatMap f=A++(f x++B)/\A.length=i*sz
 |y::l,0,x,h=>by have:y=x:=aB0;subst this;exact⟨[],l.flatMap f,rfl,aA2⟩
 |y::l,i+1,x,h=>by obtain⟨A,B,h1,h2⟩:=xL a l i x aB0;exact⟨f y++A,B,by rw [tN,h1,iI],by rw [cB,a.len,h2,cZ,Df]⟩
theorem GN(t:Ty)(l:List t.T)(j:Int)(h:0<=j/\j<(aS l:Int)):l[j.toNat]? =some (MH t l j):=by have a:j.toNat<aS l:=aA0;rw [eh];unfold el;rw [aJ a];simp [List.getD,aJ a]
theorem Ew{sz:Nat}{j:Int}{t:Ty}(h:Uh sz j t=true):j.toNat*sz=j.toNat*t.sz:=by
 unfold Uh at h;cases a:cP sz t.sz with
 |true=>rw [gP a]
 |false=>
  rw [a]at h;simp only [aH]at h;split at h
  ·show(0:Nat)*sz=0*t.sz;simp
  ·cases h
theorem VE{t:Ty}{l:List t.T}{j:Int}(a:t.flat=true)(b:0<=j/\j<(aS l:Int))(ρ:Nat->Ad):∃A B,l.flatMap t.enc=A++((T5 t l j).map (SC.v ρ)++B)/\A.length=j.toNat*t.sz:=by obtain⟨A,B,h1,h2⟩:=xL (Ty.tA a) l j.toNat _ (GN t l j b);refine⟨A,B, ?_,h2⟩;rw [h1];unfold T5;rw [(Ty.wT t 0 0 (MH t l j) a).2]
section
variable {C : Cx} {md : Md} {w0 w : World} {S0 : List Nat} {ρ : Nat -> Ad} {S : St} {F : Nat -> Value}
variable {d : Nat} {ty : TypeId} {pos : String} {after : Array Edge}
theorem EZ{x:Operand}{t n off k:Nat}{a:Bool}{g:Option Addr}{f A B:List Value}{cs:List SC}{v:SV}(l:Rd w g f)(b:f=A++(cs.map (SC.v ρ)++B))(m:aS A=k)(o:Lq C t=some n)(j:ZG C t=some a)(i:pQ cs off n a=some v)(q:cs≠[])(e:a=true->0<n)
  (hx:aW md F x=.pointer (some (ea g (k+off)))) (h:∀c∈cs,c.ok S.H.length):tJ C md ρ S F w (.load t x) v:=by
 refine⟨zB i h, ?_⟩;rcases pP i with⟨rfl,c,h1,_,rfl⟩|⟨rfl,h1,_,rfl⟩|⟨rfl,rfl,rfl⟩
 ·refine⟨_,rfl,fun d ty pos after=>N8 g f (k+off) _ l ?_ hx (B4 j w)⟩;rw [b,aK aA0,m,gO];have p:=(aD.1 h1).1;rw [aI (by simpa using p),aZ,h1];rfl
 ·refine⟨_,rfl,fun d ty pos after=>N7 g f _ (k+off) n l ?_ ?_ (e rfl) hx (B4 j w) (Mk o w)⟩
  ·rw [b,<-m,List.drop_append,YG aA0,Ka,gO,List.drop_append_of_le_length aA6,yD aA6,List.map_take,List.map_drop]
  ·simp;omega
 ·exact absurd (e rfl) aA0
theorem VF{t:Ty}{l:List t.T}{j:Int}(a:t.flat=true)(n:Nat):(∀c∈T5 t l j,c.ok n)/\(T5 t l j).length=t.sz:=by have h1:=Ty.My t 0 0 (MH t l j) a;refine⟨fun c d i b=>(by rw [(h1 c d).1]at b;cases b), ?_⟩;have h2:=(Ty.wT t 0 0 (MH t l j) a).2 (fun _=>⟨none,none,0,false,0⟩);have h3:=bP aS h2;rw [Dj,Ty.Rl t _ a]at h3;exact h3
theorem Fy{x:Operand}{t n off id sz:Nat}{a:Bool}{τ:Ty}{l:List τ.T}{j:Int}{ro:Ro}(o:Rd w (ρ id).a (l.flatMap τ.enc))(f:Lq C t=some n)(k:ZG C t=some a)(b:cP n 0=false)(hx:aW md F x=.pointer (some (ea (ρ id).a (j.toNat*sz+off))))
  (h:pO S.H τ l j sz off n a=some ro) (i:Dc ro.g):tJ C md ρ S F w (.load t x) ro.v/\ro.H=S.H/\ro.m=[]:=by
 unfold pO at h;split at h
 ·rename_i v d;have h1:=dC h;have h2:=gJ h1.1;cases h1.2;obtain⟨A,B,h3,q⟩:=VE (ρ:=ρ) h2.2 i.1;obtain⟨p,c⟩:=VF (l:=l) (j:=j) h2.2 S.H.length;refine⟨EZ o h3 q f k d (fun e=> ?_) (fun _=> ?_) (by rw [hx,Ew h2.1]) p,rfl,rfl⟩
  ·have:=Ty.yS h2.2;rw [e]at c;simp at c;omega
  ·exact Jp fun e=>by rw [e]at b;cases b
 ·cases h
theorem HK{t:Ty}(b:t.flat=true)(ρ:Nat->Ad)(n:Nat):∀(l:List t.T),(LH t l).map (SC.v ρ)=l.flatMap t.enc/\∀c∈LH t l,c.ok n
 |[]=>⟨rfl,fun c a=>by cases a⟩
 |x::l=>by
  obtain⟨h1,h2⟩:=HK b ρ n l;refine⟨?_,fun c a=> ?_⟩
  ·show((t.lay 0 0 x).1++LH t l).map _=_;rw [Om,h1,(Ty.wT t 0 0 x b).2,tN]
  ·rcases aU.1 (show c∈(t.lay 0 0 x).1++LH t l from a)with a|a
   ·intro i d;rw [(Ty.My t 0 0 x b c a).1]at d;cases d
   ·exact h2 c a
theorem HR{x:Operand}{t n off id sz:Nat}{a:Bool}{τ:Ty}{l:List τ.T}{j:Int}{ro:Ro}(i:Rd w (ρ id).a (l.flatMap τ.enc))(f:Lq C t=some n)(g:ZG C t=some a)(b:cP n 0=false)(hx:aW md F x=.pointer (some (ea (ρ id).a (j.toNat*sz+off))))
  (h:yO S.H τ l j off n a=some ro):tJ C md ρ S F w (.load t x) ro.v/\ro.H=S.H/\ro.m=[]:=by
 unfold yO at h;split at h
 ·have h1:=dC h;obtain⟨v,d,rfl⟩:=WS h1.2;obtain⟨h2,h3⟩:=HK h1.1 ρ S.H.length l;refine⟨EZ (A:=[]) (B:=[]) (k:=0) i (by rw [h2];simp) rfl f g d (fun e=> ?_) (fun _=> ?_) (by rw [hx];simp) h3,rfl,rfl⟩
  ·rcases pP d with⟨_,c,h1,_⟩|⟨_,h1,_⟩|⟨_,h1,_⟩
   ·rw [e]at h1;simp at h1
   ·rw [e]at h1;have:n=0:=by simp at h1;omega
    rw [this]at b;cases b
   ·rw [h1]at b;cases b
  ·exact Jp fun e=>by rw [e]at b;cases b
 ·cases h
theorem FM(O:Rel C w0 S0 ρ S F w){t:Nat}{x:Operand}{c:SC}{ro:Ro}(hx:aW md F x=c.v ρ)(h:jE C S.H t c=some ro)(K:Dc ro.g):tJ C md ρ S F w (.load t x) ro.v/\ro.H=S.H/\ro.m=[]:=by
 obtain⟨L,D,G⟩:=O.mem;unfold jE at h;split at h
 ·rename_i n a y s;cases f:cP n 0 with
  |true=>rw [f]at h;cases h
  |false=>
   rw [f]at h;simp only [aH]at h;split at h
   ·rename_i id off;split at h
    ·rename_i e cs k;rw [fW]at k;obtain⟨v,M,rfl⟩:=WS h;obtain⟨_,r,u,I,rfl,N⟩:=G.2 id _ k;have q:=D.dK id u;have hx:aW md F x=.pointer (some ⟨(ρ id).b,off,none⟩):=hx;refine⟨⟨zB M (O.ho id e cs k), ?_⟩,rfl,rfl⟩;rcases pP M with⟨rfl,c,h1,h2,rfl⟩|⟨rfl,h1,h2,rfl⟩|⟨rfl,rfl,rfl⟩
     ·exact⟨_,rfl,fun d ty pos after=>iP (ρ id).b off I e _ q (N.2 off c h1 h2) hx (B4 s w)⟩
     ·refine⟨_,rfl,fun d ty pos after=>O3 (ρ id).b off n I _ e q ?_ aA6 hx (B4 s w) (Mk y w)⟩;apply bZ;intro j;rw [bO,aZ,bO];by_cases B:j<n
      ·rw [aC B,aC B,bU,bU];have J:off+j<aS cs:=by omega
       have E:=aJ J;rw [E,N.2 (off+j) _ E (h2 _ (aG (i:=j) (by rw [bO,aC B,bU];exact E)))];rfl
      ·rw [aB B,aB B];rfl
     ·exact⟨_,rfl,fun d ty pos after=>O3 (ρ id).b off 0 I _ e q aA2 rfl hx (B4 s w) (Mk y w)⟩
    ·cases h
   ·rename_i id j sz off;have hx:aW md F x=.pointer (some (ea (ρ id).a (j.toNat*sz+off))):=hx;split at h
    ·rename_i e b τ l k;rw [fW]at k;obtain⟨_,r,u,p⟩:=G.2 id _ k;have p:r=aX τ.enc e τ.sz (ρ id).o (ρ id).a (ρ id).cap l:=p;subst p;exact Fy (D.nD id u) y s f hx h K
    ·rename_i τ l k;rw [fW]at k;obtain⟨_,r,u,_,z,A,_⟩:=G.2 id _ k;split at h
     ·rename_i Q R;cases h;exact Fy (z.MF D A) y s f hx R K
     ·exact HR (z.MF D A) y s f hx h
    ·rename_i m l k;rw [fW]at k;obtain⟨_,r,u,p⟩:=G.2 id _ k;have p:r=eN (.slice (ρ id).a m (ρ id).cap) m l:=p;subst p;have P:=D.iL id u;have E:l.map bt=l.flatMap (Ty.c').enc:=(kI l).symm;rw [E]at P;exact Fy (τ:=.c') P y s f hx h K
    ·cases h
   ·cases h
 ·cases h
end
end Go.Oe
