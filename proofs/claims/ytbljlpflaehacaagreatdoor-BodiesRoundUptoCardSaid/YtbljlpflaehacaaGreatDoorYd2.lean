/-
  The law BodiesRound holds (part 2 of 8).
-/
import Derived.Test.YtbljlpflaehacaaGreatDoorYd1
import Derived.Lib.Bytealg
import Derived.Lib.IndexAny
import Derived.Lib.LastIndexByte
import Derived.Lib.IndexMore
import Derived.Lib.SlTrimSet
import Derived.Lib.TrimByte
import Derived.Lib.Strings
import Derived.Lib.ItoaNum
import Derived.Lib.Join
import Derived.Sort.Grow
import Derived.Lib.SplitLaws
import Derived.Lib.Split
set_option linter.constructorNameAsVariable false
set_option linter.unusedSimpArgs false
set_option linter.unusedVariables false
namespace Go.Px
open Go.Wk
def dT(p:UInt8->Bool):List UInt8->Int
 |[]=> -1
 |b::l=>if p b then 0 else if dT p l= -1 then-1 else dT p l+1
theorem sB(p:UInt8->Bool):∀l,-1<=dT p l
 |[]=>by simp [dT]
 |b::l=>by have:=sB p l;unfold dT;split;(·omega);(·split<;>omega)
theorem CE(p:UInt8->Bool):∀l,dT p l=if dQ (fun c=> !p c) l=l.length then(-1:Int)else(dQ (fun c=> !p c) l:Int)
 |[]=>by simp [dT,dQ]
 |b::l=>by
  have a:=CE p l;have d:=FN (fun c=> !p c) l;unfold dT dQ;cases e:p b
  ·simp only [Bool.not_false,fM,pQ,cX,dM];rw [a];by_cases h:dQ (fun c=> !p c) l=l.length
   ·rw [aB h,aB rfl,aB aA0]
   ·rw [aA h,aA aA0,aA aA0];omega
  ·simp
theorem dh(p:UInt8->Bool)(l:List UInt8):(dT p l= -1/\dQ (fun c=> !p c) l=l.length)\/(0<=dT p l/\dT p l<(l.length:Int)/\dT p l=(dQ (fun c=> !p c) l:Int)):=by
 have:=FN (fun c=> !p c) l;rw [CE];split
 ·exact .inl ⟨rfl,by assumption⟩
 ·exact .inr ⟨aA0,aA0,rfl⟩
theorem vD(c:UInt8):∀l,Lib.indexByte l c=dT (·==c) l
 |[]=>rfl
 |b::l=>by unfold Lib.indexByte dT;rw [vD c l];simp
theorem wa(cs:List UInt8):∀l,Lib.indexAny l cs=dT (cs.contains ·) l
 |[]=>rfl
 |b::l=>by unfold Lib.indexAny dT;rw [wa cs l];simp
def jW(p:UInt8->Bool):List UInt8->Int
 |[]=> -1
 |b::l=>if jW p l= -1 then(if p b then 0 else-1)else jW p l+1
theorem tX(p:UInt8->Bool):∀l:List UInt8,(jW p l= -1/\l.any p=false)\/(0<=jW p l/\jW p l<(l.length:Int))
 |[]=>.inl ⟨rfl,rfl⟩
 |b::l=>by
  have c:=tX p l;unfold jW;by_cases h:jW p l= -1
  ·rw [aB h];have e:l.any p=false:=by rcases c with a|a;exact a.2;omega
   cases d:p b
   ·left;simp [d,e]
   ·right;simp
  ·rw [aA h];right;rcases c with a|a
   ·exact absurd a.1 h
   ·simp only [dM];omega
theorem Cy(p:UInt8->Bool)(b:UInt8):∀l:List UInt8,jW p (l++[b])=if p b then(l.length:Int)else jW p l
 |[]=>by simp [jW]
 |a::l=>by
  rw [FF,jW,Cy p b l];cases c:p b
  ·simp [jW]
  ·simp
theorem zF(s:List UInt8)(c:UInt8):∀k:Nat,k<=s.length->Lib.lastIdx ⟨s.toArray⟩ (c.toNat:Int) k=jW (·==c) (s.take k)
 |0,_=>by simp [Lib.lastIdx,jW]
 |k+1,h=>by
  rw [OM s k aA0,Cy,Lib.lastIdx,zF s c k aA0];have e:(⟨s.toArray⟩:ByteArray).data[k]! =at_ s k:=by simp [at_,show k<s.length by omega]
  rw [e];by_cases a:at_ s k=c
  ·rw [aB (by rw [a]),aB (by simp [a])];simp;omega
  ·rw [aA (fun h=>a (oD.1 aA0)),aA aC0]
theorem wJ(s:List UInt8)(c:UInt8):Lib.lastIndexByte ⟨s.toArray⟩ (c.toNat:Int)=jW (·==c) s:=by unfold Lib.lastIndexByte;have:=zF s c s.length (qD _);rw [xC]at this;exact this
theorem Xb(s t:List UInt8):(Lib.cut s t).1.length<=s.length/\(Lib.cut s t).2.1.length<=s.length:=by unfold Lib.cut;split<;>simp<;>omega
theorem Ix(s t:List UInt8):(Lib.trimPrefix s t).length<=s.length:=by unfold Lib.trimPrefix;split<;>simp
theorem avt(p:UInt8->Bool)(l:List UInt8):(l.dropWhile p).length<=l.length:=(vP p).length_le
theorem Ow(s t:List UInt8):(Lib.trimLeftS s t).length<=s.length:=avt _ _
theorem IJ(l:List UInt8)(i j:Int):(sub l i j).length=min (j.toNat-i.toNat) (l.length-i.toNat):=by simp [sub]
theorem sub_le(s:List UInt8)(i j:Int):(sub s i j).length<=s.length:=aD6
theorem y8{w:World}(k:Nat)(a:Array Obj):Hp w [] [] (Sort.grow (w.drewN k) a):=Hp.yS ⟨rfl,rfl,rfl,by simp [Sort.grow,World.drewN],fun k b=>by have:k<w.heap.size:=b;show(w.heap++a)[k]? =w.heap[k]?;rw [Array.getElem?_append_left this]⟩
abbrev Pce:=Int×List UInt8
abbrev Prm:=List UInt8×List UInt8×Bool
section
variable (s : List UInt8) (sep : UInt8) (f k b : Nat) (acc : List Pce)
end
open Go.Wk
def lz:List UInt8:=[45,95,46,33,126,42,39,40,41]
def IC(k:Int):List UInt8:=if k=0 then [38,61,43,36,44,59,63,47]else if k=1 then [91,93,47,58,38,43,36]else if k=2 then [91,93,47,63,58,43,36]else []
def jO(l:List UInt8)(c:UInt8):Bool:=l.any (·==c)
def Lx(c:UInt8)(k:Int):Bool:=tY c||gW c||jO lz c||jO (IC k) c
theorem Z5(l:List UInt8)(c:UInt8):(0<=dT (·==c) l)↔jO l c=true:=by
 induction l with
 |nil=>simp [dT,jO]
 |cons b l d=>
  have h:=sB (·==c) l;unfold dT jO;rw [List.any_cons];by_cases a:(b==c)=true
  ·simp [a]
  ·rw [aA a];simp only [a,eD];unfold jO at d;rw [<-d];split<;>omega
theorem CG(l:List UInt8)(c:UInt8):decide (0<=dT (·==c) l)=jO l c:=by rw [Bool.eq_iff_iff,aV,Z5]
def jD(c:UInt8):Bool:=gW c||decide (97<=(c.toNat:Int)/\(c.toNat:Int)<=102)||decide (65<=(c.toNat:Int)/\(c.toNat:Int)<=70)
section
variable (s : List UInt8) (f k : Nat) (acc : List UInt8)
end
def pG(n:Int):UInt8:=at_ [48,49,50,51,52,53,54,55,56,57,65,66,67,68,69,70] n
def escC(k:Int)(c:UInt8):List UInt8:=if Lx c k then [c]else [37,pG ((c.toNat:Int)/16),pG ((c.toNat:Int)%16)]
def gY(s:List UInt8)(k:Int):List UInt8:=s.flatMap (escC k)
abbrev Fy(s:List UInt8):List UInt8:=s.map iF
def wN(l:List Prm)(name:List UInt8):List UInt8×Bool:=match l.find? (fun p=>Fy p.1==Fy name)with|some p=>(p.2.1,true)|none=>([],false)
variable {a:Type}
theorem Mq[Inhabited a](l:List a)(k:Nat)(h:k<l.length):el l (k:Int)=l[k]:=by simp [el,h]
theorem Ja[Inhabited a](l:List a)(k:Nat)(h:k<l.length):l.take (k+1)=l.take k++[el l (k:Int)]:=by rw [List.take_succ_eq_append_getElem h,Mq l k h]
end Go.Px
def _root_.Go.Wk.bT{σ ρ:Type}(f:(σ->Option ρ)->σ->Option ρ):Nat->σ->Option ρ
 |0,_=>none
 |n+1,v=>f (Go.Wk.bT f n) v
namespace Go.Px
open Go.Wk
def cU(c:UInt8):List UInt8->List (List UInt8)
 |[]=>[[]]
 |b::l=>if b=c then []::cU c l else match cU c l with|x::r=>(b::x)::r|[]=>[[b]]
theorem WB(c:UInt8):∀l,cU c l≠[]
 |[]=>by simp [cU]
 |b::l=>by unfold cU;split;simp;split<;>simp
theorem wA(c:UInt8):∀(s:List UInt8) (k:Nat),s.count c<=k->Lib.splitK [c] 0 k s=cU c s
 |[],k,_=>by cases k<;>simp [Lib.splitK,Lib.index,cU]
 |b::l,k,h=>by
  by_cases a:b=c
  ·subst a;obtain⟨k,rfl⟩:∃j,k=j+1:=⟨k-1,by simp at h;omega⟩;have d:=wA b l k (by simp at h;omega);simp [Lib.splitK,Lib.index,cU,d]
  ·have g:(b::l).count c=l.count c:=by simp [List.count_cons,a]
   rw [g]at h;have d:=wA c l k h;unfold cU;rw [aA a,<-d];cases k with
   |zero=>simp [Lib.splitK]
   |succ k=>
    have f:Lib.index (b::l) [c]=if Lib.index l [c]== -1 then-1 else Lib.index l [c]+1:=by
     conv=>lhs;unfold Lib.index
     rw [aA (by simp;exact fun h=>a h.symm)]
    have n:=Lib.index_ge l [c];unfold Lib.splitK;rw [f];by_cases e:Lib.index l [c]= -1
    ·simp [e]
    ·have m:¬(Lib.index l [c]+1)= -1:=by omega
     have i:(Lib.index l [c]+1).toNat=(Lib.index l [c]).toNat+1:=aA0;simp [e,m,i]
theorem OP(s:List UInt8)(c:UInt8):(Lib.splitB ⟨#[c]⟩ 0 (Lib.countB ⟨s.toArray⟩ ⟨#[c]⟩) ⟨s.toArray⟩).map Value.string=(cU c s).map str:=by have h:=Lib.splitB_data ⟨#[c]⟩ 0 (Lib.countB ⟨s.toArray⟩ ⟨#[c]⟩) ⟨s.toArray⟩;have e:Lib.splitK [c] 0 (Lib.countB ⟨s.toArray⟩ ⟨#[c]⟩) s=cU c s:=wA c s _ (Nat.le_of_eq (Lib.count_one c s).symm);have a:(Lib.splitB ⟨#[c]⟩ 0 (Lib.countB ⟨s.toArray⟩ ⟨#[c]⟩) ⟨s.toArray⟩).map (·.data.toList)=cU c s:=h.trans e;rw [<-a,jL];refine List.map_congr_left fun x _=> ?_;rfl
theorem Pc(s:List UInt8)(c:UInt8):Lib.countB ⟨s.toArray⟩ ⟨#[c]⟩+1=(cU c s).length:=by
 have:∀s:List UInt8,s.count c+1=(cU c s).length:=by
  intro s;induction s with
  |nil=>rfl
  |cons b l d=>
   unfold cU;by_cases a:b=c
   ·subst a;simp;omega
   ·rw [aA a];have e:(b::l).count c=l.count c:=by simp [List.count_cons,a]
    rw [e,d];split
    ·rename_i h;rw [h];simp
    ·rename_i h;exact absurd h (WB c l)
 show Lib.count s [c]+1=_;rw [Lib.count_one,this]
theorem oO(c:UInt8):∀s:List UInt8,(cU c s).length<=s.length+1/\∀x∈cU c s,x.length<=s.length
 |[]=>by simp [cU]
 |b::l=>by
  have d:=oO c l;unfold cU;split
  ·simp;exact⟨d.1,fun x hx=>by have:=d.2 x hx;omega⟩
  ·split
   ·rename_i x r h;rw [h]at d;simp at d⊢;exact⟨aA0,aA0,fun a e=>by have:=d.2.2 a e;omega⟩
   ·simp
variable {w:World}
theorem WW(a:Addr)(b:List (List UInt8))(h:Rd w (some a) (b.map str)):∀(j:Nat) x,(b.map fun l=>(⟨l.toArray⟩:ByteArray))[j]? =some x->w.cell? (a.add j)=some (.string x):=by intro j x hx;simp only [bE,bX]at hx;obtain⟨l,c,rfl⟩:=hx;obtain⟨p,e,d⟩:=h j (str l) (by simp [c]);cases e;exact d
theorem T4{p:Addr}{v:Value}(h:w.cell? p=some v):p.spot=none:=by
 unfold World.cell? at h;split at h
 ·by_cases a:p.spot.isSome=true
  ·simp [a]at h
  ·simpa using a
 ·simp at h
theorem N1(sep:List UInt8)(m:Nat):∀b:List (List UInt8),(∀x∈b,x.length<=m)->(Lib.join b sep).length<=b.length*(m+sep.length)
 |[],_=>by simp [Lib.join_nil]
 |x::r,h=>by
  rw [Lib.join_cons];have f:(Lib.joinTail sep r).length<=r.length*(m+sep.length):=by
   have a:∀y∈r,y.length<=m:=fun y c=>h y (lL _ c);clear h;induction r with
   |nil=>simp [Lib.joinTail]
   |cons y r d=>have:=d (fun z e=>a z (lL _ e));have c:=a y aA2;simp only [Lib.joinTail,hC,List.flatten_cons,pP,dM,lK,Nat.one_mul]at*;omega
  have hx:=h x aA2;rw [pP,dM,lK,Nat.one_mul];omega
def Ap(g:List UInt8):Bool:=decide (1<=g.length)&&decide (g.length<=4)&&g.all jD
def lH(g:List UInt8):List UInt8:=if Lib.trimLeftS (Fy g) [48]=[]then [48]else Lib.trimLeftS (Fy g) [48]
theorem DF(g:List UInt8)(h:Ap g=true):(lH g).length<=4:=by
 unfold Ap at h;simp only [dN,aV]at h;unfold lH;split
 ·simp
 ·have:=Ow (Fy g) [48];simp at this;omega
def Au(s:List UInt8):List (List UInt8)×Bool:=if(cU 58 s).all Ap then((cU 58 s).map lH,true)else([],false)
theorem ayz(s:List UInt8):(Au s).1.length<=s.length+1/\∀x∈(Au s).1,x.length<=4:=by
 have h:=oO 58 s;unfold Au;split
 ·rename_i b;refine⟨by simp;exact h.1,fun x hx=> ?_⟩;simp at hx;obtain⟨y,a,rfl⟩:=hx;exact DF y (aT.1 b y a)
 ·simp
variable {a:Type}
theorem sn[Inhabited a](c b:List a)(k:Nat)(h:c.length=k):el (c++b) (k:Int)=el b 0:=by subst h;simp only [el,tH,bP];rw [aN (qD _)];simp
theorem E6[Inhabited a](l:List a)(k:Nat):el (l.drop k) 0=el l (k:Int):=by simp [el]
def NC(X:List (List UInt8))(k:Nat):List (List UInt8):=List.map lH (List.take k X)++List.drop k X
theorem HK(X:List (List UInt8))(k:Nat)(h:k<=X.length):(NC X k).length=X.length:=by simp [NC];omega
theorem DG(X:List (List UInt8)):NC X 0=X:=by simp [NC]
theorem HL(X:List (List UInt8)):NC X X.length=X.map lH:=by simp [NC]
theorem B4(X:List (List UInt8))(k:Nat)(v:List UInt8)(h:k<X.length)(a:v=lH (el X (k:Int))):
  NC X (k+1)=List.set (NC X k) (k:Int).toNat v:=by
 unfold NC;have b:(List.map lH (List.take k X)).length=k:=aA5;rw [tH,gE _ _ aA0,b,Gx,Ja X k h,a];rw [dS h];simp only [List.map_append,hC,eE,List.append_assoc,FF,List.nil_append,Og]
theorem qv(X:List (List UInt8))(k:Nat)(h:k<X.length):el (NC X k) (k:Int)=el X (k:Int):=by unfold NC;rw [sn _ _ k aA5,E6]
theorem QW(g:List UInt8)(h:Lib.trimLeftS (g.map iF) [48]=[]):[48]=lH g:=by unfold lH;rw [aB h]
theorem QY(g:List UInt8)(h:¬Lib.trimLeftS (g.map iF) [48]=[]):Lib.trimLeftS (g.map iF) [48]=lH g:=by unfold lH;rw [aA h]
theorem Sn(g:List UInt8)(h:(g.length:Int)<1\/4<(g.length:Int)):Ap g=false:=by
 unfold Ap;rcases h with h|h
 ·rw [show decide (1<=g.length)=false by(rw [bU];omega)];rfl
 ·rw [show decide (g.length<=4)=false by(rw [bU];omega)];simp
theorem QV(g:List UInt8)(h:g.all jD=false):Ap g=false:=by unfold Ap;rw [h];simp
theorem QU(g:List UInt8)(b:¬(g.length:Int)<1)(a:¬4<(g.length:Int))(h:g.all jD=true):Ap g=true:=by unfold Ap;rw [h,show decide (1<=g.length)=true by(rw [aV];omega),show decide (g.length<=4)=true by(rw [aV];omega)];rfl
theorem Nr[Inhabited a](p:a->Bool)(s:List a)(k:Nat)(h:k<s.length)(c:(s.take k).all p=true)(b:p (el s (k:Int))=true):(s.take (k+1)).all p=true:=by rw [Ja s k h,oH,c];simpa using b
theorem Qc[Inhabited a](p:a->Bool)(s:List a)(k:Nat)(h:k<s.length)(b:p (el s (k:Int))=false):s.all p=false:=by rw [Bool.eq_false_iff];intro c;have:=aT.1 c (el s (k:Int)) (by simp [el,h]);rw [this]at b;cases b
theorem HM(s:List UInt8)(h:(cU 58 s).all Ap=false):Au s=([],false):=by unfold Au;rw [h];rfl
theorem DH(s:List UInt8)(h:(cU 58 s).all Ap=true):Au s=((cU 58 s).map lH,true):=by unfold Au;rw [h];rfl
theorem ZM(s:List UInt8)(h:s.length<=1000000000):(Lib.join (Au s).1 [58]).length<=100000000000:=by have b:=ayz s;have a:=N1 [58] 4 (Au s).1 b.2;simp at a;omega
def pZ(x:List UInt8):List (List UInt8)×Bool:=if x=[]then([],true)else Au x
theorem QZ(x:List UInt8)(h:x=[]):pZ x=([],true):=by unfold pZ;rw [aB h]
theorem HN(x:List UInt8)(h:¬x=[]):pZ x=Au x:=by unfold pZ;rw [aA h]
def Aq(s:List UInt8):List UInt8×Bool:=
 if 39<s.length then([],false)
 else if(Lib.cut s [58,58]).2.2=false then(Lib.join (Au s).1 [58],(Au s).2&&decide (((Au s).1.length:Int)=8))
 else if(!(pZ (Lib.cut s [58,58]).1).2|| !(pZ (Lib.cut s [58,58]).2.1).2||decide (7<((pZ (Lib.cut s [58,58]).1).1.length:Int)+((pZ (Lib.cut s [58,58]).2.1).1.length:Int)))=true then([],false)
 else(Lib.join (pZ (Lib.cut s [58,58]).1).1 [58]++[58,58]++Lib.join (pZ (Lib.cut s [58,58]).2.1).1 [58],true)
def lD(n:List UInt8):Bool:=n.all gW&& !(n==[])&&decide (vK n<=255)&&(n==Lib.itoa (vK n:Int))
def jQ(s:List UInt8):Bool:=decide (s.length<=15)&&(cU 46 s).all lD&&decide ((cU 46 s).length=4)
theorem Ri(n:List UInt8)(h:n.all gW=false):lD n=false:=by unfold lD;rw [h];rfl
theorem nB(n:List UInt8)(h:(n=[]\/255<(vK n:Int))\/¬n=Lib.itoa (vK n:Int)):lD n=false:=by
 unfold lD;rcases h with(h|h)|h
 ·subst h;rfl
 ·rw [show decide (vK n<=255)=false by(rw [bU];omega)];simp
 ·rw [show(n==Lib.itoa (vK n:Int))=false by simpa using h];simp
theorem PO(n:List UInt8)(h:n.all gW=true)(b:¬n=[])(c:¬255<(vK n:Int))(a:n=Lib.itoa (vK n:Int)):lD n=true:=by unfold lD;rw [h,show decide (vK n<=255)=true by(rw [aV];omega),show(n==Lib.itoa (vK n:Int))=true by rw [beq_iff_eq];exact a,show(n==[])=false by simpa using b];rfl
theorem GX(s:List UInt8)(h:15<(s.length:Int)):jQ s=false:=by unfold jQ;rw [show decide (s.length<=15)=false by(rw [bU];omega)];rfl
theorem YM(s:List UInt8)(h:(cU 46 s).all lD=false):jQ s=false:=by unfold jQ;rw [h];simp
theorem PS(s:List UInt8)(a:¬15<(s.length:Int))(h:(cU 46 s).all lD=true):jQ s=decide (((cU 46 s).length:Int)=4):=by unfold jQ;rw [h,show decide (s.length<=15)=true by(rw [aV];omega)];rw [Bool.eq_iff_iff];simp;omega
theorem Ww[Inhabited a](l:List a)(k:Nat)(h:k<l.length):el l (k:Int)∈l:=by rw [Mq l k h];exact xE h
end Go.Px
namespace Go.Wk
open Go.Px
open Go.Value renaming slice → Vs, int → Vi, bool → Vb, pointer → Vp
def Dt(x:(aC×Int)):List Value:=[(str x.1),(Vi .i64 x.2)]
def cJ(x:uU×(PA×PA)):List Value:=[(Vs x.2.1.2.1 x.1.1.length x.2.1.2.2),(Vs x.2.2.2.1 x.1.2.length x.2.2.2.2)]
theorem nY:tC cJ 2:=⟨fun _=>rfl,fun x v h=>by simp only [cJ,aP,iK,K9]at h;rcases h with h|h<;>subst h<;>rfl⟩
def fR(x:(aC×aC)):List Value:=[(str x.1),(str x.2)]
theorem Yl:tC fR 2:=⟨fun _=>rfl,fun x v h=>by simp only [fR,aP,iK,K9]at h;rcases h with h|h<;>subst h<;>rfl⟩
def dU(x:uU×(PA×PA)):List cF:=[zX fR x.2.1.1 x.2.1.2.1 x.2.1.2.2 x.1.1,zX eB x.2.2.1 x.2.2.2.1 x.2.2.2.2 x.1.2]
theorem FP{w0 w:World}{S:List Nat}{L:List cF}{g:Nat->(PA×PA)}{l:dB}(h:Hp w0 S L w)(a:∀r∈gI dU g l,r∈L)(i:Int)(c:0<=i/\i<(l.length:Int)):(Rd w (g (Int.toNat i)).1.2.1 (List.flatMap fR ((el l i).1))/\((el l i).1).length<=(g (Int.toNat i)).1.2.2/\((g (Int.toNat i)).1.2.1=none->(g (Int.toNat i)).1.2.2=0))/\(Rd w (g (Int.toNat i)).2.2.1 (List.flatMap eB ((el l i).2))/\((el l i).2).length<=(g (Int.toNat i)).2.2.2/\((g (Int.toNat i)).2.2.1=none->(g (Int.toNat i)).2.2.2=0)):=by have key:∀r∈dU (el l i,g (Int.toNat i)),r.holds w:=fun r b=>(h.res _ (a _ (rb dU g l i c _ b))).1;unfold dU at key;exact⟨C3 (key _ (.head _)),C3 (key _ (.tail _ (.head _)))⟩
def dR(x:(Int×aC)):List Value:=[(Vi .i64 x.1),(str x.2)]
theorem ud:tC dR 2:=⟨fun _=>rfl,fun x v h=>by simp only [dR,aP,iK,K9]at h;rcases h with h|h<;>subst h<;>rfl⟩
def eQ(x:PQ):List Value:=[(str x.1),(str x.2.1),(Vb x.2.2)]
theorem xi:tC eQ 3:=⟨fun _=>rfl,fun x v h=>by simp only [eQ,aP,iK,K9]at h;rcases h with h|h|h<;>subst h<;>rfl⟩
def N9:List aC:=[[67,97,108,108,45,73,68],[67,83,101,113],[77,73,77,69,45,86,101,114,115,105,111,110],[77,105,110,45,83,69],[82,65,99,107],[82,83,101,113],[87,87,87,45,65,117,116,104,101,110,116,105,99,97,116,101]]
def Gn:List (aC×Int):=[([70,114,111,109],1),([84,111],1),([67,111,110,116,97,99,116],1),([82,111,117,116,101],1),([82,101,99,111,114,100,45,82,111,117,116,101],1),([80,97,116,104],1),([83,101,114,118,105,99,101,45,82,111,117,116,101],1),([82,101,102,101,114,45,84,111],1),([82,101,102,101,114,114,101,100,45,66,121],1),([82,101,112,108,121,45,84,111],1),([86,105,97],2),([67,83,101,113],3),([82,65,99,107],4),([67,111,110,116,101,110,116,45,76,101,110,103,116,104],5),([69,120,112,105,114,101,115],5),([77,97,120,45,70,111,114,119,97,114,100,115],5),([77,105,110,45,69,120,112,105,114,101,115],5),([82,83,101,113],5),([67,111,110,116,101,110,116,45,68,105,115,112,111,115,105,116,105,111,110],6),([67,111,110,116,101,110,116,45,84,121,112,101],6),([69,118,101,110,116],6),([77,105,110,45,83,69],6),([83,101,115,115,105,111,110,45,69,120,112,105,114,101,115],6),([83,117,98,115,99,114,105,112,116,105,111,110,45,83,116,97,116,101],6),([65,99,99,101,112,116],7),([65,108,108,111,119],7),([65,108,108,111,119,45,69,118,101,110,116,115],7),([80,114,111,120,121,45,82,101,113,117,105,114,101],7),([82,101,113,117,105,114,101],7),([83,117,112,112,111,114,116,101,100],7),([85,110,115,117,112,112,111,114,116,101,100],7)]
def N7:List aC:=[[38,61,43,36,44,59,63,47],[91,93,47,58,38,43,36],[91,93,47,63,58,43,36]]
end Go.Wk
namespace Go.Ce
open Go.Wk
open Nat renaming beq → cV, succ → oA
open UInt8 renaming ofNat → Fo
variable {a:Type}
noncomputable def bi(c:Bool)(x y:a):a:=Bool.rec y x c
noncomputable def ob{b:Type}(x:Option a)(f:a->Option b):Option b:=Option.rec none f x
inductive Pk where
 |h
 |o (p:Pk)
 |i (p:Pk)
noncomputable def ve(f:Nat):Nat->Pk:=
 Nat.rec (fun _=>.h) (fun _ r k=>bi (cV k (nat_lit 0)) .h (bi (cV (Nat.mod k (nat_lit 2)) (nat_lit 1)) (.i (r (Nat.div k (nat_lit 2)))) (.o (r (Nat.sub (Nat.div k (nat_lit 2)) (nat_lit 1)))))) f
noncomputable def pk(k:Nat):Pk:=ve (oA k) k
inductive Tr (α:Type) where
 |e
 |n (l:Tr α) (v:Option α) (r:Tr α)
noncomputable def Tr.L(t:Tr a):Tr a:=Tr.rec .e (fun l _ _ _ _=>l) t
noncomputable def Tr.V(t:Tr a):Option a:=Tr.rec none (fun _ v _ _ _=>v) t
noncomputable def Tr.R(t:Tr a):Tr a:=Tr.rec .e (fun _ _ r _ _=>r) t
noncomputable def Tr.wN(p:Pk):Tr a->Option a:=Pk.rec Tr.V (fun _ g t=>g t.R) (fun _ g t=>g t.L) p
noncomputable def Tr.WN(x:a)(p:Pk):Tr a->Tr a:=Pk.rec (fun t=>.n t.L (some x) t.R) (fun _ s t=>.n t.L t.V (s t.R)) (fun _ s t=>.n (s t.L) t.V t.R) p
noncomputable def Tr.get(t:Tr a)(k:Nat):Option a:=Tr.wN (pk k) t
noncomputable def Tr.set(t:Tr a)(k:Nat)(x:a):Tr a:=Tr.WN x (pk k) t
def dec:Nat->Nat->List UInt8
 |0,_=>[]
 |l+1,x=>Fo (x%256)::dec l (x/256)
inductive Cp where
 |k (c:Nat)
 |r (off:Nat)
inductive SC where
 |b (x:Bool)
 |i (k:IntKind) (n:Nat)
 |s (l x:Nat)
 |np
 |ns
 |nf
 |ni
 |nm
 |p (i off:Nat)
 |g (i off:Nat)
 |sl (i base n:Nat) (c:Cp)
 |fn (f:Nat) (cs:List Nat)
 |y (i:Nat)
 |m (i:Nat)
 |z (i base d off:Nat)
inductive SA where
 |c (x:SC)
 |a (l:List SC)
inductive SV where
 |c (x:SC)
 |a (l:List SC)
 |t (l:List SA)
 |u
inductive Mo where
 |ex
 |rw (sz m:Nat)
 |bw
 |fb
inductive HB where
 |cl (t:Nat) (md:Mo) (xs:List SC)
 |it (l x pos:Nat)
 |lp (busy:Bool) (j k:Nat) (ps:List Nat) (asg body:Code) (F:Tr SV)
 |df
 |gn
 |mp (es:List (SC×SC))
structure Hs where
 nx:Nat
 t:Tr HB
structure T where
 F:Tr SV
 H:Hs
 D:Option Nat
structure M where
 n:Nat
 m:Option (Option Nat)
structure Cx where
 P:Program
 G:Nat->Option (List SC)
 X:Nat->Option (List SV->Hs->Option (SV×Hs))
 pure:Nat->Bool
 V:Nat->Bool
noncomputable def SV.cells:SV->Option (List SC):=SV.rec (fun x=>some [x]) some (fun _=>none) none
noncomputable def km:IntKind->Nat:=IntKind.rec (nat_lit 256) (nat_lit 65536) (nat_lit 4294967296) (nat_lit 18446744073709551616) (nat_lit 256) (nat_lit 65536) (nat_lit 4294967296) (nat_lit 18446744073709551616)
noncomputable def kh:IntKind->Nat:=IntKind.rec (nat_lit 128) (nat_lit 32768) (nat_lit 2147483648) (nat_lit 9223372036854775808) (nat_lit 256) (nat_lit 65536) (nat_lit 4294967296) (nat_lit 18446744073709551616)
noncomputable def ures(k:IntKind)(m:Nat):Int:=bi (Nat.ble (kh k) m) (.negSucc (Nat.sub (Nat.sub (km k) (nat_lit 1)) m)) (.ofNat m)
noncomputable def SC.v:SC->Option Value
 |.b x=>some (.bool x)
 |.i k n=>some (.int k (ures k (Nat.mod n (km k))))
 |.s l x=>some (str (dec l x))
 |.np=>some (.pointer none)
 |.ns=>some (.slice none 0 0)
 |.nf=>some .nilFunc
 |.ni=>some .nilIface
 |_=>none
noncomputable def vcs:List SC->Option (List Value)
 |[]=>some []
 |x::l=>ob x.v fun v=>ob (vcs l) fun a=>some (v::a)
noncomputable def SV.v:SV->Option Value
 |.c x=>x.v
 |.a l=>ob (vcs l) fun b=>some (.agg b.toArray)
 |_=>none
section
variable (C : Cx)
end
section
variable (C : Cx) (m : M) (S : T)
noncomputable def only{a:Type}(l:List a):Option a:=List.rec none (fun x b _=>bi b.isEmpty (some x) none) l
end
section
variable (C : Cx) (m : M) (S : T)
end
section
variable (C : Cx)
end
end Go.Ce
namespace Go.Oe
open Go.Wk
open Go.Ce (Tr)
open Go.Op renaming bytesLess → uH
open Int renaming toNat → aZ
open List renaming drop → bN, replicate → iZ, set → jV, take → nZ
open Nat renaming beq → cV, blt → fZ, succ → oA
open Sum renaming elim → fC
open UInt8 renaming ofNat → Fo
noncomputable section
inductive Ty where
 |i' (k:IntKind)
 |c'
 |s'
 |b'
 |u'
 |w' (x:Ty)
 |pr (x y:Ty)
 |sm (x y:Ty)
 |l' (e by_:Nat) (x:Ty)
 |y'
 |r' (x:Ty)
 |p' (e:Nat) (x:Ty)
 |z'
 |o' (j:Nat)
 |f' (k:Nat) (x:Ty)
@[reducible] def Ty.T:Ty->Type
 |.i' _=>Int
 |.c'=>UInt8
 |.s'=>aC
 |.b'=>Bool
 |.u'=>Unit
 |.w' x=>x.T
 |.pr x y=>x.T×y.T
 |.sm x y=>x.T⊕y.T
 |.l' _ _ x=>List x.T
 |.y'=>aC
 |.r' x=>List x.T
 |.p' _ x=>x.T
 |.z'=>Unit
 |.o' _=>Unit
 |.f' _ x=>x.T
def kN:IntKind->Nat
 |.i8=>0
 |.i16=>1
 |.i32=>2
 |.i64=>3
 |.u8=>4
 |.u16=>5
 |.u32=>6
 |.u64=>7
def HE(a b:IntKind):Bool:=cV (kN a) (kN b)
def Ty.FJ:Ty->Ty->Bool
 |.i' k,.i' k'=>HE k k'
 |.c',.c'=>true
 |.s',.s'=>true
 |.b',.b'=>true
 |.u',.u'=>true
 |.w' x,.w' a=>x.FJ a
 |.pr x y,.pr c b=>bif x.FJ c then y.FJ b else false
 |.sm x y,.sm c b=>bif x.FJ c then y.FJ b else false
 |.l' e h x,.l' d f a=>bif cV e d then bif cV h f then x.FJ a else false else false
 |.y',.y'=>true
 |.r' x,.r' a=>x.FJ a
 |.p' e x,.p' d a=>bif cV e d then x.FJ a else false
 |.z',.z'=>true
 |.o' j,.o' j'=>cV j j'
 |.f' k x,.f' k' a=>bif cV k k' then x.FJ a else false
 |_,_=>false
theorem iE{a b:Bool}(h:(bif a then b else false)=true):a=true/\b=true:=by cases a<;>cases b<;>simp_all
theorem mK{a b:IntKind}(h:HE a b=true):a=b:=by revert h;cases a<;>cases b<;>first|(intro _;rfl)|(intro h;exact absurd h aA3)
theorem Ty.kE:∀{a b:Ty},a.FJ b=true->a=b:=by
 intro a;induction a with
 |i' k=>intro b h;cases b with
  |i' k'=>rw [mK h]
  |_=>cases h
 |w' x c=>intro b h;cases b with
  |w' y=>rw [c h]
  |_=>cases h
 |pr x y c d=>intro b h;cases b with
  |pr i g=>have h:=iE h;rw [c h.1,d h.2]
  |_=>cases h
 |sm x y c d=>intro b h;cases b with
  |sm i g=>have h:=iE h;rw [c h.1,d h.2]
  |_=>cases h
 |l' e l x c=>intro b h;cases b with
  |l' e' b' y=>have h:=iE h;have f:=iE h.2;rw [c f.2,iL h.1,iL f.1]
  |_=>cases h
 |r' x c=>intro b h;cases b with
  |r' y=>rw [c h]
  |_=>cases h
 |p' e x c=>intro b h;cases b with
  |p' e' y=>have h:=iE h;rw [c h.2,iL h.1]
  |_=>cases h
 |o' j=>intro b h;cases b with
  |o' k=>rw [iL h]
  |_=>cases h
 |f' k x c=>intro b h;cases b with
  |f' k' y=>have h:=iE h;rw [c h.2,iL h.1]
  |_=>cases h
 |_=>intro b h;cases b<;>first|rfl|cases h
def EN{a b:Ty}(h:a.FJ b=true)(l:List a.T):List b.T:=(Ty.kE h)▸l
@[reducible] def gK:List Ty->Ty
 |[]=>.u'
 |[x]=>x
 |x::y::l=>.pr x (gK (y::l))
def Ty.flat:Ty->Bool
 |.i' _=>true
 |.c'=>true
 |.s'=>true
 |.b'=>true
 |.w' x=>x.flat
 |.pr x y=>bif x.flat then y.flat else false
 |_=>false
def Ty.sz:Ty->Nat
 |.w' x=>x.sz
 |.pr x y=>x.sz+y.sz
 |_=>1
def Ty.enc:(t:Ty)->t.T->List Value
 |.i' k,n=>[.int k n]
 |.c',x=>[bt x]
 |.s',x=>[str x]
 |.b',x=>[.bool x]
 |.w' t,x=>t.enc x
 |.pr a b,x=>a.enc x.1++b.enc x.2
 |_,_=>[]
def Ty.agg:Ty->Bool
 |.w' _=>true
 |.pr _ _=>true
 |_=>false
inductive SC where
 |i' (k:IntKind) (n:Int)
 |c' (x:UInt8)
 |s' (x:aC)
 |b' (x:Bool)
 |d' (p:Prop) (h:Decidable p)
 |e' (p:Prop) (h:Decidable p)
 |o' (j:Nat)
 |n'
 |p' (id off:Nat)
 |q' (id:Nat) (j:Int) (sz off:Nat)
 |l' (id:Nat)
 |k' (id n:Nat)
 |f' (k:Nat) (ids:List Nat)
 |z' (id fl:Nat)
 |u'
inductive SA where
 |c' (x:SC)
 |a' (l:List SC)
inductive SV where
 |c' (x:SC)
 |a' (l:List SC)
 |t' (l:List SA)
 |n'
 |u'
inductive Ob where
 |bl (e:Nat) (cs:List SC)
 |rw (e by_:Nat) (t:Ty) (l:List t.T)
 |ro (t:Ty) (l:List t.T)
 |br (n:Nat) (l:aC)
 |dd (n:Nat)
structure Ad where
 o:Option Nat
 a:Option Addr
 cap:Nat
 z:Bool
 ln:Nat
def Ad.b(d:Ad):Nat:=d.o.getD 0
def Ob.len:Ob->Nat
 |.rw _ _ _ l=>l.length
 |.ro _ l=>l.length
 |.br n _=>n
 |.dd n=>n
 |_=>0
def eX{a:Type}:List a->Nat->Option a
 |[],_=>none
 |x::l,k=>match k with
  |0=>some x
  |k+1=>eX l k
def fV(H:List Ob)(id:Nat):Nat:=match eX H id with
 |some o=>o.len
 |none=>0
def V9:Nat->Value
 |0=>.pointer none
 |1=>.nilFunc
 |_=>.nilIface
def iJ(b off:Nat):Value:=.pointer (some ⟨b,off,none⟩)
def SC.v(ρ:Nat->Ad):SC->Value
 |.i' k n=>.int k n
 |.c' x=>bt x
 |.s' x=>str x
 |.b' x=>.bool x
 |.d' p h=>.bool (@decide p h)
 |.e' p h=>.bool (!@decide p h)
 |.o' j=>V9 j
 |.n'=>.slice none 0 0
 |.p' id off=>iJ (ρ id).b off
 |.q' id j c off=>.pointer (some (ea (ρ id).a (j.toNat*c+off)))
 |.l' id=>.slice (ρ id).a (ρ id).ln (ρ id).cap
 |.k' id n=>.slice (some ⟨(ρ id).b,0,none⟩) n n
 |.f' k ids=>.func (.func k) #[] (ids.map fun id=>iJ (ρ id).b 0).toArray
 |.z' id d=>.pointer (bif (ρ d).z then some ⟨(ρ id).b,0,none⟩else none)
 |.u'=>.bool false
def SC.kn:SC->Bool
 |.u'=>false
 |_=>true
def knL:List SC->Bool
 |[]=>true
 |x::l=>bif x.kn then knL l else false
def SA.v(ρ:Nat->Ad):SA->Value
 |.c' x=>x.v ρ
 |.a' l=>.agg (l.map (SC.v ρ)).toArray
def SV.v(ρ:Nat->Ad):SV->Option Value
 |.c' x=>some (x.v ρ)
 |.a' l=>some (.agg (l.map (SC.v ρ)).toArray)
 |.t' l=>some (.tuple (l.map (SA.v ρ)).toArray)
 |.n'=>some undef
 |.u'=>none
def SA.sv:SA->SV
 |.c' x=>.c' x
 |.a' l=>.a' l
def SV.cells:SV->Option (List SC)
 |.c' x=>some [x]
 |.a' l=>some l
 |_=>none
def SV.sa:SV->Option SA
 |.c' x=>some (.c' x)
 |.a' l=>some (.a' l)
 |_=>none
def Ty.sv(t:Ty)(cs:List SC):SV:=bif t.agg then .a' cs else match cs with
 |[x]=>.c' x
 |_=>.u'
def Ty.sa(t:Ty)(cs:List SC):SA:=bif t.agg then .a' cs else match cs with
 |[x]=>.c' x
 |_=>.a' cs
def kU:List SC->List Nat
 |[]=>[]
 |x::l=>match x with
  |.p' id _=>id::kU l
  |_=>kU l
def Ty.no:Ty->Nat
 |.w' x=>x.no
 |.pr x y=>x.no+y.no
 |.l' _ _ _=>1
 |.y'=>1
 |.r' _=>1
 |.p' _ x=>x.no+1
 |.z'=>1
 |.f' _ x=>x.no
 |_=>0
def Ty.lay:(t:Ty)->(self n:Nat)->t.T->List SC×List Ob
 |.i' k,_,_,x=>([.i' k x],[])
 |.c',_,_,x=>([.c' x],[])
 |.s',_,_,x=>([.s' x],[])
 |.b',_,_,x=>([.b' x],[])
 |.u',_,_,_=>([],[])
 |.w' t,s,n,x=>t.lay s n x
 |.pr a b,s,n,x=>((a.lay s n x.1).1++(b.lay s (n+a.no) x.2).1,(a.lay s n x.1).2++(b.lay s (n+a.no) x.2).2)
 |.sm _ _,_,_,_=>([],[])
 |.l' e b t,_,n,x=>([.l' n],[.rw e b t x])
 |.y',_,n,x=>([.l' n],[.br x.length x])
 |.r' t,_,n,x=>([.l' n],[.ro t x])
 |.p' e t,_,n,x=>([.p' n 0],.bl e (t.lay n (n+1) x).1::(t.lay n (n+1) x).2)
 |.z',s,n,_=>([.z' s n],[.dd 0])
 |.o' j,_,_,_=>([.o' j],[])
 |.f' k t,s,n,x=>([.f' k (kU (t.lay s n x).1)],(t.lay s n x).2)
inductive Src where
 |o' (id:Nat) (w:Bool)
 |n'
 |k' (id m:Nat) (w:Bool)
 |z' (t:Bool)
def Src.own:Src->List Nat
 |.o' id w=>bif w then [id]else []
 |.k' id _ w=>bif w then [id]else []
 |_=>[]
def Src.vj:Src->List Nat
 |.o' id w=>bif w then []else [id]
 |.k' id _ w=>bif w then []else [id]
 |_=>[]
variable {a:Type}
def qs(f:SC->Option a):List SC->Option (a×List SC×List Src)
 |[]=>none
 |x::l=>match f x with
  |some y=>some (y,l,[])
  |none=>none
def SC.rI(k:IntKind):SC->Option Int
 |.i' a n=>bif HE k a then some n else none
 |_=>none
def SC.rC:SC->Option UInt8
 |.c' x=>some x
 |_=>none
def SC.rS:SC->Option aC
 |.s' x=>some x
 |_=>none
def SC.rB:SC->Option Bool
 |.b' x=>some x
 |.d' p h=>some (@decide p h)
 |.e' p h=>some (!@decide p h)
 |_=>none
def Ty.AK:(t:Ty)->List SC->Option (t.T×List SC)
 |.i' k,l=>match l with
  |x::l=>match x.rI k with
   |some y=>some (y,l)
   |none=>none
  |[]=>none
 |.c',l=>match l with
  |x::l=>match x.rC with
   |some y=>some (y,l)
   |none=>none
  |[]=>none
 |.s',l=>match l with
  |x::l=>match x.rS with
   |some y=>some (y,l)
   |none=>none
  |[]=>none
 |.b',l=>match l with
  |x::l=>match x.rB with
   |some y=>some (y,l)
   |none=>none
  |[]=>none
 |.w' t,l=>t.AK l
 |.pr a b,l=>match a.AK l with
  |some (x,d)=>match b.AK d with
   |some (y,c)=>some ((x,y),c)
   |none=>none
  |none=>none
 |_,_=>none
def pU(t:Ty):Nat->List SC->Option (List t.T)
 |0,l=>match l with
  |[]=>some []
  |_=>none
 |m+1,l=>match t.AK l with
  |some (x,a)=>match pU t m a with
   |some q=>some (x::q)
   |none=>none
  |none=>none
def rowOf(t:Ty)(o:Option Ob):Option (List t.T):=match o with
 |some (.rw _ _ t' l)=>if h:t'.FJ t=true then some (EN h l)else none
 |_=>none
def strOf(t:Ty)(l:aC):Option (List t.T):=if h:Ty.c'.FJ t=true then some (EN h l)else none
def vJ(t:Ty)(o:Option Ob):Option (List t.T):=match o with
 |some (.rw _ _ t' l)=>if h:t'.FJ t=true then some (EN h l)else none
 |some (.ro t' l)=>if h:t'.FJ t=true then some (EN h l)else none
 |some (.br _ l)=>strOf t l
 |_=>none
def WX(t:Ty)(o:Option Ob):Option (List t.T):=match o with
 |some (.ro t' l)=>if h:t'.FJ t=true then some (EN h l)else none
 |_=>none
def rwE:Option Ob->Option (Nat×Nat)
 |some (.rw e b _ _)=>some (e,b)
 |_=>none
def Ty.tz:Ty->Bool
 |.w' x=>x.tz
 |.pr x y=>bif x.tz then true else y.tz
 |.z'=>true
 |.f' _ x=>x.tz
 |_=>false
def Ty.XR:Ty->Bool
 |.u'=>true
 |.p' _ _=>true
 |.pr x y=>bif x.XR then y.XR else false
 |_=>false
def Ty.rd(any:Bool)(H:List Ob):(t:Ty)->(self:Nat)->List SC->Option (t.T×List SC×List Src)
 |.i' k,_,l=>qs (SC.rI k) l
 |.c',_,l=>qs SC.rC l
 |.s',_,l=>qs SC.rS l
 |.b',_,l=>qs SC.rB l
 |.u',_,l=>some ((),l,[])
 |.w' t,s,l=>t.rd any H s l
 |.pr a b,s,l=>match a.rd any H s l with
  |some (x,n,h)=>match b.rd any H s n with
   |some (y,i,g)=>some ((x,y),i,h++g)
   |none=>none
  |none=>none
 |.sm _ _,_,_=>none
 |.l' e b t,_,l=>match l with
  |.n'::l=>some ([],l,[.n'])
  |.l' id::l=>match rwE (eX H id)with
   |some q=>bif cV q.1 e then(bif cV q.2 b then(match rowOf t (eX H id)with
    |some x=>some (x,l,[.o' id true])
    |none=>none)else none)else none
   |none=>none
  |.k' id m::l=>match eX H id with
   |some (.bl e' cs)=>bif cV e' e then(bif t.flat then(bif Nat.ble m 1048576 then(match pU t m cs with
    |some x=>some (x,l,[.k' id m true])
    |none=>none)else none)else none)else none
   |_=>none
  |_=>none
 |.y',_,l=>match l with
  |.l' id::l=>match eX H id with
   |some (.br _ x)=>some (x,l,[.o' id true])
   |_=>none
  |_=>none
 |.r' t,_,l=>match l with
  |.n'::l=>some ([],l,[.n'])
  |.l' id::l=>match(bif any then vJ t (eX H id)else WX t (eX H id))with
   |some x=>some (x,l,[.o' id false])
   |none=>none
  |.k' id m::l=>match(bif any then eX H id else none)with
   |some (.bl _ cs)=>match pU t m cs with
    |some x=>some (x,l,[.k' id m false])
    |none=>none
   |_=>none
  |_=>none
 |.p' e t,_,l=>match l with
  |.p' id off::l=>match eX H id with
   |some (.bl e' cs)=>bif cV off 0 then(bif cV e' e then(match t.rd any H id cs with
    |some (x,[],c)=>some (x,l,.o' id true::c)
    |_=>none)else none)else none
   |_=>none
  |_=>none
 |.z',s,l=>match l with
  |.o' j::l=>bif cV j 0 then some ((),l,[.z' false])else none
  |.p' id off::l=>bif cV off 0 then(bif cV id s then some ((),l,[.z' true])else none)else none
  |.z' id f::l=>bif cV id s then(match eX H f with
   |some (.dd 0)=>some ((),l,[.o' f false])
   |_=>none)else none
  |_=>none
 |.o' j,_,l=>match l with
  |.o' j'::l=>bif cV j j' then some ((),l,[])else none
  |_=>none
 |.f' k t,s,l=>match l with
  |.f' k' d::l=>bif cV k k' then(match(bif t.XR then t.rd any H s (d.map fun id=>.p' id 0)else none)with
   |some (x,[],c)=>some (x,l,c)
   |_=>none)else none
  |_=>none
def Ty.cn:Ty->Nat
 |.u'=>0
 |.w' x=>x.cn
 |.pr x y=>x.cn+y.cn
 |.sm _ _=>0
 |_=>1
def zD{a:Type}:List a->Nat->List a
 |[],_=>[]
 |x::l,k=>match k with
  |0=>x::l
  |k+1=>zD l k
def yZ{a:Type}:List a->Nat->Option (List a)
 |_,0=>some []
 |[],_+1=>none
 |x::l,k+1=>match yZ l k with
  |some q=>some (x::q)
  |none=>none
def iS{a:Type}:List a->Nat->a->List a
 |[],_,_=>[]
 |x::l,k,y=>match k with
  |0=>y::l
  |k+1=>x::iS l k y
def uJ:List SC->Nat->List SC->Option (List SC)
 |l,0,[]=>some l
 |_::l,0,v::a=>match uJ l 0 a with
  |some q=>some (v::q)
  |none=>none
 |x::l,k+1,a=>match uJ l k a with
  |some q=>some (x::q)
  |none=>none
 |[],_,_=>none
def Vh(l:List SC)(k:Nat)(vs:List SC):List SC:=match uJ l k vs with
 |some q=>q
 |none=>l
inductive Key where
 |s' (t:Nat) (x:Ty)
 |o' (t off:Nat) (x:Ty)
 |w' (t:Nat) (x:Ty)
def Key.ty:Key->Ty
 |.s' _ x=>x
 |.o' _ _ x=>x
 |.w' _ x=>x
abbrev nN(l:List Key):Ty:=gK (l.map Key.ty)
def fp(H:List Ob)(id:Nat):(x:Ty)->Option x.T
 |.l' e b t=>match rwE (eX H id)with
  |some q=>bif cV q.1 e then(bif cV q.2 b then rowOf t (eX H id)else none)else none
  |none=>none
 |.y'=>match eX H id with
  |some (.br _ x)=>some x
  |_=>none
 |_=>none
def Pp:Option (a×List SC×List Src)->Option (a×List Src)
 |some (x,[],b)=>some (x,b)
 |_=>none
def OY(any:Bool)(H:List Ob)(x:Ty):SV->Option (x.T×List Src)
 |.c' c=>bif x.tz then none else(bif x.agg then none else Pp (x.rd any H 0 [c]))
 |.a' l=>bif x.tz then none else(bif x.agg then Pp (x.rd any H 0 l)else none)
 |_=>none
def rdB(H:List Ob)(id off:Nat)(x:Ty):Option (x.T×List Src):=match eX H id with
 |some (.bl _ cs)=>match yZ (zD cs off) x.cn with
  |some q=>Pp (x.rd false H id q)
  |none=>none
 |_=>none
def rdW(H:List Ob)(id:Nat)(x:Ty):Option (x.T×List Src):=match fp H id x with
 |some y=>some (y,[])
 |none=>none
def Key.rd(a:Nat->Nat)(F:Nat->SV)(H:List Ob):(k:Key)->Option (k.ty.T×List Src)
 |.s' t x=>OY false H x (F t)
 |.o' t off x=>rdB H (a t) off x
 |.w' t x=>rdW H (a t) x
def rdK(a:Nat->Nat)(F:Nat->SV)(H:List Ob):(l:List Key)->Option ((nN l).T×List Src)
 |[]=>some ((),[])
 |[k]=>k.rd a F H
 |k::d::l=>match k.rd a F H with
  |some (x,c)=>match rdK a F H (d::l)with
   |some (y,b)=>some ((x,y),c++b)
   |none=>none
  |none=>none
def P8(n:Nat):(x:Ty)->x.T->Option Ob
 |.l' e b t,v=>some (.rw e b t v)
 |.y',v=>some (.br n v)
 |_,_=>none
abbrev Fr:=Tr SV×List Ob
def oc(F:Tr SV)(H:List Ob)(t:Nat)(x:Ty)(v:x.T):Fr:=(F.set t (x.sv (x.lay 0 H.length v).1),H++(x.lay 0 H.length v).2)
def XO(H:List Ob)(id off:Nat)(x:Ty)(v:x.T):List Ob:=match eX H id with
 |some (.bl e cs)=>iS H id (.bl e (Vh cs off (x.lay id H.length v).1))++(x.lay id H.length v).2
 |_=>H++(x.lay id H.length v).2
def qF(H:List Ob)(id:Nat)(x:Ty)(v:x.T):List Ob:=match P8 (fV H id) x v with
 |some o=>iS H id o
 |none=>H
def Key.put(a:Nat->Nat)(S:Fr):(k:Key)->k.ty.T->Fr
 |.s' t x,v=>oc S.1 S.2 t x v
 |.o' t off x,v=>(S.1,XO S.2 (a t) off x v)
 |.w' t x,v=>(S.1,qF S.2 (a t) x v)
def Fv(a:Nat->Nat)(S:Fr):(l:List Key)->(nN l).T->Fr
 |[],_=>S
 |[k],v=>k.put a S v
 |k::b::l,v=>Fv a (k.put a S v.1) (b::l) v.2
inductive Rk where
 |r' (x:Ty)
 |o' (id e:Nat) (x:Ty)
 |w' (id:Nat) (x:Ty)
def Rk.ty:Rk->Ty
 |.r' x=>x
 |.o' _ _ x=>x
 |.w' _ x=>x
abbrev gG(l:List Rk):Ty:=gK (l.map Rk.ty)
def rdO(H:List Ob)(id e:Nat)(x:Ty):Option (x.T×List Src):=match eX H id with
 |some (.bl a cs)=>bif cV a e then Pp (x.rd false H id cs)else none
 |_=>none
def Rk.rd(H:List Ob):(k:Rk)->List SV->Option (k.ty.T×List Src×List SV)
 |.r' x,a=>match a with
  |v::a=>match OY false H x v with
   |some (x,b)=>some (x,b,a)
   |none=>none
  |[]=>none
 |.o' id e x,a=>match rdO H id e x with
  |some (x,b)=>some (x,b,a)
  |none=>none
 |.w' id x,a=>match rdW H id x with
  |some (x,b)=>some (x,b,a)
  |none=>none
def rdR(H:List Ob):(l:List Rk)->List SV->Option ((gG l).T×List Src)
 |[],a=>match a with
  |[]=>some ((),[])
  |_=>none
 |[k],a=>match k.rd H a with
  |some (x,b,[])=>some (x,b)
  |_=>none
 |k::e::l,a=>match k.rd H a with
  |some (x,d,a)=>match rdR H (e::l) a with
   |some (y,c)=>some ((x,y),d++c)
   |none=>none
  |none=>none
def putO(H:List Ob)(id e:Nat)(x:Ty)(v:x.T):List Ob:=iS H id (.bl e (x.lay id H.length v).1)++(x.lay id H.length v).2
def Rk.put(a:Nat->Nat)(S:List SA×List Ob):(k:Rk)->k.ty.T->List SA×List Ob
 |.r' x,v=>(S.1++[x.sa (x.lay 0 S.2.length v).1],S.2++(x.lay 0 S.2.length v).2)
 |.o' id e x,v=>(S.1,putO S.2 (a id) e x v)
 |.w' id x,v=>(S.1,qF S.2 (a id) x v)
def fK(a:Nat->Nat)(S:List SA×List Ob):(l:List Rk)->(gG l).T->List SA×List Ob
 |[],_=>S
 |[k],v=>k.put a S v
 |k::b::l,v=>fK a (k.put a S v.1) (b::l) v.2
def mW:List SA->SV
 |[x]=>x.sv
 |l=>.t' l
def KS(H:List Ob):(l:List Ty)->List SV->Option ((gK l).T×List Src)
 |[],c=>match c with
  |[]=>some ((),[])
  |_=>none
 |[x],c=>match c with
  |[v]=>OY true H x v
  |_=>none
 |x::y::l,c=>match c with
  |v::c=>match OY true H x v with
   |some (a,e)=>match KS H (y::l) c with
    |some (b,d)=>some ((a,b),e++d)
    |none=>none
   |none=>none
  |[]=>none
def jE(H:List Ob):(l:List Ty)->(gK l).T->List SV×List Ob
 |[],_=>([],H)
 |[x],v=>([x.sv (x.lay 0 H.length v).1],H++(x.lay 0 H.length v).2)
 |x::y::l,v=>(x.sv (x.lay 0 H.length v.1).1::(jE (H++(x.lay 0 H.length v.1).2) (y::l) v.2).1,(jE (H++(x.lay 0 H.length v.1).2) (y::l) v.2).2)
structure PD where
 p:Prop
 h:Decidable p
inductive Gv (α:Type) where
 |one (x:Option α)
 |gs (l:List PD) (x:α)
structure Gt where
 a:List Ty
 r:List Rk
 f:(gK a).T->Gv (gG r).T
def gdL{ρ:Type}(l:List PD)(x:Option ρ):Option ρ:=match l with
 |[]=>x
 |⟨p,h⟩::l=> @gd ρ p h (gdL l x)
def Gv.bd{ρ:Type}(g:Gv a)(k:a->Option ρ):Option ρ:=match g with
 |.one x=>x.bind k
 |.gs l x=>gdL l (k x)
structure Cx where
 P:Program
 X:Nat->List Gt
 E:Nat->Option (Nat×Nat×Ty)
 G:Nat->Option Nat
 nn:Nat
 fu:Nat
structure St where
 F:Tr SV
 H:List Ob
 nb:Nat
 al:List (Nat×Nat×Nat)
 m:List (Nat×Nat×Nat)
def St.at(S:St)(t:Nat):SV:=match S.F.get t with
 |some v=>v
 |none=>.u'
def St.set(S:St)(d:Nat)(v:SV):St:=⟨S.F.set d v,S.H,S.nb,S.al,S.m⟩
def St.uI(S:St)(d:Option Nat)(v:SV):St:=match d with
 |some d=>S.set d v
 |none=>S
def cvC:Value->Option SC
 |.bool b=>some (.b' b)
 |.int k n=>bif HE k .u8 then(if 0<=n/\n<256 then some (.c' (Fo n.toNat))else none)else some (.i' k n)
 |.string s=>some (.s' s.data.toList)
 |.slice none 0 0=>some .n'
 |.pointer none=>some (.o' 0)
 |.nilFunc=>some (.o' 1)
 |.nilIface=>some (.o' 2)
 |_=>none
def cvL:List Value->Option (List SC)
 |[]=>some []
 |v::l=>match cvC v with
  |some x=>match cvL l with
   |some q=>some (x::q)
   |none=>none
  |none=>none
def cv:Value->SV
 |.agg cs=>match cvL cs.toList with
  |some l=>.a' l
  |none=>.u'
 |v=>match cvC v with
  |some x=>.c' x
  |none=>.u'
section
variable (C : Cx)
def St.ev(S:St):Operand->SV
 |.tmp t=>bif fZ t C.nn then S.at t else .u'
 |.const v=>cv v
 |.global g=>match C.G g with
  |some id=>.c' (.q' id 0 0 0)
  |none=>.u'
 |.func k=>.c' (.f' k [])
end
structure Ro where
 g:List PD
 v:SV
 H:List Ob
 m:List (Nat×Nat×Nat)
abbrev Rv:=Option (List PD×SV)
def iQ(x:SC):Rv:=some ([],.c' x)
def Po(p:Prop)[h:Decidable p](x:SC):Rv:=some ([⟨p,h⟩],.c' x)
def i64(k:IntKind):Bool:=HE k .i64
def bI(b:BinOp)(k:IntKind)(u v:Int):Rv:=
 match b with
 |.lss=>iQ (.d' (u<v) inferInstance)
 |.leq=>iQ (.d' (u<=v) inferInstance)
 |.gtr=>iQ (.d' (v<u) inferInstance)
 |.geq=>iQ (.d' (v<=u) inferInstance)
 |.eql=>iQ (.d' (u=v) inferInstance)
 |.neq=>iQ (.e' (u=v) inferInstance)
 |.add=>bif i64 k then Po (bZ (u+v)) (.i' k (u+v))else iQ (.i' k (k.wrap (u+v)))
 |.sub=>bif i64 k then Po (bZ (u-v)) (.i' k (u-v))else iQ (.i' k (k.wrap (u-v)))
 |.mul=>bif i64 k then Po (bZ (u*v)) (.i' k (u*v))else iQ (.i' k (k.wrap (u*v)))
 |.quo=>bif i64 k then Po (0<=u/\0<v/\bZ u) (.i' k (u/v))else none
 |.rem=>bif i64 k then Po (0<=u/\0<v/\bZ u) (.i' k (u%v))else none
 |.and=>iQ (.i' k (ui k u v))
 |.or=>iQ (.i' k (orI k u v))
 |_=>none
def bC(b:BinOp)(u v:UInt8):Rv:=
 match b with
 |.lss=>iQ (.d' (u<v) inferInstance)
 |.leq=>iQ (.d' (u<=v) inferInstance)
 |.gtr=>iQ (.d' (v<u) inferInstance)
 |.geq=>iQ (.d' (v<=u) inferInstance)
 |.eql=>iQ (.d' (u=v) inferInstance)
 |.neq=>iQ (.e' (u=v) inferInstance)
 |.add=>iQ (.c' (u+v))
 |.sub=>iQ (.c' (u-v))
 |.mul=>iQ (.c' (u*v))
 |.quo=>Po (v≠0) (.c' (u/v))
 |.rem=>Po (v≠0) (.c' (u%v))
 |.and=>iQ (.c' (u&&&v))
 |.or=>iQ (.c' (u|||v))
 |_=>none
def bS(b:BinOp)(u v:aC):Rv:=
 match b with
 |.eql=>iQ (.d' (u=v) inferInstance)
 |.neq=>iQ (.e' (u=v) inferInstance)
 |.lss=>iQ (.b' (uH u v))
 |.gtr=>iQ (.b' (!(uH u v||u==v)))
 |.add=>Po (u.length+v.length<=9223372036854775807) (.s' (u++v))
 |_=>none
def bB(b:BinOp)(u v:Bool):Rv:=match b with
 |.eql=>iQ (.b' (u==v))
 |.neq=>iQ (.b' (!(u==v)))
 |_=>none
def sh8(z:Bool)(b:BinOp)(u:UInt8)(v:Int):Rv:=
 match b with
 |.shl=>bif z then iQ (.c' (GI u v))else Po (0<=v) (.c' (GI u v))
 |.shr=>bif z then iQ (.c' (Ut u v))else Po (0<=v) (.c' (Ut u v))
 |_=>none
def NJ:SC->Option Int
 |.i' _ n=>some n
 |.c' x=>some (x.toNat:Int)
 |_=>none
def shI(k:IntKind)(u v:Int):Rv:=match v with
 |.ofNat n=>iQ (.i' k (u/((2^(min n k.bits):Nat):Int)))
 |_=>none
def gr:BinOp->Bool
 |.shr=>true
 |_=>false
def zn(k:IntKind)(u v:Int):Rv:=match v with
 |.ofNat n=>iQ (.i' k (IntKind.wrap k (u*((2^(min n k.bits):Nat):Int))))
 |_=>none
def gu:BinOp->Bool
 |.shl=>true
 |_=>false
def bin(z:Bool)(b:BinOp)(x y:SC):Rv:=
 match x,y with
 |.i' k u,.i' a v=>bif gr b then shI k u v else bif gu b then zn k u v else bif HE k a then bI b k u v else none
 |.c' u,.c' v=>bC b u v
 |.c' u,.i' _ v=>sh8 z b u v
 |.s' u,.s' v=>bS b u v
 |_,_=>none
def oz:SC->Rv
 |.b' x=>iQ (.b' (!x))
 |.d' p h=>iQ (.e' p h)
 |.e' p h=>iQ (.d' p h)
 |_=>none
def ixC(x a:SC):Rv:=
 match x with
 |.s' l=>match NJ a with
  |some i=>Po (0<=i/\i<(l.length:Int)) (.c' (at_ l i))
  |none=>none
 |_=>none
def HZ(x:SC)(c d:Option SC):Rv:=
 match x with
 |.s' l=>match c,d with
  |some a,some b=>match NJ a,NJ b with
   |some i,some j=>Po (0<=i/\i<=j/\j<=(l.length:Int)) (.s' (sub l i j))
   |_,_=>none
  |some a,none=>match NJ a with
   |some i=>Po (0<=i/\i<=(l.length:Int)) (.s' (bN (aZ i) l))
   |none=>none
  |none,some b=>match NJ b with
   |some j=>Po (0<=j/\j<=(l.length:Int)) (.s' (nZ (aZ j) l))
   |none=>none
  |none,none=>none
 |_=>none
section
variable (C : Cx)
def kindOf(t:Nat):Option IntKind:=match C.P.underlying t with
 |some (.int k)=>some k
 |_=>none
def vI(t:Nat):Bool:=match C.P.underlying t with
 |some .string=>true
 |_=>false
def OS(t:Nat):Option Nat:=match C.P.underlying t with
 |some (.slice e)=>some e
 |_=>none
def wg(t:Nat):Option (Nat×Nat):=match C.P.underlying t with
 |some (.array n e)=>some (n,e)
 |_=>none
def Qn(t:Nat):Option Nat:=Uk C.P (sizeOf t)
def R2(t:Nat):Option Bool:=Uk C.P (isAgg t)
def HF(e:Nat):Bool:=match C.P.underlying e with
 |some (.int k)=>HE k .u8
 |_=>false
def isK(e:Nat)(k:IntKind):Bool:=match kindOf C e with
 |some a=>HE a k
 |none=>false
def G3(s t:Nat)(x:SC):Rv:=
 match x with
 |.c' u=>bif HF C s then(match kindOf C t with
  |some .u8=>iQ (.c' u)
  |some .i64=>iQ (.i' .i64 (u.toNat:Int))
  |some .i32=>iQ (.i' .i32 (u.toNat:Int))
  |_=>none)else none
 |.i' k n=>bif isK C s k then(match kindOf C t with
  |some .u8=>iQ (.c' (fq n))
  |some k'=>bif HE k k' then(bif i64 k then Po (bZ n) (.i' k n)else Po (IntKind.wrap k' n=n) (.i' k n))else iQ (.i' k' (k'.wrap n))
  |none=>bif vI C t then iQ (.s' (Utf8.encode n).data.toList)else none)else none
 |.s' l=>bif vI C s then(bif vI C t then iQ (.s' l)else none)else none
 |_=>none
def zC(t:Nat):Option (List SC):=match Uk C.P (zeroValue t)with
 |some v=>cvL v.cells.toList
 |none=>none
def Su(t f:Nat):Option (Nat×Nat×Bool):=match C.P.underlying t with
 |some (.struct c)=>match eX c.toList f with
  |some b=>match Qn C b.type,R2 C b.type with
   |some n,some a=>some (b.offset,n,a)
   |_,_=>none
  |none=>none
 |_=>none
def rN(l:List SC)(off n:Nat)(a:Bool):Option SV:=
 bif a then(match yZ (zD l off) n with
  |some q=>bif knL q then some (.a' q)else none
  |none=>none)else match eX l off with
  |some x=>bif x.kn then some (.c' x)else none
  |none=>none
def Ju(H:List Ob)(r:Rv):Option Ro:=match r with
 |some (g,v)=>some ⟨g,v,H,[]⟩
 |none=>none
def mI(H:List Ob)(v:Option SV):Option Ro:=match v with
 |some v=>some ⟨[],v,H,[]⟩
 |none=>none
variable {a:Type}
def fU(x:SV)(f:SC->Option a):Option a:=match x with
 |.c' x=>f x
 |_=>none
def wH(c:Operand->SV)(x:Option Operand)(f:Option SC->Option a):Option a:=match x with
 |none=>f none
 |some o=>fU (c o) fun b=>f (some b)
end
@[reducible] def Ty.y6:(t:Ty)->Inhabited t.T
 |.i' _=>⟨(0:Int)⟩
 |.c'=>⟨(0:UInt8)⟩
 |.s'=>⟨([]:aC)⟩
 |.b'=>⟨false⟩
 |.u'=>⟨()⟩
 |.w' x=>x.y6
 |.pr x y=>⟨(x.y6.default,y.y6.default)⟩
 |.sm x _=>⟨.inl x.y6.default⟩
 |.l' _ _ x=>⟨([]:List x.T)⟩
 |.y'=>⟨([]:aC)⟩
 |.r' x=>⟨([]:List x.T)⟩
 |.p' _ x=>x.y6
 |.z'=>⟨()⟩
 |.o' _=>⟨()⟩
 |.f' _ x=>x.y6
def TB:(t:Ty)->List t.T->Int->t.T
 |.c',l,j=>at_ l j
 |t,l,j=> @el t.T t.y6 l j
def jg(t:Ty)(l:List t.T)(j:Int):List SC:=(t.lay 0 0 (TB t l j)).1
section
variable (C : Cx)
def vF(H:List Ob)(t:Ty)(x:SC):Option (List t.T):=match x with
 |.n'=>some []
 |.l' id=>vJ t (eX H id)
 |.k' id m=>match eX H id with
  |some (.bl _ cs)=>pU t m cs
  |_=>none
 |_=>none
def Zi(sz:Nat)(j:Int)(t:Ty):Bool:=bif cV sz t.sz then true else match j with
 |.ofNat 0=>true
 |_=>false
def rK(H:List Ob)(t:Ty)(l:List t.T)(j:Int)(sz off n:Nat)(a:Bool):Option Ro:=
 match rN (jg t l j) off n a with
 |some v=>bif (bif Zi sz j t then t.flat else false)then some ⟨[⟨0<=j/\j<(l.length:Int),inferInstance⟩],v,H,[]⟩else none
 |none=>none
def RZ(t:Ty):List t.T->List SC
 |[]=>[]
 |x::l=>(t.lay 0 0 x).1++RZ t l
def Br(H:List Ob)(t:Ty)(l:List t.T)(j:Int)(off n:Nat)(a:Bool):Option Ro:=match j with
 |.ofNat 0=>bif t.flat then mI H (rN (RZ t l) off n a)else none
 |_=>none
def lC(H:List Ob)(t:Nat)(x:SC):Option Ro:=match Qn C t,R2 C t with
 |some n,some a=>bif cV n 0 then none else match x with
  |.p' id off=>match eX H id with
   |some (.bl _ cs)=>mI H (rN cs off n a)
   |_=>none
  |.q' id j b off=>match eX H id with
   |some (.rw _ _ t' l)=>rK H t' l j b off n a
   |some (.ro t' l)=>(match rK H t' l j b off n a with
    |some r=>some r
    |none=>Br H t' l j off n a)
   |some (.br _ l)=>rK H .c' l j b off n a
   |_=>none
  |_=>none
 |_,_=>none
def mu(t:Ty)(l:List t.T)(j:Int)(off:Nat)(vs:List SC):Option (List t.T):=match uJ (jg t l j) off vs with
 |some cs=>match t.AK cs with
  |some (x,[])=>some (jV l (aZ j) x)
  |_=>none
 |none=>none
def zi(H:List Ob)(id:Nat)(j:Int)(len:Nat)(o:Ob):Option Ro:=some ⟨[⟨0<=j/\j<(len:Int),inferInstance⟩],.u',iS H id o,[(id,0,1)]⟩
def yQ(H:List Ob)(t:Nat)(x:SC)(v:SV):Option Ro:=match Qn C t,v.cells with
 |some n,some a=>bif cV a.length n then(match x with
  |.p' id off=>match eX H id with
   |some (.bl e cs)=>match uJ cs off a with
    |some d=>some ⟨[],.u',iS H id (.bl e d),[(id,off,off+n)]⟩
    |none=>none
   |_=>none
  |.q' id j f off=>bif cV n 0 then none else match eX H id with
   |some (.rw e b t' l)=>match mu t' l j off a with
    |some l'=>bif (bif Zi f j t' then t'.flat else false)then zi H id j l.length (.rw e b t' l')else none
    |none=>none
   |some (.br m l)=>match v with
    |.c' y=>match y.rC with
     |some c=>bif (bif Zi f j .c' then cV off 0 else false)then zi H id j l.length (.br m (jV l (aZ j) c))else none
     |none=>none
    |_=>none
   |_=>none
  |_=>none)else none
 |_,_=>none
def awn(t f:Nat)(x:SC):Option SV:=match Su C t f with
 |some q=>bif cV q.2.1 0 then none else match x with
  |.p' id off=>some (.c' (.p' id (off+q.1)))
  |.q' id j a off=>some (.c' (.q' id j a (off+q.1)))
  |_=>none
 |none=>none
def QC(H:List Ob)(id:Nat):Option Nat:=match eX H id with
 |some (.rw _ _ t l)=>bif t.flat then some l.length else none
 |some (.ro t l)=>bif t.flat then some l.length else none
 |some (.br _ l)=>some l.length
 |_=>none
def jv(H:List Ob)(t:Nat)(x d:SC):Option Ro:=match NJ d with
 |some j=>match OS C t with
  |some e=>match Qn C e with
   |some a=>match x with
    |.l' id=>match QC H id with
     |some m=>some ⟨[⟨0<=j/\j<(m:Int),inferInstance⟩],.c' (.q' id j a 0),H,[]⟩
     |none=>none
    |.k' id m=>some ⟨[⟨0<=j/\j<(m:Int),inferInstance⟩],.c' (.p' id (j.toNat*a)),H,[]⟩
    |_=>none
   |none=>none
  |none=>match wg C t with
   |some q=>match Qn C q.2 with
    |some a=>match x with
     |.p' id off=>bif Nat.ble 2 q.1 then some ⟨[⟨0<=j/\j<(q.1:Int),inferInstance⟩],.c' (.p' id (off+j.toNat*a)),H,[]⟩else none
     |.q' id f c b=>bif Nat.ble 2 q.1 then(bif cV c 0 then(bif cV b 0 then some ⟨[⟨0<=j/\j<(q.1:Int),inferInstance⟩],.c' (.q' id j a 0),H,[]⟩else none)else none)else none
     |_=>none
    |none=>none
   |none=>none
 |none=>none
def Xc(H:List Ob)(s t:Nat)(x:SC):Option Ro:=match OS C s with
 |some e=>bif vI C t then(bif HF C e then(match vF H .c' x with
  |some l=>some ⟨[],.c' (.s' l),H,[]⟩
  |none=>none)else none)else none
 |none=>match x with
  |.s' l=>match OS C t with
   |some e=>bif vI C s then(bif HF C e then some ⟨[],.c' (.l' H.length),H++[.br l.length l],[]⟩else none)else none
   |none=>Ju H (G3 C s t x)
  |_=>Ju H (G3 C s t x)
def We(H:List Ob)(t:Nat)(x:SC):Rv:=match x with
 |.s' l=>bif vI C t then iQ (.i' .i64 (l.length:Int))else none
 |x=>match OS C t with
  |some _=>(match x with
   |.l' id=>(match eX H id with
    |some o=>iQ (.i' .i64 (o.len:Int))
    |none=>none)
   |.k' _ m=>iQ (.i' .i64 (m:Int))
   |.n'=>iQ (.i' .i64 (0:Int))
   |_=>none)
  |none=>none
def mmC(b:Builtin)(x y:SC):Rv:=match b,x,y with
 |.min,.i' k u,.i' k' v=>bif HE k k' then iQ (.i' k (min u v))else none
 |.max,.i' k u,.i' k' v=>bif HE k k' then iQ (.i' k (max u v))else none
 |_,_,_=>none
def blL:Option Ob->Nat
 |some (.bl _ cs)=>oA cs.length
 |_=>1
def rP(H:List Ob)(t:Nat)(x y:SC):Option Ro:=match C.E t with
 |some (e,b,τ)=>match x with
  |.n'=>match vF H τ y with
   |some a=>some ⟨[⟨(([]:List τ.T).length+a.length)*b<=140737488355328,inferInstance⟩],.c' (.l' H.length),H++[.rw e b τ ([]++a)],[]⟩
   |none=>none
  |.l' id=>match fp H id (.l' e b τ),vF H τ y with
   |some l,some a=>some ⟨[⟨(l.length+a.length)*b<=140737488355328,inferInstance⟩],.c' (.l' H.length),iS H id (.dd l.length)++[.rw e b τ (l++a)],[(id,0,1)]⟩
   |_,_=>none
  |.k' id m=>match Ty.rd false H (.l' e b τ) 0 [.k' id m],vF H τ y with
   |some (l,_,_),some a=>some ⟨[⟨(l.length+a.length)*b<=140737488355328,inferInstance⟩],.c' (.l' H.length),iS H id (.dd 0)++[.rw e b τ (l++a)],[(id,0,blL (eX H id))]⟩
   |_,_=>none
  |_=>none
 |none=>none
def zU8(e:Nat):Bool:=match C.P.info? e with
 |some i=>(match i.zero with
  |some (.int .u8 (.ofNat 0))=>true
  |_=>false)
 |none=>false
def Rf(H:List Ob)(t s:Nat)(x:SC)(a:aC):Option Ro:=bif vI C s then(match C.E t with
 |some (e,b,.c')=>bif cV b 1 then(bif zU8 C e then(match x with
  |.n'=>some ⟨[⟨(([]:aC).length+a.length)*1<=140737488355328,inferInstance⟩],.c' (.l' H.length),H++[.rw e 1 .c' ([]++a)],[]⟩
  |.l' id=>(match fp H id (.l' e 1 .c')with
   |some l=>some ⟨[⟨(l.length+a.length)*1<=140737488355328,inferInstance⟩],.c' (.l' H.length),iS H id (.dd l.length)++[.rw e 1 .c' (l++a)],[(id,0,1)]⟩
   |none=>none)
  |_=>none)else none)else none
 |_=>none)else none
def Um(H:List Ob)(t s:Nat)(x:SC):SC->Option Ro
 |.s' a=>Rf C H t s x a
 |_=>none
def IS(d:Operand->SV)(H:List Ob)(b:Builtin)(gH:List Operand)(e:List Nat):Option Ro:=match b,gH,e with
 |.len,[x],[t]=>Ju H (fU (d x) (We C H t))
 |.append,[x,y],[t,t']=>bif cV t t' then fU (d x) fun a=>fU (d y) fun c=>rP C H t a c else fU (d x) fun a=>fU (d y) fun c=>Um C H t t' a c
 |b,[x,y],_=>Ju H (fU (d x) fun a=>fU (d y) fun c=>mmC b a c)
 |_,_,_=>none
def Ff(sz:Nat->Option (Nat×Nat))(b:Operand->SV):List (Nat×Operand)->List SC->Option (List SC)
 |[],l=>some l
 |p::c,l=>match sz p.1,(b p.2).cells with
  |some q,some a=>bif cV a.length q.2 then(match uJ l q.1 a with
   |some l'=>Ff sz b c l'
   |none=>none)else none
  |_,_=>none
def wB(z:List SC):Nat->List SC
 |0=>[]
 |n+1=>z++wB z n
def Hn:List Field->Option (List (Nat×Nat))
 |[]=>some []
 |f::a=>match Qn C f.type with
  |some n=>match Hn a with
   |some l=>some ((f.offset,n)::l)
   |none=>none
  |none=>none
def plOf(t:Nat):Option (Nat->Option (Nat×Nat)):=match C.P.underlying t with
 |some (.struct a)=>match Hn C a.toList with
  |some l=>some (eX l)
  |none=>none
 |some (.array _ e)=>match Qn C e with
  |some n=>some fun i=>some (i*n,n)
  |none=>none
 |_=>none
def Ho(c:Operand->SV)(t:Nat)(a:List (Nat×Operand)):Option SV:=match zC C t,plOf C t with
 |some z,some b=>match Ff b c a z with
  |some cs=>some (.a' cs)
  |none=>none
 |_,_=>none
def ue(b:Operand->SV)(H:List Ob)(t len:Nat)(a:List (Nat×Operand)):Option Ro:=match OS C t with
 |some e=>match zC C e,Qn C e with
  |some z,some n=>bif cV z.length n then(bif Nat.ble (len*n) 100000 then(match Ff (fun i=>some (i*n,n)) b a (wB z len)with
   |some cs=>some ⟨[],.c' (.k' H.length len),H++[.bl e cs],[]⟩
   |none=>none)else none)else none
  |_,_=>none
 |none=>none
def isZ:Operand->Bool
 |.const (.int _ (.ofNat 0))=>true
 |_=>false
def qd:Operand->Bool
 |.const (.int _ (.ofNat _))=>true
 |_=>false
def wG(H:List Ob)(t:Nat)(z:Bool)(x y:SC):Option Ro:=match C.E t with
 |some (e,b,τ)=>bif z then(match NJ y with
   |some c=>some ⟨[⟨0<=c/\(b:Int)*c<=281474976710656,dMk b c⟩],.c' (.l' H.length),H++[.rw e b τ []],[]⟩
   |_=>none)else none
 |none=>none
def bs:List SV->Option (List Nat)
 |[]=>some []
 |v::l=>match v with
  |.c' (.p' id off)=>bif cV off 0 then(match bs l with
   |some q=>some (id::q)
   |none=>none)else none
  |_=>none
def Vy(b:Operand->SV)(f:Fn)(first cap:List Operand):Option SV:=match f with
 |.func k=>match first with
  |[]=>match bs (cap.map b)with
   |some a=>some (.c' (.f' k a))
   |none=>none
  |_=>none
 |_=>none
def AZ(x:SC):Option SV:=match x with
 |.p' id off=>some (.c' (.p' id off))
 |.q' id j b off=>some (.c' (.q' id j b off))
 |.f' k a=>some (.c' (.f' k a))
 |_=>none
def MB(t:Nat):Bool:=match C.P.underlying t with
 |some (.pointer _)=>true
 |_=>false
def isBool(t:Nat):Bool:=match C.P.underlying t with
 |some .bool=>true
 |_=>false
def CL(t:Nat):Bool:=match C.P.underlying t with
 |some (.slice _)=>true
 |_=>false
def CM:BinOp->Bool
 |.eql=>true
 |_=>false
def tm(z:Bool)(t:Nat)(b:BinOp)(x y:SC):Rv:=
 match x,y with
 |.p' _ _,.o' j=>bif cV j 0 then(bif MB C t then(bif CM b then iQ (.b' false)else none)else none)else none
 |.o' j,.o' a=>bif cV j 0 then(bif cV a 0 then(bif MB C t then(bif CM b then iQ (.b' true)else none)else none)else none)else none
 |.k' _ _,.n'=>bif CL C t then(bif CM b then iQ (.b' false)else none)else none
 |.n',.n'=>bif CL C t then(bif CM b then iQ (.b' true)else none)else none
 |x,y=>match x.rB,y.rB with
  |some u,some v=>bif isBool C t then bB b u v else none
  |_,_=>bin z b x y
def Ct(H:List Ob)(t:Nat)(x:SC)(d f:Option SC):Option Ro:=match x with
 |.l' id=>(match eX H id with
  |some (.ro τ l)=>(match OS C t with
   |some e=>(match Qn C e with
    |some c=>bif cV c τ.sz then(bif τ.flat then(match d,f with
     |none,some b=>(match NJ b with
      |some j=>some ⟨[⟨0<=j/\j<=(l.length:Int),inferInstance⟩],.c' (.l' H.length),H++[.ro τ (nZ (aZ j) l)],[]⟩
      |none=>none)
     |some a,none=>(match NJ a with
      |some j=>some ⟨[⟨0<=j/\j<=(l.length:Int),inferInstance⟩],.c' (.l' H.length),H++[.ro τ (bN (aZ j) l)],[]⟩
      |none=>none)
     |_,_=>none)else none)else none
    |none=>none)
   |none=>none)
  |_=>none)
 |_=>none
def LZ(t:Nat)(cs:List SC)(i:SC):Rv:=match wg C t with
 |some q=>bif vI C q.2 then(match Qn C q.2,R2 C q.2 with
  |some 1,some false=>(match pU .s' q.1 cs,NJ i with
   |some l,some j=>Po (0<=j/\j<(l.length:Int)) (.s' (TB .s' l j))
   |_,_=>none)
  |_,_=>none)else none
 |none=>none
def iM(d:Operand->SV)(H:List Ob):Op->Option Ro
 |.move x=>mI H (match d x with
  |.u'=>none
  |v=>some v)
 |.assign x=>mI H (match d x with
  |.u'=>none
  |v=>some v)
 |.pick c a b=>fU (d c) fun x=>match x with
  |.b' t=>mI H (match(bif t then d a else d b)with
   |.u'=>none
   |v=>some v)
  |_=>none
 |.binOp b t x y _=>Ju H (fU (d x) fun a=>fU (d y) fun c=>tm C (qd y) t b a c)
 |.unOp .not _ x=>Ju H (fU (d x) oz)
 |.convert s t x=>fU (d x) (Xc C H s t)
 |.index t x g=>bif vI C t then Ju H (fU (d x) fun a=>fU (d g) fun i=>ixC a i)else(match d x with
  |.a' cs=>Ju H (fU (d g) fun i=>LZ C t cs i)
  |_=>none)
 |.slice t x k m none=>bif vI C t then Ju H (fU (d x) fun a=>wH d k fun i=>wH d m fun j=>HZ a i j)else fU (d x) fun a=>wH d k fun i=>wH d m fun j=>Ct C H t a i j
 |.extract x i=>match d x with
  |.t' l=>match eX l i with
   |some y=>some ⟨[],y.sv,H,[]⟩
   |none=>none
  |_=>none
 |.field t x f=>match d x with
  |.a' l=>match Su C t f with
   |some q=>mI H (rN l q.1 q.2.1 q.2.2)
   |none=>none
  |_=>none
 |.build t h=>mI H (Ho C d t h.toList)
 |.alloc e=>match zC C e with
  |some z=>some ⟨[],.c' (.p' H.length 0),H++[.bl e z],[]⟩
  |none=>none
 |.box e v=>match(d v).cells with
  |some cs=>some ⟨[],.c' (.p' H.length 0),H++[.bl e cs],[]⟩
  |none=>none
 |.buildSlice t n h=>ue C d H t n h.toList
 |.load t x=>fU (d x) fun a=>lC C H t a
 |.store t x v=>fU (d x) fun a=>yQ C H t a (d v)
 |.fieldAddr t x f=>fU (d x) fun a=>mI H (awn C t f a)
 |.indexAddr t x g=>fU (d x) fun a=>fU (d g) fun i=>jv C H t a i
 |.makeSlice t n c=>fU (d n) fun a=>fU (d c) fun i=>wG C H t (isZ n) a i
 |.makeFunc f a b=>mI H (Vy d f a.toList b.toList)
 |.nilCheck x=>fU (d x) fun a=>mI H (AZ a)
 |.call c=>match c.callee with
  |.builtin b=>IS C d H b c.args.toList c.argTypes.toList
  |_=>none
 |_=>none
def opP(a:Operand->SV)(H:List Ob)(op:Op):Option Ro:=match op with
 |.convert s t x=>Ju H (fU (a x) (G3 C s t))
 |.slice t x c d b=>bif vI C t then iM C a H (.slice t x c d b)else none
 |op=>iM C a H op
end
inductive Ex where
 |nm
 |xt (id:Nat)
abbrev Rg:=Nat×Nat×Nat
inductive Sc where
 |n'
 |s' (a b:Sc)
 |j' (J:List Key) (R:List Nat) (a b:Sc)
 |r' (J:List Key) (R:List Nat) (a b:Sc)
 |l' (J:List Key) (a:Sc)
 |y' (a:Sc)
 |z' (a:Sc)
def Sc.A:Sc->Sc
 |.s' a _=>a
 |.j' _ _ a _=>a
 |.r' _ _ a _=>a
 |.l' _ a=>a
 |.y' a=>a
 |_=>.n'
def Sc.B:Sc->Sc
 |.s' _ b=>b
 |.j' _ _ _ b=>b
 |.r' _ _ _ b=>b
 |.z' b=>b
 |_=>.n'
def lS(t:Nat):List Nat->Bool
 |[]=>false
 |x::l=>bif cV t x then true else lS t l
def EA(l r:List Nat):Bool:=match l with
 |[]=>true
 |x::l=>bif lS x r then false else EA l r
def Fx:List Nat->Bool
 |[]=>true
 |x::l=>bif lS x l then false else Fx l
def fE(id j:Nat):List Rg->Bool
 |[]=>false
 |q::l=>bif cV q.1 id then(bif Nat.ble q.2.1 j then(bif fZ j q.2.2 then true else fE id j l)else fE id j l)else fE id j l
def RN(id a:Nat)(b:List Rg):Nat->Bool
 |0=>true
 |n+1=>bif fE id (a+n) b then RN id a b n else false
def St.ok(S:St)(q:Rg):Bool:=bif fZ q.1 S.nb then RN q.1 q.2.1 S.al (q.2.2-q.2.1)else true
def St.Bg(S:St):List Rg->Bool
 |[]=>true
 |x::l=>bif S.ok x then S.Bg l else false
def gL:List Src->List Nat
 |[]=>[]
 |s::l=>s.own++gL l
def H8:List Src->List Nat
 |[]=>[]
 |s::l=>s.vj++H8 l
def qT(H:List Ob)(id:Nat):Rg:=(id,0,match eX H id with
 |some (.bl _ cs)=>oA cs.length
 |_=>1)
def sO(H:List Ob)(id:Nat):Rg:=(id,0,match eX H id with
 |some (.bl _ cs)=>cs.length
 |_=>1)
def Xf(H:List Ob):List Nat->List Rg
 |[]=>[]
 |x::l=>sO H x::Xf H l
def No(H:List Ob):List Nat->List Rg
 |[]=>[]
 |x::l=>qT H x::No H l
def St.take(S:St)(ss:List Src):Bool:=bif Fx (gL ss)then S.Bg (No S.H (gL ss))else false
def kill(H:List Ob):List Nat->List Ob
 |[]=>H
 |x::l=>kill (iS H x (.dd (fV H x))) l
def OH:List SC->Nat->Nat->List SC
 |[],_,_=>[]
 |x::l,a,n=>match a with
  |a+1=>x::OH l a n
  |0=>match n with
   |0=>x::l
   |n+1=>.u'::OH l 0 n
def Tk(H:List Ob):List Rg->List Ob
 |[]=>H
 |q::l=>match eX H q.1 with
  |some (.bl e cs)=>Tk (iS H q.1 (.bl e (OH cs q.2.1 (q.2.2-q.2.1)))) l
  |_=>Tk (iS H q.1 (.dd (fV H q.1))) l
def FG(a:Nat->Nat):List Key->List Rg
 |[]=>[]
 |k::l=>match k with
  |.s' _ _=>FG a l
  |.o' t off x=>(a t,off,off+x.cn)::FG a l
  |.w' t _=>(a t,0,1)::FG a l
def vH:Option Ob->Bool
 |some (.rw _ _ _ _)=>true
 |some (.br _ _)=>true
 |_=>false
def vB(H:List Ob):List SC->List Nat
 |[]=>[]
 |x::l=>match x with
  |.l' id=>bif vH (eX H id)then id::vB H l else vB H l
  |.k' id _=>match eX H id with
   |some (.bl _ _)=>id::vB H l
   |_=>vB H l
  |_=>vB H l
def Ty.HI:Ty->Bool
 |.w' x=>x.HI
 |.pr x y=>bif x.HI then true else y.HI
 |.l' _ _ _=>true
 |.y'=>true
 |_=>false
def ax(a:Nat->Nat)(F:Nat->SV)(H:List Ob):List Key->List Nat
 |[]=>[]
 |k::l=>(match k with
  |.s' t x=>bif x.HI then(match(F t).cells with
   |some cs=>vB H cs
   |none=>[])else []
  |.o' t off x=>bif x.HI then(match eX H (a t)with
   |some (.bl _ cs)=>match yZ (zD cs off) x.cn with
    |some q=>vB H q
    |none=>[]
   |_=>[])else []
  |.w' _ _=>[])++ax a F H l
def Key.WI:List Key->List Nat
 |[]=>[]
 |k::l=>match k with
  |.s' t _=>t::Key.WI l
  |_=>Key.WI l
def del(F:Tr SV):List Nat->Tr SV
 |[]=>F
 |x::l=>del (F.set x .u') l
def El:List Oper->List Nat
 |[]=>[]
 |o::l=>match o.dst with
  |some d=>d::El l
  |none=>El l
noncomputable def wr(c:Code):List Nat:=Code.rec [] (fun _ d _=>El d.toList) (fun _ _ a b=>a++b) (fun _ _ _ a b=>a++b) (fun _ _ a=>a) (fun _ a=>a) (fun _ e _ _ a b=>e.toList++(a++b))
 (fun _=>[]) (fun _ a=>a) (fun _=>[]) (fun _=>[]) [] (fun _=>[]) c
def SV.pid:SV->Nat
 |.c' (.p' id _)=>id
 |.c' (.l' id)=>id
 |.c' (.k' id _)=>id
 |.c' (.f' _ (id::_))=>id
 |_=>0
def St.ix(S:St)(t:Nat):Nat:=(S.at t).pid
def St.jh(S:St)(J:List Key):List Nat:=ax S.ix S.at S.H J
def St.Jp(S:St)(J:List Key):List Rg:=FG S.ix J++No S.H (S.jh J)
def Wz:List Rg->Bool
 |[]=>true
 |q::l=>bif (HV q l)then Wz l else false
where HV (q:Rg):List Rg->Bool
 |[]=>true
 |r::l=>bif cV q.1 r.1 then(bif Nat.ble q.2.2 r.2.1 then HV q l else(bif Nat.ble r.2.2 q.2.1 then HV q l else false))else HV q l
def G4(S:St):List Key->Bool
 |[]=>true
 |k::l=>bif (match k with
  |.o' t off x=>(match eX S.H (S.ix t)with
   |some (.bl _ cs)=>Nat.ble (off+x.cn) cs.length
   |_=>false)
  |.w' t x=>vH (eX S.H (S.ix t))
  |_=>true)then G4 S l else false
def St.gh(S:St)(J:List Key):Bool:=bif S.Bg (S.Jp J)then(bif Wz (S.Jp J)then(bif Fx (Key.WI J)then G4 S J else false)else false)else false
def St.Pm(S:St):St:=⟨S.F,S.H,S.nb,S.al,[]⟩
def Zl(n:Nat)(a:List Rg):List Rg->Bool
 |[]=>true
 |q::l=>bif (bif fZ q.1 n then RN q.1 q.2.1 a (q.2.2-q.2.1)else true)then Zl n a l else false
def tk(S:St)(J:List Key)(ss:List Src):Bool:=bif Fx (gL ss)then tkI S.H.length (S.jh J) (gL ss)else false
where tkI (n:Nat) (e:List Nat):List Nat->Bool
 |[]=>true
 |id::l=>bif (bif Nat.ble n id then true else lS id e)then tkI n e l else false
def leaf(S:St)(J:List Key)(S2:St):Option (nN J).T:=match rdK S.ix S2.at S2.H J with
 |some (v,a)=>bif tk S J a then(bif Zl S.H.length (S.Jp J) S2.m then some v else none)else none
 |none=>none
def St.out(S:St)(J:List Key)(w:List Nat)(v:(nN J).T):St:=match Fv S.ix (del S.F w,kill (Tk S.H (FG S.ix J)) (S.jh J)) J v with
 |(F,H)=>⟨F,H,S.nb,S.al,S.Jp J++S.m⟩
def St.head(S:St)(J:List Key)(w:List Nat)(v:(nN J).T):St:=match Fv S.ix (del S.F w,kill (Tk S.H (FG S.ix J)) (S.jh J)) J v with
 |(F,H)=>⟨F,H,S.nb,S.al,[]⟩
def St.as(S2 S:St)(J:List Key):St:=⟨S2.F,S2.H,S2.nb,S2.al,S2.m++(S.Jp J++S.m)⟩
section
variable (C : Cx) (τ : Ty) (res : St -> Option τ.T)
def Ms(d:Option Nat)(v:SV):Bool:=match d,v with
 |none,.u'=>true
 |none,_=>false
 |some _,.u'=>false
 |some _,_=>true
def St.run(S:St)(d:Option Nat)(v:SV)(H:List Ob)(m:List Rg):Option St:=bif Ms d v then(bif S.Bg m then some (St.uI ⟨S.F,H,S.nb,S.al,m++S.m⟩ d v)else none)else none
def uP(ss:List Src)(j:Nat):Nat:=match eX ss j with
 |some (.o' id _)=>id
 |_=>0
def Rk.ids:List Rk->List Nat
 |[]=>[]
 |k::l=>match k with
  |.r' _=>Rk.ids l
  |.o' id _ _=>id::Rk.ids l
  |.w' id _=>id::Rk.ids l
def Xl(outs:List Nat):List Ob->Nat->List Src->List Nat
 |[],_,_=>[]
 |_::_,_,[]=>[]
 |o::a,j,s::b=>(bif vH (some o)then(bif lS j outs then []else s.own)else [])++Xl outs a (j+1) b
def lB(ss:List Src):List Nat->List Nat
 |[]=>[]
 |j::l=>uP ss j::lB ss l
def jS(c:Gt)(S:St)(a:(gK c.a).T)(ss:List Src):List Rg:=No S.H (Xl (Rk.ids c.r) (jE [] c.a a).2 0 ss)++Xf S.H (lB ss (Rk.ids c.r))
def kQ(c:Gt)(S:St)(d:Option Nat)(a:(gK c.a).T)(ss:List Src)(y:(gG c.r).T):St:=
 match fK (uP ss) ([],kill S.H (Xl (Rk.ids c.r) (jE [] c.a a).2 0 ss)) c.r y with
 |(l,H)=>St.uI ⟨S.F,H,S.nb,S.al,jS c S a ss++S.m⟩ d (mW l)
def Ty.nb:Ty->Bool
 |.w' x=>x.nb
 |.pr x y=>bif x.nb then y.nb else false
 |.r' _=>false
 |.p' _ x=>x.nb
 |.f' _ x=>x.nb
 |_=>true
def Fu(H:List Ob)(ss:List Src):List Rk->Bool
 |[]=>true
 |k::l=>bif (match k with
  |.r' x=>bif x.tz then false else x.nb
  |.o' j e x=>bif x.nb then(match eX ss j with
   |some (.o' id w)=>bif w then(match eX H id with
    |some (.bl a cs)=>bif cV a e then cV cs.length x.cn else false
    |_=>false)else false
   |_=>false)else false
  |.w' j x=>(match eX ss j with
   |some (.o' id w)=>bif w then vH (eX H id)else false
   |_=>false))then Fu H ss l else false
def mM(c:Gt)(S:St)(a:(gK c.a).T)(ss:List Src):Bool:=
 bif Fx (gL ss)then(bif EA (H8 ss) (gL ss)then(bif Fu S.H ss c.r then S.Bg (jS c S a ss)else false)else false)else false
def mD{ρ:Ty}(S:St)(d:Option Nat)(vs:List SV)(b:St->Option ρ.T):List Gt->Option ρ.T
 |[]=>none
 |c::l=>match KS S.H c.a vs with
  |some (a,e)=>bif mM c S a e then(c.f a).bd fun y=>b (kQ c S d a e y)else none
  |none=>mD S d vs b l
variable {b:Ty}
def callD(S:St)(d:Option Nat)(k:Nat)(vs:List SV)(a:St->Option b.T):Option b.T:=mD S d vs a (C.X k)
def fnV:SV->Option (Nat×List Nat)
 |.c' (.f' k a)=>some (k,a)
 |_=>none
def RS:List Nat->List SV
 |[]=>[]
 |id::l=>.c' (.p' id 0)::RS l
def S9(S:St)(d:Option Nat)(op:Op)(ρ:St->Option b.T):Option b.T:=
 match iM C (S.ev C) S.H op with
 |some ⟨g,v,H,m⟩=>match S.run d v H m with
  |some e=>gdL g (ρ e)
  |none=>none
 |none=>match op with
  |.call c=>match c.callee with
   |.value f=>match fnV (S.ev C f)with
    |some (k,a)=>callD C S d k (c.args.toList.map (S.ev C)++RS a) ρ
    |none=>none
   |_=>none
  |_=>none
def isG(a:List Oper)(i:Nat):Bool:=match a with
 |[]=>false
 |o::l=>match o.guard with
  |some q=>bif cV q.1 i then true else isG l i
  |none=>isG l i
variable {a:Type}
def H6(v:SV)(y n:Option a):Option a:=match v with
 |.c' (.b' x)=>bif x then y else n
 |.c' (.d' p h)=> @ite _ p h y n
 |.c' (.e' p h)=> @ite _ p h n y
 |_=>none
def ZS:Op->Option Operand
 |.move x=>some x
 |.assign x=>some x
 |_=>none
def S8(ρ:List Oper)(i:Nat)(S:St)(o:Oper)(a:St->Option b.T):Option b.T:=
 bif isG ρ i then(match ZS o.op with
  |some x=>match o.dst with
   |some d=>H6 (S.ev C x) (a (S.set d (.c' (.b' true)))) (a (S.set d (.c' (.b' false))))
   |none=>none
  |none=>S9 C S o.dst o.op a)
 else S9 C S o.dst o.op a
def cp(a b:Bool):Bool:=bif a then b else !b
def DK(a:List Oper)(i:Nat):Option Nat:=match eX a i with
 |some o=>o.dst
 |none=>none
def OV(a:List Oper)(i:Nat)(S:St)(o:Oper)(ρ:St->Option b.T):Option b.T:=
 match o.guard with
 |none=>S8 C a i S o ρ
 |some q=>match DK a q.1 with
  |some dg=>bif fZ dg C.nn then(match S.at dg with
   |.c' (.b' x)=>bif cp x q.2 then S8 C a i S o ρ else(match o.dst with
    |some d=>ρ (S.set d .n')
    |none=>none)
   |.n'=>(match o.dst with
    |some d=>ρ (S.set d .n')
    |none=>none)
   |_=>none)else none
  |none=>none
def GU{ρ:Ty}(a:List Oper):List Oper->Nat->St->(St->Option ρ.T)->Option ρ.T
 |[],_,S,b=>b S
 |o::l,i,S,b=>OV C a i S o fun c=>GU a l (oA i) c b
def yP:List Operand->List Nat
 |[]=>[]
 |x::l=>match x with
  |.tmp t=>t::yP l
  |_=>yP l
def Ci:Op->Bool
 |.move _=>true
 |.assign _=>true
 |.pick _ _ _=>true
 |.binOp _ _ _ _ _=>true
 |.unOp _ _ _=>true
 |.convert _ t _=> !CL C t
 |.index _ _ _=>true
 |.slice t _ _ _ _=>vI C t
 |.extract _ _=>true
 |.field _ _ _=>true
 |.build _ _=>true
 |.fieldAddr _ _ _=>true
 |.load _ _=>true
 |.indexAddr _ _ _=>true
 |.makeFunc _ _ _=>true
 |.nilCheck _=>true
 |.call c=>match c.callee with
  |.builtin .len=>true
  |.builtin .min=>true
  |.builtin .max=>true
  |_=>false
 |_=>false
def Pu:SV->List Nat
 |.c' (.p' id _)=>[id]
 |.c' (.q' id _ _ _)=>[id]
 |.c' (.l' id)=>[id]
 |.c' (.k' id _)=>[id]
 |_=>[]
def Sr(a:Operand->SV):List Operand->List Nat
 |[]=>[]
 |x::l=>Pu (a x)++Sr a l
def Sp(a:Operand->SV):Op->List Nat
 |.load _ x=>Pu (a x)
 |.indexAddr _ x _=>Pu (a x)
 |.convert _ _ x=>Pu (a x)
 |.call c=>Sr a c.args.toList
 |_=>[]
def C2(n:Nat):List Rg->List Nat
 |[]=>[]
 |q::l=>match n with
  |0=>[]
  |n+1=>q.1::C2 n l
def ZE:List Rg->Nat
 |[]=>0
 |_::l=>oA (ZE l)
def pY:List Ty->Bool
 |[]=>true
 |x::l=>bif cV x.no 0 then pY l else false
def pX:List Rk->Bool
 |[]=>true
 |k::l=>match k with
  |.r' x=>bif cV x.no 0 then pX l else false
  |_=>false
def MR:List Gt->Bool
 |[]=>true
 |c::l=>bif pY c.a then(bif pX c.r then MR l else false)else false
def qt(op:Op):Bool:=bif Ci C op then true else(match op with
 |.call c=>(match c.callee with
  |.value (.func k)=>MR (C.X k)
  |_=>false)
 |_=>false)
def entry(S S2:St)(o:Oper):Bool×List Nat:=bif qt C o.op then(false,Sp (S.ev C) o.op)else(true,C2 (Nat.sub (ZE S2.m) (ZE S.m)) S2.m)
def V0{ρ:Ty}(a:List Oper):List Oper->Nat->St->List (Bool×List Nat)->(St->List (Bool×List Nat)->Option ρ.T)->Option ρ.T
 |[],_,S,c,b=>b S c
 |o::l,i,S,c,b=>OV C a i S o fun d=>V0 a l (oA i) d (c++[entry C S d o]) b
def OI:List Nat->List Nat->List Nat
 |[],r=>r
 |x::l,r=>bif lS x r then OI l r else OI l (x::r)
def Gm(A:List (List Nat)):List Edge->List Nat
 |[]=>[]
 |e::l=>bif Region.binds .any e then OI (e.on::(match eX A e.on with
  |some a=>a
  |none=>[])) (Gm A l)else Gm A l
def fX:List Oper->List (List Nat)->List (List Nat)
 |[],A=>A
 |o::l,A=>fX l (A++[Gm A o.after.toList])
def Bh(A:List (List Nat))(i:Nat):List Nat:=match eX A i with
 |some a=>a
 |none=>[]
def Fi:List Oper->Nat->Bool
 |[],_=>true
 |o::l,i=>bif o.after.toList.all (fun e=>bif Region.binds .any e then fZ e.on i else true)then Fi l (oA i)else false
def Sl(a:List Oper)(o:Oper):List Nat:=match o.guard with
 |some q=>(match DK a q.1 with
  |some d=>[d]
  |none=>[])
 |none=>[]
def AY(A:List (List Nat))(i j:Nat):Bool:=bif lS i (Bh A j)then true else lS j (Bh A i)
def Kj(A:List (List Nat))(i:Nat)(rd:List Nat):List Oper->Nat->Bool
 |[],_=>true
 |o::l,j=>bif (match o.dst with
  |some d=>bif lS d rd then(bif cV i j then true else AY A i j)else true
  |none=>true)then Kj A i rd l (oA j)else false
def yO(a:List Oper)(A:List (List Nat))(all:List Oper):List Oper->Nat->Bool
 |[],_=>true
 |o::l,i=>bif Kj A i (yP o.op.operands.toList++Sl a o) all 0 then yO a A all l (oA i)else false
def Kr(A:List (List Nat))(i:Nat)(q:Bool×List Nat):List (Bool×List Nat)->Nat->Bool
 |[],_=>true
 |p::l,j=>bif (bif cV i j then true else(bif AY A i j then true else(bif p.1 then(bif q.1 then false else EA q.2 p.2)else true)))then Kr A i q l (oA j)else false
def BE(A:List (List Nat))(all:List (Bool×List Nat)):List (Bool×List Nat)->Nat->Bool
 |[],_=>true
 |q::l,i=>bif Kr A i q all 0 then BE A all l (oA i)else false
def EU{a:Type}:List a->Nat->List a
 |[],_=>[]
 |x::l,k=>match k with
  |0=>[]
  |k+1=>x::EU l k
def DY(a:Array Oper):Nat->Option Nat
 |0=>bif Ed a 0 then some 0 else none
 |k+1=>bif Ed a (oA k)then(match DY a k with
  |some j=>some j
  |none=>some (oA k))else none
def Wy(a:Array Oper)(S:St)(c:St->Option b.T):Option b.T:=bif C.P.follows .mixedOrders then(match DY a a.size with
 |some k=>(fun l=>(fun A=>bif Region.seqB .any a (Nat.sub a.size k) k (iZ k true++iZ (Nat.sub a.size k) false).toArray then(bif Fi l 0 then(bif Fx (El l)then(bif yO a.toList A l l 0 then
   V0 C a.toList l 0 S [] (fun d ρ=>bif BE A ρ ρ 0 then GU C a.toList (zD a.toList k) k d c else none)else none)else none)else none)else none) (fX l [])) (EU a.toList k)
 |none=>none)else none
abbrev Dn(τ:Ty):=Sc->St->(a:Ty)->(τ.T->Option a.T)->(Ex->St->Option a.T)->Option a.T
def jk:Dn τ:=fun _ S _ _ a=>a .nm S
def F7:Dn τ:=fun _ _ _ _ _=>none
def bm(a:Array Oper)(d:Bool):Dn τ:=fun _ S _ _ c=>bif d then Wy C a S (fun b=>c .nm b)else GU C a.toList a.toList 0 S fun b=>c .nm b
def xW(ρ:Ex->St->Option a)(f:St->Option a):Ex->St->Option a
 |.nm,S=>f S
 |.xt i,S=>ρ (.xt i) S
def noK:Ex->St->Option a:=fun _ _=>none
def LM(S:St)(J:List Key)(S2:St):Option (Ty.sm (nN J) τ).T:=match leaf S J S2 with
 |some v=>some (.inl v)
 |none=>none
def again(a:List Oper):List Nat->St->St
 |[],S=>S
 |i::R,S=>again a R (match eX a i with
  |some o=>(match o.dst with
   |some d=>(match opP C (S.ev C) S.H o.op with
    |some ⟨[],v,_,_⟩=>S.set d v
    |_=>S)
   |none=>S)
  |none=>S)
def Th:Code->List Oper
 |.region _ a d=>bif d then []else a.toList
 |_=>[]
def mL:Op->Bool
 |.move _=>true
 |.assign _=>true
 |.binOp _ _ _ _ _=>true
 |.unOp _ _ _=>true
 |.convert _ _ _=>true
 |.index _ _ _=>true
 |.extract _ _=>true
 |.field _ _ _=>true
 |.build _ _=>true
 |.fieldAddr _ _ _=>true
 |.slice _ _ _ _ _=>true
 |_=>false
def YJ(a:List Oper)(i:Nat):Bool:=match eX a i with
 |some o=>bif o.guard.isNone then(bif mL o.op then(match o.dst with
  |some d=>(bif lS d (El (zD a (oA i)))then false else EA (yP o.op.operands.toList) (d::El (zD a (oA i))))
  |none=>false)else false)else false
 |none=>false
def gg(a:List Oper):List Nat->Bool
 |[]=>true
 |i::R=>bif YJ a i then gg a R else false
def dSeq(x:Code)(w:List Nat)(a b:Dn τ):Dn τ:=fun f S d c e=>match f with
 |.j' J R h g=>bif S.gh J then(bif gg (Th x) R then Option.bind (a h S.Pm (nN J) (fun _=>none) (xW noK (leaf S J))) fun v=>b g (again C (Th x) R (S.out J w v)) d c e else none)else none
 |.r' J R h g=>bif S.gh J then(bif gg (Th x) R then Option.bind (a h S.Pm (.sm (nN J) τ) (fun r=>some (.inr r)) (xW noK (LM τ S J))) fun j=>fC (fun v=>b g (again C (Th x) R (S.out J w v)) d c e) (fun q=>c q) j else none)else none
 |f=>a f.A S d c (xW e fun i=>b f.B i d c e)
def dCond(c:Operand)(a b:Dn τ):Dn τ:=fun f S d g e=>match f with
 |.y' i=>H6 (S.ev C c) (a i S d g e) none
 |.z' h=>H6 (S.ev C c) none (b h S d g e)
 |f=>H6 (S.ev C c) (a f.A S d g e) (b f.B S d g e)
def ia(id:Nat)(ρ:Ex->St->Option a):Ex->St->Option a
 |.nm,S=>ρ .nm S
 |.xt i,S=>bif cV i id then ρ .nm S else ρ (.xt i) S
def tb(id:Nat)(a:Dn τ):Dn τ:=fun d S b e c=>a d S b e (ia id c)
def ES{T:Type}(ρ:St->Option T)(g:T->Option a)(S:St):Option a:=match ρ S with
 |some v=>g v
 |none=>none
def dLoop(w:List Nat)(a:Dn τ):Dn τ:=fun d S b h c=>match d with
 |.l' J f=>bif S.gh J then(match leaf S J S.Pm with
  |some v=>bT (fun g v=>a f (S.head J w v) b h (xW (fun e i=>c e (i.as S J)) (ES (leaf S J) g))) C.fu v
  |none=>none)else none
 |_=>none
def dRet:Dn τ:=fun _ S _ a _=>match res S with
 |some r=>a r
 |none=>none
noncomputable def den(c:Code):Dn τ:=Code.rec (motive:=fun _=>Dn τ) (jk τ) (fun _ e d=>bm C τ e d) (fun x _ a b=>dSeq C τ x (wr x) a b) (fun c _ _ a b=>dCond C τ c a b) (fun id _ a=>tb τ id a) (fun x a=>dLoop C τ (wr x) a) (fun _ _ _ _ _ _=>F7 τ)
 (fun id _ S _ _ f=>f (.xt id) S) (fun _ a=>a) (fun _=>jk τ) (fun _=>F7 τ) (dRet τ res) (fun _=>F7 τ) c
end
def iH(C:Cx)(S:St):ResultVar->SV
 |.tmp t=>bif fZ t C.nn then S.at t else .u'
 |.cell a t=>match bif fZ a C.nn then S.at a else .u' with
  |.c' x=>match lC C S.H t x with
   |some ⟨[],v,_,_⟩=>v
   |_=>.u'
  |_=>.u'
def Vd(C:Cx)(b:Nat)(c:List Rg)(rs:List ResultVar)(r:List Rk)(S:St):Option (gG r).T:=match rdR S.H r (rs.map (iH C S))with
 |some (x,a)=>bif St.take ⟨S.F,S.H,b,c,[]⟩ a then(bif EA (gL a) (Rk.ids r)then some x else none)else none
 |none=>none
def sk{ρ:Type}(res:St->Option ρ):Ex->St->Option ρ
 |.nm,S=>res S
 |.xt _,_=>none
def GM(F:Tr SV):Nat->List SV->Tr SV
 |_,[]=>F
 |t,v::a=>GM (F.set t v) (t+1) a
def sU(r:List Rk):List Ob->List Ob->Nat->List Rg
 |_,[],_=>[]
 |H,o::l,j=>(bif vH (some o)then [(j,0,1)]else(bif lS j (Rk.ids r)then [sO H j]else []))++sU r H l (j+1)
def st0(gs:List Ob)(a:List Ty)(r:List Rk)(x:(gK a).T):St:=match jE [] a x with
 |(b,H)=>⟨GM Tr.e 0 b,H++gs,(H++gs).length,sU r H H 0,[]⟩
def Di:Ty->Bool
 |.l' _ _ _=>true
 |.y'=>true
 |_=>false
def Ra(H:List Ob):List Rk->Bool
 |[]=>true
 |k::l=>bif (match k with
  |.r' _=>true
  |.o' id e x=>(match eX H id with
   |some (.bl a cs)=>bif cV a e then cV cs.length x.cn else false
   |_=>false)
  |.w' id x=>bif vH (eX H id)then Di x else false)then Ra H l else false
def GZ:List Ty->Bool
 |[]=>true
 |x::l=>bif x.tz then false else GZ l
def sx(C:Cx)(gs:List Ob)(c:Code)(rs:List ResultVar)(sc:Sc)(a:List Ty)(r:List Rk)(x:(gK a).T):Option (gG r).T:=
 match st0 gs a r x with
 |⟨F,H,b,d,m⟩=>bif (bif GZ a then(bif Fx (Rk.ids r)then Ra (jE [] a x).2 r else false)else false)then den C (gG r) (Vd C b d rs r) c sc ⟨F,H,b,d,m⟩ (gG r) some (sk (Vd C b d rs r))else none
end
end Go.Oe
namespace Go.Ce
open Go.Wk
open Nat renaming beq → cV
variable {a:Type}
theorem tn(c:Bool)(x y:a):bi c x y=if c=true then x else y:=by cases c<;>rfl
theorem cm(a b:Nat):(cV a b=true)=(a=b):=propext ⟨iL,fun h=>by subst h;exact Nat.beq_refl a⟩
def Pk.val:Pk->Nat
 |.h=>0
 |.o p=>2*p.val+2
 |.i p=>2*p.val+1
theorem Vt:∀(f k:Nat),k<f->(ve f k).val=k
 |0,k,h=>by omega
 |f+1,k,h=>by
  show(bi (cV k 0) Pk.h (bi (cV (k%2) 1) (Pk.i (ve f (k/2))) (Pk.o (ve f (k/2-1))))).val=k;simp only [tn,cm];by_cases a:k=0
  ·rw [aB a,a];rfl
  ·rw [aA a];by_cases b:k%2=1
   ·rw [aB b];show 2*(ve f (k/2)).val+1=k;rw [Vt f _ aA0];omega
   ·rw [aA b];show 2*(ve f (k/2-1)).val+2=k;rw [Vt f _ aA0];omega
theorem YB(k:Nat):(pk k).val=k:=Vt (k+1) k (vT k)
theorem oq{k k':Nat}(h:pk k=pk k'):k=k':=by rw [<-YB k,h,YB]
theorem azw{α:Type}(x:α):∀(p:Pk) (t:Tr α),Tr.wN p (Tr.WN x p t)=some x
 |.h,t=>rfl
 |.o p,t=>azw x p t.R
 |.i p,t=>azw x p t.L
theorem sG{α:Type}(x:α):∀(p q:Pk) (t:Tr α),q≠p->Tr.wN q (Tr.WN x p t)=Tr.wN q t
 |.h,.h,t,h=>absurd rfl h
 |.h,.o q,t,_=>rfl
 |.h,.i q,t,_=>rfl
 |.o p,.h,t,_=>rfl
 |.o p,.o q,t,h=>sG x p q t.R fun e=>h (by rw [e])
 |.o p,.i q,t,_=>rfl
 |.i p,.h,t,_=>rfl
 |.i p,.o q,t,_=>rfl
 |.i p,.i q,t,h=>sG x p q t.L fun e=>h (by rw [e])
theorem Tr.zV(t:Tr a)(k k':Nat)(x:a):(t.set k x).get k'=if k'=k then some x else t.get k':=by
 by_cases h:k'=k
 ·subst h;rw [aB rfl];exact azw x _ _
 ·rw [aA h];exact sG x _ _ _ fun e=>h (oq e)
theorem HP{α:Type}:∀p:Pk,Tr.wN p (.e:Tr α)=none
 |.h=>rfl
 |.o p=>HP p
 |.i p=>HP p
theorem Tr.B8(k:Nat):(Tr.e:Tr a).get k=none:=HP _
section
variable {α:Type}
end
abbrev En:=Nat->Nat×Nat
def Cp.re(E:En)(j:Nat):Cp->Nat
 |.k c=>c
 |.r off=>(E j).2-off
def SC.re(E:En):SC->Value
 |.b x=>.bool x
 |.i k n=>.int k (k.wrap (n:Int))
 |.s l x=>str (dec l x)
 |.np=>.pointer none
 |.ns=>.slice none 0 0
 |.nf=>.nilFunc
 |.ni=>.nilIface
 |.nm=>.map none
 |.p j off=>.pointer (some ⟨(E j).1,off,none⟩)
 |.g j off=>.pointer (some ⟨j,off,none⟩)
 |.sl j base n c=>.slice (some ⟨(E j).1,base,none⟩) n (c.re E j)
 |.fn f cs=>.func (.func f) #[] (cs.map fun j=>Value.pointer (some ⟨(E j).1,0,none⟩)).toArray
 |.y j=>.func (.yield (E j).1) #[] #[]
 |.m j=>.map (some (E j).1)
 |.z j base dd off=>.slice (some ⟨(E j).1,if(E j).2-off=0 then base else base+dd,none⟩) 0 ((E j).2-off)
def SA.re(E:En):SA->Value
 |.c x=>x.re E
 |.a l=>.agg (l.map (SC.re E)).toArray
def SV.re(E:En):SV->Value
 |.c x=>x.re E
 |.a l=>.agg (l.map (SC.re E)).toArray
 |.t l=>.tuple (l.map (SA.re E)).toArray
 |.u=>undef
def SC.ok(n:Nat):SC->Prop
 |.p j _=>j<n
 |.sl j _ _ _=>j<n
 |.fn _ cs=>∀j∈cs,j<n
 |.y j=>j<n
 |.m j=>j<n
 |.z j _ _ _=>j<n
 |_=>True
def SA.ok(n:Nat):SA->Prop
 |.c x=>x.ok n
 |.a l=>∀x∈l,x.ok n
def SV.ok(n:Nat):SV->Prop
 |.c x=>x.ok n
 |.a l=>∀x∈l,x.ok n
 |.t l=>∀x∈l,x.ok n
 |.u=>True
noncomputable def tv(F:Tr SV)(t:Nat):SV:=(F.get t).getD .u
noncomputable def rF(E:En)(F:Tr SV):Nat->Value:=fun t=>(tv F t).re E
def Fok(n:Nat)(F:Tr SV):Prop:=∀t v,F.get t=some v->v.ok n
theorem Fok.set{n:Nat}{F:Tr SV}(h:Fok n F)(d:Nat){v:SV}(a:v.ok n):Fok n (F.set d v):=by
 intro t x hx;rw [Tr.zV]at hx;split at hx
 ·cases hx;exact a
 ·exact h t x hx
def Mo.ok(md:Mo)(cap len size:Nat)(a:Nat×Nat):Prop:=
 match md with
 |.ex=>size=len/\a=(0,0)
 |.rw b m=>len=m*b/\m<=cap/\cap<=maxLen/\size=cap*b/\a=(0,0)
 |.bw=>len<=cap/\cap<=size/\size<=a.1
 |.fb=>size=len/\size<=a.1
def cres(b cap t:Nat)(md:Mo)(c:List Value):cF:=
 ⟨some b,fun o=>∃a t' d,o=some (.cells a t' d)/\(md=.bw\/t'=t)/\c.length<=a.size/\a.toList.take c.length=c/\md.ok cap c.length a.size d⟩
def lpres(b:Nat)(busy:Bool)(j k:Nat)(d:List Nat)(c body:Code)(F:Nat->Value):cF:=
 ⟨some b,fun o=>∃a:Loop,a.assign=c/\a.body=body/\a.params=d.toArray/\a.tmps=(fr ⟨k,[],some none⟩ F).tmps/\
  (match busy with
  |false=>o=some (.loop {a with state:=SX j,pending:=jmp j})
  |true=>∃e,o=some (.loop {a with state:=.busy,pending:=e}))⟩
def mpres(b:Nat)(l:List (Value×Value)):cF:=⟨some b,fun o=>∃a clock,o=some (.map a clock)/\a.toList.map (fun e=>(e.key,e.val))=l⟩
noncomputable def iH(E:En)(i:Nat):HB->cF
 |.cl t e c=>cres (E i).1 (E i).2 t e (c.map (SC.re E))
 |.it l x pos=>OT (E i).1 (dec l x) pos
 |.lp busy j k d b a F=>lpres (E i).1 busy j k d b a (rF E F)
 |.df=>lR (E i).1
 |.gn=>⟨none,fun _=>True⟩
 |.mp f=>mpres (E i).1 (f.map fun p=>(p.1.re E,p.2.re E))
def HB.ok(n:Nat):HB->Prop
 |.cl _ _ a=>∀x∈a,x.ok n
 |.lp _ _ _ _ _ _ F=>Fok n F
 |.mp b=>∀p∈b,p.1.ok n/\p.2.ok n
 |_=>True
noncomputable def kX(H:Hs)(i:Nat):HB:=(H.t.get i).getD .gn
noncomputable def KO(E:En)(H:Hs):List cF:=(List.range H.nx).map fun i=>iH E i (kX H i)
structure Inv (w0:World) (E:En) (H:Hs) (w:World):Prop where
 hp:Hp w0 [] (KO E H) w
 lt:∀i b,H.t.get i=some b->i<H.nx
 ok:∀i b,H.t.get i=some b->b.ok H.nx
section
variable {w0 w:World}{E:En}{H:Hs}
variable {i:Nat}
theorem XA(a:i<H.nx):(KO E H)[i]? =some (iH E i (kX H i)):=by simp [KO,a]
theorem Inv.at(h:Inv w0 E H w){b:HB}(a:H.t.get i=some b):(KO E H)[i]? =some (iH E i b):=by rw [XA (h.lt i b a)];simp [kX,a]
theorem Inv.cells(h:Inv w0 E H w){i t:Nat}{md:Mo}{b:List SC}(g:H.t.get i=some (.cl t md b)):
  ∃a t' c,w.heap[(E i).1]? =some (.cells a t' c)/\(md=.bw\/t'=t)/\b.length<=a.size/\a.toList.take b.length=b.map (SC.re E)/\md.ok (E i).2 b.length a.size c:=by
 have l:=(h.hp.res _ (aI (h.at g))).1;obtain⟨a,t',c,k,j,f,e,d⟩:=l;simp only [Hb]at f e d;exact⟨a,t',c,k,j,f,e,d⟩
end
end Go.Ce
namespace Go.Oe
open Go.Wk
open Go.Ce (Tr)
open Nat renaming one_pos → Ha
theorem gQ{a:Type}:∀(l:List a) (k:Nat),eX l k=l[k]?
 |[],_=>rfl
 |x::l,0=>rfl
 |x::l,k+1=>by rw [bV];exact gQ l k
theorem oV{a:Type}:∀(l:List a) (k:Nat) (y:a),iS l k y=l.set k y
 |[],_,_=>rfl
 |x::l,0,y=>rfl
 |x::l,k+1,y=>by simp [iS,oV l k y]
theorem nH{a:Type}:∀(l:List a) (k:Nat),zD l k=l.drop k
 |[],k=>by simp [zD]
 |x::l,0=>rfl
 |x::l,k+1=>by rw [ej];exact nH l k
theorem wI{a:Type}:∀{l:List a} {k:Nat} {q:List a},yZ l k=some q->q=l.take k/\k<=l.length
 |l,0,q,h=>by
  have:yZ l 0=some []:=by cases l<;>rfl
  rw [this]at h;cases h;simp
 |[],k+1,q,h=>by cases h
 |x::l,k+1,q,h=>by
  simp only [yZ]at h;split at h
  ·rename_i q' d;cases h;obtain⟨c,b⟩:=wI d;exact⟨by simp [c],aB6⟩
  ·cases h
theorem tw:∀{l:List SC} {k:Nat} {vs q:List SC},uJ l k vs=some q->k+vs.length<=l.length/\q=l.take k++vs++l.drop (k+vs.length)
 |l,0,[],q,h=>by
  have:uJ l 0 []=some l:=by cases l<;>rfl
  rw [this]at h;cases h;simp
 |[],0,v::vs,q,h=>by cases h
 |[],k+1,vs,q,h=>by cases vs<;>cases h
 |x::l,0,v::vs,q,h=>by
  simp only [uJ]at h;split at h
  ·rename_i q' b;cases h;obtain⟨c,a⟩:=tw b;simp at c a⊢;exact⟨aA0,a⟩
  ·cases h
 |x::l,k+1,vs,q,h=>by
  simp only [uJ]at h;split at h
  ·rename_i q' b;cases h;obtain⟨c,a⟩:=tw b;refine⟨by simp;omega, ?_⟩;rw [a];simp [Of]
  ·cases h
variable {l r:List SC}{n:Nat}
theorem rJ{q:List SC}(h:uJ l n r=some q)(j:Nat):q[j]? =if n<=j/\j<n+r.length then r[j-n]? else l[j]? :=by
 obtain⟨c,rfl⟩:=tw h;by_cases b:j<n
 ·rw [aA aA0,gJ,aH aA5,bO,aB b]
 ·by_cases a:j<n+r.length
  ·rw [aB ⟨aA0,a⟩,aH aA5,aN aA5];simp;congr 1;omega
  ·rw [aA aA0,aN aA5,bW];congr 1;simp;omega
theorem yK{q:List SC}(h:uJ l n r=some q):q.length=l.length:=by obtain⟨a,rfl⟩:=tw h;simp;omega
theorem LX:∀{l:List SC},knL l=true->∀x∈l,x.kn=true
 |[],_,x,hx=>by cases hx
 |y::l,h,x,hx=>by
  have h:=iE h;rcases aP.1 hx with rfl|hx
  ·exact h.1
  ·exact LX h.2 x hx
theorem YO(j:Nat):(V9 j).oneCell'=true:=by unfold V9;split<;>rfl
theorem SC.one(ρ:Nat->Ad)(c:SC):(c.v ρ).oneCell'=true:=by cases c<;>first|rfl|exact YO _
theorem TD(H:List Ob)(id:Nat):fV H id=(H[id]?.map Ob.len).getD 0:=by unfold fV;rw [gQ];cases H[id]? <;>rfl
def SC.ids:SC->List Nat
 |.p' id _=>[id]
 |.q' id _ _ _=>[id]
 |.l' id=>[id]
 |.k' id _=>[id]
 |.f' _ ids=>ids
 |.z' id a=>[id,a]
 |_=>[]
variable {a d:Nat->Ad}{c:SC}
theorem SC.zb(h:∀id∈c.ids,d id=a id):c.v d=c.v a:=by
 cases c<;>simp only [SC.v]
 case p' id off=>rw [h id aE3]
 case q' id j e off=>rw [h id aE3]
 case l' id=>rw [h id aE3]
 case k' id n=>rw [h id aE3]
 case f' k ids=>
  have:(ids.map fun id=>iJ (d id).b 0)=ids.map fun id=>iJ (a id).b 0:=L9 fun id hid=>by rw [h id hid]
  rw [this]
 case z' id ρ=>rw [h id aE3,h ρ aE3]
def SC.ok(n:Nat)(c:SC):Prop:=∀id∈c.ids,id<n
def SA.ok(n:Nat):SA->Prop
 |.c' x=>x.ok n
 |.a' l=>∀x∈l,x.ok n
def SV.ok(n:Nat):SV->Prop
 |.c' x=>x.ok n
 |.a' l=>∀x∈l,x.ok n
 |.t' l=>∀x∈l,x.ok n
 |_=>True
def Up(n:Nat)(ρ a:Nat->Ad):Prop:=∀id,id<n->a id=ρ id
theorem Up.refl:Up n a a:=fun _ _=>rfl
theorem Up.trans{n m:Nat}{ρ a ρ3:Nat->Ad}(h:Up n ρ a)(c:Up m a ρ3)(d:n<=m):Up n ρ ρ3:=
 fun id b=>(c id aA0).trans (h id b)
theorem SC.up(b:Up n a d)(h:c.ok n):c.v d=c.v a:=SC.zb fun id ρ=>b id (h id ρ)
theorem Uy(b:Up n a d)(h:∀x∈l,x.ok n):l.map (SC.v d)=l.map (SC.v a):=L9 fun x hx=>SC.up b (h x hx)
theorem SA.up{n:Nat}{ρ a:Nat->Ad}{c:SA}(b:Up n ρ a)(h:c.ok n):c.v a=c.v ρ:=by
 cases c with
 |c' x=>exact SC.up b h
 |a' l=>simp only [SA.v];rw [Uy b h]
theorem SV.up{n:Nat}{ρ a:Nat->Ad}{c:SV}(b:Up n ρ a)(h:c.ok n):c.v a=c.v ρ:=by
 cases c with
 |c' x=>simp only [SV.v];rw [SC.up b h]
 |a' l=>simp only [SV.v];rw [Uy b h]
 |t' l=>simp only [SV.v];rw [L9 fun x hx=>SA.up b (h x hx)]
 |_=>rfl
variable {m:Nat}
theorem SC.cQ(h:c.ok n)(a:n<=m):c.ok m:=fun id b=>Yr (h id b) a
theorem SV.cQ{n m:Nat}{c:SV}(h:c.ok n)(a:n<=m):c.ok m:=by
 cases c with
 |c' x=>exact SC.cQ h a
 |a' l=>exact fun x hx=>SC.cQ (h x hx) a
 |t' l=>
  intro x hx;have:=h x hx;cases x with
  |c' y=>exact SC.cQ this a
  |a' l=>exact fun y b=>SC.cQ (this y b) a
 |_=>trivial
theorem SA.R4(ρ:Nat->Ad)(x:SA):x.sv.v ρ=some (x.v ρ):=by cases x<;>rfl
theorem SA.Er{x:SA}(h:x.ok n):x.sv.ok n:=by cases x<;>exact h
variable {x:SV}
theorem SV.Ic{ρ:Nat->Ad}(h:x.cells=some l):∃v,x.v ρ=some v/\v.cells=(l.map (SC.v ρ)).toArray:=by
 cases x with
 |c' x=>cases h;refine⟨_,rfl, ?_⟩;have:=SC.one ρ x;rw [vS,eE];generalize x.v ρ=v at this⊢;cases v<;>first|rfl|simp [Value.oneCell']at this
 |a' i=>cases h;exact⟨_,rfl,rfl⟩
 |_=>cases h
theorem SV.Na(h:x.cells=some l)(hx:x.ok n):∀c∈l,c.ok n:=by
 cases x with
 |c' x=>cases h;intro c a;simp at a;subst a;exact hx
 |a' i=>cases h;exact hx
 |_=>cases h
theorem Ty.Wv:∀(t:Ty) (x:t.T),t.flat=true->(t.enc x).length=t.sz:=by
 intro t;induction t with
 |w' t e=>intro x h;exact e x h
 |pr a b d c=>intro x h;have h:=iE h;show(a.enc x.1++b.enc x.2).length=a.sz+b.sz;rw [bM,d _ h.1,c _ h.2]
 |i' k=>intro x h;rfl
 |c'=>intro x h;rfl
 |s'=>intro x h;rfl
 |b'=>intro x h;rfl
 |_=>intro x h;cases h
theorem Ty.av:∀(t:Ty) (x:t.T),∀v∈t.enc x,v.oneCell'=true:=by
 intro t;induction t with
 |w' t f=>intro x;exact f x
 |pr a b e d=>
  intro x v c;rcases aS.1 (show v∈a.enc x.1++b.enc x.2 from c)with h|h
  ·exact e _ v h
  ·exact d _ v h
 |i' k=>intro x v c;have:v=_:=aE.1 c;subst this;rfl
 |c'=>intro x v c;have:v=_:=aE.1 c;subst this;rfl
 |s'=>intro x v c;have:v=_:=aE.1 c;subst this;rfl
 |b'=>intro x v c;have:v=_:=aE.1 c;subst this;rfl
 |_=>intro x v c;cases c
variable {t:Ty}
theorem Ty.vE(h:t.flat=true):tC t.enc t.sz:=⟨fun x=>t.Wv x h,fun x=>t.av x⟩
theorem Ty.By:∀{t:Ty},t.flat=true->0<t.sz:=by
 intro t;induction t with
 |w' t e=>intro h;exact e h
 |pr a b c d=>intro h;have h:=iE h;have:=c h.1;show 0<a.sz+b.sz;omega
 |_=>intro h;exact Ha
theorem Ty.zE:∀(t:Ty) (s n:Nat) (x:t.T),t.flat=true->(t.lay s n x).2=[]/\∀ρ,(t.lay s n x).1.map (SC.v ρ)=t.enc x:=by
 intro t;induction t with
 |w' t g=>intro s n x h;exact g s n x h
 |pr a b d c=>
  intro s n x h;have h:=iE h;have f:=d s n x.1 h.1;have e:=c s (n+a.no) x.2 h.2;refine⟨?_,fun ρ=> ?_⟩
  ·show(a.lay s n x.1).2++(b.lay s (n+a.no) x.2).2=[];rw [f.1,e.1];rfl
  ·show((a.lay s n x.1).1++(b.lay s (n+a.no) x.2).1).map (SC.v ρ)=a.enc x.1++b.enc x.2;rw [Yo,f.2,e.2]
 |i' k=>intro s n x h;exact⟨rfl,fun _=>rfl⟩
 |c'=>intro s n x h;exact⟨rfl,fun _=>rfl⟩
 |s'=>intro s n x h;exact⟨rfl,fun _=>rfl⟩
 |b'=>intro s n x h;exact⟨rfl,fun _=>rfl⟩
 |_=>intro s n x h;cases h
theorem Ty.Ry:∀(t:Ty) (s n:Nat) (x:t.T),t.flat=true->∀c∈(t.lay s n x).1,c.ids=[]/\c.kn=true:=by
 intro t;induction t with
 |w' t g=>intro s n x h;exact g s n x h
 |pr a b f e=>
  intro s n x h c d;have h:=iE h;rcases aS.1 (show c∈(a.lay s n x.1).1++(b.lay s (n+a.no) x.2).1 from d)with d|d
  ·exact f s n x.1 h.1 c d
  ·exact e s _ x.2 h.2 c d
 |i' k=>intro s n x h c d;have:c=_:=aE.1 d;subst this;exact⟨rfl,rfl⟩
 |c'=>intro s n x h c d;have:c=_:=aE.1 d;subst this;exact⟨rfl,rfl⟩
 |s'=>intro s n x h c d;have:c=_:=aE.1 d;subst this;exact⟨rfl,rfl⟩
 |b'=>intro s n x h c d;have:c=_:=aE.1 d;subst this;exact⟨rfl,rfl⟩
 |_=>intro s n x h c d;cases h
theorem rI_v{k:IntKind}{y:Int}(h:c.rI k=some y)(ρ:Nat->Ad):c.v ρ=.int k y:=by
 cases c<;>simp only [SC.rI,reduceCtorEq]at h;rename_i b n;cases a:HE k b with
 |true=>rw [a]at h;cases h;rw [mK a];rfl
 |false=>rw [a]at h;cases h
theorem nu{y:UInt8}(h:c.rC=some y)(ρ:Nat->Ad):c.v ρ=bt y:=by cases c<;>simp only [SC.rC,reduceCtorEq]at h;cases h;rfl
theorem rS_v{y:aC}(h:c.rS=some y)(ρ:Nat->Ad):c.v ρ=str y:=by cases c<;>simp only [SC.rS,reduceCtorEq]at h;cases h;rfl
variable {y:Bool}
theorem U2(h:c.rB=some y)(ρ:Nat->Ad):c.v ρ=.bool y:=by cases c<;>simp only [SC.rB,reduceCtorEq]at h<;>cases h<;>rfl
theorem XG:∀(t:Ty) (l:List SC) (x:t.T) (r:List SC),t.AK l=some (x,r)->t.flat=true/\∀ρ,l.map (SC.v ρ)=t.enc x++r.map (SC.v ρ):=by
 intro t;induction t with
 |w' t o=>intro l x r h;exact o l x r h
 |pr a b f e=>
  intro l x r h;simp only [Ty.AK]at h;split at h
  ·rename_i n g q;split at h
   ·rename_i m s p;cases h;have j:=f l n g q;have i:=e g m _ p;refine⟨by simp [Ty.flat,j.1,i.1],fun ρ=> ?_⟩;rw [j.2,i.2,<-gJ];rfl
   ·cases h
  ·cases h
 |i' k=>
  intro l x r h;cases l with
  |nil=>cases h
  |cons c l=>
   simp only [Ty.AK]at h;split at h
   ·rename_i y d;cases h;exact⟨rfl,fun ρ=>by rw [vS,rI_v d];rfl⟩
   ·cases h
 |c'=>
  intro l x r h;cases l with
  |nil=>cases h
  |cons c l=>
   simp only [Ty.AK]at h;split at h
   ·rename_i y d;cases h;exact⟨rfl,fun ρ=>by rw [vS,nu d];rfl⟩
   ·cases h
 |s'=>
  intro l x r h;cases l with
  |nil=>cases h
  |cons c l=>
   simp only [Ty.AK]at h;split at h
   ·rename_i y d;cases h;exact⟨rfl,fun ρ=>by rw [vS,rS_v d];rfl⟩
   ·cases h
 |b'=>
  intro l x r h;cases l with
  |nil=>cases h
  |cons c l=>
   simp only [Ty.AK]at h;split at h
   ·rename_i y d;cases h;exact⟨rfl,fun ρ=>by rw [vS,U2 d];rfl⟩
   ·cases h
 |_=>intro l x r h;cases h
theorem N3{t:Ty}:∀{m:Nat} {l:List SC} {a:List t.T},pU t m l=some a->a.length=m/\(m≠0->t.flat=true)/\∀ρ,l.map (SC.v ρ)=a.flatMap t.enc
 |0,l,a,h=>by
  cases l with
  |nil=>cases h;exact⟨rfl,fun h=>absurd rfl h,fun _=>rfl⟩
  |cons c l=>cases h
 |m+1,l,a,h=>by
  simp only [pU]at h;split at h
  ·rename_i y b e;split at h
   ·rename_i q d;cases h;obtain⟨j,k,i⟩:=N3 d;obtain⟨g,f⟩:=XG t l y b e;exact⟨by simp [j],fun _=>g,fun ρ=>by rw [f,i];rfl⟩
   ·cases h
  ·cases h
theorem so(t:Ty)(l:List t.T)(j:Int):TB t l j= @el t.T t.y6 l j:=by cases t<;>first|rfl|(show at_ _ _=_;rfl)
open Nat renaming beq → cV
def yk(ρ:Nat->Ad)(cs:List SC)(vs:List Value):Prop:=vs.length=cs.length/\∀(j:Nat) (c:SC),cs[j]? =some c->c.kn=true->vs[j]? =some (c.v ρ)
def Xz(w0:World)(S0:List Nat)(d:Ad)(t:Ty)(l:List t.T):Prop:=
 Rd w0 d.a (l.flatMap t.enc)/\(l.flatMap t.enc≠[]->∀p,d.a=some p->p.block∉S0)/\l.length<=d.cap
def RO(w0:World)(S0:List Nat)(ρ:Nat->Ad)(id:Nat):Ob->cF->Prop
 |.bl e cs,r=>∃c,r=aQ (ρ id).b c e/\yk ρ cs c
 |.rw e _ t l,r=>r=aW t.enc e t.sz (ρ id).o (ρ id).a (ρ id).cap l
 |.ro t l,r=>r.own=none/\Xz w0 S0 (ρ id) t l
 |.br n l,r=>r=fL (.slice (ρ id).a n (ρ id).cap) n l
 |.dd _,r=>True
def Mt(w0:World)(S0:List Nat)(ρ:Nat->Ad)(H:List Ob)(L:List cF):Prop:=
 L.length=H.length/\∀(id:Nat) (o:Ob),H[id]? =some o->o.len=(ρ id).ln/\∃r,L[id]? =some r/\RO w0 S0 ρ id o r
def Src.ad(ρ:Nat->Ad):Src->Ad
 |.o' id _=>ρ id
 |.n'=>⟨none,none,0,false,0⟩
 |.k' id m _=>⟨some (ρ id).b,some ⟨(ρ id).b,0,none⟩,m,false,m⟩
 |.z' t=>⟨none,none,0,t,0⟩
def SJ(any:Bool)(ρ:Nat->Ad)(H:List Ob)(d:Nat->Ad):Src->Ob->Prop
 |s,.bl e a=>∃id cs,s=.o' id true/\H[id]? =some (.bl e cs)/\cs.map (SC.v ρ)=a.map (SC.v d)/\(∀c∈cs,c.kn=true)/\∀c∈a,c.kn=true
 |s,.rw e b t l=>(∃id,s=.o' id true/\H[id]? =some (.rw e b t l))\/(s=.n'/\l=[])\/(∃id m cs,s=.k' id m true/\H[id]? =some (.bl e cs)/\pU t m cs=some l/\t.flat=true/\m<=1048576)
 |s,.br n l=>n=l.length/\∃id m,s=.o' id true/\H[id]? =some (.br m l)
 |s,.ro t l=>(∃id,s=.o' id false/\(bif any then vJ t H[id]? else WX t H[id]?)=some l)\/(s=.n'/\l=[])\/(any=true/\∃id m e cs,s=.k' id m false/\H[id]? =some (.bl e cs)/\pU t m cs=some l)
 |s,.dd n=>n=0/\((∃t,s=.z' t)\/∃f,s=.o' f false/\H[f]? =some (.dd 0))
structure At (t:Ty) (ρ:Nat->Ad) (me:Nat) (ss:List Src) (cS:Nat->Ad) (Zt n:Nat):Prop where
 sf:t.tz=true->(cS Zt).b=(ρ me).b
 ad:∀(j:Nat) (s:Src),ss[j]? =some s->cS (n+j)=s.ad ρ
variable {f:List Src}
theorem At.left{b:Ty}{g:List Src}{e:Nat}(h:At (.pr t b) a n (f++g) d m e):At t a n f d m e:=
 ⟨fun i=>h.sf (by simp [Ty.tz,i]),fun j s c=>h.ad j s (by rw [aH (aD.1 c).1];exact c)⟩
theorem At.right{b:Ty}{c:List Src}{e:Nat}(h:At (.pr t b) a n (f++c) d m e):At b a n c d m (e+f.length):=
 ⟨fun g=>h.sf (by simp [Ty.tz,g]),fun j s i=>by rw [Bn];exact h.ad (f.length+j) s (by rw [aN aA0,<-i];congr 1;omega)⟩
theorem Ty.Wh:∀(t:Ty) (s n:Nat) (x:t.T),(t.lay s n x).1.length=t.cn:=by
 intro t;induction t with
 |w' t e=>intro s n x;exact e s n x
 |pr a b d c=>intro s n x;show((a.lay s n x.1).1++(b.lay s (n+a.no) x.2).1).length=a.cn+b.cn;rw [bM,d,c]
 |_=>intro s n x;rfl
theorem Ty.eR:∀(t:Ty) (s n:Nat) (x:t.T),(t.lay s n x).2.length=t.no:=by
 intro t;induction t with
 |w' t c=>intro s n x;exact c s n x
 |pr a b f d=>intro s n x;show((a.lay s n x.1).2++(b.lay s (n+a.no) x.2).2).length=a.no+b.no;rw [bM,f,d]
 |p' e t c=>intro s n x;show(_::(t.lay n (n+1) x).2).length=t.no+1;rw [bR,c]
 |f' k t c=>intro s n x;exact c s n x
 |_=>intro s n x;rfl
theorem yX:∀{l:List SC} {id:Nat},id∈kU l->∃c∈l,id∈c.ids
 |[],id,h=>by cases h
 |x::l,id,h=>by
  cases x
  case p' i off=>
   rcases aP.1 (show id∈i::kU l from h)with h|h
   ·subst h;exact⟨_,fQ,by simp [SC.ids]⟩
   ·obtain⟨c,b,a⟩:=yX h;exact⟨c,fB _ b,a⟩
  all_goals
   obtain⟨c,b,a⟩:=yX (show id∈kU l from h);exact⟨c,fB _ b,a⟩
theorem Ty.Da:∀(t:Ty) (s n:Nat) (x:t.T),∀c∈(t.lay s n x).1,c.kn=true/\∀id∈c.ids,id=s\/(n<=id/\id<n+(t.lay s n x).2.length):=by
 intro t;induction t with
 |w' t g=>intro s n x;exact g s n x
 |pr a b m l=>
  intro s n x c d;have o:((Ty.pr a b).lay s n x).2.length=a.no+(b.lay s (n+a.no) x.2).2.length:=by show((a.lay s n x.1).2++(b.lay s (n+a.no) x.2).2).length=_;rw [bM,Ty.eR]
  have p:=a.eR s n x.1;rcases aS.1 (show c∈(a.lay s n x.1).1++(b.lay s (n+a.no) x.2).1 from d)with d|d
  ·obtain⟨j,i⟩:=m s n x.1 c d;refine⟨j,fun id f=> ?_⟩;rcases i id f with h|h
   ·exact .inl h
   ·right;rw [o];omega
  ·obtain⟨j,i⟩:=l s _ x.2 c d;refine⟨j,fun id f=> ?_⟩;rcases i id f with h|h
   ·exact .inl h
   ·right;rw [o];omega
 |f' k t g=>intro s n x c d;have:c=_:=aE.1 d;subst this;refine⟨rfl,fun id f=> ?_⟩;obtain⟨q,j,i⟩:=yX (show id∈kU (t.lay s n x).1 from f);exact(g s n x q j).2 id i
 |p' e t g=>intro s n x c d;have:c=_:=aE.1 d;subst this;refine⟨rfl,fun id f=> ?_⟩;have:id=n:=aE.1 f;subst this;exact .inr ⟨eV _,by show id<id+(_::_:List Ob).length;simp⟩
 |l' e b t g=>intro s n x c d;have:c=_:=aE.1 d;subst this;refine⟨rfl,fun id f=> ?_⟩;have:id=n:=aE.1 f;subst this;exact .inr ⟨eV _,vT _⟩
 |r' t g=>intro s n x c d;have:c=_:=aE.1 d;subst this;refine⟨rfl,fun id f=> ?_⟩;have:id=n:=aE.1 f;subst this;exact .inr ⟨eV _,vT _⟩
 |y'=>intro s n x c d;have:c=_:=aE.1 d;subst this;refine⟨rfl,fun id f=> ?_⟩;have:id=n:=aE.1 f;subst this;exact .inr ⟨eV _,vT _⟩
 |z'=>
  intro s n x c d;have:c=_:=aE.1 d;subst this;refine⟨rfl,fun id f=> ?_⟩;have:id=s\/id=n:=by simpa [SC.ids] using f
  rcases this with h|h
  ·exact .inl h
  ·subst h;exact .inr ⟨eV _,vT _⟩
 |u'=>intro s n x c d;cases d
 |sm a b _ _=>intro s n x c d;cases d
 |_=>intro s n x c d;have:c=_:=aE.1 d;subst this;exact⟨rfl,fun id f=>by cases f⟩
theorem yL:∀(a b:List SC),kU (a++b)=kU a++kU b
 |[],b=>rfl
 |x::a,b=>by have:=yL a b;cases x<;>simp [kU,this]
theorem XQ:∀(t:Ty) (s n:Nat) (x:t.T),t.XR=true->(t.lay s n x).1=(kU (t.lay s n x).1).map fun id=>.p' id 0:=by
 intro t;induction t with
 |pr a b d c=>intro s n x h;have h:=iE h;show(a.lay s n x.1).1++(b.lay s (n+a.no) x.2).1=(kU ((a.lay s n x.1).1++(b.lay s (n+a.no) x.2).1)).map _;rw [yL,Yo,<-d s n x.1 h.1,<-c _ _ _ h.2]
 |p' e t f=>intro s n x h;rfl
 |u'=>intro s n x h;rfl
 |_=>intro s n x h;cases h
variable {H:List Ob}{e:Ob}
theorem nG(h:H[n]? =some e):fV H n=e.len:=by rw [TD,h];rfl
variable {o:Option Ob}{b:List t.T}
theorem Tn(d:∀m x,o=some (.br m x)->x.length=m)(h:vJ t o=some b):∃ob,o=some ob/\ob.len=b.length:=by
 unfold vJ at h;split at h
 ·rename_i e l t2 c;split at h
  ·rename_i a;obtain rfl:=Ty.kE a;cases h;exact⟨_,rfl,rfl⟩
  ·cases h
 ·rename_i t2 c;split at h
  ·rename_i a;obtain rfl:=Ty.kE a;cases h;exact⟨_,rfl,rfl⟩
  ·cases h
 ·rename_i m c;have:=d m c rfl;unfold strOf at h;split at h
  ·rename_i a;obtain rfl:=Ty.kE a;cases h;exact⟨_,rfl,this.symm⟩
  ·cases h
 ·cases h
theorem Cg(h:WX t o=some b):o=some (.ro t b):=by
 unfold WX at h;split at h
 ·rename_i t2 l;split at h
  ·rename_i a;obtain rfl:=Ty.kE a;cases h;rfl
  ·cases h
 ·cases h
theorem tQ{q:Nat×Nat}(h:rwE o=some q)(a:rowOf t o=some b):o=some (.rw q.1 q.2 t b):=by
 unfold rwE at h;split at h
 ·rename_i e l t2 d;cases h;unfold rowOf at a;simp only at a;split at a
  ·rename_i c;obtain rfl:=Ty.kE c;cases a;rfl
  ·cases a
 ·cases h
variable {g:Type}
theorem nQ{a:SC->Option g}{x:g}(h:qs a l=some (x,r,f)):∃c,l=c::r/\a c=some x/\f=[]:=by
 cases l with
 |nil=>cases h
 |cons c l=>
  simp only [qs]at h;split at h
  ·rename_i y b;cases h;exact⟨c,rfl,b,rfl⟩
  ·cases h
structure RdOk (any:Bool) (H:List Ob) (t:Ty) (me:Nat) (l:List SC) (x:t.T) (r:List SC) (ss:List Src):Prop where
 no:ss.length=t.no
 kn:∃us,l=us++r/\∀c∈us,c.kn=true
 to:∀(ρ cS:Nat->Ad) (Zt n:Nat),At t ρ me ss cS Zt n->
  l.map (SC.v ρ)=(t.lay Zt n x).1.map (SC.v cS)++r.map (SC.v ρ)/\∀(j:Nat) (s:Src) (o:Ob),ss[j]? =some s->(t.lay Zt n x).2[j]? =some o->SJ any ρ H cS s o
theorem wC{x:t.T}{s:Src}{g:Nat->SC}(m:c.kn=true)(d:t.no=1)(o:∀r w,t.lay r w x=([g w],[e]))
  (i:∀(ρ a:Nat->Ad) (w:Nat),a w=s.ad ρ->c.v ρ=(g w).v a) (k:∀(ρ a:Nat->Ad),SJ y ρ H a s e):RdOk y H t n (c::l) x l [s]:=by
 refine⟨by rw [d];rfl,⟨[c],rfl,fun u h=>by rw [aE.1 h];exact m⟩,fun ρ a b w h=> ?_⟩;rw [o];refine⟨?_,fun j r q f p=> ?_⟩
 ·have:=i ρ a w (h.ad 0 s rfl);simp [this]
 ·cases j with
  |zero=>cases f;cases p;exact k ρ a
  |succ j=>simp at f
def IX(H:List Ob):Prop:=∀(id m:Nat) (x:aC),H[id]? =some (.br m x)->x.length=m
theorem dJ{a:Option g}{r:g}(h:(bif y then a else none)=some r):y=true/\a=some r:=by
 cases y with
 |true=>exact⟨rfl,h⟩
 |false=>cases h
theorem XD(any:Bool)(H:List Ob)(V:IX H):∀(t:Ty) (self:Nat) (l:List SC) (x:t.T) (r:List SC) (ss:List Src),t.rd any H self l=some (x,r,ss)->RdOk any H t self l x r ss:=by
 intro t;induction t with
 |i' k=>intro self l x r ss h;obtain⟨c,rfl,w,rfl⟩:=nQ h;exact⟨rfl,⟨[c],rfl,fun c2 h=>by rw [aE.1 h];cases c<;>first|rfl|cases w⟩,fun u f d n h=>⟨by rw [vS,rI_v w];rfl,fun j s o p=>by simp at p⟩⟩
 |c'=>intro self l x r ss h;obtain⟨c,rfl,w,rfl⟩:=nQ h;exact⟨rfl,⟨[c],rfl,fun c2 h=>by rw [aE.1 h];cases c<;>first|rfl|cases w⟩,fun u f d n h=>⟨by rw [vS,nu w];rfl,fun j s o p=>by simp at p⟩⟩
 |s'=>intro self l x r ss h;obtain⟨c,rfl,w,rfl⟩:=nQ h;exact⟨rfl,⟨[c],rfl,fun c2 h=>by rw [aE.1 h];cases c<;>first|rfl|cases w⟩,fun u f d n h=>⟨by rw [vS,rS_v w];rfl,fun j s o p=>by simp at p⟩⟩
 |b'=>intro self l x r ss h;obtain⟨c,rfl,w,rfl⟩:=nQ h;exact⟨rfl,⟨[c],rfl,fun c2 h=>by rw [aE.1 h];cases c<;>first|rfl|cases w⟩,fun u f d n h=>⟨by rw [vS,U2 w];rfl,fun j s o p=>by simp at p⟩⟩
 |u'=>intro self l x r ss h;cases h;exact⟨rfl,⟨[],rfl,fun c h=>by cases h⟩,fun u f d n h=>⟨rfl,fun j s o p=>by simp at p⟩⟩
 |w' t J=>intro self l x r ss h;exact⟨(J self l x r ss h).no,(J self l x r ss h).kn,fun u f d n kX=>(J self l x r ss h).to u f d n ⟨kX.sf,kX.ad⟩⟩
 |pr a b a5 a4=>
  intro self l x r ss h;simp only [Ty.rd]at h;split at h
  ·rename_i y1 l1 s1 R;split at h
   ·rename_i y2 E s2 hq;cases h;have Y:=a5 self l y1 l1 s1 R;have P:=a4 self l1 y2 _ s2 hq;obtain⟨us,K,N⟩:=Y.kn;obtain⟨ws,a8,a7⟩:=P.kn;refine⟨by rw [bM,Y.no,P.no];rfl,⟨us++ws,by rw [K,a8,gJ],fun c w=>(aS.1 w).elim (N c) (a7 c)⟩,fun u f d n kX=> ?_⟩;have hl:s1.length=(a.lay d n y1).2.length:=by rw [Y.no,Ty.eR]
    obtain⟨p,I⟩:=Y.to u f d n kX.left;obtain⟨h3,h4⟩:=P.to u f d (n+a.no) (by have:=kX.right;rwa [Y.no]at this);refine⟨?_,fun j s o z A=> ?_⟩
    ·show _=((a.lay d n y1).1++(b.lay d (n+a.no) y2).1).map _++_;rw [p,h3,Yo,gJ]
    ·have L:((a.lay d n y1).2++(b.lay d (n+a.no) y2).2)[j]? =some o:=A;by_cases G:j<s1.length
     ·rw [aH G]at z;rw [aH aA0]at L;exact I j s o z L
     ·rw [aN aA0]at z;rw [aN aA0,<-hl]at L;exact h4 _ s o z L
   ·cases h
  ·cases h
 |sm a b _ _=>intro self l x r ss h;cases h
 |l' e b t J=>
  intro self l x r ss h;simp only [Ty.rd]at h;split at h
  ·cases h;exact wC (g:=fun n=>.l' n) rfl rfl (fun _ _=>rfl) (fun u f n p=>by simp [SC.v,p,Src.ad]) (fun _ _=>.inr (.inl ⟨rfl,rfl⟩))
  ·rename_i id E;split at h
   ·rename_i q hq;cases D:cV q.1 e with
    |false=>rw [D]at h;cases h
    |true=>
     cases P:cV q.2 b with
     |false=>rw [D,P]at h;cases h
     |true=>
      rw [D,P]at h;simp only [aL]at h;split at h
      ·rename_i y C;cases h;have B:=tQ hq C;rw [gQ,iL D,iL P]at B;exact wC (g:=fun n=>.l' n) rfl rfl (fun _ _=>rfl) (fun u f n p=>by simp [SC.v,p,Src.ad]) (fun _ _=>.inl ⟨id,rfl,B⟩)
      ·cases h
   ·cases h
  ·rename_i id m E;split at h
   ·rename_i Z cs B;rw [gQ]at B;cases D:cV Z e with
    |false=>rw [D]at h;cases h
    |true=>
     rw [D]at h;simp only [aL]at h;have h:=dJ h;have hm:=dJ h.2;have I:=hm.2;split at I
     ·rename_i y C;cases I;rw [iL D]at B;refine wC (g:=fun n=>.l' n) rfl rfl (fun _ _=>rfl) (fun u f n p=> ?_) (fun _ _=>.inr (.inr ⟨id,m,cs,rfl,B,C,h.1,Ys hm.1⟩));have:=(N3 C).1;simp [SC.v,p,Src.ad]
     ·cases I
   ·cases h
  ·cases h
 |y'=>
  intro self l x r ss h;simp only [Ty.rd]at h;split at h
  ·rename_i id E;split at h
   ·rename_i m y B;cases h;rw [gQ]at B;have hm:=V id m x B;exact wC (g:=fun n=>.l' n) rfl rfl (fun _ _=>rfl) (fun u f n p=>by simp [SC.v,p,Src.ad]) (fun _ _=>⟨rfl,id,m,rfl,B⟩)
   ·cases h
  ·cases h
 |r' t J=>
  intro self l x r ss h;simp only [Ty.rd]at h;split at h
  ·cases h;exact wC (g:=fun n=>.l' n) rfl rfl (fun _ _=>rfl) (fun u f n p=>by simp [SC.v,p,Src.ad]) (fun _ _=>.inr (.inl ⟨rfl,rfl⟩))
  ·rename_i id E;split at h
   ·rename_i y C;cases h
    rw [gQ]at C;have b6:fV H id=x.length:=by
     cases any with
     |true=>obtain⟨ob,p,I⟩:=Tn (fun m x hx=>V id m x hx) (show vJ t H[id]? =some x from C);rw [nG p,I]
     |false=>have p:=Cg (show WX t H[id]? =some x from C);rw [nG p];rfl
    exact wC (g:=fun n=>.l' n) rfl rfl (fun _ _=>rfl) (fun u f n p=>by simp [SC.v,p,Src.ad]) (fun _ _=>.inl ⟨id,rfl,C⟩)
   ·cases h
  ·rename_i id m E;cases any with
   |false=>cases h
   |true=>
    simp only [aL]at h;split at h
    ·rename_i Z cs B;rw [gQ]at B;split at h
     ·rename_i y C;cases h;refine wC (g:=fun n=>.l' n) rfl rfl (fun _ _=>rfl) (fun u f n p=> ?_) (fun _ _=>.inr (.inr ⟨rfl,id,m,Z,cs,rfl,B,C⟩));have:=(N3 C).1;simp [SC.v,p,Src.ad]
     ·cases h
    ·cases h
  ·cases h
 |p' e t J=>
  intro self l x r ss h;simp only [Ty.rd]at h;split at h
  ·rename_i id off E;split at h
   ·rename_i Z cs B;rw [gQ]at B;cases A:cV off 0 with
    |false=>rw [A]at h;cases h
    |true=>
     cases D:cV Z e with
     |false=>rw [A,D]at h;cases h
     |true=>
      rw [A,D]at h;simp only [aL]at h;split at h
      ·rename_i y M C;cases h;rw [iL D]at B;have Q:=J id cs x [] M C;obtain⟨us,K,N⟩:=Q.kn;rw [gA]at K;subst K;refine⟨by rw [bR,Q.no];rfl,⟨[_],rfl,fun c w=>by rw [aE.1 w];rfl⟩,fun u f d n kX=> ?_⟩;have X:f n=u id:=kX.ad 0 _ rfl;have W:At t u id M f n (n+1):=⟨fun _=>by rw [X],fun j s G=>by rw [Of];exact kX.ad (j+1) s aF1⟩;obtain⟨p,I⟩:=Q.to u f n (n+1) W;refine⟨?_,fun j s o z S=> ?_⟩
       ·show(SC.p' id off).v u::_=[(SC.p' n 0).v f]++_;simp [SC.v,X,iL A]
       ·cases j with
        |zero=>cases z;have:Ob.bl e (t.lay n (n+1) x).1=o:=aJ S;subst this;refine⟨id,cs,rfl,B,by simpa using p,N,fun c w=>(Ty.Da t n (n+1) x c w).1⟩
        |succ j=>exact I j s o (by simpa using z) (by simpa [Ty.lay] using S)
      ·cases h
   ·cases h
  ·cases h
 |z'=>
  intro self l x r ss h;simp only [Ty.rd]at h;split at h
  ·rename_i j E;cases G:cV j 0 with
   |false=>rw [G]at h;cases h
   |true=>
    rw [G]at h;cases h;refine⟨rfl,⟨[_],rfl,fun c w=>by rw [aE.1 w];rfl⟩,fun u f d n kX=>⟨?_,fun i s o z A=> ?_⟩⟩
    ·have:=kX.ad 0 _ rfl;simp only [Bm]at this;simp [Ty.lay,SC.v,this,Src.ad,iL G,V9]
    ·cases i with
     |zero=>cases z;cases(aJ A);exact⟨rfl,.inl ⟨_,rfl⟩⟩
     |succ i=>simp at z
  ·rename_i id off E;cases A:cV off 0 with
   |false=>rw [A]at h;cases h
   |true=>
    cases O:cV id self with
    |false=>rw [A,O]at h;cases h
    |true=>
     rw [A,O]at h;cases h;refine⟨rfl,⟨[_],rfl,fun c w=>by rw [aE.1 w];rfl⟩,fun u f d n kX=>⟨?_,fun i s o z A=> ?_⟩⟩
     ·have:=kX.ad 0 _ rfl;simp only [Bm]at this;have F:=kX.sf rfl;rw [<-iL O]at F;simp [Ty.lay,SC.v,this,Src.ad,iL A,iJ,F]
     ·cases i with
      |zero=>cases z;cases(aJ A);exact⟨rfl,.inl ⟨_,rfl⟩⟩
      |succ i=>simp at z
  ·rename_i id fl E;cases O:cV id self with
   |false=>rw [O]at h;cases h
   |true=>
    rw [O]at h;simp only [aL]at h;split at h
    ·rename_i U;cases h;rw [gQ]at U;refine⟨rfl,⟨[_],rfl,fun c w=>by rw [aE.1 w];rfl⟩,fun u f d n kX=>⟨?_,fun i s o z A=> ?_⟩⟩
     ·have:=kX.ad 0 _ rfl;simp only [Bm]at this;have F:=kX.sf rfl;rw [<-iL O]at F;simp [Ty.lay,SC.v,this,Src.ad,F]
     ·cases i with
      |zero=>cases z;cases(aJ A);exact⟨rfl,.inr ⟨fl,rfl,U⟩⟩
      |succ i=>simp at z
    ·cases h
  ·cases h
 |o' j=>
  intro self l x r ss h;simp only [Ty.rd]at h;split at h
  ·rename_i j2 E;cases G:cV j j2 with
   |false=>rw [G]at h;cases h
   |true=>rw [G]at h;cases h;exact⟨rfl,⟨[_],rfl,fun c w=>by rw [aE.1 w];rfl⟩,fun u f d n kX=>⟨by simp [Ty.lay,SC.v,iL G],fun i s o z A=>by simp at z⟩⟩
  ·cases h
 |f' k t J=>
  intro self l x r ss h;simp only [Ty.rd]at h;split at h
  ·rename_i k2 a6 E;cases hk:cV k k2 with
   |false=>rw [hk]at h;cases h
   |true=>
    cases R:t.XR with
    |false=>rw [hk,R]at h;cases h
    |true=>
     rw [hk,R]at h;simp only [aL]at h;split at h
     ·rename_i y M C;cases h;have Q:=J self _ x [] ss C;refine⟨Q.no,⟨[_],rfl,fun c w=>by rw [aE.1 w];rfl⟩,fun u f d n kX=> ?_⟩;obtain⟨p,I⟩:=Q.to u f d n ⟨kX.sf,kX.ad⟩;refine⟨?_,I⟩;have h3:=XQ t d n x R;rw [h3,eE,gA,jL,jL]at p;have h4:(a6.map fun id=>iJ (u id).b 0)=(kU (t.lay d n x).1).map fun id=>iJ (f id).b 0:=p;simp [Ty.lay,SC.v,iL hk,h4]
     ·cases h
  ·cases h
open Nat renaming blt → fZ
theorem Hp.pick{w0 w:World}{S:List Nat}{L L2:List cF}(M:List (Option Nat))(h:Hp w0 S L w)
  (o:∀(j:Nat) (r:cF),L2[j]? =some r->r.holds w/\∀b,r.own=some b->∃i a,M[j]? =some (some i)/\L[i]? =some a/\a.own=some b)
  (D:∀j k i:Nat,M[j]? =some (some i)->M[k]? =some (some i)->j=k):Hp w0 S L2 w:=by
 refine⟨h.os,h.tape,h.output,h.size,h.below,fun r A=> ?_, ?_⟩
 ·obtain⟨j,m⟩:=kK.1 A;obtain⟨H,G⟩:=o j r m;refine⟨H,fun b q=> ?_⟩;obtain⟨i,a,_,t,g⟩:=G b q;exact(h.res a (aI t)).2 b g
 ·refine eU.2 fun j k m B C b q p=> ?_;obtain⟨i,a,F,t,g⟩:=(o j _ (aM m)).2 b q;obtain⟨f,z,u,s,e⟩:=(o k _ (aM B)).2 b p;obtain⟨d,y⟩:=aD.1 t;obtain⟨c,x⟩:=aD.1 s;have v:=eU.1 h.sep
  have:i=f:=by
   rcases Nat.lt_trichotomy i f with l|E|n
   ·exact absurd (by rw [x];exact e) (v i f d c l b (by rw [y];exact g))
   ·exact E
   ·exact absurd (by rw [y];exact g) (v f i c d n b (by rw [x];exact e))
  subst this;have:=D j k i F u;omega
theorem lI(S:St)(d t:Nat)(v:SV):(S.set d v).at t=if t=d then v else S.at t:=by
 unfold St.at St.set;simp only;by_cases h:t=d
 ·subst h;rw [Go.Ce.Tr.zV];simp
 ·rw [Go.Ce.Tr.zV,aA h,aA h]
theorem uG(S:St)(d:Option Nat)(v:SV)(t:Nat):(S.uI d v).at t=if d=some t then v else S.at t:=by
 cases d with
 |none=>simp [St.uI]
 |some d=>
  simp only [St.uI,lI,aU];by_cases h:t=d
  ·subst h;simp
  ·rw [aA h,aA (fun e=>h e.symm)]
structure Rel (C:Cx) (w0:World) (S0:List Nat) (ρ:Nat->Ad) (S:St) (F:Nat->Value) (w:World):Prop where
 gl:∀g id,C.G g=some id->id<S.H.length/\(ρ id).a=some ⟨g,0,none⟩
 fr:∀(t:Nat) (v:Value),(S.at t).v ρ=some v->F t=v
 fo:∀t,(S.at t).ok S.H.length
 ho:∀(id e:Nat) (cs:List SC),S.H[id]? =some (.bl e cs)->∀c∈cs,c.ok S.H.length
 mem:∃L,Hp w0 S0 L w/\Mt w0 S0 ρ S.H L
def lJ(f:List Rg)(id:Nat)(ρ g:Nat->Ad)(d:Option Ob):Ob->Prop
 |.bl e cs=>(∀j,j<=cs.length->fE id j f=true)\/∃a,d=some (.bl e a)/\a.length=cs.length/\∀(j:Nat) (c:SC),cs[j]? =some c->fE id j f=true\/∃h,a[j]? =some h/\(c.kn=true->h.kn=true/\h.v g=c.v ρ)
 |.rw e b t l=>fE id 0 f=true\/d=some (.rw e b t l)
 |.br m l=>fE id 0 f=true\/d=some (.br m l)
 |.ro t l=>d=some (.ro t l)
 |.dd n=>d=some (.dd n)
structure Le (nb:Nat) (al:List Rg) (ρ:Nat->Ad) (H:List Ob) (cS:Nat->Ad) (H2:List Ob):Prop where
 len:H.length<=H2.length
 up:Up H.length ρ cS
 kp:∀(id:Nat) (o:Ob),id<nb->H[id]? =some o->lJ al id ρ cS H2[id]? o
variable {k:List Rg}
theorem lJ.refl:lJ k n a a (some e) e:=by
 cases e with
 |bl o cs=>exact .inr ⟨cs,rfl,rfl,fun j c h=>.inr ⟨c,h,fun ρ=>⟨ρ,rfl⟩⟩⟩
 |rw o b t l=>exact .inr rfl
 |br m l=>exact .inr rfl
 |ro t l=>exact rfl
 |dd d=>exact rfl
theorem Le.refl{a:Nat}{b:List Rg}{ρ:Nat->Ad}{H:List Ob}:Le a b ρ H ρ H:=⟨eV _,Up.refl,fun id o _ h=>by rw [h];exact lJ.refl⟩
theorem lJ.mono{ρ:List Rg}{id:Nat}(h:lJ k id a d o e)(f:∀j,fE id j k=true->fE id j ρ=true):lJ ρ id a d o e:=by
 cases e with
 |bl i cs=>
  rcases h with h|⟨g,u,s,r⟩
  ·exact .inl fun j p=>f j (h j p)
  ·exact .inr ⟨g,u,s,fun j c q=>(r j c q).imp (f j) fun h=>h⟩
 |rw i b t l=>exact h.imp (f 0) fun h=>h
 |br m l=>exact h.imp (f 0) fun h=>h
 |ro t l=>exact h
 |dd n=>exact h
theorem Le.mono{d a:Nat}{e c:List Rg}{ρ b:Nat->Ad}{H H2:List Ob}(h:Le d e ρ H b H2)(k:a<=d)(g:∀id j,id<a->fE id j e=true->fE id j c=true):Le a c ρ H b H2:=
 ⟨h.len,h.up,fun id o i f=>(h.kp id o aA0 f).mono fun j=>g id j i⟩
theorem Le.trans{r:Nat}{w:List Rg}{ρ k ρ3:Nat->Ad}{H H2 x:List Ob}(h:Le r w ρ H k H2)(g:Le r w k H2 ρ3 x):Le r w ρ H ρ3 x:=by
 refine⟨qN h.len g.len,h.up.trans g.up h.len,fun id o i y=> ?_⟩;have f:=h.kp id o i y;cases o with
 |bl e cs=>
  rcases f with f|⟨E,p,K,D⟩
  ·exact .inl f
  ·rcases g.kp id _ i p with C|⟨v,B,J,A⟩
   ·exact .inl fun j I=>C j aA0
   ·refine .inr ⟨v,B,aA0,fun j c z=> ?_⟩;rcases D j c z with u|⟨G,u,d⟩
    ·exact .inl u
    ·rcases A j G u with a|⟨F,a,q⟩
     ·exact .inl a
     ·exact .inr ⟨F,a,fun s=>⟨(q (d s).1).1,((q (d s).1).2).trans (d s).2⟩⟩
 |rw e b t l=>exact f.elim .inl fun p=>g.kp id _ i p
 |br m l=>exact f.elim .inl fun p=>g.kp id _ i p
 |ro t l=>exact g.kp id _ i f
 |dd n=>exact g.kp id _ i f
theorem Mx{id a:Nat}{c:List Rg}:∀{n:Nat},RN id a c n=true->∀j,a<=j->j<a+n->fE id j c=true
 |0,_,j,b,e=>by omega
 |n+1,h,j,b,e=>by
  simp only [RN]at h;have h:=iE h;by_cases d:j=a+n
  ·subst d;exact h.1
  ·exact Mx h.2 j b aA0
theorem ov{S:St}{q:Rg}(h:S.ok q=true)(a:q.1<S.nb)(j:Nat)(c:q.2.1<=j)(d:j<q.2.2):fE q.1 j S.al=true:=by
 unfold St.ok at h;have b:fZ q.1 S.nb=true:=by simpa [jJ] using a
 rw [b]at h;exact Mx h j c aA0
theorem LC{S:St}:∀{l:List Rg},S.Bg l=true->∀q∈l,S.ok q=true
 |[],_,q,h=>by cases h
 |x::l,h,q,a=>by
  simp only [St.Bg]at h;have h:=iE h;rcases aP.1 a with rfl|a
  ·exact h.1
  ·exact LC h.2 q a
open UInt8 renaming ofNat → Fo
variable {v:Value}
theorem F8(h:cvC v=some c):c.ids=[]/\c.kn=true/\∀ρ,c.v ρ=v:=by
 unfold cvC at h;split at h
 ·cases h;exact⟨rfl,rfl,fun _=>rfl⟩
 ·rename_i k n;cases a:HE k .u8 with
  |true=>
   rw [a]at h;simp only [aL]at h;split at h
   ·rename_i b;cases h;refine⟨rfl,rfl,fun _=> ?_⟩;rw [mK a];have:((Fo n.toNat).toNat:Int)=n:=by rw [pO];omega
    show bt _=_;unfold bt;rw [this]
   ·cases h
  |false=>rw [a]at h;cases h;exact⟨rfl,rfl,fun _=>rfl⟩
 ·cases h;refine⟨rfl,rfl,fun _=> ?_⟩;show str _=_;unfold str;congr 1
 ·cases h;exact⟨rfl,rfl,fun _=>rfl⟩
 ·cases h;exact⟨rfl,rfl,fun _=>rfl⟩
 ·cases h;exact⟨rfl,rfl,fun _=>rfl⟩
 ·cases h;exact⟨rfl,rfl,fun _=>rfl⟩
 ·cases h
theorem HX:∀{l:List Value} {cs:List SC},cvL l=some cs->(∀c∈cs,c.ids=[]/\c.kn=true)/\∀ρ,cs.map (SC.v ρ)=l
 |[],cs,h=>by cases h;exact⟨fun c h=>absurd h aA2,fun _=>rfl⟩
 |v::l,cs,h=>by
  simp only [cvL]at h;split at h
  ·rename_i x hx;split at h
   ·rename_i q a;cases h;obtain⟨j,i,g⟩:=F8 hx;obtain⟨f,d⟩:=HX a;exact⟨fun c b=>(aP.1 b).elim (fun e=>e▸⟨j,i⟩) (f c),fun ρ=>by rw [vS,g,d]⟩
   ·cases h
  ·cases h
theorem jm{u:Value}(n:Nat):(cv v).ok n/\∀ρ,(cv v).v ρ=some u->u=v:=by
 unfold cv;split
 ·rename_i cs;split
  ·rename_i l e;obtain⟨b,d⟩:=HX e;refine⟨fun c f=>fun id a=>(by rw [(b c f).1]at a;cases a),fun ρ h=> ?_⟩;simp only [SV.v,d]at h;cases h;rfl
  ·exact⟨trivial,fun ρ h=>by cases h⟩
 ·split
  ·rename_i x hx;obtain⟨b,d,g⟩:=F8 hx;refine⟨fun id a=>(by rw [b]at a;cases a),fun ρ h=> ?_⟩;simp only [SV.v,g]at h;cases h;rfl
  ·exact⟨trivial,fun ρ h=>by cases h⟩
section
variable {C:Cx}{md:Md}{w0 w:World}{S0:List Nat}{ρ:Nat->Ad}{S:St}{F:Nat->Value}
theorem Xm(h:Rel C w0 S0 ρ S F w)(c:C.nn=md.n)(x:Operand):(S.ev C x).ok S.H.length/\∀u,(S.ev C x).v ρ=some u->aX md F x=u:=by
 cases x with
 |tmp t=>
  simp only [St.ev,aX,c];cases f:fZ t md.n with
  |true=>exact⟨h.fo t,fun u a=>h.fr t u a⟩
  |false=>exact⟨trivial,fun u a=>by cases a⟩
 |const v=>exact⟨(jm (u:=v) _).1,fun u a=>((jm 0).2 _ a).symm⟩
 |global g=>
  simp only [St.ev];cases d:C.G g with
  |none=>exact⟨trivial,fun u a=>by cases a⟩
  |some id=>obtain⟨j,e⟩:=h.gl g id d;refine⟨fun i b=>(by have:i=id:=aE.1 b;omega),fun u a=> ?_⟩;simp only [SV.v,SC.v,e,Int.toNat_zero,IY,Gz]at a;cases a;simp [aX,ea,Addr.add]
 |func k=>exact⟨fun i b=>(by cases b),fun u a=>(by cases a;rfl)⟩
variable {x:Operand}{f:SC}
theorem nW(h:Rel C w0 S0 ρ S F w)(d:C.nn=md.n)(e:S.ev C x=.c' f):f.ok S.H.length/\aX md F x=f.v ρ:=by obtain⟨b,a⟩:=Xm h d x;rw [e]at b a;exact⟨b,a _ rfl⟩
def vM(C:Cx)(md:Md)(ρ:Nat->Ad)(S:St)(F:Nat->Value)(w:World)(op:Op)(v:SV):Prop:=
 v.ok S.H.length/\∃u,v.v ρ=some u/\∀(d:Nat) (a:TypeId) (pos:String) (after:Array Edge),(execOp (aX md F) (⟨some d,op,a,pos,after,none⟩:Oper)).run C.P w=.ok (.value u) w
def Gu:List PD->Prop
 |[]=>True
 |q::l=>q.p/\Gu l
theorem gC{op:Op}{u:Value}(b:f.ids=[])(e:u=f.v ρ)(h:∀(d:Nat) (ty:TypeId) (pos:String) (after:Array Edge),(execOp (aX md F) (⟨some d,op,ty,pos,after,none⟩:Oper)).run C.P w=.ok (.value u) w):vM C md ρ S F w op (.c' f):=
 ⟨fun id a=>(by rw [b]at a;cases a),u,by rw [e];rfl,h⟩
variable {r:SV}
theorem lT{a:Type}{f:SC->Option a}{x:a}(h:fU r f=some x):∃c,r=.c' c/\f c=some x:=by
 cases r with
 |c' c=>exact⟨c,rfl,h⟩
 |_=>cases h
variable {k:IntKind}
theorem Dk(h:i64 k=true):k=.i64:=mK h
variable {b:BinOp}{t a:TypeId}{y:Operand}{v:Int}{g:List PD}
theorem bI_ok{i:Int}(hx:aX md F x=.int k v)(c:aX md F y=.int k i)(h:bI b k v i=some (g,r))(f:Gu g):vM C md ρ S F w (.binOp b t x y a) r:=by
 cases b<;>simp only [bI,iQ,Po,reduceCtorEq,aU,bQ]at h
 case lss=>obtain⟨-,rfl⟩:=h;exact gC rfl rfl fun d e pos after=>UA k v i hx c
 case leq=>obtain⟨-,rfl⟩:=h;exact gC rfl rfl fun d e pos after=>UB k v i hx c
 case gtr=>obtain⟨-,rfl⟩:=h;exact gC rfl rfl fun d e pos after=>UE k v i hx c
 case geq=>obtain⟨-,rfl⟩:=h;exact gC rfl rfl fun d e pos after=>UF k v i hx c
 case eql=>obtain⟨-,rfl⟩:=h;exact gC rfl rfl fun d e pos after=>UG k v i hx c
 case neq=>obtain⟨-,rfl⟩:=h;exact gC rfl rfl fun d e pos after=>TY k v i hx c
 case and=>obtain⟨-,rfl⟩:=h;exact gC rfl rfl fun d e pos after=>fg k v i hx c
 case or=>obtain⟨-,rfl⟩:=h;exact gC rfl rfl fun d e pos after=>yp k v i hx c
 case add=>
  cases u:i64 k with
  |true=>rw [u]at h;obtain rfl:=Dk u;simp only [aL,aU,bQ]at h;obtain⟨rfl,rfl⟩:=h;exact gC rfl rfl fun d e pos after=>Hd v i hx c ⟨f.1.lo,f.1.hi⟩
  |false=>rw [u]at h;simp only [aG,aU,bQ]at h;obtain⟨-,rfl⟩:=h;exact gC rfl rfl fun d e pos after=>UI k v i hx c
 case sub=>
  cases u:i64 k with
  |true=>rw [u]at h;obtain rfl:=Dk u;simp only [aL,aU,bQ]at h;obtain⟨rfl,rfl⟩:=h;exact gC rfl rfl fun d e pos after=>tI v i hx c ⟨f.1.lo,f.1.hi⟩
  |false=>rw [u]at h;simp only [aG,aU,bQ]at h;obtain⟨-,rfl⟩:=h;exact gC rfl rfl fun d e pos after=>TT k v i hx c
 case mul=>
  cases u:i64 k with
  |true=>rw [u]at h;obtain rfl:=Dk u;simp only [aL,aU,bQ]at h;obtain⟨rfl,rfl⟩:=h;exact gC rfl rfl fun d e pos after=>O5 v i hx c ⟨f.1.lo,f.1.hi⟩
  |false=>rw [u]at h;simp only [aG,aU,bQ]at h;obtain⟨-,rfl⟩:=h;exact gC rfl rfl fun d e pos after=>TZ k v i hx c
 case quo=>
  cases u:i64 k with
  |true=>rw [u]at h;obtain rfl:=Dk u;simp only [aL,aU,bQ]at h;obtain⟨rfl,rfl⟩:=h;exact gC rfl rfl fun d e pos after=>kv v i hx c f.1
  |false=>rw [u]at h;cases h
 case rem=>
  cases u:i64 k with
  |true=>rw [u]at h;obtain rfl:=Dk u;simp only [aL,aU,bQ]at h;obtain⟨rfl,rfl⟩:=h;exact gC rfl rfl fun d e pos after=>ku v i hx c f.1
  |false=>rw [u]at h;cases h
variable {n:Md}{P:Program}{e:Nat}{d:String}{c:Array Edge}
theorem la{t':TypeId}(m b:UInt8)(hx:aX n F x=bt m)(f:aX n F y=bt b)(h:b≠0):(execOp (aX n F) (⟨some e,.binOp .quo a x y t',t,d,c,none⟩:Oper)).run P w=.ok (.value (bt (m/b))) w:=by
 have j:0<b.toNat:=Od fun l=>h (oD.1 l);have g:=TP (m/b);have i:(m/b).toNat=m.toNat/b.toNat:=UInt8.toNat_div m b;have o:(m.toNat:Int)/(b.toNat:Int)=((m/b).toNat:Int):=by rw [i];rfl
 rw [ey .u8 (m.toNat:Int) (b.toNat:Int) hx f aA0 aA0 (by rw [o,IntKind.wrap_u8];omega),o];rfl
theorem kz{t':TypeId}(m b:UInt8)(hx:aX n F x=bt m)(f:aX n F y=bt b)(h:b≠0):(execOp (aX n F) (⟨some e,.binOp .rem a x y t',t,d,c,none⟩:Oper)).run P w=.ok (.value (bt (m%b))) w:=by
 have j:0<b.toNat:=Od fun l=>h (oD.1 l);have g:=TP (m%b);have i:(m%b).toNat=m.toNat%b.toNat:=UInt8.toNat_mod m b;have o:(m.toNat:Int)%(b.toNat:Int)=((m%b).toNat:Int):=by rw [i];rfl
 rw [et .u8 (m.toNat:Int) (b.toNat:Int) hx f aA0 aA0 (by rw [o,IntKind.wrap_u8];omega),o];rfl
variable {u:UInt8}
theorem bC_ok{v:UInt8}(hx:aX md F x=bt u)(i:aX md F y=bt v)(h:bC b u v=some (g,r))(e:Gu g):vM C md ρ S F w (.binOp b t x y a) r:=by
 cases b<;>simp only [bC,iQ,Po,reduceCtorEq,aU,bQ]at h<;>obtain⟨rfl,rfl⟩:=h
 case lss=>exact gC rfl rfl fun d c pos after=>ld u v hx i
 case leq=>exact gC rfl rfl fun d c pos after=>lf u v hx i
 case gtr=>exact gC rfl rfl fun d c pos after=>lh u v hx i
 case geq=>exact gC rfl rfl fun d c pos after=>lj u v hx i
 case eql=>exact gC rfl rfl fun d c pos after=>UM u v hx i
 case neq=>exact gC rfl rfl fun d c pos after=>UL u v hx i
 case add=>exact gC rfl rfl fun d c pos after=>lq u v hx i
 case sub=>exact gC rfl rfl fun d c pos after=>ky u v hx i
 case mul=>exact gC rfl rfl fun d c pos after=>lb u v hx i
 case quo=>exact gC rfl rfl fun d c pos after=>la u v hx i e.1
 case rem=>exact gC rfl rfl fun d c pos after=>kz u v hx i e.1
 case and=>exact gC rfl rfl fun d c pos after=>ll u v hx i
 case or=>exact gC rfl rfl fun d c pos after=>yu u v hx i
theorem bS_ok{u v:aC}(hx:aX md F x=str u)(i:aX md F y=str v)(h:bS b u v=some (g,r))(e:Gu g):vM C md ρ S F w (.binOp b t x y a) r:=by
 cases b<;>simp only [bS,iQ,Po,reduceCtorEq,aU,bQ]at h<;>obtain⟨rfl,rfl⟩:=h
 case lss=>exact gC rfl rfl fun d c pos after=>JH u v hx i
 case gtr=>exact gC rfl rfl fun d c pos after=>JI u v hx i
 case eql=>exact gC rfl rfl fun d c pos after=>JJ u v hx i
 case neq=>exact gC rfl rfl fun d c pos after=>JG u v hx i
 case add=>exact gC rfl rfl fun d c pos after=>Yt u v hx i e.1
variable {z:Bool}
theorem bB_ok{v:Bool}(c:C.P.underlying t=some .bool)(hx:aX md F x=.bool z)(u:aX md F y=.bool v)(h:bB b z v=some (g,r)):vM C md ρ S F w (.binOp b t x y a) r:=by
 cases b<;>simp only [bB,iQ,reduceCtorEq,aU,bQ]at h<;>obtain⟨rfl,rfl⟩:=h
 case eql=>exact gC rfl rfl fun d e pos after=>yt z v c hx u
 case neq=>exact gC rfl rfl fun d e pos after=>yq z v c hx u
theorem mr(hx:aX md F x=bt u)(i:aX md F y=.int k v)(e:z=true->0<=v)(h:sh8 z b u v=some (g,r))(f:Gu g):vM C md ρ S F w (.binOp b t x y a) r:=by
 cases b<;>simp only [sh8,iQ,Po,reduceCtorEq]at h
 case shl=>
  cases z with
  |true=>cases h;exact gC rfl rfl fun d c pos after=>UK k u v hx i (e rfl)
  |false=>cases h;exact gC rfl rfl fun d c pos after=>UK k u v hx i f.1
 case shr=>
  cases z with
  |true=>cases h;exact gC rfl rfl fun d c pos after=>UJ k u v hx i (e rfl)
  |false=>cases h;exact gC rfl rfl fun d c pos after=>UJ k u v hx i f.1
theorem Z8(a:aX md F x=.int k v)(h:qd x=true):0<=v:=by
 unfold qd at h;split at h
 ·rename_i k' n;have:Value.int k' (.ofNat n)=.int k v:=a;cases this;exact Ok n
 ·cases h
end
open Go.Wk
open Go.Ce (Tr)
open Nat renaming beq → cV, blt → fZ, succ → oA
theorem I0(a b:Nat):cV a b=decide (a=b):=by
 by_cases h:a=b
 ·subst h;simp
 ·cases c:cV a b with
  |true=>exact absurd (iL c) h
  |false=>simp [h]
theorem ch(a b:Nat):Nat.ble a b=decide (a<=b):=by
 by_cases h:a<=b
 ·simp [h,Nat.ble_eq]
 ·cases c:Nat.ble a b with
  |true=>exact absurd (Ys c) h
  |false=>simp [h]
theorem bltN(a b:Nat):fZ a b=decide (a<b):=by unfold fZ;rw [ch];rfl
theorem vL{id j:Nat}:∀{l:List Rg},fE id j l=true↔∃q∈l,q.1=id/\q.2.1<=j/\j<q.2.2
 |[]=>by simp [fE]
 |q::l=>by have a:=vL (id:=id) (j:=j) (l:=l);simp only [fE,I0,ch,bltN,Bool.cond_decide,SQ,exists_eq_or_imp];rw [<-a];by_cases d:q.1=id<;>by_cases c:q.2.1<=j<;>by_cases b:j<q.2.2<;>simp [d,c,b]
variable {k j:Nat}{a:List Rg}
theorem Fk{b:List Rg}:fE k j (a++b)=true↔fE k j a=true\/fE k j b=true:=by
 simp only [vL,aS];constructor
 ·rintro⟨q,h|h,c⟩
  ·exact .inl ⟨q,h,c⟩
  ·exact .inr ⟨q,h,c⟩
 ·rintro(⟨q,h,c⟩|⟨q,h,c⟩)
  ·exact⟨q,.inl h,c⟩
  ·exact⟨q,.inr h,c⟩
theorem To{t:Nat}:∀{l:List Nat},lS t l=true↔t∈l
 |[]=>by simp [lS]
 |x::l=>by simp only [lS,I0,Bool.cond_decide,SQ];rw [<-To (l:=l)];by_cases h:t=x<;>simp [h]
theorem sJ:∀{l r:List Nat},EA l r=true↔∀x∈l,x∉r
 |[],r=>by simp [EA]
 |x::l,r=>by have a:=sJ (l:=l) (r:=r);have b:=To (t:=x) (l:=r);simp only [EA,SQ,forall_eq_or_imp];rw [<-a,<-b];cases lS x r<;>simp
theorem nE:∀{l:List Nat},Fx l=true↔l.Nodup
 |[]=>by simp [Fx]
 |x::l=>by have a:=nE (l:=l);have b:=To (t:=x) (l:=l);simp only [Fx,List.nodup_cons];rw [<-a,<-b];cases lS x l<;>simp
variable {n:Nat}
theorem bo(h:RN k j a n=true){b:Nat}(d:j<=b)(c:b<j+n):fE k b a=true:=Mx h b d c
theorem Ul{n:Nat}{f:List Rg}:∀{m:List Rg},Zl n f m=true->∀{id j:Nat},id<n->fE id j m=true->fE id j f=true
 |[],_,id,j,_,b=>by simp [fE]at b
 |q::m,h,id,j,hid,b=>by
  simp only [Zl]at h;have h:=iE h;obtain⟨r,a,e,d,g⟩:=vL.1 b;rcases aP.1 a with rfl|a
  ·have c:=h.1;rw [e,bltN]at c;simp only [hid,decide_true,aL]at c;exact bo c d aA0
  ·exact Ul h.2 hid (vL.2 ⟨r,a,e,d,g⟩)
theorem yR{S:St}(h:S.Bg a=true)(hid:k<S.nb)(b:fE k j a=true):fE k j S.al=true:=by obtain⟨q,l,e,d,c⟩:=vL.1 b;subst e;exact ov (LC h q l) hid j d c
theorem ayk{H:List Ob}:∀{l:List Nat} {id:Nat},id∈l->qT H id∈No H l
 |x::l,id,h=>by
  rcases aP.1 h with rfl|h
  ·exact fQ
  ·exact fB _ (ayk h)
theorem Qj{H:List Ob}:∀{l:List Nat} {q:Rg},q∈No H l->∃id∈l,q=qT H id
 |x::l,q,h=>by
  rcases aP.1 (show q∈qT H x::No H l from h)with rfl|h
  ·exact⟨x,fQ,rfl⟩
  ·obtain⟨id,b,a⟩:=Qj h;exact⟨id,fB _ b,a⟩
variable {H:List Ob}{l:List Nat}
theorem Il{cs:List SC}(h:H[k]? =some (.bl j cs))(a:k∈l)(b:n<=cs.length):fE k n (No H l)=true:=by refine vL.2 ⟨_,ayk a,rfl,dL _, ?_⟩;unfold qT;rw [gQ,h];show n<oA cs.length;omega
theorem vy(a:k∈l):fE k 0 (No H l)=true:=by
 refine vL.2 ⟨_,ayk a,rfl,dL _, ?_⟩;unfold qT;rw [gQ];split
 ·rename_i h;simp_all
 ·simp
variable {b:Type}{d:List b}{y:b}
theorem wV:(iS d k y)[j]? =if j=k/\k<d.length then some y else d[j]? :=by
 rw [oV,eN];by_cases h:k=j
 ·subst h;by_cases a:k<d.length
  ·simp [a]
  ·simp [a,bL (lV a)]
 ·rw [aA h,aA aA0]
theorem IP:(iS d k y).length=d.length:=by rw [oV,oF]
theorem tq:∀{l:List Nat} {H:List Ob},(kill H l).length=H.length
 |[],_=>rfl
 |x::l,H=>by show(kill (iS H x _) l).length=_;rw [tq,IP]
theorem NL{id:Nat}:∀{l:List Nat} {H:List Ob},(kill H l)[id]? =if id∈l then(H[id]?).map (fun o=>.dd o.len)else H[id]?
 |[],H=>by simp [kill]
 |x::l,H=>by
  show(kill (iS H x _) l)[id]? =_;rw [NL,wV];by_cases h:id=x
  ·subst h;by_cases a:id<H.length
   ·have e:H[id]? =some H[id]:=aM a;simp [a,TD,Ob.len]
   ·have e:H[id]? =none:=bL aA0;simp [a,e]
  ·simp [h]
theorem Uf:∀{l:List SC} {a n j:Nat},(OH l a n)[j]? =if a<=j/\j<a+n then(l[j]?).map (fun _=>SC.u')else l[j]?
 |[],a,n,j=>by cases a<;>cases n<;>simp [OH]
 |x::l,a+1,n,j=>by
  simp only [OH];cases j with
  |zero=>simp
  |succ j=>
   rw [bV,bV,Uf];by_cases h:a<=j/\j<a+n
   ·rw [aB h,aB aA0]
   ·rw [aA h,aA aA0]
 |x::l,0,0,j=>by simp [OH]
 |x::l,0,n+1,j=>by
  simp only [OH];cases j with
  |zero=>simp
  |succ j=>
   rw [bV,bV,Uf];by_cases h:j<n
   ·rw [aB aA0,aB aA0]
   ·rw [aA aA0,aA aA0]
theorem Ue:∀{l:List SC} {a n:Nat},(OH l a n).length=l.length
 |[],a,n=>by cases a<;>cases n<;>rfl
 |x::l,a+1,n=>by simp [OH,Ue (l:=l)]
 |x::l,0,0=>rfl
 |x::l,0,n+1=>by simp [OH,Ue (l:=l)]
def yl(rs:List Rg)(id:Nat)(o b:Ob):Prop:=match o with
 |.bl e cs=>∃a,b=.bl e a/\a.length=cs.length/\∀j,a[j]? =if fE id j rs=true then(cs[j]?).map (fun _=>SC.u')else cs[j]?
 |o=>(b=o/\∀q∈rs,q.1≠id)\/(b=.dd o.len/\∃q∈rs,q.1=id)
theorem aza:∀{rs:List Rg} {H:List Ob},(Tk H rs).length=H.length
 |[],_=>rfl
 |q::rs,H=>by simp only [Tk];split<;>rw [aza,IP]
theorem ub{id:Nat}:∀{rs:List Rg} {H:List Ob} {o:Ob},H[id]? =some o->∃b,(Tk H rs)[id]? =some b/\yl rs id o b
 |[],H,o,h=>by refine⟨o,h, ?_⟩;cases o<;>simp [yl,fE]
 |q::rs,H,o,h=>by
  have g:id<H.length:=(aD.1 h).1;simp only [Tk];by_cases n:q.1=id
  ·subst n;rw [gQ,h];cases o with
   |bl e cs=>
    simp only;obtain⟨b,k,d,rfl,c,i⟩:=ub (id:=q.1) (rs:=rs) (H:=iS H q.1 (.bl e (OH cs q.2.1 (q.2.2-q.2.1)))) (o:=.bl e (OH cs q.2.1 (q.2.2-q.2.1))) (by rw [wV];simp [g]);refine⟨_,k,d,rfl,by rw [c,Ue],fun j=> ?_⟩
    rw [i,Uf];have s:fE q.1 j (q::rs)=true↔(q.2.1<=j/\j<q.2.1+(q.2.2-q.2.1))\/fE q.1 j rs=true:=by
     rw [show q::rs=[q]++rs from rfl,Fk,vL (l:=[q])];simp only [aE,exists_eq_left,true_and];constructor
     ·rintro(h|h)
      ·exact .inl aA0
      ·exact .inr h
     ·rintro(h|h)
      ·exact .inl aA0
      ·exact .inr h
    by_cases f:fE q.1 j rs=true
    ·rw [aB f,aB (s.2 (.inr f))];split<;>simp [Function.comp_def]
    ·rw [aA f];by_cases p:q.2.1<=j/\j<q.2.1+(q.2.2-q.2.1)
     ·rw [aB p,aB (s.2 (.inl p))]
     ·rw [aA p,aA (fun h=>(s.1 h).elim p f)]
   |_=>
    simp only;obtain⟨b,k,a⟩:=ub (id:=q.1) (rs:=rs) (H:=iS H q.1 (.dd (fV H q.1))) (o:=.dd (fV H q.1)) (by rw [wV];simp [g]);refine⟨b,k,.inr ⟨?_,q,fQ,rfl⟩⟩
    have e:b=.dd (fV H q.1):=by
     rcases a with⟨a,_⟩|⟨a,_⟩
     ·exact a
     ·exact a
    rw [e,nG h]
  ·have key:∀y,(iS H q.1 y)[id]? =some o:=fun y=>by rw [wV,aA (fun u=>n u.1.symm)];exact h
   have m:∀y,∃b,(Tk (iS H q.1 y) rs)[id]? =some b/\yl (q::rs) id o b:=by
    intro y;obtain⟨b,k,a⟩:=ub (rs:=rs) (key y);refine⟨b,k, ?_⟩;cases o with
    |bl e cs=>
     obtain⟨d,c,i,f⟩:=a;refine⟨d,c,i,fun j=> ?_⟩;rw [f]
     have:fE id j (q::rs)=fE id j rs:=by
      have v:cV q.1 id=false:=by rw [I0];simp [n]
      simp [fE,v]
     rw [this]
    |_=>
     rcases a with⟨a,c⟩|⟨a,r,c,i⟩
     ·exact .inl ⟨a,fun r t=>(aP.1 t).elim (fun e=>e▸n) (c r)⟩
     ·exact .inr ⟨a,r,fB _ c,i⟩
   split
   ·exact m _
   ·exact m _
theorem Fa(h:H[k]? =none):(Tk H a)[k]? =none:=by rw [List.getElem?_eq_none_iff]at h⊢;rw [aza];exact h
noncomputable def Pn(F:Tr SV)(t:Nat):SV:=match F.get t with
 |some v=>v
 |none=>.u'
theorem St.at_eq(S:St)(t:Nat):S.at t=Pn S.F t:=rfl
theorem Hw(F:Tr SV)(d t:Nat)(v:SV):Pn (F.set d v) t=if t=d then v else Pn F t:=by
 unfold Pn;by_cases h:t=d
 ·subst h;rw [Go.Ce.Tr.zV];simp
 ·rw [Go.Ce.Tr.zV,aA h,aA h]
theorem Xa{t:Nat}:∀{w:List Nat} {F:Tr SV},Pn (del F w) t=if t∈w then .u' else Pn F t
 |[],F=>by simp [del]
 |x::w,F=>by
  show Pn (del (F.set x .u') w) t=_;rw [Xa,Hw];by_cases h:t=x
  ·subst h;simp
  ·simp [h]
theorem cw:∀(t:Ty) (s n:Nat) (x:t.T) (j e:Nat) (cs:List SC),(t.lay s n x).2[j]? =some (.bl e cs)->∀c∈cs,c.ok (n+(t.lay s n x).2.length):=by
 intro t;induction t with
 |w' t d=>intro s n x;exact d s n x
 |pr a b l i=>
  intro s n x j e cs h;have h:((a.lay s n x.1).2++(b.lay s (n+a.no) x.2).2)[j]? =some (.bl e cs):=h;have m:((Ty.pr a b).lay s n x).2.length=(a.lay s n x.1).2.length+(b.lay s (n+a.no) x.2).2.length:=by show((a.lay s n x.1).2++(b.lay s (n+a.no) x.2).2).length=_;rw [bM]
  have o:=a.eR s n x.1;intro c g;rw [m];by_cases p:j<(a.lay s n x.1).2.length
  ·rw [aH p]at h;exact SC.cQ (l _ _ _ _ _ _ h c g) aA0
  ·rw [aN aA0]at h;exact SC.cQ (i _ _ _ _ _ _ h c g) aA0
 |p' e t d=>
  intro s n x j f cs h;have m:((Ty.p' e t).lay s n x).2.length=(t.lay n (n+1) x).2.length+1:=by show(_::_:List Ob).length=_;rw [bR]
  intro c g;rw [m];cases j with
  |zero=>have h:Ob.bl e (t.lay n (n+1) x).1=.bl f cs:=aJ h;cases h;intro id q;rcases(Ty.Da t n (n+1) x c g).2 id q with h|h<;>omega
  |succ j=>have h:(t.lay n (n+1) x).2[j]? =some (.bl f cs):=h;exact SC.cQ (d _ _ _ _ _ _ h c g) aA0
 |f' k t d=>intro s n x;exact d s n x
 |l' e b t d=>
  intro s n x j f cs h;cases j with
  |zero=>cases aJ h
  |succ j=>simp [Ty.lay]at h
 |y'=>
  intro s n x j f cs h;cases j with
  |zero=>cases aJ h
  |succ j=>simp [Ty.lay]at h
 |r' t d=>
  intro s n x j f cs h;cases j with
  |zero=>cases aJ h
  |succ j=>simp [Ty.lay]at h
 |z'=>
  intro s n x j f cs h;cases j with
  |zero=>cases aJ h
  |succ j=>simp [Ty.lay]at h
 |_=>intro s n x j f cs h;simp [Ty.lay]at h
theorem vp:∀(t:Ty) (s n:Nat) (x:t.T),t.tz=false->∀c∈(t.lay s n x).1,c.ok (n+(t.lay s n x).2.length):=by
 intro t;induction t with
 |w' t g=>intro s n x h;exact g s n x h
 |pr a b l j=>
  intro s n x h c d;have i:a.tz=false:=by
   cases i:a.tz with
   |true=>simp [Ty.tz,i]at h
   |false=>rfl
  have p:b.tz=false:=by simpa [Ty.tz,i] using h
  have o:((Ty.pr a b).lay s n x).2.length=(a.lay s n x.1).2.length+(b.lay s (n+a.no) x.2).2.length:=by show((a.lay s n x.1).2++(b.lay s (n+a.no) x.2).2).length=_;rw [bM]
  have m:=a.eR s n x.1;rw [o];rcases aS.1 (show c∈(a.lay s n x.1).1++(b.lay s (n+a.no) x.2).1 from d)with d|d
  ·exact SC.cQ (l _ _ _ i c d) aA0
  ·exact SC.cQ (j _ _ _ p c d) aA0
 |f' k t g=>intro s n x h c d;have:c=_:=aE.1 d;subst this;intro id f;obtain⟨u,r,q⟩:=yX (show id∈kU (t.lay s n x).1 from f);exact g s n x h u r id q
 |z'=>intro s n x h;cases h
 |u'=>intro s n x h c d;cases d
 |sm a b _ _=>intro s n x h c d;cases d
 |p' e t g=>intro s n x h c d;have:c=_:=aE.1 d;subst this;intro id f;have:id=n:=aE.1 f;subst this;show id<id+(_::_:List Ob).length;simp
 |l' e b t g=>intro s n x h c d;have:c=_:=aE.1 d;subst this;intro id f;have:id=n:=aE.1 f;subst this;exact vT _
 |r' t g=>intro s n x h c d;have:c=_:=aE.1 d;subst this;intro id f;have:id=n:=aE.1 f;subst this;exact vT _
 |y'=>intro s n x h c d;have:c=_:=aE.1 d;subst this;intro id f;have:id=n:=aE.1 f;subst this;exact vT _
 |_=>intro s n x h c d;have:c=_:=aE.1 d;subst this;intro id f;cases f
open Go.Value renaming agg → iB
open Nat renaming beq → cV
def IV(ρ:Nat->Ad)(H:List Ob):Prop:=∀(id:Nat) (o:Ob),H[id]? =some o->o.len=(ρ id).ln
theorem JZ{ρ cS:Nat->Ad}(c:IV ρ H)(g:IX H){s:Src}{o:Ob}(h:SJ false ρ H cS s o):o.len=(s.ad ρ).ln:=by
 cases o with
 |bl e cs=>obtain⟨id,f,rfl,a,_⟩:=h;exact(c id (.bl e f) a:_)
 |rw e b t l=>
  rcases h with⟨id,rfl,a⟩|⟨rfl,rfl⟩|⟨id,m,cs,rfl,a,d,_⟩
  ·exact c id _ a
  ·rfl
  ·exact(N3 d).1
 |ro t l=>
  rcases h with⟨id,rfl,a⟩|⟨rfl,rfl⟩|⟨h,_⟩
  ·exact c id _ (Cg a)
  ·rfl
  ·cases h
 |br n l=>obtain⟨rfl,id,m,rfl,a⟩:=h;have d:=c id _ a;have i:=g id m l a;show l.length=_;rw [i];exact d
 |dd n=>
  obtain⟨rfl,⟨t,rfl⟩|⟨j,rfl,a⟩⟩:=h
  ·rfl
  ·exact c j _ a
structure RdV (any:Bool) (H:List Ob) (x:Ty) (sv:SV) (v:x.T) (ss:List Src):Prop where
 no:ss.length=x.no
 tz:x.tz=false
 to:∀(ρ cS:Nat->Ad) (n:Nat),(∀(j:Nat) (s:Src),ss[j]? =some s->cS (n+j)=s.ad ρ)->
  (∃u,sv.v ρ=some u/\(x.sv (x.lay 0 n v).1).v cS=some u/\(x.sa (x.lay 0 n v).1).v cS=u)/\∀(j:Nat) (s:Src) (o:Ob),ss[j]? =some s->(x.lay 0 n v).2[j]? =some o->SJ any ρ H cS s o
variable {c:List Src}
theorem uD{r:Option (b×List SC×List Src)}(h:Pp r=some (y,c)):r=some (y,[],c):=by
 unfold Pp at h;split at h
 ·cases h;rfl
 ·cases h
theorem Vf{any:Bool}(o:IX H){x:Ty}{k:SV}{v:x.T}(h:OY any H x k=some (v,c)):RdV any H x k v c:=by
 unfold OY at h;split at h
 ·rename_i q;cases a:x.tz with
  |true=>rw [a]at h;cases h
  |false=>
   cases b:x.agg with
   |true=>rw [a,b]at h;cases h
   |false=>
    rw [a,b]at h;simp only [aG]at h;have g:=XD any H o x 0 _ _ _ _ (uD h);refine⟨g.no,a,fun ρ cS n e=> ?_⟩;obtain⟨d,i⟩:=g.to ρ cS 0 n ⟨fun f=>(by rw [a]at f;cases f),e⟩;refine⟨⟨q.v ρ,rfl, ?_⟩,i⟩;rw [eE,gA]at d;unfold Ty.sv Ty.sa;rw [b];cases m:(x.lay 0 n v).1 with
    |nil=>rw [m]at d;cases d
    |cons j p=>
     rw [m]at d;cases p with
     |cons _ _=>simp at d
     |nil=>have d:q.v ρ=j.v cS:=aD0;exact⟨by show some (j.v cS)=_;rw [d],by show j.v cS=_;rw [d]⟩
 ·rename_i l;cases a:x.tz with
  |true=>rw [a]at h;cases h
  |false=>
   cases b:x.agg with
   |false=>rw [a,b]at h;cases h
   |true=>rw [a,b]at h;simp only [aG,aL]at h;have g:=XD any H o x 0 _ _ _ _ (uD h);refine⟨g.no,a,fun ρ cS n e=> ?_⟩;obtain⟨d,i⟩:=g.to ρ cS 0 n ⟨fun f=>(by rw [a]at f;cases f),e⟩;refine⟨⟨_,rfl, ?_⟩,i⟩;rw [eE,gA]at d;unfold Ty.sv Ty.sa;rw [b];exact⟨by show some (iB _)=_;rw [d],by show iB _=_;rw [d]⟩
 ·cases h
def BO(H2:List Ob)(cS ρ3:Nat->Ad)(id:Nat):Ob->Prop
 |.bl e cs=>∃a,H2[id]? =some (.bl e a)/\a.length=cs.length/\∀(j:Nat) (c:SC),cs[j]? =some c->c.kn=true->∃b,a[j]? =some b/\b.kn=true/\b.v cS=c.v ρ3
 |.dd _=>True
 |o=>H2[id]? =some o
structure PI (n0:Nat) (H2:List Ob) (ρ cS ρ3:Nat->Ad) (F2:Nat->Value) (E:List Nat) (H0:List Ob) (al:List Rg) (Fm:Tr SV) (H1:List Ob) (done:List Src):Prop where
 len:H1.length=n0+done.length
 fr:∀t u,(Pn Fm t).v ρ3=some u->F2 t=u
 fo:∀t,(Pn Fm t).ok H1.length
 ho:∀(id e:Nat) (cs:List SC),H1[id]? =some (.bl e cs)->∀c∈cs,c.ok H1.length
 ln:IV ρ3 H1
 ba:∀(id:Nat) (o:Ob),id<n0->H1[id]? =some o->BO H2 cS ρ3 id o
 nw:∀(j:Nat) (s:Src) (o:Ob),done[j]? =some s->H1[n0+j]? =some o->SJ false cS H2 ρ3 s o
 de:∀id,id<n0->id∈E->∃m,H1[id]? =some (.dd m)
 kp:∀(id:Nat) (o:Ob),H0[id]? =some o->lJ al id ρ ρ3 H1[id]? o
section
variable {n0:Nat}{H2 H0 H1:List Ob}{ρ cS ρ3:Nat->Ad}{F2:Nat->Value}{E:List Nat}{al:List Rg}{Fm:Tr SV}{done:List Src}
theorem PI.app(h:PI n0 H2 ρ cS ρ3 F2 E H0 al Fm H1 done)(iN:IV cS H2)(k:IX H2)(p:H0.length<=n0){obs:List Ob}{d:List Src}(r:d.length=obs.length)
  (l:∀(j:Nat) (s:Src),d[j]? =some s->ρ3 (H1.length+j)=s.ad cS) (m:∀(j:Nat) (s:Src) (o:Ob),d[j]? =some s->obs[j]? =some o->SJ false cS H2 ρ3 s o)
  (v:∀(j e:Nat) (cs:List SC),obs[j]? =some (.bl e cs)->∀c∈cs,c.ok (H1.length+obs.length)):PI n0 H2 ρ cS ρ3 F2 E H0 al Fm (H1++obs) (done++d):=by
 have q:∀{id:Nat} {o:Ob},id<H1.length->(H1++obs)[id]? =H1[id]? :=fun h=>aH h;have n:=h.len;refine⟨by simp [h.len,r,Bn],h.fr,fun t=>SV.cQ (h.fo t) aA2,fun id e cs a c g=> ?_,fun id o a=> ?_,fun id o b a=> ?_,fun j s o i a=> ?_,fun id b u=> ?_,fun id o a=> ?_⟩
 ·by_cases b:id<H1.length
  ·rw [aH b]at a;exact SC.cQ (h.ho id e cs a c g) aA2
  ·rw [aN aA0]at a;rw [bM];exact v _ e cs a c g
 ·by_cases b:id<H1.length
  ·rw [aH b]at a;exact h.ln id o a
  ·rw [aN aA0]at a;have w:=(aD.1 a).1;have f:d[id-H1.length]? =some (d[id-H1.length]' aA0):=aM aA0;have e:=l _ _ f;rw [show H1.length+(id-H1.length)=id by omega]at e;rw [e];exact JZ iN k (m _ _ o f a)
 ·rw [aH aA0]at a;exact h.ba id o b a
 ·by_cases b:j<done.length
  ·rw [aH b]at i;rw [aH aA0]at a;exact h.nw j s o i a
  ·rw [aN aA0]at i;rw [aN aA0]at a;rw [show n0+j-H1.length=j-done.length by omega]at a;exact m _ s o i a
 ·rw [aH aA0];exact h.de id b u
 ·have:=(aD.1 a).1;rw [aH aA0];exact h.kp id o a
theorem PI.set(h:PI n0 H2 ρ cS ρ3 F2 E H0 al Fm H1 done){t:Nat}{v:SV}(b:∀u,v.v ρ3=some u->F2 t=u)(c:v.ok H1.length):PI n0 H2 ρ cS ρ3 F2 E H0 al (Fm.set t v) H1 done:=by
 refine⟨h.len,fun t2 u a=> ?_,fun t2=> ?_,h.ho,h.ln,h.ba,h.nw,h.de,h.kp⟩
 ·rw [Hw]at a;by_cases e:t2=t
  ·subst e;rw [aB rfl]at a;exact b u a
  ·rw [aA e]at a;exact h.fr t2 u a
 ·rw [Hw];by_cases e:t2=t
  ·rw [aB e];exact c
  ·rw [aA e];exact h.fo t2
theorem PI.eF(h:PI n0 H2 ρ cS ρ3 F2 E H0 al Fm H1 done){id:Nat}{o d:Ob}(y:id<n0)(u:H1[id]? =some d)(iN:o.len=d.len)(l:BO H2 cS ρ3 id o)(x:id∉E)
  (f:∀(e:Nat) (cs:List SC),o=.bl e cs->∀c∈cs,c.ok H1.length) (g:∀m,H0[id]? =some m->lJ al id ρ ρ3 (some o) m):PI n0 H2 ρ cS ρ3 F2 E H0 al Fm (iS H1 id o) done:=by
 have v:=(aD.1 u).1;have n:=h.len;refine⟨by rw [IP];exact h.len,h.fr,fun t=>by rw [IP];exact h.fo t,fun k e cs a c r=> ?_,fun k p a=> ?_,fun k p i a=> ?_,fun j s p w a=> ?_,fun k i q=> ?_,fun k p a=> ?_⟩
 ·rw [wV]at a;rw [IP];split at a
  ·cases a;exact f e cs rfl c r
  ·exact h.ho k e cs a c r
 ·rw [wV]at a;split at a
  ·rename_i b;cases a;rw [b.1,iN];exact h.ln id d u
  ·exact h.ln k p a
 ·rw [wV]at a;split at a
  ·rename_i b;cases a;rw [b.1];exact l
  ·exact h.ba k p i a
 ·rw [wV,aA aA0]at a;exact h.nw j s p w a
 ·rw [wV,aA (fun(b:k=id/\_)=>x (b.1▸q))];exact h.de k i q
 ·rw [wV];split
  ·rename_i b;rw [b.1]at a⊢;exact g p a
  ·exact h.kp k p a
end
variable {a:List SC}{n:Nat}
theorem Ty.Er{x:Ty}(h:∀c∈a,c.ok n):(x.sv a).ok n:=by
 unfold Ty.sv;cases x.agg with
 |true=>exact h
 |false=>
  simp only [aG];split
  ·exact h _ (aE.2 rfl)
  ·trivial
theorem Ty.zp{x:Ty}(h:∀c∈a,c.ok n):(x.sa a).ok n:=by
 unfold Ty.sa;cases x.agg with
 |true=>exact h
 |false=>
  simp only [aG];split
  ·exact h _ (aE.2 rfl)
  ·exact h
def KC(n0:Nat)(H0:List Ob)(E:List Nat)(al:List Rg)(ix:Nat->Nat):Key->Prop
 |.s' _ _=>True
 |.o' t off x=>ix t<n0/\∀j,off<=j->j<off+x.cn->fE (ix t) j al=true
 |.w' t _=>ix t<n0/\fE (ix t) 0 al=true/\ix t∉E/\vH H0[ix t]? =true
section
variable {n0:Nat}{H2 H0 H1:List Ob}{ρ cS ρ3:Nat->Ad}{F2:Nat->Value}{E:List Nat}{al:List Rg}{Fm:Tr SV}{done:List Src}{ix:Nat->Nat}{at2:Nat->SV}
variable {t:Nat}{x:Ty}{d:List Src}{v:x.T}
theorem PI.zj(h:PI n0 H2 ρ cS ρ3 F2 E H0 al Fm H1 done)(iN:IV cS H2)(b:IX H2)(f:H0.length<=n0)(k:∀t u,(at2 t).v cS=some u->F2 t=u)(g:OY false H2 x (at2 t)=some (v,d))
  (c:∀(j:Nat) (s:Src),d[j]? =some s->ρ3 (H1.length+j)=s.ad cS):PI n0 H2 ρ cS ρ3 F2 E H0 al (oc Fm H1 t x v).1 (oc Fm H1 t x v).2 (done++d):=by
 have e:=Vf b g;obtain⟨⟨u,n,m,_⟩,l⟩:=e.to cS ρ3 H1.length c;have i:d.length=(x.lay 0 H1.length v).2.length:=by rw [e.no,Ty.eR]
 refine(h.app iN b f i c l (cw x 0 H1.length v)).set ?_ ?_
 ·intro o a;rw [m]at a;cases a;exact k t u n
 ·rw [bM];exact Ty.Er (vp x 0 H1.length v e.tz)
theorem PI.fv(h:PI n0 H2 ρ cS ρ3 F2 E H0 al Fm H1 done)(iN:IV cS H2)(C:IX H2)(O:H0.length<=n0)(L:Up n0 cS ρ3){off:Nat}(T:rdB H2 t off x=some (v,d))(hid:t<n0)
  (A:∀j,off<=j->j<off+x.cn->fE t j al=true) (G:∀(j:Nat) (s:Src),d[j]? =some s->ρ3 (H1.length+j)=s.ad cS):PI n0 H2 ρ cS ρ3 F2 E H0 al Fm (XO H1 t off x v) (done++d):=by
 unfold rdB at T;split at T
 ·rename_i e2 Y S;rw [gQ]at S;split at T
  ·rename_i q hq;have l:=XD false H2 C x t _ _ _ _ (uD T);obtain⟨n,b⟩:=wI hq;rw [nH]at n b;obtain⟨h1,h2⟩:=l.to cS ρ3 t H1.length ⟨fun _=>by rw [L t hid],G⟩;rw [eE,gA]at h1;have hl:d.length=(x.lay t H1.length v).2.length:=by rw [l.no,Ty.eR]
   have h3:=h.app iN C O hl G h2 (cw x t H1.length v);have w:t<H1.length:=by have:=h.len;omega
   unfold XO;split
   ·rename_i e cs p;rw [gQ]at p;have B:iS H1 t (.bl e (Vh cs off (x.lay t H1.length v).1))++(x.lay t H1.length v).2=iS (H1++(x.lay t H1.length v).2) t (.bl e (Vh cs off (x.lay t H1.length v).1)):=by rw [oV,oV,L5 _ _ w]
    rw [B];have V:(H1++(x.lay t H1.length v).2)[t]? =some (.bl e cs):=by rw [aH w];exact p
    obtain⟨X,F,W,D⟩:=h.ba t _ hid p;rw [S]at F;cases F;have y:=x.Wh t H1.length v;have a4:q.length=x.cn:=by rw [n,kR];omega
    have k:∀(j:Nat) (c:SC),(Vh cs off (x.lay t H1.length v).1)[j]? =some c->(off<=j/\j<off+x.cn/\(x.lay t H1.length v).1[j-off]? =some c)\/(cs[j]? =some c/\¬(off<=j/\j<off+x.cn))\/(cs[j]? =some c/\uJ cs off (x.lay t H1.length v).1=none):=by
     intro j c I;unfold Vh at I;split at I
     ·rename_i Z b;rw [rJ b,y]at I;split at I
      ·rename_i J;exact .inl ⟨J.1,J.2,I⟩
      ·rename_i J;exact .inr (.inl ⟨I,J⟩)
     ·rename_i hn;exact .inr (.inr ⟨I,hn⟩)
    have z:(Vh cs off (x.lay t H1.length v).1).length=cs.length:=by
     unfold Vh;split
     ·rename_i Z b;exact yK b
     ·rfl
    refine h3.eF hid V rfl ⟨Y,S,by rw [W,z],fun j c I g=> ?_⟩ (fun hE=> ?_) (fun e3 X he c U=> ?_) (fun o0 N=> ?_)
    ·rcases k j c I with⟨ha,hb,a⟩|⟨a,_⟩|⟨a,_⟩
     ·have r:(q.map (SC.v cS))[j-off]? =some (c.v ρ3):=by rw [h1,bE,a];rfl
      rw [bE]at r;cases f:q[j-off]? with
      |none=>rw [f]at r;cases r
      |some H=>rw [f]at r;have r:H.v cS=c.v ρ3:=aJ r;obtain⟨us,u,M⟩:=l.kn;rw [gA]at u;refine⟨H, ?_,M H (u▸aI f),r⟩;rw [n,bO,aB aA0,bW]at f;rw [<-f];congr 1;omega
     ·exact D j c a g
     ·exact D j c a g
    ·obtain⟨m,hm⟩:=h.de t hid hE;rw [p]at hm;cases hm
    ·cases he;obtain⟨j,I⟩:=kK.1 U;rcases k j c I with⟨ha,hb,a⟩|⟨a,_⟩|⟨a,_⟩
     ·intro i hi;rw [bM];rcases(Ty.Da x t H1.length v c (aI a)).2 i hi with h6|h6<;>omega
     ·exact SC.cQ (h.ho t _ cs p c (aI a)) aA2
     ·exact SC.cQ (h.ho t _ cs p c (aI a)) aA2
    ·have g:=h.kp t o0 N;rw [p]at g;cases o0 with
     |bl e0 b7=>
      rcases g with g|⟨b6,R,Q,P⟩
      ·exact .inl g
      ·cases R;refine .inr ⟨_,rfl,by rw [z,Q],fun j c I=> ?_⟩;by_cases o:off<=j/\j<off+x.cn
       ·exact .inl (A j o.1 o.2)
       ·rcases P j c I with K|⟨H,K,h8⟩
        ·exact .inl K
        ·right;refine⟨H, ?_,h8⟩;unfold Vh;split
         ·rename_i Z b;rw [rJ b,y,aA o];exact K
         ·exact K
     |rw _ _ _ _=>exact g.elim .inl fun h=>by cases h
     |br _ _=>exact g.elim .inl fun h=>by cases h
     |ro _ _=>cases g
     |dd _=>cases g
   ·exact h3
  ·cases T
 ·cases T
theorem Za{H:List Ob}(h:fp H t x=some v):(∃m,∃o,P8 m x v=some o/\∃a,H[t]? =some a/\(a.len=m->a=o)/\((∃e b j l,o=.rw e b j l/\a=o)\/∃l g,o=.br m l/\a=.br g l)):=by
 cases x with
 |l' e b j=>
  simp only [fp]at h;split at h
  ·rename_i q i;cases d:cV q.1 e with
   |false=>rw [d]at h;cases h
   |true=>
    cases f:cV q.2 b with
    |false=>rw [d,f]at h;cases h
    |true=>rw [d,f]at h;have c:=tQ i h;rw [gQ,iL d,iL f]at c;exact⟨0,_,rfl,_,c,fun _=>rfl,.inl ⟨e,b,j,v,rfl,rfl⟩⟩
  ·cases h
 |y'=>
  simp only [fp]at h;split at h
  ·rename_i m x c;rw [gQ]at c;cases h;exact⟨m,_,rfl,_,c,fun _=>rfl,.inr ⟨v,m,rfl,rfl⟩⟩
  ·cases h
 |_=>cases h
theorem PI.fs(h:PI n0 H2 ρ cS ρ3 F2 E H0 al Fm H1 done)(iN:IV cS H2)(G:IX H2)(F:H0.length<=n0)(q:Up n0 cS ρ3)(k:rdW H2 t x=some (v,d))(hid:t<n0)
  (f:fE t 0 al=true) (B:t∉E) (A:vH H0[t]? =true):PI n0 H2 ρ cS ρ3 F2 E H0 al Fm (qF H1 t x v) (done++d):=by
 unfold rdW at k;split at k
 ·rename_i y p;cases k;rw [gA];have w:t<H1.length:=by have:=h.len;omega
  have n:H1[t]? =some H1[t]:=aM w;have a:(H1[t]).len=(cS t).ln:=by rw [h.ln t _ n,q t hid]
  have g:∀(o:Ob) (j:Ob),H0[t]? =some j->lJ al t ρ ρ3 (some o) j:=by
   intro o j u;rw [u]at A;cases j with
   |rw _ _ _ _=>exact .inl f
   |br _ _=>exact .inl f
   |_=>cases A
  unfold qF;rw [nG n,a];cases x with
  |l' e b I=>
   obtain⟨m,o,r,C,i,s,z⟩:=Za p;cases r;rcases z with⟨_,_,_,_,c,rfl⟩|⟨_,_,c,_⟩
   ·exact h.eF hid n (by rw [a];exact iN t _ i) i B (fun e cs c=>by cases c) (g _)
   ·cases c
  |y'=>
   obtain⟨m,o,r,C,i,s,z⟩:=Za p;cases r;rcases z with⟨_,_,_,_,c,_⟩|⟨l,D,c,rfl⟩
   ·cases c
   ·cases c;have H:D=(cS t).ln:=iN t _ i;refine h.eF hid n (by rw [a];rfl) ?_ B (fun e cs c=>by cases c) (g _);show H2[t]? =some (.br (cS t).ln v);rw [<-H];exact i
  |_=>cases p
 ·cases k
theorem PI.step(h:PI n0 H2 ρ cS ρ3 F2 E H0 al Fm H1 done)(iN:IV cS H2)(b:IX H2)(a:H0.length<=n0)(f:Up n0 cS ρ3)(i:∀t u,(at2 t).v cS=some u->F2 t=u){k:Key}{v:k.ty.T}(g:k.rd ix at2 H2=some (v,d))
  (c:KC n0 H0 E al ix k) (e:∀(j:Nat) (s:Src),d[j]? =some s->ρ3 (H1.length+j)=s.ad cS):PI n0 H2 ρ cS ρ3 F2 E H0 al (k.put ix (Fm,H1) v).1 (k.put ix (Fm,H1) v).2 (done++d):=by
 cases k with
 |s' t x=>exact h.zj iN b a i g e
 |o' t off x=>exact h.fv iN b a f g c.1 c.2 e
 |w' t x=>exact h.fs iN b a f g c.1 c.2.1 c.2.2.1 c.2.2.2
theorem PI.steps(iN:IV cS H2)(e:IX H2)(d:H0.length<=n0)(c:Up n0 cS ρ3)(i:∀t u,(at2 t).v cS=some u->F2 t=u):∀(J:List Key) (Fm:Tr SV) (H1:List Ob) (done:List Src) (v:(nN J).T) (ss:List Src),PI n0 H2 ρ cS ρ3 F2 E H0 al Fm H1 done->rdK ix at2 H2 J=some (v,ss)->
  (∀k∈J,KC n0 H0 E al ix k)->(∀(j:Nat) (s:Src),ss[j]? =some s->ρ3 (H1.length+j)=s.ad cS)->PI n0 H2 ρ cS ρ3 F2 E H0 al (Fv ix (Fm,H1) J v).1 (Fv ix (Fm,H1) J v).2 (done++ss)
 |[],Fm,H1,done,v,ss,h,a,_,_=>by cases a;rw [gA];exact h
 |[k],Fm,H1,done,v,ss,h,a,f,b=>h.step iN e d c i a (f k fQ) b
 |k::r::l,Fm,H1,done,v,ss,h,a,f,b=>by
  simp only [rdK]at a;split at a
  ·rename_i x p hx;split at a
   ·rename_i y o w;cases a;have n:=h.step iN e d c i hx (f k fQ) (fun j s g=>b j s (by rw [aH (aD.1 g).1];exact g));have m:=PI.steps iN e d c i (r::l) _ _ _ y o n w (fun q z=>f q (fB _ z)) (fun j s g=>by have A:=n.len;have B:=h.len;rw [bM]at A;rw [show(k.put ix (Fm,H1) x).2.length+j=H1.length+(p.length+j)by omega];exact b _ s (by rw [aN aA0,<-g];congr 1;omega));rw [gJ]at m;exact m
   ·cases a
  ·cases a
end
open Go.Wk
open Go.Ce (Tr)
open Nat renaming succ → oA
theorem nl:∀(t:Ty) (l:List SC) (x:t.T) (r:List SC),t.AK l=some (x,r)->∃e,l=e++r/\∀c∈e,c.kn=true:=by
 intro t;induction t with
 |w' t p=>intro l x r h;exact p l x r h
 |pr a b g f=>
  intro l x r h;simp only [Ty.AK]at h;split at h
  ·rename_i n j s;split at h
   ·rename_i m B q;cases h;obtain⟨e,A,z⟩:=g l n j s;obtain⟨o,w,v⟩:=f j m _ q;exact⟨e++o,by rw [A,w,gJ],fun c u=>(aS.1 u).elim (z c) (v c)⟩
   ·cases h
  ·cases h
 |i' k=>
  intro l x r h;cases l with
  |nil=>cases h
  |cons c l=>
   simp only [Ty.AK]at h;split at h
   ·rename_i y d;cases h;exact⟨[c],rfl,fun i h=>by rw [aE.1 h];cases c<;>first|rfl|cases d⟩
   ·cases h
 |c'=>
  intro l x r h;cases l with
  |nil=>cases h
  |cons c l=>
   simp only [Ty.AK]at h;split at h
   ·rename_i y d;cases h;exact⟨[c],rfl,fun i h=>by rw [aE.1 h];cases c<;>first|rfl|cases d⟩
   ·cases h
 |s'=>
  intro l x r h;cases l with
  |nil=>cases h
  |cons c l=>
   simp only [Ty.AK]at h;split at h
   ·rename_i y d;cases h;exact⟨[c],rfl,fun i h=>by rw [aE.1 h];cases c<;>first|rfl|cases d⟩
   ·cases h
 |b'=>
  intro l x r h;cases l with
  |nil=>cases h
  |cons c l=>
   simp only [Ty.AK]at h;split at h
   ·rename_i y d;cases h;exact⟨[c],rfl,fun i h=>by rw [aE.1 h];cases c<;>first|rfl|cases d⟩
   ·cases h
 |_=>intro l x r h;cases h
theorem rE{t:Ty}:∀{m:Nat} {l:List SC} {b:List t.T},pU t m l=some b->∀c∈l,c.kn=true
 |0,l,b,h=>by
  cases l with
  |nil=>intro c a;cases a
  |cons c l=>cases h
 |m+1,l,b,h=>by
  simp only [pU]at h;split at h
  ·rename_i y d f;split at h
   ·rename_i q e;cases h;obtain⟨j,i,g⟩:=nl t l y d f;intro c a;rw [i]at a;exact(aS.1 a).elim (g c) (rE e c)
   ·cases h
  ·cases h
variable {a:Nat->Ad}{b:List SC}
theorem yk.all{vs:List Value}(h:yk a b vs)(ρ:∀c∈b,c.kn=true):vs=b.map (SC.v a):=by
 apply cL;intro j;rw [bE];by_cases d:j<b.length
 ·rw [h.2 j _ (aM d) (ρ _ (xE d)),aM d];rfl
 ·have:=h.1;rw [bL (l:=vs) aA0,bL (l:=b) aA0];rfl
theorem yk.of:yk a b (b.map (SC.v a)):=⟨aA2,fun j c h _=>by rw [bE,h];rfl⟩
section
variable {w0 w:World}{S0:List Nat}{ρ:Nat->Ad}{H:List Ob}{L:List cF}
theorem Mt.lns(h:Mt w0 S0 ρ H L):IV ρ H:=fun id o a=>(h.2 id o a).1
theorem Mt.brk(h:Mt w0 S0 ρ H L)(c:Hp w0 S0 L w):IX H:=fun id m x hx=>by obtain⟨_,r,b,a⟩:=h.2 id _ hx;have a:r=fL _ m x:=a;subst a;exact c.Xj id b
end
def eG:cF:=⟨none,fun _=>True⟩
def Src.ow:Src->Option Nat
 |.o' id w=>bif w then some id else none
 |.k' id _ w=>bif w then some id else none
 |_=>none
theorem wF(s:Src):s.own=s.ow.toList:=by
 cases s with
 |o' id w=>cases w<;>rfl
 |k' id m w=>cases w<;>rfl
 |_=>rfl
variable {a:List Src}{j:Nat}{s:Src}
theorem rO{i:Nat}(h:a[j]? =some s)(c:s.ow=some i):i∈gL a:=by
 induction a generalizing j with
 |nil=>simp at h
 |cons f l b=>
  show i∈f.own++gL l;cases j with
  |zero=>have:f=s:=aA9;subst this;rw [wF,c];simp
  |succ j=>exact SO _ (b aA9)
theorem Kh(d:(gL a).Nodup){k i:Nat}{c:Src}(h:a[j]? =some s)(g:s.ow=some i)(f:a[k]? =some c)(b:c.ow=some i):j=k:=by
 induction a generalizing j k with
 |nil=>simp at h
 |cons n l m=>
  have d:(n.own++gL l).Nodup:=d;have e:=List.nodup_append.1 d;cases j with
  |zero=>
   cases k with
   |zero=>rfl
   |succ k=>have:n=s:=aA9;subst this;exact absurd rfl (e.2.2 i (by rw [wF,g];simp) i (rO aD3 b))
  |succ j=>
   cases k with
   |zero=>have:n=c:=aD3;subst this;exact absurd rfl (e.2.2 i (by rw [wF,b];simp) i (rO aA9 g))
   |succ k=>exact bD oA (m e.2.1 (show l[j]? =some s by simpa using h) (show l[k]? =some c by simpa using f))
theorem Ht{p:Nat->cF->Prop}:∀(n:Nat),(∀j,j<n->∃r,p j r)->∃L:List cF,L.length=n/\∀(j:Nat) (r:cF),L[j]? =some r->p j r
 |0,_=>⟨[],rfl,fun j r h=>by simp at h⟩
 |n+1,h=>by
  obtain⟨L,f,d⟩:=Ht n fun j a=>h j aA0;obtain⟨r,c⟩:=h n aA0;refine⟨L++[r],by simp [f],fun j b a=> ?_⟩;by_cases g:j<n
  ·rw [aH aA0]at a;exact d j b a
  ·rw [aN aA0]at a;have:j-L.length=0:=by have:=(aD.1 a).1;simp at this;omega
   rw [this]at a;have e:r=b:=aC0;subst e;rw [show j=n by omega];exact c
variable {e w:World}{b:List Nat}{d q:Nat->Ad}{c:List Ob}{L:List cF}{o:Ob}
theorem WH(u:Hp e b L w)(y:Mt e b d c L)(h:SJ false d c q s o)(v:q j=s.ad d):
  ∃r,RO e b q j o r/\r.holds w/\∀k,r.own=some k->∃i H,s.ow=some i/\L[i]? =some H/\H.own=some k:=by
 cases o with
 |bl Q G=>
  obtain⟨id,cs,rfl,O,A,F,K⟩:=h;obtain⟨_,r,g,z,rfl,D⟩:=y.2 id _ O;refine⟨aQ (q j).b z Q,⟨z,rfl, ?_⟩, ?_,fun k P=>⟨id,_,rfl,g, ?_⟩⟩
  ·have M:z=G.map (SC.v q):=(D.all F).trans A;rw [M];exact yk.of
  ·rw [v];exact(u.res _ (aI g)).1
  ·rw [v]at P;exact P
 |rw Q k t l=>
  rcases h with⟨id,rfl,O⟩|⟨rfl,rfl⟩|⟨id,m,cs,rfl,O,A,F,K⟩
  ·obtain⟨_,r,g,p⟩:=y.2 id _ O;have p:r=aW t.enc Q t.sz (d id).o (d id).a (d id).cap l:=p;subst p;refine⟨aW t.enc Q t.sz (q j).o (q j).a (q j).cap l,rfl, ?_,fun k P=>⟨id,_,rfl,g, ?_⟩⟩
   ·rw [v];exact(u.res _ (aI g)).1
   ·rw [v]at P;exact P
  ·have:=(u.dG t.enc Q t.sz none).res _ fQ;refine⟨aW t.enc Q t.sz (q j).o (q j).a (q j).cap [],rfl, ?_,fun k P=> ?_⟩
   ·rw [v];exact this.1
   ·rw [v]at P;cases P
  ·obtain⟨_,r,g,z,rfl,D⟩:=y.2 id _ O;have hx:=N3 A;have B:=D.all (rE A);have C:m<=maxLen:=by unfold maxLen;omega
   have J:=u.Tf (f:=t.enc) id t.sz m l g (Ty.vE F) (by rw [B,hx.2.2]) hx.1 C;have E:=(aD.1 g).1;have x:=J.res _ (aI (i:=id) (by rw [eN];simp [E];rfl));refine⟨aW t.enc Q t.sz (q j).o (q j).a (q j).cap l,rfl, ?_,fun k P=>⟨id,_,rfl,g, ?_⟩⟩
   ·rw [v];exact x.1
   ·rw [v]at P;exact P
 |ro t l=>
  rcases h with⟨id,rfl,O⟩|⟨rfl,rfl⟩|⟨h,_⟩
  ·obtain⟨_,r,g,N,p⟩:=y.2 id _ (Cg O);refine⟨eG,⟨rfl, ?_⟩,trivial,fun k P=>by cases P⟩;rw [v];exact p
  ·refine⟨eG,⟨rfl, ?_⟩,trivial,fun k P=>by cases P⟩;rw [v];exact⟨Rd.nil _ _,fun h=>absurd rfl h,dL _⟩
  ·cases h
 |br n l=>
  obtain⟨rfl,id,m,rfl,O⟩:=h;obtain⟨_,r,g,p⟩:=y.2 id _ O;have p:r=fL (.slice (d id).a m (d id).cap) m l:=p;subst p;have I:=u.Xj id g;refine⟨fL (.slice (q j).a l.length (q j).cap) l.length l,rfl, ?_,fun k P=>⟨id,_,rfl,g, ?_⟩⟩
  ·rw [v,I];exact(u.res _ (aI g)).1
  ·rw [v,I]at P;exact P
 |dd n=>exact⟨eG,trivial,trivial,fun k P=>by cases P⟩
theorem bo_ro(p:Hp e b L w)(i:Mt e b d c L)(h:BO c d q j o)(g:q j=d j)(x:∀m,o≠.dd m):
  ∃r,L[j]? =some r/\RO e b q j o r/\r.holds w:=by
 cases o with
 |bl K cs=>obtain⟨F,E,D,C⟩:=h;obtain⟨_,r,a,s,rfl,I⟩:=i.2 j _ E;refine⟨_,a,⟨s,by rw [g],by rw [I.1,D],fun H J v y=> ?_⟩,(p.res _ (aI a)).1⟩;obtain⟨G,B,A,z⟩:=C H J v y;rw [<-z];exact I.2 H G B A
 |rw K k t l=>obtain⟨_,r,a,f⟩:=i.2 j _ h;exact⟨r,a,by show r=_;rw [g];exact f,(p.res _ (aI a)).1⟩
 |ro t l=>obtain⟨_,r,a,u,f⟩:=i.2 j _ h;exact⟨r,a,⟨u,by rw [g];exact f⟩,(p.res _ (aI a)).1⟩
 |br n l=>obtain⟨_,r,a,f⟩:=i.2 j _ h;exact⟨r,a,by show r=_;rw [g];exact f,(p.res _ (aI a)).1⟩
 |dd n=>exact absurd rfl (x n)
def CN:Ob->Bool
 |.dd _=>true
 |_=>false
theorem qe(h:CN o=false):∀m,o≠.dd m:=by intro m e;subst e;cases h
theorem PI.mem{w0 w:World}{S0:List Nat}{c:Nat}{H2 H0 f:List Ob}{ρ q ρ3:Nat->Ad}{F2:Nat->Value}{E:List Nat}{Z:List Rg}{Fm:Tr SV}{done:List Src}{L:List cF}(h:PI c H2 ρ q ρ3 F2 E H0 Z Fm f done)(K:Hp w0 S0 L w)(Q:Mt w0 S0 q H2 L)(G:Up c q ρ3)
  (J:∀(j:Nat) (s:Src),done[j]? =some s->ρ3 (c+j)=s.ad q) (S:(gL done).Nodup) (X:∀id∈gL done,id<c->id∈E):∃D,Hp w0 S0 D w/\Mt w0 S0 ρ3 f D:=by
 let src:Nat->Option Nat:=fun j=>if j<c then(match f[j]? with
  |some o=>bif CN o then none else some j
  |none=>none)else(done[j-c]?).bind Src.ow
 have R:∀j,j<f.length->∃r,(∀o,f[j]? =some o->RO w0 S0 ρ3 j o r)/\r.holds w/\∀b,r.own=some b->∃i A,src j=some i/\L[i]? =some A/\A.own=some b:=by
  intro j l;have g:=aM l;by_cases a:j<c
  ·cases p:CN f[j]with
   |true=>refine⟨eG,fun o e=> ?_,trivial,fun b y=>by cases y⟩;rw [g]at e;cases e;cases hx:f[j]<;>rw [hx]at p<;>first|trivial|cases p
   |false=>
    obtain⟨r,n,e,z⟩:=bo_ro K Q (h.ba j _ a g) (G j a) (qe p);refine⟨r,fun o v=> ?_,z,fun b y=>⟨j,r, ?_,n,y⟩⟩
    ·rw [g]at v;cases v;exact e
    ·simp only [src,a,fM,g,p,aG]
  ·have hl:=h.len;have d:done[j-c]? =some (done[j-c]' aA0):=aM aA0;have H:f[c+(j-c)]? =some f[j]:=by rw [show c+(j-c)=j by omega];exact g
   have x:=J _ _ d;rw [show c+(j-c)=j by omega]at x;obtain⟨r,n,e,z⟩:=WH K Q (h.nw _ _ _ d H) x;refine⟨r,fun o v=> ?_,e,fun b y=> ?_⟩
   ·rw [g]at v;cases v;exact n
   ·obtain⟨i,A,B,O⟩:=z b y;refine⟨i,A, ?_,O⟩;simp only [src,a,cX,d];exact B
 obtain⟨D,I,C⟩:=Ht f.length R;refine⟨D,Go.Oe.Hp.pick ((List.range f.length).map src) K (fun j r l=> ?_) (fun j k i l V=> ?_),I,fun id o g=>⟨h.ln id o g, ?_⟩⟩
 ·obtain⟨_,e,z⟩:=C j r l;refine⟨e,fun b y=> ?_⟩;obtain⟨i,A,v,B⟩:=z b y;have a:=(aD.1 l).1;refine⟨i,A, ?_,B⟩;rw [bE,cZ aA0];exact bD some v
 ·have key:∀j,((List.range f.length).map src)[j]? =some (some i)->j<f.length/\src j=some i:=by
   intro j l;rw [bE]at l;by_cases a:j<f.length
   ·rw [cZ a]at l;exact⟨a,aJ l⟩
   ·rw [bL aA5]at l;cases l
  obtain⟨W,u⟩:=key j l;obtain⟨U,t⟩:=key k V;have base:∀j,j<c->src j=some i->j=i/\∃o,f[j]? =some o/\CN o=false:=by
   intro j a d;simp only [src,a,fM]at d;split at d
   ·rename_i o g;cases p:CN o with
    |true=>rw [p]at d;cases d
    |false=>rw [p]at d;exact⟨aJ d,o,g,p⟩
   ·cases d
  have F:∀j,¬j<c->src j=some i->∃s,done[j-c]? =some s/\s.ow=some i:=by
   intro j a d;simp only [src,a,cX]at d;cases p:done[j-c]? with
   |none=>rw [p]at d;cases d
   |some s=>rw [p]at d;exact⟨s,rfl,d⟩
  have no:∀j k,j<c->¬k<c->src j=some i->src k=some i->False:=by intro j k n e z v;obtain⟨rfl,o,B,O⟩:=base j n z;obtain⟨s,N,M⟩:=F k e v;obtain⟨m,T⟩:=h.de j n (X j (rO N M) n);rw [T]at B;cases B;cases O
  by_cases n:j<c<;>by_cases e:k<c
  ·rw [(base j n u).1,(base k e t).1]
  ·exact(no j k n e u t).elim
  ·exact(no k j e n t u).elim
  ·obtain⟨s,N,M⟩:=F j n u;obtain⟨s2,Y,P⟩:=F k e t;have:=Kh S N M Y P;omega
 ·have a:=(aD.1 g).1;exact⟨_,aM aA0,(C id _ (aM aA0)).1 o g⟩
open Go.Wk
open Go.Ce (Tr)
open Nat renaming one_pos → Ha
theorem Va{a:Nat->Nat}:∀{J:List Key} {q:Rg},q∈FG a J->∃k∈J,(∃t off x,k=.o' t off x/\q=(a t,off,off+x.cn))\/∃t x,k=.w' t x/\q=(a t,0,1)
 |k::J,q,h=>by
  cases k with
  |s' t x=>obtain⟨b,d,c⟩:=Va (show q∈FG a J from h);exact⟨b,fB _ d,c⟩
  |o' t off x=>
   rcases aP.1 (show q∈(a t,off,off+x.cn)::FG a J from h)with rfl|h
   ·exact⟨_,fQ,.inl ⟨t,off,x,rfl,rfl⟩⟩
   ·obtain⟨b,d,c⟩:=Va h;exact⟨b,fB _ d,c⟩
  |w' t x=>
   rcases aP.1 (show q∈(a t,0,1)::FG a J from h)with rfl|h
   ·exact⟨_,fQ,.inr ⟨t,x,rfl,rfl⟩⟩
   ·obtain⟨b,d,c⟩:=Va h;exact⟨b,fB _ d,c⟩
theorem KK{a:Nat->Nat}{t off:Nat}{x:Ty}:∀{J:List Key},Key.o' t off x∈J->(a t,off,off+x.cn)∈FG a J
 |k::J,h=>by
  rcases aP.1 h with rfl|b
  ·exact fQ
  ·cases k with
   |s' _ _=>exact(show _∈FG a J from KK b)
   |o' _ _ _=>exact fB _ (KK b)
   |w' _ _=>exact fB _ (KK b)
theorem AE{a:Nat->Nat}{t:Nat}{x:Ty}:∀{J:List Key},Key.w' t x∈J->(a t,0,1)∈FG a J
 |k::J,h=>by
  rcases aP.1 h with rfl|b
  ·exact fQ
  ·cases k with
   |s' _ _=>exact(show _∈FG a J from AE b)
   |o' _ _ _=>exact fB _ (AE b)
   |w' _ _=>exact fB _ (AE b)
theorem Ib{S:St}:∀{J:List Key},G4 S J=true->∀k∈J,match k with
  |.o' t off x=>∃e cs,S.H[S.ix t]? =some (.bl e cs)/\off+x.cn<=cs.length
  |.w' t _=>vH S.H[S.ix t]? =true
  |.s' _ _=>True
 |k::J,h,c,b=>by
  simp only [G4]at h;have h:=iE h;rcases aP.1 b with rfl|b
  ·cases c with
   |s' _ _=>trivial
   |o' t off x=>
    have a:=h.1;simp only [gQ]at a;split at a
    ·rename_i e cs d;exact⟨e,cs,d,Ys a⟩
    ·cases a
   |w' t x=>have a:=h.1;simp only [gQ]at a;exact a
  ·exact Ib h.2 c b
theorem tt{H:List Ob}:∀{l:List SC} {id:Nat},id∈vB H l->vH H[id]? =true\/∃e cs,H[id]? =some (.bl e cs)
 |x::l,id,h=>by
  cases x
  case l' i=>
   simp only [vB]at h;cases a:vH (eX H i)with
   |true=>
    rw [a]at h;rcases aP.1 h with rfl|h
    ·rw [gQ]at a;exact .inl a
    ·exact tt h
   |false=>rw [a]at h;exact tt h
  case k' i n=>
   simp only [vB]at h;split at h
   ·rename_i e cs b;rcases aP.1 h with rfl|h
    ·rw [gQ]at b;exact .inr ⟨e,cs,b⟩
    ·exact tt h
   ·exact tt h
  all_goals exact tt (l:=l) h
theorem MV{a:Nat->Nat}{F:Nat->SV}{H:List Ob}:∀{J:List Key} {id:Nat},id∈ax a F H J->vH H[id]? =true\/∃e cs,H[id]? =some (.bl e cs)
 |k::J,id,h=>by
  simp only [ax]at h;rcases aS.1 h with h|h
  ·cases k with
   |s' t x=>
    simp only at h;cases hx:x.HI with
    |false=>rw [hx]at h;cases h
    |true=>
     rw [hx]at h;simp only [aL]at h;split at h
     ·exact tt h
     ·cases h
   |o' t off x=>
    simp only at h;cases hx:x.HI with
    |false=>rw [hx]at h;cases h
    |true=>
     rw [hx]at h;simp only [aL]at h;split at h
     ·split at h
      ·exact tt h
      ·cases h
     ·cases h
   |w' t x=>cases h
  ·exact MV h
theorem MX:∀{a b:List Rg},Wz (a++b)=true->∀q∈a,∀r∈b,q.1=r.1->q.2.2<=r.2.1\/r.2.2<=q.2.1
 |x::a,b,h,q,c,r,e,f=>by
  have h:(bif Wz.HV x (a++b)then Wz (a++b)else false)=true:=h;have h:=iE h;rcases aP.1 c with rfl|c
  ·have key:∀l:List Rg,Wz.HV q l=true->r∈l->q.2.2<=r.2.1\/r.2.2<=q.2.1:=by
    intro l;induction l with
    |nil=>intro _ h;cases h
    |cons y l j=>
     intro h d;simp only [Wz.HV,I0,ch,Bool.cond_decide]at h;rcases aP.1 d with rfl|d
     ·rw [aB f]at h;by_cases i:q.2.2<=r.2.1
      ·exact .inl i
      ·rw [aA i]at h;by_cases g:r.2.2<=q.2.1
       ·exact .inr g
       ·rw [aA g]at h;cases h
     ·refine j ?_ d;split at h
      ·split at h
       ·exact h
       ·split at h
        ·exact h
        ·cases h
      ·exact h
   exact key _ h.1 (SO _ e)
  ·exact MX h.2 q c r e f
theorem VQ{n:Nat}{e:List Nat}:∀{l:List Nat},tk.tkI n e l=true->∀id∈l,id<n->id∈e
 |x::l,h,id,b,a=>by
  simp only [tk.tkI]at h;have h:=iE h;rcases aP.1 b with rfl|b
  ·have c:=h.1;rw [ch]at c;have:¬n<=id:=aA0;simp only [this,decide_false,aG]at c;exact To.1 c
  ·exact VQ h.2 id b a
theorem yl.len{rs:List Rg}{id:Nat}{o a:Ob}(h:yl rs id o a):a.len=o.len:=by
 cases o with
 |bl e cs=>obtain⟨b,rfl,_⟩:=h;rfl
 |_=>
  rcases h with⟨rfl,_⟩|⟨rfl,_⟩
  ·rfl
  ·rfl
noncomputable def St.base(S:St)(J:List Key)(w:List Nat):Fr:=(del S.F w,kill (Tk S.H (FG S.ix J)) (S.jh J))
structure OkJ (S:St) (J:List Key):Prop where
 Bg:S.Bg (S.Jp J)=true
 dis:Wz (S.Jp J)=true
 chk:G4 S J=true
theorem GV{S:St}{J:List Key}(h:S.gh J=true):OkJ S J:=by unfold St.gh at h;have b:=iE h;have a:=iE b.2;have c:=iE a.2;exact⟨b.1,a.1,c.2⟩
section
variable {C:Cx}{w0 w w2:World}{S0:List Nat}{ρ cS ρ3:Nat->Ad}{S S2:St}{F F2:Nat->Value}{J:List Key}{wl:List Nat}
theorem yH{w:World}(h:Rel C w0 S0 ρ S F w):IV ρ S.H:=by obtain⟨L,_,a⟩:=h.mem;exact a.lns
theorem yI{w:World}(h:Rel C w0 S0 ρ S F w):IX S.H:=by obtain⟨L,b,a⟩:=h.mem;exact a.brk b
theorem PI.jo{H H2:List Ob}{R:List Rg}{E:List Nat}{Fm:Tr SV}(iN:IV ρ H)(P:∀(id e:Nat) (cs:List SC),H[id]? =some (.bl e cs)->∀c∈cs,c.ok H.length)
  (y:∀q∈R,(∃e cs,H[q.1]? =some (.bl e cs)/\q.2.2<=cs.length)\/(vH H[q.1]? =true/\q.2=(0,1))) (M:∀id∈E,vH H[id]? =true\/∃e cs,H[id]? =some (.bl e cs))
  (a1:Le H.length (R++No H E) ρ H cS H2) (N:Up H.length ρ ρ3) (a5:∀t u,(Pn Fm t).v ρ3=some u->F2 t=u) (a6:∀t,(Pn Fm t).ok H.length):
  PI H.length H2 ρ cS ρ3 F2 E H (R++No H E) Fm (kill (Tk H R) E) []:=by
 have C:(kill (Tk H R) E).length=H.length:=by rw [tq,aza]
 have get:∀(id:Nat) (o:Ob),H[id]? =some o->∃A,(Tk H R)[id]? =some A/\yl R id o A/\(kill (Tk H R) E)[id]? =if id∈E then some (.dd o.len)else some A:=by intro id o f;obtain⟨A,L,d⟩:=ub (rs:=R) f;refine⟨A,L,d, ?_⟩;rw [NL,L,Yp,d.len]
 have w:∀(id:Nat) (A:Ob),(kill (Tk H R) E)[id]? =some A->∃o,H[id]? =some o:=by intro id A h;have:=(aD.1 h).1;exact⟨_,aM aA0⟩
 have W:∀{id j:Nat},fE id j (R++No H E)=true->fE id j R=true\/id∈E:=by
  intro id j h;rcases Fk.1 h with h|h
  ·exact .inl h
  ·obtain⟨q,x,L,_⟩:=vL.1 h;obtain⟨a9,d,rfl⟩:=Qj x;exact .inr (L▸d)
 have G:∀{id j:Nat},fE id j R=true->fE id j (R++No H E)=true:=fun h=>Fk.2 (.inl h);have F:∀{id j:Nat},fE id j (No H E)=true->fE id j (R++No H E)=true:=fun h=>Fk.2 (.inr h);refine⟨by rw [C];rfl,a5,fun t=>by rw [C];exact a6 t,fun id e cs f c X=> ?_,fun id o f=> ?_,fun id o U f=> ?_,fun j s o g=>by simp at g,fun id U he=> ?_,fun id o f=> ?_⟩
 ·rw [C];obtain⟨o,z⟩:=w id _ f;obtain⟨A,L,d,K⟩:=get id o z;rw [K]at f;split at f
  ·cases f
  ·cases f;cases o with
   |bl e2 B=>
    obtain⟨b2,h4,Y,V⟩:=d;cases h4;obtain⟨j,g⟩:=kK.1 X;rw [V]at g;split at g
    ·cases D:B[j]? with
     |none=>rw [D]at g;cases g
     |some _=>rw [D]at g;cases g;intro i U;cases U
    ·exact P id e B z c (aI g)
   |_=>
    rcases d with⟨d,_⟩|⟨d,_⟩
    ·cases d
    ·cases d
 ·obtain⟨T,z⟩:=w id _ f;obtain⟨A,L,d,K⟩:=get id T z;have a0:=(aD.1 z).1;rw [N id a0,<-iN id T z];rw [K]at f;split at f
  ·cases f;rfl
  ·cases f;exact d.len
 ·obtain⟨T,z⟩:=w id _ f;obtain⟨A,L,d,K⟩:=get id T z;rw [K]at f;have r:=a1.kp id T U z;split at f
  ·cases f;trivial
  ·rename_i J;cases f;have p:∀{j:Nat},fE id j ((R++No H E))=true->fE id j (R)=true:=fun h=>(W h).resolve_right J;cases T with
   |bl e S=>
    obtain⟨cs,rfl,Y,V⟩:=d;rcases r with r|⟨B,a4,a3,a2⟩
    ·exfalso;obtain⟨q,x,I,h8,h9⟩:=vL.1 (p (r S.length (eV _)));rcases y q x with⟨e4,Q,a,k⟩|⟨a,k⟩
     ·rw [I,z]at a;cases a;omega
     ·rw [I,z]at a;cases a
    ·refine⟨B,a4,by rw [a3,Y],fun j c g O=> ?_⟩;rw [V]at g;split at g
     ·cases D:S[j]? with
      |none=>rw [D]at g;cases g
      |some _=>rw [D]at g;cases g;cases O
     ·rename_i Z;rcases a2 j c g with I|⟨c2,I,h8⟩
      ·exact absurd (p I) Z
      ·refine⟨c2,I,(h8 O).1, ?_⟩;rw [(h8 O).2];exact(SC.up N (P id e S z c (aI g))).symm
   |rw e b t l=>
    rcases d with⟨rfl,d⟩|⟨rfl,_⟩
    ·rcases r with r|r
     ·obtain⟨q,x,I,_⟩:=vL.1 (p r);exact absurd I (d q x)
     ·exact r
    ·trivial
   |br m l=>
    rcases d with⟨rfl,d⟩|⟨rfl,_⟩
    ·rcases r with r|r
     ·obtain⟨q,x,I,_⟩:=vL.1 (p r);exact absurd I (d q x)
     ·exact r
    ·trivial
   |ro t l=>
    rcases d with⟨rfl,d⟩|⟨rfl,_⟩
    ·exact r
    ·trivial
   |dd n=>rcases d with⟨rfl,d⟩|⟨rfl,_⟩<;>trivial
 ·obtain⟨o,z⟩:∃o,H[id]? =some o:=⟨_,aM U⟩;obtain⟨A,L,d,K⟩:=get id o z;rw [K,aB he];exact⟨_,rfl⟩
 ·obtain⟨A,L,d,K⟩:=get id o f;rw [K];by_cases J:id∈E
  ·rw [aB J];cases o with
   |bl e cs=>exact .inl fun j g=>F (Il f J g)
   |rw e b t l=>exact .inl (F (vy J))
   |br m l=>exact .inl (F (vy J))
   |ro t l=>rcases M id J with h|⟨_,_,h⟩<;>rw [f]at h<;>cases h
   |dd n=>rcases M id J with h|⟨_,_,h⟩<;>rw [f]at h<;>cases h
  ·rw [aA J];cases o with
   |bl e cs=>
    obtain⟨B,rfl,Y,V⟩:=d;refine .inr ⟨B,rfl,Y,fun j c g=> ?_⟩;by_cases X:fE id j (R)=true
    ·exact .inl (G X)
    ·exact .inr ⟨c,by rw [V,aA X];exact g,fun r=>⟨r,SC.up N (P id e cs f c (aI g))⟩⟩
   |rw e b t l=>
    rcases d with⟨rfl,_⟩|⟨rfl,q,x,rfl⟩
    ·exact .inr rfl
    ·rcases y q x with⟨e4,Q,a,k⟩|⟨a,k⟩
     ·rw [f]at a;cases a
     ·exact .inl (G (vL.2 ⟨q,x,rfl,by rw [k];exact eV _,by rw [k];exact Ha⟩))
   |br m l=>
    rcases d with⟨rfl,_⟩|⟨rfl,q,x,rfl⟩
    ·exact .inr rfl
    ·rcases y q x with⟨e4,Q,a,k⟩|⟨a,k⟩
     ·rw [f]at a;cases a
     ·exact .inl (G (vL.2 ⟨q,x,rfl,by rw [k];exact eV _,by rw [k];exact Ha⟩))
   |ro t l=>
    rcases d with⟨rfl,_⟩|⟨rfl,q,x,rfl⟩
    ·rfl
    ·rcases y q x with⟨e4,Q,a,k⟩|⟨a,k⟩<;>rw [f]at a<;>cases a
   |dd n=>rcases d with⟨rfl,_⟩|⟨rfl,_⟩<;>rfl
theorem PI.base(b:Rel C w0 S0 ρ S F w)(f:OkJ S J)(d:Le S.H.length (S.Jp J) ρ S.H cS S2.H)(g:∀t,t∉wl->F2 t=F t)(a:Up S.H.length ρ ρ3):
  PI S.H.length S2.H ρ cS ρ3 F2 (S.jh J) S.H (S.Jp J) (S.base J wl).1 (S.base J wl).2 []:=by
 refine PI.jo (yH b) b.ho (fun q i=> ?_) (fun id hid=>MV hid) d a (fun t u c=> ?_) (fun t=> ?_)
 ·obtain⟨k,e,⟨t,off,x,rfl,rfl⟩|⟨t,x,rfl,rfl⟩⟩:=Va i
  ·exact .inl (Ib f.chk _ e)
  ·exact .inr ⟨Ib f.chk _ e,rfl⟩
 ·rw [show(S.base J wl).1=del S.F wl from rfl,Xa]at c;split at c
  ·cases c
  ·rename_i h;rw [g t h];refine b.fr t u ?_;rw [<-SV.up a (b.fo t)];exact c
 ·rw [show(S.base J wl).1=del S.F wl from rfl,Xa];split
  ·trivial
  ·exact b.fo t
theorem Wm(V:Rel C w0 S0 ρ S F w)(O:OkJ S J)(y:Le S.H.length (S.Jp J) ρ S.H cS S2.H)(h:Rel C w0 S0 cS S2 F2 w2)(Y:∀t,t∉wl->F2 t=F t){v:(nN J).T}(f:leaf S J S2=some v):
  ∃ρ3,Up S.H.length ρ ρ3/\(∀D:St,D.F=(Fv S.ix (S.base J wl) J v).1->D.H=(Fv S.ix (S.base J wl) J v).2->Rel C w0 S0 ρ3 D F2 w2)/\
   ∀(E:Nat) (R:List Rg),(∀id j,id<E->fE id j (S.Jp J)=true->fE id j R=true)->Le E R ρ S.H ρ3 (Fv S.ix (S.base J wl) J v).2:=by
 unfold leaf at f;split at f
 ·rename_i v2 q Z;cases a:tk S J q with
  |false=>rw [a]at f;cases f
  |true=>
   cases l:Zl S.H.length (S.Jp J) S2.m with
   |false=>rw [a,l]at f;cases f
   |true=>
    rw [a,l]at f;cases f;have a:=iE a
    let ρ3:Nat->Ad:=fun id=>if id<S.H.length then cS id else match q[id-S.H.length]? with
     |some s=>s.ad cS
     |none=>cS id
    have c:Up S.H.length cS ρ3:=fun id K=>by simp only [ρ3,K,fM]
    have d:Up S.H.length ρ ρ3:=y.up.trans c (eV _);have z:∀(j:Nat) (s:Src),q[j]? =some s->ρ3 (S.H.length+j)=s.ad cS:=by intro j s hj;have p:¬S.H.length+j<S.H.length:=aA0;have B:S.H.length+j-S.H.length=j:=aA0;simp only [ρ3,p,cX,B,hj]
    have X:=PI.base (wl:=wl) V O y Y d;have r:(S.base J wl).2.length=S.H.length:=X.len;have I:∀k∈J,KC S.H.length S.H (S.jh J) (S.Jp J) S.ix k:=by
     intro k A;have b:=Ib O.chk k A;cases k with
     |s' _ _=>trivial
     |o' t off x=>obtain⟨e,cs,p,B⟩:=b;exact⟨(aD.1 p).1,fun j h3 h4=>Fk.2 (.inl (vL.2 ⟨_,KK A,rfl,h3,h4⟩))⟩
     |w' t x=>
      have b:vH S.H[S.ix t]? =true:=b;have G:S.ix t<S.H.length:=by
       cases p:S.H[S.ix t]? with
       |none=>rw [p]at b;cases b
       |some _=>exact(aD.1 p).1
      refine⟨G,Fk.2 (.inl (vL.2 ⟨_,AE A,rfl,eV _,Ha⟩)),fun hE=> ?_,b⟩;have:=MX (show Wz (FG S.ix J++No S.H (S.jh J))=true from O.dis) _ (AE A) _ (ayk hE) rfl
      have h5:0<(qT S.H (S.ix t)).2.2:=by
       unfold qT;simp only;split
       ·exact Nat.succ_pos _
       ·exact Ha
      rcases this with Q|Q
      ·exact absurd Q (by show¬1<=0;omega)
      ·exact absurd Q (by show¬_<=0;omega)
    have n:=PI.steps (yH h) (yI h) (eV _) c h.fr J _ _ [] v q X Z I (by rw [r];exact z);rw [mQ]at n;obtain⟨L,hH,hM⟩:=h.mem;obtain⟨L3,P,N⟩:=n.mem hH hM c z (nE.1 a.1) (VQ a.2);refine⟨ρ3,d,fun D W i=> ?_,fun E R M=> ?_⟩
    ·refine⟨fun g id hg=> ?_,fun t u U=> ?_,fun t=> ?_, ?_,⟨L3,P,by rw [i];exact N⟩⟩
     ·obtain⟨p,B⟩:=V.gl g id hg;have:=n.len;rw [i];exact⟨by have:(Fv S.ix (S.base J wl) J v).2.length=S.H.length+q.length:=this;omega,by rw [d id p];exact B⟩
     ·rw [St.at_eq,W]at U;exact n.fr t u U
     ·rw [St.at_eq,W,i];exact n.fo t
     ·rw [i];exact n.ho
    ·refine⟨?_,d,fun id o K ho=>(n.kp id o ho).mono fun j=>M id j K⟩;have:(Fv S.ix (S.base J wl) J v).2.length=S.H.length+q.length:=n.len;omega
 ·cases f
end
open Go.Wk
open Go.Ce (Tr)
section
variable {P:Program}{n:Md}{Q:Exit->Act->World->Prop}{F:Nat->Value}{w:World}
variable {c:Code}{a:Nat->Value}
theorem c_fr(h:Go.Wk.C P n Q c F w)(e:fr n a=fr n F):Go.Wk.C P n Q c a w:=by unfold Go.Wk.C at h⊢;rw [e];exact h
theorem NK{f G:Nat->Value}{t:Nat}:∀{l:List Nat},app (l.map fun t=>(t,f t)) G t=if t∈l then f t else G t
 |[]=>by simp [app]
 |x::l=>by
  show eF (app (l.map fun t=>(t,f t)) G) x (f x) t=_;by_cases h:t=x
  ·subst h;rw [dj];simp
  ·rw [Iq _ _ _ _ h,NK];simp [h]
theorem wU{f:Nat->Value}:∀{l:List Nat},mO f (l.map fun t=>(t,f t))
 |[]=>trivial
 |x::l=>⟨rfl,wU⟩
theorem C4(h:∀t,t<n.n->a t=F t):fr n a=fr n F:=by unfold fr;congr 1;congr 1;funext i;exact h i.val i.isLt
theorem bx(I:Nat->(Nat->Value)->World->Prop)(d:Nat)(m:I d F w)(round:∀k F w,I k F w->Go.Wk.C P n (Exit.then (fun a' w'=>∃k' b,a'=fr n b/\k'<k/\I k' b w') Q) c F w):Go.Wk.C P n Q (.loop c) F w:=by
 refine G6 (σ:=Nat×(Nat->Value)) (fun s=>(List.range n.n).map fun t=>(t,s.2 t)) (fun s w=>I s.1 s.2 w) (fun s=>s.1) (d,F) wU m fun s w G g=> ?_;have e:fr n (app ((List.range n.n).map fun t=>(t,s.2 t)) G)=fr n s.2:=C4 fun t f=>by rw [NK];simp [f]
 refine c_fr (Xi (round s.1 s.2 w g) fun e a w' h=> ?_) e;cases e with
 |normal=>obtain⟨k',b,l,j,i⟩:=h;exact⟨(k',b),b,l,wU,i,j⟩
 |_=>exact h
theorem Vg(h:Go.Wk.C P n Q c F w):Ef P n c Q .normal (fr n F) w:=by obtain⟨k,D,ro⟩:=n;exact FK h
end
structure Lf (S:St) (ρ:Nat->Ad) (S2:St) (cS:Nat->Ad):Prop where
 nb:S2.nb=S.nb
 al:S2.al=S.al
 le:Le S.nb S.al ρ S.H cS S2.H
structure Nx (S:St) (ρ:Nat->Ad) (S2:St) (cS:Nat->Ad):Prop extends Lf S ρ S2 cS where
 lg:Le S.H.length S2.m ρ S.H cS S2.H
 mm:∀id j,fE id j S.m=true->fE id j S2.m=true
theorem Lf.refl{S:St}{ρ:Nat->Ad}:Lf S ρ S ρ:=⟨rfl,rfl,Le.refl⟩
theorem Lf.trans{S S2 d:St}{ρ a ρ3:Nat->Ad}(h:Lf S ρ S2 a)(b:Lf S2 a d ρ3):Lf S ρ d ρ3:=by have c:=b.le;rw [h.nb,h.al]at c;exact⟨b.nb.trans h.nb,b.al.trans h.al,h.le.trans c⟩
theorem Nx.refl{S:St}{ρ:Nat->Ad}:Nx S ρ S ρ:=⟨Lf.refl,Le.refl,fun _ _ h=>h⟩
theorem Nx.trans{S S2 d:St}{ρ a ρ3:Nat->Ad}(h:Nx S ρ S2 a)(c:Nx S2 a d ρ3):Nx S ρ d ρ3:=
 ⟨h.toLf.trans c.toLf,(h.lg.mono (eV _) fun id j _ b=>c.mm id j b).trans (c.lg.mono h.lg.len fun id j _ b=>b),fun id j b=>c.mm id j (h.mm id j b)⟩
def exO:Ex->Exit
 |.nm=>.normal
 |.xt i=>.exit i
def SK(C:Cx)(md:Md)(c:Code)(F:Nat->Value):Prop:=∀(i d:Nat) (o:Oper),YJ (Th c) i=true->(Th c)[i]? =some o->o.dst=some d->∃b a,(execOp (aX md F) o).run C.P b=.ok (.value (F d)) a
def Ya(C:Cx)(md:Md):Prop:=∀(w0:World) (S0:List Nat) (a:Nat->Ad) (S:St) (F:Nat->Value) (w:World) (op:Op) (v:SV) (H:List Ob) (m:List Rg),Rel C w0 S0 a S F w->mL op=true->opP C (S.ev C) S.H op=some ⟨[],v,H,m⟩->∀w',vM C md a S F w' op v
def K8(C:Cx)(md:Md)(w0:World)(S0:List Nat)(id:Nat)(a:Array Oper)(d:Bool):Prop:=∀(c:Ty) (S:St) (f:St->Option c.T) (r:c.T) (h:Nat->Ad) (F:Nat->Value) (w:World) (Q:Exit->Act->World->Prop),(bif d then Wy C a S f else GU C a.toList a.toList 0 S f)=some r->Rel C w0 S0 h S F w->
 (∀g b e i,f g=some r->Rel C w0 S0 b g e i->Nx S h g b->(∀t,t∉El a.toList->e t=F t)->SK C md (.region id a d) e->Q .normal (fr md e) i)->Go.Wk.C C.P md Q (.region id a d) F w
def pN(C:Cx)(md:Md)(w0:World)(S0:List Nat):Code->Prop
 |.region id c d=>K8 C md w0 S0 id c d
 |.seq a b=>pN C md w0 S0 a/\pN C md w0 S0 b
 |.cond _ a b=>pN C md w0 S0 a/\pN C md w0 S0 b
 |.block _ a=>pN C md w0 S0 a
 |.loop a=>pN C md w0 S0 a
 |.scope a=>pN C md w0 S0 a
 |_=>True
section
variable {C:Cx}{md:Md}{w0:World}{S0:List Nat}{τ:Ty}{res:St->Option τ.T}
variable {a:Nat->Ad}{S:St}{F:Nat->Value}{w:World}
theorem Rel.same{S2:St}(h:Rel C w0 S0 a S F w)(d:S2.F=S.F)(ρ:S2.H=S.H):Rel C w0 S0 a S2 F w:=by
 have b:∀t,S2.at t=S.at t:=fun t=>by rw [St.at_eq,St.at_eq,d]
 refine⟨?_,fun t v c=>h.fr t v (by rw [<-b];exact c),fun t=>by rw [b,ρ];exact h.fo t, ?_, ?_⟩
 ·rw [ρ];exact h.gl
 ·rw [ρ];exact h.ho
 ·rw [ρ];exact h.mem
theorem Rel.set{ρ:Nat->Ad}{S:St}{F:Nat->Value}{w:World}(h:Rel C w0 S0 ρ S F w){d:Nat}{v:SV}(b:∀u,v.v ρ=some u->F d=u)(c:v.ok S.H.length):Rel C w0 S0 ρ (S.set d v) F w:=by
 refine⟨h.gl,fun t u a=> ?_,fun t=> ?_,h.ho,h.mem⟩
 ·rw [lI]at a;by_cases e:t=d
  ·rw [aB e]at a;subst e;exact b u a
  ·rw [aA e]at a;exact h.fr t u a
 ·rw [lI];by_cases e:t=d
  ·rw [aB e];exact c
  ·rw [aA e];exact h.fo t
theorem Nv(l:Ya C md){c:Code}{ρ:Nat->Ad}{F:Nat->Value}{w:World}(b:SK C md c F):∀(R:List Nat) (S:St),gg (Th c) R=true->Rel C w0 S0 ρ S F w->
  Rel C w0 S0 ρ (again C (Th c) R S) F w/\(again C (Th c) R S).H=S.H/\(again C (Th c) R S).nb=S.nb/\(again C (Th c) R S).al=S.al/\(again C (Th c) R S).m=S.m
 |[],S,_,h=>⟨h,rfl,rfl,rfl,rfl⟩
 |i::R,S,g,h=>by
  simp only [gg]at g;have g:=iE g;have a:=Nv l b R S g.2 h;simp only [again];split
  ·rename_i o r;split
   ·rename_i d t;split
    ·rename_i v H m n
     ·rw [gQ]at r;obtain⟨y,E,A⟩:=b i d o g.1 r t;have f:=g.1;unfold YJ at f;rw [gQ,r]at f;simp only [t]at f;have f:=iE f;have D:=iE f.2;obtain⟨p,u,z,hx⟩:=l w0 S0 ρ S F w o.op v H m h D.1 n y;have s:o.guard=none:=by
       cases s:o.guard with
       |none=>rfl
       |some q=>rw [s]at f;cases f.1
      have k:u=F d:=by
       have e:o=⟨some d,o.op,o.type,o.pos,o.after,none⟩:=by rw [<-t,<-s]
       have x:=hx d o.type o.pos o.after;rw [<-e,A]at x;cases x;rfl
      have B:=Nv l b R (S.set d v) g.2 (h.set (fun G j=>by rw [z]at j;cases j;exact k.symm) p);exact B
    ·exact a
   ·exact a
  ·exact a
theorem IG{T:Type}(h:Rel C w0 S0 a S F w)(f:C.nn=md.n){c:Operand}{y n:Option T}{r:T}(ρ:H6 (S.ev C c) y n=some r):
  ∃b,aX md F c=.bool b/\(b=true->y=some r)/\(b=false->n=some r):=by
 unfold H6 at ρ;split at ρ
 ·rename_i x hx;refine⟨x,(nW h f hx).2,fun e=> ?_,fun e=> ?_⟩<;>(subst e;exact ρ)
 ·rename_i p d hx;refine⟨@decide p d,(nW h f hx).2,fun e=> ?_,fun e=> ?_⟩
  ·rw [aB (cA e)]at ρ;exact ρ
  ·rw [aA (jI e)]at ρ;exact ρ
 ·rename_i p d hx;refine⟨!@decide p d,(nW h f hx).2,fun e=> ?_,fun e=> ?_⟩
  ·have:¬p:=by simpa using e
   rw [aA this]at ρ;exact ρ
  ·have:p:=by simpa using e
   rw [aB this]at ρ;exact ρ
 ·cases ρ
def Snd(C:Cx)(md:Md)(w0:World)(S0:List Nat)(τ:Ty)(res:St->Option τ.T)(c:Code):Prop:=
 ∀(k:Sc) (S:St) (b:Ty) (j:τ.T->Option b.T) (i:Ex->St->Option b.T) (r:b.T) (h:Nat->Ad) (F:Nat->Value) (w:World) (Q:Exit->Act->World->Prop),den C τ res c k S b j i=some r->Rel C w0 S0 h S F w->
  (∀e d a f g,i e d=some r->Rel C w0 S0 a d f g->Nx S h d a->(∀t,t∉wr c->f t=F t)->(e=.nm->SK C md c f)->Q (exO e) (fr md f) g)->
  (∀y d a f g,res d=some y->j y=some r->Rel C w0 S0 a d f g->Lf S h d a->Q .ret (fr md f) g)->Go.Wk.C C.P md Q c F w
theorem J2{c:Code}(h:Th c=[]):SK C md c F:=fun i d o _ a=>by rw [h]at a;simp at a
end
open Go.Wk
open Go.Ce (Tr)
open Nat renaming beq → cV
open Sum renaming elim → fC
section
variable {C:Cx}{md:Md}{w0:World}{S0:List Nat}{τ:Ty}{res:St->Option τ.T}
variable {S c:St}{J:List Key}{v:(nN J).T}
theorem BK(h:leaf S J c=some v):Zl S.H.length (S.Jp J) c.m=true:=by
 unfold leaf at h;split at h
 ·cases a:tk S J _ with
  |false=>rw [a]at h;cases h
  |true=>
   cases b:Zl S.H.length (S.Jp J) c.m with
   |false=>rw [a,b]at h;cases h
   |true=>rfl
 ·cases h
variable {w:List Nat}
theorem out_F:(S.out J w v).F=(Fv S.ix (S.base J w) J v).1:=rfl
theorem gf:(S.out J w v).H=(Fv S.ix (S.base J w) J v).2:=rfl
variable {d:Code}
theorem mU{b:Code}(L:Snd C md w0 S0 τ res d)(K:Snd C md w0 S0 τ res b)(D B:Sc)(S:St)(ρ':Ty)(k:τ.T->Option ρ'.T)(m:Ex->St->Option ρ'.T)(r:ρ'.T)(ρ:Nat->Ad)(F:Nat->Value)(w:World)(Q:Exit->Act->World->Prop)
  (h:den C τ res d D S ρ' k (xW m fun S2=>den C τ res b B S2 ρ' k m)=some r) (M:Rel C w0 S0 ρ S F w)
  (J:∀e S2 c F2 a,m e S2=some r->Rel C w0 S0 c S2 F2 a->Nx S ρ S2 c->(∀t,t∉wr (.seq d b)->F2 t=F t)->(e=.nm->SK C md (.seq d b) F2)->Q (exO e) (fr md F2) a)
  (I:∀y S2 c F2 a,res S2=some y->k y=some r->Rel C w0 S0 c S2 F2 a->Lf S ρ S2 c->Q .ret (fr md F2) a):Go.Wk.C C.P md Q (.seq d b) F w:=by
 have E:wr (.seq d b)=wr d++wr b:=rfl;refine Xk (L D S ρ' k _ r ρ F w _ h M (fun e S2 c F2 a H f v G _=> ?_) (fun y S2 c F2 a o p f x=>Zu (I y S2 c F2 a o p f x)));cases e with
 |nm=>refine Vg (K B S2 ρ' k m r c F2 a Q H f (fun N z g A n s j u q _=> ?_) (fun y z g A n o p j x=>I y z g A n o p j (v.toLf.trans x)));exact J N z g A n s j (v.trans u) (fun t l=>by rw [E]at l;rw [q t fun h=>l (SO _ h),G t fun h=>l (Bp _ h)]) (fun _=>J2 rfl)
 |xt i=>exact Gj (J (.xt i) S2 c F2 a H f v (fun t l=>G t fun h=>l (by rw [E];exact Bp _ h)) (fun h=>by cases h))
variable {a b:Nat->Ad}
theorem ox{H:List Ob}(l:OkJ S J)(h:c.H=H)(d:c.nb=S.nb)(e:c.al=S.al)(g:c.m=S.Jp J++S.m)(m:∀(f:Nat) (i:List Rg),(∀id j,id<f->fE id j (S.Jp J)=true->fE id j i=true)->Le f i a S.H b H):Nx S a c b:=by
 refine⟨⟨d,e, ?_⟩, ?_,fun id j ρ=> ?_⟩
 ·rw [h];exact m S.nb S.al fun id j k ρ=>yR l.Bg k ρ
 ·rw [h,g];exact m _ _ fun id j _ ρ=>Fk.2 (.inl ρ)
 ·rw [g];exact Fk.2 (.inr ρ)
theorem Z9(h:Le S.H.length c.m a S.H b c.H)(ρ:Zl S.H.length (S.Jp J) c.m=true):Le S.H.length (S.Jp J) a S.H b c.H:=
 h.mono (eV _) fun id j e d=>Ul ρ e d
theorem YH(i:Ya C md){F F2:Nat->Value}{R e:World}(k:Rel C w0 S0 a S F R)(g:OkJ S J)(l:gg (Th d) w=true)(ρ:Rel C w0 S0 b c F2 e)(m:Nx S.Pm a c b)
  (j:∀t,t∉wr d->F2 t=F t) (x:SK C md d F2)  (f:leaf S J c=some v):∃ρ3,Rel C w0 S0 ρ3 (again C (Th d) w (S.out J (wr d) v)) F2 e/\Nx S a (again C (Th d) w (S.out J (wr d) v)) ρ3:=by
 obtain⟨ρ3,h,u,s⟩:=Wm (wl:=wr d) k g (Z9 m.lg (BK f)) ρ j f;obtain⟨r,q,p,o,n⟩:=Nv i x w _ l (u (S.out J (wr d) v) out_F gf);exact⟨ρ3,r,ox g (q.trans gf) p o n s⟩
theorem RM(hn:C.nn=md.n)(hD:∃k,md=⟨k,[],none⟩)(hp:Ya C md):∀(c:Code),pN C md w0 S0 c->Snd C md w0 S0 τ res c:=by
 intro c;induction c with
 |skip=>intro _ sc S o B A r G F w Q h E L V;exact Ng (L .nm S G F w h E Nx.refl (fun _ _=>rfl) (fun _=>J2 rfl))
 |label l=>intro _ sc S o B A r G F w Q h E L V;exact bz (L .nm S G F w h E Nx.refl (fun _ _=>rfl) (fun _=>J2 rfl))
 |exit id=>intro _ sc S o B A r G F w Q h E L V;exact Gh (L (.xt id) S G F w h E Nx.refl (fun _ _=>rfl) (fun h=>by cases h))
 |goto l=>intro _ sc S o B A r G F w Q h;cases h
 |refuse l=>intro _ sc S o B A r G F w Q h;cases h
 |rangeFunc f p a b _ _=>intro _ sc S o B A r G F w Q h;cases h
 |ret=>
  intro _ sc S o B A r G F w Q h E L V;have h:(match res S with
   |some q=>B q
   |none=>none)=some r:=h
  split at h
  ·rename_i q hq;exact Tc (V q S G F w hq h E Lf.refl)
  ·cases h
 |region id e4 d=>intro z sc S o B A r G F w Q h E L V;exact z o S (fun S2=>A .nm S2) r G F w Q h E fun S2 u F2 M Z s Y X N=>L .nm S2 u F2 M Z s Y X (fun _=>N)
 |scope a ih=>
  intro z sc S o B A r G F w Q h E L V;obtain⟨k,rfl⟩:=hD;refine Xh (ih z sc S o B A r G F w _ h E (fun e S2 u F2 M D s Y X N=> ?_) (fun y S2 u F2 M hy K s hL=>Rn (V y S2 u F2 M hy K s hL)));have:=L e S2 u F2 M D s Y X (fun _=>J2 rfl);cases e with
  |nm=>exact YT this
  |xt i=>exact pd this
 |block id a ih=>
  intro z sc S o B A r G F w Q h E L V;refine NB (ih z sc S o B (ia id A) r G F w _ h E (fun e S2 u F2 M D s Y X N=> ?_) (fun y S2 u F2 M hy K s hL=>b_ret (V y S2 u F2 M hy K s hL)));cases e with
  |nm=>exact I5 (L .nm S2 u F2 M D s Y X (fun _=>J2 rfl))
  |xt i=>
   have D:(bif cV i id then A .nm S2 else A (.xt i) S2)=some r:=D;cases hb:cV i id with
   |true=>rw [hb]at D;rw [iL hb];exact Gg (L .nm S2 u F2 M D s Y X (fun _=>J2 rfl))
   |false=>rw [hb]at D;exact I4 hb (L (.xt i) S2 u F2 M D s Y X (fun h=>by cases h))
 |cond c a b U O=>
  intro z sc S o B A r G F w Q h E L V;have a6:wr (.cond c a b)=wr a++wr b:=rfl;have hA:∀W,den C τ res a W S o B A=some r->Go.Wk.C C.P md Q a F w:=fun W h=>U z.1 W S o B A r G F w Q h E (fun e S2 u F2 M D s Y X _=>L e S2 u F2 M D s Y (fun t ht=>X t fun h=>ht (by rw [a6];exact Bp _ h)) (fun _=>J2 rfl)) V;have hB:∀sb,den C τ res b sb S o B A=some r->Go.Wk.C C.P md Q b F w:=fun sb h=>O z.2 sb S o B A r G F w Q h E (fun e S2 u F2 M D s Y X _=>L e S2 u F2 M D s Y (fun t ht=>X t fun h=>ht (by rw [a6];exact SO _ h)) (fun _=>J2 rfl)) V;have both:∀W sb,H6 (S.ev C c) (den C τ res a W S o B A) (den C τ res b sb S o B A)=some r->Go.Wk.C C.P md Q (.cond c a b) F w:=by intro W sb h;obtain⟨x,h1,Z,h3⟩:=IG E hn h;exact sS h1 (fun e=>hA W (Z e)) (fun e=>hB sb (h3 e))
  cases sc with
  |y' W=>obtain⟨x,h1,Z,h3⟩:=IG E hn (show H6 (S.ev C c) (den C τ res a W S o B A) none=some r from h);exact sS h1 (fun e=>hA W (Z e)) (fun e=>by have:=h3 e;cases this)
  |z' sb=>obtain⟨x,h1,Z,h3⟩:=IG E hn (show H6 (S.ev C c) none (den C τ res b sb S o B A)=some r from h);exact sS h1 (fun e=>by have:=Z e;cases this) (fun e=>hB sb (h3 e))
  |n'=>exact both _ _ h
  |s' x y=>exact both _ _ h
  |j' J R x y=>exact both _ _ h
  |r' J R x y=>exact both _ _ h
  |l' J x=>exact both _ _ h
 |seq a b U O=>
  intro z sc S o B A r G F w Q h E L V;have U:=U z.1;have O:=O z.2;have a6:wr (.seq a b)=wr a++wr b:=rfl;cases sc with
  |j' J R W sb=>
   have h:(bif S.gh J then(bif gg (Th a) R then Option.bind (den C τ res a W S.Pm (nN J) (fun _=>none) (xW noK (leaf S J))) (fun v=>den C τ res b sb (again C (Th a) R (S.out J (wr a) v)) o B A)else none)else none)=some r:=h;have h:=dJ h;have Z:=dJ h.2;have hJ:=GV h.1;obtain⟨v,h3,h4⟩:=Am Z.2;refine Xk (U W S.Pm (nN J) _ _ v G F w _ h3 (E.same rfl rfl) (fun e S2 u F2 M D s Y X N=> ?_) (fun y S2 u F2 M hy K=>by cases K));cases e with
   |xt i=>cases D
   |nm=>obtain⟨a5,h5,h6⟩:=YH hp E hJ Z.1 s Y X (N rfl) D;refine Vg (O sb _ o B A r a5 F2 M Q h4 h5 (fun e3 S3 a4 F3 w3 b8 a7 b9 b6 _=> ?_) (fun y S3 a4 F3 w3 hy K a7 hL=>V y S3 a4 F3 w3 hy K a7 (h6.toLf.trans hL)));exact L e3 S3 a4 F3 w3 b8 a7 (h6.trans b9) (fun t ht=>by rw [a6]at ht;rw [b6 t fun h=>ht (SO _ h),X t fun h=>ht (Bp _ h)]) (fun _=>J2 rfl)
  |r' J R W sb=>
   have h:(bif S.gh J then(bif gg (Th a) R then Option.bind (den C τ res a W S.Pm (.sm (nN J) τ) (fun r=>some (.inr r)) (xW noK (LM τ S J))) (fun j=>fC (fun v=>den C τ res b sb (again C (Th a) R (S.out J (wr a) v)) o B A) (fun q=>B q) j)else none)else none)=some r:=h;have h:=dJ h;have Z:=dJ h.2;have hJ:=GV h.1;obtain⟨v,h3,h4⟩:=Am Z.2;refine Xk (U W S.Pm (.sm (nN J) τ) _ _ v G F w _ h3 (E.same rfl rfl) (fun e S2 u F2 M D s Y X N=> ?_) (fun y S2 u F2 M hy K s hL=> ?_))
   ·cases e with
    |xt i=>cases D
    |nm=>
     have D:LM τ S J S2=some v:=D;unfold LM at D;split at D
     ·rename_i v2 b0;cases D;obtain⟨a5,h5,h6⟩:=YH hp E hJ Z.1 s Y X (N rfl) b0;refine Vg (O sb _ o B A r a5 F2 M Q h4 h5 (fun e3 S3 a4 F3 w3 b8 a7 b9 b6 _=> ?_) (fun y S3 a4 F3 w3 hy K a7 hL=>V y S3 a4 F3 w3 hy K a7 (h6.toLf.trans hL)));exact L e3 S3 a4 F3 w3 b8 a7 (h6.trans b9) (fun t ht=>by rw [a6]at ht;rw [b6 t fun h=>ht (SO _ h),X t fun h=>ht (Bp _ h)]) (fun _=>J2 rfl)
     ·cases D
   ·cases K;exact Zu (V y S2 u F2 M hy h4 s ⟨hL.nb,hL.al,hL.le⟩)
  |n'=>exact mU U O _ _ S o B A r G F w Q h E L V
  |s' x y=>exact mU U O _ _ S o B A r G F w Q h E L V
  |l' J x=>exact mU U O _ _ S o B A r G F w Q h E L V
  |y' x=>exact mU U O _ _ S o B A r G F w Q h E L V
  |z' x=>exact mU U O _ _ S o B A r G F w Q h E L V
 |loop a ih=>
  intro z sc S o B A r G F w Q h E L V;have a6:wr (.loop a)=wr a:=rfl;cases sc with
  |l' J W=>
   have h:(bif S.gh J then(match leaf S J S.Pm with
    |some v=>bT (fun g v=>den C τ res a W (S.head J (wr a) v) o B (xW (fun e S2=>A e (S2.as S J)) (ES (leaf S J) g))) C.fu v
    |none=>none)else none)=some r:=h
   have h:=dJ h;have hJ:=GV h.1;have Z:=h.2;split at Z
   ·rename_i v hv;generalize c6:(fun(g:(nN J).T->Option o.T) v=>den C τ res a W (S.head J (wr a) v) o B (xW (fun e S2=>A e (S2.as S J)) (ES (leaf S J) g)))=f0 at Z;let I:Nat->(Nat->Value)->World->Prop:=fun k F' w'=>∃(v:(nN J).T) (o:Nat->Ad),bT f0 k v=some r/\Rel C w0 S0 o (S.head J (wr a) v) F' w'/\(∀(nb:Nat) (al:List Rg),(∀id j,id<nb->fE id j (S.Jp J)=true->fE id j al=true)->Le nb al G S.H o (S.head J (wr a) v).H)/\∀t,t∉wr a->F' t=F t;have d5:I C.fu F w:=by obtain⟨a5,d2,h3,h4⟩:=Wm (S2:=S.Pm) (wl:=wr a) (F2:=F) E hJ Le.refl (E.same rfl rfl) (fun _ _=>rfl) hv;exact⟨v,a5,Z,h3 _ rfl rfl,h4,fun _ _=>rfl⟩
    refine bx I C.fu d5 fun k F' w' hI=> ?_;obtain⟨v',c4,h3,h4,h5,h6⟩:=hI;cases k with
    |zero=>cases h3
    |succ k=>
     have h3:f0 (bT f0 k) v'=some r:=h3;rw [<-c6]at h3;have c7:Lf S G (S.head J (wr a) v') c4:=⟨rfl,rfl,h5 _ _ fun id j hi hc=>yR hJ.Bg hi hc⟩;refine ih z W (S.head J (wr a) v') o B _ r c4 F' w' _ h3 h4 (fun e S2 u F2 M D s Y X N=> ?_) (fun y S2 u F2 M hy K s hL=>jX (V y S2 u F2 M hy K s (c7.trans hL)));have b7:∀t,t∉wr a->F2 t=F t:=fun t ht=>(X t ht).trans (h6 t ht);cases e with
     |nm=>
      have D:ES (leaf S J) (bT f0 k) S2=some r:=by rw [c6]at D;exact D
      unfold ES at D;split at D
      ·rename_i v2 b0;have d4:Le S.H.length (S.Jp J) G S.H u S2.H:=(h5 S.H.length (S.Jp J) fun _ _ _ h=>h).trans (Y.lg.mono (h5 0 [] (fun id j hi=>absurd hi aA0)).len fun id j hi hc=>Ul (BK b0) hi hc);obtain⟨a5,d2,h7,h8⟩:=Wm (wl:=wr a) E hJ d4 s b7 b0;exact oa ⟨k,F2,rfl,vT k,v2,a5,D,h7 _ rfl rfl,h8,b7⟩
      ·cases D
     |xt i=>
      refine Ie (L (.xt i) (S2.as S J) u F2 M D (s.same rfl rfl) ⟨?_, ?_,fun id j hc=> ?_⟩ (fun t ht=>b7 t (by rw [a6]at ht;exact ht)) (fun h=>by cases h))
      ·have:=c7.trans Y.toLf;exact⟨this.nb,this.al,this.le⟩
      ·refine(h5 S.H.length (S2.m++(S.Jp J++S.m)) fun id j _ hc=>Fk.2 (.inr (Fk.2 (.inl hc)))).trans ?_;exact Y.lg.mono (h5 0 [] (fun id j hi=>absurd hi aA0)).len fun id j _ hc=>Fk.2 (.inl hc)
      ·exact Fk.2 (.inr (Fk.2 (.inr hc)))
   ·cases Z
  |_=>cases h
end
end Go.Oe
namespace Go.Ce
open Go.Wk
section
variable {C:Cx}{m:M}{S:T}{n:Md}{w0 w:World}{E:En}
variable {d:Option Nat}{ty:TypeId}{pos:String}{after:Array Edge}{gd:Option (Nat×Bool)}
theorem ig:∀(off:Nat) (vs cells:List Value) (k:Nat),off+k+vs.length<=cells.length->
  (vs.zipIdx k).foldl (fun cs (p:Value×Nat)=>cs.setIfInBounds (off+p.2) p.1) cells.toArray=(cells.take (off+k)++vs++cells.drop (off+k+vs.length)).toArray
 |off,[],cells,k,h=>by simp
 |off,v::vs,cells,k,h=>by
  simp only [bR]at h;simp only [List.zipIdx_cons,oG];have e:(cells.toArray.setIfInBounds (off+k) v)=(cells.set (off+k) v).toArray:=aA2;rw [e,ig off vs (cells.set (off+k) v) (k+1) aA5];congr 1;have c:(cells.set (off+k) v).take (off+(k+1))=cells.take (off+k)++[v]:=by rw [zbK,aB aA0];have a:(cells.take (off+k)).length=off+k:=aA5;rw [List.take_append,a,tF (by rw [a];omega),show off+(k+1)-(off+k)=1 by omega];simp
  have b:(cells.set (off+k) v).drop (off+(k+1)+vs.length)=cells.drop (off+k+(vs.length+1)):=by rw [List.drop_set_of_lt aA0];congr 1;omega
  rw [c,b];simp
end
end Go.Ce
namespace Go.Oe
open Go.Wk
open Go.Ce (Tr)
section
variable {C:Cx}{md:Md}{w0 w:World}{S0:List Nat}{ρ:Nat->Ad}{S:St}{F:Nat->Value}
variable {t:Nat}
theorem Rj{z:Nat}(h:Qn C t=some z)(w:World):(sizeOf t).run C.P w=.ok z w:=xX h w
variable {z:Bool}
theorem V4(h:R2 C t=some z)(w:World):(isAgg t).run C.P w=.ok z w:=xX h w
theorem Fw(h:vI C t=true):C.P.underlying t=some .string:=by
 unfold vI at h;split at h
 ·assumption
 ·cases h
theorem oBool(h:isBool C t=true):C.P.underlying t=some .bool:=by
 unfold isBool at h;split at h
 ·assumption
 ·cases h
theorem V3{e:Nat}(h:OS C t=some e):C.P.underlying t=some (.slice e):=by
 unfold OS at h;split at h
 ·rename_i a;cases h;exact a
 ·cases h
theorem oAr{q:Nat×Nat}(h:wg C t=some q):C.P.underlying t=some (.array q.1 q.2):=by
 unfold wg at h;split at h
 ·rename_i a;cases h;exact a
 ·cases h
variable {k:IntKind}
theorem oK(h:kindOf C t=some k):C.P.underlying t=some (.int k):=by
 unfold kindOf at h;split at h
 ·rename_i a;cases h;exact a
 ·cases h
theorem oU8(h:HF C t=true):C.P.underlying t=some (.int .u8):=by
 unfold HF at h;split at h
 ·rename_i a;rw [a,mK h]
 ·cases h
theorem oIsK(h:isK C t k=true):C.P.underlying t=some (.int k):=by
 unfold isK at h;split at h
 ·rename_i a;rw [oK a,mK h]
 ·cases h
theorem oPtr(h:MB C t=true):∃e,C.P.underlying t=some (.pointer e):=by
 unfold MB at h;split at h
 ·rename_i e a;exact⟨e,a⟩
 ·cases h
theorem gj(h:CL C t=true):∃e,C.P.underlying t=some (.slice e):=by
 unfold CL at h;split at h
 ·rename_i e a;exact⟨e,a⟩
 ·cases h
variable {b:BinOp}
theorem Wu(h:CM b=true):b=.eql:=by cases b<;>first|rfl|cases h
variable {a:SC}
theorem vG{i:Int}(h:NJ a=some i)(ρ:Nat->Ad):∃k,a.v ρ=.int k i:=by
 cases a<;>simp only [NJ,reduceCtorEq,aU]at h
 ·subst h;exact⟨_,rfl⟩
 ·subst h;exact⟨_,rfl⟩
variable {s c:TypeId}{x y:Operand}{i:SC}{g:List PD}{r:SV}
theorem tl(hx:aX md F x=a.v ρ)(f:aX md F y=i.v ρ)(q:∀k v,z=true->aX md F y=.int k v->0<=v)(h:bin z b a i=some (g,r))(j:Gu g):vM C md ρ S F w (.binOp b s x y c) r:=by
 unfold bin at h;split at h
 ·rename_i k u l v;cases t:gr b with
  |true=>
   rw [t]at h;have o:b=.shr:=by cases b<;>first|rfl|cases t
   subst o;have h:shI k u v=some (g,r):=h;clear t;cases v with
   |negSucc n=>cases h
   |ofNat n=>
    cases h;refine gC rfl rfl fun d p pos after=>ep k l u (Int.ofNat n) _ hx f (Ok n) ?_ ?_
    ·show(2:Int)^(min n k.bits)=((2^(min n k.bits):Nat):Int);rw [Int.natCast_pow];rfl
    ·exact Int.natCast_pos.2 (Nat.pow_pos aA1)
  |false=>
  rw [t]at h;simp only [aG]at h;cases e:gu b with
  |true=>
   rw [e]at h;have o:b=.shl:=by cases b<;>first|rfl|cases e
   subst o;have h:zn k u v=some (g,r):=h;clear t e;cases v with
   |negSucc n=>cases h
   |ofNat n=>cases h;refine gC rfl rfl fun d p pos after=>er k l u (Int.ofNat n) _ hx f (Ok n) ?_;show(2:Int)^(min n k.bits)=((2^(min n k.bits):Nat):Int);rw [Int.natCast_pow];rfl
  |false=>
  rw [e]at h;simp only [aG]at h;cases m:HE k l with
  |false=>rw [m]at h;cases h
  |true=>rw [m]at h;obtain rfl:=mK m;exact bI_ok hx f h j
 ·exact bC_ok hx f h j
 ·exact mr hx f (fun A=>q _ _ A f) h j
 ·exact bS_ok hx f h j
 ·cases h
theorem cj(hx:aX md F x=a.v ρ)(n:aX md F y=i.v ρ)(B:∀k v,z=true->aX md F y=.int k v->0<=v)(h:tm C z s b a i=some (g,r))(G:Gu g):vM C md ρ S F w (.binOp b s x y c) r:=by
 unfold tm at h;split at h
 ·rename_i t off j;have f:=dJ h;have l:=dJ f.2;have o:=dJ l.2;have I:=iL f.1;obtain rfl:=Wu o.1;cases o.2;subst I;obtain⟨e,m⟩:=oPtr l.1;exact gC rfl rfl fun d p pos after=>FT _ m hx n
 ·rename_i j H;have f:=dJ h;have l:=dJ f.2;have o:=dJ l.2;have A:=dJ o.2;have I:=iL f.1;have q:=iL l.1;obtain rfl:=Wu A.1;cases A.2;subst I;subst q;obtain⟨e,m⟩:=oPtr o.1;exact gC rfl rfl fun d p pos after=>FT _ m hx n
 ·have f:=dJ h;have l:=dJ f.2;obtain rfl:=Wu l.1;cases l.2;obtain⟨e,m⟩:=gj f.1;exact gC rfl rfl fun d p pos after=>FR _ _ _ e m hx n
 ·have f:=dJ h;have l:=dJ f.2;obtain rfl:=Wu l.1;cases l.2;obtain⟨e,m⟩:=gj f.1;exact gC rfl rfl fun d p pos after=>FR _ _ _ e m hx n
 ·split at h
  ·rename_i u v E D;have f:=dJ h;exact bB_ok (oBool f.1) (hx.trans (U2 E ρ)) (n.trans (U2 D ρ)) f.2
  ·exact tl hx n B h G
theorem oy(hx:aX md F x=a.v ρ)(h:oz a=some (g,r)):vM C md ρ S F w (.unOp .not s x) r:=by
 unfold oz at h;split at h
 ·cases h;exact gC rfl rfl fun d b pos after=>TX _ hx
 ·cases h;exact gC rfl rfl fun d b pos after=>TX _ hx
 ·rename_i p c;cases h;exact gC rfl rfl fun d b pos after=>kx _ hx
 ·cases h
theorem ZV(c:vI C s=true)(hx:aX md F x=a.v ρ)(m:aX md F y=i.v ρ)(h:ixC a i=some (g,r))(n:Gu g):vM C md ρ S F w (.index s x y) r:=by
 unfold ixC at h;split at h
 ·rename_i l;split at h
  ·rename_i j f;cases h;obtain⟨k,e⟩:=vG f ρ;exact gC rfl rfl fun d o pos after=>oL l k j (Fw c) hx (m.trans e) n.1
  ·cases h
 ·cases h
theorem yA{n y:Option Operand}{i j:Option SC}(p:vI C s=true)(hx:aX md F x=a.v ρ)(t:(n=none/\i=none)\/∃o c,n=some o/\i=some c/\aX md F o=c.v ρ)(z:(y=none/\j=none)\/∃o c,y=some o/\j=some c/\aX md F o=c.v ρ)
  (h:HZ a i j=some (g,r)) (A:Gu g):vM C md ρ S F w (.slice s x n y none) r:=by
 unfold HZ at h;split at h
 ·rename_i l;rcases t with⟨rfl,rfl⟩|⟨o,c,rfl,rfl,D⟩<;>rcases z with⟨rfl,rfl⟩|⟨H,I,rfl,rfl,b⟩
  ·cases h
  ·simp only at h;split at h
   ·rename_i m e;cases h;obtain⟨k,f⟩:=vG e ρ;exact gC rfl rfl fun d B pos after=>Ii l k m (Fw p) hx (b.trans f) A.1
   ·cases h
  ·simp only at h;split at h
   ·rename_i m e;cases h;obtain⟨k,f⟩:=vG e ρ;exact gC rfl rfl fun d B pos after=>oJ l k m (Fw p) hx (D.trans f) A.1
   ·cases h
  ·simp only at h;split at h
   ·rename_i m E e q;cases h;obtain⟨k,f⟩:=vG e ρ;obtain⟨G,u⟩:=vG q ρ;exact gC rfl rfl fun d B pos after=>JK l k G m E (Fw p) hx (D.trans f) (b.trans u) A.1
   ·cases h
 ·cases h
theorem Xd(hx:aX md F x=a.v ρ)(h:G3 C s c a=some (g,r))(m:Gu g):vM C md ρ S F w (.convert s c x) r:=by
 unfold G3 at h;split at h
 ·rename_i u;have i:=dJ h;have e:=oU8 i.1;have b:=i.2;have hx:aX md F x=.int .u8 (u.toNat:Int):=hx;have q:=TP u;split at b
  ·rename_i t;cases b;refine gC rfl rfl fun d f pos after=> ?_;exact tJ .u8 .u8 _ e (oK t) hx (by rw [IntKind.wrap_u8];omega)
  ·rename_i t;cases b;refine gC rfl rfl fun d f pos after=> ?_;exact tJ .i64 .u8 _ e (oK t) hx (Yv u)
  ·rename_i t;cases b;refine gC rfl rfl fun d f pos after=> ?_;exact tJ .i32 .u8 _ e (oK t) hx (by simp [IntKind.wrap,IntKind.bits,IntKind.signed];omega)
  ·cases b
 ·rename_i k n;have i:=dJ h;have e:=oIsK i.1;have b:=i.2;split at b
  ·rename_i t;cases b;exact gC rfl rfl fun d f pos after=>TS k n e (oK t) hx
  ·rename_i k' _ t;cases o:HE k k' with
   |true=>
    rw [o]at b;obtain rfl:=mK o;simp only [aL]at b;cases j:i64 k with
    |true=>rw [j]at b;obtain rfl:=Dk j;cases b;exact gC rfl rfl fun d f pos after=>tJ .i64 .i64 n e (oK t) hx (vq m.1.lo m.1.hi)
    |false=>rw [j]at b;cases b;exact gC rfl rfl fun d f pos after=>tJ k k n e (oK t) hx m.1
   |false=>rw [o]at b;cases b;exact gC rfl rfl fun d f pos after=>FV k' k n e (oK t) hx
  ·have p:=dJ b;cases p.2;exact gC rfl rfl fun d f pos after=>Qh k k n e (Fw p.1) hx
 ·rename_i l;have i:=dJ h;have b:=dJ i.2;cases b.2;exact gC rfl rfl fun d f pos after=>NY l (Fw i.1) (Fw b.1) hx
 ·cases h
end
open Go.Wk
open Go.Ce (Tr)
open Nat renaming beq → cV
section
variable {C:Cx}{md:Md}{w0 w:World}{S0:List Nat}{ρ:Nat->Ad}{S:St}{F:Nat->Value}
variable {l:List SC}{t f:Nat}{a:Bool}{v:SV}
theorem rM(h:rN l t f a=some v):
  (a=false/\∃x,l[t]? =some x/\x.kn=true/\v=.c' x)\/(a=true/\t+f<=l.length/\(∀x∈(l.drop t).take f,x.kn=true)/\v=.a' ((l.drop t).take f))\/(a=true/\f=0/\v=.a' []):=by
 unfold rN at h;cases a with
 |true=>
  simp only [aL]at h;split at h
  ·rename_i q e;have b:=dJ h;cases b.2;obtain⟨d,c⟩:=wI e;rw [nH]at d c;subst d;by_cases n:f=0
   ·subst n;exact .inr (.inr ⟨rfl,rfl,aA2⟩)
   ·refine .inr (.inl ⟨rfl, ?_,LX b.1,rfl⟩);simp at c;omega
  ·cases h
 |false=>
  simp only [aG]at h;split at h
  ·rename_i x hx;have b:=dJ h;cases b.2;rw [gQ]at hx;exact .inl ⟨rfl,x,hx,b.1,rfl⟩
  ·cases h
theorem Cn{k:Nat}(h:rN l t f a=some v)(b:∀x∈l,x.ok k):v.ok k:=by
 rcases rM h with⟨_,x,c,_,rfl⟩|⟨_,_,_,rfl⟩|⟨_,_,rfl⟩
 ·exact b x (aI c)
 ·exact fun x hx=>b x (Tu (Bd hx))
 ·intro x hx;cases hx
variable {q:Nat×Nat×Bool}
theorem Ml(h:Su C t f=some q):∃(l:List Field) (b:Field),C.P.underlying t=some (.struct l.toArray)/\l[f]? =some b/\q.1=b.offset/\Qn C b.type=some q.2.1/\R2 C b.type=some q.2.2:=by
 unfold Su at h;split at h
 ·rename_i i d;split at h
  ·rename_i b c;split at h
   ·rename_i n a e g;cases h;rw [gQ]at c;exact⟨i.toList,b,aD0,c,rfl,e,g⟩
   ·cases h
  ·cases h
 ·cases h
theorem U8{n:Nat}(h:rN l f n a=some v)(d:Qn C t=some n)(c:R2 C t=some a):∃u,v.v ρ=some u/\(part t (l.map (SC.v ρ)).toArray f).run C.P w=.ok u w:=by
 rcases rM h with⟨rfl,x,b,_,rfl⟩|⟨rfl,g,_,rfl⟩|⟨rfl,rfl,rfl⟩
 ·exact⟨_,rfl,by simp [part,V4 c w,b]⟩
 ·refine⟨_,rfl, ?_⟩;have e:(l.map (SC.v ρ)).toArray.extract f (f+n)=(((l.drop f).take n).map (SC.v ρ)).toArray:=by simp only [List.extract_toArray,List.extract_eq_take_drop,vd];rw [List.map_take,List.map_drop]
  simp only [part,Sem.run_bind,V4 c w,Result.andThen_ok,fM,Rj d w,Sem.run_pure,e]
 ·refine⟨_,rfl, ?_⟩;have e:(l.map (SC.v ρ)).toArray.extract f (f+0)= #[]:=aA2;simp only [part,Sem.run_bind,V4 c w,Result.andThen_ok,fM,Rj d w,Sem.run_pure,e];rfl
variable {x:Operand}
theorem D5(hx:aX md F x=.agg (l.map (SC.v ρ)).toArray)(c:∀x∈l,x.ok S.H.length)(b:Su C t f=some q)(h:rN l q.1 q.2.1 q.2.2=some v):vM C md ρ S F w (.field t x f) v:=by obtain⟨o,p,m,k,j,i,g⟩:=Ml b;obtain⟨u,e,a⟩:=U8 (w:=w) (ρ:=ρ) h i g;refine⟨Cn h c,u,e,fun d n pos after=> ?_⟩;rw [j]at a;simp [execOp,hx,Instr.field,run_underlying m,k,asAgg];rw [a];rfl
theorem Wt{c:SC}(hx:aX md F x=c.v ρ)(l:c.ok S.H.length)(h:awn C t f c=some v):vM C md ρ S F w (.fieldAddr t x f) v:=by
 unfold awn at h;split at h
 ·rename_i q p;obtain⟨z,k,u,s,m,r,y⟩:=Ml p;cases g:cV q.2.1 0 with
  |true=>rw [g]at h;cases h
  |false=>
   rw [g]at h;simp only [aG]at h;have i:q.2.1≠0:=fun e=>by rw [e]at g;cases g
   have kX:∀A:Addr,(Instr.fieldAt t (.pointer (some A)) f).run C.P w=.ok (.pointer (some (A.add k.offset))) w:=by intro A;simp [Instr.fieldAt,run_underlying u,s,Instr.sureAddr,fieldPlace,Rj r w,i]
   split at h
   ·rename_i id off;cases h;refine⟨l,_,rfl,fun d n pos after=> ?_⟩;have hx:aX md F x=.pointer (some ⟨(ρ id).b,off,none⟩):=hx;rw [ff _ k.offset hx (kX _),NO,<-m];rfl
   ·rename_i id j o off;cases h;refine⟨l,_,rfl,fun d n pos after=> ?_⟩;have hx:aX md F x=.pointer (some (ea (ρ id).a (j.toNat*o+off))):=hx;rw [qR _ _ k.offset hx (by rw [<-HU];exact kX _),<-m,Bn];rfl
   ·cases h
 ·cases h
theorem HR{l:List SA}{y:SA}(hx:aX md F x=.tuple (l.map (SA.v ρ)).toArray)(a:∀x∈l,x.ok S.H.length)(h:eX l t=some y):vM C md ρ S F w (.extract x t) y.sv:=by rw [gQ]at h;exact⟨SA.Er (a y (aI h)),_,SA.R4 ρ y,fun d b pos after=>Qi _ _ hx (by simp [h])⟩
theorem TR(h:zC C t=some l)(w:World):∃v,(zeroValue t).run C.P w=.ok v w/\(∀c∈l,c.ids=[]/\c.kn=true)/\∀ρ,v.cells=(l.map (SC.v ρ)).toArray:=by
 unfold zC at h;split at h
 ·rename_i v a;obtain⟨d,b⟩:=HX h;exact⟨v,xX a w,d,fun ρ=>by rw [b]⟩
 ·cases h
theorem Mm{C:Operand->SV}{D:Nat->Option (Nat×Nat)}{k:Nat}:∀(c:List (Nat×Operand)) (cs r:List SC),(∀p∈c,(C p.2).ok k/\∀u,(C p.2).v ρ=some u->aX md F p.2=u)->(∀x∈cs,x.ok k)->Ff D C c cs=some r->
  Instr.fill D (cs.map (SC.v ρ)).toArray (c.map fun p=>(p.1,aX md F p.2))=some (r.map (SC.v ρ)).toArray/\r.length=cs.length/\∀x∈r,x.ok k
 |[],cs,r,_,m,h=>by cases h;exact⟨rfl,rfl,m⟩
 |p::c,cs,r,G,m,h=>by
  simp only [Ff]at h;split at h
  ·rename_i q a K d;have I:=dJ h;have B:=I.2;split at B
   ·rename_i l b;obtain⟨A,H⟩:=tw b;have j:=G p fQ;have s:=SV.Na d j.1;obtain⟨v,t,f⟩:=SV.Ic (ρ:=ρ) d;have n:=j.2 v t;have g:∀x∈l,x.ok k:=by
     rw [H];intro x hx;rcases aS.1 hx with hx|hx
     ·rcases aS.1 hx with hx|hx
      ·exact m x (Bd hx)
      ·exact s x hx
     ·exact m x (Tu hx)
    obtain⟨O,N,M⟩:=Mm c l r (fun J L=>G J (fB _ L)) g B;refine⟨?_,by rw [N,yK b],M⟩;obtain⟨off,size⟩:=q;obtain⟨i,o⟩:=p;have w:a.length=size:=iL I.1;have A:off+a.length<=cs.length:=A;simp only [vS,Instr.fill,K,n];have y:v.cells.size=a.length:=by rw [f];simp
    have z:¬((v.cells.size≠size||decide (off+v.cells.size>(cs.map (SC.v ρ)).toArray.size))=true):=by rw [y];simp [w];omega
    rw [aA z,<-O];congr 1;rw [f];have E:=Go.Ce.ig off (a.map (SC.v ρ)) (cs.map (SC.v ρ)) 0 (by simp;exact A);simp only [Bm,Hb]at E;rw [H];have e:((cs.take off++a++cs.drop (off+a.length)).map (SC.v ρ))=(cs.map (SC.v ρ)).take off++a.map (SC.v ρ)++(cs.map (SC.v ρ)).drop (off+a.length):=aA2;simp only at e⊢;rw [e,<-E,<-Array.foldl_toList];simp [Array.toList_zipIdx]
   ·cases B
  ·cases h
theorem Jy:∀{b:List Field} {l:List (Nat×Nat)},Hn C b=some l->(b.mapM fun f=>(do pure (f.offset,<-sizeOf f.type):Sem (Nat×Nat))).run C.P w=.ok l w
 |[],l,a=>by cases a;simp
 |f::b,l,a=>by
  simp only [Hn]at a;split at a
  ·rename_i z e;split at a
   ·rename_i q d;cases a;have c:=Jy d;rw [List.mapM_cons];simp only [Sem.run_bind,Rj e w,Result.andThen_ok,Sem.run_pure,c]
   ·cases a
  ·cases a
theorem G9{y:World}(I:Rel C w0 S0 ρ S F y)(B:C.nn=md.n){f:Array (Nat×Operand)}(h:Ho C (S.ev C) t f.toList=some v):vM C md ρ S F w (.build t f) v:=by
 unfold Ho at h;split at h
 ·rename_i z O A a;split at h
  ·rename_i cs r;cases h;obtain⟨M,x,K,l⟩:=TR A w;obtain⟨s,Q,J⟩:=Mm (ρ:=ρ) (md:=md) (F:=F) (k:=S.H.length) f.toList z cs (fun p _=>Xm I B p.2) (fun c G i u=>by rw [(K c G).1]at u;cases u) r;refine⟨J,_,rfl,fun d N pos after=> ?_⟩;have b:(f.map fun p=>(p.1,aX md F p.2)).toList=f.toList.map fun p=>(p.1,aX md F p.2):=aA2;have l:=l ρ;unfold plOf at a;split at a
   ·rename_i L q;split at a
    ·rename_i lp o;cases a;have D:=Jy (w:=w) o;have g:eX lp=fun i=>lp.toArray[i]? :=by funext i;rw [gQ];simp
     rw [g]at s;have j:C.P.underlying t=some (.struct L.toList.toArray):=by simpa using q
     simp only [execOp,Instr.build,Sem.run_bind,x,Result.andThen_ok,run_underlying j,l,List.mapM_toArray,Sem.run_map,D,Sem.run_pure];rw [b,s];rfl
    ·cases a
   ·rename_i k e E;split at a
    ·rename_i n m;cases a;simp only [execOp,Instr.build,Sem.run_bind,x,Result.andThen_ok,run_underlying E,l,Rj m w];rw [b,s];rfl
    ·cases a
   ·cases a
  ·cases h
 ·cases h
end
open Go.Wk
open Go.Ce (Tr)
section
variable {C:Cx}{md:Md}{w0 w:World}{S0:List Nat}{ρ:Nat->Ad}{S:St}{F:Nat->Value}
variable {H:List Ob}{a:Ro}
theorem FO{r:Rv}(h:Ju H r=some a):∃g v,r=some (g,v)/\a=⟨g,v,H,[]⟩:=by
 unfold Ju at h;split at h
 ·cases h;exact⟨_,_,rfl,rfl⟩
 ·cases h
theorem J6{v:Option SV}(h:mI H v=some a):∃x,v=some x/\a=⟨[],x,H,[]⟩:=by
 unfold mI at h;split at h
 ·cases h;exact⟨_,rfl,rfl⟩
 ·cases h
variable {x:SV}
theorem Wi{v:SV} (h:(match x with
  |.u'=>none
  |v=>some v)=some v):x=v/\∃u,v.v ρ=some u:=by
 cases x<;>simp only [aU,reduceCtorEq]at h
 ·subst h;exact⟨rfl,_,rfl⟩
 ·subst h;exact⟨rfl,_,rfl⟩
 ·subst h;exact⟨rfl,_,rfl⟩
 ·subst h;exact⟨rfl,_,rfl⟩
theorem TG{a:Type}{b:Operand->SV}{x:Option Operand}{f:Option SC->Option a}{r:a}(h:wH b x f=some r):(x=none/\f none=some r)\/∃o c,x=some o/\b o=.c' c/\f (some c)=some r:=by
 cases x with
 |none=>exact .inl ⟨rfl,h⟩
 |some o=>obtain⟨c,e,d⟩:=lT h;exact .inr ⟨o,c,rfl,e,d⟩
variable {t:Nat}
theorem J5{q:Nat×Nat}(h:wg C t=some q):C.P.underlying t=some (.array q.1 q.2):=by
 unfold wg at h;split at h
 ·rename_i a;cases h;exact a
 ·cases h
theorem ZP{v b:Operand}{cs:List SC}{i:SC}{g:List PD}(hx:aX md F v=.agg (cs.map (SC.v ρ)).toArray)(r:aX md F b=i.v ρ)(h:LZ C t cs i=some (g,x))(u:Gu g):vM C md ρ S F w (.index t v b) x:=by
 unfold LZ at h;split at h
 ·rename_i q m;have h:=(dJ h).2;split at h
  ·rename_i D B;split at h
   ·rename_i l j n p;cases h
    obtain⟨k,o⟩:=vG p ρ;obtain⟨A,_,z⟩:=N3 n;have y:(l.map fun s=>[str s])=(cs.map (SC.v ρ)).map fun c=>[c]:=by
     rw [z ρ,List.map_flatMap]
     have:∀l:List aC,(l.map fun s=>[str s])=l.flatMap fun a=>List.map (fun c=>[c]) ((Ty.s').enc a):=by
      intro l;induction l with
      |nil=>rfl
      |cons s l f=>rw [vS,kS,f];rfl
     exact this l
    letI:=Ty.y6 .s';exact gC rfl rfl fun d E pos after=>ys (e:=q.2) (fun s=>[str s]) l q.1 k j (cs.map (SC.v ρ)) (str (TB .s' l j)) y (J5 m) A (V4 B w) (Rj D w) hx (r.trans o) rfl u.1
   ·cases h
  ·cases h
 ·cases h
theorem I9(r:C.nn=md.n)(z:Rel C w0 S0 ρ S F w){op:Op}(hp:mL op=true)(h:opP C (S.ev C) S.H op=some a)(E:Gu a.g)(w':World):vM C md ρ S F w' op a.v/\a.H=S.H/\a.m=[]:=by
 cases op<;>first|cases hp|skip
 case move x=>
  obtain⟨v,p,rfl⟩:=J6 h;obtain⟨e,u,B⟩:=Wi (ρ:=ρ) p;obtain⟨A,D⟩:=Xm z r x;rw [e]at A D;exact⟨⟨A,u,B,fun d U pos after=>by rw [<-D u B];rfl⟩,rfl,rfl⟩
 case assign x=>
  obtain⟨v,p,rfl⟩:=J6 h;obtain⟨e,u,B⟩:=Wi (ρ:=ρ) p;obtain⟨A,D⟩:=Xm z r x;rw [e]at A D;exact⟨⟨A,u,B,fun d U pos after=>by rw [<-D u B];rfl⟩,rfl,rfl⟩
 case binOp b t x y t'=>
  obtain⟨g,v,p,rfl⟩:=FO h;obtain⟨n,e,B⟩:=lT p;obtain⟨c,A,D⟩:=lT B;exact⟨cj (nW z r e).2 (nW z r A).2 (fun k v W Y=>Z8 Y W) D E,rfl,rfl⟩
 case unOp u t x=>
  cases u<;>first|cases h|skip
  obtain⟨g,v,p,rfl⟩:=FO h;obtain⟨n,e,B⟩:=lT p;exact⟨oy (nW z r e).2 B,rfl,rfl⟩
 case convert s t x=>
  obtain⟨g,v,p,rfl⟩:=FO h;obtain⟨n,e,B⟩:=lT p;exact⟨Xd (nW z r e).2 B E,rfl,rfl⟩
 case index t x T=>
  have h:(bif vI C t then Ju S.H (fU (S.ev C x) fun n=>fU (S.ev C T) fun i=>ixC n i)else(match S.ev C x with
   |.a' cs=>Ju S.H (fU (S.ev C T) fun i=>LZ C t cs i)
   |_=>none))=some a:=h
  cases N:vI C t with
  |true=>rw [N]at h;obtain⟨g,v,p,rfl⟩:=FO h;obtain⟨n,e,B⟩:=lT p;obtain⟨c,A,D⟩:=lT B;exact⟨ZV N (nW z r e).2 (nW z r A).2 D E,rfl,rfl⟩
  |false=>
   rw [N]at h;simp only [aG]at h;have J:=Xm z r x;split at h
   ·rename_i cs P;obtain⟨g,v,p,rfl⟩:=FO h;obtain⟨c,A,D⟩:=lT p;rw [P]at J;exact⟨ZP (J.2 _ rfl) (nW z r A).2 D E,rfl,rfl⟩
   ·cases h
 case slice t x K L V=>
  cases V with
  |some m=>have:=(dJ (show(bif vI C t then iM C (S.ev C) S.H (.slice t x K L (some m))else none)=some a from h)).2;cases this
  |none=>
   have h:=dJ (show(bif vI C t then iM C (S.ev C) S.H (.slice t x K L none)else none)=some a from h);have e:(bif vI C t then Ju S.H (fU (S.ev C x) fun n=>wH (S.ev C) K fun i=>wH (S.ev C) L fun j=>HZ n i j)else fU (S.ev C x) fun n=>wH (S.ev C) K fun i=>wH (S.ev C) L fun j=>Ct C S.H t n i j)=some a:=h.2;rw [h.1]at e;have h:=And.intro h.1 e;obtain⟨g,v,p,rfl⟩:=FO h.2;obtain⟨n,e,B⟩:=lT p;refine⟨?_,rfl,rfl⟩;rcases TG B with⟨A,D⟩|⟨o,c,A,D,h6⟩
   ·rcases TG D with⟨I,G⟩|⟨M,R,I,G,Q⟩
    ·exact yA h.1 (nW z r e).2 (.inl ⟨A,rfl⟩) (.inl ⟨I,rfl⟩) G E
    ·exact yA h.1 (nW z r e).2 (.inl ⟨A,rfl⟩) (.inr ⟨M,R,I,rfl,(nW z r G).2⟩) Q E
   ·rcases TG h6 with⟨I,G⟩|⟨M,R,I,G,Q⟩
    ·exact yA h.1 (nW z r e).2 (.inr ⟨o,c,A,rfl,(nW z r D).2⟩) (.inl ⟨I,rfl⟩) G E
    ·exact yA h.1 (nW z r e).2 (.inr ⟨o,c,A,rfl,(nW z r D).2⟩) (.inr ⟨M,R,I,rfl,(nW z r G).2⟩) Q E
 case extract x i=>
  have h:(match S.ev C x with
   |.t' l=>match eX l i with
    |some y=>some (Ro.mk [] y.sv S.H [])
    |none=>none
   |_=>none)=some a:=h
  obtain⟨p,e⟩:=Xm z r x;split at h
  ·rename_i l O;split at h
   ·rename_i y X;cases h;rw [O]at p e;exact⟨HR (e _ rfl) p X,rfl,rfl⟩
   ·cases h
  ·cases h
 case field t x f=>
  have h:(match S.ev C x with
   |.a' l=>match Su C t f with
    |some q=>mI S.H (rN l q.1 q.2.1 q.2.2)
    |none=>none
   |_=>none)=some a:=h
  obtain⟨p,e⟩:=Xm z r x;split at h
  ·rename_i l O;split at h
   ·rename_i q Z;obtain⟨v,B,rfl⟩:=J6 h;rw [O]at p e;exact⟨D5 (e _ rfl) p Z B,rfl,rfl⟩
   ·cases h
  ·cases h
 case build t ps=>
  obtain⟨v,p,rfl⟩:=J6 h;exact⟨G9 z r p,rfl,rfl⟩
 case fieldAddr t x f=>
  obtain⟨n,p,e⟩:=lT (show fU (S.ev C x) (fun n=>mI S.H (awn C t f n))=some a from h);obtain⟨v,B,rfl⟩:=J6 e;obtain⟨A,D⟩:=nW z r p;exact⟨Wt D A B,rfl,rfl⟩
theorem od(b:C.nn=md.n):Ya C md:=fun w0 S0 ρ S F w op v H m c a h w'=>(I9 b c a h trivial w').1
end
open Go.Wk
open Go.Ce (Tr)
def Step(C:Cx)(md:Md)(w0:World)(S0:List Nat)(ρ:Nat->Ad)(S:St)(F:Nat->Value)(w:World)(o:Oper)(S2:St):Prop:=
 ∀(c:Array Oper) (Q:Exit->Act->World->Prop) (a:List Oper),
  (∀b e f,Rel C w0 S0 b S2 e f->Nx S ρ S2 b->(∀t,o.dst≠some t->e t=F t)->(∀d,o.dst=some d->mL o.op=true->∃g,(execOp (aX md F) o).run C.P w=.ok (.value (e d)) g)->W C.P md c Q a e f)->W C.P md c Q (o::a) F w
section
variable {C:Cx}{md:Md}{w0 w:World}{S0:List Nat}{ρ:Nat->Ad}{S:St}{F:Nat->Value}
variable {d:Nat}{ty:TypeId}{pos:String}{after:Array Edge}
variable {b:St}{c:World}{v:SV}
theorem da{a:Nat->Ad}{u:Value}(h:Rel C w0 S0 a b F c)(g:v.v a=some u)(i:v.ok b.H.length):Rel C w0 S0 a (b.set d v) (eF F d u) c:=by
 refine⟨h.gl,fun t f j=> ?_,fun t=> ?_,h.ho,h.mem⟩
 ·rw [lI]at j;by_cases e:t=d
  ·rw [aB e]at j;rw [g]at j;cases j;subst e;rw [dj]
  ·rw [aA e]at j;rw [Iq _ _ _ _ e];exact h.fr t f j
 ·rw [lI];by_cases e:t=d
  ·rw [aB e];exact i
  ·rw [aA e];exact h.fo t
theorem NI{u:Value}:∀t,(some d:Option Nat)≠some t->eF F d u t=F t:=fun t h=>Iq _ _ _ _ fun e=>h (by rw [e])
theorem VX{op:Op}(g:Rel C w0 S0 ρ S F w)(h:vM C md ρ S F w op v):Step C md w0 S0 ρ S F w ⟨some d,op,ty,pos,after,none⟩ (St.set ⟨S.F,S.H,S.nb,S.al,[]++S.m⟩ d v):=by intro c Q a e;obtain⟨j,u,i,b⟩:=h;refine gM rfl rfl (b d ty pos after) (e ρ _ w (da (g.same rfl rfl) i j) ⟨⟨rfl,rfl,Le.refl⟩,Le.refl,fun _ _ h=>h⟩ NI fun d2 f _=>⟨w, ?_⟩);cases f;rw [dj];exact b d ty pos after
def Ee(ρ:Nat->Ad)(n:Nat)(a:Ad):Nat->Ad:=fun id=>if id=n then a else ρ id
variable {n:Nat}{a:Ad}
theorem wX:Up n ρ (Ee ρ n a):=fun id b=>by unfold Ee;rw [aA aA0]
theorem nX:Ee ρ n a n=a:=by unfold Ee;rw [aB rfl]
variable {L:List cF}{r:cF}
theorem Hp.rot{w0 w:World}{S:List Nat}(h:Hp w0 S (r::L) w):Hp w0 S (L++[r]) w:=by refine⟨h.os,h.tape,h.output,h.size,h.below,fun x hx=>h.res x (by simp at hx⊢;exact hx.symm), ?_⟩;have c:=fY.1 h.sep;refine dI.2 ⟨c.2,List.pairwise_singleton _ _,fun a g b d=> ?_⟩;simp at d;subst d;intro k f e;exact c.1 a g k e f
theorem RO.up{n:Nat}{a:Nat->Ad}{id:Nat}{o:Ob}{r:cF}(h:RO w0 S0 ρ id o r)(d:Up n ρ a)(f:id<n)(k:∀e cs,o=.bl e cs->∀c∈cs,c.ok n):RO w0 S0 a id o r:=by
 cases o with
 |bl e cs=>obtain⟨i,rfl,s,q⟩:=h;refine⟨i,by rw [d id f],s,fun j c g p=> ?_⟩;rw [q j c g p,SC.up d (k e cs rfl c (aI g))]
 |rw e b t l=>show r=_;rw [d id f];exact h
 |ro t l=>exact⟨h.1,by rw [d id f];exact h.2⟩
 |br m l=>show r=_;rw [d id f];exact h
 |dd m=>trivial
theorem yG{o:Ob}(l:Rel C w0 S0 ρ S F w)(m:Mt w0 S0 ρ S.H L)(E:Hp w0 S0 (r::L) c)(y:RO w0 S0 (Ee ρ S.H.length a) S.H.length o r)(A:o.len=a.ln)(z:∀e cs,o=.bl e cs->∀H∈cs,H.ok (S.H.length+1))
  (G:b.F=S.F) (h:b.H=S.H++[o]):Rel C w0 S0 (Ee ρ S.H.length a) b F c:=by
 have v:∀t,b.at t=S.at t:=fun t=>by rw [St.at_eq,St.at_eq,G]
 have n:b.H.length=S.H.length+1:=aA7;refine⟨fun g id B=> ?_,fun t u q=> ?_,fun t=> ?_,fun id e cs f H s=> ?_,⟨L++[r],Hp.rot E,by simp [m.1,n],fun id p d=> ?_⟩⟩
 ·obtain⟨M,d⟩:=l.gl g id B;exact⟨aA0,by rw [wX id M];exact d⟩
 ·rw [v,SV.up wX (l.fo t)]at q;exact l.fr t u q
 ·rw [v,n];exact SV.cQ (l.fo t) aA0
 ·rw [n];rw [h]at f;by_cases j:id<S.H.length
  ·rw [aH j]at f;exact SC.cQ (l.ho id e cs f H s) aA0
  ·rw [aN aA0]at f
   have:o=.bl e cs:=by
    cases i:id-S.H.length with
    |zero=>rw [i]at f;simpa using f
    |succ k=>rw [i]at f;simp at f
   exact z e cs this H s
 ·rw [h]at d;by_cases j:id<S.H.length
  ·rw [aH j]at d;obtain⟨K,x,J,I⟩:=m.2 id p d;refine⟨by rw [wX id j];exact K,x,by rw [aH (by rw [m.1];exact j)];exact J,I.up wX j fun e cs D=> ?_⟩;subst D;exact l.ho id e cs d
  ·rw [aN aA0]at d;have i:id-S.H.length=0:=by
    cases i:id-S.H.length with
    |zero=>rfl
    |succ k=>rw [i]at d;simp at d
   have hid:id=S.H.length:=aA0;rw [i]at d;have:o=p:=aD0;subst this;subst hid;exact⟨by rw [nX];exact A,r,by rw [aN (by rw [m.1];exact eV _),m.1];simp,y⟩
theorem Km{o:Ob}{m:List Rg}(x:Rel C w0 S0 ρ S F w)(h:b.H=S.H++[o])(f:b.nb=S.nb)(g:b.al=S.al)(r:b.m=m++S.m):Nx S ρ b (Ee ρ S.H.length a):=by
 have d:∀k p,Le k p ρ S.H (Ee ρ S.H.length a) b.H:=by
  intro k p;rw [h];refine⟨aA2,wX,fun id q _ i=> ?_⟩;have u:=(aD.1 i).1;rw [aH u,i];cases q with
  |bl e cs=>exact .inr ⟨cs,rfl,rfl,fun j c n=>.inr ⟨c,n,fun s=>⟨s,SC.up wX (x.ho id e cs i c (aI n))⟩⟩⟩
  |rw e y t l=>exact .inr rfl
  |br m l=>exact .inr rfl
  |ro t l=>rfl
  |dd m=>rfl
 exact⟨⟨f,g,d _ _⟩,d _ _,fun id j v=>by rw [r];exact Fk.2 (.inr v)⟩
end
open Go.Wk
open Go.Ce (Tr)
section
variable {C:Cx}{md:Md}{w0 w:World}{S0:List Nat}{ρ:Nat->Ad}{S:St}{F:Nat->Value}
variable {d:Nat}{ty:TypeId}{pos:String}{after:Array Edge}
def adB(b:Nat):Ad:=⟨some b,some ⟨b,0,none⟩,0,false,0⟩
variable {z:List SC}{e:Nat}
theorem Jf{op:Op}{x:SC}{V:Nat->Value}(h:Rel C w0 S0 ρ S F w)(f:∀c∈z,c.ok S.H.length)(hx:x.ok (S.H.length+1))(n:mL op=false)
  (u:∀b,x.v (Ee ρ S.H.length (adB b))=V b) (a:(execOp (aX md F) (⟨some d,op,ty,pos,after,none⟩:Oper)).run C.P w=.ok (.value (V w.heap.size)) (w.alloc (.cells (z.map (SC.v ρ)).toArray e (0,0)))):
  Step C md w0 S0 ρ S F w ⟨some d,op,ty,pos,after,none⟩ (St.set ⟨S.F,S.H++[.bl e z],S.nb,S.al,[]++S.m⟩ d (.c' x)):=by
 intro r Q l p;obtain⟨L,m,y⟩:=h.mem;refine jF m (z.map (SC.v ρ)) e V rfl rfl a fun b k i=> ?_
 have A:Rel C w0 S0 (Ee ρ S.H.length (adB b)) ⟨S.F,S.H++[.bl e z],S.nb,S.al,[]++S.m⟩ F k:=by
  refine yG (o:=.bl e z) h y i ⟨z.map (SC.v ρ),by rw [nX];rfl,aA2,fun j c q p=> ?_⟩ rfl (fun D B s c t=> ?_) rfl rfl
  ·rw [bE,q,SC.up wX (f c (aI q))];rfl
  ·cases s;exact SC.cQ (f c t) aA0
 refine p _ _ k (da A (by show some (x.v _)=_;rw [u]) (by show x.ok (S.H++[_]).length;simpa using hx)) (Km h rfl rfl rfl rfl) NI fun d2 _ g=> ?_;rw [show mL op=true from g]at n;cases n
variable {a:Ro}
theorem GD(k:Rel C w0 S0 ρ S F w)(h:iM C (S.ev C) S.H (.alloc e)=some a):Step C md w0 S0 ρ S F w ⟨some d,.alloc e,ty,pos,after,none⟩ (St.set ⟨S.F,a.H,S.nb,S.al,a.m++S.m⟩ d a.v):=by
 have h:(match zC C e with
  |some z=>some (Ro.mk [] (.c' (.p' S.H.length 0)) (S.H++[.bl e z]) [])
  |none=>none)=some a:=h
 split at h
 ·rename_i z g;cases h;obtain⟨o,n,l,f⟩:=TR g w;refine Jf (V:=fun b=>.pointer (some ⟨b,0,none⟩)) k (fun c j i m=>by rw [(l c j).1]at m;cases m) (fun i m=>by have:i=S.H.length:=aE.1 m;omega) rfl (fun b=>by show iJ (Ee ρ _ _ _).b 0=_;rw [nX];rfl) ?_;have f:=f ρ;simp [execOp,Instr.alloc,n,newVar,newRow,f]
 ·cases h
theorem VY(c:Rel C w0 S0 ρ S F w)(f:C.nn=md.n){x:Operand}(h:iM C (S.ev C) S.H (.box e x)=some a):Step C md w0 S0 ρ S F w ⟨some d,.box e x,ty,pos,after,none⟩ (St.set ⟨S.F,a.H,S.nb,S.al,a.m++S.m⟩ d a.v):=by
 have h:(match(S.ev C x).cells with
  |some cs=>some (Ro.mk [] (.c' (.p' S.H.length 0)) (S.H++[.bl e cs]) [])
  |none=>none)=some a:=h
 split at h
 ·rename_i cs m;cases h;obtain⟨p,o⟩:=Xm c f x;obtain⟨u,l,k⟩:=SV.Ic (ρ:=ρ) m;have j:=o u l;refine Jf (V:=fun b=>.pointer (some ⟨b,0,none⟩)) c (SV.Na m p) (fun i g=>by have:i=S.H.length:=aE.1 g;omega) rfl (fun b=>by show iJ (Ee ρ _ _ _).b 0=_;rw [nX];rfl) ?_;simp [execOp,Instr.box,j,newVar,newRow,k]
 ·cases h
theorem yF(z:List SC):∀k,(wB z k).length=k*z.length
 |0=>by simp [wB]
 |k+1=>by show(z++wB z k).length=_;rw [bM,yF z k,dF,Gy]
theorem AG{z:List SC}{p:SC->Prop}(a:∀x∈z,p x):∀k,∀x∈wB z k,p x
 |0,x,h=>by cases h
 |k+1,x,h=>by
  rcases aS.1 (show x∈z++wB z k from h)with h|h
  ·exact a x h
  ·exact AG a k x h
theorem AH(z:List SC):∀(k j:Nat),j<k*z.length->(wB z k)[j]? =z[j%z.length]?
 |0,j,h=>by omega
 |k+1,j,h=>by
  show(z++wB z k)[j]? =_;by_cases a:j<z.length
  ·rw [aH a,FC a]
  ·rw [aN aA0,AH z k _ (by rw [dF]at h;omega)];rw [<-Nat.mod_eq_sub_mod aA0]
theorem W4{a:Array Value}(j:a=(z.map (SC.v ρ)).toArray):(Array.range (e*z.length)).map (a[·%a.size]!)=((wB z e).map (SC.v ρ)).toArray:=by
 subst j;apply O3
 ·simp [yF]
 ·intro i l m;have b:i<e*z.length:=by simpa using l
  have f:0<z.length:=by
   rcases Nat.eq_zero_or_pos z.length with h|h
   ·rw [h]at b;simp at b
   ·exact h
  have k:=AH z e i b;have d:i%z.length<z.length:=Nat.mod_lt _ f;have g:i<(wB z e).length:=by rw [yF];exact b
  rw [aM d,aM g]at k;have c:=aJ k;simp only [Array.getElem_map,Array.getElem_range,List.getElem_toArray,List.getElem_map,c];simp [d]
theorem Ft(D:Rel C w0 S0 ρ S F w)(L:C.nn=md.n){len:Nat}{j:Array (Nat×Operand)}(h:iM C (S.ev C) S.H (.buildSlice e len j)=some a):Step C md w0 S0 ρ S F w ⟨some d,.buildSlice e len j,ty,pos,after,none⟩ (St.set ⟨S.F,a.H,S.nb,S.al,a.m++S.m⟩ d a.v):=by
 have h:ue C (S.ev C) S.H e len j.toList=some a:=h;unfold ue at h;split at h
 ·rename_i t B;split at h
  ·rename_i z n K o;have I:=dJ h;have G:=dJ I.2;have A:=G.2;split at A
   ·rename_i cs x;cases A;have l:z.length=n:=iL I.1;have M:len*n<=100000:=Ys G.1;obtain⟨J,T,R,y⟩:=TR K w;have y:=y ρ;obtain⟨E,U,Q⟩:=Mm (ρ:=ρ) (md:=md) (F:=F) (k:=S.H.length) j.toList (wB z len) cs (fun p _=>Xm D L p.2) (AG (fun c O i s=>by rw [(R c O).1]at s;cases s) len) x;have f:(j.map fun p=>(p.1,aX md F p.2)).toList=j.toList.map fun p=>(p.1,aX md F p.2):=aA2;refine Jf (V:=fun b=>.slice (some ⟨b,0,none⟩) len len) D Q (fun i s=>by have:i=S.H.length:=aE.1 s;omega) rfl (fun b=>by show Value.slice (some ⟨(Ee ρ _ _ _).b,0,none⟩) len len=_;rw [nX];rfl) ?_;have r:¬len*n>2^24:=aA0
    have q:∀m:Array Value,(len*n≠0->m=(z.map (SC.v ρ)).toArray)->(Array.range (len*n)).map (m[·%m.size]!)=((wB z len).map (SC.v ρ)).toArray:=by
     intro m P;by_cases g:len*n=0
     ·have N:(wB z len).length=0:=by rw [yF,l,g]
      have:wB z len=[]:=Fp N;rw [g,this];simp
     ·rw [<-l];exact W4 (P g)
    by_cases g:len*n=0
    ·have u:=q #[] (fun h=>absurd g h);simp only [execOp,Instr.buildSlice,Sem.run_bind,run_underlying (V3 B),Result.andThen_ok,Rj o w];rw [aA r,aB g];simp only [Sem.run_bind,Sem.run_pure,Result.andThen_ok];rw [f,u,E];simp [newRow]
    ·have u:=q J.cells (fun _=>y);simp only [execOp,Instr.buildSlice,Sem.run_bind,run_underlying (V3 B),Result.andThen_ok,Rj o w];rw [aA r,aA g];simp only [Sem.run_bind,T,Sem.run_pure,Result.andThen_ok];rw [f,u,E];simp [newRow]
   ·cases A
  ·cases h
 ·cases h
end
open Go.Wk
open Go.Ce (Tr)
open List renaming length → aR
open Nat renaming beq → cV
theorem zY{a:Type}{f:a->List Value}{sz:Nat}(b:tC f sz):∀(l:List a) (i:Nat) (x:a),l[i]? =some x->∃A B,l.flatMap f=A++(f x++B)/\A.length=i*sz
 |y::l,0,x,h=>by have:y=x:=aA9;subst this;exact⟨[],l.flatMap f,rfl,aA2⟩
 |y::l,i+1,x,h=>by obtain⟨A,B,d,c⟩:=zY b l i x aA9;exact⟨f y++A,B,by rw [kS,d,gJ],by rw [bM,b.len,c,dF,Gy]⟩
theorem MU(t:Ty)(l:List t.T)(j:Int)(h:0<=j/\j<(aR l:Int)):l[j.toNat]? =some (TB t l j):=by have a:j.toNat<aR l:=aA0;rw [so];unfold el;rw [aM a];simp [List.getD,aM a]
variable {j:Int}{t:Ty}
theorem Jd{sz:Nat}(h:Zi sz j t=true):j.toNat*sz=j.toNat*t.sz:=by
 unfold Zi at h;cases a:cV sz t.sz with
 |true=>rw [iL a]
 |false=>
  rw [a]at h;simp only [aG]at h;split at h
  ·show(0:Nat)*sz=0*t.sz;simp
  ·cases h
theorem E7{l:List t.T}(a:t.flat=true)(b:0<=j/\j<(aR l:Int))(ρ:Nat->Ad):∃A B,l.flatMap t.enc=A++((jg t l j).map (SC.v ρ)++B)/\A.length=j.toNat*t.sz:=by obtain⟨A,B,d,c⟩:=zY (Ty.vE a) l j.toNat _ (MU t l j b);refine⟨A,B, ?_,c⟩;rw [d];unfold jg;rw [(Ty.zE t 0 0 (TB t l j) a).2]
section
variable {C:Cx}{md:Md}{w0 w:World}{S0:List Nat}{ρ:Nat->Ad}{S:St}{F:Nat->Value}
variable {d:Nat}{ty:TypeId}{pos:String}{after:Array Edge}
variable {x:Operand}{t:Nat}{a:Bool}
theorem KQ{n off k:Nat}{g:Option Addr}{f A B:List Value}{cs:List SC}{v:SV}(m:Rd w g f)(b:f=A++(cs.map (SC.v ρ)++B))(o:aR A=k)(p:Qn C t=some n)(l:R2 C t=some a)(j:rN cs off n a=some v)(r:cs≠[])(e:a=true->0<n)
  (hx:aX md F x=.pointer (some (ea g (k+off)))) (h:∀c∈cs,c.ok S.H.length):vM C md ρ S F w (.load t x) v:=by
 refine⟨Cn j h, ?_⟩;rcases rM j with⟨rfl,c,i,_,rfl⟩|⟨rfl,i,_,rfl⟩|⟨rfl,rfl,rfl⟩
 ·refine⟨_,rfl,fun d ty pos after=>ew g f (k+off) _ m ?_ hx (V4 l w)⟩;rw [b,aN aA0,o,vd];have q:=(aD.1 i).1;rw [aH (by simpa using q),bE,i];rfl
 ·refine⟨_,rfl,fun d ty pos after=>eu g f _ (k+off) n m ?_ ?_ (e rfl) hx (V4 l w) (Rj p w)⟩
  ·rw [b,<-o,List.drop_append,O4 aA0,mQ,vd,iW aA5,Bc aA5,List.map_take,List.map_drop]
  ·simp;omega
 ·exact absurd (e rfl) aA0
variable {c:Ty}
theorem E8{l:List c.T}{j:Int}(a:c.flat=true)(n:Nat):(∀t∈jg c l j,t.ok n)/\(jg c l j).length=c.sz:=by have g:=Ty.Ry c 0 0 (TB c l j) a;refine⟨fun t e i b=>(by rw [(g t e).1]at b;cases b), ?_⟩;have f:=(Ty.zE c 0 0 (TB c l j) a).2 (fun _=>⟨none,none,0,false,0⟩);have d:=bD aR f;rw [Hb,Ty.Wv c _ a]at d;exact d
variable {b:Ro}
theorem Ka{n off id sz:Nat}{τ:Ty}{l:List τ.T}{j:Int}(q:Rd w (ρ id).a (l.flatMap τ.enc))(k:Qn C t=some n)(p:R2 C t=some a)(g:cV n 0=false)(hx:aX md F x=.pointer (some (ea (ρ id).a (j.toNat*sz+off))))
  (h:rK S.H τ l j sz off n a=some b) (o:Gu b.g):vM C md ρ S F w (.load t x) b.v/\b.H=S.H/\b.m=[]:=by
 unfold rK at h;split at h
 ·rename_i v i;have f:=dJ h;have c:=iE f.1;cases f.2;obtain⟨A,B,u,s⟩:=E7 (ρ:=ρ) c.2 o.1;obtain⟨r,d⟩:=E8 (l:=l) (j:=j) c.2 S.H.length;refine⟨KQ q u s k p i (fun e=> ?_) (fun _=> ?_) (by rw [hx,Jd c.1]) r,rfl,rfl⟩
  ·have:=Ty.By c.2;rw [e]at d;simp at d;omega
  ·exact Od fun e=>by rw [e]at g;cases g
 ·cases h
theorem NN{t:Ty}(b:t.flat=true)(ρ:Nat->Ad)(n:Nat):∀(l:List t.T),(RZ t l).map (SC.v ρ)=l.flatMap t.enc/\∀c∈RZ t l,c.ok n
 |[]=>⟨rfl,fun c a=>by cases a⟩
 |x::l=>by
  obtain⟨f,e⟩:=NN b ρ n l;refine⟨?_,fun c a=> ?_⟩
  ·show((t.lay 0 0 x).1++RZ t l).map _=_;rw [Yo,f,(Ty.zE t 0 0 x b).2,kS]
  ·rcases aS.1 (show c∈(t.lay 0 0 x).1++RZ t l from a)with a|a
   ·intro i d;rw [(Ty.Ry t 0 0 x b c a).1]at d;cases d
   ·exact e c a
theorem NZ{n off id sz:Nat}{l:List c.T}{j:Int}(o:Rd w (ρ id).a (l.flatMap c.enc))(g:Qn C t=some n)(i:R2 C t=some a)(τ:cV n 0=false)(hx:aX md F x=.pointer (some (ea (ρ id).a (j.toNat*sz+off))))
  (h:Br S.H c l j off n a=some b):vM C md ρ S F w (.load t x) b.v/\b.H=S.H/\b.m=[]:=by
 unfold Br at h;split at h
 ·have d:=dJ h;obtain⟨v,f,rfl⟩:=J6 d.2;obtain⟨q,p⟩:=NN d.1 ρ S.H.length l;refine⟨KQ (A:=[]) (B:=[]) (k:=0) o (by rw [q];simp) rfl g i f (fun e=> ?_) (fun _=> ?_) (by rw [hx];simp) p,rfl,rfl⟩
  ·rcases rM f with⟨_,m,d,_⟩|⟨_,d,_⟩|⟨_,d,_⟩
   ·rw [e]at d;simp at d
   ·rw [e]at d;have:n=0:=by simp at d;omega
    rw [this]at τ;cases τ
   ·rw [d]at τ;cases τ
  ·exact Od fun e=>by rw [e]at τ;cases τ
 ·cases h
theorem LK(P:Rel C w0 S0 ρ S F w){x:Operand}{c:SC}(hx:aX md F x=c.v ρ)(h:lC C S.H t c=some b)(K:Gu b.g):vM C md ρ S F w (.load t x) b.v/\b.H=S.H/\b.m=[]:=by
 obtain⟨L,D,G⟩:=P.mem;unfold lC at h;split at h
 ·rename_i n a y s;cases f:cV n 0 with
  |true=>rw [f]at h;cases h
  |false=>
   rw [f]at h;simp only [aG]at h;split at h
   ·rename_i id off;split at h
    ·rename_i e cs k;rw [gQ]at k;obtain⟨v,N,rfl⟩:=J6 h;obtain⟨_,r,u,I,rfl,O⟩:=G.2 id _ k;have q:=D.dV id u;have hx:aX md F x=.pointer (some ⟨(ρ id).b,off,none⟩):=hx;refine⟨⟨Cn N (P.ho id e cs k), ?_⟩,rfl,rfl⟩;rcases rM N with⟨rfl,c,R,M,rfl⟩|⟨rfl,R,M,rfl⟩|⟨rfl,rfl,rfl⟩
     ·exact⟨_,rfl,fun d ty pos after=>kL (ρ id).b off I e _ q (O.2 off c R M) hx (V4 s w)⟩
     ·refine⟨_,rfl,fun d ty pos after=>fe (ρ id).b off n I _ e q ?_ aA5 hx (V4 s w) (Rj y w)⟩;apply cL;intro j;rw [bO,bE,bO];by_cases B:j<n
      ·rw [aB B,aB B,bW,bW];have J:off+j<aR cs:=by omega
       have E:=aM J;rw [E,O.2 (off+j) _ E (M _ (aI (i:=j) (by rw [bO,aB B,bW];exact E)))];rfl
      ·rw [aA B,aA B];rfl
     ·exact⟨_,rfl,fun d ty pos after=>fe (ρ id).b off 0 I _ e q aA2 rfl hx (V4 s w) (Rj y w)⟩
    ·cases h
   ·rename_i id j T off;have hx:aX md F x=.pointer (some (ea (ρ id).a (j.toNat*T+off))):=hx;split at h
    ·rename_i e g τ l k;rw [gQ]at k;obtain⟨_,r,u,p⟩:=G.2 id _ k;have p:r=aW τ.enc e τ.sz (ρ id).o (ρ id).a (ρ id).cap l:=p;subst p;exact Ka (D.iO id u) y s f hx h K
    ·rename_i τ l k;rw [gQ]at k;obtain⟨_,r,u,_,z,A,_⟩:=G.2 id _ k;split at h
     ·rename_i U V;cases h;exact Ka (z.M6 D A) y s f hx V K
     ·exact NZ (z.M6 D A) y s f hx h
    ·rename_i m l k;rw [gQ]at k;obtain⟨_,r,u,p⟩:=G.2 id _ k;have p:r=fL (.slice (ρ id).a m (ρ id).cap) m l:=p;subst p;have Q:=D.kB id u;have E:l.map bt=l.flatMap (Ty.c').enc:=(oZ l).symm;rw [E]at Q;exact Ka (τ:=.c') Q y s f hx h K
    ·cases h
   ·cases h
 ·cases h
end
end Go.Oe
