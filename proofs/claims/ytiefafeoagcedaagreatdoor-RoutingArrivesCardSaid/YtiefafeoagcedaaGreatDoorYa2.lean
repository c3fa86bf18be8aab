/-
  The law RoutingArrives holds (part 2 of 9).
-/
import Derived.Test.YtiefafeoagcedaaGreatDoorYa1
import Derived.Lib.SplitLaws
import Derived.Lib.Split
import Derived.OrdersIn
open Bool renaming false → ν, true → μ
open Go renaming Addr → Ζ, IntKind → Δ, Oper → Ι, Operand → Β, Program → Θ, TypeId → Ε, Value → ς, World → φ, execOp → χ, sizeOf → Ο
open Go.Utf8 renaming encode → Γ
open Go.Value renaming int → π, pointer → υ, slice → ξ
open List renaming length → γ, set → Ξ, take → Μ
open Option renaming none → ι, some → θ
set_option linter.constructorNameAsVariable false
set_option linter.unusedSimpArgs false
set_option linter.unusedVariables false
namespace Go.Px
open Go.Wk
abbrev Pce:=Int×δ ζ
abbrev Prm:=δ ζ×δ ζ×η
section
variable(s : δ ζ) (sep : ζ) (f k b : Nat) (acc : δ Pce)
end
open Go.Wk
def unresL:δ ζ:=[45,95,46,33,126,42,39,40,41]
def Zf(k:Int):δ ζ:=if k=0 then [38,61,43,36,44,59,63,47]else if k=1 then [91,93,47,58,38,43,36]else if k=2 then [91,93,47,63,58,43,36]else []
def fN(l:δ ζ)(c:ζ):η:=l.any (·==c)
def Fv(c:ζ)(k:Int):η:=vj c||fZ c||fN unresL c||fN (Zf k) c
theorem su(l:δ ζ)(c:ζ):(0<=dN (·==c) l)↔fN l c=μ:=by
 induction l with
 |nil=>simp[dN,fN]
 |cons b l d=>
  have h:=sG (·==c) l;unfold dN fN;rw[List.any_cons];by_cases a:(b==c)=μ
  ·simp[a]
  ·rw[aA a];simp only[a,jE];unfold fN at d;rw[<-d];split<;>omega
theorem EB(l:δ ζ)(c:ζ):decide (0<=dN (·==c) l)=fN l c:=by rw[fX,bL,su]
def gJ(c:ζ):η:=fZ c||decide (97<=(c.toNat:Int)/\(c.toNat:Int)<=102)||decide (65<=(c.toNat:Int)/\(c.toNat:Int)<=70)
section
variable(s : δ ζ) (f k : Nat) (acc : δ ζ)
end
def dm(n:Int):ζ:=Υ [48,49,50,51,52,53,54,55,56,57,65,66,67,68,69,70] n
def escC(k:Int)(c:ζ):δ ζ:=if Fv c k then [c]else [37,dm ((c.toNat:Int)/16),dm ((c.toNat:Int)%16)]
def jW(s:δ ζ)(k:Int):δ ζ:=s.flatMap (escC k)
abbrev JL(s:δ ζ):δ ζ:=s.map fQ
def VC(l:δ Prm)(name:δ ζ):δ ζ×η:=match l.find? (λp=>JL p.1==JL name)with|some p=>(p.2.1,μ)|none=>([],ν)
variable{a:Type}
theorem Nz[Inhabited a](l:δ a)(k:Nat)(h:k<γ l):el l (k:Int)=l[k]:=by simp[el,h]
theorem wQ[Inhabited a](l:δ a)(k:Nat)(h:k<γ l):l.take (k+1)=l.take k++[el l (k:Int)]:=by rw[tO h,Nz l k h]
end Go.Px
def _root_.Go.Wk.bJ{σ ρ:Type}(f:(σ->ε ρ)->σ->ε ρ):Nat->σ->ε ρ
 |0,_=>ι
 |n+1,v=>f (Go.Wk.bJ f n) v
namespace Go.Px
open Go.Wk
def cG(c:ζ):δ ζ->δ (δ ζ)
 |[]=>[[]]
 |b::l=>if b=c then []::cG c l else match cG c l with|x::r=>(b::x)::r|[]=>[[b]]
theorem Cd(c:ζ):∀l,cG c l≠[]
 |[]=>by simp[cG]
 |b::l=>by unfold cG;split;simp;split<;>simp
theorem wS(c:ζ):∀(s:δ ζ) (k:Nat),s.count c<=k->Lib.splitK [c] 0 k s=cG c s
 |[],k,_=>by cases k<;>simp[Lib.splitK,Lib.index,cG]
 |b::l,k,h=>by
  by_cases a:b=c
  ·subst a;obtain⟨k,rfl⟩:∃j,k=j+1:=⟨k-1,by simp at h;omega⟩;have d:=wS b l k (by simp at h;omega);simp[Lib.splitK,Lib.index,cG,d]
  ·have g:(b::l).count c=l.count c:=by simp[List.count_cons,a]
   rw[g]at h;have d:=wS c l k h;unfold cG;rw[aA a,<-d];cases k with
   |zero=>simp[Lib.splitK]
   |succ k=>
    have f:Lib.index (b::l) [c]=if Lib.index l [c]== -1 then-1 else Lib.index l [c]+1:=by
     conv=>lhs;unfold Lib.index
     rw[aA (by simp;exact λh=>a h.symm)]
    have n:=Lib.index_ge l [c];unfold Lib.splitK;rw[f];by_cases e:Lib.index l [c]= -1
    ·simp[e]
    ·have m:¬(Lib.index l [c]+1)= -1:=by omega
     have i:(Lib.index l [c]+1).toNat=(Lib.index l [c]).toNat+1:=aA0;simp[e,m,i]
theorem RV(s:δ ζ)(c:ζ):(Lib.splitB ⟨#[c]⟩ 0 (Lib.countB ⟨s.toArray⟩ ⟨#[c]⟩) ⟨s.toArray⟩).map Value.string=(cG c s).map str:=by have h:=Lib.splitB_data ⟨#[c]⟩ 0 (Lib.countB ⟨s.toArray⟩ ⟨#[c]⟩) ⟨s.toArray⟩;have e:Lib.splitK [c] 0 (Lib.countB ⟨s.toArray⟩ ⟨#[c]⟩) s=cG c s:=wS c s _ (gC (Lib.count_one c s).symm);have a:(Lib.splitB ⟨#[c]⟩ 0 (Lib.countB ⟨s.toArray⟩ ⟨#[c]⟩) ⟨s.toArray⟩).map (·.data.toList)=cG c s:=h.trans e;rw[<-a,tP];refine List.map_congr_left λx _=> ?_;rfl
theorem Qi(s:δ ζ)(c:ζ):Lib.countB ⟨s.toArray⟩ ⟨#[c]⟩+1=γ (cG c s):=by
 have:∀s:δ ζ,s.count c+1=γ (cG c s):=by
  intro s;induction s with
  |nil=>rfl
  |cons b l d=>
   unfold cG;by_cases a:b=c
   ·subst a;simp;omega
   ·rw[aA a];have e:(b::l).count c=l.count c:=by simp[List.count_cons,a]
    rw[e,d];split
    ·rename_i h;rw[h];simp
    ·rename_i h;exact absurd h (Cd c l)
 show Lib.count s [c]+1=_;rw[Lib.count_one,this]
theorem vk(c:ζ):∀s:δ ζ,γ (cG c s)<=γ s+1/\∀x∈cG c s,γ x<=γ s
 |[]=>by simp[cG]
 |b::l=>by
  have d:=vk c l;unfold cG;split
  ·simp;exact⟨d.1,λx hx=>by have:=d.2 x hx;omega⟩
  ·split
   ·rename_i x r h;rw[h]at d;simp at d⊢;exact⟨aA0,aA0,λa e=>by have:=d.2.2 a e;omega⟩
   ·simp
variable{w:φ}
theorem V4(a:Ζ)(b:δ (δ ζ))(h:Rd w (θ a) (b.map str)):∀(j:Nat) x,(b.map λl=>(⟨l.toArray⟩:ByteArray))[j]? =θ x->w.cell? (a.add j)=θ (.string x):=by intro j x hx;simp only[aW,cH]at hx;obtain⟨l,c,rfl⟩:=hx;obtain⟨p,e,d⟩:=h j (str l) (by simp[c]);cases e;exact d
theorem qc{p:Ζ}{v:ς}(h:w.cell? p=θ v):p.spot=ι:=by
 unfold World.cell? at h;split at h
 ·by_cases a:p.spot.isSome=μ
  ·simp[a]at h
  ·simpa using a
 ·simp at h
theorem jg(sep:δ ζ)(m:Nat):∀b:δ (δ ζ),(∀x∈b,γ x<=m)->γ (Lib.join b sep)<=γ b*(m+γ sep)
 |[],_=>by simp[Lib.join_nil]
 |x::r,h=>by
  rw[Lib.join_cons];have f:γ (Lib.joinTail sep r)<=γ r*(m+γ sep):=by
   have a:∀y∈r,γ y<=m:=λy c=>h y (kW _ c);clear h;induction r with
   |nil=>simp[Lib.joinTail]
   |cons y r d=>have:=d (λz e=>a z (kW _ e));have c:=a y aA2;simp only[Lib.joinTail,gL,List.flatten_cons,Pn,dF,eL,kj]at*;omega
  have hx:=h x aA2;rw[Pn,dF,eL,kj];omega
def sV(g:δ ζ):η:=decide (1<=γ g)&&decide (γ g<=4)&&g.all gJ
def jY(g:δ ζ):δ ζ:=if Lib.trimLeftS (JL g) [48]=[]then [48]else Lib.trimLeftS (JL g) [48]
theorem Aq(g:δ ζ)(h:sV g=μ):γ (jY g)<=4:=by
 unfold sV at h;simp only[yG,bL]at h;unfold jY;split
 ·simp
 ·have:=Qe (JL g) [48];simp at this;omega
def Bz(s:δ ζ):δ (δ ζ)×η:=if(cG 58 s).all sV then((cG 58 s).map jY,μ)else([],ν)
theorem bgj(s:δ ζ):γ (Bz s).1<=γ s+1/\∀x∈(Bz s).1,γ x<=4:=by
 have h:=vk 58 s;unfold Bz;split
 ·rename_i b;refine⟨by simp;exact h.1,λx hx=> ?_⟩;simp at hx;obtain⟨y,a,rfl⟩:=hx;exact Aq y (aT.1 b y a)
 ·simp
variable{a:Type}
theorem el_app[Inhabited a](c b:δ a)(k:Nat)(h:γ c=k):el (c++b) (k:Int)=el b 0:=by subst h;simp only[el,tQ,bF];rw[aM (pW _)];simp
theorem fx[Inhabited a](l:δ a)(k:Nat):el (l.drop k) 0=el l (k:Int):=by simp[el]
def VV(X:δ (δ ζ))(k:Nat):δ (δ ζ):=List.map jY (Μ k X)++List.drop k X
theorem JZ(X:δ (δ ζ))(k:Nat)(h:k<=γ X):γ (VV X k)=γ X:=by simp[VV];omega
theorem EV(X:δ (δ ζ)):VV X 0=X:=by simp[VV]
theorem KA(X:δ (δ ζ)):VV X (γ X)=X.map jY:=by simp[VV]
theorem dv(X:δ (δ ζ))(k:Nat)(v:δ ζ)(h:k<γ X)(a:v=jY (el X (k:Int))):
  VV X (k+1)=Ξ (VV X k) (k:Int).toNat v:=by
 unfold VV;have b:γ (List.map jY (Μ k X))=k:=aA3;rw[tQ,wJ _ _ aA0,b,Hy,wQ X k h,a];rw[Rs h];simp only[List.map_append,gL,gE,List.append_assoc,GV,List.nil_append,List.set_cons_zero]
theorem grp_el(X:δ (δ ζ))(k:Nat)(h:k<γ X):el (VV X k) (k:Int)=el X (k:Int):=by unfold VV;rw[el_app _ _ k aA3,fx]
theorem UW(g:δ ζ)(h:Lib.trimLeftS (g.map fQ) [48]=[]):[48]=jY g:=by unfold jY;rw[aB h]
theorem UY(g:δ ζ)(h:¬Lib.trimLeftS (g.map fQ) [48]=[]):Lib.trimLeftS (g.map fQ) [48]=jY g:=by unfold jY;rw[aA h]
theorem uI(g:δ ζ)(h:(γ g:Int)<1\/4<(γ g:Int)):sV g=ν:=by
 unfold sV;rcases h with h|h
 ·rw[show decide (1<=γ g)=ν by(rw[bT];omega)];rfl
 ·rw[show decide (γ g<=4)=ν by(rw[bT];omega)];simp
theorem Uk(g:δ ζ)(h:g.all gJ=ν):sV g=ν:=by unfold sV;rw[h];simp
theorem Uj(g:δ ζ)(b:¬(γ g:Int)<1)(a:¬4<(γ g:Int))(h:g.all gJ=μ):sV g=μ:=by unfold sV;rw[h,show decide (1<=γ g)=μ by(rw[bL];omega),show decide (γ g<=4)=μ by(rw[bL];omega)];rfl
theorem Oy[Inhabited a](p:a->η)(s:δ a)(k:Nat)(h:k<γ s)(c:(s.take k).all p=μ)(b:p (el s (k:Int))=μ):(s.take (k+1)).all p=μ:=by rw[wQ s k h,eC,c];simpa using b
theorem Rp[Inhabited a](p:a->η)(s:δ a)(k:Nat)(h:k<γ s)(b:p (el s (k:Int))=ν):s.all p=ν:=by rw[Bool.eq_false_iff];intro c;have:=aT.1 c (el s (k:Int)) (by simp[el,h]);rw[this]at b;cases b
theorem xJ(s:δ ζ)(h:(cG 58 s).all sV=ν):Bz s=([],ν):=by unfold Bz;rw[h];rfl
theorem sH(s:δ ζ)(h:(cG 58 s).all sV=μ):Bz s=((cG 58 s).map jY,μ):=by unfold Bz;rw[h];rfl
theorem cj(s:δ ζ)(h:γ s<=1000000000):γ (Lib.join (Bz s).1 [58])<=100000000000:=by have b:=bgj s;have a:=jg [58] 4 (Bz s).1 b.2;simp at a;omega
def iO(x:δ ζ):δ (δ ζ)×η:=if x=[]then([],μ)else Bz x
theorem Ul(x:δ ζ)(h:x=[]):iO x=([],μ):=by unfold iO;rw[aB h]
theorem bgk(x:δ ζ)(h:¬x=[]):iO x=Bz x:=by unfold iO;rw[aA h]
def Bx(s:δ ζ):δ ζ×η:=
 if 39<γ s then([],ν)
 else if(Lib.cut s [58,58]).2.2=ν then(Lib.join (Bz s).1 [58],(Bz s).2&&decide ((γ (Bz s).1:Int)=8))
 else if(!(iO (Lib.cut s [58,58]).1).2|| !(iO (Lib.cut s [58,58]).2.1).2||decide (7<(γ (iO (Lib.cut s [58,58]).1).1:Int)+(γ (iO (Lib.cut s [58,58]).2.1).1:Int)))=μ then([],ν)
 else(Lib.join (iO (Lib.cut s [58,58]).1).1 [58]++[58,58]++Lib.join (iO (Lib.cut s [58,58]).2.1).1 [58],μ)
def jO(n:δ ζ):η:=n.all fZ&& !(n==[])&&decide (mF n<=255)&&(n==Lib.itoa (mF n:Int))
def Ve(s:δ ζ):η:=decide (γ s<=15)&&(cG 46 s).all jO&&decide (γ (cG 46 s)=4)
theorem Ti(n:δ ζ)(h:n.all fZ=ν):jO n=ν:=by unfold jO;rw[h];rfl
theorem mS(n:δ ζ)(h:(n=[]\/255<(mF n:Int))\/¬n=Lib.itoa (mF n:Int)):jO n=ν:=by
 unfold jO;rcases h with(h|h)|h
 ·subst h;rfl
 ·rw[show decide (mF n<=255)=ν by(rw[bT];omega)];simp
 ·rw[show(n==Lib.itoa (mF n:Int))=ν by simpa using h];simp
theorem TR(n:δ ζ)(h:n.all fZ=μ)(b:¬n=[])(c:¬255<(mF n:Int))(a:n=Lib.itoa (mF n:Int)):jO n=μ:=by unfold jO;rw[h,show decide (mF n<=255)=μ by(rw[bL];omega),show(n==Lib.itoa (mF n:Int))=μ by rw[beq_iff_eq];exact a,show(n==[])=ν by simpa using b];rfl
theorem JG(s:δ ζ)(h:15<(γ s:Int)):Ve s=ν:=by unfold Ve;rw[show decide (γ s<=15)=ν by(rw[bT];omega)];rfl
theorem aw(s:δ ζ)(h:(cG 46 s).all jO=ν):Ve s=ν:=by unfold Ve;rw[h];simp
theorem TT(s:δ ζ)(a:¬15<(γ s:Int))(h:(cG 46 s).all jO=μ):Ve s=decide ((γ (cG 46 s):Int)=4):=by unfold Ve;rw[h,show decide (γ s<=15)=μ by(rw[bL];omega)];rw[fX];simp;omega
theorem Yv[Inhabited a](l:δ a)(k:Nat)(h:k<γ l):el l (k:Int)∈l:=by rw[Nz l k h];exact fB h
end Go.Px
namespace Go.Wk
open Go.Px
open Go.Value renaming slice → Vs, int → Vi, bool → Vb, pointer → Vp
def cV(x:(aC×aC)):δ ς:=[str x.1,str x.2]
theorem pP:kZ cV 2:=⟨λ_=>rfl,λx v h=>by simp only[cV,aQ,GQ,or_false]at h;rcases h with h|h<;>subst h<;>rfl⟩
def Eh(x:(aC×Int)):δ ς:=[str x.1,Vi .i64 x.2]
def dZ(x:PQ):δ ς:=[str x.1,str x.2.1,Vb x.2.2]
theorem GJ:kZ dZ 3:=⟨λ_=>rfl,λx v h=>by simp only[dZ,aQ,GQ,or_false]at h;rcases h with h|h|h<;>subst h<;>rfl⟩
def zt:δ aC:=[[67,97,108,108,45,73,68],[67,83,101,113],[77,73,77,69,45,86,101,114,115,105,111,110],[77,105,110,45,83,69],[82,65,99,107],[82,83,101,113],[87,87,87,45,65,117,116,104,101,110,116,105,99,97,116,101]]
def Et:δ (aC×Int):=[([70,114,111,109],1),([84,111],1),([67,111,110,116,97,99,116],1),([82,111,117,116,101],1),([82,101,99,111,114,100,45,82,111,117,116,101],1),([80,97,116,104],1),([83,101,114,118,105,99,101,45,82,111,117,116,101],1),([82,101,102,101,114,45,84,111],1),([82,101,102,101,114,114,101,100,45,66,121],1),([82,101,112,108,121,45,84,111],1),([86,105,97],2),([67,83,101,113],3),([82,65,99,107],4),([67,111,110,116,101,110,116,45,76,101,110,103,116,104],5),([69,120,112,105,114,101,115],5),([77,97,120,45,70,111,114,119,97,114,100,115],5),([77,105,110,45,69,120,112,105,114,101,115],5),([82,83,101,113],5),([67,111,110,116,101,110,116,45,68,105,115,112,111,115,105,116,105,111,110],6),([67,111,110,116,101,110,116,45,84,121,112,101],6),([69,118,101,110,116],6),([77,105,110,45,83,69],6),([83,101,115,115,105,111,110,45,69,120,112,105,114,101,115],6),([83,117,98,115,99,114,105,112,116,105,111,110,45,83,116,97,116,101],6),([65,99,99,101,112,116],7),([65,108,108,111,119],7),([65,108,108,111,119,45,69,118,101,110,116,115],7),([80,114,111,120,121,45,82,101,113,117,105,114,101],7),([82,101,113,117,105,114,101],7),([83,117,112,112,111,114,116,101,100],7),([85,110,115,117,112,112,111,114,116,101,100],7)]
def lr:δ aC:=[[38,61,43,36,44,59,63,47],[91,93,47,58,38,43,36],[91,93,47,63,58,43,36]]
def Jd:δ Int:=[1116352408,1899447441,3049323471,3921009573,961987163,1508970993,2453635748,2870763221,3624381080,310598401,607225278,1426881987,1925078388,2162078206,2614888103,3248222580,3835390401,4022224774,264347078,604807628,770255983,1249150122,1555081692,1996064986,2554220882,2821834349,2952996808,3210313671,3336571891,3584528711,113926993,338241895,666307205,773529912,1294757372,1396182291,1695183700,1986661051,2177026350,2456956037,2730485921,2820302411,3259730800,3345764771,3516065817,3600352804,4094571909,275423344,430227734,506948616,659060556,883997877,958139571,1322822218,1537002063,1747873779,1955562222,2024104815,2227730452,2361852424,2428436474,2756734187,3204031479,3329325298]
def NoD(Ω:Array Ι):Prop:=∀(j:Nat) o c,Ω[j]? =θ o->o.op≠.defer c
def NoPD(Ω:Array Ι)(Q:Exit->Act->φ->Prop):Prop:=QT Q/\NoD Ω
section
variable{P:Θ}{Ω:Array Ι}{Q:Exit->Act->φ->Prop}{md:Region.Mode}{S:Nat->φ->φ->Prop}{x:ε Nat}
def ZB(x:ε Nat)(P:Θ)(md:Region.Mode)(Ω:Array Ι)(Q:Exit->Act->φ->Prop)(S:Nat->φ->φ->Prop)(k:Nat)(Z:Act->φ->Prop):Nat->Array η->Act->φ->Prop
 |0,listed,a,w=>Region.seqB md Ω (Ω.size-k) k listed=μ/\Z a w
 |f+1,listed,a,w=>Region.ready md Ω listed≠[]/\∀i∈Region.ready md Ω listed,i<k/\wpOpIn (fen x) 0 P Ω Q i (λa' w'=>S i w w'/\ZB x P md Ω Q S k Z f (listed.setIfInBounds i μ) a' w') a w
end
section
variable{P:Θ}{kn:Nat}{kD:δ Deferred}{Ω:Array Ι}{Q:Exit->Act->φ->Prop}{S:Nat->φ->φ->Prop}{Si:φ->Prop}{F:Nat->ς}{w:φ}{x:ε Nat}
def RI(x:ε Nat)(P:Θ)(n:Md)(Ω:Array Ι)(Q:Exit->Act->φ->Prop)(S:Nat->φ->φ->Prop)(k f:Nat)(listed:δ η)(F:Nat->ς)(w:φ):Prop:=
 HeadInv .any Ω k listed.toArray->(∀j w,S j w w)->NoPD Ω Q->ZB x P .any Ω Q S k (λa w=>wpListIn (fen x) 0 P Ω Q (Ω.toList.drop k) a w) f listed.toArray (fr n F) w
end
section
variable{P:Θ}{kn:Nat}{kD:δ Deferred}{ro:ε (ε Nat)}{Ω:Array Ι}{Q:Exit->Act->φ->Prop}{S:Nat->φ->φ->Prop}{Si:φ->Prop}{F:Nat->ς}{w:φ}
def RO(P:Θ)(n:Md)(Ω:Array Ι)(Q:Exit->Act->φ->Prop)(S:Nat->φ->φ->Prop)(k f:Nat)(listed:δ η)(F:Nat->ς)(w:φ):Prop:=
 match n.ro with
 |none=>R P n Ω Q S k f listed F w
 |some x=>RI x P n Ω Q S k f listed F w
end
end Go.Wk
namespace Go.Ce
open Go.Wk
open Nat renaming beq → cT, succ → qN
open UInt8 renaming ofNat → Fc
variable{a:Type}
noncomputable def bi(c:η)(x y:a):a:=Bool.rec y x c
noncomputable def ob{b:Type}(x:ε a)(f:a->ε b):ε b:=Option.rec ι f x
inductive Pk where
 |h
 |o (p:Pk)
 |i (p:Pk)
noncomputable def pkF(f:Nat):Nat->Pk:=
 Nat.rec (λ_=>.h) (λ_ r k=>bi (cT k (nat_lit 0)) .h (bi (cT (Nat.mod k (nat_lit 2)) (nat_lit 1)) (.i (r (Nat.div k (nat_lit 2)))) (.o (r (Nat.sub (Nat.div k (nat_lit 2)) (nat_lit 1)))))) f
noncomputable def pk(k:Nat):Pk:=pkF (qN k) k
inductive Tr (α:Type) where
 |e
 |n (l:Tr α) (v:Option α) (r:Tr α)
noncomputable def Tr.L(t:Tr a):Tr a:=Tr.rec .e (λl _ _ _ _=>l) t
noncomputable def Tr.V(t:Tr a):ε a:=Tr.rec ι (λ_ v _ _ _=>v) t
noncomputable def Tr.R(t:Tr a):Tr a:=Tr.rec .e (λ_ _ r _ _=>r) t
noncomputable def Tr.VC(p:Pk):Tr a->ε a:=Pk.rec Tr.V (λ_ g t=>g t.R) (λ_ g t=>g t.L) p
noncomputable def Tr.U6(x:a)(p:Pk):Tr a->Tr a:=Pk.rec (λt=>.n t.L (θ x) t.R) (λ_ s t=>.n t.L t.V (s t.R)) (λ_ s t=>.n (s t.L) t.V t.R) p
noncomputable def Tr.get(t:Tr a)(k:Nat):ε a:=Tr.VC (pk k) t
noncomputable def Tr.set(t:Tr a)(k:Nat)(x:a):Tr a:=Tr.U6 x (pk k) t
def dec:Nat->Nat->δ ζ
 |0,_=>[]
 |l+1,x=>Fc (x%256)::dec l (x/256)
inductive Cp where
 |k (c:Nat)
 |r (off:Nat)
inductive SC where
 |b (x:Bool)
 |i (k:Δ) (n:Nat)
 |s (l x:Nat)
 |np
 |ns
 |nf
 |ni
 |nm
 |p (i off:Nat)
 |g (i off:Nat)
 |sl (i base n:Nat) (c:Cp)
 |fn (f:Nat) (cs:List Nat)
 |y (i:Nat)
 |m (i:Nat)
 |z (i base d off:Nat)
inductive SA where
 |c (x:SC)
 |a (l:List SC)
inductive SV where
 |c (x:SC)
 |a (l:List SC)
 |t (l:List SA)
 |u
inductive Mo where
 |ex
 |rw (sz m:Nat)
 |bw
 |fb
inductive HB where
 |cl (t:Nat) (md:Mo) (xs:List SC)
 |it (l x pos:Nat)
 |lp (busy:Bool) (j k:Nat) (ps:List Nat) (asg body:Code) (F:Tr SV)
 |df
 |gn
 |mp (es:List (SC×SC))
structure Hs where
 nx:Nat
 t:Tr HB
structure T where
 F:Tr SV
 H:Hs
 D:Option Nat
structure M where
 n:Nat
 m:Option (Option Nat)
structure Cx where
 P:Θ
 G:Nat->Option (List SC)
 X:Nat->Option (List SV->Hs->Option (SV×Hs))
 pure:Nat->Bool
 V:Nat->Bool
noncomputable def SV.cells:SV->ε (δ SC):=SV.rec (λx=>θ [x]) θ (λ_=>ι) ι
noncomputable def km:Δ->Nat:=IntKind.rec (nat_lit 256) (nat_lit 65536) (nat_lit 4294967296) (nat_lit 18446744073709551616) (nat_lit 256) (nat_lit 65536) (nat_lit 4294967296) (nat_lit 18446744073709551616)
noncomputable def kh:Δ->Nat:=IntKind.rec (nat_lit 128) (nat_lit 32768) (nat_lit 2147483648) (nat_lit 9223372036854775808) (nat_lit 256) (nat_lit 65536) (nat_lit 4294967296) (nat_lit 18446744073709551616)
noncomputable def ures(k:Δ)(m:Nat):Int:=bi (Nat.ble (kh k) m) (.negSucc (Nat.sub (Nat.sub (km k) (nat_lit 1)) m)) (.ofNat m)
noncomputable def SC.v:SC->ε ς
 |.b x=>θ (.bool x)
 |.i k n=>θ (.int k (ures k (Nat.mod n (km k))))
 |.s l x=>θ (str (dec l x))
 |.np=>θ (.pointer ι)
 |.ns=>θ (.slice ι 0 0)
 |.nf=>θ .nilFunc
 |.ni=>θ .nilIface
 |_=>ι
noncomputable def vcs:δ SC->ε (δ ς)
 |[]=>θ []
 |x::l=>ob x.v λv=>ob (vcs l) λa=>θ (v::a)
noncomputable def SV.v:SV->ε ς
 |.c x=>x.v
 |.a l=>ob (vcs l) λb=>θ (.agg b.toArray)
 |_=>ι
section
variable(C : Cx)
end
section
variable(C : Cx) (m : M) (S : T)
noncomputable def only{a:Type}(l:δ a):ε a:=List.rec ι (λx b _=>bi b.isEmpty (θ x) ι) l
end
section
variable(C : Cx) (m : M) (S : T)
end
section
variable(C : Cx)
end
end Go.Ce
namespace Go.Oe
open Go.Wk
open Go.Ce (Tr)
open Go.IntKind renaming wrap → fD
open Go.Op renaming bytesLess → qK
open Int renaming toNat → bR
open List renaming drop → dG, replicate → jM, take → eP
open Nat renaming beq → cT, blt → iJ, succ → qN
open Sum renaming elim → dQ
open UInt8 renaming ofNat → Fc
noncomputable section
inductive Ty where
 |i' (k:Δ)
 |c'
 |s'
 |b'
 |u'
 |w' (x:Ty)
 |pr (x y:Ty)
 |sm (x y:Ty)
 |l' (e by_:Nat) (x:Ty)
 |y'
 |r' (x:Ty)
 |p' (e:Nat) (x:Ty)
 |z'
 |o' (j:Nat)
 |f' (k:Nat) (x:Ty)
@[reducible] def Ty.T:Ty->Type
 |.i' _=>Int
 |.c'=>ζ
 |.s'=>aC
 |.b'=>η
 |.u'=>Unit
 |.w' x=>x.T
 |.pr x y=>x.T×y.T
 |.sm x y=>x.T⊕y.T
 |.l' _ _ x=>δ x.T
 |.y'=>aC
 |.r' x=>δ x.T
 |.p' _ x=>x.T
 |.z'=>Unit
 |.o' _=>Unit
 |.f' _ x=>x.T
def kN:Δ->Nat
 |.i8=>0
 |.i16=>1
 |.i32=>2
 |.i64=>3
 |.u8=>4
 |.u16=>5
 |.u32=>6
 |.u64=>7
def JQ(a b:Δ):η:=cT (kN a) (kN b)
def Ty.HD:Ty->Ty->η
 |.i' k,.i' k'=>JQ k k'
 |.c',.c'=>μ
 |.s',.s'=>μ
 |.b',.b'=>μ
 |.u',.u'=>μ
 |.w' x,.w' a=>x.HD a
 |.pr x y,.pr c b=>bif x.HD c then y.HD b else ν
 |.sm x y,.sm c b=>bif x.HD c then y.HD b else ν
 |.l' e h x,.l' d f a=>bif cT e d then bif cT h f then x.HD a else ν else ν
 |.y',.y'=>μ
 |.r' x,.r' a=>x.HD a
 |.p' e x,.p' d a=>bif cT e d then x.HD a else ν
 |.z',.z'=>μ
 |.o' j,.o' j'=>cT j j'
 |.f' k x,.f' k' a=>bif cT k k' then x.HD a else ν
 |_,_=>ν
theorem gY{a b:η}(h:(bif a then b else ν)=μ):a=μ/\b=μ:=by cases a<;>cases b<;>simp_all
theorem lT{a b:Δ}(h:JQ a b=μ):a=b:=by revert h;cases a<;>cases b<;>first|(intro _;rfl)|(intro h;exact absurd h aA4)
theorem Ty.jI:∀{a b:Ty},a.HD b=μ->a=b:=by
 intro a;induction a with
 |i' k=>intro b h;cases b with
  |i' k'=>rw[lT h]
  |_=>cases h
 |w' x c=>intro b h;cases b with
  |w' y=>rw[c h]
  |_=>cases h
 |pr x y c d=>intro b h;cases b with
  |pr i g=>have h:=gY h;rw[c h.1,d h.2]
  |_=>cases h
 |sm x y c d=>intro b h;cases b with
  |sm i g=>have h:=gY h;rw[c h.1,d h.2]
  |_=>cases h
 |l' e l x c=>intro b h;cases b with
  |l' e' b' y=>have h:=gY h;have f:=gY h.2;rw[c f.2,gO h.1,gO f.1]
  |_=>cases h
 |r' x c=>intro b h;cases b with
  |r' y=>rw[c h]
  |_=>cases h
 |p' e x c=>intro b h;cases b with
  |p' e' y=>have h:=gY h;rw[c h.2,gO h.1]
  |_=>cases h
 |o' j=>intro b h;cases b with
  |o' k=>rw[gO h]
  |_=>cases h
 |f' k x c=>intro b h;cases b with
  |f' k' y=>have h:=gY h;rw[c h.2,gO h.1]
  |_=>cases h
 |_=>intro b h;cases b<;>first|rfl|cases h
def FV{a b:Ty}(h:a.HD b=μ)(l:δ a.T):δ b.T:=(Ty.jI h)▸l
@[reducible] def fK:δ Ty->Ty
 |[]=>.u'
 |[x]=>x
 |x::y::l=>.pr x (fK (y::l))
def Ty.flat:Ty->η
 |.i' _=>μ
 |.c'=>μ
 |.s'=>μ
 |.b'=>μ
 |.w' x=>x.flat
 |.pr x y=>bif x.flat then y.flat else ν
 |_=>ν
def Ty.sz:Ty->Nat
 |.w' x=>x.sz
 |.pr x y=>x.sz+y.sz
 |_=>1
def Ty.enc:(t:Ty)->t.T->δ ς
 |.i' k,n=>[.int k n]
 |.c',x=>[bt x]
 |.s',x=>[str x]
 |.b',x=>[.bool x]
 |.w' t,x=>t.enc x
 |.pr a b,x=>a.enc x.1++b.enc x.2
 |_,_=>[]
def Ty.agg:Ty->η
 |.w' _=>μ
 |.pr _ _=>μ
 |_=>ν
inductive SC where
 |i' (k:Δ) (n:Int)
 |c' (x:UInt8)
 |s' (x:aC)
 |b' (x:Bool)
 |d' (p:Prop) (h:Decidable p)
 |e' (p:Prop) (h:Decidable p)
 |o' (j:Nat)
 |n'
 |p' (id off:Nat)
 |q' (id:Nat) (j:Int) (sz off:Nat)
 |l' (id:Nat)
 |k' (id n:Nat)
 |f' (k:Nat) (ids:List Nat)
 |z' (id fl:Nat)
 |u'
inductive SA where
 |c' (x:SC)
 |a' (l:List SC)
inductive SV where
 |c' (x:SC)
 |a' (l:List SC)
 |t' (l:List SA)
 |n'
 |u'
inductive Ob where
 |bl (e:Nat) (cs:List SC)
 |rw (e by_:Nat) (t:Ty) (l:List t.T)
 |ro (t:Ty) (l:List t.T)
 |br (n:Nat) (l:aC)
 |dd (n:Nat)
structure Ad where
 o:Option Nat
 a:Option Ζ
 cap:Nat
 z:Bool
 ln:Nat
def Ad.b(d:Ad):Nat:=d.o.getD 0
def Ob.len:Ob->Nat
 |.rw _ _ _ l=>γ l
 |.ro _ l=>γ l
 |.br n _=>n
 |.dd n=>n
 |_=>0
def fC{a:Type}:δ a->Nat->ε a
 |[],_=>ι
 |x::l,k=>match k with
  |0=>θ x
  |k+1=>fC l k
def fL(H:δ Ob)(id:Nat):Nat:=match fC H id with
 |some o=>o.len
 |none=>0
def qx:Nat->ς
 |0=>.pointer ι
 |1=>.nilFunc
 |_=>.nilIface
def iM(b off:Nat):ς:=.pointer (θ ⟨b,off,ι⟩)
def SC.v(ρ:Nat->Ad):SC->ς
 |.i' k n=>.int k n
 |.c' x=>bt x
 |.s' x=>str x
 |.b' x=>.bool x
 |.d' p h=>.bool (@decide p h)
 |.e' p h=>.bool (!@decide p h)
 |.o' j=>qx j
 |.n'=>.slice ι 0 0
 |.p' id off=>iM (ρ id).b off
 |.q' id j c off=>.pointer (θ (ea (ρ id).a (j.toNat*c+off)))
 |.l' id=>.slice (ρ id).a (ρ id).ln (ρ id).cap
 |.k' id n=>.slice (θ ⟨(ρ id).b,0,ι⟩) n n
 |.f' k ids=>.func (.func k) #[] (ids.map λid=>iM (ρ id).b 0).toArray
 |.z' id d=>.pointer (bif (ρ d).z then θ ⟨(ρ id).b,0,ι⟩else ι)
 |.u'=>.bool ν
def SC.kn:SC->η
 |.u'=>ν
 |_=>μ
def knL:δ SC->η
 |[]=>μ
 |x::l=>bif x.kn then knL l else ν
def SA.v(ρ:Nat->Ad):SA->ς
 |.c' x=>x.v ρ
 |.a' l=>.agg (l.map (SC.v ρ)).toArray
def SV.v(ρ:Nat->Ad):SV->ε ς
 |.c' x=>θ (x.v ρ)
 |.a' l=>θ (.agg (l.map (SC.v ρ)).toArray)
 |.t' l=>θ (.tuple (l.map (SA.v ρ)).toArray)
 |.n'=>θ undef
 |.u'=>ι
def SA.sv:SA->SV
 |.c' x=>.c' x
 |.a' l=>.a' l
def SV.cells:SV->ε (δ SC)
 |.c' x=>θ [x]
 |.a' l=>θ l
 |_=>ι
def SV.sa:SV->ε SA
 |.c' x=>θ (.c' x)
 |.a' l=>θ (.a' l)
 |_=>ι
def Ty.sv(t:Ty)(cs:δ SC):SV:=bif t.agg then .a' cs else match cs with
 |[x]=>.c' x
 |_=>.u'
def Ty.sa(t:Ty)(cs:δ SC):SA:=bif t.agg then .a' cs else match cs with
 |[x]=>.c' x
 |_=>.a' cs
def oH:δ SC->δ Nat
 |[]=>[]
 |x::l=>match x with
  |.p' id _=>id::oH l
  |_=>oH l
def Ty.no:Ty->Nat
 |.w' x=>x.no
 |.pr x y=>x.no+y.no
 |.l' _ _ _=>1
 |.y'=>1
 |.r' _=>1
 |.p' _ x=>x.no+1
 |.z'=>1
 |.f' _ x=>x.no
 |_=>0
def Ty.lay:(t:Ty)->(self n:Nat)->t.T->δ SC×δ Ob
 |.i' k,_,_,x=>([.i' k x],[])
 |.c',_,_,x=>([.c' x],[])
 |.s',_,_,x=>([.s' x],[])
 |.b',_,_,x=>([.b' x],[])
 |.u',_,_,_=>([],[])
 |.w' t,s,n,x=>t.lay s n x
 |.pr a b,s,n,x=>((a.lay s n x.1).1++(b.lay s (n+a.no) x.2).1,(a.lay s n x.1).2++(b.lay s (n+a.no) x.2).2)
 |.sm _ _,_,_,_=>([],[])
 |.l' e b t,_,n,x=>([.l' n],[.rw e b t x])
 |.y',_,n,x=>([.l' n],[.br (γ x) x])
 |.r' t,_,n,x=>([.l' n],[.ro t x])
 |.p' e t,_,n,x=>([.p' n 0],.bl e (t.lay n (n+1) x).1::(t.lay n (n+1) x).2)
 |.z',s,n,_=>([.z' s n],[.dd 0])
 |.o' j,_,_,_=>([.o' j],[])
 |.f' k t,s,n,x=>([.f' k (oH (t.lay s n x).1)],(t.lay s n x).2)
inductive Src where
 |o' (id:Nat) (w:Bool)
 |n'
 |k' (id m:Nat) (w:Bool)
 |z' (t:Bool)
def Src.own:Src->δ Nat
 |.o' id w=>bif w then [id]else []
 |.k' id _ w=>bif w then [id]else []
 |_=>[]
def Src.bor:Src->δ Nat
 |.o' id w=>bif w then []else [id]
 |.k' id _ w=>bif w then []else [id]
 |_=>[]
variable{a:Type}
def la(f:SC->ε a):δ SC->ε (a×δ SC×δ Src)
 |[]=>ι
 |x::l=>match f x with
  |some y=>θ (y,l,[])
  |none=>ι
def SC.rI(k:Δ):SC->ε Int
 |.i' a n=>bif JQ k a then θ n else ι
 |_=>ι
def SC.rC:SC->ε ζ
 |.c' x=>θ x
 |_=>ι
def SC.rS:SC->ε aC
 |.s' x=>θ x
 |_=>ι
def SC.rB:SC->ε η
 |.b' x=>θ x
 |.d' p h=>θ (@decide p h)
 |.e' p h=>θ (!@decide p h)
 |_=>ι
def Ty.CW:(t:Ty)->δ SC->ε (t.T×δ SC)
 |.i' k,l=>match l with
  |x::l=>match x.rI k with
   |some y=>θ (y,l)
   |none=>ι
  |[]=>ι
 |.c',l=>match l with
  |x::l=>match x.rC with
   |some y=>θ (y,l)
   |none=>ι
  |[]=>ι
 |.s',l=>match l with
  |x::l=>match x.rS with
   |some y=>θ (y,l)
   |none=>ι
  |[]=>ι
 |.b',l=>match l with
  |x::l=>match x.rB with
   |some y=>θ (y,l)
   |none=>ι
  |[]=>ι
 |.w' t,l=>t.CW l
 |.pr a b,l=>match a.CW l with
  |some (x,d)=>match b.CW d with
   |some (y,c)=>θ ((x,y),c)
   |none=>ι
  |none=>ι
 |_,_=>ι
def pC(t:Ty):Nat->δ SC->ε (δ t.T)
 |0,l=>match l with
  |[]=>θ []
  |_=>ι
 |m+1,l=>match t.CW l with
  |some (x,a)=>match pC t m a with
   |some q=>θ (x::q)
   |none=>ι
  |none=>ι
def rowOf(t:Ty)(o:ε Ob):ε (δ t.T):=match o with
 |some (.rw _ _ t' l)=>if h:t'.HD t=μ then θ (FV h l)else ι
 |_=>ι
def strOf(t:Ty)(l:aC):ε (δ t.T):=if h:Ty.c'.HD t=μ then θ (FV h l)else ι
def Gd(t:Ty)(o:ε Ob):ε (δ t.T):=match o with
 |some (.rw _ _ t' l)=>if h:t'.HD t=μ then θ (FV h l)else ι
 |some (.ro t' l)=>if h:t'.HD t=μ then θ (FV h l)else ι
 |some (.br _ l)=>strOf t l
 |_=>ι
def V7(t:Ty)(o:ε Ob):ε (δ t.T):=match o with
 |some (.ro t' l)=>if h:t'.HD t=μ then θ (FV h l)else ι
 |_=>ι
def rwE:ε Ob->ε (Nat×Nat)
 |some (.rw e b _ _)=>θ (e,b)
 |_=>ι
def Ty.tz:Ty->η
 |.w' x=>x.tz
 |.pr x y=>bif x.tz then μ else y.tz
 |.z'=>μ
 |.f' _ x=>x.tz
 |_=>ν
def Ty.Z3:Ty->η
 |.u'=>μ
 |.p' _ _=>μ
 |.pr x y=>bif x.Z3 then y.Z3 else ν
 |_=>ν
def Ty.rd(any:η)(H:δ Ob):(t:Ty)->(self:Nat)->δ SC->ε (t.T×δ SC×δ Src)
 |.i' k,_,l=>la (SC.rI k) l
 |.c',_,l=>la SC.rC l
 |.s',_,l=>la SC.rS l
 |.b',_,l=>la SC.rB l
 |.u',_,l=>θ ((),l,[])
 |.w' t,s,l=>t.rd any H s l
 |.pr a b,s,l=>match a.rd any H s l with
  |some (x,n,h)=>match b.rd any H s n with
   |some (y,i,g)=>θ ((x,y),i,h++g)
   |none=>ι
  |none=>ι
 |.sm _ _,_,_=>ι
 |.l' e b t,_,l=>match l with
  |.n'::l=>θ ([],l,[.n'])
  |.l' id::l=>match rwE (fC H id)with
   |some q=>bif cT q.1 e then(bif cT q.2 b then(match rowOf t (fC H id)with
    |some x=>θ (x,l,[.o' id μ])
    |none=>ι)else ι)else ι
   |none=>ι
  |.k' id m::l=>match fC H id with
   |some (.bl e' cs)=>bif cT e' e then(bif t.flat then(bif Nat.ble m 1048576 then(match pC t m cs with
    |some x=>θ (x,l,[.k' id m μ])
    |none=>ι)else ι)else ι)else ι
   |_=>ι
  |_=>ι
 |.y',_,l=>match l with
  |.l' id::l=>match fC H id with
   |some (.br _ x)=>θ (x,l,[.o' id μ])
   |_=>ι
  |_=>ι
 |.r' t,_,l=>match l with
  |.n'::l=>θ ([],l,[.n'])
  |.l' id::l=>match(bif any then Gd t (fC H id)else V7 t (fC H id))with
   |some x=>θ (x,l,[.o' id ν])
   |none=>ι
  |.k' id m::l=>match(bif any then fC H id else ι)with
   |some (.bl _ cs)=>match pC t m cs with
    |some x=>θ (x,l,[.k' id m ν])
    |none=>ι
   |_=>ι
  |_=>ι
 |.p' e t,_,l=>match l with
  |.p' id off::l=>match fC H id with
   |some (.bl e' cs)=>bif cT off 0 then(bif cT e' e then(match t.rd any H id cs with
    |some (x,[],c)=>θ (x,l,.o' id μ::c)
    |_=>ι)else ι)else ι
   |_=>ι
  |_=>ι
 |.z',s,l=>match l with
  |.o' j::l=>bif cT j 0 then θ ((),l,[.z' ν])else ι
  |.p' id off::l=>bif cT off 0 then(bif cT id s then θ ((),l,[.z' μ])else ι)else ι
  |.z' id f::l=>bif cT id s then(match fC H f with
   |some (.dd 0)=>θ ((),l,[.o' f ν])
   |_=>ι)else ι
  |_=>ι
 |.o' j,_,l=>match l with
  |.o' j'::l=>bif cT j j' then θ ((),l,[])else ι
  |_=>ι
 |.f' k t,s,l=>match l with
  |.f' k' d::l=>bif cT k k' then(match(bif t.Z3 then t.rd any H s (d.map λid=>.p' id 0)else ι)with
   |some (x,[],c)=>θ (x,l,c)
   |_=>ι)else ι
  |_=>ι
def Ty.cn:Ty->Nat
 |.u'=>0
 |.w' x=>x.cn
 |.pr x y=>x.cn+y.cn
 |.sm _ _=>0
 |_=>1
def zX{a:Type}:δ a->Nat->δ a
 |[],_=>[]
 |x::l,k=>match k with
  |0=>x::l
  |k+1=>zX l k
def zV{a:Type}:δ a->Nat->ε (δ a)
 |_,0=>θ []
 |[],_+1=>ι
 |x::l,k+1=>match zV l k with
  |some q=>θ (x::q)
  |none=>ι
def jA{a:Type}:δ a->Nat->a->δ a
 |[],_,_=>[]
 |x::l,k,y=>match k with
  |0=>y::l
  |k+1=>x::jA l k y
def uU:δ SC->Nat->δ SC->ε (δ SC)
 |l,0,[]=>θ l
 |_::l,0,v::a=>match uU l 0 a with
  |some q=>θ (v::q)
  |none=>ι
 |x::l,k+1,a=>match uU l k a with
  |some q=>θ (x::q)
  |none=>ι
 |[],_,_=>ι
def Xl(l:δ SC)(k:Nat)(vs:δ SC):δ SC:=match uU l k vs with
 |some q=>q
 |none=>l
inductive Key where
 |s' (t:Nat) (x:Ty)
 |o' (t off:Nat) (x:Ty)
 |w' (t:Nat) (x:Ty)
def Key.ty:Key->Ty
 |.s' _ x=>x
 |.o' _ _ x=>x
 |.w' _ x=>x
abbrev qE(l:δ Key):Ty:=fK (l.map Key.ty)
def yc(H:δ Ob)(id:Nat):(x:Ty)->ε x.T
 |.l' e b t=>match rwE (fC H id)with
  |some q=>bif cT q.1 e then(bif cT q.2 b then rowOf t (fC H id)else ι)else ι
  |none=>ι
 |.y'=>match fC H id with
  |some (.br _ x)=>θ x
  |_=>ι
 |_=>ι
def Rf:ε (a×δ SC×δ Src)->ε (a×δ Src)
 |some (x,[],b)=>θ (x,b)
 |_=>ι
def TC(any:η)(H:δ Ob)(x:Ty):SV->ε (x.T×δ Src)
 |.c' c=>bif x.tz then ι else(bif x.agg then ι else Rf (x.rd any H 0 [c]))
 |.a' l=>bif x.tz then ι else(bif x.agg then Rf (x.rd any H 0 l)else ι)
 |_=>ι
def rdB(H:δ Ob)(id off:Nat)(x:Ty):ε (x.T×δ Src):=match fC H id with
 |some (.bl _ cs)=>match zV (zX cs off) x.cn with
  |some q=>Rf (x.rd ν H id q)
  |none=>ι
 |_=>ι
def rdW(H:δ Ob)(id:Nat)(x:Ty):ε (x.T×δ Src):=match yc H id x with
 |some y=>θ (y,[])
 |none=>ι
def Key.rd(a:Nat->Nat)(F:Nat->SV)(H:δ Ob):(k:Key)->ε (k.ty.T×δ Src)
 |.s' t x=>TC ν H x (F t)
 |.o' t off x=>rdB H (a t) off x
 |.w' t x=>rdW H (a t) x
def rdK(a:Nat->Nat)(F:Nat->SV)(H:δ Ob):(l:δ Key)->ε ((qE l).T×δ Src)
 |[]=>θ ((),[])
 |[k]=>k.rd a F H
 |k::d::l=>match k.rd a F H with
  |some (x,c)=>match rdK a F H (d::l)with
   |some (y,b)=>θ ((x,y),c++b)
   |none=>ι
  |none=>ι
def nk(n:Nat):(x:Ty)->x.T->ε Ob
 |.l' e b t,v=>θ (.rw e b t v)
 |.y',v=>θ (.br n v)
 |_,_=>ι
abbrev Fr:=Tr SV×δ Ob
def putV(F:Tr SV)(H:δ Ob)(t:Nat)(x:Ty)(v:x.T):Fr:=(F.set t (x.sv (x.lay 0 (γ H) v).1),H++(x.lay 0 (γ H) v).2)
def Y9(H:δ Ob)(id off:Nat)(x:Ty)(v:x.T):δ Ob:=match fC H id with
 |some (.bl e cs)=>jA H id (.bl e (Xl cs off (x.lay id (γ H) v).1))++(x.lay id (γ H) v).2
 |_=>H++(x.lay id (γ H) v).2
def pX(H:δ Ob)(id:Nat)(x:Ty)(v:x.T):δ Ob:=match nk (fL H id) x v with
 |some o=>jA H id o
 |none=>H
def Key.put(a:Nat->Nat)(S:Fr):(k:Key)->k.ty.T->Fr
 |.s' t x,v=>putV S.1 S.2 t x v
 |.o' t off x,v=>(S.1,Y9 S.2 (a t) off x v)
 |.w' t x,v=>(S.1,pX S.2 (a t) x v)
def Gn(a:Nat->Nat)(S:Fr):(l:δ Key)->(qE l).T->Fr
 |[],_=>S
 |[k],v=>k.put a S v
 |k::b::l,v=>Gn a (k.put a S v.1) (b::l) v.2
inductive Rk where
 |r' (x:Ty)
 |o' (id e:Nat) (x:Ty)
 |w' (id:Nat) (x:Ty)
def Rk.ty:Rk->Ty
 |.r' x=>x
 |.o' _ _ x=>x
 |.w' _ x=>x
abbrev fS(l:δ Rk):Ty:=fK (l.map Rk.ty)
def rdO(H:δ Ob)(id e:Nat)(x:Ty):ε (x.T×δ Src):=match fC H id with
 |some (.bl a cs)=>bif cT a e then Rf (x.rd ν H id cs)else ι
 |_=>ι
def Rk.rd(H:δ Ob):(k:Rk)->δ SV->ε (k.ty.T×δ Src×δ SV)
 |.r' x,a=>match a with
  |v::a=>match TC ν H x v with
   |some (x,b)=>θ (x,b,a)
   |none=>ι
  |[]=>ι
 |.o' id e x,a=>match rdO H id e x with
  |some (x,b)=>θ (x,b,a)
  |none=>ι
 |.w' id x,a=>match rdW H id x with
  |some (x,b)=>θ (x,b,a)
  |none=>ι
def rdR(H:δ Ob):(l:δ Rk)->δ SV->ε ((fS l).T×δ Src)
 |[],a=>match a with
  |[]=>θ ((),[])
  |_=>ι
 |[k],a=>match k.rd H a with
  |some (x,b,[])=>θ (x,b)
  |_=>ι
 |k::e::l,a=>match k.rd H a with
  |some (x,d,a)=>match rdR H (e::l) a with
   |some (y,c)=>θ ((x,y),d++c)
   |none=>ι
  |none=>ι
def putO(H:δ Ob)(id e:Nat)(x:Ty)(v:x.T):δ Ob:=jA H id (.bl e (x.lay id (γ H) v).1)++(x.lay id (γ H) v).2
def Rk.put(a:Nat->Nat)(S:δ SA×δ Ob):(k:Rk)->k.ty.T->δ SA×δ Ob
 |.r' x,v=>(S.1++[x.sa (x.lay 0 (γ S.2) v).1],S.2++(x.lay 0 (γ S.2) v).2)
 |.o' id e x,v=>(S.1,putO S.2 (a id) e x v)
 |.w' id x,v=>(S.1,pX S.2 (a id) x v)
def fT(a:Nat->Nat)(S:δ SA×δ Ob):(l:δ Rk)->(fS l).T->δ SA×δ Ob
 |[],_=>S
 |[k],v=>k.put a S v
 |k::b::l,v=>fT a (k.put a S v.1) (b::l) v.2
def kH:δ SA->SV
 |[x]=>x.sv
 |l=>.t' l
def NW(H:δ Ob):(l:δ Ty)->δ SV->ε ((fK l).T×δ Src)
 |[],c=>match c with
  |[]=>θ ((),[])
  |_=>ι
 |[x],c=>match c with
  |[v]=>TC μ H x v
  |_=>ι
 |x::y::l,c=>match c with
  |v::c=>match TC μ H x v with
   |some (a,e)=>match NW H (y::l) c with
    |some (b,d)=>θ ((a,b),e++d)
    |none=>ι
   |none=>ι
  |[]=>ι
def iT(H:δ Ob):(l:δ Ty)->(fK l).T->δ SV×δ Ob
 |[],_=>([],H)
 |[x],v=>([x.sv (x.lay 0 (γ H) v).1],H++(x.lay 0 (γ H) v).2)
 |x::y::l,v=>(x.sv (x.lay 0 (γ H) v.1).1::(iT (H++(x.lay 0 (γ H) v.1).2) (y::l) v.2).1,(iT (H++(x.lay 0 (γ H) v.1).2) (y::l) v.2).2)
structure PD where
 p:Prop
 h:Decidable p
inductive Gv (α:Type) where
 |one (x:Option α)
 |gs (l:List PD) (x:α)
structure wH where
 a:List Ty
 r:List Rk
 f:(fK a).T->Gv (fS r).T
def gdL{ρ:Type}(l:δ PD)(x:ε ρ):ε ρ:=match l with
 |[]=>x
 |⟨p,h⟩::l=> @gd ρ p h (gdL l x)
def Gv.bd{ρ:Type}(g:Gv a)(k:a->ε ρ):ε ρ:=match g with
 |.one x=>x.bind k
 |.gs l x=>gdL l (k x)
structure Cx where
 P:Θ
 X:Nat->List wH
 E:Nat->Option (Nat×Nat×Ty)
 G:Nat->Option Nat
 nn:Nat
 fu:Nat
structure St where
 F:Tr SV
 H:List Ob
 nb:Nat
 al:List (Nat×Nat×Nat)
 m:List (Nat×Nat×Nat)
def St.at(S:St)(t:Nat):SV:=match S.F.get t with
 |some v=>v
 |none=>.u'
def St.set(S:St)(d:Nat)(v:SV):St:=⟨S.F.set d v,S.H,S.nb,S.al,S.m⟩
def St.wU(S:St)(d:ε Nat)(v:SV):St:=match d with
 |some d=>S.set d v
 |none=>S
def cvC:ς->ε SC
 |.bool b=>θ (.b' b)
 |.int k n=>bif JQ k .u8 then(if 0<=n/\n<256 then θ (.c' (Fc n.toNat))else ι)else θ (.i' k n)
 |.string s=>θ (.s' s.data.toList)
 |.slice ι 0 0=>θ .n'
 |.pointer ι=>θ (.o' 0)
 |.nilFunc=>θ (.o' 1)
 |.nilIface=>θ (.o' 2)
 |_=>ι
def cvL:δ ς->ε (δ SC)
 |[]=>θ []
 |v::l=>match cvC v with
  |some x=>match cvL l with
   |some q=>θ (x::q)
   |none=>ι
  |none=>ι
def cv:ς->SV
 |.agg cs=>match cvL cs.toList with
  |some l=>.a' l
  |none=>.u'
 |v=>match cvC v with
  |some x=>.c' x
  |none=>.u'
section
variable(C : Cx)
def St.ev(S:St):Β->SV
 |.tmp t=>bif iJ t C.nn then S.at t else .u'
 |.const v=>cv v
 |.global g=>match C.G g with
  |some id=>.c' (.q' id 0 0 0)
  |none=>.u'
 |.func k=>.c' (.f' k [])
end
structure Ro where
 g:List PD
 v:SV
 H:List Ob
 m:List (Nat×Nat×Nat)
abbrev Rv:=ε (δ PD×SV)
def hC(x:SC):Rv:=θ ([],.c' x)
def Ns(p:Prop)[h:Decidable p](x:SC):Rv:=θ ([⟨p,h⟩],.c' x)
def i64(k:Δ):η:=JQ k .i64
def bI(b:BinOp)(k:Δ)(u v:Int):Rv:=
 match b with
 |.lss=>hC (.d' (u<v) inferInstance)
 |.leq=>hC (.d' (u<=v) inferInstance)
 |.gtr=>hC (.d' (v<u) inferInstance)
 |.geq=>hC (.d' (v<=u) inferInstance)
 |.eql=>hC (.d' (u=v) inferInstance)
 |.neq=>hC (.e' (u=v) inferInstance)
 |.add=>bif i64 k then Ns (bK (u+v)) (.i' k (u+v))else hC (.i' k (k.wrap (u+v)))
 |.sub=>bif i64 k then Ns (bK (u-v)) (.i' k (u-v))else hC (.i' k (k.wrap (u-v)))
 |.mul=>bif i64 k then Ns (bK (u*v)) (.i' k (u*v))else hC (.i' k (k.wrap (u*v)))
 |.quo=>bif i64 k then Ns (0<=u/\0<v/\bK u) (.i' k (u/v))else ι
 |.rem=>bif i64 k then Ns (0<=u/\0<v/\bK u) (.i' k (u%v))else ι
 |.and=>hC (.i' k (fM k u v))
 |.or=>hC (.i' k (Pv k u v))
 |.xor=>hC (.i' k (cU k u v))
 |_=>ι
def bC(b:BinOp)(u v:ζ):Rv:=
 match b with
 |.lss=>hC (.d' (u<v) inferInstance)
 |.leq=>hC (.d' (u<=v) inferInstance)
 |.gtr=>hC (.d' (v<u) inferInstance)
 |.geq=>hC (.d' (v<=u) inferInstance)
 |.eql=>hC (.d' (u=v) inferInstance)
 |.neq=>hC (.e' (u=v) inferInstance)
 |.add=>hC (.c' (u+v))
 |.sub=>hC (.c' (u-v))
 |.mul=>hC (.c' (u*v))
 |.quo=>Ns (v≠0) (.c' (u/v))
 |.rem=>Ns (v≠0) (.c' (u%v))
 |.and=>hC (.c' (u&&&v))
 |.or=>hC (.c' (u|||v))
 |_=>ι
def bS(b:BinOp)(u v:aC):Rv:=
 match b with
 |.eql=>hC (.d' (u=v) inferInstance)
 |.neq=>hC (.e' (u=v) inferInstance)
 |.lss=>hC (.b' (qK u v))
 |.gtr=>hC (.b' (!(qK u v||u==v)))
 |.add=>Ns (γ u+γ v<=9223372036854775807) (.s' (u++v))
 |_=>ι
def bB(b:BinOp)(u v:η):Rv:=match b with
 |.eql=>hC (.b' (u==v))
 |.neq=>hC (.b' (!(u==v)))
 |_=>ι
def sh8(z:η)(b:BinOp)(u:ζ)(v:Int):Rv:=
 match b with
 |.shl=>bif z then hC (.c' (SG u v))else Ns (0<=v) (.c' (SG u v))
 |.shr=>bif z then hC (.c' (mO u v))else Ns (0<=v) (.c' (mO u v))
 |_=>ι
def QK:SC->ε Int
 |.i' _ n=>θ n
 |.c' x=>θ x.toNat
 |_=>ι
def shI(z:η)(k:Δ)(u v:Int):Rv:=bif z then(match v with
 |.ofNat n=>hC (.i' k (u/((2^(min n k.bits):Nat))))
 |_=>ι)else Ns (0<=v) (.i' k (u/((2^(min v.toNat k.bits):Nat))))
def yp:BinOp->η
 |.shr=>μ
 |_=>ν
def shlI(z:η)(k:Δ)(u v:Int):Rv:=bif z then(match v with
 |.ofNat n=>hC (.i' k (fD k (u*((2^(min n k.bits):Nat)))))
 |_=>ι)else Ns (0<=v) (.i' k (fD k (u*((2^(min v.toNat k.bits):Nat)))))
def yq:BinOp->η
 |.shl=>μ
 |_=>ν
def bin(z:η)(b:BinOp)(x y:SC):Rv:=
 match x,y with
 |.i' k u,.i' a v=>bif yp b then shI z k u v else bif yq b then shlI z k u v else bif JQ k a then bI b k u v else ι
 |.c' u,.c' v=>bC b u v
 |.c' u,.i' _ v=>sh8 z b u v
 |.s' u,.s' v=>bS b u v
 |_,_=>ι
def notC:SC->Rv
 |.b' x=>hC (.b' (!x))
 |.d' p h=>hC (.e' p h)
 |.e' p h=>hC (.d' p h)
 |_=>ι
def ixC(x a:SC):Rv:=
 match x with
 |.s' l=>match QK a with
  |some i=>Ns (0<=i/\i<γ l) (.c' (Υ l i))
  |none=>ι
 |_=>ι
def gr(x:SC)(c d:ε SC):Rv:=
 match x with
 |.s' l=>match c,d with
  |some a,θ b=>match QK a,QK b with
   |some i,θ j=>Ns (0<=i/\i<=j/\j<=γ l) (.s' (sub l i j))
   |_,_=>ι
  |some a,ι=>match QK a with
   |some i=>Ns (0<=i/\i<=γ l) (.s' (dG (bR i) l))
   |none=>ι
  |none,θ b=>match QK b with
   |some j=>Ns (0<=j/\j<=γ l) (.s' (eP (bR j) l))
   |none=>ι
  |none,ι=>ι
 |_=>ι
section
variable(C : Cx)
def kindOf(t:Nat):ε Δ:=match C.P.underlying t with
 |some (.int k)=>θ k
 |_=>ι
def wB(t:Nat):η:=match C.P.underlying t with
 |some .string=>μ
 |_=>ν
def SB(t:Nat):ε Nat:=match C.P.underlying t with
 |some (.slice e)=>θ e
 |_=>ι
def arE(t:Nat):ε (Nat×Nat):=match C.P.underlying t with
 |some (.array n e)=>θ (n,e)
 |_=>ι
def Sn(t:Nat):ε Nat:=Wn C.P (Ο t)
def S9(t:Nat):ε η:=Wn C.P (isAgg t)
def JU(e:Nat):η:=match C.P.underlying e with
 |some (.int k)=>JQ k .u8
 |_=>ν
def isK(e:Nat)(k:Δ):η:=match kindOf C e with
 |some a=>JQ a k
 |none=>ν
def ib(s t:Nat)(x:SC):Rv:=
 match x with
 |.c' u=>bif JU C s then(match kindOf C t with
  |some .u8=>hC (.c' u)
  |some .i64=>hC (.i' .i64 u.toNat)
  |some .i32=>hC (.i' .i32 u.toNat)
  |_=>ι)else ι
 |.i' k n=>bif isK C s k then(match kindOf C t with
  |some .u8=>hC (.c' (AH n))
  |some k'=>bif JQ k k' then(bif i64 k then Ns (bK n) (.i' k n)else Ns (fD k' n=n) (.i' k n))else hC (.i' k' (k'.wrap n))
  |none=>bif wB C t then hC (.s' (Γ n).data.toList)else ι)else ι
 |.s' l=>bif wB C s then(bif wB C t then hC (.s' l)else ι)else ι
 |_=>ι
def zC(t:Nat):ε (δ SC):=match Wn C.P (zeroValue t)with
 |some v=>cvL v.cells.toList
 |none=>ι
def Uq(t f:Nat):ε (Nat×Nat×η):=match C.P.underlying t with
 |some (.struct c)=>match fC c.toList f with
  |some b=>match Sn C b.type,S9 C b.type with
   |some n,θ a=>θ (b.offset,n,a)
   |_,_=>ι
  |none=>ι
 |_=>ι
def vP(l:δ SC)(off n:Nat)(a:η):ε SV:=
 bif a then(match zV (zX l off) n with
  |some q=>bif knL q then θ (.a' q)else ι
  |none=>ι)else match fC l off with
  |some x=>bif x.kn then θ (.c' x)else ι
  |none=>ι
def La(H:δ Ob)(r:Rv):ε Ro:=match r with
 |some (g,v)=>θ ⟨g,v,H,[]⟩
 |none=>ι
def mI(H:δ Ob)(v:ε SV):ε Ro:=match v with
 |some v=>θ ⟨[],v,H,[]⟩
 |none=>ι
variable{a:Type}
def gH(x:SV)(f:SC->ε a):ε a:=match x with
 |.c' x=>f x
 |_=>ι
def Gq(c:Β->SV)(x:ε Β)(f:ε SC->ε a):ε a:=match x with
 |none=>f ι
 |some o=>gH (c o) λb=>f (θ b)
end
@[reducible] def Ty.yr:(t:Ty)->Inhabited t.T
 |.i' _=>⟨0⟩
 |.c'=>⟨0⟩
 |.s'=>⟨[]⟩
 |.b'=>⟨ν⟩
 |.u'=>⟨()⟩
 |.w' x=>x.yr
 |.pr x y=>⟨(x.yr.default,y.yr.default)⟩
 |.sm x _=>⟨.inl x.yr.default⟩
 |.l' _ _ x=>⟨[]⟩
 |.y'=>⟨[]⟩
 |.r' x=>⟨[]⟩
 |.p' _ x=>x.yr
 |.z'=>⟨()⟩
 |.o' _=>⟨()⟩
 |.f' _ x=>x.yr
def lb:(t:Ty)->δ t.T->Int->t.T
 |.c',l,j=>Υ l j
 |t,l,j=> @el t.T t.yr l j
def zg(t:Ty)(l:δ t.T)(j:Int):δ SC:=(t.lay 0 0 (lb t l j)).1
section
variable(C : Cx)
def vZ(H:δ Ob)(t:Ty)(x:SC):ε (δ t.T):=match x with
 |.n'=>θ []
 |.l' id=>Gd t (fC H id)
 |.k' id m=>match fC H id with
  |some (.bl _ cs)=>pC t m cs
  |_=>ι
 |_=>ι
def BE(sz:Nat)(j:Int)(t:Ty):η:=bif cT sz t.sz then μ else match j with
 |.ofNat 0=>μ
 |_=>ν
def rH(H:δ Ob)(t:Ty)(l:δ t.T)(j:Int)(sz off n:Nat)(a:η):ε Ro:=
 match vP (zg t l j) off n a with
 |some v=>bif (bif BE sz j t then t.flat else ν)then θ ⟨[⟨0<=j/\j<γ l,inferInstance⟩],v,H,[]⟩else ι
 |none=>ι
def js(t:Ty):δ t.T->δ SC
 |[]=>[]
 |x::l=>(t.lay 0 0 x).1++js t l
def Jn(H:δ Ob)(t:Ty)(l:δ t.T)(j:Int)(off n:Nat)(a:η):ε Ro:=match j with
 |.ofNat 0=>bif t.flat then mI H (vP (js t l) off n a)else ι
 |_=>ι
def kK(H:δ Ob)(t:Nat)(x:SC):ε Ro:=match Sn C t,S9 C t with
 |some n,θ a=>bif cT n 0 then ι else match x with
  |.p' id off=>match fC H id with
   |some (.bl _ cs)=>mI H (vP cs off n a)
   |_=>ι
  |.q' id j b off=>match fC H id with
   |some (.rw _ _ t' l)=>rH H t' l j b off n a
   |some (.ro t' l)=>(match rH H t' l j b off n a with
    |some r=>θ r
    |none=>Jn H t' l j off n a)
   |some (.br _ l)=>rH H .c' l j b off n a
   |_=>ι
  |_=>ι
 |_,_=>ι
def setE(t:Ty)(l:δ t.T)(j:Int)(off:Nat)(vs:δ SC):ε (δ t.T):=match uU (zg t l j) off vs with
 |some cs=>match t.CW cs with
  |some (x,[])=>θ (Ξ l (bR j) x)
  |_=>ι
 |none=>ι
def stoE(H:δ Ob)(id:Nat)(j:Int)(len:Nat)(o:Ob):ε Ro:=θ ⟨[⟨0<=j/\j<len,inferInstance⟩],.u',jA H id o,[(id,0,1)]⟩
def Il(H:δ Ob)(t:Nat)(x:SC)(v:SV):ε Ro:=match Sn C t,v.cells with
 |some n,θ a=>bif cT (γ a) n then(match x with
  |.p' id off=>match fC H id with
   |some (.bl e cs)=>match uU cs off a with
    |some d=>θ ⟨[],.u',jA H id (.bl e d),[(id,off,off+n)]⟩
    |none=>ι
   |_=>ι
  |.q' id j f off=>bif cT n 0 then ι else match fC H id with
   |some (.rw e b t' l)=>match setE t' l j off a with
    |some l'=>bif (bif BE f j t' then t'.flat else ν)then stoE H id j (γ l) (.rw e b t' l')else ι
    |none=>ι
   |some (.br m l)=>match v with
    |.c' y=>match y.rC with
     |some c=>bif (bif BE f j .c' then cT off 0 else ν)then stoE H id j (γ l) (.br m (Ξ l (bR j) c))else ι
     |none=>ι
    |_=>ι
   |_=>ι
  |_=>ι)else ι
 |_,_=>ι
def bhl(t f:Nat)(x:SC):ε SV:=match Uq C t f with
 |some q=>bif cT q.2.1 0 then ι else match x with
  |.p' id off=>θ (.c' (.p' id (off+q.1)))
  |.q' id j a off=>θ (.c' (.q' id j a (off+q.1)))
  |_=>ι
 |none=>ι
def UC(H:δ Ob)(id:Nat):ε Nat:=match fC H id with
 |some (.rw _ _ t l)=>bif t.flat then θ (γ l) else ι
 |some (.ro t l)=>bif t.flat then θ (γ l) else ι
 |some (.br _ l)=>θ (γ l)
 |_=>ι
def zu(H:δ Ob)(t:Nat)(x d:SC):ε Ro:=match QK d with
 |some j=>match SB C t with
  |some e=>match Sn C e with
   |some a=>match x with
    |.l' id=>match UC H id with
     |some m=>θ ⟨[⟨0<=j/\j<m,inferInstance⟩],.c' (.q' id j a 0),H,[]⟩
     |none=>ι
    |.k' id m=>θ ⟨[⟨0<=j/\j<m,inferInstance⟩],.c' (.p' id (j.toNat*a)),H,[]⟩
    |_=>ι
   |none=>ι
  |none=>match arE C t with
   |some q=>match Sn C q.2 with
    |some a=>match x with
     |.p' id off=>bif Nat.ble 2 q.1 then θ ⟨[⟨0<=j/\j<q.1,inferInstance⟩],.c' (.p' id (off+j.toNat*a)),H,[]⟩else ι
     |.q' id f c b=>bif Nat.ble 2 q.1 then(bif cT c 0 then(bif cT b 0 then θ ⟨[⟨0<=j/\j<q.1,inferInstance⟩],.c' (.q' id j a 0),H,[]⟩else ι)else ι)else ι
     |_=>ι
    |none=>ι
   |none=>ι
 |none=>ι
def Zc(H:δ Ob)(s t:Nat)(x:SC):ε Ro:=match SB C s with
 |some e=>bif wB C t then(bif JU C e then(match vZ H .c' x with
  |some l=>θ ⟨[],.c' (.s' l),H,[]⟩
  |none=>ι)else ι)else ι
 |none=>match x with
  |.s' l=>match SB C t with
   |some e=>bif wB C s then(bif JU C e then θ ⟨[],.c' (.l' (γ H)),H++[.br (γ l) l],[]⟩else ι)else ι
   |none=>La H (ib C s t x)
  |_=>La H (ib C s t x)
def Ya(H:δ Ob)(t:Nat)(x:SC):Rv:=match x with
 |.s' l=>bif wB C t then hC (.i' .i64 (γ l))else ι
 |x=>match SB C t with
  |some _=>(match x with
   |.l' id=>(match fC H id with
    |some o=>hC (.i' .i64 o.len)
    |none=>ι)
   |.k' _ m=>hC (.i' .i64 m)
   |.n'=>hC (.i' .i64 0)
   |_=>ι)
  |none=>ι
def mmC(b:Builtin)(x y:SC):Rv:=match b,x,y with
 |.min,.i' k u,.i' k' v=>bif JQ k k' then hC (.i' k (min u v))else ι
 |.max,.i' k u,.i' k' v=>bif JQ k k' then hC (.i' k (max u v))else ι
 |_,_,_=>ι
def blL:ε Ob->Nat
 |some (.bl _ cs)=>qN (γ cs)
 |_=>1
def rN(H:δ Ob)(t:Nat)(x y:SC):ε Ro:=match C.E t with
 |some (e,b,τ)=>match x with
  |.n'=>match vZ H τ y with
   |some a=>θ ⟨[⟨(γ ([]:δ τ.T)+γ a)*b<=140737488355328,inferInstance⟩],.c' (.l' (γ H)),H++[.rw e b τ ([]++a)],[]⟩
   |none=>ι
  |.l' id=>match yc H id (.l' e b τ),vZ H τ y with
   |some l,θ a=>θ ⟨[⟨(γ l+γ a)*b<=140737488355328,inferInstance⟩],.c' (.l' (γ H)),jA H id (.dd (γ l))++[.rw e b τ (l++a)],[(id,0,1)]⟩
   |_,_=>ι
  |.k' id m=>match Ty.rd ν H (.l' e b τ) 0 [.k' id m],vZ H τ y with
   |some (l,_,_),θ a=>θ ⟨[⟨(γ l+γ a)*b<=140737488355328,inferInstance⟩],.c' (.l' (γ H)),jA H id (.dd 0)++[.rw e b τ (l++a)],[(id,0,blL (fC H id))]⟩
   |_,_=>ι
  |_=>ι
 |none=>ι
def zU8(e:Nat):η:=match C.P.info? e with
 |some i=>(match i.zero with
  |some (.int .u8 (.ofNat 0))=>μ
  |_=>ν)
 |none=>ν
def Th(H:δ Ob)(t s:Nat)(x:SC)(a:aC):ε Ro:=bif wB C s then(match C.E t with
 |some (e,b,.c')=>bif cT b 1 then(bif zU8 C e then(match x with
  |.n'=>θ ⟨[⟨(γ ([]:aC)+γ a)*1<=140737488355328,inferInstance⟩],.c' (.l' (γ H)),H++[.rw e 1 .c' ([]++a)],[]⟩
  |.l' id=>(match yc H id (.l' e 1 .c')with
   |some l=>θ ⟨[⟨(γ l+γ a)*1<=140737488355328,inferInstance⟩],.c' (.l' (γ H)),jA H id (.dd (γ l))++[.rw e 1 .c' (l++a)],[(id,0,1)]⟩
   |none=>ι)
  |_=>ι)else ι)else ι
 |_=>ι)else ι
def Wp(H:δ Ob)(t s:Nat)(x:SC):SC->ε Ro
 |.s' a=>Th C H t s x a
 |_=>ι
def LG(d:Β->SV)(H:δ Ob)(b:Builtin)(eV:δ Β)(e:δ Nat):ε Ro:=match b,eV,e with
 |.len,[x],[t]=>La H (gH (d x) (Ya C H t))
 |.append,[x,y],[t,t']=>bif cT t t' then gH (d x) λa=>gH (d y) λc=>rN C H t a c else gH (d x) λa=>gH (d y) λc=>Wp C H t t' a c
 |b,[x,y],_=>La H (gH (d x) λa=>gH (d y) λc=>mmC b a c)
 |_,_,_=>ι
def Fy(sz:Nat->ε (Nat×Nat))(b:Β->SV):δ (Nat×Β)->δ SC->ε (δ SC)
 |[],l=>θ l
 |p::c,l=>match sz p.1,(b p.2).cells with
  |some q,θ a=>bif cT (γ a) q.2 then(match uU l q.1 a with
   |some l'=>Fy sz b c l'
   |none=>ι)else ι
  |_,_=>ι
def zG(z:δ SC):Nat->δ SC
 |0=>[]
 |n+1=>z++zG z n
def Ij:δ Field->ε (δ (Nat×Nat))
 |[]=>θ []
 |f::a=>match Sn C f.type with
  |some n=>match Ij a with
   |some l=>θ ((f.offset,n)::l)
   |none=>ι
  |none=>ι
def plOf(t:Nat):ε (Nat->ε (Nat×Nat)):=match C.P.underlying t with
 |some (.struct a)=>match Ij C a.toList with
  |some l=>θ (fC l)
  |none=>ι
 |some (.array _ e)=>match Sn C e with
  |some n=>θ λi=>θ (i*n,n)
  |none=>ι
 |_=>ι
def Im(c:Β->SV)(t:Nat)(a:δ (Nat×Β)):ε SV:=match zC C t,plOf C t with
 |some z,θ b=>match Fy b c a z with
  |some cs=>θ (.a' cs)
  |none=>ι
 |_,_=>ι
def asu(b:Β->SV)(H:δ Ob)(t len:Nat)(a:δ (Nat×Β)):ε Ro:=match SB C t with
 |some e=>match zC C e,Sn C e with
  |some z,θ n=>bif cT (γ z) n then(bif Nat.ble (len*n) 100000 then(match Fy (λi=>θ (i*n,n)) b a (zG z len)with
   |some cs=>θ ⟨[],.c' (.k' (γ H) len),H++[.bl e cs],[]⟩
   |none=>ι)else ι)else ι
  |_,_=>ι
 |none=>ι
def isZ:Β->η
 |.const (.int _ (.ofNat 0))=>μ
 |_=>ν
def sy:Β->η
 |.const (.int _ (.ofNat _))=>μ
 |_=>ν
def Ct(H:δ Ob)(t:Nat)(z:η)(x y:SC):ε Ro:=match C.E t with
 |some (e,b,τ)=>bif z then(match QK y with
   |some c=>θ ⟨[⟨0<=c/\b*c<=281474976710656,dMk b c⟩],.c' (.l' (γ H)),H++[.rw e b τ []],[]⟩
   |_=>ι)else ι
 |none=>ι
def uy:δ SV->ε (δ Nat)
 |[]=>θ []
 |v::l=>match v with
  |.c' (.p' id off)=>bif cT off 0 then(match uy l with
   |some q=>θ (id::q)
   |none=>ι)else ι
  |_=>ι
def Xw(b:Β->SV)(f:Fn)(first cap:δ Β):ε SV:=match f with
 |.func k=>match first with
  |[]=>match uy (cap.map b)with
   |some a=>θ (.c' (.f' k a))
   |none=>ι
  |_=>ι
 |_=>ι
def DF(x:SC):ε SV:=match x with
 |.p' id off=>θ (.c' (.p' id off))
 |.q' id j b off=>θ (.c' (.q' id j b off))
 |.f' k a=>θ (.c' (.f' k a))
 |_=>ι
def OS(t:Nat):η:=match C.P.underlying t with
 |some (.pointer _)=>μ
 |_=>ν
def isBool(t:Nat):η:=match C.P.underlying t with
 |some .bool=>μ
 |_=>ν
def EG(t:Nat):η:=match C.P.underlying t with
 |some (.slice _)=>μ
 |_=>ν
def EH:BinOp->η
 |.eql=>μ
 |_=>ν
def vf(z:η)(t:Nat)(b:BinOp)(x y:SC):Rv:=
 match x,y with
 |.p' _ _,.o' j=>bif cT j 0 then(bif OS C t then(bif EH b then hC (.b' ν)else ι)else ι)else ι
 |.o' j,.o' a=>bif cT j 0 then(bif cT a 0 then(bif OS C t then(bif EH b then hC (.b' μ)else ι)else ι)else ι)else ι
 |.k' _ _,.n'=>bif EG C t then(bif EH b then hC (.b' ν)else ι)else ι
 |.n',.n'=>bif EG C t then(bif EH b then hC (.b' μ)else ι)else ι
 |x,y=>match x.rB,y.rB with
  |some u,θ v=>bif isBool C t then bB b u v else ι
  |_,_=>bin z b x y
def nu:δ SC->ε (aC×aC)
 |[.s' a,.s' b]=>θ (a,b)
 |_=>ι
def UH(t:Nat):η:=bif wB C t then(match S9 C t with
 |some a=> !a
 |none=>ν)else ν
def isHd(t:Nat):η:=match C.P.underlying t with
 |some (.struct a)=>(match a.toList with
  | [f, g] => bif UH C f.type then (bif UH C g.type then (bif cT f.offset 0 then (bif cT g.offset 1 then (bif f.name == "_" then ν else (bif g.name == "_" then ν else (bif C.P.stoodInHeld t then ν else !C.P.eqGuardType C.P.depth t))) else ν) else ν) else ν) else ν
  |_=>ν)
 |_=>ν
def vg(z:η)(t:Nat)(b:BinOp)(x y:SV):Rv:=match x with
 |.a' l=>(match y with
  |.a' d=>(match nu l with
   |some u=>(match nu d with
    |some v=>bif isHd C t then(match b with
     |.eql=>hC (.d' (u=v) inferInstance)
     |.neq=>hC (.e' (u=v) inferInstance)
     |_=>ι)else ι
    |none=>ι)
   |none=>ι)
  |_=>ι)
 |x=>gH x λa=>gH y λc=>vf C z t b a c
def Gp(H:δ Ob)(t:Nat)(x:SC)(d f:ε SC):ε Ro:=match x with
 |.l' id=>(match fC H id with
  |some (.ro τ l)=>(match SB C t with
   |some e=>(match Sn C e with
    |some c=>bif cT c τ.sz then(bif τ.flat then(match d,f with
     |none,θ b=>(match QK b with
      |some j=>θ ⟨[⟨0<=j/\j<=γ l,inferInstance⟩],.c' (.l' (γ H)),H++[.ro τ (eP (bR j) l)],[]⟩
      |none=>ι)
     |some a,ι=>(match QK a with
      |some j=>θ ⟨[⟨0<=j/\j<=γ l,inferInstance⟩],.c' (.l' (γ H)),H++[.ro τ (dG (bR j) l)],[]⟩
      |none=>ι)
     |_,_=>ι)else ι)else ι
    |none=>ι)
   |none=>ι)
  |_=>ι)
 |_=>ι
def cq(t:Nat)(cs:δ SC)(i:SC):Rv:=match arE C t with
 |some q=>bif wB C q.2 then(match Sn C q.2,S9 C q.2 with
  |some 1,θ ν=>(match pC .s' q.1 cs,QK i with
   |some l,θ j=>Ns (0<=j/\j<γ l) (.s' (lb .s' l j))
   |_,_=>ι)
  |_,_=>ι)else ι
 |none=>ι
def iF(d:Β->SV)(H:δ Ob):Op->ε Ro
 |.move x=>mI H (match d x with
  |.u'=>ι
  |v=>θ v)
 |.assign x=>mI H (match d x with
  |.u'=>ι
  |v=>θ v)
 |.pick c a b=>gH (d c) λx=>match x with
  |.b' t=>mI H (match(bif t then d a else d b)with
   |.u'=>ι
   |v=>θ v)
  |_=>ι
 |.binOp b t x y _=>La H (vg C (sy y) t b (d x) (d y))
 |.unOp .not _ x=>La H (gH (d x) notC)
 |.convert s t x=>gH (d x) (Zc C H s t)
 |.index t x g=>bif wB C t then La H (gH (d x) λa=>gH (d g) λi=>ixC a i)else(match d x with
  |.a' cs=>La H (gH (d g) λi=>cq C t cs i)
  |_=>ι)
 |.slice t x k m ι=>bif wB C t then La H (gH (d x) λa=>Gq d k λi=>Gq d m λj=>gr a i j)else gH (d x) λa=>Gq d k λi=>Gq d m λj=>Gp C H t a i j
 |.extract x i=>match d x with
  |.t' l=>match fC l i with
   |some y=>θ ⟨[],y.sv,H,[]⟩
   |none=>ι
  |_=>ι
 |.field t x f=>match d x with
  |.a' l=>match Uq C t f with
   |some q=>mI H (vP l q.1 q.2.1 q.2.2)
   |none=>ι
  |_=>ι
 |.build t h=>mI H (Im C d t h.toList)
 |.alloc e=>match zC C e with
  |some z=>θ ⟨[],.c' (.p' (γ H) 0),H++[.bl e z],[]⟩
  |none=>ι
 |.box e v=>match(d v).cells with
  |some cs=>θ ⟨[],.c' (.p' (γ H) 0),H++[.bl e cs],[]⟩
  |none=>ι
 |.buildSlice t n h=>asu C d H t n h.toList
 |.load t x=>gH (d x) λa=>kK C H t a
 |.store t x v=>gH (d x) λa=>Il C H t a (d v)
 |.fieldAddr t x f=>gH (d x) λa=>mI H (bhl C t f a)
 |.indexAddr t x g=>gH (d x) λa=>gH (d g) λi=>zu C H t a i
 |.makeSlice t n c=>gH (d n) λa=>gH (d c) λi=>Ct C H t (isZ n) a i
 |.makeFunc f a b=>mI H (Xw d f a.toList b.toList)
 |.nilCheck x=>gH (d x) λa=>mI H (DF a)
 |.call c=>match c.callee with
  |.builtin b=>LG C d H b c.args.toList c.argTypes.toList
  |_=>ι
 |_=>ι
def opP(a:Β->SV)(H:δ Ob)(op:Op):ε Ro:=match op with
 |.convert s t x=>La H (gH (a x) (ib C s t))
 |.slice t x c d b=>bif wB C t then iF C a H (.slice t x c d b)else ι
 |op=>iF C a H op
end
inductive Ex where
 |nm
 |xt (id:Nat)
abbrev Rg:=Nat×Nat×Nat
inductive Sc where
 |n'
 |s' (a b:Sc)
 |j' (J:List Key) (R:List Nat) (a b:Sc)
 |r' (J:List Key) (R:List Nat) (a b:Sc)
 |l' (J:List Key) (a:Sc)
 |y' (a:Sc)
 |z' (a:Sc)
def Sc.A:Sc->Sc
 |.s' a _=>a
 |.j' _ _ a _=>a
 |.r' _ _ a _=>a
 |.l' _ a=>a
 |.y' a=>a
 |_=>.n'
def Sc.B:Sc->Sc
 |.s' _ b=>b
 |.j' _ _ _ b=>b
 |.r' _ _ _ b=>b
 |.z' b=>b
 |_=>.n'
def lB(t:Nat):δ Nat->η
 |[]=>ν
 |x::l=>bif cT t x then μ else lB t l
def FQ(l r:δ Nat):η:=match l with
 |[]=>μ
 |x::l=>bif lB x r then ν else FQ l r
def Qp:δ Nat->η
 |[]=>μ
 |x::l=>bif lB x l then ν else Qp l
def eM(id j:Nat):δ Rg->η
 |[]=>ν
 |q::l=>bif cT q.1 id then(bif Nat.ble q.2.1 j then(bif iJ j q.2.2 then μ else eM id j l)else eM id j l)else eM id j l
def gx(id a:Nat)(b:δ Rg):Nat->η
 |0=>μ
 |n+1=>bif eM id (a+n) b then gx id a b n else ν
def St.ok(S:St)(q:Rg):η:=bif iJ q.1 S.nb then gx q.1 q.2.1 S.al (q.2.2-q.2.1)else μ
def St.Fp(S:St):δ Rg->η
 |[]=>μ
 |x::l=>bif S.ok x then S.Fp l else ν
def gQ:δ Src->δ Nat
 |[]=>[]
 |s::l=>s.own++gQ l
def vd:δ Src->δ Nat
 |[]=>[]
 |s::l=>s.bor++vd l
def wM(H:δ Ob)(id:Nat):Rg:=(id,0,match fC H id with
 |some (.bl _ cs)=>qN (γ cs)
 |_=>1)
def sS(H:δ Ob)(id:Nat):Rg:=(id,0,match fC H id with
 |some (.bl _ cs)=>γ cs
 |_=>1)
def Zi(H:δ Ob):δ Nat->δ Rg
 |[]=>[]
 |x::l=>sS H x::Zi H l
def Vh(H:δ Ob):δ Nat->δ Rg
 |[]=>[]
 |x::l=>wM H x::Vh H l
def St.take(S:St)(ss:δ Src):η:=bif Qp (gQ ss)then S.Fp (Vh S.H (gQ ss))else ν
def kill(H:δ Ob):δ Nat->δ Ob
 |[]=>H
 |x::l=>kill (jA H x (.dd (fL H x))) l
def RM:δ SC->Nat->Nat->δ SC
 |[],_,_=>[]
 |x::l,a,n=>match a with
  |a+1=>x::RM l a n
  |0=>match n with
   |0=>x::l
   |n+1=>.u'::RM l 0 n
def Vg(H:δ Ob):δ Rg->δ Ob
 |[]=>H
 |q::l=>match fC H q.1 with
  |some (.bl e cs)=>Vg (jA H q.1 (.bl e (RM cs q.2.1 (q.2.2-q.2.1)))) l
  |_=>Vg (jA H q.1 (.dd (fL H q.1))) l
def NM(a:Nat->Nat):δ Key->δ Rg
 |[]=>[]
 |k::l=>match k with
  |.s' _ _=>NM a l
  |.o' t off x=>(a t,off,off+x.cn)::NM a l
  |.w' t _=>(a t,0,1)::NM a l
def wA:ε Ob->η
 |some (.rw _ _ _ _)=>μ
 |some (.br _ _)=>μ
 |_=>ν
def vO(H:δ Ob):δ SC->δ Nat
 |[]=>[]
 |x::l=>match x with
  |.l' id=>bif wA (fC H id)then id::vO H l else vO H l
  |.k' id _=>match fC H id with
   |some (.bl _ _)=>id::vO H l
   |_=>vO H l
  |_=>vO H l
def Ty.JX:Ty->η
 |.w' x=>x.JX
 |.pr x y=>bif x.JX then μ else y.JX
 |.l' _ _ _=>μ
 |.y'=>μ
 |_=>ν
def eatK(a:Nat->Nat)(F:Nat->SV)(H:δ Ob):δ Key->δ Nat
 |[]=>[]
 |k::l=>(match k with
  |.s' t x=>bif x.JX then(match(F t).cells with
   |some cs=>vO H cs
   |none=>[])else []
  |.o' t off x=>bif x.JX then(match fC H (a t)with
   |some (.bl _ cs)=>match zV (zX cs off) x.cn with
    |some q=>vO H q
    |none=>[]
   |_=>[])else []
  |.w' _ _=>[])++eatK a F H l
def Key.U0:δ Key->δ Nat
 |[]=>[]
 |k::l=>match k with
  |.s' t _=>t::Key.U0 l
  |_=>Key.U0 l
def del(F:Tr SV):δ Nat->Tr SV
 |[]=>F
 |x::l=>del (F.set x .u') l
def Fh:δ Ι->δ Nat
 |[]=>[]
 |o::l=>match o.dst with
  |some d=>d::Fh l
  |none=>Fh l
noncomputable def wr(c:Code):δ Nat:=Code.rec [] (λ_ d _=>Fh d.toList) (λ_ _ a b=>a++b) (λ_ _ _ a b=>a++b) (λ_ _ a=>a) (λ_ a=>a) (λ_ e _ _ a b=>e.toList++(a++b))
 (λ_=>[]) (λ_ a=>a) (λ_=>[]) (λ_=>[]) [] (λ_=>[]) c
def SV.pid:SV->Nat
 |.c' (.p' id _)=>id
 |.c' (.l' id)=>id
 |.c' (.k' id _)=>id
 |.c' (.f' _ (id::_))=>id
 |_=>0
def St.ix(S:St)(t:Nat):Nat:=(S.at t).pid
def St.zh(S:St)(J:δ Key):δ Nat:=eatK S.ix S.at S.H J
def St.Qk(S:St)(J:δ Key):δ Rg:=NM S.ix J++Vh S.H (S.zh J)
def KN:δ Rg->η
 |[]=>μ
 |q::l=>bif (VK q l)then KN l else ν
where VK (q:Rg):δ Rg->η
 |[]=>μ
 |r::l=>bif cT q.1 r.1 then(bif Nat.ble q.2.2 r.2.1 then VK q l else bif Nat.ble r.2.2 q.2.1 then VK q l else ν)else VK q l
def ux(S:St):δ Key->η
 |[]=>μ
 |k::l=>bif (match k with
  |.o' t off x=>(match fC S.H (S.ix t)with
   |some (.bl _ cs)=>Nat.ble (off+x.cn) (γ cs)
   |_=>ν)
  |.w' t x=>wA (fC S.H (S.ix t))
  |_=>μ)then ux S l else ν
def St.okJ(S:St)(J:δ Key):η:=bif S.Fp (S.Qk J)then(bif KN (S.Qk J)then(bif Qp (Key.U0 J)then ux S J else ν)else ν)else ν
def St.Yl(S:St):St:=⟨S.F,S.H,S.nb,S.al,[]⟩
def IC(n:Nat)(a:δ Rg):δ Rg->η
 |[]=>μ
 |q::l=>bif (bif iJ q.1 n then gx q.1 q.2.1 a (q.2.2-q.2.1)else μ)then IC n a l else ν
def tk(S:St)(J:δ Key)(ss:δ Src):η:=bif Qp (gQ ss)then tkI (γ S.H) (S.zh J) (gQ ss)else ν
where tkI (n:Nat) (e:δ Nat):δ Nat->η
 |[]=>μ
 |id::l=>bif (bif Nat.ble n id then μ else lB id e)then tkI n e l else ν
def leaf(S:St)(J:δ Key)(S2:St):ε (qE J).T:=match rdK S.ix S2.at S2.H J with
 |some (v,a)=>bif tk S J a then(bif IC (γ S.H) (S.Qk J) S2.m then θ v else ι)else ι
 |none=>ι
def St.out(S:St)(J:δ Key)(w:δ Nat)(v:(qE J).T):St:=match Gn S.ix (del S.F w,kill (Vg S.H (NM S.ix J)) (S.zh J)) J v with
 |(F,H)=>⟨F,H,S.nb,S.al,S.Qk J++S.m⟩
def St.head(S:St)(J:δ Key)(w:δ Nat)(v:(qE J).T):St:=match Gn S.ix (del S.F w,kill (Vg S.H (NM S.ix J)) (S.zh J)) J v with
 |(F,H)=>⟨F,H,S.nb,S.al,[]⟩
def St.as(S2 S:St)(J:δ Key):St:=⟨S2.F,S2.H,S2.nb,S2.al,S2.m++(S.Qk J++S.m)⟩
section
variable(C : Cx) (τ : Ty) (res : St -> ε τ.T)
def Oa(d:ε Nat)(v:SV):η:=match d,v with
 |none,.u'=>μ
 |none,_=>ν
 |some _,.u'=>ν
 |some _,_=>μ
def St.run(S:St)(d:ε Nat)(v:SV)(H:δ Ob)(m:δ Rg):ε St:=bif Oa d v then(bif S.Fp m then θ (St.wU ⟨S.F,H,S.nb,S.al,m++S.m⟩ d v)else ι)else ι
def Is(ss:δ Src)(j:Nat):Nat:=match fC ss j with
 |some (.o' id _)=>id
 |_=>0
def Rk.ids:δ Rk->δ Nat
 |[]=>[]
 |k::l=>match k with
  |.r' _=>Rk.ids l
  |.o' id _ _=>id::Rk.ids l
  |.w' id _=>id::Rk.ids l
def kL(outs:δ Nat):δ Ob->Nat->δ Src->δ Nat
 |[],_,_=>[]
 |_::_,_,[]=>[]
 |o::a,j,s::b=>(bif wA (θ o)then(bif lB j outs then []else s.own)else [])++kL outs a (j+1) b
def kJ(ss:δ Src):δ Nat->δ Nat
 |[]=>[]
 |j::l=>Is ss j::kJ ss l
def kP(c:wH)(S:St)(a:(fK c.a).T)(ss:δ Src):δ Rg:=Vh S.H (kL (Rk.ids c.r) (iT [] c.a a).2 0 ss)++Zi S.H (kJ ss (Rk.ids c.r))
def kO(c:wH)(S:St)(d:ε Nat)(a:(fK c.a).T)(ss:δ Src)(y:(fS c.r).T):St:=
 match fT (Is ss) ([],kill S.H (kL (Rk.ids c.r) (iT [] c.a a).2 0 ss)) c.r y with
 |(l,H)=>St.wU ⟨S.F,H,S.nb,S.al,kP c S a ss++S.m⟩ d (kH l)
def Ty.nb:Ty->η
 |.w' x=>x.nb
 |.pr x y=>bif x.nb then y.nb else ν
 |.r' _=>ν
 |.p' _ x=>x.nb
 |.f' _ x=>x.nb
 |_=>μ
def Kp(H:δ Ob)(ss:δ Src):δ Rk->η
 |[]=>μ
 |k::l=>bif (match k with
  |.r' x=>bif x.tz then ν else x.nb
  |.o' j e x=>bif x.nb then(match fC ss j with
   |some (.o' id w)=>bif w then(match fC H id with
    |some (.bl a cs)=>bif cT a e then cT (γ cs) x.cn else ν
    |_=>ν)else ν
   |_=>ν)else ν
  |.w' j x=>(match fC ss j with
   |some (.o' id w)=>bif w then wA (fC H id)else ν
   |_=>ν))then Kp H ss l else ν
def lX(c:wH)(S:St)(a:(fK c.a).T)(ss:δ Src):η:=
 bif Qp (gQ ss)then(bif FQ (vd ss) (gQ ss)then(bif Kp S.H ss c.r then S.Fp (kP c S a ss)else ν)else ν)else ν
def kQ{ρ:Ty}(S:St)(d:ε Nat)(vs:δ SV)(b:St->ε ρ.T):δ wH->ε ρ.T
 |[]=>ι
 |c::l=>match NW S.H c.a vs with
  |some (a,e)=>bif lX c S a e then(c.f a).bd λy=>b (kO c S d a e y)else ι
  |none=>kQ S d vs b l
variable{b:Ty}
def callD(S:St)(d:ε Nat)(k:Nat)(vs:δ SV)(a:St->ε b.T):ε b.T:=kQ S d vs a (C.X k)
def fnV:SV->ε (Nat×δ Nat)
 |.c' (.f' k a)=>θ (k,a)
 |_=>ι
def VT:δ Nat->δ SV
 |[]=>[]
 |id::l=>.c' (.p' id 0)::VT l
def pd(S:St)(d:ε Nat)(op:Op)(ρ:St->ε b.T):ε b.T:=
 match iF C (S.ev C) S.H op with
 |some ⟨g,v,H,m⟩=>match S.run d v H m with
  |some e=>gdL g (ρ e)
  |none=>ι
 |none=>match op with
  |.call c=>match c.callee with
   |.value f=>match fnV (S.ev C f)with
    |some (k,a)=>callD C S d k (c.args.toList.map (S.ev C)++VT a) ρ
    |none=>ι
   |_=>ι
  |_=>ι
def isG(a:δ Ι)(i:Nat):η:=match a with
 |[]=>ν
 |o::l=>match o.guard with
  |some q=>bif cT q.1 i then μ else isG l i
  |none=>isG l i
variable{a:Type}
def ir(v:SV)(y n:ε a):ε a:=match v with
 |.c' (.b' x)=>bif x then y else n
 |.c' (.d' p h)=> @ite _ p h y n
 |.c' (.e' p h)=> @ite _ p h n y
 |_=>ι
def cu:Op->ε Β
 |.move x=>θ x
 |.assign x=>θ x
 |_=>ι
def pc(ρ:δ Ι)(i:Nat)(S:St)(o:Ι)(a:St->ε b.T):ε b.T:=
 bif isG ρ i then(match cu o.op with
  |some x=>match o.dst with
   |some d=>ir (S.ev C x) (a (S.set d (.c' (.b' μ)))) (a (S.set d (.c' (.b' ν))))
   |none=>ι
  |none=>pd C S o.dst o.op a)
 else pd C S o.dst o.op a
def beqB(a b:η):η:=bif a then b else !b
def EX(a:δ Ι)(i:Nat):ε Nat:=match fC a i with
 |some o=>o.dst
 |none=>ι
def SM(a:δ Ι)(i:Nat)(S:St)(o:Ι)(ρ:St->ε b.T):ε b.T:=
 match o.guard with
 |none=>pc C a i S o ρ
 |some q=>match EX a q.1 with
  |some dg=>bif iJ dg C.nn then(match S.at dg with
   |.c' (.b' x)=>bif beqB x q.2 then pc C a i S o ρ else(match o.dst with
    |some d=>ρ (S.set d .n')
    |none=>ι)
   |.n'=>(match o.dst with
    |some d=>ρ (S.set d .n')
    |none=>ι)
   |_=>ι)else ι
  |none=>ι
def TO{ρ:Ty}(a:δ Ι):δ Ι->Nat->St->(St->ε ρ.T)->ε ρ.T
 |[],_,S,b=>b S
 |o::l,i,S,b=>SM C a i S o λc=>TO a l (qN i) c b
def zR:δ Β->δ Nat
 |[]=>[]
 |x::l=>match x with
  |.tmp t=>t::zR l
  |_=>zR l
def Cm:Op->η
 |.move _=>μ
 |.assign _=>μ
 |.pick _ _ _=>μ
 |.binOp _ _ _ _ _=>μ
 |.unOp _ _ _=>μ
 |.convert _ t _=> !EG C t
 |.index _ _ _=>μ
 |.slice t _ _ _ _=>wB C t
 |.extract _ _=>μ
 |.field _ _ _=>μ
 |.build _ _=>μ
 |.fieldAddr _ _ _=>μ
 |.load _ _=>μ
 |.indexAddr _ _ _=>μ
 |.makeFunc _ _ _=>μ
 |.nilCheck _=>μ
 |.call c=>match c.callee with
  |.builtin .len=>μ
  |.builtin .min=>μ
  |.builtin .max=>μ
  |_=>ν
 |_=>ν
def Vd:SV->δ Nat
 |.c' (.p' id _)=>[id]
 |.c' (.q' id _ _ _)=>[id]
 |.c' (.l' id)=>[id]
 |.c' (.k' id _)=>[id]
 |_=>[]
def EZ(a:Β->SV):δ Β->δ Nat
 |[]=>[]
 |x::l=>Vd (a x)++EZ a l
def Un(a:Β->SV):Op->δ Nat
 |.load _ x=>Vd (a x)
 |.indexAddr _ x _=>Vd (a x)
 |.convert _ _ x=>Vd (a x)
 |.call c=>EZ a c.args.toList
 |_=>[]
def tx(n:Nat):δ Rg->δ Nat
 |[]=>[]
 |q::l=>match n with
  |0=>[]
  |n+1=>q.1::tx n l
def rn:δ Rg->Nat
 |[]=>0
 |_::l=>qN (rn l)
def Ba:δ Ty->η
 |[]=>μ
 |x::l=>bif cT x.no 0 then Ba l else ν
def vW:δ Rk->η
 |[]=>μ
 |k::l=>match k with
  |.r' x=>bif cT x.no 0 then vW l else ν
  |_=>ν
def eu:δ wH->η
 |[]=>μ
 |c::l=>bif Ba c.a then(bif vW c.r then eu l else ν)else ν
def qt(op:Op):η:=bif Cm C op then μ else(match op with
 |.call c=>(match c.callee with
  |.value (.func k)=>eu (C.X k)
  |_=>ν)
 |_=>ν)
def entry(S S2:St)(o:Ι):η×δ Nat:=bif qt C o.op then(ν,Un (S.ev C) o.op)else(μ,tx (Nat.sub (rn S2.m) (rn S.m)) S2.m)
def qq{ρ:Ty}(a:δ Ι):δ Ι->Nat->St->δ (η×δ Nat)->(St->δ (η×δ Nat)->ε ρ.T)->ε ρ.T
 |[],_,S,c,b=>b S c
 |o::l,i,S,c,b=>SM C a i S o λd=>qq a l (qN i) d (c++[entry C S d o]) b
def RN:δ Nat->δ Nat->δ Nat
 |[],r=>r
 |x::l,r=>bif lB x r then RN l r else RN l (x::r)
def Ow(A:δ (δ Nat)):δ Edge->δ Nat
 |[]=>[]
 |e::l=>bif Region.binds .any e then RN (e.on::(match fC A e.on with
  |some a=>a
  |none=>[])) (Ow A l)else Ow A l
def gK:δ Ι->δ (δ Nat)->δ (δ Nat)
 |[],A=>A
 |o::l,A=>gK l (A++[Ow A o.after.toList])
def Om(A:δ (δ Nat))(i:Nat):δ Nat:=match fC A i with
 |some a=>a
 |none=>[]
def Oo:δ Ι->Nat->η
 |[],_=>μ
 |o::l,i=>bif o.after.toList.all (λe=>bif Region.binds .any e then iJ e.on i else μ)then Oo l (qN i)else ν
def Ui(a:δ Ι)(o:Ι):δ Nat:=match o.guard with
 |some q=>(match EX a q.1 with
  |some d=>[d]
  |none=>[])
 |none=>[]
def DE(A:δ (δ Nat))(i j:Nat):η:=bif lB i (Om A j)then μ else lB j (Om A i)
def Xv(A:δ (δ Nat))(i:Nat)(rd:δ Nat):δ Ι->Nat->η
 |[],_=>μ
 |o::l,j=>bif (match o.dst with
  |some d=>bif lB d rd then(bif cT i j then μ else DE A i j)else μ
  |none=>μ)then Xv A i rd l (qN j)else ν
def Ik(a:δ Ι)(A:δ (δ Nat))(all:δ Ι):δ Ι->Nat->η
 |[],_=>μ
 |o::l,i=>bif Xv A i (zR o.op.operands.toList++Ui a o) all 0 then Ik a A all l (qN i)else ν
def Xy(A:δ (δ Nat))(i:Nat)(q:η×δ Nat):δ (η×δ Nat)->Nat->η
 |[],_=>μ
 |p::l,j=>bif (bif cT i j then μ else bif DE A i j then μ else bif p.1 then(bif q.1 then ν else FQ q.2 p.2)else μ)then Xy A i q l (qN j)else ν
def OH(A:δ (δ Nat))(all:δ (η×δ Nat)):δ (η×δ Nat)->Nat->η
 |[],_=>μ
 |q::l,i=>bif Xy A i q all 0 then OH A all l (qN i)else ν
def QE{a:Type}:δ a->Nat->δ a
 |[],_=>[]
 |x::l,k=>match k with
  |0=>[]
  |k+1=>x::QE l k
def gf(a:Array Ι):Nat->ε Nat
 |0=>bif HE a 0 then θ 0 else ι
 |k+1=>bif HE a (qN k)then(match gf a k with
  |some j=>θ j
  |none=>θ (qN k))else ι
def KM(a:Array Ι)(S:St)(c:St->ε b.T):ε b.T:=bif C.P.follows .mixedOrders then(match gf a a.size with
 |some k=>(λl=>(λA=>bif Region.seqB .any a (Nat.sub a.size k) k (jM k μ++jM (Nat.sub a.size k) ν).toArray then(bif Oo l 0 then(bif Qp (Fh l)then(bif Ik a.toList A l l 0 then
   qq C a.toList l 0 S [] (λd ρ=>bif OH A ρ ρ 0 then TO C a.toList (zX a.toList k) k d c else ι)else ι)else ι)else ι)else ι) (gK l [])) (QE a.toList k)
 |none=>ι)else ι
abbrev Dn(τ:Ty):=Sc->St->(a:Ty)->(τ.T->ε a.T)->(Ex->St->ε a.T)->ε a.T
def zi:Dn τ:=λ_ S _ _ a=>a .nm S
def gp:Dn τ:=λ_ _ _ _ _=>ι
def ur(a:Array Ι)(d:η):Dn τ:=λ_ S _ _ c=>bif d then KM C a S (λb=>c .nm b)else TO C a.toList a.toList 0 S λb=>c .nm b
def Fi(ρ:Ex->St->ε a)(f:St->ε a):Ex->St->ε a
 |.nm,S=>f S
 |.xt i,S=>ρ (.xt i) S
def noK:Ex->St->ε a:=λ_ _=>ι
def bm(S:St)(J:δ Key)(S2:St):ε (Ty.sm (qE J) τ).T:=match leaf S J S2 with
 |some v=>θ (.inl v)
 |none=>ι
def Vc(a:δ Ι):δ Nat->St->St
 |[],S=>S
 |i::R,S=>Vc a R (match fC a i with
  |some o=>(match o.dst with
   |some d=>(match opP C (S.ev C) S.H o.op with
    |some ⟨[],v,_,_⟩=>S.set d v
    |_=>S)
   |none=>S)
  |none=>S)
def opsOf:Code->δ Ι
 |.region _ a d=>bif d then []else a.toList
 |_=>[]
def lU:Op->η
 |.move _=>μ
 |.assign _=>μ
 |.binOp _ _ _ _ _=>μ
 |.unOp _ _ _=>μ
 |.convert _ _ _=>μ
 |.index _ _ _=>μ
 |.extract _ _=>μ
 |.field _ _ _=>μ
 |.build _ _=>μ
 |.fieldAddr _ _ _=>μ
 |.slice _ _ _ _ _=>μ
 |_=>ν
def au(a:δ Ι)(i:Nat):η:=match fC a i with
 |some o=>bif o.guard.isNone then(bif lU o.op then(match o.dst with
  |some d=>(bif lB d (Fh (zX a (qN i)))then ν else FQ (zR o.op.operands.toList) (d::Fh (zX a (qN i))))
  |none=>ν)else ν)else ν
 |none=>ν
def okR(a:δ Ι):δ Nat->η
 |[]=>μ
 |i::R=>bif au a i then okR a R else ν
def dSeq(x:Code)(w:δ Nat)(a b:Dn τ):Dn τ:=λf S d c e=>match f with
 |.j' J R h g=>bif S.okJ J then(bif okR (opsOf x) R then Option.bind (a h S.Yl (qE J) (λ_=>ι) (Fi noK (leaf S J))) λv=>b g (Vc C (opsOf x) R (S.out J w v)) d c e else ι)else ι
 |.r' J R h g=>bif S.okJ J then(bif okR (opsOf x) R then Option.bind (a h S.Yl (.sm (qE J) τ) (λr=>θ (.inr r)) (Fi noK (bm τ S J))) λj=>dQ (λv=>b g (Vc C (opsOf x) R (S.out J w v)) d c e) (λq=>c q) j else ι)else ι
 |f=>a f.A S d c (Fi e λi=>b f.B i d c e)
def dCond(c:Β)(a b:Dn τ):Dn τ:=λf S d g e=>match f with
 |.y' i=>ir (S.ev C c) (a i S d g e) ι
 |.z' h=>ir (S.ev C c) ι (b h S d g e)
 |f=>ir (S.ev C c) (a f.A S d g e) (b f.B S d g e)
def yv(id:Nat)(ρ:Ex->St->ε a):Ex->St->ε a
 |.nm,S=>ρ .nm S
 |.xt i,S=>bif cT i id then ρ .nm S else ρ (.xt i) S
def dBlock(id:Nat)(a:Dn τ):Dn τ:=λd S b e c=>a d S b e (yv id c)
def FY{T:Type}(ρ:St->ε T)(g:T->ε a)(S:St):ε a:=match ρ S with
 |some v=>g v
 |none=>ι
def dLoop(w:δ Nat)(a:Dn τ):Dn τ:=λd S b h c=>match d with
 |.l' J f=>bif S.okJ J then(match leaf S J S.Yl with
  |some v=>bJ (λg v=>a f (S.head J w v) b h (Fi (λe i=>c e (i.as S J)) (FY (leaf S J) g))) C.fu v
  |none=>ι)else ι
 |_=>ι
def dRet:Dn τ:=λ_ S _ a _=>match res S with
 |some r=>a r
 |none=>ι
noncomputable def den(c:Code):Dn τ:=Code.rec (motive:=λ_=>Dn τ) (zi τ) (λ_ e d=>ur C τ e d) (λx _ a b=>dSeq C τ x (wr x) a b) (λc _ _ a b=>dCond C τ c a b) (λid _ a=>dBlock τ id a) (λx a=>dLoop C τ (wr x) a) (λ_ _ _ _ _ _=>gp τ)
 (λid _ S _ _ f=>f (.xt id) S) (λ_ a=>a) (λ_=>zi τ) (λ_=>gp τ) (dRet τ res) (λ_=>gp τ) c
end
def iE(C:Cx)(S:St):ResultVar->SV
 |.tmp t=>bif iJ t C.nn then S.at t else .u'
 |.cell a t=>match bif iJ a C.nn then S.at a else .u' with
  |.c' x=>match kK C S.H t x with
   |some ⟨[],v,_,_⟩=>v
   |_=>.u'
  |_=>.u'
def TA(C:Cx)(b:Nat)(c:δ Rg)(rs:δ ResultVar)(r:δ Rk)(S:St):ε (fS r).T:=match rdR S.H r (rs.map (iE C S))with
 |some (x,a)=>bif St.take ⟨S.F,S.H,b,c,[]⟩ a then(bif FQ (gQ a) (Rk.ids r)then θ x else ι)else ι
 |none=>ι
def endK{ρ:Type}(res:St->ε ρ):Ex->St->ε ρ
 |.nm,S=>res S
 |.xt _,_=>ι
def SH(F:Tr SV):Nat->δ SV->Tr SV
 |_,[]=>F
 |t,v::a=>SH (F.set t v) (t+1) a
def Rq(r:δ Rk):δ Ob->δ Ob->Nat->δ Rg
 |_,[],_=>[]
 |H,o::l,j=>(bif wA (θ o)then [(j,0,1)]else bif lB j (Rk.ids r)then [sS H j]else [])++Rq r H l (j+1)
def st0(gs:δ Ob)(a:δ Ty)(r:δ Rk)(x:(fK a).T):St:=match iT [] a x with
 |(b,H)=>⟨SH Tr.e 0 b,H++gs,γ (H++gs),Rq r H H 0,[]⟩
def Ea:Ty->η
 |.l' _ _ _=>μ
 |.y'=>μ
 |_=>ν
def OE(H:δ Ob):δ Rk->η
 |[]=>μ
 |k::l=>bif (match k with
  |.r' _=>μ
  |.o' id e x=>(match fC H id with
   |some (.bl a cs)=>bif cT a e then cT (γ cs) x.cn else ν
   |_=>ν)
  |.w' id x=>bif wA (fC H id)then Ea x else ν)then OE H l else ν
def TW:δ Ty->η
 |[]=>μ
 |x::l=>bif x.tz then ν else TW l
def denF(C:Cx)(gs:δ Ob)(c:Code)(rs:δ ResultVar)(sc:Sc)(a:δ Ty)(r:δ Rk)(x:(fK a).T):ε (fS r).T:=
 match st0 gs a r x with
 |⟨F,H,b,d,m⟩=>bif (bif TW a then(bif Qp (Rk.ids r)then OE (iT [] a x).2 r else ν)else ν)then den C (fS r) (TA C b d rs r) c sc ⟨F,H,b,d,m⟩ (fS r) θ (endK (TA C b d rs r))else ι
end
end Go.Oe
namespace Go.Ce
open Go.Wk
open List renaming range → Ic
open Nat renaming beq → cT
variable{a:Type}
theorem bi_ite(c:η)(x y:a):bi c x y=if c=μ then x else y:=by cases c<;>rfl
theorem vq(a b:Nat):(cT a b=μ)=(a=b):=propext ⟨gO,λh=>by subst h;exact Nat.beq_refl a⟩
def Pk.val:Pk->Nat
 |.h=>0
 |.o p=>2*p.val+2
 |.i p=>2*p.val+1
theorem Xr:∀(f k:Nat),k<f->(pkF f k).val=k
 |0,k,h=>by omega
 |f+1,k,h=>by
  show(bi _ Pk.h (bi (cT (k%2) 1) (Pk.i (pkF f (k/2))) (Pk.o (pkF f (k/2-1))))).val=k;simp only[bi_ite,vq];by_cases a:k=0
  ·rw[aB a,a];rfl
  ·rw[aA a];by_cases b:k%2=1
   ·rw[aB b];show 2*(pkF f _).val+1=k;rw[Xr f _ aA0];omega
   ·rw[aA b];show 2*(pkF f _).val+2=k;rw[Xr f _ aA0];omega
theorem ae(k:Nat):(pk k).val=k:=Xr _ k (Rw k)
theorem pk_inj{k k':Nat}(h:pk k=pk k'):k=k':=by rw[<-ae k,h,ae]
theorem bhw{α:Type}(x:α):∀(p:Pk) (t:Tr α),Tr.VC p (Tr.U6 x p t)=θ x
 |.h,t=>rfl
 |.o p,t=>bhw x p t.R
 |.i p,t=>bhw x p t.L
theorem sJ{α:Type}(x:α):∀(p q:Pk) (t:Tr α),q≠p->Tr.VC q (Tr.U6 x p t)=Tr.VC q t
 |.h,.h,t,h=>absurd Τ h
 |.h,.o q,t,_=>rfl
 |.h,.i q,t,_=>rfl
 |.o p,.h,t,_=>rfl
 |.o p,.o q,t,h=>sJ x p q t.R λe=>h (by rw[e])
 |.o p,.i q,t,_=>rfl
 |.i p,.h,t,_=>rfl
 |.i p,.o q,t,_=>rfl
 |.i p,.i q,t,h=>sJ x p q t.L λe=>h (by rw[e])
theorem Tr.Av(t:Tr a)(k k':Nat)(x:a):(t.set k x).get k'=if k'=k then θ x else t.get k':=by
 by_cases h:k'=k
 ·subst h;rw[aB rfl];exact bhw x _ _
 ·rw[aA h];exact sJ x _ _ _ λe=>h (pk_inj e)
theorem KB{α:Type}:∀p:Pk,Tr.VC p (.e:Tr α)=ι
 |.h=>rfl
 |.o p=>KB p
 |.i p=>KB p
theorem Tr.ed(k:Nat):(Tr.e:Tr a).get k=ι:=KB _
section
variable{α:Type}
end
abbrev En:=Nat->Nat×Nat
def Cp.re(E:En)(j:Nat):Cp->Nat
 |.k c=>c
 |.r off=>(E j).2-off
def SC.re(E:En):SC->ς
 |.b x=>.bool x
 |.i k n=>.int k (k.wrap (n:Int))
 |.s l x=>str (dec l x)
 |.np=>.pointer ι
 |.ns=>.slice ι 0 0
 |.nf=>.nilFunc
 |.ni=>.nilIface
 |.nm=>.map ι
 |.p j off=>.pointer (θ ⟨(E j).1,off,ι⟩)
 |.g j off=>.pointer (θ ⟨j,off,ι⟩)
 |.sl j base n c=>.slice (θ ⟨(E j).1,base,ι⟩) n (c.re E j)
 |.fn f cs=>.func (.func f) #[] (cs.map λj=>υ (θ ⟨(E j).1,0,ι⟩)).toArray
 |.y j=>.func (.yield (E j).1) #[] #[]
 |.m j=>.map (θ (E j).1)
 |.z j base dd off=>.slice (θ ⟨(E j).1,if(E j).2-off=0 then base else base+dd,ι⟩) 0 ((E j).2-off)
def SA.re(E:En):SA->ς
 |.c x=>x.re E
 |.a l=>.agg (l.map (SC.re E)).toArray
def SV.re(E:En):SV->ς
 |.c x=>x.re E
 |.a l=>.agg (l.map (SC.re E)).toArray
 |.t l=>.tuple (l.map (SA.re E)).toArray
 |.u=>undef
def SC.ok(n:Nat):SC->Prop
 |.p j _=>j<n
 |.sl j _ _ _=>j<n
 |.fn _ cs=>∀j∈cs,j<n
 |.y j=>j<n
 |.m j=>j<n
 |.z j _ _ _=>j<n
 |_=>True
def SA.ok(n:Nat):SA->Prop
 |.c x=>x.ok n
 |.a l=>∀x∈l,x.ok n
def SV.ok(n:Nat):SV->Prop
 |.c x=>x.ok n
 |.a l=>∀x∈l,x.ok n
 |.t l=>∀x∈l,x.ok n
 |.u=>True
noncomputable def tv(F:Tr SV)(t:Nat):SV:=(F.get t).getD .u
noncomputable def rF(E:En)(F:Tr SV):Nat->ς:=λt=>(tv F t).re E
def Fok(n:Nat)(F:Tr SV):Prop:=∀t v,F.get t=θ v->v.ok n
theorem Fok.set{n:Nat}{F:Tr SV}(h:Fok n F)(d:Nat){v:SV}(a:v.ok n):Fok n (F.set d v):=by
 intro t x hx;rw[Tr.Av]at hx;split at hx
 ·cases hx;exact a
 ·exact h t x hx
def Mo.ok(md:Mo)(cap len size:Nat)(a:Nat×Nat):Prop:=
 match md with
 |.ex=>size=len/\a=(0,0)
 |.rw b m=>len=m*b/\m<=cap/\cap<=maxLen/\size=cap*b/\a=(0,0)
 |.bw=>len<=cap/\cap<=size/\size<=a.1
 |.fb=>size=len/\size<=a.1
def cres(b cap t:Nat)(md:Mo)(c:δ ς):cL:=
 ⟨θ b,λo=>∃a t' d,o=θ (.cells a t' d)/\(md=.bw\/t'=t)/\γ c<=a.size/\a.toList.take (γ c)=c/\md.ok cap (γ c) a.size d⟩
def lpres(b:Nat)(busy:η)(j k:Nat)(d:δ Nat)(c body:Code)(F:Nat->ς):cL:=
 ⟨θ b,λo=>∃a:Loop,a.assign=c/\a.body=body/\a.params=d.toArray/\a.tmps=(fr ⟨k,[],θ ι⟩ F).tmps/\
  (match busy with
  |false=>o=θ (.loop {a with state:=kz j,pending:=jmp j})
  |true=>∃e,o=θ (.loop {a with state:=.busy,pending:=e}))⟩
def mpres(b:Nat)(l:δ (ς×ς)):cL:=⟨θ b,λo=>∃a clock,o=θ (.map a clock)/\a.toList.map (λe=>(e.key,e.val))=l⟩
noncomputable def iE(E:En)(i:Nat):HB->cL
 |.cl t e c=>cres (E i).1 (E i).2 t e (c.map (SC.re E))
 |.it l x pos=>SF (E i).1 (dec l x) pos
 |.lp busy j k d b a F=>lpres (E i).1 busy j k d b a (rF E F)
 |.df=>gk (E i).1
 |.gn=>⟨ι,λ_=>True⟩
 |.mp f=>mpres (E i).1 (f.map λp=>(p.1.re E,p.2.re E))
def HB.ok(n:Nat):HB->Prop
 |.cl _ _ a=>∀x∈a,x.ok n
 |.lp _ _ _ _ _ _ F=>Fok n F
 |.mp b=>∀p∈b,p.1.ok n/\p.2.ok n
 |_=>True
noncomputable def iL(H:Hs)(i:Nat):HB:=(H.t.get i).getD .gn
noncomputable def NT(E:En)(H:Hs):δ cL:=(Ic H.nx).map λi=>iE E i (iL H i)
structure Inv (w0:φ) (E:En) (H:Hs) (w:φ):Prop where
 hp:Hp w0 [] (NT E H) w
 lt:∀i b,H.t.get i=θ b->i<H.nx
 ok:∀i b,H.t.get i=θ b->b.ok H.nx
section
variable{w0 w:φ}{E:En}{H:Hs}
variable{i:Nat}
theorem X6(a:i<H.nx):(NT E H)[i]? =θ (iE E i (iL H i)):=by simp[NT,a]
theorem Inv.at(h:Inv w0 E H w){b:HB}(a:H.t.get i=θ b):(NT E H)[i]? =θ (iE E i b):=by rw[X6 (h.lt i b a)];simp[iL,a]
theorem Inv.cells(h:Inv w0 E H w){i t:Nat}{md:Mo}{b:δ SC}(g:H.t.get i=θ (.cl t md b)):
  ∃a t' c,w.heap[(E i).1]? =θ (.cells a t' c)/\(md=.bw\/t'=t)/\γ b<=a.size/\a.toList.take (γ b)=b.map (SC.re E)/\md.ok (E i).2 (γ b) a.size c:=by
 have l:=(h.hp.res _ (aL (h.at g))).1;obtain⟨a,t',c,k,j,f,e,d⟩:=l;simp only[Gj]at f e d;exact⟨a,t',c,k,j,f,e,d⟩
end
end Go.Ce
namespace Go.Oe
open Go.Wk
open Go.Ce (Tr)
open Nat renaming one_pos → Ib
theorem gA{a:Type}:∀(l:δ a) k,fC l k=l[k]?
 |[],_=>rfl
 |x::l,0=>rfl
 |x::l,k+1=>by rw[iB];exact gA l k
theorem oL{a:Type}:∀l k (y:a),jA l k y=l.set k y
 |[],_,_=>rfl
 |x::l,0,y=>rfl
 |x::l,k+1,y=>by simp[jA,oL l k y]
theorem mW{a:Type}:∀(l:δ a) k,zX l k=l.drop k
 |[],k=>by simp[zX]
 |x::l,0=>rfl
 |x::l,k+1=>by rw[List.drop_succ_cons];exact mW l k
theorem wZ{a:Type}:∀{l:δ a}{k:Nat}{q:δ a},zV l k=θ q->q=l.take k/\k<=γ l
 |l,0,q,h=>by
  have:zV l 0=θ []:=by cases l<;>rfl
  rw[this]at h;cases h;simp
 |[],k+1,q,h=>by cases h
 |x::l,k+1,q,h=>by
  simp only[zV]at h;split at h
  ·rename_i q' d;cases h;obtain⟨c,b⟩:=wZ d;exact⟨by simp[c],aC2⟩
  ·cases h
theorem bcv:∀{l:δ SC}{k:Nat}{vs q:δ SC},uU l k vs=θ q->k+γ vs<=γ l/\q=l.take k++vs++l.drop (k+γ vs)
 |l,0,[],q,h=>by
  have:uU l 0 []=θ l:=by cases l<;>rfl
  rw[this]at h;cases h;simp
 |[],0,v::vs,q,h=>by cases h
 |[],k+1,vs,q,h=>by cases vs<;>cases h
 |x::l,0,v::vs,q,h=>by
  simp only[uU]at h;split at h
  ·rename_i q' b;cases h;obtain⟨c,a⟩:=bcv b;simp at c a⊢;exact⟨aA0,a⟩
  ·cases h
 |x::l,k+1,vs,q,h=>by
  simp only[uU]at h;split at h
  ·rename_i q' b;cases h;obtain⟨c,a⟩:=bcv b;refine⟨by simp;omega,?_⟩;rw[a];simp[Pm]
  ·cases h
variable{l r:δ SC}{n:Nat}
theorem rD{q:δ SC}(h:uU l n r=θ q)(j:Nat):q[j]? =if n<=j/\j<n+γ r then r[j-n]? else l[j]? :=by
 obtain⟨c,rfl⟩:=bcv h;by_cases b:j<n
 ·rw[aA aA0,nW,aI aA3,bO,aB b]
 ·by_cases a:j<n+γ r
  ·rw[aB ⟨aA0,a⟩,aI aA3,aM aA3];simp;congr 1;omega
  ·rw[aA aA0,aM aA3,bV];congr 1;simp;omega
theorem zP{q:δ SC}(h:uU l n r=θ q):γ q=γ l:=by obtain⟨a,rfl⟩:=bcv h;simp;omega
theorem OQ:∀{l:δ SC},knL l=μ->∀x∈l,x.kn=μ
 |[],_,x,hx=>by cases hx
 |y::l,h,x,hx=>by
  have h:=gY h;rcases aQ.1 hx with rfl|hx
  ·exact h.1
  ·exact OQ h.2 x hx
theorem ay(j:Nat):(qx j).oneCell'=μ:=by unfold qx;split<;>rfl
theorem SC.one(ρ:Nat->Ad)(c:SC):(c.v ρ).oneCell'=μ:=by cases c<;>first|rfl|exact ay _
theorem XH(H:δ Ob)(id:Nat):fL H id=(H[id]?.map Ob.len).getD 0:=by unfold fL;rw[gA];cases H[id]? <;>rfl
def SC.ids:SC->δ Nat
 |.p' id _=>[id]
 |.q' id _ _ _=>[id]
 |.l' id=>[id]
 |.k' id _=>[id]
 |.f' _ ids=>ids
 |.z' id a=>[id,a]
 |_=>[]
variable{a d:Nat->Ad}{c:SC}
theorem SC.v_ext(h:∀id∈c.ids,d id=a id):c.v d=c.v a:=by
 cases c<;>simp only[SC.v]
 case p' id off=>rw[h id aE1]
 case q' id j e off=>rw[h id aE1]
 case l' id=>rw[h id aE1]
 case k' id n=>rw[h id aE1]
 case f' k ids=>
  have:(ids.map λid=>iM (d id).b 0)=ids.map λid=>iM (a id).b 0:=xj λid hid=>by rw[h id hid]
  rw[this]
 case z' id ρ=>rw[h id aE1,h ρ aE1]
def SC.ok(n:Nat)(c:SC):Prop:=∀id∈c.ids,id<n
def SA.ok(n:Nat):SA->Prop
 |.c' x=>x.ok n
 |.a' l=>∀x∈l,x.ok n
def SV.ok(n:Nat):SV->Prop
 |.c' x=>x.ok n
 |.a' l=>∀x∈l,x.ok n
 |.t' l=>∀x∈l,x.ok n
 |_=>True
def Up(n:Nat)(ρ a:Nat->Ad):Prop:=∀id,id<n->a id=ρ id
theorem Up.refl:Up n a a:=λ_ _=>rfl
theorem Up.trans{n m:Nat}{ρ a ρ3:Nat->Ad}(h:Up n ρ a)(c:Up m a ρ3)(d:n<=m):Up n ρ ρ3:=
 λid b=>(c id aA0).trans (h id b)
theorem SC.up(b:Up n a d)(h:c.ok n):c.v d=c.v a:=SC.v_ext λid ρ=>b id (h id ρ)
theorem Wz(b:Up n a d)(h:∀x∈l,x.ok n):l.map (SC.v d)=l.map (SC.v a):=xj λx hx=>SC.up b (h x hx)
theorem SA.up{n:Nat}{ρ a:Nat->Ad}{c:SA}(b:Up n ρ a)(h:c.ok n):c.v a=c.v ρ:=by
 cases c with
 |c' x=>exact SC.up b h
 |a' l=>simp only[SA.v];rw[Wz b h]
theorem SV.up{n:Nat}{ρ a:Nat->Ad}{c:SV}(b:Up n ρ a)(h:c.ok n):c.v a=c.v ρ:=by
 cases c with
 |c' x=>simp only[SV.v];rw[SC.up b h]
 |a' l=>simp only[SV.v];rw[Wz b h]
 |t' l=>simp only[SV.v];rw[xj λx hx=>SA.up b (h x hx)]
 |_=>rfl
variable{m:Nat}
theorem SC.cQ(h:c.ok n)(a:n<=m):c.ok m:=λid b=>WY (h id b) a
theorem SV.cQ{n m:Nat}{c:SV}(h:c.ok n)(a:n<=m):c.ok m:=by
 cases c with
 |c' x=>exact SC.cQ h a
 |a' l=>exact λx hx=>SC.cQ (h x hx) a
 |t' l=>
  intro x hx;have:=h x hx;cases x with
  |c' y=>exact SC.cQ this a
  |a' l=>exact λy b=>SC.cQ (this y b) a
 |_=>trivial
theorem SA.oc(ρ:Nat->Ad)(x:SA):x.sv.v ρ=θ (x.v ρ):=by cases x<;>rfl
theorem SA.Fj{x:SA}(h:x.ok n):x.sv.ok n:=by cases x<;>exact h
variable{x:SV}
theorem SV.Iz{ρ:Nat->Ad}(h:x.cells=θ l):∃v,x.v ρ=θ v/\v.cells=(l.map (SC.v ρ)).toArray:=by
 cases x with
 |c' x=>cases h;refine⟨_,Τ,?_⟩;have:=SC.one ρ x;rw[qO];generalize x.v ρ=v at this⊢;cases v<;>first|rfl|simp[Value.oneCell']at this
 |a' i=>cases h;exact⟨_,Τ,Τ⟩
 |_=>cases h
theorem SV.Oh(h:x.cells=θ l)(hx:x.ok n):∀c∈l,c.ok n:=by
 cases x with
 |c' x=>cases h;intro c a;simp at a;subst a;exact hx
 |a' i=>cases h;exact hx
 |_=>cases h
theorem Ty.Yu:∀(t:Ty) x,t.flat=μ->γ (t.enc x)=t.sz:=by
 intro t;induction t with
 |w' t e=>intro x h;exact e x h
 |pr a b d c=>intro x h;have h:=gY h;show(a.enc x.1++b.enc x.2).length=a.sz+b.sz;rw[cR,d _ h.1,c _ h.2]
 |i' k=>intro x h;rfl
 |c'=>intro x h;rfl
 |s'=>intro x h;rfl
 |b'=>intro x h;rfl
 |_=>intro x h;cases h
theorem Ty.ue:∀(t:Ty) x,∀v∈t.enc x,v.oneCell'=μ:=by
 intro t;induction t with
 |w' t f=>intro x;exact f x
 |pr a b e d=>
  intro x v c;rcases aZ.1 (c)with h|h
  ·exact e _ v h
  ·exact d _ v h
 |i' k=>intro x v c;have:v=_:=aF.1 c;subst this;rfl
 |c'=>intro x v c;have:v=_:=aF.1 c;subst this;rfl
 |s'=>intro x v c;have:v=_:=aF.1 c;subst this;rfl
 |b'=>intro x v c;have:v=_:=aF.1 c;subst this;rfl
 |_=>intro x v c;cases c
variable{t:Ty}
theorem Ty.vX(h:t.flat=μ):kZ t.enc t.sz:=⟨λx=>t.Yu x h,λx=>t.ue x⟩
theorem Ty.Cc:∀{t:Ty},t.flat=μ->0<t.sz:=by
 intro t;induction t with
 |w' t e=>intro h;exact e h
 |pr a b c d=>intro h;have h:=gY h;have:=c h.1;show 0<a.sz+b.sz;omega
 |_=>intro h;exact Ib
theorem Ty.zY:∀(t:Ty) (s n) x,t.flat=μ->(t.lay s n x).2=[]/\∀ρ,(t.lay s n x).1.map (SC.v ρ)=t.enc x:=by
 intro t;induction t with
 |w' t g=>intro s n x h;exact g s n x h
 |pr a b d c=>
  intro s n x h;have h:=gY h;have f:=d s n x.1 h.1;have e:=c s (n+a.no) x.2 h.2;refine⟨?_,λρ=> ?_⟩
  ·show(a.lay s n x.1).2++(b.lay s _ x.2).2=[];rw[f.1,e.1];rfl
  ·show((a.lay s n x.1).1++(b.lay s _ x.2).1).map _=a.enc x.1++b.enc x.2;rw[Ru,f.2,e.2]
 |i' k=>intro s n x h;exact⟨Τ,λ_=>rfl⟩
 |c'=>intro s n x h;exact⟨Τ,λ_=>rfl⟩
 |s'=>intro s n x h;exact⟨Τ,λ_=>rfl⟩
 |b'=>intro s n x h;exact⟨Τ,λ_=>rfl⟩
 |_=>intro s n x h;cases h
theorem Ty.Tu:∀(t:Ty) (s n) x,t.flat=μ->∀c∈(t.lay s n x).1,c.ids=[]/\c.kn=μ:=by
 intro t;induction t with
 |w' t g=>intro s n x h;exact g s n x h
 |pr a b f e=>
  intro s n x h c d;have h:=gY h;rcases aZ.1 (d)with d|d
  ·exact f s n x.1 h.1 c d
  ·exact e s _ x.2 h.2 c d
 |i' k=>intro s n x h c d;have:c=_:=aF.1 d;subst this;exact⟨Τ,Τ⟩
 |c'=>intro s n x h c d;have:c=_:=aF.1 d;subst this;exact⟨Τ,Τ⟩
 |s'=>intro s n x h c d;have:c=_:=aF.1 d;subst this;exact⟨Τ,Τ⟩
 |b'=>intro s n x h c d;have:c=_:=aF.1 d;subst this;exact⟨Τ,Τ⟩
 |_=>intro s n x h c d;cases h
theorem rI_v{k:Δ}{y:Int}(h:c.rI k=θ y)(ρ:Nat->Ad):c.v ρ=.int k y:=by
 cases c<;>simp only[SC.rI,reduceCtorEq]at h;rename_i b n;cases a:JQ k b with
 |true=>rw[a]at h;cases h;rw[lT a];rfl
 |false=>rw[a]at h;cases h
theorem rC_v{y:ζ}(h:c.rC=θ y)(ρ:Nat->Ad):c.v ρ=bt y:=by cases c<;>simp only[SC.rC,reduceCtorEq]at h;cases h;rfl
theorem rS_v{y:aC}(h:c.rS=θ y)(ρ:Nat->Ad):c.v ρ=str y:=by cases c<;>simp only[SC.rS,reduceCtorEq]at h;cases h;rfl
variable{y:η}
theorem qg(h:c.rB=θ y)(ρ:Nat->Ad):c.v ρ=.bool y:=by cases c<;>simp only[SC.rB]at h<;>cases h<;>rfl
theorem Y2:∀(t:Ty) l x r,t.CW l=θ (x,r)->t.flat=μ/\∀ρ,l.map (SC.v ρ)=t.enc x++r.map (SC.v ρ):=by
 intro t;induction t with
 |w' t o=>intro l x r h;exact o l x r h
 |pr a b f e=>
  intro l x r h;simp only[Ty.CW]at h;split at h
  ·rename_i n g q;split at h
   ·rename_i m s p;cases h;have j:=f l n g q;have i:=e g m _ p;refine⟨by simp[Ty.flat,j.1,i.1],λρ=> ?_⟩;rw[j.2,i.2,<-nW];rfl
   ·cases h
  ·cases h
 |i' k=>
  intro l x r h;cases l with
  |nil=>cases h
  |cons c l=>
   simp only[Ty.CW]at h;split at h
   ·rename_i y d;cases h;exact⟨Τ,λρ=>by rw[qO,rI_v d];rfl⟩
   ·cases h
 |c'=>
  intro l x r h;cases l with
  |nil=>cases h
  |cons c l=>
   simp only[Ty.CW]at h;split at h
   ·rename_i y d;cases h;exact⟨Τ,λρ=>by rw[qO,rC_v d];rfl⟩
   ·cases h
 |s'=>
  intro l x r h;cases l with
  |nil=>cases h
  |cons c l=>
   simp only[Ty.CW]at h;split at h
   ·rename_i y d;cases h;exact⟨Τ,λρ=>by rw[qO,rS_v d];rfl⟩
   ·cases h
 |b'=>
  intro l x r h;cases l with
  |nil=>cases h
  |cons c l=>
   simp only[Ty.CW]at h;split at h
   ·rename_i y d;cases h;exact⟨Τ,λρ=>by rw[qO,qg d];rfl⟩
   ·cases h
 |_=>intro l x r h;cases h
theorem ll{t:Ty}:∀{m:Nat}{l:δ SC}{a:δ t.T},pC t m l=θ a->γ a=m/\(m≠0->t.flat=μ)/\∀ρ,l.map (SC.v ρ)=a.flatMap t.enc
 |0,l,a,h=>by
  cases l with
  |nil=>cases h;exact⟨Τ,λh=>absurd Τ h,λ_=>rfl⟩
  |cons c l=>cases h
 |m+1,l,a,h=>by
  simp only[pC]at h;split at h
  ·rename_i y b e;split at h
   ·rename_i q d;cases h;obtain⟨j,k,i⟩:=ll d;obtain⟨g,f⟩:=Y2 t l y b e;exact⟨by simp[j],λ_=>g,λρ=>by rw[f,i];rfl⟩
   ·cases h
  ·cases h
theorem elT_el(t:Ty)(l:δ t.T)(j:Int):lb t l j= @el t.T t.yr l j:=by cases t<;>first|rfl|(show Υ _ _=_;rfl)
open Nat renaming beq → cT
def Mat(ρ:Nat->Ad)(cs:δ SC)(vs:δ ς):Prop:=γ vs=γ cs/\∀(j:Nat) c,cs[j]? =θ c->c.kn=μ->vs[j]? =θ (c.v ρ)
def Vu(w0:φ)(S0:δ Nat)(d:Ad)(t:Ty)(l:δ t.T):Prop:=
 Rd w0 d.a (l.flatMap t.enc)/\(l.flatMap t.enc≠[]->∀p,d.a=θ p->p.block∉S0)/\γ l<=d.cap
def RO(w0:φ)(S0:δ Nat)(ρ:Nat->Ad)(id:Nat):Ob->cL->Prop
 |.bl e cs,r=>∃c,r=aX (ρ id).b c e/\Mat ρ cs c
 |.rw e _ t l,r=>r=bN t.enc e t.sz (ρ id).o (ρ id).a (ρ id).cap l
 |.ro t l,r=>r.own=ι/\Vu w0 S0 (ρ id) t l
 |.br n l,r=>r=jX (.slice (ρ id).a n (ρ id).cap) n l
 |.dd _,r=>True
def Mt(w0:φ)(S0:δ Nat)(ρ:Nat->Ad)(H:δ Ob)(L:δ cL):Prop:=
 (γ L)=γ H/\∀id o,H[id]? =θ o->o.len=(ρ id).ln/\∃r,L[id]? =θ r/\RO w0 S0 ρ id o r
def Src.ad(ρ:Nat->Ad):Src->Ad
 |.o' id _=>ρ id
 |.n'=>⟨ι,ι,0,ν,0⟩
 |.k' id m _=>⟨θ (ρ id).b,θ ⟨(ρ id).b,0,ι⟩,m,ν,m⟩
 |.z' t=>⟨ι,ι,0,t,0⟩
def WS(any:η)(ρ:Nat->Ad)(H:δ Ob)(d:Nat->Ad):Src->Ob->Prop
 |s,.bl e a=>∃id cs,s=.o' id μ/\H[id]? =θ (.bl e cs)/\cs.map (SC.v ρ)=a.map (SC.v d)/\(∀c∈cs,c.kn=μ)/\∀c∈a,c.kn=μ
 |s,.rw e b t l=>(∃id,s=.o' id μ/\H[id]? =θ (.rw e b t l))\/(s=.n'/\l=[])\/(∃id m cs,s=.k' id m μ/\H[id]? =θ (.bl e cs)/\pC t m cs=θ l/\t.flat=μ/\m<=1048576)
 |s,.br n l=>n=γ l/\∃id m,s=.o' id μ/\H[id]? =θ (.br m l)
 |s,.ro t l=>(∃id,s=.o' id ν/\(bif any then Gd t H[id]? else V7 t H[id]?)=θ l)\/(s=.n'/\l=[])\/(any=μ/\∃id m e cs,s=.k' id m ν/\H[id]? =θ (.bl e cs)/\pC t m cs=θ l)
 |s,.dd n=>n=0/\((∃t,s=.z' t)\/∃f,s=.o' f ν/\H[f]? =θ (.dd 0))
structure At (t:Ty) (ρ:Nat->Ad) (me:Nat) (ss:List Src) (cS:Nat->Ad) (BQ n:Nat):Prop where
 sf:t.tz=μ->(cS BQ).b=(ρ me).b
 ad:∀(j:Nat) (s:Src),ss[j]? =θ s->cS (n+j)=s.ad ρ
variable{f:δ Src}
theorem At.left{b:Ty}{g:δ Src}{e:Nat}(h:At (.pr t b) a n (f++g) d m e):At t a n f d m e:=
 ⟨λi=>h.sf (by simp[Ty.tz,i]),λj s ρ=>h.ad j s (by rw[aI (aE.1 ρ).1];exact ρ)⟩
theorem At.right{b:Ty}{e:δ Src}{ρ:Nat}(h:At (.pr t b) a n (f++e) d m ρ):At b a n e d m (ρ+γ f):=
 ⟨λg=>h.sf (by simp[Ty.tz,g]),λj s i=>by rw[Cb];exact h.ad _ s (by rw[aM aA0,<-i];congr 1;omega)⟩
theorem Ty.Yd:∀(t:Ty) (s n) x,γ (t.lay s n x).1=t.cn:=by
 intro t;induction t with
 |w' t e=>intro s n x;exact e s n x
 |pr a b d c=>intro s n x;show((a.lay s n x.1).1++(b.lay s _ x.2).1).length=a.cn+b.cn;rw[cR,d,c]
 |_=>intro s n x;rfl
theorem Ty.eD:∀(t:Ty) (s n) x,γ (t.lay s n x).2=t.no:=by
 intro t;induction t with
 |w' t c=>intro s n x;exact c s n x
 |pr a b f d=>intro s n x;show((a.lay s n x.1).2++(b.lay s _ x.2).2).length=a.no+b.no;rw[cR,f,d]
 |p' e t c=>intro s n x;show(_::(t.lay n _ x).2).length=t.no+1;rw[dT,c]
 |f' k t c=>intro s n x;exact c s n x
 |_=>intro s n x;rfl
theorem zT:∀{l:δ SC}{id:Nat},id∈oH l->∃c∈l,id∈c.ids
 |[],id,h=>by cases h
 |x::l,id,h=>by
  cases x
  case p' i off=>
   rcases aQ.1 (h)with h|h
   ·subst h;exact⟨_,iK,by simp[SC.ids]⟩
   ·obtain⟨c,b,a⟩:=zT h;exact⟨c,gN _ b,a⟩
  all_goals
   obtain⟨c,b,a⟩:=zT (show id∈oH l from h);exact⟨c,gN _ b,a⟩
theorem Ty.Dd:∀(t:Ty) (s n) x,∀c∈(t.lay s n x).1,c.kn=μ/\∀id∈c.ids,id=s\/(n<=id/\id<n+γ (t.lay s n x).2):=by
 intro t;induction t with
 |w' t g=>intro s n x;exact g s n x
 |pr a b m l=>
  intro s n x c d;have o:γ ((Ty.pr a b).lay s n x).2=a.no+γ (b.lay s (n+a.no) x.2).2:=by show((a.lay s n x.1).2++(b.lay s _ x.2).2).length=_;rw[cR,Ty.eD]
  have p:=a.eD s n x.1;rcases aZ.1 (d)with d|d
  ·obtain⟨j,i⟩:=m s n x.1 c d;refine⟨j,λid f=> ?_⟩;rcases i id f with h|h
   ·exact .inl h
   ·right;rw[o];omega
  ·obtain⟨j,i⟩:=l s _ x.2 c d;refine⟨j,λid f=> ?_⟩;rcases i id f with h|h
   ·exact .inl h
   ·right;rw[o];omega
 |f' k t g=>intro s n x c d;have:c=_:=aF.1 d;subst this;refine⟨Τ,λid f=> ?_⟩;obtain⟨q,j,i⟩:=zT (f);exact(g s n x q j).2 id i
 |p' e t g=>intro s n x c d;have:c=_:=aF.1 d;subst this;refine⟨Τ,λid f=> ?_⟩;have:id=n:=aF.1 f;subst this;exact .inr ⟨dC _,by show id<id+γ (_::_:δ Ob);simp⟩
 |l' e b t g=>intro s n x c d;have:c=_:=aF.1 d;subst this;refine⟨Τ,λid f=> ?_⟩;have:id=n:=aF.1 f;subst this;exact .inr ⟨dC _,Rw _⟩
 |r' t g=>intro s n x c d;have:c=_:=aF.1 d;subst this;refine⟨Τ,λid f=> ?_⟩;have:id=n:=aF.1 f;subst this;exact .inr ⟨dC _,Rw _⟩
 |y'=>intro s n x c d;have:c=_:=aF.1 d;subst this;refine⟨Τ,λid f=> ?_⟩;have:id=n:=aF.1 f;subst this;exact .inr ⟨dC _,Rw _⟩
 |z'=>
  intro s n x c d;have:c=_:=aF.1 d;subst this;refine⟨Τ,λid f=> ?_⟩;have:id=s\/id=n:=by simpa [SC.ids] using f
  rcases this with h|h
  ·exact .inl h
  ·subst h;exact .inr ⟨dC _,Rw _⟩
 |u'=>intro s n x c d;cases d
 |sm a b _ _=>intro s n x c d;cases d
 |_=>intro s n x c d;have:c=_:=aF.1 d;subst this;exact⟨Τ,λid f=>by cases f⟩
theorem zQ:∀a b,oH (a++b)=oH a++oH b
 |[],b=>rfl
 |x::a,b=>by have:=zQ a b;cases x<;>simp[oH,this]
theorem Z2:∀(t:Ty) (s n) x,t.Z3=μ->(t.lay s n x).1=(oH (t.lay s n x).1).map λid=>.p' id 0:=by
 intro t;induction t with
 |pr a b d c=>intro s n x h;have h:=gY h;show(a.lay s n x.1).1++(b.lay s _ x.2).1=(oH ((a.lay s n x.1).1++(b.lay s _ x.2).1)).map _;rw[zQ,Ru,<-d s n x.1 h.1,<-c _ _ _ h.2]
 |p' e t f=>intro s n x h;rfl
 |u'=>intro s n x h;rfl
 |_=>intro s n x h;cases h
variable{H:δ Ob}{e:Ob}
theorem mV(h:H[n]? =θ e):fL H n=e.len:=by rw[XH,h];rfl
variable{o:ε Ob}{b:δ t.T}
theorem Vj(d:∀m x,o=θ (.br m x)->γ x=m)(h:Gd t o=θ b):∃ob,o=θ ob/\ob.len=γ b:=by
 unfold Gd at h;split at h
 ·rename_i e l t2 c;split at h
  ·rename_i a;obtain rfl:=Ty.jI a;cases h;exact⟨_,Τ,Τ⟩
  ·cases h
 ·rename_i t2 c;split at h
  ·rename_i a;obtain rfl:=Ty.jI a;cases h;exact⟨_,Τ,Τ⟩
  ·cases h
 ·rename_i m c;have:=d m c Τ;unfold strOf at h;split at h
  ·rename_i a;obtain rfl:=Ty.jI a;cases h;exact⟨_,Τ,this.symm⟩
  ·cases h
 ·cases h
theorem Ch(h:V7 t o=θ b):o=θ (.ro t b):=by
 unfold V7 at h;split at h
 ·rename_i t2 l;split at h
  ·rename_i a;obtain rfl:=Ty.jI a;cases h;rfl
  ·cases h
 ·cases h
theorem uA{q:Nat×Nat}(h:rwE o=θ q)(a:rowOf t o=θ b):o=θ (.rw q.1 q.2 t b):=by
 unfold rwE at h;split at h
 ·rename_i e l t2 d;cases h;unfold rowOf at a;simp only at a;split at a
  ·rename_i c;obtain rfl:=Ty.jI c;cases a;rfl
  ·cases a
 ·cases h
variable{g:Type}
theorem nF{a:SC->ε g}{x:g}(h:la a l=θ (x,r,f)):∃c,l=c::r/\a c=θ x/\f=[]:=by
 cases l with
 |nil=>cases h
 |cons c l=>
  simp only[la]at h;split at h
  ·rename_i y b;cases h;exact⟨c,Τ,b,Τ⟩
  ·cases h
structure RdOk (any:Bool) (H:List Ob) (t:Ty) (me:Nat) (l:List SC) (x:t.T) (r:List SC) (ss:List Src):Prop where
 no:γ ss=t.no
 kn:∃us,l=us++r/\∀c∈us,c.kn=μ
 to:∀(ρ cS:Nat->Ad) (BQ n:Nat),At t ρ me ss cS BQ n->
  l.map (SC.v ρ)=(t.lay BQ n x).1.map (SC.v cS)++r.map (SC.v ρ)/\∀(j:Nat) (s:Src) (o:Ob),ss[j]? =θ s->(t.lay BQ n x).2[j]? =θ o->WS any ρ H cS s o
theorem wX{x:t.T}{s:Src}{g:Nat->SC}(m:c.kn=μ)(d:t.no=1)(r:∀o w,t.lay o w x=([g w],[e]))
  (i:∀ρ a w,a w=s.ad ρ->c.v ρ=(g w).v a) (k:∀ρ a,WS y ρ H a s e):RdOk y H t n (c::l) x l [s]:=by
 refine⟨by rw[d];rfl,⟨[c],Τ,λu h=>by rw[aF.1 h];exact m⟩,λρ a b w h=> ?_⟩;rw[r];refine⟨?_,λj o q f p=> ?_⟩
 ·have:=i ρ a w (h.ad 0 s Τ);simp[this]
 ·cases j with
  |zero=>cases f;cases p;exact k ρ a
  |succ j=>simp at f
def LN(H:δ Ob):Prop:=∀(id m:Nat) x,H[id]? =θ (.br m x)->γ x=m
theorem dD{a:ε g}{r:g}(h:(bif y then a else ι)=θ r):y=μ/\a=θ r:=by
 cases y with
 |true=>exact⟨Τ,h⟩
 |false=>cases h
theorem Y0(any:η)(H:δ Ob)(U:LN H):∀t self l x r ss,t.rd any H self l=θ (x,r,ss)->RdOk any H t self l x r ss:=by
 intro t;induction t with
 |i' k=>intro self l x r ss h;obtain⟨c,rfl,w,rfl⟩:=nF h;exact⟨Τ,⟨[c],Τ,λc2 h=>by rw[aF.1 h];cases c<;>first|rfl|cases w⟩,λu f d n h=>⟨by rw[qO,rI_v w];rfl,λj s o p=>by simp at p⟩⟩
 |c'=>intro self l x r ss h;obtain⟨c,rfl,w,rfl⟩:=nF h;exact⟨Τ,⟨[c],Τ,λc2 h=>by rw[aF.1 h];cases c<;>first|rfl|cases w⟩,λu f d n h=>⟨by rw[qO,rC_v w];rfl,λj s o p=>by simp at p⟩⟩
 |s'=>intro self l x r ss h;obtain⟨c,rfl,w,rfl⟩:=nF h;exact⟨Τ,⟨[c],Τ,λc2 h=>by rw[aF.1 h];cases c<;>first|rfl|cases w⟩,λu f d n h=>⟨by rw[qO,rS_v w];rfl,λj s o p=>by simp at p⟩⟩
 |b'=>intro self l x r ss h;obtain⟨c,rfl,w,rfl⟩:=nF h;exact⟨Τ,⟨[c],Τ,λc2 h=>by rw[aF.1 h];cases c<;>first|rfl|cases w⟩,λu f d n h=>⟨by rw[qO,qg w];rfl,λj s o p=>by simp at p⟩⟩
 |u'=>intro self l x r ss h;cases h;exact⟨Τ,⟨[],Τ,λc h=>by cases h⟩,λu f d n h=>⟨rfl,λj s o p=>by simp at p⟩⟩
 |w' t I=>intro self l x r ss h;exact⟨(I self l x r ss h).no,(I self l x r ss h).kn,λu f d n iL=>(I self l x r ss h).to u f d n ⟨iL.sf,iL.ad⟩⟩
 |pr a b a4 a3=>
  intro self l x r ss h;simp only[Ty.rd]at h;split at h
  ·rename_i Z l1 s1 R;split at h
   ·rename_i y2 E s2 hq;cases h;have X:=a4 self l Z l1 s1 R;have P:=a3 self l1 y2 _ s2 hq;obtain⟨us,J,N⟩:=X.kn;obtain⟨ws,a7,a6⟩:=P.kn;refine⟨by rw[cR,X.no,P.no];rfl,⟨us++ws,by rw[J,a7,nW],λc w=>(aZ.1 w).elim (N c) (a6 c)⟩,λu f d n iL=> ?_⟩;have hl:γ s1=γ (a.lay d n Z).2:=by rw[X.no,Ty.eD]
    obtain⟨p,G⟩:=X.to u f d n iL.left;obtain⟨h3,h4⟩:=P.to u f d (n+a.no) (by have:=iL.right;rwa [X.no]at this);refine⟨?_,λj s o z A=> ?_⟩
    ·show _=((a.lay d n Z).1++(b.lay d (n+a.no) y2).1).map _++_;rw[p,h3,Ru,nW]
    ·have L:((a.lay d n Z).2++(b.lay d (n+a.no) y2).2)[j]? =θ o:=A;by_cases F:j<γ s1
     ·rw[aI F]at z;rw[aI aA0]at L;exact G j s o z L
     ·rw[aM aA0]at z;rw[aM aA0,<-hl]at L;exact h4 _ s o z L
   ·cases h
  ·cases h
 |sm a b _ _=>intro self l x r ss h;cases h
 |l' e b t I=>
  intro self l x r ss h;simp only[Ty.rd]at h;split at h
  ·cases h;exact wX (g:=λn=>.l' n) Τ Τ (λ_ _=>rfl) (λu f n p=>by simp[SC.v,p,Src.ad]) (λ_ _=>.inr (.inl ⟨Τ,Τ⟩))
  ·rename_i id E;split at h
   ·rename_i q hq;cases D:cT q.1 e with
    |false=>rw[D]at h;cases h
    |true=>
     cases P:cT q.2 b with
     |false=>rw[D,P]at h;cases h
     |true=>
      rw[D,P]at h;simp at h;split at h
      ·rename_i y C;cases h;have B:=uA hq C;rw[gA,gO D,gO P]at B;exact wX (g:=λn=>.l' n) Τ Τ (λ_ _=>rfl) (λu f n p=>by simp[SC.v,p,Src.ad]) (λ_ _=>.inl ⟨id,Τ,B⟩)
      ·cases h
   ·cases h
  ·rename_i id m E;split at h
   ·rename_i Y cs B;rw[gA]at B;cases D:cT Y e with
    |false=>rw[D]at h;cases h
    |true=>
     rw[D]at h;simp at h;have h:=dD h;have hm:=dD h.2;have G:=hm.2;split at G
     ·rename_i y C;cases G;rw[gO D]at B;refine wX (g:=λn=>.l' n) Τ Τ (λ_ _=>rfl) (λu f n p=> ?_) (λ_ _=>.inr (.inr ⟨id,m,cs,Τ,B,C,h.1,Rx hm.1⟩));have:=(ll C).1;simp[SC.v,p,Src.ad]
     ·cases G
   ·cases h
  ·cases h
 |y'=>
  intro self l x r ss h;simp only[Ty.rd]at h;split at h
  ·rename_i id E;split at h
   ·rename_i m y B;cases h;rw[gA]at B;have hm:=U id m x B;exact wX (g:=λn=>.l' n) Τ Τ (λ_ _=>rfl) (λu f n p=>by simp[SC.v,p,Src.ad]) (λ_ _=>⟨Τ,id,m,Τ,B⟩)
   ·cases h
  ·cases h
 |r' t I=>
  intro self l x r ss h;simp only[Ty.rd]at h;split at h
  ·cases h;exact wX (g:=λn=>.l' n) Τ Τ (λ_ _=>rfl) (λu f n p=>by simp[SC.v,p,Src.ad]) (λ_ _=>.inr (.inl ⟨Τ,Τ⟩))
  ·rename_i id E;split at h
   ·rename_i y C;cases h
    rw[gA]at C;have b5:fL H id=γ x:=by
     cases any with
     |true=>obtain⟨ob,p,G⟩:=Vj (λm x hx=>U id m x hx) (show Gd t H[id]? =θ x from C);rw[mV p,G]
     |false=>have p:=Ch (show V7 t H[id]? =θ x from C);rw[mV p];rfl
    exact wX (g:=λn=>.l' n) Τ Τ (λ_ _=>rfl) (λu f n p=>by simp[SC.v,p,Src.ad]) (λ_ _=>.inl ⟨id,Τ,C⟩)
   ·cases h
  ·rename_i id m E;cases any with
   |false=>cases h
   |true=>
    simp at h;split at h
    ·rename_i Y cs B;rw[gA]at B;split at h
     ·rename_i y C;cases h;refine wX (g:=λn=>.l' n) Τ Τ (λ_ _=>rfl) (λu f n p=> ?_) (λ_ _=>.inr (.inr ⟨Τ,id,m,Y,cs,Τ,B,C⟩));have:=(ll C).1;simp[SC.v,p,Src.ad]
     ·cases h
    ·cases h
  ·cases h
 |p' e t I=>
  intro self l x r ss h;simp only[Ty.rd]at h;split at h
  ·rename_i id off E;split at h
   ·rename_i Y cs B;rw[gA]at B;cases A:cT off 0 with
    |false=>rw[A]at h;cases h
    |true=>
     cases D:cT Y e with
     |false=>rw[A,D]at h;cases h
     |true=>
      rw[A,D]at h;simp at h;split at h
      ·rename_i y M C;cases h;rw[gO D]at B;have Q:=I id cs x [] M C;obtain⟨us,J,N⟩:=Q.kn;rw[gV]at J;subst J;refine⟨by rw[dT,Q.no];rfl,⟨[_],Τ,λc w=>by rw[aF.1 w];rfl⟩,λu f d n iL=> ?_⟩;have W:f n=u id:=iL.ad 0 _ Τ;have V:At t u id M f n (n+1):=⟨λ_=>by rw[W],λj s F=>by rw[Pm];exact iL.ad (j+1) s (by simpa using F)⟩;obtain⟨p,G⟩:=Q.to u f n (n+1) V;refine⟨?_,λj s o z S=> ?_⟩
       ·show(SC.p' id off).v u::_=[(SC.p' n 0).v f]++_;simp[SC.v,W,gO A]
       ·cases j with
        |zero=>cases z;have:Ob.bl e (t.lay n (n+1) x).1=o:=aP S;subst this;refine⟨id,cs,Τ,B,by simpa using p,N,λc w=>(Ty.Dd t n (n+1) x c w).1⟩
        |succ j=>exact G j s o (by simpa using z) (by simpa [Ty.lay] using S)
      ·cases h
   ·cases h
  ·cases h
 |z'=>
  intro self l x r ss h;simp only[Ty.rd]at h;split at h
  ·rename_i j E;cases F:cT j 0 with
   |false=>rw[F]at h;cases h
   |true=>
    rw[F]at h;cases h;refine⟨Τ,⟨[_],Τ,λc w=>by rw[aF.1 w];rfl⟩,λu f d n iL=>⟨?_,λi s o z A=> ?_⟩⟩
    ·have:=iL.ad 0 _ Τ;simp at this;simp[Ty.lay,SC.v,this,Src.ad,gO F,qx]
    ·cases i with
     |zero=>cases z;cases(aP A);exact⟨Τ,.inl ⟨_,Τ⟩⟩
     |succ i=>simp at z
  ·rename_i id off E;cases A:cT off 0 with
   |false=>rw[A]at h;cases h
   |true=>
    cases O:cT id self with
    |false=>rw[A,O]at h;cases h
    |true=>
     rw[A,O]at h;cases h;refine⟨Τ,⟨[_],Τ,λc w=>by rw[aF.1 w];rfl⟩,λu f d n iL=>⟨?_,λi s o z A=> ?_⟩⟩
     ·have:=iL.ad 0 _ Τ;simp at this;have K:=iL.sf Τ;rw[<-gO O]at K;simp[Ty.lay,SC.v,this,Src.ad,gO A,iM]
     ·cases i with
      |zero=>cases z;cases(aP A);exact⟨Τ,.inl ⟨_,Τ⟩⟩
      |succ i=>simp at z
  ·rename_i id fl E;cases O:cT id self with
   |false=>rw[O]at h;cases h
   |true=>
    rw[O]at h;simp at h;split at h
    ·rename_i T;cases h;rw[gA]at T;refine⟨Τ,⟨[_],Τ,λc w=>by rw[aF.1 w];rfl⟩,λu f d n iL=>⟨?_,λi s o z A=> ?_⟩⟩
     ·have:=iL.ad 0 _ Τ;simp at this;have K:=iL.sf Τ;rw[<-gO O]at K;simp[Ty.lay,SC.v,this,Src.ad,K]
     ·cases i with
      |zero=>cases z;cases(aP A);exact⟨Τ,.inr ⟨fl,Τ,T⟩⟩
      |succ i=>simp at z
    ·cases h
  ·cases h
 |o' j=>
  intro self l x r ss h;simp only[Ty.rd]at h;split at h
  ·rename_i j2 E;cases F:cT j j2 with
   |false=>rw[F]at h;cases h
   |true=>rw[F]at h;cases h;exact⟨Τ,⟨[_],Τ,λc w=>by rw[aF.1 w];rfl⟩,λu f d n iL=>⟨by simp[Ty.lay,SC.v,gO F],λi s o z A=>by simp at z⟩⟩
  ·cases h
 |f' k t I=>
  intro self l x r ss h;simp only[Ty.rd]at h;split at h
  ·rename_i k2 a5 E;cases hk:cT k k2 with
   |false=>rw[hk]at h;cases h
   |true=>
    cases R:t.Z3 with
    |false=>rw[hk,R]at h;cases h
    |true=>
     rw[hk,R]at h;split at h
     ·rename_i y M C;cases h;have Q:=I self _ x [] ss C;refine⟨Q.no,⟨[_],Τ,λc w=>by rw[aF.1 w];rfl⟩,λu f d n iL=> ?_⟩;obtain⟨p,G⟩:=Q.to u f d n ⟨iL.sf,iL.ad⟩;refine⟨?_,G⟩;have h3:=Z2 t d n x R;rw[h3,gE,gV,tP,tP]at p;have h4:(a5.map λid=>iM (u id).b 0)=(oH (t.lay d n x).1).map λid=>iM (f id).b 0:=p;simp[Ty.lay,SC.v,gO hk,h4]
     ·cases h
  ·cases h
open Nat renaming blt → iJ
theorem Hp.pick{w0 w:φ}{S:δ Nat}{L L2:δ cL}(M:δ (ε Nat))(h:Hp w0 S L w)
  (o:∀(j:Nat) r,L2[j]? =θ r->r.holds w/\∀b,r.own=θ b->∃i a,M[j]? =θ (θ i)/\L[i]? =θ a/\a.own=θ b)
  (D:∀j k i:Nat,M[j]? =θ (θ i)->M[k]? =θ (θ i)->j=k):Hp w0 S L2 w:=by
 refine⟨h.os,h.tape,h.output,h.size,h.below,λr A=> ?_,?_⟩
 ·obtain⟨j,m⟩:=jK.1 A;obtain⟨H,G⟩:=o j r m;refine⟨H,λb q=> ?_⟩;obtain⟨i,a,_,t,g⟩:=G b q;exact(h.res a (aL t)).2 b g
 ·refine dH.2 λj k m B C b q p=> ?_;obtain⟨i,a,F,t,g⟩:=(o j _ (aN m)).2 b q;obtain⟨f,z,u,s,e⟩:=(o k _ (aN B)).2 b p;obtain⟨d,y⟩:=aE.1 t;obtain⟨c,x⟩:=aE.1 s;have v:=dH.1 h.sep
  have:i=f:=by
   rcases Nat.lt_trichotomy i f with l|E|n
   ·exact absurd (by rw[x];exact e) (v i f d c l b (by rw[y];exact g))
   ·exact E
   ·exact absurd (by rw[y];exact g) (v f i c d n b (by rw[x];exact e))
  subst this;have:=D j k i F u;omega
theorem kR(S:St)(d t:Nat)(v:SV):(S.set d v).at t=if t=d then v else S.at t:=by
 unfold St.at St.set;by_cases h:t=d
 ·subst h;rw[Go.Ce.Tr.Av];simp
 ·rw[Go.Ce.Tr.Av,aA h,aA h]
theorem uQ(S:St)(d:ε Nat)(v:SV)(t:Nat):(S.wU d v).at t=if d=θ t then v else S.at t:=by
 cases d with
 |none=>simp[St.wU]
 |some d=>
  simp only[St.wU,kR,bH];by_cases h:t=d
  ·subst h;simp
  ·rw[aA h,aA (λe=>h e.symm)]
structure Rel (C:Cx) (w0:φ) (S0:List Nat) (ρ:Nat->Ad) (S:St) (F:Nat->ς) (w:φ):Prop where
 gl:∀g id,C.G g=θ id->id<γ S.H/\(ρ id).a=θ ⟨g,0,ι⟩
 fr:∀(t:Nat) (v:ς),(S.at t).v ρ=θ v->F t=v
 fo:∀t,(S.at t).ok (γ S.H)
 ho:∀(id e:Nat) (cs:List SC),S.H[id]? =θ (.bl e cs)->∀c∈cs,c.ok (γ S.H)
 mem:∃L,Hp w0 S0 L w/\Mt w0 S0 ρ S.H L
def kT(f:δ Rg)(id:Nat)(ρ g:Nat->Ad)(d:ε Ob):Ob->Prop
 |.bl e cs=>(∀j,j<=γ cs->eM id j f=μ)\/∃a,d=θ (.bl e a)/\γ a=γ cs/\∀j c,cs[j]? =θ c->eM id j f=μ\/∃h,a[j]? =θ h/\(c.kn=μ->h.kn=μ/\h.v g=c.v ρ)
 |.rw e b t l=>eM id 0 f=μ\/d=θ (.rw e b t l)
 |.br m l=>eM id 0 f=μ\/d=θ (.br m l)
 |.ro t l=>d=θ (.ro t l)
 |.dd n=>d=θ (.dd n)
structure Le (nb:Nat) (al:List Rg) (ρ:Nat->Ad) (H:List Ob) (cS:Nat->Ad) (H2:List Ob):Prop where
 len:γ H<=γ H2
 up:Up (γ H) ρ cS
 kp:∀(id:Nat) (o:Ob),id<nb->H[id]? =θ o->kT al id ρ cS H2[id]? o
variable{k:δ Rg}
theorem kT.refl:kT k n a a (θ e) e:=by
 cases e with
 |bl d cs=>exact .inr ⟨cs,Τ,Τ,λj c h=>.inr ⟨c,h,λρ=>⟨ρ,Τ⟩⟩⟩
 |rw d b t l=>exact .inr Τ
 |br m l=>exact .inr Τ
 |ro t l=>exact Τ
 |dd o=>exact Τ
theorem Le.refl{a:Nat}{b:δ Rg}{ρ:Nat->Ad}{H:δ Ob}:Le a b ρ H ρ H:=⟨dC _,Up.refl,λid o _ h=>by rw[h];exact kT.refl⟩
theorem kT.mono{ρ:δ Rg}{id:Nat}(h:kT k id a d o e)(f:∀j,eM id j k=μ->eM id j ρ=μ):kT ρ id a d o e:=by
 cases e with
 |bl i cs=>
  rcases h with h|⟨g,u,s,r⟩
  ·exact .inl λj p=>f j (h j p)
  ·exact .inr ⟨g,u,s,λj c q=>(r j c q).imp (f j) λh=>h⟩
 |rw i b t l=>exact h.imp (f 0) λh=>h
 |br m l=>exact h.imp (f 0) λh=>h
 |ro t l=>exact h
 |dd n=>exact h
theorem Le.mono{d a:Nat}{e c:δ Rg}{ρ b:Nat->Ad}{H H2:δ Ob}(h:Le d e ρ H b H2)(k:a<=d)(g:∀id j,id<a->eM id j e=μ->eM id j c=μ):Le a c ρ H b H2:=
 ⟨h.len,h.up,λid o i f=>(h.kp id o aA0 f).mono λj=>g id j i⟩
theorem Le.trans{r:Nat}{w:δ Rg}{ρ k ρ3:Nat->Ad}{H H2 x:δ Ob}(h:Le r w ρ H k H2)(g:Le r w k H2 ρ3 x):Le r w ρ H ρ3 x:=by
 refine⟨jZ h.len g.len,h.up.trans g.up h.len,λid o i y=> ?_⟩;have f:=h.kp id o i y;cases o with
 |bl e cs=>
  rcases f with f|⟨E,p,K,D⟩
  ·exact .inl f
  ·rcases g.kp id _ i p with C|⟨v,B,J,A⟩
   ·exact .inl λj I=>C j aA0
   ·refine .inr ⟨v,B,aA0,λj c z=> ?_⟩;rcases D j c z with u|⟨G,u,d⟩
    ·exact .inl u
    ·rcases A j G u with a|⟨F,a,q⟩
     ·exact .inl a
     ·exact .inr ⟨F,a,λs=>⟨(q (d s).1).1,((q (d s).1).2).trans (d s).2⟩⟩
 |rw e b t l=>exact f.elim .inl λp=>g.kp id _ i p
 |br m l=>exact f.elim .inl λp=>g.kp id _ i p
 |ro t l=>exact g.kp id _ i f
 |dd n=>exact g.kp id _ i f
theorem Od{id a:Nat}{c:δ Rg}:∀{n:Nat},gx id a c n=μ->∀j,a<=j->j<a+n->eM id j c=μ
 |0,_,j,b,e=>by omega
 |n+1,h,j,b,e=>by
  have h:=gY h;by_cases d:j=a+n
  ·subst d;exact h.1
  ·exact Od h.2 j b aA0
theorem ok_cov{S:St}{q:Rg}(h:S.ok q=μ)(a:q.1<S.nb)(j:Nat)(c:q.2.1<=j)(d:j<q.2.2):eM q.1 j S.al=μ:=by
 unfold St.ok at h;have b:iJ q.1 S.nb=μ:=by simpa [oZ] using a
 rw[b]at h;exact Od h j c aA0
theorem OF{S:St}:∀{l:δ Rg},S.Fp l=μ->∀q∈l,S.ok q=μ
 |[],_,q,h=>by cases h
 |x::l,h,q,a=>by
  have h:=gY h;rcases aQ.1 a with rfl|a
  ·exact h.1
  ·exact OF h.2 q a
open UInt8 renaming ofNat → Fc
variable{v:ς}
theorem gq(h:cvC v=θ c):c.ids=[]/\c.kn=μ/\∀ρ,c.v ρ=v:=by
 unfold cvC at h;split at h
 ·cases h;exact⟨Τ,Τ,λ_=>rfl⟩
 ·rename_i k n;cases a:JQ k .u8 with
  |true=>
   rw[a]at h;split at h
   ·rename_i b;cases h;refine⟨Τ,Τ,λ_=> ?_⟩;rw[lT a];have:((Fc n.toNat).toNat)=n:=by rw[iP];omega
    show bt _=_;unfold bt;rw[this]
   ·cases h
  |false=>rw[a]at h;cases h;exact⟨Τ,Τ,λ_=>rfl⟩
 ·cases h;refine⟨Τ,Τ,λ_=> ?_⟩;congr 1
 ·cases h;exact⟨Τ,Τ,λ_=>rfl⟩
 ·cases h;exact⟨Τ,Τ,λ_=>rfl⟩
 ·cases h;exact⟨Τ,Τ,λ_=>rfl⟩
 ·cases h;exact⟨Τ,Τ,λ_=>rfl⟩
 ·cases h
theorem KP:∀{l:δ ς}{cs:δ SC},cvL l=θ cs->(∀c∈cs,c.ids=[]/\c.kn=μ)/\∀ρ,cs.map (SC.v ρ)=l
 |[],cs,h=>by cases h;exact⟨λc h=>absurd h aA2,λ_=>rfl⟩
 |v::l,cs,h=>by
  simp only[cvL]at h;split at h
  ·rename_i x hx;split at h
   ·rename_i q a;cases h;obtain⟨j,i,g⟩:=gq hx;obtain⟨f,d⟩:=KP a;exact⟨λc b=>(aQ.1 b).elim (λe=>e▸⟨j,i⟩) (f c),λρ=>by rw[qO,g,d]⟩
   ·cases h
  ·cases h
theorem zj{u:ς}(n:Nat):(cv v).ok n/\∀ρ,(cv v).v ρ=θ u->u=v:=by
 unfold cv;split
 ·rename_i cs;split
  ·rename_i l e;obtain⟨b,d⟩:=KP e;refine⟨λc f=>λid a=>(by rw[(b c f).1]at a;cases a),λρ h=> ?_⟩;simp only[SV.v,d]at h;cases h;rfl
  ·exact⟨trivial,λρ h=>by cases h⟩
 ·split
  ·rename_i x hx;obtain⟨b,d,g⟩:=gq hx;refine⟨λid a=>(by rw[b]at a;cases a),λρ h=> ?_⟩;simp only[SV.v,g]at h;cases h;rfl
  ·exact⟨trivial,λρ h=>by cases h⟩
section
variable{C:Cx}{md:Md}{w0 w:φ}{S0:δ Nat}{ρ:Nat->Ad}{S:St}{F:Nat->ς}
theorem Rl(h:Rel C w0 S0 ρ S F w)(c:C.nn=md.n)(x:Β):(S.ev C x).ok (γ S.H)/\∀u,(S.ev C x).v ρ=θ u->aU md F x=u:=by
 cases x with
 |tmp t=>
  simp only[St.ev,aU,c];cases f:iJ t md.n with
  |true=>exact⟨h.fo t,λu a=>h.fr t u a⟩
  |false=>exact⟨trivial,λu a=>by cases a⟩
 |const v=>exact⟨(zj (u:=v) _).1,λu a=>((zj 0).2 _ a).symm⟩
 |global g=>
  simp only[St.ev];cases d:C.G g with
  |none=>exact⟨trivial,λu a=>by cases a⟩
  |some id=>obtain⟨j,e⟩:=h.gl g id d;refine⟨λi b=>(by have:i=id:=aF.1 b;omega),λu a=> ?_⟩;simp only[SV.v,SC.v,e]at a;cases a;simp[aU,ea,Addr.add]
 |func k=>exact⟨λi b=>(by cases b),λu a=>(by cases a;rfl)⟩
variable{x:Β}{f:SC}
theorem nQ(h:Rel C w0 S0 ρ S F w)(d:C.nn=md.n)(e:S.ev C x=.c' f):f.ok (γ S.H)/\aU md F x=f.v ρ:=by obtain⟨b,a⟩:=Rl h d x;rw[e]at b a;exact⟨b,a _ Τ⟩
def vB(C:Cx)(md:Md)(ρ:Nat->Ad)(S:St)(F:Nat->ς)(w:φ)(op:Op)(v:SV):Prop:=
 v.ok (γ S.H)/\∃u,v.v ρ=θ u/\∀(d:Nat) a pos Ψ,(χ (aU md F) (⟨θ d,op,a,pos,Ψ,ι⟩)).run C.P w=.ok (.value u) w
def Hx:δ PD->Prop
 |[]=>True
 |q::l=>q.p/\Hx l
theorem eW{op:Op}{u:ς}(b:f.ids=[])(e:u=f.v ρ)(h:∀(d:Nat) (ty:Ε) (pos:String) (Ψ:Array Edge),(χ (aU md F) (⟨θ d,op,ty,pos,Ψ,ι⟩:Ι)).run C.P w=.ok (.value u) w):vB C md ρ S F w op (.c' f):=
 ⟨λid a=>(by rw[b]at a;cases a),u,by rw[e];rfl,h⟩
variable{r:SV}
theorem lC{a:Type}{f:SC->ε a}{x:a}(h:gH r f=θ x):∃c,r=.c' c/\f c=θ x:=by
 cases r with
 |c' c=>exact⟨c,Τ,h⟩
 |_=>cases h
variable{k:Δ}
theorem Ec(h:i64 k=μ):k=.i64:=lT h
variable{b:BinOp}{t a:Ε}{y:Β}{v:Int}{g:δ PD}
theorem bI_ok{i:Int}(hx:aU md F x=.int k v)(c:aU md F y=.int k i)(h:bI b k v i=θ (g,r))(f:Hx g):vB C md ρ S F w (.binOp b t x y a) r:=by
 cases b<;>simp only[bI,hC,Ns,reduceCtorEq,bH,cO]at h
 case lss=>obtain⟨-,rfl⟩:=h;exact eW Τ Τ λd e pos Ψ=>YH k v i hx c
 case leq=>obtain⟨-,rfl⟩:=h;exact eW Τ Τ λd e pos Ψ=>YI k v i hx c
 case gtr=>obtain⟨-,rfl⟩:=h;exact eW Τ Τ λd e pos Ψ=>MJ k v i hx c
 case geq=>obtain⟨-,rfl⟩:=h;exact eW Τ Τ λd e pos Ψ=>YK k v i hx c
 case eql=>obtain⟨-,rfl⟩:=h;exact eW Τ Τ λd e pos Ψ=>MK k v i hx c
 case neq=>obtain⟨-,rfl⟩:=h;exact eW Τ Τ λd e pos Ψ=>YG k v i hx c
 case and=>obtain⟨-,rfl⟩:=h;exact eW Τ Τ λd e pos Ψ=>AS k v i hx c
 case or=>obtain⟨-,rfl⟩:=h;exact eW Τ Τ λd e pos Ψ=>QY k v i hx c
 case xor=>obtain⟨-,rfl⟩:=h;exact eW Τ Τ λd e pos Ψ=>xl k v i hx c
 case add=>
  cases u:i64 k with
  |true=>rw[u]at h;obtain rfl:=Ec u;simp only[aO,bH,cO]at h;obtain⟨rfl,rfl⟩:=h;exact eW Τ Τ λd e pos Ψ=>lH v i hx c ⟨f.1.lo,f.1.hi⟩
  |false=>rw[u]at h;simp only[aJ,bH,cO]at h;obtain⟨-,rfl⟩:=h;exact eW Τ Τ λd e pos Ψ=>vK k v i hx c
 case sub=>
  cases u:i64 k with
  |true=>rw[u]at h;obtain rfl:=Ec u;simp only[aO,bH,cO]at h;obtain⟨rfl,rfl⟩:=h;exact eW Τ Τ λd e pos Ψ=>lj v i hx c ⟨f.1.lo,f.1.hi⟩
  |false=>rw[u]at h;simp only[aJ,bH,cO]at h;obtain⟨-,rfl⟩:=h;exact eW Τ Τ λd e pos Ψ=>LY k v i hx c
 case mul=>
  cases u:i64 k with
  |true=>rw[u]at h;obtain rfl:=Ec u;simp only[aO,bH,cO]at h;obtain⟨rfl,rfl⟩:=h;exact eW Τ Τ λd e pos Ψ=>tV v i hx c ⟨f.1.lo,f.1.hi⟩
  |false=>rw[u]at h;simp only[aJ,bH,cO]at h;obtain⟨-,rfl⟩:=h;exact eW Τ Τ λd e pos Ψ=>MG k v i hx c
 case quo=>
  cases u:i64 k with
  |true=>rw[u]at h;obtain rfl:=Ec u;simp only[aO,bH,cO]at h;obtain⟨rfl,rfl⟩:=h;exact eW Τ Τ λd e pos Ψ=>YE v i hx c f.1
  |false=>rw[u]at h;cases h
 case rem=>
  cases u:i64 k with
  |true=>rw[u]at h;obtain rfl:=Ec u;simp only[aO,bH,cO]at h;obtain⟨rfl,rfl⟩:=h;exact eW Τ Τ λd e pos Ψ=>YC v i hx c f.1
  |false=>rw[u]at h;cases h
variable{n:Md}{P:Θ}{e:Nat}{d:String}{c:Array Edge}
theorem x8_quo{t':Ε}(o b:ζ)(hx:aU n F x=bt o)(m:aU n F y=bt b)(h:b≠0):(χ (aU n F) (⟨θ e,.binOp .quo a x y t',t,d,c,ι⟩)).run P w=.ok (.value (bt (o/b))) w:=by
 have j:=Pl λl=>h (jB.1 l);have f:=fH (o/b);have i:=UInt8.toNat_div o b;have g:o.toNat/b.toNat=((o/b).toNat:Int):=by rw[i];rfl
 rw[xo .u8 _ b.toNat hx m aA0 aA0 (by rw[g,IntKind.wrap_u8];omega)];rfl
theorem x8_rem{t':Ε}(o b:ζ)(hx:aU n F x=bt o)(m:aU n F y=bt b)(h:b≠0):(χ (aU n F) (⟨θ e,.binOp .rem a x y t',t,d,c,ι⟩)).run P w=.ok (.value (bt (o%b))) w:=by
 have j:=Pl λl=>h (jB.1 l);have f:=fH (o%b);have i:=UInt8.toNat_mod o b;have g:o.toNat%b.toNat=((o%b).toNat:Int):=by rw[i];rfl
 rw[YD .u8 _ b.toNat hx m aA0 aA0 (by rw[g,IntKind.wrap_u8];omega)];rfl
variable{u:ζ}
theorem bC_ok{v:ζ}(hx:aU md F x=bt u)(i:aU md F y=bt v)(h:bC b u v=θ (g,r))(e:Hx g):vB C md ρ S F w (.binOp b t x y a) r:=by
 cases b<;>simp only[bC,hC,Ns,reduceCtorEq,bH,cO]at h<;>obtain⟨rfl,rfl⟩:=h
 case lss=>exact eW rfl rfl λd c pos Ψ=>x8_lss u v hx i
 case leq=>exact eW rfl rfl λd c pos Ψ=>YS u v hx i
 case gtr=>exact eW rfl rfl λd c pos Ψ=>x8_gtr u v hx i
 case geq=>exact eW rfl rfl λd c pos Ψ=>YT u v hx i
 case eql=>exact eW rfl rfl λd c pos Ψ=>YU u v hx i
 case neq=>exact eW rfl rfl λd c pos Ψ=>YQ u v hx i
 case add=>exact eW rfl rfl λd c pos Ψ=>x8_add u v hx i
 case sub=>exact eW rfl rfl λd c pos Ψ=>YO u v hx i
 case mul=>exact eW rfl rfl λd c pos Ψ=>x8_mul u v hx i
 case quo=>exact eW rfl rfl λd c pos Ψ=>x8_quo u v hx i e.1
 case rem=>exact eW rfl rfl λd c pos Ψ=>x8_rem u v hx i e.1
 case and=>exact eW rfl rfl λd c pos Ψ=>YV u v hx i
 case or=>exact eW rfl rfl λd c pos Ψ=>x8_or u v hx i
theorem bS_ok{u v:aC}(hx:aU md F x=str u)(i:aU md F y=str v)(h:bS b u v=θ (g,r))(e:Hx g):vB C md ρ S F w (.binOp b t x y a) r:=by
 cases b<;>simp only[bS,hC,Ns,reduceCtorEq,bH,cO]at h<;>obtain⟨rfl,rfl⟩:=h
 case lss=>exact eW rfl rfl λd c pos Ψ=>MA u v hx i
 case gtr=>exact eW rfl rfl λd c pos Ψ=>MB u v hx i
 case eql=>exact eW rfl rfl λd c pos Ψ=>MC u v hx i
 case neq=>exact eW rfl rfl λd c pos Ψ=>LZ u v hx i
 case add=>exact eW rfl rfl λd c pos Ψ=>YB u v hx i e.1
variable{z:η}
theorem bB_ok{v:η}(c:C.P.underlying t=θ .bool)(hx:aU md F x=.bool z)(u:aU md F y=.bool v)(h:bB b z v=θ (g,r)):vB C md ρ S F w (.binOp b t x y a) r:=by
 cases b<;>simp only[bB]at h<;>obtain⟨rfl,rfl⟩:=h
 case eql=>exact eW rfl rfl λd e pos Ψ=>x_eqb z v c hx u
 case neq=>exact eW rfl rfl λd e pos Ψ=>x_neb z v c hx u
theorem sh8_ok(hx:aU md F x=bt u)(i:aU md F y=.int k v)(e:z=μ->0<=v)(h:sh8 z b u v=θ (g,r))(f:Hx g):vB C md ρ S F w (.binOp b t x y a) r:=by
 cases b<;>simp only[sh8,hC,Ns,reduceCtorEq]at h
 case shl=>
  cases z with
  |true=>cases h;exact eW Τ Τ λd c pos Ψ=>YP k u v hx i (e Τ)
  |false=>cases h;exact eW Τ Τ λd c pos Ψ=>YP k u v hx i f.1
 case shr=>
  cases z with
  |true=>cases h;exact eW Τ Τ λd c pos Ψ=>HR k u v hx i (e Τ)
  |false=>cases h;exact eW Τ Τ λd c pos Ψ=>HR k u v hx i f.1
theorem sx(a:aU md F x=.int k v)(h:sy x=μ):0<=v:=by
 unfold sy at h;split at h
 ·rename_i k' n;have:π k' _=.int k v:=a;cases this;exact Pr n
 ·cases h
end
open Go.Wk
open Go.Ce (Tr)
open Nat renaming beq → cT, blt → iJ, succ → qN
theorem beqN(a b:Nat):cT a b=decide (a=b):=by
 by_cases h:a=b
 ·subst h;simp
 ·cases c:cT a b with
  |true=>exact absurd (gO c) h
  |false=>simp[h]
theorem bleN(a b:Nat):Nat.ble a b=decide (a<=b):=by
 by_cases h:a<=b
 ·simp[h]
 ·cases c:Nat.ble a b with
  |true=>exact absurd (Rx c) h
  |false=>simp[h]
theorem bltN(a b:Nat):iJ a b=decide (a<b):=by unfold iJ;rw[bleN];rfl
theorem wE{id j:Nat}:∀{l:δ Rg},eM id j l=μ↔∃q∈l,q.1=id/\q.2.1<=j/\j<q.2.2
 |[]=>by simp[eM]
 |q::l=>by have a:=wE (id:=id) (j:=j) (l:=l);simp only[eM,aQ,exists_eq_or_imp];rw[<-a];by_cases c:q.1=id<;>by_cases b:q.2.1<=j<;>by_cases d:j<q.2.2<;>simp[c,b]
variable{k j:Nat}{a:δ Rg}
theorem Ge{b:δ Rg}:eM k j (a++b)=μ↔eM k j a=μ\/eM k j b=μ:=by
 simp only[wE,aZ];constructor
 ·rintro⟨q,h|h,c⟩
  ·exact .inl ⟨q,h,c⟩
  ·exact .inr ⟨q,h,c⟩
 ·rintro(⟨q,h,c⟩|⟨q,h,c⟩)
  ·exact⟨q,.inl h,c⟩
  ·exact⟨q,.inr h,c⟩
theorem Vl{t:Nat}:∀{l:δ Nat},lB t l=μ↔t∈l
 |[]=>by simp[lB]
 |x::l=>by simp only[lB,aQ];rw[<-Vl];by_cases h:t=x<;>simp
theorem sN:∀{l r:δ Nat},FQ l r=μ↔∀x∈l,x∉r
 |[],r=>by simp[FQ]
 |x::l,r=>by have a:=sN (l:=l) (r:=r);have b:=Vl (t:=x) (l:=r);simp only[FQ,aQ,forall_eq_or_imp];rw[<-a,<-b];cases lB x r<;>simp
theorem mU:∀{l:δ Nat},Qp l=μ↔l.Nodup
 |[]=>by simp[Qp]
 |x::l=>by have a:=mU (l:=l);have b:=Vl (t:=x) (l:=l);simp only[Qp,List.nodup_cons];rw[<-a,<-b];cases lB x l<;>simp
variable{n:Nat}
theorem uv(h:gx k j a n=μ){b:Nat}(d:j<=b)(c:b<j+n):eM k b a=μ:=Od h b d c
theorem Wo{n:Nat}{f:δ Rg}:∀{m:δ Rg},IC n f m=μ->∀{id j:Nat},id<n->eM id j m=μ->eM id j f=μ
 |[],_,id,j,_,b=>by simp[eM]at b
 |q::m,h,id,j,hid,b=>by
  have h:=gY h;obtain⟨r,a,e,d,g⟩:=wE.1 b;rcases aQ.1 a with rfl|a
  ·have c:=h.1;rw[e,bltN]at c;simp only[hid]at c;exact uv c d aA0
  ·exact Wo h.2 hid (wE.2 ⟨r,a,e,d,g⟩)
theorem zS{S:St}(h:S.Fp a=μ)(hid:k<S.nb)(b:eM k j a=μ):eM k j S.al=μ:=by obtain⟨q,l,e,d,c⟩:=wE.1 b;subst e;exact ok_cov (OF h q l) hid j d c
theorem bfr{H:δ Ob}:∀{l:δ Nat}{id:Nat},id∈l->wM H id∈Vh H l
 |x::l,id,h=>by
  rcases aQ.1 h with rfl|h
  ·exact iK
  ·exact gN _ (bfr h)
theorem Sa{H:δ Ob}:∀{l:δ Nat}{q:Rg},q∈Vh H l->∃id∈l,q=wM H id
 |x::l,q,h=>by
  rcases aQ.1 (h)with rfl|h
  ·exact⟨x,iK,Τ⟩
  ·obtain⟨id,b,a⟩:=Sa h;exact⟨id,gN _ b,a⟩
variable{H:δ Ob}{l:δ Nat}
theorem Jm{cs:δ SC}(h:H[k]? =θ (.bl j cs))(a:k∈l)(b:n<=γ cs):eM k n (Vh H l)=μ:=by refine wE.2 ⟨_,bfr a,Τ,eJ _,?_⟩;unfold wM;rw[gA,h];show n<qN (γ cs);omega
theorem azk(a:k∈l):eM k 0 (Vh H l)=μ:=by
 refine wE.2 ⟨_,bfr a,Τ,eJ _,?_⟩;unfold wM;split
 ·rename_i h;simp_all
 ·simp
variable{b:Type}{d:δ b}{y:b}
theorem xU:(jA d k y)[j]? =if j=k/\k<γ d then θ y else d[j]? :=by
 rw[oL,dK];by_cases h:k=j
 ·subst h;by_cases a:k<γ d
  ·simp[a]
  ·simp[a]
 ·rw[aA h,aA aA0]
theorem LA:γ (jA d k y)=γ d:=by rw[oL,bD]
theorem bhp:∀{l:δ Nat}{H:δ Ob},γ (kill H l)=γ H
 |[],_=>rfl
 |x::l,H=>by show(kill _ l).length=_;rw[bhp,LA]
theorem QM{id:Nat}:∀{l:δ Nat}{H:δ Ob},(kill H l)[id]? =if id∈l then(H[id]?).map (λo=>.dd o.len)else H[id]?
 |[],H=>by simp[kill]
 |x::l,H=>by
  show(kill _ l)[id]? =_;rw[QM,xU];by_cases h:id=x
  ·subst h;by_cases a:id<γ H
   ·have e:=aN a;simp[a,XH,Ob.len]
   ·have e:H[id]? =ι:=bG aA0;simp[a]
  ·simp[h]
theorem Wl:∀{l:δ SC}{a n j:Nat},(RM l a n)[j]? =if a<=j/\j<a+n then(l[j]?).map (λ_=>SC.u')else l[j]?
 |[],a,n,j=>by cases a<;>cases n<;>simp[RM]
 |x::l,a+1,n,j=>by
  simp only[RM];cases j with
  |zero=>simp
  |succ j=>
   rw[iB,iB,Wl];by_cases h:a<=j/\j<a+n
   ·rw[aB h,aB aA0]
   ·rw[aA h,aA aA0]
 |x::l,0,0,j=>by simp[RM]
 |x::l,0,n+1,j=>by
  simp only[RM];cases j with
  |zero=>simp
  |succ j=>
   rw[iB,iB,Wl];by_cases h:j<n
   ·rw[aB aA0,aB aA0]
   ·rw[aA aA0,aA aA0]
theorem Wj:∀{l:δ SC}{a n:Nat},γ (RM l a n)=γ l
 |[],a,n=>by cases a<;>cases n<;>rfl
 |x::l,a+1,n=>by simp[RM,Wj]
 |x::l,0,0=>rfl
 |x::l,0,n+1=>by simp[RM,Wj]
def Fgt(rs:δ Rg)(id:Nat)(o b:Ob):Prop:=match o with
 |.bl e cs=>∃a,b=.bl e a/\γ a=γ cs/\∀j,a[j]? =if eM id j rs=μ then(cs[j]?).map (λ_=>SC.u')else cs[j]?
 |o=>(b=o/\∀q∈rs,q.1≠id)\/(b=.dd o.len/\∃q∈rs,q.1=id)
theorem bgl:∀{rs:δ Rg}{H:δ Ob},γ (Vg H rs)=γ H
 |[],_=>rfl
 |q::rs,H=>by simp only[Vg];split<;>rw[bgl,LA]
theorem eV{id:Nat}:∀{rs:δ Rg}{H:δ Ob}{o:Ob},H[id]? =θ o->∃b,(Vg H rs)[id]? =θ b/\Fgt rs id o b
 |[],H,o,h=>by refine⟨o,h,?_⟩;cases o<;>simp[Fgt,eM]
 |q::rs,H,o,h=>by
  have g:=(aE.1 h).1;simp only[Vg];by_cases m:q.1=id
  ·subst m;rw[gA,h];cases o with
   |bl e cs=>
    obtain⟨b,k,d,rfl,c,i⟩:=eV (id:=q.1) (rs:=rs) (H:=jA H q.1 (.bl e (RM cs q.2.1 (q.2.2-q.2.1)))) (o:=.bl e (RM cs q.2.1 (q.2.2-q.2.1))) (by rw[xU];simp[g]);refine⟨_,k,d,Τ,by rw[c,Wj],λj=> ?_⟩
    rw[i,Wl];have p:eM q.1 j (q::rs)=μ↔(q.2.1<=j/\j<q.2.1+(q.2.2-q.2.1))\/eM q.1 j rs=μ:=by
     rw[show q::rs=[q]++rs from Τ,Ge,wE];simp;constructor
     ·rintro(h|h)
      ·exact .inl aA0
      ·exact .inr h
     ·rintro(h|h)
      ·exact .inl aA0
      ·exact .inr h
    by_cases f:eM q.1 j rs=μ
    ·rw[aB f,aB (p.2 (.inr f))];split<;>simp[Function.comp_def]
    ·rw[aA f];by_cases n:q.2.1<=j/\j<q.2.1+(q.2.2-q.2.1)
     ·rw[aB n,aB (p.2 (.inl n))]
     ·rw[aA n,aA (λh=>(p.1 h).elim n f)]
   |_=>
    obtain⟨b,k,a⟩:=eV (id:=q.1) (rs:=rs) (H:=jA H q.1 (.dd (fL H q.1))) (o:=.dd (fL H q.1)) (by rw[xU];simp[g]);refine⟨b,k,.inr ⟨?_,q,iK,Τ⟩⟩
    have e:b=.dd (fL H q.1):=by
     rcases a with⟨a,_⟩|⟨a,_⟩
     ·exact a
     ·exact a
    rw[e,mV h]
  ·have key:∀y,(jA H q.1 y)[id]? =θ o:=λy=>by rw[xU,aA (λt=>m t.1.symm)];exact h
   have l:∀y,∃b,(Vg (jA H q.1 y) rs)[id]? =θ b/\Fgt (q::rs) id o b:=by
    intro y;obtain⟨b,k,a⟩:=eV (key y);refine⟨b,k,?_⟩;cases o with
    |bl e cs=>
     obtain⟨d,c,i,f⟩:=a;refine⟨d,c,i,λj=> ?_⟩;rw[f]
     have:eM id j (q::rs)=eM id j rs:=by
      have u:cT q.1 id=ν:=by rw[beqN];simp[m]
      simp[eM,u]
     rw[this]
    |_=>
     rcases a with⟨a,c⟩|⟨a,r,c,i⟩
     ·exact .inl ⟨a,λr s=>(aQ.1 s).elim (λe=>e▸m) (c r)⟩
     ·exact .inr ⟨a,r,gN _ c,i⟩
   split
   ·exact l _
   ·exact l _
theorem Fw(h:H[k]? =ι):(Vg H a)[k]? =ι:=by rw[List.getElem?_eq_none_iff]at h⊢;rw[bgl];exact h
noncomputable def Re(F:Tr SV)(t:Nat):SV:=match F.get t with
 |some v=>v
 |none=>.u'
theorem St.at_eq(S:St)(t:Nat):S.at t=Re S.F t:=rfl
theorem It(F:Tr SV)(d t:Nat)(v:SV):Re (F.set d v) t=if t=d then v else Re F t:=by
 unfold Re;by_cases h:t=d
 ·subst h;rw[Go.Ce.Tr.Av];simp
 ·rw[Go.Ce.Tr.Av,aA h,aA h]
theorem Yz{t:Nat}:∀{w:δ Nat}{F:Tr SV},Re (del F w) t=if t∈w then .u' else Re F t
 |[],F=>by simp[del]
 |x::w,F=>by
  show Re (del _ w) t=_;rw[Yz,It];by_cases h:t=x
  ·subst h;simp
  ·simp[h]
theorem vi:∀(t:Ty) (s n) x (j e:Nat) cs,(t.lay s n x).2[j]? =θ (.bl e cs)->∀c∈cs,c.ok (n+γ (t.lay s n x).2):=by
 intro t;induction t with
 |w' t d=>intro s n x;exact d s n x
 |pr a b l i=>
  intro s n x j e cs h;have h:((a.lay s n x.1).2++(b.lay s _ x.2).2)[j]? =θ _:=h;have o:γ ((Ty.pr a b).lay s n x).2=γ (a.lay s n x.1).2+γ (b.lay s (n+a.no) x.2).2:=by show((a.lay s n x.1).2++(b.lay s (n+a.no) x.2).2).length=_;rw[cR]
  have m:=a.eD s n x.1;intro c f;by_cases p:j<γ (a.lay s n x.1).2
  ·rw[aI p]at h;exact SC.cQ (l _ _ _ _ _ _ h c f) aA0
  ·rw[aM aA0]at h;exact SC.cQ (i _ _ _ _ _ _ h c f) aA0
 |p' e t d=>
  intro s n x j g cs h;have o:γ ((Ty.p' e t).lay s n x).2=γ (t.lay n (n+1) x).2+1:=by show(_::_:δ Ob).length=_;rw[dT]
  intro c f;cases j with
  |zero=>cases h;intro id q;rcases(Ty.Dd t n _ x c f).2 id q with h|h<;>omega
  |succ j=>exact SC.cQ (d _ _ _ _ _ _ h c f) aA0
 |f' k t d=>intro s n x;exact d s n x
 |l' e b t d=>
  intro s n x j g cs h;cases j with
  |zero=>cases aP h
  |succ j=>simp[Ty.lay]at h
 |y'=>
  intro s n x j g cs h;cases j with
  |zero=>cases aP h
  |succ j=>simp[Ty.lay]at h
 |r' t d=>
  intro s n x j g cs h;cases j with
  |zero=>cases aP h
  |succ j=>simp[Ty.lay]at h
 |z'=>
  intro s n x j g cs h;cases j with
  |zero=>cases aP h
  |succ j=>simp[Ty.lay]at h
 |_=>intro s n x j g cs h;simp[Ty.lay]at h
theorem bfw:∀(t:Ty) (s n) x,t.tz=ν->∀c∈(t.lay s n x).1,c.ok (n+γ (t.lay s n x).2):=by
 intro t;induction t with
 |w' t g=>intro s n x h;exact g s n x h
 |pr a b l j=>
  intro s n x h c d;have i:a.tz=ν:=by
   cases i:a.tz with
   |true=>simp[Ty.tz,i]at h
   |false=>rfl
  have o:b.tz=ν:=by simpa [Ty.tz,i] using h
  have u:γ ((Ty.pr a b).lay s n x).2=γ (a.lay s n x.1).2+γ (b.lay s (n+a.no) x.2).2:=by show((a.lay s n x.1).2++(b.lay s _ x.2).2).length=_;rw[cR]
  have m:=a.eD s n x.1;rcases aZ.1 (d)with d|d
  ·exact SC.cQ (l _ _ _ i c d) aA0
  ·exact SC.cQ (j _ _ _ o c d) aA0
 |f' k t g=>intro s n x h c d;have:c=_:=aF.1 d;subst this;intro id f;obtain⟨r,q,p⟩:=zT (f);exact g s n x h r q id p
 |z'=>intro s n x h;cases h
 |u'=>intro s n x h c d;cases d
 |sm a b _ _=>intro s n x h c d;cases d
 |p' e t g=>intro s n x h c d;have:c=_:=aF.1 d;subst this;intro id f;have:id=n:=aF.1 f;subst this;show id<id+γ (_::_:δ Ob);simp
 |l' e b t g=>intro s n x h c d;have:c=_:=aF.1 d;subst this;intro id f;have:id=n:=aF.1 f;subst this;exact Rw _
 |r' t g=>intro s n x h c d;have:c=_:=aF.1 d;subst this;intro id f;have:id=n:=aF.1 f;subst this;exact Rw _
 |y'=>intro s n x h c d;have:c=_:=aF.1 d;subst this;intro id f;have:id=n:=aF.1 f;subst this;exact Rw _
 |_=>intro s n x h c d;have:c=_:=aF.1 d;subst this;intro id f;cases f
open Go.Value renaming agg → eU
open Nat renaming beq → cT
def LM(ρ:Nat->Ad)(H:δ Ob):Prop:=∀id o,H[id]? =θ o->o.len=(ρ id).ln
theorem NB{ρ cS:Nat->Ad}(c:LM ρ H)(g:LN H){s:Src}{o:Ob}(h:WS ν ρ H cS s o):o.len=(s.ad ρ).ln:=by
 cases o with
 |bl e cs=>obtain⟨id,f,rfl,a,_⟩:=h;exact(c id (.bl e f) a)
 |rw e b t l=>
  rcases h with⟨id,rfl,a⟩|⟨rfl,rfl⟩|⟨id,m,cs,rfl,a,d,_⟩
  ·exact c id _ a
  ·rfl
  ·exact(ll d).1
 |ro t l=>
  rcases h with⟨id,rfl,a⟩|⟨rfl,rfl⟩|⟨h,_⟩
  ·exact c id _ (Ch a)
  ·rfl
  ·cases h
 |br n l=>obtain⟨rfl,id,m,rfl,a⟩:=h;have d:=c id _ a;have i:=g id m l a;rw[i];exact d
 |dd n=>
  obtain⟨rfl,⟨t,rfl⟩|⟨j,rfl,a⟩⟩:=h
  ·rfl
  ·exact c j _ a
structure RdV (any:Bool) (H:List Ob) (x:Ty) (sv:SV) (v:x.T) (ss:List Src):Prop where
 no:γ ss=x.no
 tz:x.tz=ν
 to:∀(ρ cS:Nat->Ad) (n:Nat),(∀(j:Nat) (s:Src),ss[j]? =θ s->cS (n+j)=s.ad ρ)->
  (∃u,sv.v ρ=θ u/\(x.sv (x.lay 0 n v).1).v cS=θ u/\(x.sa (x.lay 0 n v).1).v cS=u)/\∀(j:Nat) (s:Src) (o:Ob),ss[j]? =θ s->(x.lay 0 n v).2[j]? =θ o->WS any ρ H cS s o
variable{c:δ Src}
theorem uJ{r:ε (b×δ SC×δ Src)}(h:Rf r=θ (y,c)):r=θ (y,[],c):=by
 unfold Rf at h;split at h
 ·cases h;rfl
 ·cases h
theorem Xi{any:η}(m:LN H){x:Ty}{j:SV}{v:x.T}(h:TC any H x j=θ (v,c)):RdV any H x j v c:=by
 unfold TC at h;split at h
 ·rename_i q;cases a:x.tz with
  |true=>rw[a]at h;cases h
  |false=>
   cases b:x.agg with
   |true=>rw[a,b]at h;cases h
   |false=>
    rw[a,b]at h;have g:=Y0 any H m x 0 _ _ _ _ (uJ h);refine⟨g.no,a,λρ cS n e=> ?_⟩;obtain⟨d,i⟩:=g.to ρ cS 0 n ⟨λf=>(by rw[a]at f;cases f),e⟩;refine⟨⟨q.v ρ,Τ,?_⟩,i⟩;unfold Ty.sv Ty.sa;rw[b];cases k:(x.lay 0 n v).1 with
    |nil=>rw[k]at d;cases d
    |cons o p=>
     rw[k]at d;cases p with
     |cons _ _=>simp at d
     |nil=>have d:q.v ρ=o.v cS:=aD5;exact⟨by show θ _=_;rw[d],by show o.v cS=_;rw[d]⟩
 ·rename_i l;cases a:x.tz with
  |true=>rw[a]at h;cases h
  |false=>
   cases b:x.agg with
   |false=>rw[a,b]at h;cases h
   |true=>rw[a,b]at h;have g:=Y0 any H m x 0 _ _ _ _ (uJ h);refine⟨g.no,a,λρ cS n e=> ?_⟩;obtain⟨d,i⟩:=g.to ρ cS 0 n ⟨λf=>(by rw[a]at f;cases f),e⟩;refine⟨⟨_,Τ,?_⟩,i⟩;rw[gE,gV]at d;unfold Ty.sv Ty.sa;rw[b];exact⟨by show θ _=_;rw[d],by show eU _=_;rw[d]⟩
 ·cases h
def BO(H2:δ Ob)(cS ρ3:Nat->Ad)(id:Nat):Ob->Prop
 |.bl e cs=>∃a,H2[id]? =θ (.bl e a)/\γ a=γ cs/\∀(j:Nat) c,cs[j]? =θ c->c.kn=μ->∃b,a[j]? =θ b/\b.kn=μ/\b.v cS=c.v ρ3
 |.dd _=>True
 |o=>H2[id]? =θ o
structure PI (n0:Nat) (H2:List Ob) (ρ cS ρ3:Nat->Ad) (F2:Nat->ς) (E:List Nat) (H0:List Ob) (al:List Rg) (Fm:Tr SV) (H1:List Ob) (done:List Src):Prop where
 len:γ H1=n0+γ done
 fr:∀t u,(Re Fm t).v ρ3=θ u->F2 t=u
 fo:∀t,(Re Fm t).ok (γ H1)
 ho:∀(id e:Nat) (cs:List SC),H1[id]? =θ (.bl e cs)->∀c∈cs,c.ok (γ H1)
 ln:LM ρ3 H1
 ba:∀(id:Nat) (o:Ob),id<n0->H1[id]? =θ o->BO H2 cS ρ3 id o
 nw:∀(j:Nat) (s:Src) (o:Ob),done[j]? =θ s->H1[n0+j]? =θ o->WS ν cS H2 ρ3 s o
 de:∀id,id<n0->id∈E->∃m,H1[id]? =θ (.dd m)
 kp:∀(id:Nat) (o:Ob),H0[id]? =θ o->kT al id ρ ρ3 H1[id]? o
section
variable{n0:Nat}{H2 H0 H1:δ Ob}{ρ cS ρ3:Nat->Ad}{F2:Nat->ς}{E:δ Nat}{al:δ Rg}{Fm:Tr SV}{done:δ Src}
theorem PI.app(h:PI n0 H2 ρ cS ρ3 F2 E H0 al Fm H1 done)(iD:LM cS H2)(k:LN H2)(p:γ H0<=n0){obs:δ Ob}{d:δ Src}(q:γ d=γ obs)
  (l:∀j s,d[j]? =θ s->ρ3 (γ H1+j)=s.ad cS) (m:∀(j:Nat) s o,d[j]? =θ s->obs[j]? =θ o->WS ν cS H2 ρ3 s o)
  (u:∀(j e:Nat) cs,obs[j]? =θ (.bl e cs)->∀c∈cs,c.ok (γ H1+γ obs)):PI n0 H2 ρ cS ρ3 F2 E H0 al Fm (H1++obs) (done++d):=by
 have n:=h.len;refine⟨by simp[h.len,q,Cb],h.fr,λt=>SV.cQ (h.fo t) aA2,λid e cs a c g=> ?_,λid o a=> ?_,λid o b a=> ?_,λj s o i a=> ?_,λid b r=> ?_,λid o a=> ?_⟩
 ·by_cases b:id<γ H1
  ·rw[aI b]at a;exact SC.cQ (h.ho id e cs a c g) aA2
  ·rw[aM aA0]at a;rw[cR];exact u _ e cs a c g
 ·by_cases b:id<γ H1
  ·rw[aI b]at a;exact h.ln id o a
  ·rw[aM aA0]at a;have v:=(aE.1 a).1;have f:d[id-γ H1]? =θ _:=aN aA0;have e:=l _ _ f;rw[show γ H1+(id-γ H1)=id by omega]at e;rw[e];exact NB iD k (m _ _ o f a)
 ·rw[aI aA0]at a;exact h.ba id o b a
 ·by_cases b:j<γ done
  ·rw[aI b]at i;rw[aI aA0]at a;exact h.nw j s o i a
  ·rw[aM aA0]at i;rw[aM aA0]at a;rw[show n0+j-γ H1=j-γ done by omega]at a;exact m _ s o i a
 ·rw[aI aA0];exact h.de id b r
 ·have:=(aE.1 a).1;rw[aI aA0];exact h.kp id o a
theorem PI.set(h:PI n0 H2 ρ cS ρ3 F2 E H0 al Fm H1 done){t:Nat}{v:SV}(b:∀u,v.v ρ3=θ u->F2 t=u)(c:v.ok (γ H1)):PI n0 H2 ρ cS ρ3 F2 E H0 al (Fm.set t v) H1 done:=by
 refine⟨h.len,λt2 u a=> ?_,λt2=> ?_,h.ho,h.ln,h.ba,h.nw,h.de,h.kp⟩
 ·rw[It]at a;by_cases e:t2=t
  ·subst e;rw[aB rfl]at a;exact b u a
  ·rw[aA e]at a;exact h.fr t2 u a
 ·rw[It];by_cases e:t2=t
  ·rw[aB e];exact c
  ·rw[aA e];exact h.fo t2
theorem PI.cY(h:PI n0 H2 ρ cS ρ3 F2 E H0 al Fm H1 done){id:Nat}{o d:Ob}(w:id<n0)(v:H1[id]? =θ d)(iD:o.len=d.len)(l:BO H2 cS ρ3 id o)(u:id∉E)
  (f:∀e cs,o=.bl e cs->∀c∈cs,c.ok (γ H1)) (g:∀m,H0[id]? =θ m->kT al id ρ ρ3 (θ o) m):PI n0 H2 ρ cS ρ3 F2 E H0 al Fm (jA H1 id o) done:=by
 refine⟨by rw[LA];exact h.len,h.fr,λt=>by rw[LA];exact h.fo t,λk e cs a c q=> ?_,λk p a=> ?_,λk p i a=> ?_,λj s p r a=> ?_,λk i n=> ?_,λk p a=> ?_⟩
 ·rw[xU]at a;rw[LA];split at a
  ·cases a;exact f e cs Τ c q
  ·exact h.ho k e cs a c q
 ·rw[xU]at a;split at a
  ·rename_i b;cases a;rw[b.1,iD];exact h.ln id d v
  ·exact h.ln k p a
 ·rw[xU]at a;split at a
  ·rename_i b;cases a;rw[b.1];exact l
  ·exact h.ba k p i a
 ·rw[xU,aA aA0]at a;exact h.nw j s p r a
 ·rw[xU,aA (λ(b:k=id/\_)=>u (b.1▸n))];exact h.de k i n
 ·rw[xU];split
  ·rename_i b;rw[b.1]at a⊢;exact g p a
  ·exact h.kp k p a
end
variable{a:δ SC}{n:Nat}
theorem Ty.Fj{x:Ty}(h:∀c∈a,c.ok n):(x.sv a).ok n:=by
 unfold Ty.sv;cases x.agg with
 |true=>exact h
 |false=>
  split
  ·exact h _ (aF.2 Τ)
  ·trivial
theorem Ty.sa_ok{x:Ty}(h:∀c∈a,c.ok n):(x.sa a).ok n:=by
 unfold Ty.sa;cases x.agg with
 |true=>exact h
 |false=>
  split
  ·exact h _ (aF.2 Τ)
  ·exact h
def KC(n0:Nat)(H0:δ Ob)(E:δ Nat)(al:δ Rg)(ix:Nat->Nat):Key->Prop
 |.s' _ _=>True
 |.o' t off x=>ix t<n0/\∀j,off<=j->j<off+x.cn->eM (ix t) j al=μ
 |.w' t _=>ix t<n0/\eM (ix t) 0 al=μ/\ix t∉E/\wA H0[ix t]? =μ
section
variable{n0:Nat}{H2 H0 H1:δ Ob}{ρ cS ρ3:Nat->Ad}{F2:Nat->ς}{E:δ Nat}{al:δ Rg}{Fm:Tr SV}{done:δ Src}{ix:Nat->Nat}{at2:Nat->SV}
variable{t:Nat}{x:Ty}{d:δ Src}{v:x.T}
theorem PI.stepS(h:PI n0 H2 ρ cS ρ3 F2 E H0 al Fm H1 done)(iD:LM cS H2)(b:LN H2)(f:γ H0<=n0)(k:∀t u,(at2 t).v cS=θ u->F2 t=u)(g:TC ν H2 x (at2 t)=θ (v,d))
  (c:∀j s,d[j]? =θ s->ρ3 (γ H1+j)=s.ad cS):PI n0 H2 ρ cS ρ3 F2 E H0 al (putV Fm H1 t x v).1 (putV Fm H1 t x v).2 (done++d):=by
 have e:=Xi b g;obtain⟨⟨u,n,m,_⟩,l⟩:=e.to cS ρ3 (γ H1) c;have i:γ d=γ (x.lay 0 (γ H1) v).2:=by rw[e.no,Ty.eD]
 refine(h.app iD b f i c l (vi x 0 (γ H1) v)).set ?_ ?_
 ·intro o a;rw[m]at a;cases a;exact k t u n
 ·rw[cR];exact Ty.Fj (bfw x 0 (γ H1) v e.tz)
theorem PI.yh(h:PI n0 H2 ρ cS ρ3 F2 E H0 al Fm H1 done)(iD:LM cS H2)(C:LN H2)(O:γ H0<=n0)(L:Up n0 cS ρ3){off:Nat}(T:rdB H2 t off x=θ (v,d))(hid:t<n0)
  (A:∀j,off<=j->j<off+x.cn->eM t j al=μ) (G:∀j s,d[j]? =θ s->ρ3 (γ H1+j)=s.ad cS):PI n0 H2 ρ cS ρ3 F2 E H0 al Fm (Y9 H1 t off x v) (done++d):=by
 unfold rdB at T;split at T
 ·rename_i e2 Y S;rw[gA]at S;split at T
  ·rename_i q hq;have l:=Y0 ν H2 C x t _ _ _ _ (uJ T);obtain⟨n,b⟩:=wZ hq;rw[mW]at n b;obtain⟨h1,h2⟩:=l.to cS ρ3 t (γ H1) ⟨λ_=>by rw[L t hid],G⟩;rw[gE,gV]at h1;have hl:γ d=γ (x.lay t (γ H1) v).2:=by rw[l.no,Ty.eD]
   have h3:=h.app iD C O hl G h2 (vi x t (γ H1) v);have w:t<γ H1:=by have:=h.len;omega
   unfold Y9;split
   ·rename_i e cs p;rw[gA]at p;have B:jA H1 t (.bl e (Xl cs off (x.lay t (γ H1) v).1))++(x.lay t (γ H1) v).2=jA (H1++(x.lay t (γ H1) v).2) t (.bl e (Xl cs off (x.lay t (γ H1) v).1)):=by rw[oL,oL,kr _ _ w]
    rw[B];have V:(H1++(x.lay t (γ H1) v).2)[t]? =θ (.bl e cs):=by rw[aI w];exact p
    obtain⟨X,F,W,D⟩:=h.ba t _ hid p;rw[S]at F;cases F;have y:=x.Yd t (γ H1) v;have a4:γ q=x.cn:=by rw[n,iW];omega
    have k:∀j c,(Xl cs off (x.lay t (γ H1) v).1)[j]? =θ c->(off<=j/\j<off+x.cn/\(x.lay t (γ H1) v).1[j-off]? =θ c)\/(cs[j]? =θ c/\¬(off<=j/\j<off+x.cn))\/(cs[j]? =θ c/\uU cs off (x.lay t (γ H1) v).1=ι):=by
     intro j c H;unfold Xl at H;split at H
     ·rename_i Z b;rw[rD b,y]at H;split at H
      ·rename_i I;exact .inl ⟨I.1,I.2,H⟩
      ·rename_i I;exact .inr (.inl ⟨H,I⟩)
     ·rename_i hn;exact .inr (.inr ⟨H,hn⟩)
    have z:γ (Xl cs off (x.lay t (γ H1) v).1)=γ cs:=by
     unfold Xl;split
     ·rename_i Z b;exact zP b
     ·rfl
    refine h3.cY hid V Τ ⟨Y,S,by rw[W,z],λj c H g=> ?_⟩ (λhE=> ?_) (λe3 X he c U=> ?_) (λo0 N=> ?_)
    ·rcases k j c H with⟨ha,hb,a⟩|⟨a,_⟩|⟨a,_⟩
     ·have r:(q.map (SC.v cS))[j-off]? =θ (c.v ρ3):=by rw[h1,aW,a];rfl
      rw[aW]at r;cases f:q[j-off]? with
      |none=>rw[f]at r;cases r
      |some K=>rw[f]at r;have r:=aP r;obtain⟨us,u,M⟩:=l.kn;rw[gV]at u;refine⟨K,?_,M K (u▸aL f),r⟩;rw[n,bO,aB aA0,bV]at f;rw[<-f];congr 1;omega
     ·exact D j c a g
     ·exact D j c a g
    ·obtain⟨m,hm⟩:=h.de t hid hE;rw[p]at hm;cases hm
    ·cases he;obtain⟨j,H⟩:=jK.1 U;rcases k j c H with⟨ha,hb,a⟩|⟨a,_⟩|⟨a,_⟩
     ·intro i hi;rw[cR];rcases(Ty.Dd x t (γ H1) v c (aL a)).2 i hi with h6|h6<;>omega
     ·exact SC.cQ (h.ho t _ cs p c (aL a)) aA2
     ·exact SC.cQ (h.ho t _ cs p c (aL a)) aA2
    ·have g:=h.kp t o0 N;rw[p]at g;cases o0 with
     |bl e0 b7=>
      rcases g with g|⟨b6,R,Q,P⟩
      ·exact .inl g
      ·cases R;refine .inr ⟨_,Τ,by rw[z,Q],λj c H=> ?_⟩;by_cases o:off<=j/\j<off+x.cn
       ·exact .inl (A j o.1 o.2)
       ·rcases P j c H with J|⟨K,J,h8⟩
        ·exact .inl J
        ·right;refine⟨K,?_,h8⟩;unfold Xl;split
         ·rename_i Z b;rw[rD b,y,aA o];exact J
         ·exact J
     |rw _ _ _ _=>exact g.elim .inl λh=>by cases h
     |br _ _=>exact g.elim .inl λh=>by cases h
     |ro _ _=>cases g
     |dd _=>cases g
   ·exact h3
  ·cases T
 ·cases T
theorem BB{H:δ Ob}(h:yc H t x=θ v):(∃m,∃o,nk m x v=θ o/\∃a,H[t]? =θ a/\(a.len=m->a=o)/\((∃e b j l,o=.rw e b j l/\a=o)\/∃l g,o=.br m l/\a=.br g l)):=by
 cases x with
 |l' e b j=>
  simp only[yc]at h;split at h
  ·rename_i q i;cases d:cT q.1 e with
   |false=>rw[d]at h;cases h
   |true=>
    cases f:cT q.2 b with
    |false=>rw[d,f]at h;cases h
    |true=>rw[d,f]at h;have c:=uA i h;rw[gA,gO d,gO f]at c;exact⟨0,_,Τ,_,c,λ_=>rfl,.inl ⟨e,b,j,v,Τ,Τ⟩⟩
  ·cases h
 |y'=>
  simp only[yc]at h;split at h
  ·rename_i m x c;rw[gA]at c;cases h;exact⟨m,_,Τ,_,c,λ_=>rfl,.inr ⟨v,m,Τ,Τ⟩⟩
  ·cases h
 |_=>cases h
theorem PI.yf(h:PI n0 H2 ρ cS ρ3 F2 E H0 al Fm H1 done)(iD:LM cS H2)(F:LN H2)(D:γ H0<=n0)(q:Up n0 cS ρ3)(k:rdW H2 t x=θ (v,d))(hid:t<n0)
  (f:eM t 0 al=μ) (B:t∉E) (A:wA H0[t]? =μ):PI n0 H2 ρ cS ρ3 F2 E H0 al Fm (pX H1 t x v) (done++d):=by
 unfold rdW at k;split at k
 ·rename_i y p;cases k;rw[gV];have w:t<γ H1:=by have:=h.len;omega
  have n:=aN w;have a:(H1[t]).len=(cS t).ln:=by rw[h.ln t _ n,q t hid]
  have g:∀o j,H0[t]? =θ j->kT al t ρ ρ3 (θ o) j:=by
   intro o j u;rw[u]at A;cases j with
   |rw _ _ _ _=>exact .inl f
   |br _ _=>exact .inl f
   |_=>cases A
  unfold pX;rw[mV n,a];cases x with
  |l' e b I=>
   obtain⟨m,o,r,C,i,s,z⟩:=BB p;cases r;rcases z with⟨_,_,_,_,c,rfl⟩|⟨_,_,c,_⟩
   ·exact h.cY hid n (by rw[a];exact iD t _ i) i B (λe cs c=>by cases c) (g _)
   ·cases c
  |y'=>
   obtain⟨m,o,r,C,i,s,z⟩:=BB p;cases r;rcases z with⟨_,_,_,_,c,_⟩|⟨l,H,c,rfl⟩
   ·cases c
   ·cases c;have G:=iD t _ i;refine h.cY hid n (by rw[a];rfl) ?_ B (λe cs c=>by cases c) (g _);rw[<-G];exact i
  |_=>cases p
 ·cases k
theorem PI.step(h:PI n0 H2 ρ cS ρ3 F2 E H0 al Fm H1 done)(iD:LM cS H2)(b:LN H2)(a:γ H0<=n0)(f:Up n0 cS ρ3)(i:∀t u,(at2 t).v cS=θ u->F2 t=u){k:Key}{v:k.ty.T}(g:k.rd ix at2 H2=θ (v,d))
  (c:KC n0 H0 E al ix k) (e:∀j s,d[j]? =θ s->ρ3 (γ H1+j)=s.ad cS):PI n0 H2 ρ cS ρ3 F2 E H0 al (k.put ix (Fm,H1) v).1 (k.put ix (Fm,H1) v).2 (done++d):=by
 cases k with
 |s' t x=>exact h.stepS iD b a i g e
 |o' t off x=>exact h.yh iD b a f g c.1 c.2 e
 |w' t x=>exact h.yf iD b a f g c.1 c.2.1 c.2.2.1 c.2.2.2
theorem PI.steps(iD:LM cS H2)(e:LN H2)(d:γ H0<=n0)(c:Up n0 cS ρ3)(i:∀t u,(at2 t).v cS=θ u->F2 t=u):∀J Fm H1 done v ss,PI n0 H2 ρ cS ρ3 F2 E H0 al Fm H1 done->rdK ix at2 H2 J=θ (v,ss)->
  (∀k∈J,KC n0 H0 E al ix k)->(∀j s,ss[j]? =θ s->ρ3 (γ H1+j)=s.ad cS)->PI n0 H2 ρ cS ρ3 F2 E H0 al (Gn ix (Fm,H1) J v).1 (Gn ix (Fm,H1) J v).2 (done++ss)
 |[],Fm,H1,done,v,ss,h,a,_,_=>by cases a;rw[gV];exact h
 |[k],Fm,H1,done,v,ss,h,a,f,b=>h.step iD e d c i a (f k iK) b
 |k::A::l,Fm,H1,done,v,ss,h,a,f,b=>by
  simp only[rdK]at a;split at a
  ·rename_i x p hx;split at a
   ·rename_i y o r;cases a;have n:=h.step iD e d c i hx (f k iK) (λj s g=>b j s (by rw[aI (aE.1 g).1];exact g));have m:=PI.steps iD e d c i _ _ _ _ y o n r (λq w=>f q (gN _ w)) (λj s g=>by have z:=n.len;have B:=h.len;rw[cR]at z;rw[show(k.put ix _ x).2.length+j=γ H1+(γ p+j)by omega];exact b _ s (by rw[aM aA0,<-g];congr 1;omega));rw[nW]at m;exact m
   ·cases a
  ·cases a
end
open Go.Wk
open Go.Ce (Tr)
open List renaming range → Ic
open Nat renaming succ → qN
theorem rd0_kn:∀(t:Ty) l x r,t.CW l=θ (x,r)->∃e,l=e++r/\∀c∈e,c.kn=μ:=by
 intro t;induction t with
 |w' t p=>intro l x r h;exact p l x r h
 |pr a b g f=>
  intro l x r h;simp only[Ty.CW]at h;split at h
  ·rename_i n j s;split at h
   ·rename_i m B q;cases h;obtain⟨e,A,z⟩:=g l n j s;obtain⟨o,w,v⟩:=f j m _ q;exact⟨e++o,by rw[A,w,nW],λc u=>(aZ.1 u).elim (z c) (v c)⟩
   ·cases h
  ·cases h
 |i' k=>
  intro l x r h;cases l with
  |nil=>cases h
  |cons c l=>
   simp only[Ty.CW]at h;split at h
   ·rename_i y d;cases h;exact⟨[c],Τ,λi h=>by rw[aF.1 h];cases c<;>first|rfl|cases d⟩
   ·cases h
 |c'=>
  intro l x r h;cases l with
  |nil=>cases h
  |cons c l=>
   simp only[Ty.CW]at h;split at h
   ·rename_i y d;cases h;exact⟨[c],Τ,λi h=>by rw[aF.1 h];cases c<;>first|rfl|cases d⟩
   ·cases h
 |s'=>
  intro l x r h;cases l with
  |nil=>cases h
  |cons c l=>
   simp only[Ty.CW]at h;split at h
   ·rename_i y d;cases h;exact⟨[c],Τ,λi h=>by rw[aF.1 h];cases c<;>first|rfl|cases d⟩
   ·cases h
 |b'=>
  intro l x r h;cases l with
  |nil=>cases h
  |cons c l=>
   simp only[Ty.CW]at h;split at h
   ·rename_i y d;cases h;exact⟨[c],Τ,λi h=>by rw[aF.1 h];cases c<;>first|rfl|cases d⟩
   ·cases h
 |_=>intro l x r h;cases h
theorem rA{t:Ty}:∀{m:Nat}{l:δ SC}{b:δ t.T},pC t m l=θ b->∀c∈l,c.kn=μ
 |0,l,b,h=>by
  cases l with
  |nil=>intro c a;cases a
  |cons c l=>cases h
 |m+1,l,b,h=>by
  simp only[pC]at h;split at h
  ·rename_i y d f;split at h
   ·rename_i q e;obtain⟨j,i,g⟩:=rd0_kn t l y d f;intro c a;rw[i]at a;exact(aZ.1 a).elim (g c) (rA e c)
   ·cases h
  ·cases h
variable{a:Nat->Ad}{b:δ SC}
theorem Mat.all{vs:δ ς}(h:Mat a b vs)(d:∀c∈b,c.kn=μ):vs=b.map (SC.v a):=by
 apply cI;intro j;rw[aW];by_cases ρ:j<γ b
 ·rw[h.2 j _ (aN ρ) (d _ (fB ρ)),aN ρ];rfl
 ·have:=h.1;rw[bG aA0,bG aA0];rfl
theorem Mat.of:Mat a b (b.map (SC.v a)):=⟨aA2,λj c h _=>by rw[aW,h];rfl⟩
section
variable{w0 w:φ}{S0:δ Nat}{ρ:Nat->Ad}{H:δ Ob}{L:δ cL}
theorem Mt.lns(h:Mt w0 S0 ρ H L):LM ρ H:=λid o a=>(h.2 id o a).1
theorem Mt.brk(h:Mt w0 S0 ρ H L)(c:Hp w0 S0 L w):LN H:=λid m x hx=>by obtain⟨_,r,a,b⟩:=h.2 id _ hx;subst b;exact c.hK id a
end
def dJ:cL:=⟨ι,λ_=>True⟩
def Src.ow:Src->ε Nat
 |.o' id w=>bif w then θ id else ι
 |.k' id _ w=>bif w then θ id else ι
 |_=>ι
theorem wY(s:Src):s.own=s.ow.toList:=by
 cases s with
 |o' id w=>cases w<;>rfl
 |k' id m w=>cases w<;>rfl
 |_=>rfl
variable{a:δ Src}{j:Nat}{s:Src}
theorem rM{i:Nat}(h:a[j]? =θ s)(c:s.ow=θ i):i∈gQ a:=by
 induction a generalizing j with
 |nil=>simp at h
 |cons f l b=>
  show i∈f.own++gQ l;cases j with
  |zero=>have:f=s:=aA8;subst this;rw[wY,c];simp
  |succ j=>exact XV _ (b aA8)
theorem Ll(m:(gQ a).Nodup){k i:Nat}{c:Src}(h:a[j]? =θ s)(f:s.ow=θ i)(e:a[k]? =θ c)(b:c.ow=θ i):j=k:=by
 induction a generalizing j k with
 |nil=>simp at h
 |cons n l g=>
  have d:=List.nodup_append.1 m;cases j with
  |zero=>
   cases k with
   |zero=>rfl
   |succ k=>have:n=s:=aA8;subst this;exact absurd Τ (d.2.2 i (by rw[wY,f];simp) i (rM aE5 b))
  |succ j=>
   cases k with
   |zero=>have:n=c:=aE5;subst this;exact absurd Τ (d.2.2 i (by rw[wY,b];simp) i (rM aA8 f))
   |succ k=>exact bM qN (g d.2.1 (show l[j]? =θ s by simpa using h) (show l[k]? =θ c by simpa using e))
theorem Iq{p:Nat->cL->Prop}:∀n,(∀j,j<n->∃r,p j r)->∃L:δ cL,γ L=n/\∀j r,L[j]? =θ r->p j r
 |0,_=>⟨[],Τ,λj r h=>by simp at h⟩
 |n+1,h=>by
  obtain⟨L,f,d⟩:=Iq n λj a=>h j aA0;obtain⟨r,c⟩:=h n aA0;refine⟨L++[r],by simp[f],λj b a=> ?_⟩;by_cases g:j<n
  ·rw[aI aA0]at a;exact d j b a
  ·rw[aM aA0]at a;have:j-γ L=0:=by have:=(aE.1 a).1;simp at this;omega
   rw[this]at a;have e:r=b:=aC1;subst e;rw[show j=n by omega];exact c
variable{e w:φ}{b:δ Nat}{d q:Nat->Ad}{c:δ Ob}{L:δ cL}{o:Ob}
theorem T8(p:Hp e b L w)(v:Mt e b d c L)(h:WS ν d c q s o)(f:q j=s.ad d):
  ∃r,RO e b q j o r/\r.holds w/\∀N,r.own=θ N->∃i E,s.ow=θ i/\L[i]? =θ E/\E.own=θ N:=by
 cases o with
 |bl P J=>
  obtain⟨id,cs,rfl,g,x,D,H⟩:=h;obtain⟨_,r,k,y,rfl,B⟩:=v.2 id _ g;refine⟨aX (q j).b y P,⟨y,Τ,?_⟩,?_,λN O=>⟨id,_,Τ,k,?_⟩⟩
  ·have I:=(B.all D).trans x;rw[I];exact Mat.of
  ·rw[f];exact(p.res _ (aL k)).1
  ·rw[f]at O;exact O
 |rw P N t l=>
  rcases h with⟨id,rfl,g⟩|⟨rfl,rfl⟩|⟨id,m,cs,rfl,g,x,D,H⟩
  ·obtain⟨_,r,k,u⟩:=v.2 id _ g;subst u;refine⟨bN t.enc P t.sz (q j).o (q j).a (q j).cap l,Τ,?_,λN O=>⟨id,_,Τ,k,?_⟩⟩
   ·rw[f];exact(p.res _ (aL k)).1
   ·rw[f]at O;exact O
  ·have:=(p.lK t.enc P t.sz ι).res _ iK;refine⟨bN t.enc P t.sz (q j).o (q j).a (q j).cap [],Τ,?_,λN O=> ?_⟩
   ·rw[f];exact this.1
   ·rw[f]at O;cases O
  ·obtain⟨_,r,k,y,rfl,B⟩:=v.2 id _ g;have hx:=ll x;have z:=B.all (rA x);have A:m<=maxLen:=by unfold maxLen;omega
   have G:=p.Ol id t.sz m l k (Ty.vX D) (by rw[z,hx.2.2]) hx.1 A;have C:=(aE.1 k).1;have M:=G.res _ (aL (i:=id) (by rw[dK];simp[C];rfl));refine⟨bN t.enc P t.sz (q j).o (q j).a (q j).cap l,Τ,?_,λN O=>⟨id,_,Τ,k,?_⟩⟩
   ·rw[f];exact M.1
   ·rw[f]at O;exact O
 |ro t l=>
  rcases h with⟨id,rfl,g⟩|⟨rfl,rfl⟩|⟨h,_⟩
  ·obtain⟨_,r,k,K,u⟩:=v.2 id _ (Ch g);refine⟨dJ,⟨Τ,?_⟩,trivial,λN O=>by cases O⟩;rw[f];exact u
  ·refine⟨dJ,⟨Τ,?_⟩,trivial,λN O=>by cases O⟩;exact⟨Rd.nil _ _,λh=>absurd Τ h,eJ _⟩
  ·cases h
 |br n l=>
  obtain⟨rfl,id,m,rfl,g⟩:=h;obtain⟨_,r,k,u⟩:=v.2 id _ g;subst u;have F:=p.hK id k;refine⟨jX _ (γ l) l,Τ,?_,λN O=>⟨id,_,Τ,k,?_⟩⟩
  ·rw[f,F];exact(p.res _ (aL k)).1
  ·rw[f,F]at O;exact O
 |dd n=>exact⟨dJ,trivial,trivial,λN O=>by cases O⟩
theorem bo_ro(p:Hp e b L w)(i:Mt e b d c L)(h:BO c d q j o)(g:q j=d j)(x:∀m,o≠.dd m):
  ∃r,L[j]? =θ r/\RO e b q j o r/\r.holds w:=by
 cases o with
 |bl K cs=>obtain⟨F,E,D,C⟩:=h;obtain⟨_,r,a,s,rfl,k⟩:=i.2 j _ E;refine⟨_,a,⟨s,by rw[g],by rw[k.1,D],λJ I v y=> ?_⟩,(p.res _ (aL a)).1⟩;obtain⟨G,B,A,z⟩:=C J I v y;rw[<-z];exact k.2 J G B A
 |rw K H t l=>obtain⟨_,r,a,f⟩:=i.2 j _ h;exact⟨r,a,by show r=_;rw[g];exact f,(p.res _ (aL a)).1⟩
 |ro t l=>obtain⟨_,r,a,u,f⟩:=i.2 j _ h;exact⟨r,a,⟨u,by rw[g];exact f⟩,(p.res _ (aL a)).1⟩
 |br n l=>obtain⟨_,r,a,f⟩:=i.2 j _ h;exact⟨r,a,by show r=_;rw[g];exact f,(p.res _ (aL a)).1⟩
 |dd n=>exact absurd Τ (x n)
def EI:Ob->η
 |.dd _=>μ
 |_=>ν
theorem isDd_f(h:EI o=ν):∀m,o≠.dd m:=by intro m e;subst e;cases h
theorem PI.mem{w0 w:φ}{S0:δ Nat}{c:Nat}{H2 H0 f:δ Ob}{ρ q ρ3:Nat->Ad}{F2:Nat->ς}{E:δ Nat}{Z:δ Rg}{Fm:Tr SV}{done:δ Src}{L:δ cL}(h:PI c H2 ρ q ρ3 F2 E H0 Z Fm f done)(K:Hp w0 S0 L w)(Q:Mt w0 S0 q H2 L)(G:Up c q ρ3)
  (J:∀j s,done[j]? =θ s->ρ3 (c+j)=s.ad q) (S:(gQ done).Nodup) (X:∀id∈gQ done,id<c->id∈E):∃D,Hp w0 S0 D w/\Mt w0 S0 ρ3 f D:=by
 let src:Nat->ε Nat:=λj=>if j<c then(match f[j]? with
  |some o=>bif EI o then ι else θ j
  |none=>ι)else(done[j-c]?).bind Src.ow
 have R:∀j,j<γ f->∃r,(∀o,f[j]? =θ o->RO w0 S0 ρ3 j o r)/\r.holds w/\∀b,r.own=θ b->∃i A,src j=θ i/\L[i]? =θ A/\A.own=θ b:=by
  intro j l;have g:=aN l;by_cases a:j<c
  ·cases p:EI f[j]with
   |true=>refine⟨dJ,λo e=> ?_,trivial,λb y=>by cases y⟩;rw[g]at e;cases e;cases hx:f[j]<;>rw[hx]at p<;>first|trivial|cases p
   |false=>
    obtain⟨r,n,e,z⟩:=bo_ro K Q (h.ba j _ a g) (G j a) (isDd_f p);refine⟨r,λo v=> ?_,z,λb y=>⟨j,r,?_,n,y⟩⟩
    ·rw[g]at v;cases v;exact e
    ·simp only[src,a,gZ,g,p,aJ]
  ·have hl:=h.len;have d:done[j-c]? =θ _:=aN aA0;have H:f[c+(j-c)]? =θ f[j]:=by rw[show c+(j-c)=j by omega];exact g
   have x:=J _ _ d;rw[show c+(j-c)=j by omega]at x;obtain⟨r,n,e,z⟩:=T8 K Q (h.nw _ _ _ d H) x;refine⟨r,λo v=> ?_,e,λb y=> ?_⟩
   ·rw[g]at v;cases v;exact n
   ·obtain⟨i,A,B,O⟩:=z b y;refine⟨i,A,?_,O⟩;simp only[src,a,d];exact B
 obtain⟨D,I,C⟩:=Iq (γ f) R;refine⟨D,Go.Oe.Hp.pick ((Ic (γ f)).map src) K (λj r l=> ?_) (λj k i l V=> ?_),I,λid o g=>⟨h.ln id o g,?_⟩⟩
 ·obtain⟨_,e,z⟩:=C j r l;refine⟨e,λb y=> ?_⟩;obtain⟨i,A,v,B⟩:=z b y;have a:=(aE.1 l).1;refine⟨i,A,?_,B⟩;rw[aW,bX aA0];exact bM θ v
 ·have key:∀j,((Ic (γ f)).map src)[j]? =θ (θ i)->j<γ f/\src j=θ i:=by
   intro j l;rw[aW]at l;by_cases a:j<γ f
   ·rw[bX a]at l;exact⟨a,aP l⟩
   ·rw[bG aA3]at l;cases l
  obtain⟨W,u⟩:=key j l;obtain⟨U,t⟩:=key k V;have base:∀j,j<c->src j=θ i->j=i/\∃o,f[j]? =θ o/\EI o=ν:=by
   intro j a d;simp only[src,a,gZ]at d;split at d
   ·rename_i o g;cases p:EI o with
    |true=>rw[p]at d;cases d
    |false=>rw[p]at d;exact⟨aP d,o,g,p⟩
   ·cases d
  have F:∀j,¬j<c->src j=θ i->∃s,done[j-c]? =θ s/\s.ow=θ i:=by
   intro j a d;simp only[src,a]at d;cases p:done[j-c]? with
   |none=>rw[p]at d;cases d
   |some s=>rw[p]at d;exact⟨s,Τ,d⟩
  have no:∀j k,j<c->¬k<c->src j=θ i->src k=θ i->False:=by intro j k n e z v;obtain⟨rfl,o,B,O⟩:=base j n z;obtain⟨s,N,M⟩:=F k e v;obtain⟨m,T⟩:=h.de j n (X j (rM N M) n);rw[T]at B;cases B;cases O
  by_cases n:j<c<;>by_cases e:k<c
  ·rw[(base j n u).1,(base k e t).1]
  ·exact(no j k n e u t).elim
  ·exact(no k j e n t u).elim
  ·obtain⟨s,N,M⟩:=F j n u;obtain⟨s2,Y,P⟩:=F k e t;have:=Ll S N M Y P;omega
 ·have a:=(aE.1 g).1;exact⟨_,aN aA0,(C id _ (aN aA0)).1 o g⟩
open Go.Wk
open Go.Ce (Tr)
open Nat renaming one_pos → Ib
theorem Xb{d:Nat->Nat}:∀{J:δ Key}{q:Rg},q∈NM d J->∃k∈J,(∃t off x,k=.o' t off x/\q=(d t,off,off+x.cn))\/∃t x,k=.w' t x/\q=(d t,0,1)
 |k::J,q,h=>by
  cases k with
  |s' t x=>obtain⟨a,c,b⟩:=Xb (show q∈NM d J from h);exact⟨a,gN _ c,b⟩
  |o' t off x=>
   rcases aQ.1 (h)with rfl|h
   ·exact⟨_,iK,.inl ⟨t,off,x,Τ,Τ⟩⟩
   ·obtain⟨a,c,b⟩:=Xb h;exact⟨a,gN _ c,b⟩
  |w' t x=>
   rcases aQ.1 (h)with rfl|h
   ·exact⟨_,iK,.inr ⟨t,x,Τ,Τ⟩⟩
   ·obtain⟨a,c,b⟩:=Xb h;exact⟨a,gN _ c,b⟩
theorem NL{a:Nat->Nat}{t off:Nat}{x:Ty}:∀{J:δ Key},Key.o' t off x∈J->(a t,off,off+x.cn)∈NM a J
 |k::J,h=>by
  rcases aQ.1 h with rfl|b
  ·exact iK
  ·cases k with
   |s' _ _=>exact(show _∈NM a J from NL b)
   |o' _ _ _=>exact gN _ (NL b)
   |w' _ _=>exact gN _ (NL b)
theorem BX{a:Nat->Nat}{t:Nat}{x:Ty}:∀{J:δ Key},Key.w' t x∈J->(a t,0,1)∈NM a J
 |k::J,h=>by
  rcases aQ.1 h with rfl|b
  ·exact iK
  ·cases k with
   |s' _ _=>exact(show _∈NM a J from BX b)
   |o' _ _ _=>exact gN _ (BX b)
   |w' _ _=>exact gN _ (BX b)
theorem Iy{S:St}:∀{J:δ Key},ux S J=μ->∀k∈J,match k with
  |.o' t off x=>∃e cs,S.H[S.ix t]? =θ (.bl e cs)/\off+x.cn<=γ cs
  |.w' t _=>wA S.H[S.ix t]? =μ
  |.s' _ _=>True
 |k::J,h,c,b=>by
  have h:=gY h;rcases aQ.1 b with rfl|b
  ·cases c with
   |s' _ _=>trivial
   |o' t off x=>
    have a:=h.1;simp only[gA]at a;split at a
    ·rename_i e cs d;exact⟨e,cs,d,Rx a⟩
    ·cases a
   |w' t x=>have a:=h.1;simp only[gA]at a;exact a
  ·exact Iy h.2 c b
theorem bhi{H:δ Ob}:∀{l:δ SC}{id:Nat},id∈vO H l->wA H[id]? =μ\/∃e cs,H[id]? =θ (.bl e cs)
 |x::l,id,h=>by
  cases x
  case l' i=>
   simp only[vO]at h;cases a:wA (fC H i)with
   |true=>
    rw[a]at h;rcases aQ.1 h with rfl|h
    ·rw[gA]at a;exact .inl a
    ·exact bhi h
   |false=>rw[a]at h;exact bhi h
  case k' i n=>
   simp only[vO]at h;split at h
   ·rename_i e cs b;rcases aQ.1 h with rfl|h
    ·rw[gA]at b;exact .inr ⟨e,cs,b⟩
    ·exact bhi h
   ·exact bhi h
  all_goals exact bhi (l:=l) h
theorem PN{a:Nat->Nat}{F:Nat->SV}{H:δ Ob}:∀{J:δ Key}{id:Nat},id∈eatK a F H J->wA H[id]? =μ\/∃e cs,H[id]? =θ (.bl e cs)
 |k::J,id,h=>by
  rcases aZ.1 h with h|h
  ·cases k with
   |s' t x=>
    simp only at h;cases hx:x.JX with
    |false=>rw[hx]at h;cases h
    |true=>
     rw[hx]at h;split at h
     ·exact bhi h
     ·cases h
   |o' t off x=>
    simp only at h;cases hx:x.JX with
    |false=>rw[hx]at h;cases h
    |true=>
     rw[hx]at h;split at h
     ·split at h
      ·exact bhi h
      ·cases h
     ·cases h
   |w' t x=>cases h
  ·exact PN h
theorem PT:∀{a b:δ Rg},KN (a++b)=μ->∀q∈a,∀r∈b,q.1=r.1->q.2.2<=r.2.1\/r.2.2<=q.2.1
 |x::a,b,h,q,c,r,e,f=>by
  have h:=gY h;rcases aQ.1 c with rfl|c
  ·have key:∀l:δ Rg,KN.VK q l=μ->r∈l->q.2.2<=r.2.1\/r.2.2<=q.2.1:=by
    intro l;induction l with
    |nil=>intro _ h;cases h
    |cons y l j=>
     intro h d;simp only[KN.VK,beqN,bleN,Bool.cond_decide]at h;rcases aQ.1 d with rfl|d
     ·rw[aB f]at h;by_cases i:q.2.2<=r.2.1
      ·exact .inl i
      ·rw[aA i]at h;by_cases g:r.2.2<=q.2.1
       ·exact .inr g
       ·rw[aA g]at h;cases h
     ·refine j ?_ d;split at h
      ·split at h
       ·exact h
       ·split at h
        ·exact h
        ·cases h
      ·exact h
   exact key _ h.1 (XV _ e)
  ·exact PT h.2 q c r e f
theorem S5{n:Nat}{e:δ Nat}:∀{l:δ Nat},tk.tkI n e l=μ->∀id∈l,id<n->id∈e
 |x::l,h,id,b,a=>by
  have h:=gY h;rcases aQ.1 b with rfl|b
  ·have c:=h.1;rw[bleN]at c;have:¬n<=id:=aA0;simp only[this]at c;exact Vl.1 c
  ·exact S5 h.2 id b a
theorem Fgt.len{rs:δ Rg}{id:Nat}{o a:Ob}(h:Fgt rs id o a):a.len=o.len:=by
 cases o with
 |bl e cs=>obtain⟨b,rfl,_⟩:=h;rfl
 |_=>
  rcases h with⟨rfl,_⟩|⟨rfl,_⟩
  ·rfl
  ·rfl
noncomputable def St.base(S:St)(J:δ Key)(w:δ Nat):Fr:=(del S.F w,kill (Vg S.H (NM S.ix J)) (S.zh J))
structure OkJ (S:St) (J:List Key):Prop where
 Fp:S.Fp (S.Qk J)=μ
 dis:KN (S.Qk J)=μ
 chk:ux S J=μ
theorem JF{S:St}{J:δ Key}(h:S.okJ J=μ):OkJ S J:=by have b:=gY h;have a:=gY b.2;have c:=gY a.2;exact⟨b.1,a.1,c.2⟩
section
variable{C:Cx}{w0 w w2:φ}{S0:δ Nat}{ρ cS ρ3:Nat->Ad}{S S2:St}{F F2:Nat->ς}{J:δ Key}{wl:δ Nat}
theorem zI{w:φ}(h:Rel C w0 S0 ρ S F w):LM ρ S.H:=by obtain⟨L,_,a⟩:=h.mem;exact a.lns
theorem zJ{w:φ}(h:Rel C w0 S0 ρ S F w):LN S.H:=by obtain⟨L,b,a⟩:=h.mem;exact a.brk b
theorem PI.zo{H H2:δ Ob}{R:δ Rg}{E:δ Nat}{Fm:Tr SV}(iD:LM ρ H)(P:∀(id e:Nat) cs,H[id]? =θ (.bl e cs)->∀c∈cs,c.ok (γ H))
  (y:∀q∈R,(∃e cs,H[q.1]? =θ (.bl e cs)/\q.2.2<=γ cs)\/(wA H[q.1]? =μ/\q.2=(0,1))) (M:∀id∈E,wA H[id]? =μ\/∃e cs,H[id]? =θ (.bl e cs))
  (a1:Le (γ H) (R++Vh H E) ρ H cS H2) (N:Up (γ H) ρ ρ3) (a5:∀t u,(Re Fm t).v ρ3=θ u->F2 t=u) (a6:∀t,(Re Fm t).ok (γ H)):
  PI (γ H) H2 ρ cS ρ3 F2 E H (R++Vh H E) Fm (kill (Vg H R) E) []:=by
 have C:γ (kill (Vg H R) E)=γ H:=by rw[bhp,bgl]
 have get:∀id o,H[id]? =θ o->∃A,(Vg H R)[id]? =θ A/\Fgt R id o A/\(kill (Vg H R) E)[id]? =if id∈E then θ (.dd o.len)else θ A:=by intro id o f;obtain⟨A,L,d⟩:=eV f;refine⟨A,L,d,?_⟩;rw[QM,L,LW,d.len]
 have w:∀(id:Nat) (A:Ob),(kill (Vg H R) E)[id]? =θ A->∃o,H[id]? =θ o:=by intro id A h;have:=(aE.1 h).1;exact⟨_,aN aA0⟩
 have W:∀{id j:Nat},eM id j (R++Vh H E)=μ->eM id j R=μ\/id∈E:=by
  intro id j h;rcases Ge.1 h with h|h
  ·exact .inl h
  ·obtain⟨q,x,L,_⟩:=wE.1 h;obtain⟨a9,d,rfl⟩:=Sa x;exact .inr (L▸d)
 have G:∀{id j:Nat},eM id j R=μ->eM id j (R++Vh H E)=μ:=λh=>Ge.2 (.inl h);have F:∀{id j:Nat},eM id j (Vh H E)=μ->eM id j (R++Vh H E)=μ:=λh=>Ge.2 (.inr h);refine⟨by rw[C];rfl,a5,λt=>by rw[C];exact a6 t,λid e cs f c X=> ?_,λid o f=> ?_,λid o U f=> ?_,λj s o g=>by simp at g,λid U he=> ?_,λid o f=> ?_⟩
 ·rw[C];obtain⟨o,z⟩:=w id _ f;obtain⟨A,L,d,K⟩:=get id o z;rw[K]at f;split at f
  ·cases f
  ·cases f;cases o with
   |bl e2 B=>
    obtain⟨b2,h4,Y,V⟩:=d;cases h4;obtain⟨j,g⟩:=jK.1 X;rw[V]at g;split at g
    ·cases D:B[j]? with
     |none=>rw[D]at g;cases g
     |some _=>rw[D]at g;cases g;intro i U;cases U
    ·exact P id e B z c (aL g)
   |_=>
    rcases d with⟨d,_⟩|⟨d,_⟩
    ·cases d
    ·cases d
 ·obtain⟨T,z⟩:=w id _ f;obtain⟨A,L,d,K⟩:=get id T z;have a0:=(aE.1 z).1;rw[N id a0,<-iD id T z];rw[K]at f;split at f
  ·cases f;rfl
  ·cases f;exact d.len
 ·obtain⟨T,z⟩:=w id _ f;obtain⟨A,L,d,K⟩:=get id T z;rw[K]at f;have r:=a1.kp id T U z;split at f
  ·cases f;trivial
  ·rename_i J;cases f;have p:∀{j:Nat},eM id j _=μ->eM id j (R)=μ:=λh=>(W h).resolve_right J;cases T with
   |bl e S=>
    obtain⟨cs,rfl,Y,V⟩:=d;rcases r with r|⟨B,a4,a3,a2⟩
    ·exfalso;obtain⟨q,x,I,h8,h9⟩:=wE.1 (p (r (γ S) (dC _)));rcases y q x with⟨e4,Q,a,k⟩|⟨a,k⟩
     ·rw[I,z]at a;cases a;omega
     ·rw[I,z]at a;cases a
    ·refine⟨B,a4,by rw[a3,Y],λj c g O=> ?_⟩;rw[V]at g;split at g
     ·cases D:S[j]? with
      |none=>rw[D]at g;cases g
      |some _=>rw[D]at g;cases g;cases O
     ·rename_i Z;rcases a2 j c g with I|⟨c2,I,h8⟩
      ·exact absurd (p I) Z
      ·refine⟨c2,I,(h8 O).1,?_⟩;rw[(h8 O).2];exact(SC.up N (P id e S z c (aL g))).symm
   |rw e b t l=>
    rcases d with⟨rfl,d⟩|⟨rfl,_⟩
    ·rcases r with r|r
     ·obtain⟨q,x,I,_⟩:=wE.1 (p r);exact absurd I (d q x)
     ·exact r
    ·trivial
   |br m l=>
    rcases d with⟨rfl,d⟩|⟨rfl,_⟩
    ·rcases r with r|r
     ·obtain⟨q,x,I,_⟩:=wE.1 (p r);exact absurd I (d q x)
     ·exact r
    ·trivial
   |ro t l=>
    rcases d with⟨rfl,d⟩|⟨rfl,_⟩
    ·exact r
    ·trivial
   |dd n=>rcases d with⟨rfl,d⟩|⟨rfl,_⟩<;>trivial
 ·obtain⟨o,z⟩:∃o,H[id]? =θ o:=⟨_,aN U⟩;obtain⟨A,L,d,K⟩:=get id o z;rw[K,aB he];exact⟨_,Τ⟩
 ·obtain⟨A,L,d,K⟩:=get id o f;rw[K];by_cases J:id∈E
  ·rw[aB J];cases o with
   |bl e cs=>exact .inl λj g=>F (Jm f J g)
   |rw e b t l=>exact .inl (F (azk J))
   |br m l=>exact .inl (F (azk J))
   |ro t l=>rcases M id J with h|⟨_,_,h⟩<;>rw[f]at h<;>cases h
   |dd n=>rcases M id J with h|⟨_,_,h⟩<;>rw[f]at h<;>cases h
  ·rw[aA J];cases o with
   |bl e cs=>
    obtain⟨B,rfl,Y,V⟩:=d;refine .inr ⟨B,Τ,Y,λj c g=> ?_⟩;by_cases X:eM id j (R)=μ
    ·exact .inl (G X)
    ·exact .inr ⟨c,by rw[V,aA X];exact g,λr=>⟨r,SC.up N (P id e cs f c (aL g))⟩⟩
   |rw e b t l=>
    rcases d with⟨rfl,_⟩|⟨rfl,q,x,rfl⟩
    ·exact .inr Τ
    ·rcases y q x with⟨e4,Q,a,k⟩|⟨a,k⟩
     ·rw[f]at a;cases a
     ·exact .inl (G (wE.2 ⟨q,x,Τ,by rw[k];exact dC _,by rw[k];exact Ib⟩))
   |br m l=>
    rcases d with⟨rfl,_⟩|⟨rfl,q,x,rfl⟩
    ·exact .inr Τ
    ·rcases y q x with⟨e4,Q,a,k⟩|⟨a,k⟩
     ·rw[f]at a;cases a
     ·exact .inl (G (wE.2 ⟨q,x,Τ,by rw[k];exact dC _,by rw[k];exact Ib⟩))
   |ro t l=>
    rcases d with⟨rfl,_⟩|⟨rfl,q,x,rfl⟩
    ·rfl
    ·rcases y q x with⟨e4,Q,a,k⟩|⟨a,k⟩<;>rw[f]at a<;>cases a
   |dd n=>rcases d with⟨rfl,_⟩|⟨rfl,_⟩<;>rfl
theorem PI.base(b:Rel C w0 S0 ρ S F w)(f:OkJ S J)(d:Le (γ S.H) (S.Qk J) ρ S.H cS S2.H)(g:∀t,t∉wl->F2 t=F t)(a:Up (γ S.H) ρ ρ3):
  PI (γ S.H) S2.H ρ cS ρ3 F2 (S.zh J) S.H (S.Qk J) (S.base J wl).1 (S.base J wl).2 []:=by
 refine PI.zo (zI b) b.ho (λq i=> ?_) (λid hid=>PN hid) d a (λt u c=> ?_) (λt=> ?_)
 ·obtain⟨k,e,⟨t,off,x,rfl,rfl⟩|⟨t,x,rfl,rfl⟩⟩:=Xb i
  ·exact .inl (Iy f.chk _ e)
  ·exact .inr ⟨Iy f.chk _ e,Τ⟩
 ·rw[show(S.base J wl).1=del S.F wl from rfl,Yz]at c;split at c
  ·cases c
  ·rename_i h;rw[g t h];refine b.fr t u ?_;rw[<-SV.up a (b.fo t)];exact c
 ·rw[show(S.base J wl).1=del S.F wl from rfl,Yz];split
  ·trivial
  ·exact b.fo t
theorem Yk(V:Rel C w0 S0 ρ S F w)(O:OkJ S J)(y:Le (γ S.H) (S.Qk J) ρ S.H cS S2.H)(h:Rel C w0 S0 cS S2 F2 w2)(Y:∀t,t∉wl->F2 t=F t){v:(qE J).T}(f:leaf S J S2=θ v):
  ∃ρ3,Up (γ S.H) ρ ρ3/\(∀D:St,D.F=(Gn S.ix (S.base J wl) J v).1->D.H=(Gn S.ix (S.base J wl) J v).2->Rel C w0 S0 ρ3 D F2 w2)/\
   ∀(E:Nat) (R:δ Rg),(∀id j,id<E->eM id j (S.Qk J)=μ->eM id j R=μ)->Le E R ρ S.H ρ3 (Gn S.ix (S.base J wl) J v).2:=by
 unfold leaf at f;split at f
 ·rename_i v2 q Z;cases a:tk S J q with
  |false=>rw[a]at f;cases f
  |true=>
   cases l:IC (γ S.H) (S.Qk J) S2.m with
   |false=>rw[a,l]at f;cases f
   |true=>
    rw[a,l]at f;cases f;have a:=gY a
    let ρ3:Nat->Ad:=λid=>if id<γ S.H then cS id else match q[id-γ S.H]? with
     |some s=>s.ad cS
     |none=>cS id
    have c:Up (γ S.H) cS ρ3:=λid K=>by simp only[ρ3,K,gZ]
    have d:Up (γ S.H) ρ ρ3:=y.up.trans c (dC _);have z:∀(j:Nat) (s:Src),q[j]? =θ s->ρ3 (γ S.H+j)=s.ad cS:=by intro j s hj;have p:¬γ S.H+j<γ S.H:=aA0;have B:γ S.H+j-γ S.H=j:=aA0;simp only[ρ3,p,GL,B,hj]
    have X:=PI.base (wl:=wl) V O y Y d;have r:γ (S.base J wl).2=γ S.H:=X.len;have I:∀k∈J,KC (γ S.H) S.H (S.zh J) (S.Qk J) S.ix k:=by
     intro k A;have b:=Iy O.chk k A;cases k with
     |s' _ _=>trivial
     |o' t off x=>obtain⟨e,cs,p,B⟩:=b;exact⟨(aE.1 p).1,λj h3 h4=>Ge.2 (.inl (wE.2 ⟨_,NL A,Τ,h3,h4⟩))⟩
     |w' t x=>
      have b:wA S.H[S.ix t]? =μ:=b;have G:S.ix t<γ S.H:=by
       cases p:S.H[S.ix t]? with
       |none=>rw[p]at b;cases b
       |some _=>exact(aE.1 p).1
      refine⟨G,Ge.2 (.inl (wE.2 ⟨_,BX A,Τ,dC _,Ib⟩)),λhE=> ?_,b⟩;have:=PT (show KN (NM S.ix J++Vh S.H (S.zh J))=μ from O.dis) _ (BX A) _ (bfr hE) Τ
      have h5:0<(wM S.H (S.ix t)).2.2:=by
       unfold wM;simp only;split
       ·exact Nat.succ_pos _
       ·exact Ib
      rcases this with Q|Q
      ·exact absurd Q (by show¬1<=0;omega)
      ·exact absurd Q (by show¬_<=0;omega)
    have n:=PI.steps (zI h) (zJ h) (dC _) c h.fr J _ _ [] v q X Z I (by rw[r];exact z);rw[yL]at n;obtain⟨L,hH,hM⟩:=h.mem;obtain⟨L3,P,N⟩:=n.mem hH hM c z (mU.1 a.1) (S5 a.2);refine⟨ρ3,d,λD W i=> ?_,λE R M=> ?_⟩
    ·refine⟨λg id hg=> ?_,λt u U=> ?_,λt=> ?_,?_,⟨L3,P,by rw[i];exact N⟩⟩
     ·obtain⟨p,B⟩:=V.gl g id hg;have:=n.len;rw[i];exact⟨by have:γ (Gn S.ix (S.base J wl) J v).2=γ S.H+γ q:=this;omega,by rw[d id p];exact B⟩
     ·rw[St.at_eq,W]at U;exact n.fr t u U
     ·rw[St.at_eq,W,i];exact n.fo t
     ·rw[i];exact n.ho
    ·refine⟨?_,d,λid o K ho=>(n.kp id o ho).mono λj=>M id j K⟩;have:γ (Gn S.ix (S.base J wl) J v).2=γ S.H+γ q:=n.len;omega
 ·cases f
end
open Go.Wk
open Go.Ce (Tr)
open List renaming range → Ic
section
variable{P:Θ}{n:Md}{Q:Exit->Act->φ->Prop}{F:Nat->ς}{w:φ}
variable{c:Code}{a:Nat->ς}
theorem c_fr(h:Go.Wk.C P n Q c F w)(e:fr n a=fr n F):Go.Wk.C P n Q c a w:=by unfold Go.Wk.C at h⊢;rw[e];exact h
theorem QN{f G:Nat->ς}{t:Nat}:∀{l:δ Nat},app (l.map λt=>(t,f t)) G t=if t∈l then f t else G t
 |[]=>by simp[app]
 |x::l=>by
  show cY _ x _ t=_;by_cases h:t=x
  ·subst h;rw[vu];simp
  ·rw[Jt _ _ _ _ h,QN];simp[h]
theorem xS{f:Nat->ς}:∀{l:δ Nat},mB f (l.map λt=>(t,f t))
 |[]=>trivial
 |x::l=>⟨Τ,xS⟩
theorem eg(h:∀t,t<n.n->a t=F t):fr n a=fr n F:=by unfold fr;congr 1;congr 1;funext i;exact h i.val i.isLt
theorem va(I:Nat->(Nat->ς)->φ->Prop)(d:Nat)(m:I d F w)(round:∀k F w,I k F w->Go.Wk.C P n (Exit.then (λa' w'=>∃k' b,a'=fr n b/\k'<k/\I k' b w') Q) c F w):Go.Wk.C P n Q (.loop c) F w:=by
 refine ig (σ:=Nat×(Nat->ς)) (λs=>(Ic n.n).map λt=>(t,s.2 t)) (λs w=>I s.1 s.2 w) (λs=>s.1) (d,F) xS m λs w G g=> ?_;have e:fr n (app ((Ic n.n).map λt=>(t,s.2 t)) G)=fr n s.2:=eg λt f=>by rw[QN];simp[f]
 refine c_fr (KT (round s.1 s.2 w g) λe a w' h=> ?_) e;cases e with
 |normal=>obtain⟨k',b,l,j,i⟩:=h;exact⟨(k',b),b,l,xS,i,j⟩
 |_=>exact h
theorem Xk(h:Go.Wk.C P n Q c F w):Ev P n c Q .normal (fr n F) w:=by exact kY h
end
structure Lf (S:St) (ρ:Nat->Ad) (S2:St) (cS:Nat->Ad):Prop where
 nb:S2.nb=S.nb
 al:S2.al=S.al
 le:Le S.nb S.al ρ S.H cS S2.H
structure Nx (S:St) (ρ:Nat->Ad) (S2:St) (cS:Nat->Ad):Prop extends Lf S ρ S2 cS where
 lg:Le (γ S.H) S2.m ρ S.H cS S2.H
 mm:∀id j,eM id j S.m=μ->eM id j S2.m=μ
theorem Lf.refl{S:St}{ρ:Nat->Ad}:Lf S ρ S ρ:=⟨Τ,Τ,Le.refl⟩
theorem Lf.trans{S S2 d:St}{ρ a ρ3:Nat->Ad}(h:Lf S ρ S2 a)(b:Lf S2 a d ρ3):Lf S ρ d ρ3:=by have c:=b.le;rw[h.nb,h.al]at c;exact⟨b.nb.trans h.nb,b.al.trans h.al,h.le.trans c⟩
theorem Nx.refl{S:St}{ρ:Nat->Ad}:Nx S ρ S ρ:=⟨Lf.refl,Le.refl,λ_ _ h=>h⟩
theorem Nx.trans{S S2 d:St}{ρ a ρ3:Nat->Ad}(h:Nx S ρ S2 a)(c:Nx S2 a d ρ3):Nx S ρ d ρ3:=
 ⟨h.toLf.trans c.toLf,(h.lg.mono (dC _) λid j _ b=>c.mm id j b).trans (c.lg.mono h.lg.len λid j _ b=>b),λid j b=>c.mm id j (h.mm id j b)⟩
def exO:Ex->Exit
 |.nm=>.normal
 |.xt i=>.exit i
def WT(C:Cx)(md:Md)(c:Code)(F:Nat->ς):Prop:=∀(i d:Nat) o,au (opsOf c) i=μ->(opsOf c)[i]? =θ o->o.dst=θ d->∃b a,(χ (aU md F) o).run C.P b=.ok (.value (F d)) a
def Zw(C:Cx)(md:Md):Prop:=∀w0 S0 a S F w op v H (m:δ Rg),Rel C w0 S0 a S F w->lU op=μ->opP C (S.ev C) S.H op=θ ⟨[],v,H,m⟩->∀w',vB C md a S F w' op v
def ke(C:Cx)(md:Md)(w0:φ)(S0:δ Nat)(id:Nat)(a:Array Ι)(d:η):Prop:=∀(e:Ty) S f (r:e.T) h F w Q,(bif d then KM C a S f else TO C a.toList a.toList 0 S f)=θ r->Rel C w0 S0 h S F w->
 (∀g b c i,f g=θ r->Rel C w0 S0 b g c i->Nx S h g b->(∀t,t∉Fh a.toList->c t=F t)->WT C md (.region id a d) c->Q .normal (fr md c) i)->Go.Wk.C C.P md Q (.region id a d) F w
def oT(C:Cx)(md:Md)(w0:φ)(S0:δ Nat):Code->Prop
 |.region id c d=>ke C md w0 S0 id c d
 |.seq a b=>oT C md w0 S0 a/\oT C md w0 S0 b
 |.cond _ a b=>oT C md w0 S0 a/\oT C md w0 S0 b
 |.block _ a=>oT C md w0 S0 a
 |.loop a=>oT C md w0 S0 a
 |.scope a=>oT C md w0 S0 a
 |_=>True
section
variable{C:Cx}{md:Md}{w0:φ}{S0:δ Nat}{τ:Ty}{res:St->ε τ.T}
variable{a:Nat->Ad}{S:St}{F:Nat->ς}{w:φ}
theorem Rel.same{S2:St}(h:Rel C w0 S0 a S F w)(d:S2.F=S.F)(ρ:S2.H=S.H):Rel C w0 S0 a S2 F w:=by
 have b:∀t,S2.at t=S.at t:=λt=>by rw[St.at_eq,St.at_eq,d]
 refine⟨?_,λt v c=>h.fr t v (by rw[<-b];exact c),λt=>by rw[b,ρ];exact h.fo t,?_,?_⟩
 ·rw[ρ];exact h.gl
 ·rw[ρ];exact h.ho
 ·rw[ρ];exact h.mem
theorem Rel.set{ρ:Nat->Ad}{S:St}{F:Nat->ς}{w:φ}(h:Rel C w0 S0 ρ S F w){d:Nat}{v:SV}(b:∀u,v.v ρ=θ u->F d=u)(c:v.ok (γ S.H)):Rel C w0 S0 ρ (S.set d v) F w:=by
 refine⟨h.gl,λt u a=> ?_,λt=> ?_,h.ho,h.mem⟩
 ·rw[kR]at a;by_cases e:t=d
  ·rw[aB e]at a;subst e;exact b u a
  ·rw[aA e]at a;exact h.fr t u a
 ·rw[kR];by_cases e:t=d
  ·rw[aB e];exact c
  ·rw[aA e];exact h.fo t
theorem Pc(l:Zw C md){c:Code}{ρ:Nat->Ad}{F:Nat->ς}{w:φ}(b:WT C md c F):∀R S,okR (opsOf c) R=μ->Rel C w0 S0 ρ S F w->
  Rel C w0 S0 ρ (Vc C (opsOf c) R S) F w/\(Vc C (opsOf c) R S).H=S.H/\(Vc C (opsOf c) R S).nb=S.nb/\(Vc C (opsOf c) R S).al=S.al/\(Vc C (opsOf c) R S).m=S.m
 |[],S,_,h=>⟨h,Τ,Τ,Τ,Τ⟩
 |i::R,S,g,h=>by
  have g:=gY g;have a:=Pc l b R S g.2 h;simp only[Vc];split
  ·rename_i o r;split
   ·rename_i d t;split
    ·rename_i v H m n
     ·rw[gA]at r;obtain⟨y,E,A⟩:=b i d o g.1 r t;have f:=g.1;unfold au at f;rw[gA,r]at f;have f:=gY f;have D:=gY f.2;obtain⟨p,u,z,hx⟩:=l w0 S0 ρ S F w o.op v H m h D.1 n y;have s:o.guard=ι:=by
       cases s:o.guard with
       |none=>rfl
       |some q=>rw[s]at f;cases f.1
      have k:u=F d:=by
       have e:o=⟨θ d,o.op,o.type,o.pos,o.after,ι⟩:=by rw[<-t,<-s]
       have x:=hx d o.type o.pos o.after;rw[<-e,A]at x;cases x;rfl
      have B:=Pc l b R (S.set d v) g.2 (h.set (λG j=>by rw[z]at j;cases j;exact k.symm) p);exact B
    ·exact a
   ·exact a
  ·exact a
theorem KW{T:Type}(h:Rel C w0 S0 a S F w)(f:C.nn=md.n){c:Β}{y n:ε T}{r:T}(ρ:ir (S.ev C c) y n=θ r):
  ∃b,aU md F c=.bool b/\(b=μ->y=θ r)/\(b=ν->n=θ r):=by
 unfold ir at ρ;split at ρ
 ·rename_i x hx;refine⟨x,(nQ h f hx).2,λe=> ?_,λe=> ?_⟩<;>(subst e;exact ρ)
 ·rename_i p d hx;refine⟨@decide p d,(nQ h f hx).2,λe=> ?_,λe=> ?_⟩
  ·rw[aB (cC e)]at ρ;exact ρ
  ·rw[aA (fG e)]at ρ;exact ρ
 ·rename_i p d hx;refine⟨!@decide p d,(nQ h f hx).2,λe=> ?_,λe=> ?_⟩
  ·have:¬p:=by simpa using e
   rw[aA this]at ρ;exact ρ
  ·have:p:=by simpa using e
   rw[aB this]at ρ;exact ρ
 ·cases ρ
def Snd(C:Cx)(md:Md)(w0:φ)(S0:δ Nat)(τ:Ty)(res:St->ε τ.T)(c:Code):Prop:=
 ∀k S g j i r h F w Q,den C τ res c k S g j i=θ r->Rel C w0 S0 h S F w->
  (∀e b a d f,i e b=θ r->Rel C w0 S0 a b d f->Nx S h b a->(∀t,t∉wr c->d t=F t)->(e=.nm->WT C md c d)->Q (exO e) (fr md d) f)->
  (∀y b a d f,res b=θ y->j y=θ r->Rel C w0 S0 a b d f->Lf S h b a->Q .ret (fr md d) f)->Go.Wk.C C.P md Q c F w
theorem jh{c:Code}(h:opsOf c=[]):WT C md c F:=λi d o _ a=>by rw[h]at a;simp at a
end
open Go.Wk
open Go.Ce (Tr)
open Nat renaming beq → cT
section
variable{C:Cx}{md:Md}{w0:φ}{S0:δ Nat}{τ:Ty}{res:St->ε τ.T}
variable{S c:St}{J:δ Key}{v:(qE J).T}
theorem DK(h:leaf S J c=θ v):IC (γ S.H) (S.Qk J) c.m=μ:=by
 unfold leaf at h;split at h
 ·cases a:tk S J _ with
  |false=>rw[a]at h;cases h
  |true=>
   cases b:IC (γ S.H) _ c.m with
   |false=>rw[a,b]at h;cases h
   |true=>rfl
 ·cases h
variable{w:δ Nat}
theorem out_F:(S.out J w v).F=(Gn S.ix (S.base J w) J v).1:=rfl
theorem ym:(S.out J w v).H=(Gn S.ix (S.base J w) J v).2:=rfl
variable{d:Code}
theorem mN{b:Code}(L:Snd C md w0 S0 τ res d)(K:Snd C md w0 S0 τ res b)(D B:Sc)(S:St)(ρ':Ty)(k:τ.T->ε ρ'.T)(l:Ex->St->ε ρ'.T)(r:ρ'.T)(ρ:Nat->Ad)(F:Nat->ς)(w:φ)(Q:Exit->Act->φ->Prop)
  (h:den C τ res d D S ρ' k (Fi l λS2=>den C τ res b B S2 ρ' k l)=θ r) (M:Rel C w0 S0 ρ S F w)
  (I:∀e S2 c F2 a,l e S2=θ r->Rel C w0 S0 c S2 F2 a->Nx S ρ S2 c->(∀t,t∉wr (.seq d b)->F2 t=F t)->(e=.nm->WT C md (.seq d b) F2)->Q (exO e) (fr md F2) a)
  (H:∀y S2 c F2 a,res S2=θ y->k y=θ r->Rel C w0 S0 c S2 F2 a->Lf S ρ S2 c->Q .ret (fr md F2) a):Go.Wk.C C.P md Q (.seq d b) F w:=by
 have J:wr (.seq d b)=wr d++wr b:=Τ;refine jR (L D S ρ' k _ r ρ F w _ h M (λe S2 c F2 a G f v E _=> ?_) (λy S2 c F2 a o p f x=>vN (H y S2 c F2 a o p f x)));cases e with
 |nm=>refine Xk (K B S2 ρ' k l r c F2 a Q G f (λN z g A n s j u q _=> ?_) (λy z g A n o p j x=>H y z g A n o p j (v.toLf.trans x)));exact I N z g A n s j (v.trans u) (λt m=>by rw[q t λh=>m (XV _ h),E t λh=>m (XU _ h)]) (λ_=>jh Τ)
 |xt i=>exact Hn (I _ S2 c F2 a G f v (λt m=>E t λh=>m (by rw[J];exact XU _ h)) (λh=>by cases h))
variable{a b:Nat->Ad}
theorem nx_out{H:δ Ob}(l:OkJ S J)(h:c.H=H)(d:c.nb=S.nb)(e:c.al=S.al)(g:c.m=S.Qk J++S.m)(ρ:∀f i,(∀id j,id<f->eM id j (S.Qk J)=μ->eM id j i=μ)->Le f i a S.H b H):Nx S a c b:=by
 refine⟨⟨d,e,?_⟩,?_,λid j m=> ?_⟩
 ·rw[h];exact ρ S.nb S.al λid j k m=>zS l.Fp k m
 ·rw[h,g];exact ρ _ _ λid j _ m=>Ge.2 (.inl m)
 ·rw[g];exact Ge.2 (.inr m)
theorem ta(h:Le (γ S.H) c.m a S.H b c.H)(e:IC (γ S.H) (S.Qk J) c.m=μ):Le (γ S.H) (S.Qk J) a S.H b c.H:=
 h.mono (dC _) λid j ρ d=>Wo e ρ d
theorem aq(i:Zw C md){F F2:Nat->ς}{x e:φ}(k:Rel C w0 S0 a S F x)(g:OkJ S J)(l:okR (opsOf d) w=μ)(ρ:Rel C w0 S0 b c F2 e)(m:Nx S.Yl a c b)
  (j:∀t,t∉wr d->F2 t=F t) (R:WT C md d F2)  (f:leaf S J c=θ v):∃ρ3,Rel C w0 S0 ρ3 (Vc C (opsOf d) w (S.out J (wr d) v)) F2 e/\Nx S a (Vc C (opsOf d) w (S.out J (wr d) v)) ρ3:=by
 obtain⟨ρ3,h,u,s⟩:=Yk k g (ta m.lg (DK f)) ρ j f;obtain⟨r,q,p,o,n⟩:=Pc i R w _ l (u _ out_F ym);exact⟨ρ3,r,nx_out g (q.trans ym) p o n s⟩
theorem VO(hn:C.nn=md.n)(hD:∃k,md=⟨k,[],ι⟩)(hp:Zw C md):∀c,oT C md w0 S0 c->Snd C md w0 S0 τ res c:=by
 intro c;induction c with
 |skip=>intro _ Z S m A z r E F w Q h D K U;exact lY (K .nm S E F w h D Nx.refl (λ_ _=>rfl) (λ_=>jh Τ))
 |label l=>intro _ Z S m A z r E F w Q h D K U;exact vb (K .nm S E F w h D Nx.refl (λ_ _=>rfl) (λ_=>jh Τ))
 |exit id=>intro _ Z S m A z r E F w Q h D K U;exact Hm (K (.xt id) S E F w h D Nx.refl (λ_ _=>rfl) (λh=>by cases h))
 |goto l=>intro _ Z S m A z r E F w Q h;cases h
 |refuse l=>intro _ Z S m A z r E F w Q h;cases h
 |rangeFunc f p a b _ _=>intro _ Z S m A z r E F w Q h;cases h
 |ret=>
  intro _ Z S m A z r E F w Q h D K U;have h:(match res S with
   |some q=>A q
   |none=>ι)=θ r:=h
  split at h
  ·rename_i q hq;exact nM (U q S E F w hq h D Lf.refl)
  ·cases h
 |region id e2 d=>intro u Z S m A z r E F w Q h D K U;exact u m S (λS2=>z .nm S2) r E F w Q h D λS2 s F2 L Y o X W M=>K .nm S2 s F2 L Y o X W (λ_=>M)
 |scope a ih=>
  intro u Z S m A z r E F w Q h D K U;obtain⟨k,rfl⟩:=hD;refine Zk (ih u Z S m A z r E F w _ h D (λe S2 s F2 L B o X W M=> ?_) (λy S2 s F2 L hy G o hL=>Tk (U y S2 s F2 L hy G o hL)));have:=K e S2 s F2 L B o X W (λ_=>jh Τ);cases e with
  |nm=>exact az this
  |xt i=>exact n_exit this
 |block id a ih=>
  intro u Z S m A z r E F w Q h D K U;refine QC (ih u Z S m A (yv id z) r E F w _ h D (λe S2 s F2 L B o X W M=> ?_) (λy S2 s F2 L hy G o hL=>b_ret (U y S2 s F2 L hy G o hL)));cases e with
  |nm=>exact jd (K .nm S2 s F2 L B o X W (λ_=>jh Τ))
  |xt i=>
   have B:(bif cT i id then z .nm S2 else z (.xt i) S2)=θ r:=B;cases hb:cT i id with
   |true=>rw[hb]at B;rw[gO hb];exact Hl (K .nm S2 s F2 L B o X W (λ_=>jh Τ))
   |false=>rw[hb]at B;exact jc hb (K (.xt i) S2 s F2 L B o X W (λh=>by cases h))
 |cond c a b O N=>
  intro u Z S m A z r E F w Q h D K U;have a8:wr (.cond c a b)=wr a++wr b:=Τ;have hA:∀V,den C τ res a V S m A z=θ r->Go.Wk.C C.P md Q a F w:=λV h=>O u.1 V S m A z r E F w Q h D (λe S2 s F2 L B o X W _=>K e S2 s F2 L B o X (λt ht=>W t λh=>ht (by rw[a8];exact XU _ h)) (λ_=>jh Τ)) U;have hB:∀sb,den C τ res b sb S m A z=θ r->Go.Wk.C C.P md Q b F w:=λsb h=>N u.2 sb S m A z r E F w Q h D (λe S2 s F2 L B o X W _=>K e S2 s F2 L B o X (λt ht=>W t λh=>ht (by rw[a8];exact XV _ h)) (λ_=>jh Τ)) U;have both:∀V sb,ir (S.ev C c) (den C τ res a V S m A z) (den C τ res b sb S m A z)=θ r->Go.Wk.C C.P md Q (.cond c a b) F w:=by intro V sb h;obtain⟨x,h1,Y,h3⟩:=KW D hn h;exact lZ h1 (λe=>hA V (Y e)) (λe=>hB sb (h3 e))
  cases Z with
  |y' V=>obtain⟨x,h1,Y,h3⟩:=KW D hn (show ir (S.ev C c) (den C τ res a V S m A z) ι=θ r from h);exact lZ h1 (λe=>hA V (Y e)) (λe=>by have:=h3 e;cases this)
  |z' sb=>obtain⟨x,h1,Y,h3⟩:=KW D hn (show ir (S.ev C c) ι (den C τ res b sb S m A z)=θ r from h);exact lZ h1 (λe=>by have:=Y e;cases this) (λe=>hB sb (h3 e))
  |n'=>exact both _ _ h
  |s' x y=>exact both _ _ h
  |j' J R x y=>exact both _ _ h
  |r' J R x y=>exact both _ _ h
  |l' J x=>exact both _ _ h
 |seq a b O N=>
  intro u Z S m A z r E F w Q h D K U;have O:=O u.1;have N:=N u.2;have a8:wr (.seq a b)=wr a++wr b:=Τ;cases Z with
  |j' J R V sb=>
   have h:(bif S.okJ J then(bif okR (opsOf a) R then Option.bind (den C τ res a V S.Yl (qE J) (λ_=>ι) (Fi noK (leaf S J))) (λv=>den C τ res b sb (Vc C (opsOf a) R (S.out J (wr a) v)) m A z)else ι)else ι)=θ r:=h;have h:=dD h;have Y:=dD h.2;have hJ:=JF h.1;obtain⟨v,h3,h4⟩:=Bf Y.2;refine jR (O V S.Yl (qE J) _ _ v E F w _ h3 (D.same Τ Τ) (λe S2 s F2 L B o X W M=> ?_) (λy S2 s F2 L hy G=>by cases G));cases e with
   |xt i=>cases B
   |nm=>obtain⟨a1,h5,h6⟩:=aq hp D hJ Y.1 o X W (M Τ) B;refine Xk (N sb _ m A z r a1 F2 L Q h4 h5 (λe3 S3 a0 F3 w3 b7 a4 b8 b5 _=> ?_) (λy S3 a0 F3 w3 hy G a4 hL=>U y S3 a0 F3 w3 hy G a4 (h6.toLf.trans hL)));exact K e3 S3 a0 F3 w3 b7 a4 (h6.trans b8) (λt ht=>by rw[b5 t λh=>ht (XV _ h),W t λh=>ht (XU _ h)]) (λ_=>jh Τ)
  |r' J R V sb=>
   have h:=dD h;have Y:=dD h.2;have hJ:=JF h.1;obtain⟨v,h3,h4⟩:=Bf Y.2;refine jR (O V S.Yl (.sm (qE J) τ) _ _ v E F w _ h3 (D.same Τ Τ) (λe S2 s F2 L B o X W M=> ?_) (λy S2 s F2 L hy G o hL=> ?_))
   ·cases e with
    |xt i=>cases B
    |nm=>
     have B:bm τ S J S2=θ v:=B;unfold bm at B;split at B
     ·rename_i v2 a9;cases B;obtain⟨a1,h5,h6⟩:=aq hp D hJ Y.1 o X W (M Τ) a9;refine Xk (N sb _ m A z r a1 F2 L Q h4 h5 (λe3 S3 a0 F3 w3 b7 a4 b8 b5 _=> ?_) (λy S3 a0 F3 w3 hy G a4 hL=>U y S3 a0 F3 w3 hy G a4 (h6.toLf.trans hL)));exact K e3 S3 a0 F3 w3 b7 a4 (h6.trans b8) (λt ht=>by rw[b5 t λh=>ht (XV _ h),W t λh=>ht (XU _ h)]) (λ_=>jh Τ)
     ·cases B
   ·cases G;exact vN (U y S2 s F2 L hy h4 o ⟨hL.nb,hL.al,hL.le⟩)
  |n'=>exact mN O N _ _ S m A z r E F w Q h D K U
  |s' x y=>exact mN O N _ _ S m A z r E F w Q h D K U
  |l' J x=>exact mN O N _ _ S m A z r E F w Q h D K U
  |y' x=>exact mN O N _ _ S m A z r E F w Q h D K U
  |z' x=>exact mN O N _ _ S m A z r E F w Q h D K U
 |loop a ih=>
  intro u Z S m A z r E F w Q h D K U;have a8:wr (.loop a)=wr a:=Τ;cases Z with
  |l' J V=>
   have h:(bif S.okJ J then(match leaf S J S.Yl with
    |some v=>bJ (λg v=>den C τ res a V (S.head J (wr a) v) m A (Fi (λe S2=>z e (S2.as S J)) (FY (leaf S J) g))) C.fu v
    |none=>ι)else ι)=θ r:=h
   have h:=dD h;have hJ:=JF h.1;have Y:=h.2;split at Y
   ·rename_i v hv;generalize c5:(λ(g:(qE J).T->ε m.T) v=>den C τ res a V (S.head J (wr a) v) m A (Fi (λe S2=>z e (S2.as S J)) (FY (leaf S J) g)))=f0 at Y;let I:Nat->(Nat->ς)->φ->Prop:=λk F' w'=>∃(v:(qE J).T) (m:Nat->Ad),bJ f0 k v=θ r/\Rel C w0 S0 m (S.head J (wr a) v) F' w'/\(∀(nb:Nat) (al:δ Rg),(∀id j,id<nb->eM id j (S.Qk J)=μ->eM id j al=μ)->Le nb al E S.H m (S.head J (wr a) v).H)/\∀t,t∉wr a->F' t=F t;have d3:I C.fu F w:=by obtain⟨a1,d0,h3,h4⟩:=Yk (S2:=S.Yl) (wl:=wr a) (F2:=F) D hJ Le.refl (D.same Τ Τ) (λ_ _=>rfl) hv;exact⟨v,a1,Y,h3 _ Τ Τ,h4,λ_ _=>rfl⟩
    refine va I C.fu d3 λk F' w' hI=> ?_;obtain⟨v',c3,h3,h4,h5,h6⟩:=hI;cases k with
    |zero=>cases h3
    |succ k=>
     rw[<-c5]at h3;have c6:Lf S E (S.head J (wr a) v') c3:=⟨Τ,Τ,h5 _ _ λid j hi hc=>zS hJ.Fp hi hc⟩;refine ih u V (S.head J (wr a) v') m A _ r c3 F' w' _ h3 h4 (λe S2 s F2 L B o X W M=> ?_) (λy S2 s F2 L hy G o hL=>Vf (U y S2 s F2 L hy G o (c6.trans hL)));have b6:∀t,t∉wr a->F2 t=F t:=λt ht=>(W t ht).trans (h6 t ht);cases e with
     |nm=>
      have B:FY (leaf S J) (bJ f0 k) S2=θ r:=by rw[c5]at B;exact B
      unfold FY at B;split at B
      ·rename_i v2 a9;have d2:Le (γ S.H) (S.Qk J) E S.H s S2.H:=(h5 (γ S.H) (S.Qk J) λ_ _ _ h=>h).trans (X.lg.mono (h5 0 [] (λid j hi=>absurd hi aA0)).len λid j hi hc=>Wo (DK a9) hi hc);obtain⟨a1,d0,h7,h8⟩:=Yk (wl:=wr a) D hJ d2 o b6 a9;exact q_loop ⟨k,F2,Τ,Rw k,v2,a1,B,h7 _ Τ Τ,h8,b6⟩
      ·cases B
     |xt i=>
      refine Jb (K (.xt i) (S2.as S J) s F2 L B (o.same Τ Τ) ⟨?_,?_,λid j hc=> ?_⟩ (λt ht=>b6 t (by rw[a8]at ht;exact ht)) (λh=>by cases h))
      ·have:=c6.trans X.toLf;exact⟨this.nb,this.al,this.le⟩
      ·refine(h5 (γ S.H) _ λid j _ hc=>Ge.2 (.inr (Ge.2 (.inl hc)))).trans ?_;exact X.lg.mono (h5 0 [] (λid j hi=>absurd hi aA0)).len λid j _ hc=>Ge.2 (.inl hc)
      ·exact Ge.2 (.inr (Ge.2 (.inr hc)))
   ·cases Y
  |_=>cases h
end
end Go.Oe
namespace Go.Ce
open Go.Wk
section
variable{C:Cx}{m:M}{S:T}{n:Md}{w0 w:φ}{E:En}
variable{d:ε Nat}{ty:Ε}{pos:String}{Ψ:Array Edge}{gd:ε (Nat×η)}
theorem yy:∀(off:Nat) (vs cells:δ ς) (k:Nat),off+k+γ vs<=γ cells->
  (vs.zipIdx k).foldl (λcs (p:ς×Nat)=>cs.setIfInBounds (off+p.2) p.1) cells.toArray=(cells.take (off+k)++vs++cells.drop (off+k+γ vs)).toArray
 |off,[],cells,k,h=>by simp
 |off,v::vs,cells,k,h=>by
  simp only[dT]at h;simp only[List.zipIdx_cons,QW];have e:(cells.toArray.setIfInBounds (off+k) v)=(cells.set (off+k) v).toArray:=aA2;rw[e,yy off vs _ _ aA3];congr 1;have c:(cells.set (off+k) v).take (off+(k+1))=cells.take (off+k)++[v]:=by rw[List.set_eq_take_append_cons_drop,aB aA0];have a:γ (cells.take (off+k))=off+k:=aA3;rw[fA,a,xi (by rw[a];omega),show off+(k+1)-(off+k)=1 by omega];simp
  have b:(cells.set (off+k) v).drop (off+(k+1)+γ vs)=cells.drop (off+k+(γ vs+1)):=by rw[List.drop_set_of_lt aA0];congr 1;omega
  rw[c,b];simp
end
end Go.Ce
namespace Go.Oe
open Go.Wk
open Go.Ce (Tr)
open Go.IntKind renaming wrap → fD
section
variable{C:Cx}{md:Md}{w0 w:φ}{S0:δ Nat}{ρ:Nat->Ad}{S:St}{F:Nat->ς}
variable{t:Nat}
theorem Tj{z:Nat}(h:Sn C t=θ z)(w:φ):(Ο t).run C.P w=.ok z w:=yS h w
variable{z:η}
theorem TS(h:S9 C t=θ z)(w:φ):(isAgg t).run C.P w=.ok z w:=yS h w
theorem Cw(h:wB C t=μ):C.P.underlying t=θ .string:=by
 unfold wB at h;split at h
 ·assumption
 ·cases h
theorem oBool(h:isBool C t=μ):C.P.underlying t=θ .bool:=by
 unfold isBool at h;split at h
 ·assumption
 ·cases h
theorem qu{e:Nat}(h:SB C t=θ e):C.P.underlying t=θ (.slice e):=by
 unfold SB at h;split at h
 ·rename_i a;cases h;exact a
 ·cases h
theorem oAr{q:Nat×Nat}(h:arE C t=θ q):C.P.underlying t=θ (.array q.1 q.2):=by
 unfold arE at h;split at h
 ·rename_i a;cases h;exact a
 ·cases h
variable{k:Δ}
theorem oK(h:kindOf C t=θ k):C.P.underlying t=θ (.int k):=by
 unfold kindOf at h;split at h
 ·rename_i a;cases h;exact a
 ·cases h
theorem oU8(h:JU C t=μ):C.P.underlying t=θ (.int .u8):=by
 unfold JU at h;split at h
 ·rename_i a;rw[a,lT h]
 ·cases h
theorem oIsK(h:isK C t k=μ):C.P.underlying t=θ (.int k):=by
 unfold isK at h;split at h
 ·rename_i a;rw[oK a,lT h]
 ·cases h
theorem oPtr(h:OS C t=μ):∃e,C.P.underlying t=θ (.pointer e):=by
 unfold OS at h;split at h
 ·rename_i e a;exact⟨e,a⟩
 ·cases h
theorem yn(h:EG C t=μ):∃e,C.P.underlying t=θ (.slice e):=by
 unfold EG at h;split at h
 ·rename_i e a;exact⟨e,a⟩
 ·cases h
variable{b:BinOp}
theorem Ys(h:EH b=μ):b=.eql:=by cases b<;>first|rfl|cases h
variable{a:SC}
theorem wD{i:Int}(h:QK a=θ i)(ρ:Nat->Ad):∃k,a.v ρ=.int k i:=by
 cases a<;>simp only[QK,reduceCtorEq,bH]at h
 ·subst h;exact⟨_,Τ⟩
 ·subst h;exact⟨_,Τ⟩
variable{s c:Ε}{x y:Β}{i:SC}{g:δ PD}{r:SV}
theorem bin_ok(hx:aU md F x=a.v ρ)(e:aU md F y=i.v ρ)(q:∀k v,z=μ->aU md F y=.int k v->0<=v)(h:bin z b a i=θ (g,r))(f:Hx g):vB C md ρ S F w (.binOp b s x y c) r:=by
 unfold bin at h;split at h
 ·rename_i k u A v;cases p:yp b with
  |true=>
   have o:b=.shr:=by cases b<;>first|rfl|cases p
   subst o;cases z with
   |false=>cases h;exact eW Τ Τ λd l pos Ψ=>ME k A u _ _ hx e f.1 Τ (Int.natCast_pos.2 (Nat.pow_pos aA1))
   |true=>
   cases v with
   |negSucc n=>cases h
   |ofNat n=>
    cases h;refine eW Τ Τ λd l pos Ψ=>ME k A u _ _ hx e (Pr n) ?_ ?_
    ·show 2^(min n k.bits)=((2^(min n k.bits):Nat):Int);rfl
    ·exact Int.natCast_pos.2 (Nat.pow_pos aA1)
  |false=>
  rw[p]at h;cases j:yq b with
  |true=>
   have o:b=.shl:=by cases b<;>first|rfl|cases j
   subst o;cases z with
   |false=>cases h;exact eW Τ Τ λd l pos Ψ=>Ji k A u _ _ hx e f.1 Τ
   |true=>
   cases v with
   |negSucc n=>cases h
   |ofNat n=>cases h;refine eW Τ Τ λd l pos Ψ=>Ji k A u _ _ hx e (Pr n) ?_;rfl
  |false=>
  rw[j]at h;cases m:JQ k A with
  |false=>rw[m]at h;cases h
  |true=>rw[m]at h;obtain rfl:=lT m;exact bI_ok hx e h f
 ·exact bC_ok hx e h f
 ·exact sh8_ok hx e (λt=>q _ _ t e) h f
 ·exact bS_ok hx e h f
 ·cases h
theorem ve(hx:aU md F x=a.v ρ)(n:aU md F y=i.v ρ)(B:∀k v,z=μ->aU md F y=.int k v->0<=v)(h:vf C z s b a i=θ (g,r))(G:Hx g):vB C md ρ S F w (.binOp b s x y c) r:=by
 unfold vf at h;split at h
 ·rename_i I off j;have f:=dD h;have l:=dD f.2;have o:=dD l.2;have t:=gO f.1;obtain rfl:=Ys o.1;cases o.2;subst t;obtain⟨e,m⟩:=oPtr l.1;exact eW Τ Τ λd p pos Ψ=>HP _ m hx n
 ·rename_i j H;have f:=dD h;have l:=dD f.2;have o:=dD l.2;have A:=dD o.2;have t:=gO f.1;have q:=gO l.1;obtain rfl:=Ys A.1;cases A.2;subst t;subst q;obtain⟨e,m⟩:=oPtr o.1;exact eW Τ Τ λd p pos Ψ=>HP _ m hx n
 ·have f:=dD h;have l:=dD f.2;obtain rfl:=Ys l.1;cases l.2;obtain⟨e,m⟩:=yn f.1;exact eW Τ Τ λd p pos Ψ=>HO _ _ _ e m hx n
 ·have f:=dD h;have l:=dD f.2;obtain rfl:=Ys l.1;cases l.2;obtain⟨e,m⟩:=yn f.1;exact eW Τ Τ λd p pos Ψ=>HO _ _ _ e m hx n
 ·split at h
  ·rename_i u v E D;have f:=dD h;exact bB_ok (oBool f.1) (hx.trans (qg E ρ)) (n.trans (qg D ρ)) f.2
  ·exact bin_ok hx n B h G
theorem not_ok(hx:aU md F x=a.v ρ)(h:notC a=θ (g,r)):vB C md ρ S F w (.unOp .not s x) r:=by
 unfold notC at h;split at h
 ·cases h;exact eW Τ Τ λd b pos Ψ=>MF _ hx
 ·cases h;exact eW Τ Τ λd b pos Ψ=>MF _ hx
 ·rename_i p c;cases h;exact eW Τ Τ λd b pos Ψ=>x_nnot _ hx
 ·cases h
theorem da(c:wB C s=μ)(hx:aU md F x=a.v ρ)(m:aU md F y=i.v ρ)(h:ixC a i=θ (g,r))(n:Hx g):vB C md ρ S F w (.index s x y) r:=by
 unfold ixC at h;split at h
 ·rename_i l;split at h
  ·rename_i j f;cases h;obtain⟨k,e⟩:=wD f ρ;exact eW Τ Τ λd o pos Ψ=>vp l k j (Cw c) hx (m.trans e) n.1
  ·cases h
 ·cases h
theorem yX{n y:ε Β}{i j:ε SC}(p:wB C s=μ)(hx:aU md F x=a.v ρ)(t:(n=ι/\i=ι)\/∃o c,n=θ o/\i=θ c/\aU md F o=c.v ρ)(z:(y=ι/\j=ι)\/∃o c,y=θ o/\j=θ c/\aU md F o=c.v ρ)
  (h:gr a i j=θ (g,r)) (A:Hx g):vB C md ρ S F w (.slice s x n y ι) r:=by
 unfold gr at h;split at h
 ·rename_i l;rcases t with⟨rfl,rfl⟩|⟨o,c,rfl,rfl,D⟩<;>rcases z with⟨rfl,rfl⟩|⟨H,I,rfl,rfl,b⟩
  ·cases h
  ·simp only at h;split at h
   ·rename_i m e;cases h;obtain⟨k,f⟩:=wD e ρ;exact eW Τ Τ λd B pos Ψ=>Jh l k m (Cw p) hx (b.trans f) A.1
   ·cases h
  ·simp only at h;split at h
   ·rename_i m e;cases h;obtain⟨k,f⟩:=wD e ρ;exact eW Τ Τ λd B pos Ψ=>nX l k m (Cw p) hx (D.trans f) A.1
   ·cases h
  ·simp only at h;split at h
   ·rename_i m E e q;cases h;obtain⟨k,f⟩:=wD e ρ;obtain⟨G,u⟩:=wD q ρ;exact eW Τ Τ λd B pos Ψ=>mj l k G m E (Cw p) hx (D.trans f) (b.trans u) A.1
   ·cases h
 ·cases h
theorem Zd(hx:aU md F x=a.v ρ)(h:ib C s c a=θ (g,r))(m:Hx g):vB C md ρ S F w (.convert s c x) r:=by
 unfold ib at h;split at h
 ·rename_i u;have i:=dD h;have e:=oU8 i.1;have b:=i.2;have q:=fH u;split at b
  ·rename_i t;cases b;refine eW Τ Τ λd f pos Ψ=> ?_;exact lh .u8 .u8 _ e (oK t) hx (by rw[IntKind.wrap_u8];omega)
  ·rename_i t;cases b;refine eW Τ Τ λd f pos Ψ=> ?_;exact lh .i64 .u8 _ e (oK t) hx (AV u)
  ·rename_i t;cases b;refine eW Τ Τ λd f pos Ψ=> ?_;exact lh .i32 .u8 _ e (oK t) hx (by simp[fD,IntKind.bits];omega)
  ·cases b
 ·rename_i k n;have i:=dD h;have e:=oIsK i.1;have b:=i.2;split at b
  ·rename_i t;cases b;exact eW Τ Τ λd f pos Ψ=>YA k n e (oK t) hx
  ·rename_i k' _ t;cases o:JQ k k' with
   |true=>
    rw[o]at b;obtain rfl:=lT o;cases j:i64 k with
    |true=>obtain rfl:=Ec j;cases b;exact eW Τ Τ λd f pos Ψ=>lh .i64 .i64 n e (oK t) hx (bfq m.1.lo m.1.hi)
    |false=>rw[j]at b;cases b;exact eW Τ Τ λd f pos Ψ=>lh k k n e (oK t) hx m.1
   |false=>rw[o]at b;cases b;exact eW Τ Τ λd f pos Ψ=>Wa k' k n e (oK t) hx
  ·have p:=dD b;cases p.2;exact eW Τ Τ λd f pos Ψ=>Ry k k n e (Cw p.1) hx
 ·rename_i l;have i:=dD h;have b:=dD i.2;cases b.2;exact eW Τ Τ λd f pos Ψ=>QZ l (Cw i.1) (Cw b.1) hx
 ·cases h
end
open Go.Wk
open Go.Ce (Tr)
open Nat renaming beq → cT
section
variable{C:Cx}{md:Md}{w0 w:φ}{S0:δ Nat}{ρ:Nat->Ad}{S:St}{F:Nat->ς}
variable{l:δ SC}{t f:Nat}{a:η}{v:SV}
theorem rJ(h:vP l t f a=θ v):
  (a=ν/\∃x,l[t]? =θ x/\x.kn=μ/\v=.c' x)\/(a=μ/\t+f<=γ l/\(∀x∈(l.drop t).take f,x.kn=μ)/\v=.a' ((l.drop t).take f))\/(a=μ/\f=0/\v=.a' []):=by
 unfold vP at h;cases a with
 |true=>
  split at h
  ·rename_i q e;have b:=dD h;cases b.2;obtain⟨d,c⟩:=wZ e;rw[mW]at d c;subst d;by_cases n:f=0
   ·subst n;exact .inr (.inr ⟨Τ,Τ,aA2⟩)
   ·refine .inr (.inl ⟨Τ,?_,OQ b.1,Τ⟩);simp at c;omega
  ·cases h
 |false=>
  simp at h;split at h
  ·rename_i x hx;have b:=dD h;cases b.2;rw[gA]at hx;exact .inl ⟨Τ,x,hx,b.1,Τ⟩
  ·cases h
theorem Co{k:Nat}(h:vP l t f a=θ v)(b:∀x∈l,x.ok k):v.ok k:=by
 rcases rJ h with⟨_,x,c,_,rfl⟩|⟨_,_,_,rfl⟩|⟨_,_,rfl⟩
 ·exact b x (aL c)
 ·exact λx hx=>b x (kV (Bt hx))
 ·intro x hx;cases hx
variable{q:Nat×Nat×η}
theorem Nv(h:Uq C t f=θ q):∃(l:δ Field) (b:Field),C.P.underlying t=θ (.struct l.toArray)/\l[f]? =θ b/\q.1=b.offset/\Sn C b.type=θ q.2.1/\S9 C b.type=θ q.2.2:=by
 unfold Uq at h;split at h
 ·rename_i i d;split at h
  ·rename_i b c;split at h
   ·rename_i n a e g;cases h;rw[gA]at c;exact⟨i.toList,b,aD5,c,Τ,e,g⟩
   ·cases h
  ·cases h
 ·cases h
theorem qp{n:Nat}(h:vP l f n a=θ v)(d:Sn C t=θ n)(c:S9 C t=θ a):∃u,v.v ρ=θ u/\(part t (l.map (SC.v ρ)).toArray f).run C.P w=.ok u w:=by
 rcases rJ h with⟨rfl,x,b,_,rfl⟩|⟨rfl,g,_,rfl⟩|⟨rfl,rfl,rfl⟩
 ·exact⟨_,Τ,by simp[part,TS c w,b]⟩
 ·refine⟨_,Τ,?_⟩;have e:(l.map (SC.v ρ)).toArray.extract f (f+n)=(((l.drop f).take n).map (SC.v ρ)).toArray:=by simp only[List.extract_toArray,List.extract_eq_take_drop,mh];rw[List.map_take,List.map_drop]
  simp only[part,Sem.run_bind,TS c w,Result.andThen_ok,gZ,Tj d w,Sem.run_pure,e]
 ·refine⟨_,Τ,?_⟩;have e:(l.map (SC.v ρ)).toArray.extract f (f+0)= #[]:=aA2;simp only[part,Sem.run_bind,TS c w,Result.andThen_ok,gZ,Tj d w,e];rfl
theorem Sh{u:aC×aC}(h:nu l=θ u):l=[.s' u.1,.s' u.2]:=by
 unfold nu at h;split at h
 ·cases h;rfl
 ·cases h
theorem Ud(h:UH C t=μ):C.P.underlying t=θ .string/\S9 C t=θ ν:=by
 unfold UH at h;cases b:wB C t<;>rw[b]at h
 ·cases h
 ·refine⟨Cw b,?_⟩;split at h
  ·rename_i a c;cases a
   ·exact c
   ·cases h
  ·cases h
variable{x:Β}
theorem eqA_ok{z:η}{b:BinOp}{t t':Ε}{y:Β}{g:δ PD}{r:SV}(hx:aU md F x=.agg (l.map (SC.v ρ)).toArray)(c:∀e,v=.a' e->aU md F y=.agg (e.map (SC.v ρ)).toArray)(h:vg C z t b (.a' l) v=θ (g,r)):vB C md ρ S F w (.binOp b t x y t') r:=by
 cases v with
 |a' e=>
  have c:=c e Τ;unfold vg at h;simp only at h;split at h
  ·rename_i u M;split at h
   ·rename_i v L;cases a:isHd C t with
    |false=>rw[a]at h;cases h
    |true=>
     rw[a]at h;rw[Sh M]at hx;rw[Sh L]at c;obtain⟨i,n,s,p,q⟩:∃i:δ Field,C.P.underlying t=θ (.struct i.toArray)/\EqF C.P w [str u.1,str u.2] [str v.1,str v.2] i [decide (u.1=v.1),decide (u.2=v.2)]/\C.P.stoodInHeld t=ν/\C.P.eqGuardType C.P.depth t=ν:=by
      unfold isHd at a;split at a
      ·rename_i i j;split at a
       ·rename_i f g N;cases E:UH C f.type<;>rw[E]at a<;>first|cases a|skip
        cases D:UH C g.type<;>rw[D]at a<;>first|cases a|skip
        cases m:cT f.offset 0<;>rw[m]at a<;>first|cases a|skip
        cases k:cT g.offset 1<;>rw[k]at a<;>first|cases a|skip
        cases B : f.name == "_" <;> rw[B] at a <;> first | cases a | skip
        cases A : g.name == "_" <;> rw[A] at a <;> first | cases a | skip
        cases Q:C.P.stoodInHeld t<;>rw[Q]at a<;>first|cases a|skip
        have O:C.P.eqGuardType C.P.depth t=ν:=aC1;obtain⟨K,H⟩:=Ud E;obtain⟨J,G⟩:=Ud D;refine⟨[f,g],by rw[j,<-N],⟨ne_of_beq_false B,⟨_,_,?_,?_,λd=>PC d _ _ K⟩,ne_of_beq_false A,⟨_,_,?_,?_,λd=>PC d _ _ J⟩,trivial⟩,Τ,O⟩
        ·simp[part,TS H w,gO m]
        ·simp[part,TS H w,gO m]
        ·simp[part,TS G w,gO k]
        ·simp[part,TS G w,gO k]
       ·cases a
      ·cases a
     have o:[decide (u.1=v.1),decide (u.2=v.2)].all id=decide (u=v):=by simp[Prod.ext_iff]
     cases b<;>simp at h<;>obtain⟨rfl,rfl⟩:=h
     ·exact eW Τ Τ λd I pos Ψ=>YN _ _ _ _ n p q hx c s o
     ·exact eW Τ Τ λd I pos Ψ=>YM _ _ _ _ n p q hx c s o
   ·cases h
  ·cases h
 |_=>cases h
theorem ey(hx:aU md F x=.agg (l.map (SC.v ρ)).toArray)(c:∀x∈l,x.ok (γ S.H))(b:Uq C t f=θ q)(h:vP l q.1 q.2.1 q.2.2=θ v):vB C md ρ S F w (.field t x f) v:=by obtain⟨o,p,m,k,j,i,g⟩:=Nv b;obtain⟨u,e,a⟩:=qp (ρ:=ρ) h i g;refine⟨Co h c,u,e,λd n pos Ψ=> ?_⟩;rw[j]at a;simp[χ,hx,Instr.field,run_underlying m,k,asAgg];rw[a];rfl
theorem Yr{c:SC}(hx:aU md F x=c.v ρ)(i:c.ok (γ S.H))(h:bhl C t f c=θ v):vB C md ρ S F w (.fieldAddr t x f) v:=by
 unfold bhl at h;split at h
 ·rename_i q m;obtain⟨u,g,p,o,k,n,s⟩:=Nv m;cases a:cT q.2.1 0 with
  |true=>rw[a]at h;cases h
  |false=>
   rw[a]at h;have b:q.2.1≠0:=λe=>by rw[e]at a;cases a
   have iL:∀A:Ζ,(Instr.fieldAt t (.pointer (θ A)) f).run C.P w=.ok (.pointer (θ (A.add g.offset))) w:=by simp[Instr.fieldAt,run_underlying p,o,Instr.sureAddr,fieldPlace,Tj n w,b]
   split at h
   ·rename_i id off;cases h;refine⟨i,_,Τ,λd l pos Ψ=> ?_⟩;rw[xr _ g.offset hx (iL _),AM,<-k];rfl
   ·rename_i id j r off;cases h;refine⟨i,_,Τ,λd l pos Ψ=> ?_⟩;rw[Vz _ _ g.offset hx (by rw[<-KL];exact iL _),<-k,Cb];rfl
   ·cases h
 ·cases h
theorem KH{l:δ SA}{y:SA}(hx:aU md F x=.tuple (l.map (SA.v ρ)).toArray)(a:∀x∈l,x.ok (γ S.H))(h:fC l t=θ y):vB C md ρ S F w (.extract x t) y.sv:=by rw[gA]at h;exact⟨SA.Fj (a y (aL h)),_,SA.oc ρ y,λd b pos Ψ=>Rz _ _ hx (by simp[h])⟩
theorem XZ(h:zC C t=θ l)(w:φ):∃v,(zeroValue t).run C.P w=.ok v w/\(∀c∈l,c.ids=[]/\c.kn=μ)/\∀ρ,v.cells=(l.map (SC.v ρ)).toArray:=by
 unfold zC at h;split at h
 ·rename_i v a;obtain⟨d,b⟩:=KP h;exact⟨v,yS a w,d,λρ=>by rw[b]⟩
 ·cases h
theorem Nw{w:Β->SV}{y:Nat->ε (Nat×Nat)}{k:Nat}:∀c (cs r),(∀p∈c,(w p.2).ok k/\∀u,(w p.2).v ρ=θ u->aU md F p.2=u)->(∀x∈cs,x.ok k)->Fy y w c cs=θ r->
  Instr.fill y (cs.map (SC.v ρ)).toArray (c.map λp=>(p.1,aU md F p.2))=θ (r.map (SC.v ρ)).toArray/\γ r=γ cs/\∀x∈r,x.ok k
 |[],cs,r,_,l,h=>by cases h;exact⟨Τ,Τ,l⟩
 |p::c,cs,r,A,l,h=>by
  simp only[Fy]at h;split at h
  ·rename_i q b E d;have C:=dD h;have t:=C.2;split at t
   ·rename_i j a;obtain⟨L,B⟩:=bcv a;have i:=A p iK;have n:=SV.Oh d i.1;obtain⟨v,o,f⟩:=SV.Iz (ρ:=ρ) d;have m:=i.2 v o;have g:∀x∈j,x.ok k:=by
     rw[B];intro x hx;rcases aZ.1 hx with hx|hx
     ·rcases aZ.1 hx with hx|hx
      ·exact l x (Bt hx)
      ·exact n x hx
     ·exact l x (kV hx)
    obtain⟨K,J,I⟩:=Nw c j r (λD G=>A D (gN _ G)) g t;refine⟨?_,by rw[J,zP a],I⟩;obtain⟨off,size⟩:=q;have dR:=gO C.1;simp only[qO,Instr.fill,E,m];have H:v.cells.size=γ b:=by rw[f];simp
    have s:¬((v.cells.size≠size||decide (off+v.cells.size>(cs.map (SC.v ρ)).toArray.size))=μ):=by simp;omega
    rw[aA s,<-K];rw[f];have z:=Go.Ce.yy off (b.map (SC.v ρ)) (cs.map (SC.v ρ)) 0 (by simp;exact L);simp only[Rt,Gj]at z;rw[B];have e:((cs.take off++b++cs.drop (off+γ b)).map (SC.v ρ))=(cs.map (SC.v ρ)).take off++b.map (SC.v ρ)++(cs.map (SC.v ρ)).drop (off+γ b):=aA2;rw[e,<-z];simp
   ·cases t
  ·cases h
theorem Lh:∀{b:δ Field}{l:δ (Nat×Nat)},Ij C b=θ l->(b.mapM λf=>(do pure (f.offset,<-Ο f.type):Sem (Nat×Nat))).run C.P w=.ok l w
 |[],l,a=>by cases a;simp
 |f::b,l,a=>by
  simp only[Ij]at a;split at a
  ·rename_i z e;split at a
   ·rename_i q d;cases a;have c:=Lh d;rw[List.mapM_cons];simp only[Sem.run_bind,Tj e w,Result.andThen_ok,Sem.run_pure,c]
   ·cases a
  ·cases a
theorem ik{y:φ}(I:Rel C w0 S0 ρ S F y)(B:C.nn=md.n){f:Array (Nat×Β)}(h:Im C (S.ev C) t f.toList=θ v):vB C md ρ S F w (.build t f) v:=by
 unfold Im at h;split at h
 ·rename_i z O A a;split at h
  ·rename_i cs r;cases h;obtain⟨M,x,K,l⟩:=XZ A w;obtain⟨s,Q,J⟩:=Nw (ρ:=ρ) (md:=md) (F:=F) (k:=γ S.H) f.toList z cs (λp _=>Rl I B p.2) (λc G i u=>by rw[(K c G).1]at u;cases u) r;refine⟨J,_,Τ,λd N pos Ψ=> ?_⟩;have b:(f.map λp=>(p.1,aU md F p.2)).toList=f.toList.map λp=>(p.1,aU md F p.2):=aA2;have l:=l ρ;unfold plOf at a;split at a
   ·rename_i L q;split at a
    ·rename_i lp o;cases a;have D:=Lh (w:=w) o;have g:fC lp=λi=>lp.toArray[i]? :=by funext i;rw[gA];simp
     rw[g]at s;have j:C.P.underlying t=θ (.struct L.toList.toArray):=by simpa using q
     simp only[χ,Instr.build,Sem.run_bind,x,Result.andThen_ok,run_underlying j,l,List.mapM_toArray,Sem.run_map,D];rw[b,s];rfl
    ·cases a
   ·rename_i k e E;split at a
    ·rename_i n m;cases a;simp only[χ,Instr.build,Sem.run_bind,x,Result.andThen_ok,run_underlying E,l,Tj m w];rw[b,s];rfl
    ·cases a
   ·cases a
  ·cases h
 ·cases h
end
open Go.Wk
open Go.Ce (Tr)
section
variable{C:Cx}{md:Md}{w0 w:φ}{S0:δ Nat}{ρ:Nat->Ad}{S:St}{F:Nat->ς}
variable{H:δ Ob}{a:Ro}
theorem HJ{r:Rv}(h:La H r=θ a):∃g v,r=θ (g,v)/\a=⟨g,v,H,[]⟩:=by
 unfold La at h;split at h
 ·cases h;exact⟨_,_,Τ,Τ⟩
 ·cases h
theorem jl{v:ε SV}(h:mI H v=θ a):∃x,v=θ x/\a=⟨[],x,H,[]⟩:=by
 unfold mI at h;split at h
 ·cases h;exact⟨_,Τ,Τ⟩
 ·cases h
theorem Ye{x v:SV} (h:(match x with
  |.u'=>ι
  |v=>θ v)=θ v):x=v/\∃u,v.v ρ=θ u:=by
 cases x<;>simp at h
 ·subst h;exact⟨Τ,_,Τ⟩
 ·subst h;exact⟨Τ,_,Τ⟩
 ·subst h;exact⟨Τ,_,Τ⟩
 ·subst h;exact⟨Τ,_,Τ⟩
theorem XK{a:Type}{b:Β->SV}{x:ε Β}{f:ε SC->ε a}{r:a}(h:Gq b x f=θ r):(x=ι/\f ι=θ r)\/∃o c,x=θ o/\b o=.c' c/\f (θ c)=θ r:=by
 cases x with
 |none=>exact .inl ⟨Τ,h⟩
 |some o=>obtain⟨c,e,d⟩:=lC h;exact .inr ⟨o,c,Τ,e,d⟩
variable{t:Nat}
theorem jo{q:Nat×Nat}(h:arE C t=θ q):C.P.underlying t=θ (.array q.1 q.2):=by
 unfold arE at h;split at h
 ·rename_i a;cases h;exact a
 ·cases h
theorem cp{x b:Β}{cs:δ SC}{i:SC}{g:δ PD}{v:SV}(hx:aU md F x=.agg (cs.map (SC.v ρ)).toArray)(p:aU md F b=i.v ρ)(h:cq C t cs i=θ (g,v))(r:Hx g):vB C md ρ S F w (.index t x b) v:=by
 unfold cq at h;split at h
 ·rename_i q f;have h:=(dD h).2;split at h
  ·rename_i B A;split at h
   ·rename_i l j m o;cases h
    obtain⟨k,n⟩:=wD o ρ;obtain⟨z,_,y⟩:=ll m;have u:(l.map λs=>[str s])=(cs.map (SC.v ρ)).map λc=>[c]:=by
     rw[y ρ,List.map_flatMap]
     have:∀l:δ aC,(l.map λs=>[str s])=l.flatMap λa=>List.map (λc=>[c]) ((Ty.s').enc a):=by
      intro l;induction l with
      |nil=>rfl
      |cons s l e=>rw[qO,e];rfl
     exact this l
    exact eW Τ Τ λd D pos Ψ=>x_ixA _ l q.1 k j _ _ u (jo f) z (TS A w) (Tj B w) hx (p.trans n) Τ r.1
   ·cases h
  ·cases h
 ·cases h
theorem iz(r:C.nn=md.n)(z:Rel C w0 S0 ρ S F w){op:Op}(Y:lU op=μ)(h:opP C (S.ev C) S.H op=θ a)(G:Hx a.g)(w':φ):vB C md ρ S F w' op a.v/\a.H=S.H/\a.m=[]:=by
 cases op<;>first|cases Y|skip
 case move x=>
  obtain⟨v,e,rfl⟩:=jl h;obtain⟨p,u,B⟩:=Ye (ρ:=ρ) e;obtain⟨A,D⟩:=Rl z r x;rw[p]at A D;exact⟨⟨A,u,B,λd Q pos Ψ=>by rw[<-D u B];rfl⟩,Τ,Τ⟩
 case assign x=>
  obtain⟨v,e,rfl⟩:=jl h;obtain⟨p,u,B⟩:=Ye (ρ:=ρ) e;obtain⟨A,D⟩:=Rl z r x;rw[p]at A D;exact⟨⟨A,u,B,λd Q pos Ψ=>by rw[<-D u B];rfl⟩,Τ,Τ⟩
 case binOp b t x y t'=>
  obtain⟨g,v,e,rfl⟩:=HJ h;by_cases E:∃l,S.ev C x=.a' l
  ·obtain⟨l,E⟩:=E;rw[E]at e;exact⟨eqA_ok ((Rl z r x).2 _ (by rw[E];rfl)) (λl2 p=>(Rl z r y).2 _ (by rw[p];rfl)) e,Τ,Τ⟩
  have e:gH (S.ev C x) (λn=>gH (S.ev C y) λc=>vf C (sy y) t b n c)=θ (g,v):=by
   unfold vg at e;split at e
   ·rename_i hx;exact absurd ⟨_,hx⟩ E
   ·exact e
  obtain⟨n,p,B⟩:=lC e;obtain⟨c,A,D⟩:=lC B;exact⟨ve (nQ z r p).2 (nQ z r A).2 (λk v U W=>sx W U) D G,Τ,Τ⟩
 case unOp u t x=>
  cases u<;>first|cases h|skip
  obtain⟨g,v,e,rfl⟩:=HJ h;obtain⟨n,p,B⟩:=lC e;exact⟨not_ok (nQ z r p).2 B,Τ,Τ⟩
 case convert s t x=>
  obtain⟨g,v,e,rfl⟩:=HJ h;obtain⟨n,p,B⟩:=lC e;exact⟨Zd (nQ z r p).2 B G,Τ,Τ⟩
 case index t x ix=>
  have h:(bif wB C t then La S.H _ else(match S.ev C x with
   |.a' cs=>La S.H _
   |_=>ι))=θ a:=h
  cases M:wB C t with
  |true=>rw[M]at h;obtain⟨g,v,e,rfl⟩:=HJ h;obtain⟨n,p,B⟩:=lC e;obtain⟨c,A,D⟩:=lC B;exact⟨da M (nQ z r p).2 (nQ z r A).2 D G,Τ,Τ⟩
  |false=>
   rw[M]at h;have K:=Rl z r x;split at h
   ·rename_i cs N;obtain⟨g,v,e,rfl⟩:=HJ h;obtain⟨c,A,D⟩:=lC e;rw[N]at K;exact⟨cp (K.2 _ Τ) (nQ z r A).2 D G,Τ,Τ⟩
   ·cases h
 case slice t x T Z R=>
  cases R with
  |some m=>have:=(dD (h)).2;cases this
  |none=>
   have h:=dD (h);have p:(bif wB C t then La S.H _ else gH _ λn=>Gq _ T λi=>Gq _ Z λj=>Gp C S.H t n i j)=θ a:=h.2;rw[h.1]at p;have h:=And.intro h.1 p;obtain⟨g,v,e,rfl⟩:=HJ h.2;obtain⟨n,p,B⟩:=lC e;refine⟨?_,Τ,Τ⟩;rcases XK B with⟨A,D⟩|⟨o,c,A,D,h6⟩
   ·rcases XK D with⟨J,I⟩|⟨L,P,J,I,O⟩
    ·exact yX h.1 (nQ z r p).2 (.inl ⟨A,Τ⟩) (.inl ⟨J,Τ⟩) I G
    ·exact yX h.1 (nQ z r p).2 (.inl ⟨A,Τ⟩) (.inr ⟨L,P,J,Τ,(nQ z r I).2⟩) O G
   ·rcases XK h6 with⟨J,I⟩|⟨L,P,J,I,O⟩
    ·exact yX h.1 (nQ z r p).2 (.inr ⟨o,c,A,Τ,(nQ z r D).2⟩) (.inl ⟨J,Τ⟩) I G
    ·exact yX h.1 (nQ z r p).2 (.inr ⟨o,c,A,Τ,(nQ z r D).2⟩) (.inr ⟨L,P,J,Τ,(nQ z r I).2⟩) O G
 case extract x i=>
  have h:(match S.ev C x with
   |.t' l=>match fC l i with
    |some y=>θ _
    |none=>ι
   |_=>ι)=θ a:=h
  obtain⟨e,p⟩:=Rl z r x;split at h
  ·rename_i l E;split at h
   ·rename_i y V;cases h;rw[E]at e p;exact⟨KH (p _ Τ) e V,Τ,Τ⟩
   ·cases h
  ·cases h
 case field t x f=>
  have h:(match S.ev C x with
   |.a' l=>match Uq C t f with
    |some q=>mI S.H _
    |none=>ι
   |_=>ι)=θ a:=h
  obtain⟨e,p⟩:=Rl z r x;split at h
  ·rename_i l E;split at h
   ·rename_i q X;obtain⟨v,B,rfl⟩:=jl h;rw[E]at e p;exact⟨ey (p _ Τ) e X B,Τ,Τ⟩
   ·cases h
  ·cases h
 case build t ps=>
  obtain⟨v,e,rfl⟩:=jl h;exact⟨ik z r e,Τ,Τ⟩
 case fieldAddr t x f=>
  obtain⟨n,e,p⟩:=lC (h);obtain⟨v,B,rfl⟩:=jl p;obtain⟨A,D⟩:=nQ z r e;exact⟨Yr D A B,Τ,Τ⟩
theorem pureOk(b:C.nn=md.n):Zw C md:=λw0 S0 ρ S F w op v H m c a h w'=>(iz b c a h trivial w').1
end
open Go.Wk
open Go.Ce (Tr)
def Step(C:Cx)(md:Md)(w0:φ)(S0:δ Nat)(ρ:Nat->Ad)(S:St)(F:Nat->ς)(w:φ)(o:Ι)(S2:St):Prop:=
 ∀c Q a,
  (∀b e f,Rel C w0 S0 b S2 e f->Nx S ρ S2 b->(∀t,o.dst≠θ t->e t=F t)->(∀d,o.dst=θ d->lU o.op=μ->∃g,(χ (aU md F) o).run C.P w=.ok (.value (e d)) g)->W C.P md c Q a e f)->W C.P md c Q (o::a) F w
section
variable{C:Cx}{md:Md}{w0 w:φ}{S0:δ Nat}{ρ:Nat->Ad}{S:St}{F:Nat->ς}
variable{d:Nat}{ty:Ε}{pos:String}{Ψ:Array Edge}
variable{b:St}{c:φ}{v:SV}{u:ς}
theorem vm{a:Nat->Ad}(h:Rel C w0 S0 a b F c)(g:v.v a=θ u)(i:v.ok (γ b.H)):Rel C w0 S0 a (b.set d v) (cY F d u) c:=by
 refine⟨h.gl,λt f j=> ?_,λt=> ?_,h.ho,h.mem⟩
 ·rw[kR]at j;by_cases e:t=d
  ·rw[aB e]at j;rw[g]at j;cases j;subst e;rw[vu]
  ·rw[aA e]at j;rw[Jt _ _ _ _ e];exact h.fr t f j
 ·rw[kR];by_cases e:t=d
  ·rw[aB e];exact i
  ·rw[aA e];exact h.fo t
theorem QI:∀t,(θ d)≠θ t->cY F d u t=F t:=λt h=>Jt _ _ _ _ λe=>h (by rw[e])
theorem T2{op:Op}(g:Rel C w0 S0 ρ S F w)(h:vB C md ρ S F w op v):Step C md w0 S0 ρ S F w ⟨θ d,op,ty,pos,Ψ,ι⟩ (St.set ⟨S.F,S.H,S.nb,S.al,[]++S.m⟩ d v):=by intro c Q a e;obtain⟨j,u,i,b⟩:=h;refine dY Τ Τ (b d ty pos Ψ) (e ρ _ w (vm (g.same Τ Τ) i j) ⟨⟨Τ,Τ,Le.refl⟩,Le.refl,λ_ _ h=>h⟩ QI λd2 f _=>⟨w,?_⟩);cases f;rw[vu];exact b d ty pos Ψ
def Gf(ρ:Nat->Ad)(n:Nat)(a:Ad):Nat->Ad:=λid=>if id=n then a else ρ id
variable{n:Nat}{a:Ad}
theorem xW:Up n ρ (Gf ρ n a):=λid b=>by unfold Gf;rw[aA aA0]
theorem nS:Gf ρ n a n=a:=by unfold Gf;rw[aB rfl]
variable{L:δ cL}{r:cL}
theorem Hp.rot{w0 w:φ}{S:δ Nat}(h:Hp w0 S (r::L) w):Hp w0 S (L++[r]) w:=by refine⟨h.os,h.tape,h.output,h.size,h.below,λx hx=>h.res x (by simp at hx⊢;exact hx.symm),?_⟩;have c:=iR.1 h.sep;refine dO.2 ⟨c.2,List.pairwise_singleton _ _,λa g b d=> ?_⟩;simp at d;subst d;intro k f e;exact c.1 a g k e f
theorem RO.up{n:Nat}{a:Nat->Ad}{id:Nat}{o:Ob}{r:cL}(h:RO w0 S0 ρ id o r)(d:Up n ρ a)(f:id<n)(k:∀e cs,o=.bl e cs->∀c∈cs,c.ok n):RO w0 S0 a id o r:=by
 cases o with
 |bl e cs=>obtain⟨i,rfl,s,q⟩:=h;refine⟨i,by rw[d id f],s,λj c g p=> ?_⟩;rw[q j c g p,SC.up d (k e cs rfl c (aL g))]
 |rw e b t l=>show r=_;rw[d id f];exact h
 |ro t l=>exact⟨h.1,by rw[d id f];exact h.2⟩
 |br m l=>show r=_;rw[d id f];exact h
 |dd m=>trivial
theorem zH{o:Ob}{S2:St}(l:Rel C w0 S0 ρ S F w)(m:Mt w0 S0 ρ S.H L)(E:Hp w0 S0 (r::L) c)(y:RO w0 S0 (Gf ρ (γ S.H) a) (γ S.H) o r)(A:o.len=a.ln)(z:∀e cs,o=.bl e cs->∀n∈cs,n.ok (γ S.H+1))
  (G:S2.F=S.F) (h:S2.H=S.H++[o]):Rel C w0 S0 (Gf ρ (γ S.H) a) S2 F c:=by
 have v:∀t,S2.at t=S.at t:=λt=>by rw[St.at_eq,St.at_eq,G]
 have d:γ S2.H=γ S.H+1:=aA7;refine⟨λg id B=> ?_,λt u q=> ?_,λt=> ?_,λid e cs f n s=> ?_,⟨L++[r],Hp.rot E,by simp[m.1,d],λid p b=> ?_⟩⟩
 ·obtain⟨M,b⟩:=l.gl g id B;exact⟨aA0,by rw[xW id M];exact b⟩
 ·rw[v,SV.up xW (l.fo t)]at q;exact l.fr t u q
 ·rw[v];exact SV.cQ (l.fo t) aA0
 ·rw[d];rw[h]at f;by_cases j:id<γ S.H
  ·rw[aI j]at f;exact SC.cQ (l.ho id e cs f n s) aA0
  ·rw[aM aA0]at f
   have:o=.bl e cs:=by
    cases i:id-γ S.H with
    |zero=>rw[i]at f;simpa using f
    |succ k=>rw[i]at f;simp at f
   exact z e cs this n s
 ·rw[h]at b;by_cases j:id<γ S.H
  ·rw[aI j]at b;obtain⟨K,x,J,I⟩:=m.2 id p b;refine⟨by rw[xW id j];exact K,x,by rw[aI (by rw[m.1];exact j)];exact J,I.up xW j λe cs D=> ?_⟩;subst D;exact l.ho id e cs b
  ·rw[aM aA0]at b;have i:id-γ S.H=0:=by
    cases i:id-γ S.H with
    |zero=>rfl
    |succ k=>rw[i]at b;simp at b
   have hid:id=γ S.H:=aA0;rw[i]at b;have:o=p:=aC2;subst this;subst hid;exact⟨by rw[nS];exact A,r,by rw[aM (by rw[m.1];exact dC _),m.1];simp,y⟩
theorem Lo{o:Ob}{m:δ Rg}(x:Rel C w0 S0 ρ S F w)(h:b.H=S.H++[o])(f:b.nb=S.nb)(g:b.al=S.al)(r:b.m=m++S.m):Nx S ρ b (Gf ρ (γ S.H) a):=by
 have d:∀k p,Le k p ρ S.H (Gf ρ (γ S.H) a) b.H:=by
  intro k p;rw[h];refine⟨aA2,xW,λid q _ i=> ?_⟩;have u:=(aE.1 i).1;rw[aI u,i];cases q with
  |bl e cs=>exact .inr ⟨cs,Τ,Τ,λj c n=>.inr ⟨c,n,λs=>⟨s,SC.up xW (x.ho id e cs i c (aL n))⟩⟩⟩
  |rw e y t l=>exact .inr Τ
  |br m l=>exact .inr Τ
  |ro t l=>rfl
  |dd m=>rfl
 exact⟨⟨f,g,d _ _⟩,d _ _,λid j v=>by rw[r];exact Ge.2 (.inr v)⟩
end
open Go.Wk
open Go.Ce (Tr)
section
variable{C:Cx}{md:Md}{w0 w:φ}{S0:δ Nat}{ρ:Nat->Ad}{S:St}{F:Nat->ς}
variable{d:Nat}{ty:Ε}{pos:String}{Ψ:Array Edge}
def adB(b:Nat):Ad:=⟨θ b,θ ⟨b,0,ι⟩,0,ν,0⟩
variable{z:δ SC}{e:Nat}
theorem Kc{op:Op}{x:SC}{V:Nat->ς}(h:Rel C w0 S0 ρ S F w)(f:∀c∈z,c.ok (γ S.H))(hx:x.ok (γ S.H+1))(n:lU op=ν)
  (u:∀b,x.v (Gf ρ (γ S.H) (adB b))=V b) (a:(χ (aU md F) (⟨θ d,op,ty,pos,Ψ,ι⟩)).run C.P w=.ok (.value (V w.heap.size)) (w.alloc (.cells (z.map (SC.v ρ)).toArray e (0,0)))):
  Step C md w0 S0 ρ S F w ⟨θ d,op,ty,pos,Ψ,ι⟩ (St.set ⟨S.F,S.H++[.bl e z],S.nb,S.al,[]++S.m⟩ d (.c' x)):=by
 intro r Q l p;obtain⟨L,m,y⟩:=h.mem;refine eX m _ e V Τ Τ a λb k i=> ?_
 have A:Rel C w0 S0 (Gf ρ (γ S.H) (adB b)) ⟨S.F,S.H++[.bl e z],S.nb,S.al,[]++S.m⟩ F k:=by
  refine zH (o:=.bl e z) h y i ⟨z.map _,by rw[nS];rfl,aA2,λj c q p=> ?_⟩ Τ (λD B s c t=> ?_) Τ Τ
  ·rw[aW,q,SC.up xW (f c (aL q))];rfl
  ·cases s;exact SC.cQ (f c t) aA0
 refine p _ _ k (vm A (by show θ _=_;rw[u]) (by show x.ok (γ (S.H++[_]));simpa using hx)) (Lo h Τ Τ Τ Τ) QI λd2 _ g=> ?_;rw[show lU op=μ from g]at n;cases n
variable{a:Ro}
theorem IE(k:Rel C w0 S0 ρ S F w)(h:iF C (S.ev C) S.H (.alloc e)=θ a):Step C md w0 S0 ρ S F w ⟨θ d,.alloc e,ty,pos,Ψ,ι⟩ (St.set ⟨S.F,a.H,S.nb,S.al,a.m++S.m⟩ d a.v):=by
 have h:(match zC C e with
  |some z=>θ (Ro.mk [] (.c' (.p' (γ S.H) 0)) (S.H++[.bl e z]) [])
  |none=>ι)=θ a:=h
 split at h
 ·rename_i z g;cases h;obtain⟨o,n,l,f⟩:=XZ g w;refine Kc (V:=λb=>.pointer (θ ⟨b,0,ι⟩)) k (λc j i m=>by rw[(l c j).1]at m;cases m) (λi m=>by have:i=γ S.H:=aF.1 m;omega) Τ (λb=>by show iM (Gf ρ _ _ _).b 0=_;rw[nS];rfl) ?_;have f:=f ρ;simp[χ,Instr.alloc,n,newVar,newRow,f]
 ·cases h
theorem T3(c:Rel C w0 S0 ρ S F w)(f:C.nn=md.n){x:Β}(h:iF C (S.ev C) S.H (.box e x)=θ a):Step C md w0 S0 ρ S F w ⟨θ d,.box e x,ty,pos,Ψ,ι⟩ (St.set ⟨S.F,a.H,S.nb,S.al,a.m++S.m⟩ d a.v):=by
 have h:(match(S.ev C x).cells with
  |some cs=>θ (Ro.mk [] (.c' (.p' (γ S.H) 0)) (S.H++[.bl e cs]) [])
  |none=>ι)=θ a:=h
 split at h
 ·rename_i cs m;cases h;obtain⟨p,o⟩:=Rl c f x;obtain⟨u,l,k⟩:=SV.Iz (ρ:=ρ) m;have j:=o u l;refine Kc (V:=λb=>.pointer (θ ⟨b,0,ι⟩)) c (SV.Oh m p) (λi g=>by have:i=γ S.H:=aF.1 g;omega) Τ (λb=>by show iM (Gf ρ _ _ _).b 0=_;rw[nS];rfl) ?_;simp[χ,Instr.box,j,newVar,newRow,k]
 ·cases h
theorem zF(z:δ SC):∀k,γ (zG z k)=k*γ z
 |0=>by simp[zG]
 |k+1=>by show(z++zG z k).length=_;rw[cR,zF z k,LX,Ie]
theorem CK{z:δ SC}{p:SC->Prop}(a:∀x∈z,p x):∀k,∀x∈zG z k,p x
 |0,x,h=>by cases h
 |k+1,x,h=>by
  rcases aZ.1 (h)with h|h
  ·exact a x h
  ·exact CK a k x h
theorem CL(z:δ SC):∀k j,j<k*γ z->(zG z k)[j]? =z[j%γ z]?
 |0,j,h=>by omega
 |k+1,j,h=>by
  show(z++zG z k)[j]? =_;by_cases a:j<γ z
  ·rw[aI a,GM a]
  ·rw[aM aA0,CL z k _ (by rw[LX]at h;omega)];rw[<-Nat.mod_eq_sub_mod aA0]
theorem rh{a:Array ς}(j:a=(z.map (SC.v ρ)).toArray):(Array.range (e*γ z)).map (a[·%a.size]!)=((zG z e).map (SC.v ρ)).toArray:=by
 subst j;apply mf
 ·simp[zF]
 ·intro i l m;have b:i<e*γ z:=by simpa using l
  have f:0<γ z:=by
   rcases Nat.eq_zero_or_pos (γ z) with h|h
   ·rw[h]at b;simp at b
   ·exact h
  have k:=CL z e i b;have d:i%γ z<γ z:=Nat.mod_lt _ f;have g:i<γ (zG z e):=by rw[zF];exact b
  rw[aN d,aN g]at k;have c:=aP k;simp only[List.getElem_toArray,List.getElem_map,c];simp[d]
theorem Gk(D:Rel C w0 S0 ρ S F w)(L:C.nn=md.n){len:Nat}{j:Array (Nat×Β)}(h:iF C (S.ev C) S.H (.buildSlice e len j)=θ a):Step C md w0 S0 ρ S F w ⟨θ d,.buildSlice e len j,ty,pos,Ψ,ι⟩ (St.set ⟨S.F,a.H,S.nb,S.al,a.m++S.m⟩ d a.v):=by
 have h:asu C _ S.H e len j.toList=θ a:=h;unfold asu at h;split at h
 ·rename_i t B;split at h
  ·rename_i z n K o;have I:=dD h;have G:=dD I.2;have A:=G.2;split at A
   ·rename_i cs x;cases A;have l:=gO I.1;have M:=Rx G.1;obtain⟨J,T,R,y⟩:=XZ K w;have y:=y ρ;obtain⟨E,U,Q⟩:=Nw (ρ:=ρ) (md:=md) (F:=F) (k:=γ S.H) j.toList (zG z len) cs (λp _=>Rl D L p.2) (CK (λc O i s=>by rw[(R c O).1]at s;cases s) len) x;have f:(j.map λp=>(p.1,aU md F p.2)).toList=j.toList.map λp=>(p.1,aU md F p.2):=aA2;refine Kc (V:=λb=>.slice (θ ⟨b,0,ι⟩) len len) D Q (λi s=>by have:i=γ S.H:=aF.1 s;omega) Τ (λb=>by show ξ (θ ⟨(Gf ρ _ _ _).b,0,ι⟩) len len=_;rw[nS];rfl) ?_;have r:¬len*n>2^24:=aA0
    have q:∀m:Array ς,(len*n≠0->m=(z.map (SC.v ρ)).toArray)->(Array.range (len*n)).map (m[·%m.size]!)=((zG z len).map (SC.v ρ)).toArray:=by
     intro m P;by_cases g:len*n=0
     ·have N:γ (zG z len)=0:=by rw[zF,l,g]
      have:zG z len=[]:=Gh N;rw[g,this];simp
     ·rw[<-l];exact rh (P g)
    by_cases g:len*n=0
    ·have u:=q #[] (λh=>absurd g h);simp only[χ,Instr.buildSlice,Sem.run_bind,run_underlying (qu B),Result.andThen_ok,Tj o w];rw[aA r,aB g];simp only[Sem.run_bind,Sem.run_pure,Result.andThen_ok];rw[f,u,E];simp[newRow]
    ·have u:=q J.cells (λ_=>y);simp only[χ,Instr.buildSlice,Sem.run_bind,run_underlying (qu B),Result.andThen_ok,Tj o w];rw[aA r,aA g];simp only[Sem.run_bind,T,Sem.run_pure,Result.andThen_ok];rw[f,u,E];simp[newRow]
   ·cases A
  ·cases h
 ·cases h
end
open Go.Wk
open Go.Ce (Tr)
open List renaming length → aR
open Nat renaming beq → cT
theorem Az{a:Type}{f:a->δ ς}{sz:Nat}(b:kZ f sz):∀(l:δ a) i x,l[i]? =θ x->∃A B,l.flatMap f=A++(f x++B)/\γ A=i*sz
 |y::l,0,x,h=>by have:y=x:=aA8;subst this;exact⟨[],l.flatMap f,Τ,aA2⟩
 |y::l,i+1,x,h=>by obtain⟨A,B,d,c⟩:=Az b l i x aA8;exact⟨f y++A,B,by rw[wL,d,nW],by rw[cR,b.len,c,LX,Ie]⟩
theorem PM(t:Ty)(l:δ t.T)(j:Int)(h:0<=j/\j<aR l):l[j.toNat]? =θ (lb t l j):=by have a:j.toNat<aR l:=aA0;rw[elT_el];unfold el;simp[aN a]
variable{j:Int}{t:Ty}
theorem Jy{sz:Nat}(h:BE sz j t=μ):j.toNat*sz=j.toNat*t.sz:=by
 unfold BE at h;cases a:cT sz t.sz with
 |true=>rw[gO a]
 |false=>
  rw[a]at h;split at h
  ·show 0*sz=0*t.sz;simp
  ·cases h
theorem fy{l:δ t.T}(a:t.flat=μ)(b:0<=j/\j<aR l)(ρ:Nat->Ad):∃A B,l.flatMap t.enc=A++((zg t l j).map (SC.v ρ)++B)/\γ A=j.toNat*t.sz:=by obtain⟨A,B,d,c⟩:=Az (Ty.vX a) l j.toNat _ (PM t l j b);refine⟨A,B,?_,c⟩;rw[d];unfold zg;rw[(Ty.zY t 0 0 _ a).2]
section
variable{C:Cx}{md:Md}{w0 w:φ}{S0:δ Nat}{ρ:Nat->Ad}{S:St}{F:Nat->ς}
variable{d:Nat}{ty:Ε}{pos:String}{Ψ:Array Edge}
variable{x:Β}{t:Nat}{a:η}
theorem NV{n off k:Nat}{g:ε Ζ}{f A B:δ ς}{cs:δ SC}{v:SV}(m:Rd w g f)(b:f=A++(cs.map (SC.v ρ)++B))(o:aR A=k)(p:Sn C t=θ n)(l:S9 C t=θ a)(j:vP cs off n a=θ v)(r:cs≠[])(e:a=μ->0<n)
  (hx:aU md F x=.pointer (θ (ea g (k+off)))) (h:∀c∈cs,c.ok (γ S.H)):vB C md ρ S F w (.load t x) v:=by
 refine⟨Co j h,?_⟩;rcases rJ j with⟨rfl,c,i,_,rfl⟩|⟨rfl,i,_,rfl⟩|⟨rfl,rfl,rfl⟩
 ·refine⟨_,Τ,λd ty pos Ψ=>xn g f _ _ m ?_ hx (TS l w)⟩;rw[b,aM aA0,o,mh];have q:=(aE.1 i).1;rw[aI (by simpa using q),aW,i];rfl
 ·refine⟨_,Τ,λd ty pos Ψ=>xm g f _ _ n m ?_ ?_ (e Τ) hx (TS l w) (Tj p w)⟩
  ·rw[b,<-o,List.drop_append,Pu aA0,yL,mh,iI aA3,iG aA3,List.map_take,List.map_drop]
  ·simp;omega
 ·exact absurd (e Τ) aA0
variable{c:Ty}
theorem fz{l:δ c.T}{j:Int}(a:c.flat=μ)(n:Nat):(∀t∈zg c l j,t.ok n)/\γ (zg c l j)=c.sz:=by have g:=Ty.Tu c 0 0 (lb c l j) a;refine⟨λt e i b=>(by rw[(g t e).1]at b;cases b),?_⟩;have f:=(Ty.zY c 0 0 (lb c l j) a).2 (λ_=>⟨ι,ι,0,ν,0⟩);have d:=bM aR f;rw[Gj,Ty.Yu c _ a]at d;exact d
variable{j:Int}{b:Ro}
theorem Li{n off id sz:Nat}{τ:Ty}{l:δ τ.T}(q:Rd w (ρ id).a (l.flatMap τ.enc))(k:Sn C t=θ n)(p:S9 C t=θ a)(g:cT n 0=ν)(hx:aU md F x=.pointer (θ (ea (ρ id).a (j.toNat*sz+off))))
  (h:rH S.H τ l j sz off n a=θ b) (o:Hx b.g):vB C md ρ S F w (.load t x) b.v/\b.H=S.H/\b.m=[]:=by
 unfold rH at h;split at h
 ·rename_i v i;have f:=dD h;have c:=gY f.1;cases f.2;obtain⟨A,B,u,s⟩:=fy (ρ:=ρ) c.2 o.1;obtain⟨r,d⟩:=fz c.2 (γ S.H);refine⟨NV q u s k p i (λe=> ?_) (λ_=> ?_) (by rw[hx,Jy c.1]) r,Τ,Τ⟩
  ·have:=Ty.Cc c.2;rw[e]at d;simp at d;omega
  ·exact Pl λe=>by rw[e]at g;cases g
 ·cases h
theorem QP{t:Ty}(b:t.flat=μ)(ρ:Nat->Ad)(n:Nat):∀l,(js t l).map (SC.v ρ)=l.flatMap t.enc/\∀c∈js t l,c.ok n
 |[]=>⟨Τ,λc a=>by cases a⟩
 |x::l=>by
  obtain⟨f,e⟩:=QP b ρ n l;refine⟨?_,λc a=> ?_⟩
  ·show((t.lay 0 0 x).1++js t l).map _=_;rw[Ru,f,(Ty.zY t 0 0 x b).2,wL]
  ·rcases aZ.1 (a)with a|a
   ·intro i d;rw[(Ty.Tu t 0 0 x b c a).1]at d;cases d
   ·exact e c a
theorem RB{n off id sz:Nat}{l:δ c.T}(o:Rd w (ρ id).a (l.flatMap c.enc))(g:Sn C t=θ n)(i:S9 C t=θ a)(m:cT n 0=ν)(hx:aU md F x=.pointer (θ (ea (ρ id).a (j.toNat*sz+off))))
  (h:Jn S.H c l j off n a=θ b):vB C md ρ S F w (.load t x) b.v/\b.H=S.H/\b.m=[]:=by
 unfold Jn at h;split at h
 ·have d:=dD h;obtain⟨v,f,rfl⟩:=jl d.2;obtain⟨q,p⟩:=QP d.1 ρ (γ S.H) l;refine⟨NV (A:=[]) (B:=[]) (k:=0) o (by rw[q];simp) Τ g i f (λe=> ?_) (λ_=> ?_) (by rw[hx];simp) p,Τ,Τ⟩
  ·rcases rJ f with⟨_,τ,d,_⟩|⟨_,d,_⟩|⟨_,d,_⟩
   ·rw[e]at d;simp at d
   ·rw[e]at d;have:n=0:=by simp at d;omega
    rw[this]at m;cases m
   ·rw[d]at m;cases m
  ·exact Pl λe=>by rw[e]at m;cases m
 ·cases h
theorem OK(N:Rel C w0 S0 ρ S F w){c:SC}(hx:aU md F x=c.v ρ)(h:kK C S.H t c=θ b)(G:Hx b.g):vB C md ρ S F w (.load t x) b.v/\b.H=S.H/\b.m=[]:=by
 obtain⟨L,z,B⟩:=N.mem;unfold kK at h;split at h
 ·rename_i n a q o;cases f:cT n 0 with
  |true=>rw[f]at h;cases h
  |false=>
   rw[f]at h;split at h
   ·rename_i id off;split at h
    ·rename_i e cs i;rw[gA]at i;obtain⟨v,K,rfl⟩:=jl h;obtain⟨_,r,p,D,rfl,M⟩:=B.2 id _ i;have k:=z.bP id p;refine⟨⟨Co K (N.ho id e cs i),?_⟩,Τ,Τ⟩;rcases rJ K with⟨rfl,c,P,J,rfl⟩|⟨rfl,P,J,rfl⟩|⟨rfl,rfl,rfl⟩
     ·exact⟨_,Τ,λd ty pos Ψ=>yM (ρ id).b off D e _ k (M.2 off c P J) hx (TS o w)⟩
     ·refine⟨_,Τ,λd ty pos Ψ=>mG (ρ id).b off n D _ e k ?_ aA3 hx (TS o w) (Tj q w)⟩;apply cI;intro j;rw[bO,aW,bO];by_cases y:j<n
      ·rw[aB y,aB y,bV,bV];have E:off+j<aR cs:=by omega
       have A:=aN E;rw[A,M.2 _ _ A (J _ (aL (by rw[bO,aB y,bV];exact A)))];rfl
      ·rw[aA y,aA y];rfl
     ·exact⟨_,Τ,λd ty pos Ψ=>mG (ρ id).b off 0 D _ e k aA2 Τ hx (TS o w) (Tj q w)⟩
    ·cases h
   ·rename_i id j T off;split at h
    ·rename_i e g τ l i;rw[gA]at i;obtain⟨_,r,p,I⟩:=B.2 id _ i;subst I;exact Li (z.cP id p) q o f hx h G
    ·rename_i τ l i;rw[gA]at i;obtain⟨_,r,p,_,s,u,_⟩:=B.2 id _ i;split at h
     ·rename_i Q R;cases h;exact Li (s.dj z u) q o f hx R G
     ·exact RB (s.dj z u) q o f hx h
    ·rename_i m l i;rw[gA]at i;obtain⟨_,r,p,I⟩:=B.2 id _ i;subst I;have O:=z.eQ id p;have A:=(Ay l).symm;rw[A]at O;exact Li (τ:=.c') O q o f hx h G
    ·cases h
   ·cases h
 ·cases h
end
open Go.Wk
open Go.Ce (Tr)
open Nat renaming beq → cT, one_pos → Ib
section
variable{C:Cx}{md:Md}{w0 w:φ}{S0:δ Nat}{ρ:Nat->Ad}{S:St}{F:Nat->ς}
variable{L:δ cL}{t:Nat}{d:St}
theorem Ih{r:cL}{n:φ}{o l:Ob}(h:Rel C w0 S0 ρ S F w)(j:Mt w0 S0 ρ S.H L)(s:S.H[t]? =θ l)(E:Hp w0 S0 (L.set t r) n)(z:RO w0 S0 ρ t o r)(B:o.len=l.len)(A:∀e cs,o=.bl e cs->∀c∈cs,c.ok (γ S.H))
  (G:d.F=S.F) (b:d.H=jA S.H t o):Rel C w0 S0 ρ d F n:=by
 have q:∀M,d.at M=S.at M:=λM=>by rw[St.at_eq,St.at_eq,G]
 have a:γ d.H=γ S.H:=by rw[b,LA]
 have H:=(aE.1 s).1;refine⟨λg i D=>by rw[a];exact h.gl g i D,λM u y=>h.fr M u (by rw[<-q];exact y),λM=>by rw[q,a];exact h.fo M,λi e cs f c p=> ?_,⟨L.set t r,E,by simp[j.1,a],λi x k=> ?_⟩⟩
 ·rw[b,xU]at f;rw[a];split at f
  ·cases f;exact A e cs Τ c p
  ·exact h.ho i e cs f c p
 ·rw[b,xU]at k;split at k
  ·rename_i m;cases k;rw[m.1];exact⟨by rw[B];exact(j.2 t l s).1,r,by rw[dK];simp[j.1,H],z⟩
  ·rename_i m;obtain⟨K,v,J,I⟩:=j.2 i x k;refine⟨K,v,?_,I⟩;rw[dK,aA (λe=>m ⟨e.symm,H⟩)];exact J
theorem Xx{o n:Ob}{m:δ Rg}(u:Rel C w0 S0 ρ S F w)(s:S.H[t]? =θ n)(g:S.Fp m=μ)(r:∀b:δ Rg,(∀j,eM t j m=μ->eM t j b=μ)->kT b t ρ ρ (θ o) n)(k:d.H=jA S.H t o)(f:d.nb=S.nb)(h:d.al=S.al)(p:d.m=m++S.m):Nx S ρ d ρ:=by
 have c:∀e b,(∀j,t<e->eM t j m=μ->eM t j b=μ)->Le e b ρ S.H ρ d.H:=by
  intro e b a;rw[k];refine⟨by rw[LA];exact dC _,Up.refl,λi z v l=> ?_⟩;rw[xU];split
  ·rename_i q;rw[q.1,s]at l;cases l;rw[q.1]at v⊢;exact r b λj=>a j v
  ·rw[l];exact kT.refl
 exact⟨⟨f,h,c _ _ λj v a=>zS g v a⟩,c _ _ λj _ a=>by rw[p];exact Ge.2 (.inl a),λt j a=>by rw[p];exact Ge.2 (.inr a)⟩
variable{A E:δ ς}
theorem IH(h:t+γ E<=γ A)(j:Nat):(iU A t E)[j]? =if t<=j/\j<t+γ E then E[j-t]? else A[j]? :=by
 unfold iU;by_cases b:j<t
 ·rw[aA aA0,nW,aI aA3,bO,aB b]
 ·by_cases a:j<t+γ E
  ·rw[aB ⟨aA0,a⟩,aI aA3,aM aA3];simp;congr 1;omega
  ·rw[aA aA0,aM aA3,bV];congr 1;simp;omega
theorem vv(h:t+γ E<=γ A):γ (iU A t E)=γ A:=by unfold iU;simp;omega
variable{b:Ε}{c:String}{a:Array Edge}{n e g:Nat}{x y:Β}
theorem Qh(s:Rel C w0 S0 ρ S F w)(T:C.nn=md.n){off:Nat}{cs vs m:δ SC}(z:S.H[e]? =θ (.bl g cs))(hx:aU md F x=iM (ρ e).b off)(p:(S.ev C y).cells=θ vs)(dR:Sn C t=θ n)(V:γ vs=n)(i:uU cs off vs=θ m)(U:S.Fp [(e,off,off+n)]=μ):
  Step C md w0 S0 ρ S F w ⟨ι,.store t x y,b,c,a,ι⟩ ⟨S.F,jA S.H e (.bl g m),S.nb,S.al,[(e,off,off+n)]++S.m⟩:=by
 intro N Q J E;obtain⟨L,Y,M⟩:=s.mem;obtain⟨_,r,R,l,rfl,a0⟩:=M.2 e _ z;obtain⟨h1,h2⟩:=Rl s T y;obtain⟨u,h3,h4⟩:=SV.Iz (ρ:=ρ) p;have h5:=h2 u h3;obtain⟨Z,h7⟩:=bcv i;have h:off+γ (vs.map (SC.v ρ))<=γ l:=by rw[a0.1];simpa using Z
 have A:=SV.Oh p h1;obtain⟨w',q,I⟩:=Y.stored (P:=C.P) (off:=off) (vs:=vs.map (SC.v ρ)) R h (λv O=>by obtain⟨H,_,rfl⟩:=gD.1 O;exact SC.one ρ H);have hx:aU md F x=.pointer (θ ⟨(ρ e).b,off,ι⟩):=hx;have K:(Ο t).run C.P w=.ok (γ (vs.map (SC.v ρ))) w:=by rw[Gj,V];exact Tj dR w
 refine wO (w':=w') Τ Τ ?_ (E ρ F w' ?_ ?_ (λ_ _=>rfl) (λd X=>by cases X))
 ·have B:(Ο t).run C.P w=.ok (γ vs) w:=by rw[Gj]at K;exact K
  simp[χ,hx,h5,Instr.storeAt,Instr.sureAddr,storeVar,B,h4,q]
 ·refine Ih (o:=.bl g m) s M z I ⟨_,Τ,by rw[vv h,a0.1,zP i],λj H f D=> ?_⟩ Τ (λe2 a5 W H G=> ?_) Τ Τ
  ·rw[rD i]at f;rw[IH h,Gj];split at f
   ·rename_i k;rw[aB k,aW,f];rfl
   ·rename_i k;rw[aA k];exact a0.2 j H f D
  ·cases W;obtain⟨j,f⟩:=jK.1 G;rw[rD i]at f;split at f
   ·exact A H (aL f)
   ·exact s.ho e g cs z H (aL f)
 ·refine Xx s z U (λal G=>.inr ⟨m,Τ,zP i,λj H f=> ?_⟩) Τ Τ Τ Τ;by_cases k:off<=j/\j<off+γ vs
  ·left;refine G j (wE.2 ⟨_,aF.2 Τ,Τ,k.1,?_⟩);show j<off+n;omega
  ·exact .inr ⟨H,by rw[rD i,aA k];exact f,λE=>⟨E,Τ⟩⟩
theorem FG{a:Type}{f:a->δ ς}{sz:Nat}(b:kZ f sz):∀(l:δ a) i y,l[i]? =θ y->∃A B,l.flatMap f=A++(f y++B)/\γ A=i*sz/\∀x,(l.set i x).flatMap f=A++(f x++B)
 |z::l,0,y,h=>by have:z=y:=aA8;subst this;exact⟨[],l.flatMap f,Τ,aA2,λx=>rfl⟩
 |z::l,i+1,y,h=>by obtain⟨A,B,e,d,c⟩:=FG b l i y aA8;exact⟨f z++A,B,by rw[wL,e,nW],by rw[cR,b.len,d,LX,Ie],λx=>by rw[List.set_cons_succ,wL,c,nW]⟩
theorem IG{B vs:δ ς}(h:t+γ vs<=γ E):iU (A++(E++B)) (γ A+t) vs=A++(iU E t vs++B):=by unfold iU;rw[List.take_length_add_append,Cb,List.drop_length_add_append,iG aA0,iI h];simp
theorem oy{b:Type}{f:b->δ ς}{o:ε Nat}{l:δ b}{k:Nat}(h:Hp w0 S0 L w)(d:L[k]? =θ (bN f t n o (θ ⟨g,0,ι⟩) e l))(c:l≠[]):o=θ g:=by
 obtain⟨j,_⟩:=h.res _ (aL d);rcases j with⟨_,a,_⟩|⟨p,m,i,a,_⟩
 ·exact absurd a c
 ·simp at a;rw[a];exact i
theorem Qf(O:Rel C w0 S0 ρ S F w)(hn:C.nn=md.n){off a5 H:Nat}{τ:Ty}{l l2:δ τ.T}{j:Int}{vs:δ SC}(hb:S.H[e]? =θ (.rw a5 H τ l))(hx:aU md F x=.pointer (θ (ea (ρ e).a (j.toNat*g+off))))(R:(S.ev C y).cells=θ vs)(dR:Sn C t=θ n)(Z:γ vs=n)(J:cT n 0=ν)
  (a0:BE g j τ=μ) (N:τ.flat=μ) (hj:0<=j/\j<γ l) (s:setE τ l j off vs=θ l2) (hm:S.Fp [(e,0,1)]=μ):
  Step C md w0 S0 ρ S F w ⟨ι,.store t x y,b,c,a,ι⟩ ⟨S.F,jA S.H e (.rw a5 H τ l2),S.nb,S.al,[(e,0,1)]++S.m⟩:=by
 intro b2 Q a7 hk;obtain⟨L,hH,hM⟩:=O.mem;obtain⟨iD,r,I,K⟩:=hM.2 e _ hb;have K:=K;subst K;have hE:=Ty.vX N;obtain⟨h1,h2⟩:=Rl O hn y;obtain⟨u,h3,h4⟩:=SV.Iz (ρ:=ρ) R;have h5:=h2 u h3;unfold setE at s;split at s
 ·rename_i cs a4;split at s
  ·rename_i z hz;cases s;have a1:j.toNat<γ l:=aA0;obtain⟨A,B,f1,f2,f3⟩:=FG hE l j.toNat _ (PM τ l j hj);obtain⟨h6,h7⟩:=bcv a4;have a3:=(Ty.zY τ 0 0 (lb τ l j) N).2 ρ;have E:=(Y2 τ cs z [] hz).2 ρ;rw[gE,gV]at E;have Y:γ (zg τ l j)=τ.sz:=(fz (l:=l) (j:=j) N 0).2;have U:iU (τ.enc (lb τ l j)) off (vs.map (SC.v ρ))=τ.enc z:=by rw[<-E,<-a3,h7];unfold iU zg;simp
   have q:γ (τ.enc (lb τ l j))=τ.sz:=τ.Yu _ N;have i:off+γ (vs.map (SC.v ρ))<=γ (τ.enc (lb τ l j)):=by rw[q,Gj,<-Y];exact h6
   cases X:(ρ e).o with
   |none=>
    exfalso;rw[X]at I;obtain⟨h8,_⟩:=hH.res _ (aL I);rcases h8 with⟨_,D,_⟩|⟨m,c8,D,_⟩
    ·subst D;simp at a1
    ·cases D
   |some m=>
    rw[X]at I;obtain⟨ha,h8⟩:=hH.ND hE e I;have p:e<γ L:=(aE.1 I).1;have a2:γ (l.flatMap τ.enc)=γ A+(τ.sz+γ B):=by rw[f1];simp[q]
    obtain⟨w',G,D⟩:=h8.ye (P:=C.P) (k:=e) (vs:=vs.map (SC.v ρ)) (j:=γ A+off) (bE p) (by rw[a2];rw[q]at i;omega) (λv hv=>by
     obtain⟨T,_,rfl⟩:=gD.1 hv;exact SC.one ρ T) (λf=>by
     have:vs=[]:=List.map_eq_nil_iff.1 f;rw[this]at Z;rw[<-Z]at J;cases J)
    rw[LH,f1,IG i,U,<-f3 z,show γ l=γ (l.set j.toNat z) by simp]at D;obtain⟨o',h⟩:=D.Sw (k:=e) (l:=l.set j.toNat z) (bE p);rw[LH]at h;have W:o'=θ m:=by
     rw[ha]at h;refine oy h (bE p) λf=> ?_;have:γ (l.set j.toNat z)=0:=by rw[f];rfl
     rw[bD]at this;omega
    rw[W,<-X]at h;have V:(Ο t).run C.P w=.ok (γ vs) w:=by rw[Z];exact Tj dR w
    refine wO (w':=w') Τ Τ ?_ (hk ρ F w' ?_ ?_ (λ_ _=>rfl) (λd hd=>by cases hd))
    ·have M:j.toNat*g+off=γ A+off:=by rw[Jy a0,f2]
     rw[M]at hx;simp[χ,hx,h5,Instr.storeAt,Instr.sureAddr,storeVar,V,h4,G]
    ·exact Ih (o:=.rw a5 H τ _) O hM hb h Τ (by show(l.set j.toNat z).length=γ l;simp) (λ_ _ K=>by cases K) rfl rfl
    ·exact Xx O hb hm (λal hc=>.inl (hc 0 (wE.2 ⟨_,aF.2 Τ,Τ,dC _,Ib⟩))) Τ Τ Τ Τ
  ·cases s
 ·cases s
theorem Qg(H:Rel C w0 S0 ρ S F w)(B:C.nn=md.n){l:aC}{j:Int}{v:SC}{O:ζ}(h:S.H[n]? =θ (.br g l))(hx:aU md F x=.pointer (θ (ea (ρ n).a (j.toNat*e+0))))(P:S.ev C y=.c' v)(z:v.rC=θ O)(dR:Sn C t=θ 1)
  (f:BE e j .c'=μ) (G:0<=j/\j<γ l) (D:S.Fp [(n,0,1)]=μ):
  Step C md w0 S0 ρ S F w ⟨ι,.store t x y,b,c,a,ι⟩ ⟨S.F,jA S.H n (.br g (l.set j.toNat O)),S.nb,S.al,[(n,0,1)]++S.m⟩:=by
 intro s Q k E;obtain⟨L,K,p⟩:=H.mem;obtain⟨iD,r,A,m⟩:=p.2 n _ h;subst m;obtain⟨M,q⟩:=Rl H B y;have u:aU md F y=bt O:=by rw[P]at q;rw[q _ rfl,rC_v z ρ]
 have hx:aU md F x=.pointer (θ (ea (ρ n).a (j.toNat*1))):=by rw[hx,Jy f];rfl
 refine xw K n (ρ n).a g (ρ n).cap j l O A G hx u (Tj dR w) λw' i=>E ρ F w' ?_ ?_ (λ_ _=>rfl) (λd I=>by cases I)
 ·exact Ih (o:=.br g _) H p h i Τ Τ (λ_ _ m=>by cases m) rfl rfl
 ·exact Xx H h D (λN J=>.inl (J 0 (wE.2 ⟨_,aF.2 Τ,Τ,dC _,Ib⟩))) Τ Τ Τ Τ
theorem ID{ty:Ε}{pos:String}{Ψ:Array Edge}(r:Rel C w0 S0 ρ S F w)(p:C.nn=md.n){ro:Ro}(h:iF C (S.ev C) S.H (.store t x y)=θ ro)(A:Hx ro.g)(u:S.Fp ro.m=μ):
  Step C md w0 S0 ρ S F w ⟨ι,.store t x y,ty,pos,Ψ,ι⟩ ⟨S.F,ro.H,S.nb,S.al,ro.m++S.m⟩/\ro.v=.u':=by
 obtain⟨a,D,h⟩:=lC (h);have hx:=(nQ r p D).2;unfold Il at h;split at h
 ·rename_i n L dR i;have h:=dD h;have q:=gO h.1;have h:=h.2;split at h
  ·rename_i id off;split at h
   ·rename_i e cs f;rw[gA]at f;split at h
    ·rename_i J s;cases h;exact⟨Qh r p f hx i dR q s u,Τ⟩
    ·cases h
   ·cases h
  ·rename_i id j M off;cases k:cT n 0 with
   |true=>rw[k]at h;cases h
   |false=>
    rw[k]at h;split at h
    ·rename_i e b K l f;rw[gA]at f;split at h
     ·rename_i N s;have h:=dD h;have o:=gY h.1;cases h.2;exact⟨Qf r p f hx i dR q k o.1 o.2 A.1 s u,Τ⟩
     ·cases h
    ·rename_i m l f;rw[gA]at f;split at h
     ·rename_i v z;split at h
      ·rename_i c B;have h:=dD h;have o:=gY h.1;have E:=gO o.2;cases h.2;subst E;have d:(S.ev C y).cells=θ [v]:=by rw[z];rfl
       rw[i]at d;have I:=aP d;rw[I]at q;have G:=q.symm;rw[G]at dR;exact⟨Qg r p f hx z B dR o.1 A.1 u,Τ⟩
      ·cases h
     ·cases h
    ·cases h
  ·cases h
 ·cases h
end
end Go.Oe
