/-
  The law BodiesApart holds (part 5 of 8).
-/
import Derived.Test.YtbljlpflaehacaaGreatDoorYc4
set_option linter.unusedVariables false
set_option linter.unusedSimpArgs false
set_option maxRecDepth 100000
namespace Go.Wk
open Go.Px
open Go.Lib renaming itoa → gF
open Int renaming toNat → aR
open List renaming drop → bK, length → aS, take → kO
abbrev VV:=aA×aA×Int×aA×List PP
def tO:VV:=([],[],0,[],[])
def xx:aA:=[83,73,80,47,50,46,48,47]
def iq:aA:=[98,114,97,110,99,104]
def Yz(s:aA):aA:=s.map Zs
theorem tR(s:aA):(Yz s).length=aS s:=by unfold Yz;exact Dj ..
theorem OO(s:aA)(g:aS s<=9223372036854775807)(l:aA):∀(p:aA) (a:Nat),aS p+aS l=aS s->aS l<a->
  aea FU s a (p++l) (aS p:Int)=some (p++l.map Zs):=by
 induction l with
 |nil=>intro p a d e;obtain⟨a,rfl⟩:=cV a;simp only [iO]at d;rw [aiz,adw,aB aT];rfl
 |cons c l f=>intro p a d e;obtain⟨a,rfl⟩:=cV a;simp only [cF]at d e;have b:=Qq p c l;rw [aiz,adw,aC aT,bA b,bA b,nQ,Ou];simp only [aY];rw [bA b,bA b,bA (adc _ aT aT),Dm,XW p (Zs c),f (p++[Zs c]) a aB8 aT];simp
theorem El(s:aA)(a:aS s<=9223372036854775807):lv FU s=some (Yz s):=by unfold lv;have:=OO s a s [] FU aA2 aA4;simp only [Ka,iO,Int.natCast_zero,Int.cast_ofNat_Int]at this;rw [this];rfl
theorem db(l:List PP)(j:aS l<=4194304)(e:∀p∈l,aS p.1<=4194304)(y:aA)(n:Nat):∀(k a:Nat),k+n=aS l->n<a->
  ug FU l y a (k:Int)=some (match(l.drop k).find? (fun p=>dS p.1==y)with|none=>.inl ()|some p=>.inr (p.2.1,true)):=by
 induction n with
 |zero=>intro k a f g;obtain⟨a,rfl⟩:=cV a;obtain rfl:k=aS l:=aA0;rw [ayi,zx,aB aT,eW];rfl
 |succ n d=>
  intro k a f g;obtain⟨a,rfl⟩:=cV a;have b:k<aS l:=aA0;have c:(0:Int)<=(k:Int)/\(k:Int)<(aS l:Int):=aA0;have i:l.drop k=el l (k:Int)::l.drop (k+1):=by rw [Ih _ _ b,dG b]
  rw [ayi,zx,aC c.2,bA c,bA c,XY _ (e _ (I2 l k b)),aY,i,List.find?_cons];by_cases h:dS (el l (k:Int)).1=y
  ·rw [aC h,show(dS (el l (k:Int)).1==y)=true by simpa using h]
  ·rw [aB h,show(dS (el l (k:Int)).1==y)=false by simpa using h,bA (adc _ aT aT),Ke,d (k+1) a aT aT]
theorem get_eq(l:List PP)(d:aS l<=4194304)(b:∀p∈l,aS p.1<=4194304)(name:aA)(c:aS name<=4194304):tp FU l name=some (Kv l name):=by have:=db l d b (dS name) l.length 0 FU aT aA4;rw [cQ]at this;have a:ug FU l (dS name) FU (0:Int)=_:=this;unfold tp;rw [XY _ c,aY,a,aY];have e:Kv l name=(match l.find? (fun p=>dS p.1==dS name)with|some p=>(p.2.1,true)|none=>([],false)):=rfl;rw [e];cases l.find? (fun p=>dS p.1==dS name)<;>rfl
theorem nO(v:aA)(c:UInt8):Lib.contains v [c]=v.any (·==c):=by
 unfold Lib.contains;rcases Q9 c v with⟨h1,h2⟩|⟨f,a,h1,h2,h3⟩
 ·rw [h1,aQ aT];symm;rw [rJ];intro x hx;simpa using h2 x hx
 ·rw [h3,aO aT,h1];simp
def nN(P:aA):aA×aA×Bool:=
 if nP (·==(58:UInt8)) P<0 then(P,[],false)
 else if((P.take (nP (·==(58:UInt8)) P).toNat).any (·==91)&&(P.drop (nP (·==(58:UInt8)) P).toNat).any (·==93))=true then(P,[],false)
 else(P.take (nP (·==(58:UInt8)) P).toNat,P.drop (nP (·==(58:UInt8)) P+1).toNat,true)
theorem CF(P:aA)(f:aS P<=4194304):zn FU P=some (nN P):=by
 have b:=Mw (·==(58:UInt8)) P;unfold zn nN;rw [bA aT];generalize nP (·==(58:UInt8)) P=a at b⊢;by_cases h:a<0
 ·rw [aC h,aY,aL,aC h]
 ·have e:0<=a/\a<(aS P:Int):=by omega
  rw [aB h,aB h,bA aT,bA aA7,nO,nO];have c:∀o:Option Bool,o=some ((P.take a.toNat).any (·==91)&&(P.drop a.toNat).any (·==93))->(o.bind fun(v:Bool)=>(bif v then some (P,([]:aA),false)else(gd (0<=a/\a<=(aS P:Int))<|(gd (bJ (a+(1:Int)))<|(gd (0<=(a+(1:Int))/\(a+(1:Int))<=(aS P:Int))<|some (kO (aR a) P,bK (aR (a+(1:Int))) P,true))))))=some (if((P.take a.toNat).any (·==91)&&(P.drop a.toNat).any (·==93))=true then(P,[],false)else(P.take a.toNat,P.drop (a+1).toNat,true)):=by
   intro o d;rw [d,aY];cases((P.take a.toNat).any (·==91)&&(P.drop a.toNat).any (·==93))with
   |true=>rfl
   |false=>rw [aH,bA aT,bA (adc _ aT aT),bA aT,aB (show¬(false=true)by decide)]
  refine c _ ?_;cases(P.take a.toNat).any (·==91)with
  |false=>rfl
  |true=>rw [aL,bA aT,bA aC6,Kf]
theorem Yi(P:aA):(nN P).1.length<=aS P/\(nN P).2.1.length<=aS P:=by
 unfold nN;split
 ·simp
 ·split
  ·simp
  ·simp only [eI,jR];omega
def vT(c:UInt8):Bool:=c==59||cW c
theorem ZP:(fun c=>([59,32,9]:aA).contains c)=vT:=by funext c;revert c;exact iG _ aA3
def Ek(b h:aA)(a:Int)(rest:aA):VV×UInt8:=if(jC rest).2.2=0 then((b,h,a,(Kv (jC rest).1 iq).1,(jC rest).1),0)else(tO,(jC rest).2.2)
def Uc(a place rest:aA):VV×UInt8:=
 if(gA (nN place).1).2=false then(tO,5)
 else if(nN place).2.2=true then(if(oD (nN place).2.1).2=0 then Ek a (gA (nN place).1).1 (oD (nN place).2.1).1 rest else(tO,(oD (nN place).2.1).2))
 else Ek a (gA (nN place).1).1 0 rest
def tQ(v:aA):VV×UInt8:=
 if(dO v).length<8 then(tO,5)
 else if¬Yz ((dO v).take 8)=xx then(tO,5)
 else if cD dR (dO v) 8=8 then(tO,5)
 else if cD cW (dO v) (cD dR (dO v) 8:Int)=cD dR (dO v) 8 then(tO,5)
 else Uc (Yz (sub (dO v) 8 (cD dR (dO v) 8:Int)))
  (((dO v).drop (cD cW (dO v) (cD dR (dO v) 8:Int))).take (eR (fun c=> !vT c) ((dO v).drop (cD cW (dO v) (cD dR (dO v) 8:Int)))))
  (((dO v).drop (cD cW (dO v) (cD dR (dO v) 8:Int))).drop (eR (fun c=> !vT c) ((dO v).drop (cD cW (dO v) (cD dR (dO v) 8:Int)))))
theorem Gc(s:aA)(d:aS s<=4194304):∀(f:Nat) (l:List PP) (i:Nat),(∀p∈l,dS p.1=p.1/\p.1.length<=aS s/\p.2.1.length<=90000000)->∀p∈(nE s f l i).1,dS p.1=p.1/\p.1.length<=aS s/\p.2.1.length<=90000000
 |0,_,_,_=>by simp [nE]
 |f+1,l,i,h=>by
  rw [nE];split
  ·exact h
  ·split
   ·simp
   ·split
    ·rename_i e;have c:=qW cW s ((cD cW s (i:Int)+1:Nat):Int);have a:=We s d _ c e;split
     ·refine Gc s d f _ _ fun p b=> ?_;rcases aU.1 b with b|b
      ·exact h p b
      ·rw [aE.1 b];exact⟨a.2.2.2.1,a.2.2.2.2.1,a.2.2.2.2.2⟩
     ·simp
    ·simp
theorem jh(s:aA)(a:aS s<=4194304):∀p∈(jC s).1,dS p.1=p.1/\p.1.length<=aS s/\p.2.1.length<=90000000:=Gc s a _ [] 0 aA2
theorem Gb(s:aA):(jC s).1.length<=16:=Gd s _ [] 0 aA2
theorem DW(c h:aA)(a:Int)(rest:aA)(d:aS rest<=4194304):((U9 FU rest).bind fun(y:((List PP)×Int×UInt8))=>(if y.2.2=(0:UInt8)then((tp FU y.1 ([98,114,97,110,99,104]:aA)).bind fun(g:(aA×Bool))=>some ((c,h,a,g.1,y.1),(0:UInt8)))else some ((([]:aA),([]:aA),(0:Int),([]:aA),([]:List PP)),y.2.2)))=some (Ek c h a rest):=by
 have i:=Gb rest;have f:=jh rest d;unfold Ek;rw [zE rest d,aY];by_cases b:(jC rest).2.2=0
 ·rw [aC b,aC b,get_eq _ aT (fun p e=>by have:=(f p e).2.1;omega) _ aA1,aY];rfl
 ·rw [aB b,aB b];rfl
theorem FF(y:Int×UInt8):((if y.2=(0:UInt8)then(if y.1<(1:Int)then some true else some (decide ((65535:Int)<y.1)))else some false).bind fun(b:Bool)=>(bif b then some (3:UInt8)else some y.2))=some (if y.2=0/\(y.1<1\/65535<y.1)then 3 else y.2):=by
 by_cases a:y.2=0
 ·rw [aC a];by_cases h1:y.1<1
  ·rw [aC h1,aC ⟨a,.inl h1⟩];rfl
  ·rw [aB h1];by_cases h2:65535<y.1
   ·rw [aO h2,aC ⟨a,.inr h2⟩];rfl
   ·rw [aQ h2,aB (by rintro⟨_,h|h⟩<;>contradiction)];rfl
 ·rw [aB a,aB (fun h=>a h.1)];rfl
theorem X7(v:aA)(B:aS v<=4194304):yy FU v=some (tQ v):=by
 have D:=MN v;unfold yy tQ;rw [kF v B,aY];generalize dO v=s at D⊢;by_cases A:aS s<8
 ·rw [aC (show(aS s:Int)<8 by omega),aC A];rfl
 rw [aB (show¬(aS s:Int)<8 by omega),aB A,bA aT,El _ aA7,aY,aY];by_cases q:Yz (s.take 8)=xx
 ·have d:Yz (kO (aR (8:Int)) s)=([83,73,80,47,50,46,48,47]:aA):=q;have u:=Sv dR s 8 aT;have l:=qW dR s 8;have m:8<=cD dR s 8:=u;rw [aO d,mI,aH,aB (not_not_intro q),mW s aT,aY,sJ s aT,aY];generalize cD dR s 8=k at m l⊢;have x:=Sv cW s k l;have w:=qW cW s (k:Int);generalize cD cW s (k:Int)=i at x w⊢;by_cases j:k=8
  ·rw [aC aT,aY,aL,aC j];rfl
  rw [aB aT,aY,aB j];by_cases n:i=k
  ·rw [aO aT,aL,aC n];rfl
  rw [aQ aT,aH,aB n,bA aT,El _ (by rw [show(8:Int)=((8:Nat):Int)from rfl,CQ];omega),aY,bA aT,mP];have y:(s.drop i).length<=4194304:=aC6;generalize Yz (sub s (8:Int) (k:Int))=F;generalize s.drop i=P at y⊢;have e:=K9 vT P;have z:=HD (fun c=> !vT c) P;have t:∀o:Option (aA×aA),o=some (P.take (eR (fun c=> !vT c) P),P.drop (eR (fun c=> !vT c) P))->∀f:aA×aA->Option (VV×UInt8),o.bind f=f (P.take (eR (fun c=> !vT c) P),P.drop (eR (fun c=> !vT c) P)):=fun o C f=>by rw [C];rfl
  rw [t _ (by
   rw [bA ⟨aA0,aA1,aA1⟩,jn,ZP];by_cases hx:(0:Int)<=dJ vT P
   ·rcases e with h|h
    ·omega
    ·rw [aC hx,bA aT,bA aT,h.2.2,mP]
   ·rcases e with h|h
    ·rw [aB hx,h.2,Zj,eW]
    ·omega)]
  have g:(P.take (eR (fun c=> !vT c) P)).length<=4194304:=aA7;have b:(P.drop (eR (fun c=> !vT c) P)).length<=4194304:=aC6;generalize P.take (eR (fun c=> !vT c) P)=a at g⊢;generalize P.drop (eR (fun c=> !vT c) P)=rest at b⊢;have E:=Yi a;unfold Uc;simp only;rw [CF a g,aY,jb _ aT,aY];cases G:(gA (nN a).1).2 with
  |false=>rfl
  |true=>
   rw [mI,aH,aB (show¬(true=false)by decide)];cases H:(nN a).2.2 with
   |false=>rw [aH,aY,mR,DW _ _ _ _ b,aB (show¬(false=true)by decide)]
   |true=>
    rw [aL,sB,aY,FF,aY,aC rfl];unfold oD;by_cases p:(hK (nN a).2.1).2=0/\((hK (nN a).2.1).1<1\/65535<(hK (nN a).2.1).1)
    ·rw [aC p,aC p,aB aA1,aY,Lk,aB aA1];rfl
    ·rw [aB p,aB p];by_cases r:(hK (nN a).2.1).2=0
     ·rw [aC r,aC r,aY,mR,DW _ _ _ _ b]
     ·rw [aB r,aB r,aY,Lk];rfl
 ·have d:¬Yz (kO (aR (8:Int)) s)=([83,73,80,47,50,46,48,47]:aA):=q;rw [aQ d,Cb,aL,aC q];rfl
def gL(l:List PP):List PP:=l.filter fun p=> !(p.1==iq)
def lZ(b:aA):List PP:=if b=[]then []else [(iq,b,true)]
def pN(h:aA)(n:Int):aA:=if n=0 then h else h++([58]++gF n)
def Ft(x:VV):aA×UInt8:=
 if(gA x.2.1).2=true/\mJ x.1=true/\0<=x.2.2.1/\x.2.2.1<=65535/\(tY (fV (gL x.2.2.2.2++lZ x.2.2.2.1))).2=0
 then(xx++Yz x.1++[32]++pN (gA x.2.1).1 x.2.2.1++(tY (fV (gL x.2.2.2.2++lZ x.2.2.2.1))).1,0)else([],2)
theorem Vy(l:List PP):(gL l).length<=aS l:=List.length_filter_le _ _
theorem RT(l:List PP)(p:PP)(h:p∈gL l):p∈l:=(List.mem_filter.1 h).1
theorem WB(b:aA):(lZ b).length<=1:=by unfold lZ;split<;>simp
theorem B6(x:VV)(m:aS x.2.2.2.2<=4194304)(q:List PP):∀(p:List PP) (c:Nat),x.2.2.2.2=p++q->aS q<c->
  vu FU x c (gL p) (aS p:Int)=some (gL (p++q)):=by
 induction q with
 |nil=>intro p c h i;obtain⟨c,rfl⟩:=cV c;rw [aun,alr,aB aA8,kP]
 |cons a q j=>
  intro p c h i;obtain⟨c,rfl⟩:=cV c;have f:=bP aS h;simp only [cB,cF]at f i;have d:(0:Int)<=(aS p:Int)/\(aS p:Int)<(aS x.2.2.2.2:Int):=aA0;have l:el x.2.2.2.2 (aS p:Int)=a:=aB5;have b:=j (p++[a]) c aA8 aT;rw [show((p++[a]).length:Int)=(aS p:Int)+1 by simp,iI,YF]at b;have k:=Vy p;rw [aun,alr,aC d.2,bA d,bA d,l];by_cases g:a.1=iq
  ·have e:gL (p++[a])=gL p:=by unfold gL;rw [List.filter_append];simp [g]
   rw [aC (show a.1=([98,114,97,110,99,104]:aA)from g),bA (adc _ aT aT)];rw [e]at b;exact b
  ·have e:gL (p++[a])=gL p++[a]:=by unfold gL;rw [List.filter_append];simp [g]
   rw [aB (show¬a.1=([98,114,97,110,99,104]:aA)from g)];simp only [Fv];rw [bA aB1,bA (adc _ aT aT)];rw [e]at b;exact b
theorem X6(x:VV)(b:∀p∈x.2.2.2.2,aS p.1<=4194304/\p.2.1.length<=4194304)(c:aS x.2.2.2.1<=4194304):∀p∈gL x.2.2.2.2++lZ x.2.2.2.1,aS p.1<=4194304/\p.2.1.length<=4194304:=by
 intro p a;rcases aU.1 a with h|h
 ·exact b p (RT _ p h)
 ·unfold lZ at h;split at h
  ·simp at h
  ·rw [aE.1 h];exact⟨show iq.length<=4194304 by decide,c⟩
theorem JT(l:List PP)(c:aS l<=100)(f:∀p∈l,aS p.1<=4194304/\p.2.1.length<=4194304):((CZ FU l).bind fun y=>LK FU y)=some (tY (fV l)):=by
 have e:=sE l;by_cases g:16<aS l
 ·obtain⟨d,h,i⟩:=vP l c;have b:tY (fV l)=([],2):=by unfold tY;rw [aC aT]
  rw [h,aY,Wd d aT,b]
 ·rw [Lt l aT,aY,aza _ (fun p a=>f p (lU _ p a))]
theorem lE(x:VV)(h:¬((gA x.2.1).2=true/\mJ x.1=true/\0<=x.2.2.1/\x.2.2.1<=65535/\(tY (fV (gL x.2.2.2.2++lZ x.2.2.2.1))).2=0)):Ft x=([],2):=by unfold Ft;rw [aB h]
theorem Lz(x:VV)(h:(gA x.2.1).2=true/\mJ x.1=true/\0<=x.2.2.1/\x.2.2.1<=65535/\(tY (fV (gL x.2.2.2.2++lZ x.2.2.2.1))).2=0):Ft x=(xx++Yz x.1++[32]++pN (gA x.2.1).1 x.2.2.1++(tY (fV (gL x.2.2.2.2++lZ x.2.2.2.1))).1,0):=by unfold Ft;rw [aC h]
theorem Vm(x:VV)(h1:aS x.1<=4194304)(h2:aS x.2.1<=4194304)(E:aS x.2.2.2.2<=40)(A:∀p∈x.2.2.2.2,aS p.1<=4194304/\p.2.1.length<=4194304)(B:aS x.2.2.2.1<=4194304):zu FU x=some (Ft x):=by
 have w:=Vy x.2.2.2.2;have z:=WB x.2.2.2.1;have d:=X6 x A B;have s:(gL x.2.2.2.2++lZ x.2.2.2.1).length<=41:=by rw [cB];omega
 have m:=Qd (fV (gL x.2.2.2.2++lZ x.2.2.2.1)) (fun p v=>d p (lU _ p v));have G:=Ni x.2.1;have t:=tR x.1;unfold zu;rw [jb _ h2,aY];cases r:(gA x.2.1).2 with
 |false=>rw [lE x (fun h=>by rw [r]at h;exact absurd h.1 aA1)];rfl
 |true=>
  rw [mI,aH,U3 _ aT,aY];cases q:mJ x.1 with
  |false=>rw [lE x (fun h=>by rw [q]at h;exact absurd h.2.1 aA1)];rfl
  |true=>
   rw [mI,aH];by_cases c:x.2.2.1<0
   ·rw [aC c,aY,aL,lE x (by rintro⟨_,_,h,_⟩;omega)]
   by_cases e:65535<x.2.2.1
   ·rw [aB c,aO e,aY,aL,lE x (by rintro⟨_,_,_,h,_⟩;omega)]
   have n:=B6 x aT x.2.2.2.2 [] FU rfl aA4;have i:vu FU x FU ([]:List PP) (0:Int)=some (gL x.2.2.2.2):=n;rw [aB c,aQ e,aY,aH,i,aY];have D:(if x.2.2.2.1=([]:aA)then some (gL x.2.2.2.2)else(gd (((gL x.2.2.2.2).length+([(([98,114,97,110,99,104]:aA),x.2.2.2.1,true)]:List PP).length)*40<=140737488355328)<|some (gL x.2.2.2.2++([(([98,114,97,110,99,104]:aA),x.2.2.2.1,true)]:List PP))))=some (gL x.2.2.2.2++lZ x.2.2.2.1):=by
    unfold lZ;by_cases a:x.2.2.2.1=[]
    ·rw [aC a,aC a,kP]
    ·rw [aB a,aB a,bA aB1];rfl
   rw [D,aY];have o:=JT (gL x.2.2.2.2++lZ x.2.2.2.1) aT d;have b:=Lz x;have g:=lE x;generalize gL x.2.2.2.2++lZ x.2.2.2.1=l at o m b g⊢;have key:∀f:aA×UInt8->Option (aA×UInt8),((CZ FU l).bind fun(y:List PP)=>((LK FU y).bind f))=f (tY (fV l)):=by
    intro f;have:((CZ FU l).bind fun(y:List PP)=>((LK FU y).bind f))=((CZ FU l).bind fun y=>LK FU y).bind f:=by cases CZ FU l<;>rfl
    rw [this,o];rfl
   rw [key];by_cases k:(tY (fV l)).2=0
   ·have F:=lS x.2.2.1 aT aT;have C:(if x.2.2.1=(0:Int)then some (gA x.2.1).1 else(gd (bJ x.2.2.1)<|(gd (([58]:aA).length+(gF x.2.2.1).length<=9223372036854775807)<|(gd ((gA x.2.1).1.length+(([58]:aA)++(gF x.2.2.1)).length<=9223372036854775807)<|some ((gA x.2.1).1++(([58]:aA)++(gF x.2.2.1)))))))=some (pN (gA x.2.1).1 x.2.2.1):=by
     unfold pN;by_cases j:x.2.2.1=0
     ·rw [aC j,aC j]
     ·rw [aB j,aB j,bA (adc _ aT aT),bA aB1,bA aA9]
    have u:(pN (gA x.2.1).1 x.2.2.1).length<=(gA x.2.1).1.length+6:=by
     unfold pN;split
     ·omega
     ·simp only [cB,dX];omega
    rw [aC k,C,aY,El _ aT,aY,bA aC2,bA aB6,bA aB6,bA aB6,b ⟨r,q,aA0,aA0,k⟩];rfl
   ·rw [aB k,g (fun h=>k h.2.2.2.2)]
open UInt8 renaming ofNat → rO
theorem Xb(l:aA)(c:UInt8):decide ((0:Int)<=dJ (·==c) l)=hasB l c:=Xa l c
theorem Ho(c:UInt8)(k:Int)(f:k=0\/k=1\/k=2):uh FU c k=some (Zp c k):=by
 unfold uh;rw [Ok,aY];have a:∀b:Bool,Zp c k=(b||hasB (CJ k) c)->((some b).bind fun(e:Bool)=>(bif e then some true else(((if(0:Int)<=k then(if k<=(2:Int)then(gd (0<=k/\k<(3:Int))<|(gd (0<=k/\k<(XZ.length:Int))<|some (decide ((0:Int)<=(dJ (·==c) (el XZ k))))))else some false)else some false)).bind fun(d:Bool)=>some d)))=some (Zp c k):=by
  intro b h;rw [h,aY];cases b with
  |true=>rfl
  |false=>
   have i:(XZ.length:Int)=3:=rfl;have g:el XZ k=CJ k:=by rcases f with rfl|rfl|rfl<;>rfl
   rw [aH,aC aA0,aC aA0,bA aA0,bA aA0,g,Xb];rfl
 cases h1:sD c with
 |true=>rw [aL];exact a true (by unfold Zp;rw [h1];rfl)
 |false=>
  rw [aH,qX,aY];cases h2:jO c with
  |true=>rw [aL];exact a true (by unfold Zp;rw [h1,h2];rfl)
  |false=>rw [aH,Xb];exact a _ (by unfold Zp;rw [h1,h2];rfl)
def hx(c:UInt8):UInt8:=((V0 FU c).getD (0,false)).1
theorem GB:∀c:UInt8,V0 FU c=some (hx c,iU c):=iG _ aA3
theorem R1:∀c:UInt8,(hx c).toNat<16:=iG _ aA3
theorem Z2:∀a b:Fin 16,(AO (rO a.val) (4:Int))|||rO b.val=rO (16*a.val+b.val):=aA3
def esV(a b:UInt8):UInt8:=rO (16*(hx a).toNat+(hx b).toNat)
theorem ZO(a b:UInt8):(AO (hx a) (4:Int))|||hx b=esV a b:=by have:=Z2 ⟨(hx a).toNat,R1 a⟩ ⟨(hx b).toNat,R1 b⟩;simp only [UInt8.ofNat_toNat]at this;exact this
def Ig(l:aA):Option UInt8:=if 2<l.length/\at_ l 0=37/\iU (at_ l 1)=true/\iU (at_ l 2)=true then some (esV (at_ l 1) (at_ l 2))else none
theorem nR(s:aA)(i:Nat)(j:Nat):at_ (s.drop i) (j:Int)=at_ s ((i+j:Nat):Int):=by simp only [at_,mP,bV,bU]
theorem Yb(s:aA)(m:s.length<=4194304)(i:Nat)(n:i<s.length):∃v,uu FU s (i:Int)=some (v,(Ig (s.drop i)).isSome)/\((Ig (s.drop i)).isSome=true->Ig (s.drop i)=some v):=by
 have e:=nR s i 0;have l:=nR s i 1;have k:=nR s i 2;have j:(i:Int)+1=((i+1:Nat):Int):=rfl;have g:(i:Int)+2=((i+2:Nat):Int):=rfl;have f:(s.drop i).length=s.length-i:=jR;rw [Dg]at e;have d:at_ (s.drop i) 0=at_ s (i:Int):=e;have c:at_ (s.drop i) 1=at_ s ((i+1:Nat):Int):=l;have b:at_ (s.drop i) 2=at_ s ((i+2:Nat):Int):=k;unfold uu Ig;rw [bA (adc _ aA0 aA0),j,g,f,d,c,b];by_cases h2:s.length<=i+2
 ·rw [aC aA0,aY,aL,aB aA0];exact⟨0,rfl,fun h=>absurd h aA1⟩
 ·rw [aB aA0,bA aA0,aY];by_cases a:at_ s (i:Int)=37
  ·rw [aO a,mI,aH,bA (adc _ aA0 aA0),bA aA0,GB,aY,bA (adc _ aA0 aA0),bA aA0,GB,aY,ZO];cases p:iU (at_ s ((i+1:Nat):Int))with
   |false=>rw [aH,aY,aB (fun h=>absurd h.2.2.1 aA1)];exact⟨_,rfl,fun h=>absurd h aA1⟩
   |true=>
    rw [aL,aY];cases o:iU (at_ s ((i+2:Nat):Int))with
    |false=>rw [aB (fun h=>absurd h.2.2.2 aA1)];exact⟨_,rfl,fun h=>absurd h aA1⟩
    |true=>rw [aC ⟨aA0,a,rfl,rfl⟩];exact⟨_,rfl,fun _=>rfl⟩
  ·rw [aQ a,Cb,aL,aB (fun h=>a h.2.1)];exact⟨0,rfl,fun h=>absurd h aA1⟩
def qU(k:Int):Nat->aA->Option Nat
 |0,_=>none
 |f+1,l=>if l=[]then none else if Zp (at_ l 0) k=true then(qU k f (l.drop 1)).map (·+1)
  else match Ig l with
   |some v=>if gN v=true then some 0 else(qU k f (l.drop 3)).map (·+3)
   |none=>some 0
def Af(k:Int):Nat->aA->aA
 |0,_=>[]
 |f+1,l=>if l=[]then []else if Zp (at_ l 0) k=true then at_ l 0::Af k f (l.drop 1)
  else match Ig l with
   |some v=>v::Af k f (l.drop 3)
   |none=>[]
def uO(k:Int)(l:aA):Option Nat:=qU k (l.length+1) l
def qN(k:Int)(l:aA):aA:=Af k (l.length+1) l
theorem qk(k:Int)(a:k=0\/k=1\/k=2):Zp 37 k=false:=by rcases a with rfl|rfl|rfl<;>decide
theorem zZ{l:aA}{v:UInt8}(h:Ig l=some v):2<l.length/\at_ l 0=37:=by
 unfold Ig at h;split at h
 ·rename_i a;exact⟨a.1,a.2.1⟩
 ·cases h
theorem uR(c:UInt8):zq FU c=some (gN c):=by revert c;exact iG _ aA3
theorem OA(s:aA)(r:Int)(e:Nat)(B:s.length<=4194304)(C:e<=s.length)(k:Int)(w:k=0\/k=1\/k=2)(n:Nat):∀(i a f:Nat),e-i<=n->n<a->i<=e->e-i<f->
  ain FU (s,r) (e:Int) k a (i:Int)=some (match qU k f ((s.take e).drop i)with|none=>.inl ()|some j=>.inr (((i+j:Nat):Int),true)):=by
 induction n with
 |zero=>intro i a f x y g l;obtain⟨a,rfl⟩:=cV a;obtain⟨f,rfl⟩:∃m,f=m+1:=⟨f-1,aA0⟩;rw [aki,wx,aB aA0,qU,aC (YG aA7)]
 |succ n p=>
  intro i a f x y g l;obtain⟨a,rfl⟩:=cV a;obtain⟨f,rfl⟩:∃m,f=m+1:=⟨f-1,aA0⟩;by_cases d:i<e
  ·have b:((s.take e).drop i).length=e-i:=by rw [jR,eI];omega
   have c:¬(s.take e).drop i=[]:=fun h=>by rw [h]at b;simp at b;omega
   have jQ:at_ ((s.take e).drop i) 0=at_ s (i:Int):=by have:=nR (s.take e) i 0;rw [Dg]at this;rw [show at_ ((s.take e).drop i) 0=at_ (s.take e) (i:Int)from this];simp only [at_,mP,bV];rw [List.getElem?_take_of_lt d]
   have d1:((s.take e).drop i).drop 1=(s.take e).drop (i+1):=by rw [MA]
   have d3:((s.take e).drop i).drop 3=(s.take e).drop (i+3):=by rw [MA]
   rw [aki,wx,aC aA0,bA (show 0<=(i:Int)/\(i:Int)<(s.length:Int)by omega),Ho _ k w,aY,qU,aB c,jQ];cases D:Zp (at_ s (i:Int)) k with
   |true=>
    rw [aL,bA (adc _ aA0 aA0),Ke,p (i+1) a f aA0 aA0 aA0 aA0,aC rfl,d1];cases qU k f ((s.take e).drop (i+1))with
    |none=>rfl
    |some j=>
     show some (Sum.inr _)=some (Sum.inr _);congr 3;try dsimp only
     omega
   |false=>
    have t:(s.take e).length=e:=aA7;obtain⟨v,h1,h2⟩:=Yb (s.take e) aA0 i aA0;rw [aH,bA (show 0<=(e:Int)/\(e:Int)<=(s.length:Int)by omega),mP,h1,aY,aB (show¬(false=true)by decide)];cases q:Ig ((s.take e).drop i)with
    |none=>simp only [Option.isSome_none,Cb,aL,aY];congr 3
    |some o=>
     rw [q]at h2;obtain rfl:o=v:=by have:=h2 rfl;simpa using this
     have u:=(zZ q).1;simp only [Option.isSome_some,mI,aH];rw [uR,aY,aY];cases z:gN o with
     |true=>rw [aL,aC rfl];rfl
     |false=>
      rw [aH,bA (adc _ aA0 aA0),bA (adc _ aA0 aA0),aB (show¬(false=true)by decide),d3];have A:(i:Int)+2+1=((i+3:Nat):Int):=aA0;rw [A,p (i+3) a f aA0 aA0 aA0 aA0];cases qU k f ((s.take e).drop (i+3))with
      |none=>rfl
      |some j=>
       show some (Sum.inr _)=some (Sum.inr _);congr 3;try dsimp only
       omega
  ·rw [aki,wx,aB aA0,qU,aC (YG aA7)]
theorem Eg(s:aA)(d:s.length<=4194304)(i e:Nat)(c:i<=e)(g:e<=s.length)(k:Int)(f:k=0\/k=1\/k=2):
  lh FU (s,(i:Int)) (e:Int) k=some (match uO k (sub s (i:Int) (e:Int))with|none=>((0:Int),false)|some j=>(((i+j:Nat):Int),true)):=by
 have a:sub s (i:Int) (e:Int)=(s.take e).drop i:=by unfold sub;rw [mP,mP,XI]
 have b:((s.take e).drop i).length=e-i:=by rw [jR,eI];omega
 have:=OA s (i:Int) e d g k f (e-i) i FU ((sub s (i:Int) (e:Int)).length+1) (eJ _) aA4 c (by rw [a,b];omega);unfold lh;simp only;rw [this,aY,<-a];unfold uO;cases qU k ((sub s (i:Int) (e:Int)).length+1) (sub s (i:Int) (e:Int))<;>rfl
theorem OQ(s:aA)(y:s.length<=4194304)(k:Int)(A:k=0\/k=1\/k=2)(n:Nat):∀(i c f:Nat) (b:aA),s.length-i<=n->n<c->i<=s.length->s.length-i<f->b.length<=i->qU k f (s.drop i)=none->
  vx FU s c b (i:Int)=some (.inl (b++Af k f (s.drop i))):=by
 induction n with
 |zero=>intro i c f b B C t u D a;obtain⟨c,rfl⟩:=cV c;obtain⟨f,rfl⟩:∃m,f=m+1:=⟨f-1,aA0⟩;rw [aow,we,aB aA0,Af,aC (YG aA0),kP]
 |succ n w=>
  intro i c f b B C t u D a;obtain⟨c,rfl⟩:=cV c;obtain⟨f,rfl⟩:∃m,f=m+1:=⟨f-1,aA0⟩;by_cases r:i<s.length
  ·have g:0<=(i:Int)/\(i:Int)<(s.length:Int):=by omega
   have d:(s.drop i).length=s.length-i:=jR;have l:¬s.drop i=[]:=fun h=>by rw [h]at d;simp at d;omega
   have jQ:at_ (s.drop i) 0=at_ s (i:Int):=by have:=nR s i 0;rw [Dg]at this;exact this
   have d1:(s.drop i).drop 1=s.drop (i+1):=by rw [MA]
   have d3:(s.drop i).drop 3=s.drop (i+3):=by rw [MA]
   rw [qU,aB l,jQ]at a;rw [aow,we,aC g.2,bA g,Af,aB l,jQ];by_cases p:Zp (at_ s (i:Int)) k=true
   ·have j:¬at_ s (i:Int)=37:=fun e=>by rw [e,qk k A]at p;cases p
    rw [aC p,rG,d1]at a;rw [aB j,bA g,bA aB1,bA (adc _ aA0 aA0),Ke,w (i+1) c f _ aA0 aA0 aA0 aA0 aA9 a,aC p,d1];simp
   ·rw [aB p]at a⊢;cases q:Ig (s.drop i)with
    |none=>rw [q]at a;cases a
    |some v=>
     rw [q]at a;simp only at a;have z:=(zZ q).1;have j:at_ s (i:Int)=37:=by rw [<-jQ];exact(zZ q).2
     obtain⟨x,h1,h2⟩:=Yb s y i r;rw [q]at h1 h2;obtain rfl:v=x:=by have:=h2 rfl;simpa using this
     by_cases o:gN v=true
     ·rw [aC o]at a;cases a
     ·rw [aB o,rG,d3]at a;have E:(i:Int)+2+1=((i+3:Nat):Int):=by omega
      rw [aC j,h1,aY];simp only [Option.isSome_some,mI,aH];rw [bA aB1,bA (adc _ aA0 aA0),bA (adc _ aA0 aA0),E,w (i+3) c f _ aA0 aA0 aA0 aA0 aA9 a,d3];simp
  ·rw [aow,we,aB aA0,Af,aC (YG aA0),kP]
theorem uK(s:aA)(c:s.length<=4194304)(k:Int)(d:k=0\/k=1\/k=2)(b:uO k s=none):kc FU s=some (qN k s):=by have:=OQ s c k d s.length 0 FU (s.length+1) [] aA0 aA4 aA0 aA0 aA2 (by rw [cQ];exact b);have a:vx FU s FU ([]:List UInt8) (0:Int)=_:=this;unfold kc auu;rw [UC aA0,a,aY,mR,aY,Ka,cQ];rfl
open Go.Lib renaming indexAny → yL
def cT(st:aA)(s:aA)(i:Nat):Nat:=i+eR (fun c=> !hasB st c) (s.drop i)
theorem iK(st s:aA)(i:Nat):i<=cT st s i:=Nat.le_add_right _ _
theorem HA(st s:aA)(i:Nat)(a:i<=s.length):cT st s i<=s.length:=by have:=HD (fun c=> !hasB st c) (s.drop i);rw [jR]at this;unfold cT;omega
theorem La(st:aA):(fun c=>st.contains c)=hasB st:=by funext c;unfold hasB;rw [List.contains_eq_any_beq];congr 1;funext b;exact Bool.beq_comm
theorem L0(s:aA)(g:s.length<=4194304)(i:Nat)(h:i<=s.length)(st:aA)(h1:st.length<=1000)(h2:st.all (fun b=>decide (b.toNat<128))=true):Sx FU s (i:Int) st=some ((cT st s i:Nat):Int):=by
 have e:(s.drop i).length=s.length-i:=jR;have a:=K9 (hasB st) (s.drop i);have c:yL (s.drop i) st=dJ (hasB st) (s.drop i):=by rw [jn,La]
 unfold Sx cT;rw [bA aA0,mP,bA ⟨aA0,h1,h2⟩,c];rcases a with⟨h3,d⟩|⟨h3,d,f⟩
 ·rw [aB aA0,d,e];congr 1;try dsimp only
  omega
 ·rw [aC h3,bA (adc _ aA0 aA0),f];rfl
theorem Ud(st s:aA)(i:Nat)(f:i<=s.length)(h:cT st s i<s.length):hasB st (at_ s ((cT st s i:Nat):Int))=true:=by
 have g:(s.drop i).length=s.length-i:=jR;have key:∀l:aA,eR (fun c=> !hasB st c) l<l.length->hasB st (at_ l (eR (fun c=> !hasB st c) l:Int))=true:=by
  intro l;induction l with
  |nil=>intro h;simp at h
  |cons a l d=>
   intro h;cases b:hasB st a with
   |true=>have e:eR (fun c=> !hasB st c) (a::l)=0:=ZL _ a l (by simp [b]);rw [e];exact b
   |false=>
    have e:eR (fun c=> !hasB st c) (a::l)=eR (fun c=> !hasB st c) l+1:=by rw [eR,aC (by simp [b])]
    rw [e]at h⊢;have:=d (by simp only [cF]at h;omega);simpa [at_] using this
 unfold cT at h⊢;have:=key (s.drop i) aA0;rw [nR]at this;exact this
theorem qT(k:Int):∀(f:Nat) (l:aA) (j:Nat),qU k f l=some j->j<l.length
 |0,_,_,h=>by cases h
 |f+1,l,j,h=>by
  rw [qU]at h;by_cases a:l=[]
  ·rw [aC a]at h;cases h
  ·have b:=dW.2 a;rw [aB a]at h;split at h
   ·rw [bY]at h;obtain⟨x,hx,rfl⟩:=h;have:=qT k f _ x hx;rw [jR]at this;omega
   ·split at h
    ·rename_i v c;split at h
     ·rw [aV]at h;omega
     ·rw [bY]at h;obtain⟨x,hx,rfl⟩:=h;have:=qT k f _ x hx;rw [jR]at this;omega
    ·rw [aV]at h;omega
theorem Iq(k:Int):∀(f:Nat) (l:aA),(Af k f l).length<=l.length
 |0,_=>by simp [Af]
 |f+1,l=>by
  rw [Af];by_cases a:l=[]
  ·rw [aC a];simp
  ·have b:=dW.2 a;rw [aB a];split
   ·have:=Iq k f (l.drop 1);rw [jR]at this;rw [cF];omega
   ·split
    ·have:=Iq k f (l.drop 3);rw [jR]at this;rw [cF];omega
    ·simp
theorem xP(k:Int)(l:aA):(qN k l).length<=l.length:=Iq k _ l
theorem Ip(k:Int)(l:aA)(a:uO k l=none):qN k l=[]↔l=[]:=by
 unfold qN uO at*;rw [Af];rw [qU]at a;by_cases b:l=[]
 ·rw [aC b];simp [b]
 ·rw [aB b]at a⊢;constructor
  ·intro h;exfalso;split at h
   ·cases h
   ·rename_i c;rw [aB c]at a;split at h
    ·cases h
    ·rename_i d;rw [d]at a;cases a
  ·intro h;exact absurd h b
abbrev UU:=aA×aA×aA×Int×List PP×List PP
def Kg(U:aA):UInt8×aA:=match uO 0 U with|some j=>(if at_ U (j:Int)=58 then 15 else 5,[])|none=>if U=[]then(5,[])else(0,qN 0 U)
theorem nl(b:UInt8)(s:aA)(i:Nat):cT [b] s i=i+eR (fun c=> !(c==b)) (s.drop i):=by
 have e:(fun c=> !hasB [b] c)=(fun c=> !(c==b)):=by funext c;unfold hasB;rw [eG,List.any_nil,Te,Bool.beq_comm]
 unfold cT;rw [e]
def iV(s:aA)(i:Nat):Nat:=if iB s i 91=true then min (cT [93] s i+1) s.length else cT [58,59,63] s i
def Nh (s : aA) (i : Nat) : UInt8 × aA × Int × Nat :=
  if (gA (sub s (i : Int) (iV s i : Int))).2 = false then (5, [], 0, 0)
  else if iB s (iV s i) 58 = true then
    (if (oD (sub s ((iV s i + 1 : Nat) : Int) (cT [59, 63] s (iV s i + 1) : Int))).2 = 0 then (0, (gA (sub s (i : Int) (iV s i : Int))).1, (oD (sub s ((iV s i + 1 : Nat) : Int) (cT [59, 63] s (iV s i + 1) : Int))).1, cT [59, 63] s (iV s i + 1))
     else ((oD (sub s ((iV s i + 1 : Nat) : Int) (cT [59, 63] s (iV s i + 1) : Int))).2, [], 0, 0))
  else if iV s i < s.length /\ iB s (iV s i) 59 = false /\ iB s (iV s i) 63 = false then (5, [], 0, 0)
  else (0, (gA (sub s (i : Int) (iV s i : Int))).1, 0, iV s i)
theorem GD(s:aA)(i:Nat)(a:i<=s.length):i<=iV s i/\iV s i<=s.length:=by
 have h1:=iK [93] s i;have h2:=HA [93] s i a;have h3:=iK [58,59,63] s i;have b:=HA [58,59,63] s i a;unfold iV;split
 ·rename_i h;have:=(Su h).1;omega
 ·omega
def wE(s:aA)(i:Nat):UInt8×aA×(aA×Int×Nat):=
 if cT [64] s i<s.length then
  (if(Kg (sub s (i:Int) (cT [64] s i:Int))).1=0 then((Nh s (cT [64] s i+1)).1,(Kg (sub s (i:Int) (cT [64] s i:Int))).2,(Nh s (cT [64] s i+1)).2)else((Kg (sub s (i:Int) (cT [64] s i:Int))).1,[],[],0,0))
 else((Nh s i).1,[],(Nh s i).2)
theorem HM(s:aA)(D:s.length<=4194304)(i:Nat)(B:i<=s.length)(j r:aA):∃a c u,0<=a/\a<=5000000/\((Sx FU s (i:Int) ([58,59,63]:aA)).bind fun(C:Int)=>((((Cv FU (s,(i:Int)) (91:UInt8)).bind fun(p:Bool)=>(bif p then((Sx FU s (i:Int) ([93]:aA)).bind fun(k:Int)=>(gd (bJ (k+(1:Int)))<|some (min (k+(1:Int)) (s.length:Int))))else some C))).bind fun(b:Int)=>(gd (0<=(i:Int)/\(i:Int)<=b/\b<=(s.length:Int))<|((YB FU (sub s (i:Int) b)).bind fun(f:(aA×Bool))=>(bif (!f.2)then some ((i:Int),(5:UInt8),(s,(i:Int)),((j,r,([]:aA),(0:Int),([]:List PP),([]:List PP)):UU))else((Cv FU (s,b) (58:UInt8)).bind fun(t:Bool)=>(bif t then(gd (bJ (b+(1:Int)))<|((Sx FU s (b+(1:Int)) ([59,63]:aA)).bind fun(g:Int)=>(gd (0<=(b+(1:Int))/\(b+(1:Int))<=g/\g<=(s.length:Int))<|((U7 FU (sub s (b+(1:Int)) g)).bind fun(d:(Int×UInt8))=>(((((if d.2=(0:UInt8)then(if d.1<(1:Int)then some true else some (decide ((65535:Int)<d.1)))else some false)).bind fun(w:Bool)=>(bif w then some (3:UInt8)else some d.2))).bind fun(o:UInt8)=>(if o=(0:UInt8)then some ((0:Int),(0:UInt8),(s,g),((j,r,f.1,d.1,([]:List PP),([]:List PP)):UU))else some (b+(1:Int),o,(s,b+(1:Int)),((j,r,f.1,(0:Int),([]:List PP),([]:List PP)):UU))))))))else((((V3 FU (s,b)).bind fun(n:Bool)=>(bif (!n)then((Cv FU (s,b) (59:UInt8)).bind fun(m:Bool)=>(bif (!m)then((Cv FU (s,b) (63:UInt8)).bind fun(l:Bool)=>some (!l))else some false))else some false))).bind fun(v:Bool)=>(bif v then some (b,(5:UInt8),(s,b),((j,r,f.1,(0:Int),([]:List PP),([]:List PP)):UU))else some ((0:Int),(0:UInt8),(s,b),((j,r,f.1,(0:Int),([]:List PP),([]:List PP)):UU)))))))))))
  =some (a,(Nh s i).1,c,u)/\((Nh s i).1=0->c=(s,((Nh s i).2.2.2:Int))/\u=(j,r,(Nh s i).2.1,(Nh s i).2.2.1,[],[])):=by
 have H:=GD s i B;have M:((if iB s i 91=true then some ((min (cT [93] s i+1) s.length:Nat):Int)else some ((cT [58,59,63] s i:Nat):Int)))=some ((iV s i:Nat):Int):=by unfold iV;split<;>rfl
 have L:((Cv FU (s,(i:Int)) (91:UInt8)).bind fun(p:Bool)=>(bif p then((Sx FU s (i:Int) ([93]:aA)).bind fun(k:Int)=>(gd (bJ (k+(1:Int)))<|some (min (k+(1:Int)) (s.length:Int))))else some ((cT [58,59,63] s i:Nat):Int)))=some ((iV s i:Nat):Int):=by
  have N:=HA [93] s i B;rw [Zu,aY,<-M];cases iB s i 91 with
  |false=>rfl
  |true=>
   rw [aL,L0 s D i B _ aA1 aA1,aY,bA (adc _ aA0 aA0),aC rfl];congr 1;try dsimp only
   omega
 rw [L0 s D i B _ aA1 aA1,aY,L,aY];unfold Nh;generalize iV s i=e at H⊢;rw [bA aA0,jb _ aD5,aY];cases O:(gA (sub s (i:Int) (e:Int))).2 with
 |false=>exact⟨_,_,_,aA0,aA0,rfl,fun h=>by rw [aC rfl]at h;exact absurd h aA1⟩
 |true=>
  rw [mI,aH,aB (show¬(true=false)by decide),Zu,aY];cases E:iB s e 58 with
  |true=>
   have y:=(Su E).1;have G:=iK [59,63] s (e+1);have F:=HA [59,63] s (e+1) y;rw [aL,aC rfl,bA (adc _ aA0 aA0),Ke,L0 s D (e+1) y _ aA1 aA1,aY,bA aA0,sB,aY,FF,aY];unfold oD;generalize hK (sub s ((e+1:Nat):Int) ((cT [59,63] s (e+1):Nat):Int))=q;by_cases A:q.2=0/\(q.1<1\/65535<q.1)
   ·rw [aC A,aC A,aB aA1,aB aA1];exact⟨_,_,_,aA0,aA0,rfl,fun h=>absurd h aA1⟩
   ·rw [aB A,aB A];by_cases z:q.2=0
    ·rw [aC z,aC z];exact⟨_,_,_,aA0,aA0,rfl,fun _=>⟨rfl,rfl⟩⟩
    ·rw [aB z,aB z];exact⟨_,_,_,aA0,aA0,rfl,fun h=>absurd h z⟩
  |false=>
   have K:((V3 FU (s,(e:Int))).bind fun(n:Bool)=>(bif (!n)then((Cv FU (s,(e:Int)) (59:UInt8)).bind fun(m:Bool)=>(bif (!m)then((Cv FU (s,(e:Int)) (63:UInt8)).bind fun(l:Bool)=>some (!l))else some false))else some false))=some (decide (e<s.length/\iB s e 59=false/\iB s e 63=false)):=by
    rw [lX,aY];by_cases x:e<s.length
    ·rw [aQ (show¬(s.length:Int)<=(e:Int)by omega),Cb,aL,Zu,aY];cases J:iB s e 59 with
     |true=>rw [aQ (by rintro⟨_,h,_⟩;cases h)];rfl
     |false=>
      rw [Cb,aL,Zu,aY];cases I:iB s e 63 with
      |true=>rw [aQ (by rintro⟨_,_,h⟩;cases h)];rfl
      |false=>rw [aO ⟨x,rfl,rfl⟩];rfl
    ·rw [aO (show(s.length:Int)<=(e:Int)by omega),aQ (fun h=>x h.1)];rfl
   rw [aH,aB (show¬(false=true)by decide),K,aY];by_cases hx:e<s.length/\iB s e 59=false/\iB s e 63=false
   ·rw [aO hx,aL,aC hx];exact⟨_,_,_,aA0,aA0,rfl,fun h=>absurd h aA1⟩
   ·rw [aQ hx,aH,aB hx];exact⟨_,_,_,aA0,aA0,rfl,fun _=>⟨rfl,rfl⟩⟩
theorem RB(s:aA)(y:s.length<=4194303)(i:Nat)(t:i<=s.length)(b:aA):∃a c u,0<=a/\a<=5000000/\alw FU (s,(i:Int)) (b,[],[],0,[],[])=some (a,(wE s i).1,c,u)/\((wE s i).1=0->c=(s,((wE s i).2.2.2.2:Int))/\u=(b,(wE s i).2.1,(wE s i).2.2.1,(wE s i).2.2.2.1,[],[])):=by
 have z:(s.drop i).length=s.length-i:=jR;have g:=K9 (·==(64:UInt8)) (s.drop i);have q:=nl 64 s i;unfold alw wE;simp only;rw [bA aA0,mP];rcases g with⟨h3,w⟩|⟨h3,w,v⟩
 ·have f:¬cT [64] s i<s.length:=by omega
  rw [aB aA0,aY,mR,aB f];exact HM s aA0 i t b []
 ·have x:(i:Int)+dJ (·==(64:UInt8)) (s.drop i)=((cT [64] s i:Nat):Int):=by rw [v,q];rfl
  have l:cT [64] s i<s.length:=aA0;have m:=iK [64] s i;have p:(dJ (·==(64:UInt8)) (s.drop i)=0)↔cT [64] s i=i:=aA0;rw [aC h3,x,bA (adc _ aA0 aA0),aC l,Eg s aA0 i _ m aA0 0 (.inl rfl),aY];have e:(sub s (i:Int) (cT [64] s i:Int)).length=cT [64] s i-i:=aD5;unfold Kg;cases o:uO 0 (sub s (i:Int) (cT [64] s i:Int))with
  |some j=>
   have r:j<cT [64] s i-i:=by have:=qT 0 _ _ j o;omega
   have jQ:at_ s ((i+j:Nat):Int)=at_ (sub s (i:Int) (cT [64] s i:Int)) (j:Int):=by unfold sub;rw [mP,mP];have:=nR s i j;rw [<-this];simp only [at_,mP,bV];rw [List.getElem?_take_of_lt r]
   simp only;rw [aL,bA aA0,jQ];by_cases d:at_ (sub s (i:Int) (cT [64] s i:Int)) (j:Int)=58
   ·rw [aC d,aC d,aY,Lk,aB aA1];exact⟨_,_,_,aA0,aA0,rfl,fun h=>absurd h aA1⟩
   ·rw [aB d,aB d,aY,Lk,aB aA1];exact⟨_,_,_,aA0,aA0,rfl,fun h=>absurd h aA1⟩
  |none=>
   simp only;rw [aH];by_cases n:cT [64] s i=i
   ·have k:sub s (i:Int) (cT [64] s i:Int)=[]:=by apply Jz;omega
    rw [aC (p.2 n),aC k,aY,Lk,aB aA1];exact⟨_,_,_,aA0,aA0,rfl,fun h=>absurd h aA1⟩
   ·have k:¬sub s (i:Int) (cT [64] s i:Int)=[]:=fun h=>by rw [h]at e;simp at e;omega
    rw [aB (fun h=>n (p.1 h)),aB k,bA aA0,uK _ aA0 0 (.inl rfl) o,aY,bA (adc _ aA0 aA0),aY,mR,Ke,aC rfl];exact HM s aA0 _ aA0 b _
theorem PC(s:aA)(i e n:Nat)(h:i+n<=e):sub s (i:Int) ((i+n:Nat):Int)=(sub s (i:Int) (e:Int)).take n:=by
 unfold sub;simp only [mP];rw [XG];congr 1;try dsimp only
 omega
theorem IE(s:aA)(i e n:Nat):sub s ((i+n+1:Nat):Int) (e:Int)=(sub s (i:Int) (e:Int)).drop (n+1):=by
 unfold sub;simp only [mP];rw [XI,MA];congr 1;try dsimp only
 omega
def jK(T:aA):Nat:=eR (fun c=> !(c==61)) T
def jS(k:Int)(l:List PP)(T:aA):UInt8×PP:=
 match uO k (T.take (jK T))with
 |some _=>(5,([],[],false))
 |none=>if jK T=0 then(5,([],[],false))else if jK T<T.length then
   (match uO k (T.drop (jK T+1))with
   |some _=>(5,([],[],false))
   |none=>if T.drop (jK T+1)=[]/\k=1 then(5,([],[],false))else(iD l (dS (qN k (T.take (jK T)))),(dS (qN k (T.take (jK T))),qN k (T.drop (jK T+1)),true)))
  else if k=2 then(5,([],[],false))else(iD l (dS (qN k (T.take (jK T)))),(dS (qN k (T.take (jK T))),[],false))
theorem Xz(s:aA)(K:s.length<=4194303)(i e:Nat)(G:i<=e)(M:e<=s.length)(l:List PP)(L:l.length<=16)(k:Int)(F:k=1\/k=2):
  ∃l' a c,0<=a/\a<=5000000/\vy FU (s,(i:Int)) l (e:Int) k=some (l',a,(jS k l (sub s (i:Int) (e:Int))).1,c)/\
   ((jS k l (sub s (i:Int) (e:Int))).1=0->l'=l++[(jS k l (sub s (i:Int) (e:Int))).2]/\c=(s,(e:Int))):=by
 have f:k=0\/k=1\/k=2:=.inr F;have J:(sub s (i:Int) (e:Int)).length=e-i:=aD5;have q:=fun n h=>PC s i e n h;have r:=fun n=>IE s i e n
 have b:∀(nm v:aA) (h:Bool),∃l' a c,0<=a/\a<=5000000/\((jt FU l nm).bind fun(g:UInt8)=>(if g=(0:UInt8)then(gd ((l.length+([(nm,v,h)]:List PP).length)*40<=140737488355328)<|some (l++([(nm,v,h)]:List PP),(0:Int),(0:UInt8),(s,(e:Int))))else some (([]:List PP),(i:Int),g,(s,(e:Int)))))=some (l',a,iD l nm,c)/\(iD l nm=0->l'=l++[(nm,v,h)]/\c=(s,(e:Int))):=by
  intro nm v h;rw [EP l aA0,aY];by_cases p:iD l nm=0
  ·rw [aC p,bA aC2,p];exact⟨_,_,_,aA0,aA0,rfl,fun _=>⟨rfl,rfl⟩⟩
  ·rw [aB p];exact⟨_,_,_,aA0,aA0,rfl,fun h=>absurd h p⟩
 unfold vy;simp only;rw [bA aA0];generalize I:sub s (i:Int) (e:Int)=T at J q r⊢;have E:jK T<=T.length:=HD _ _;have t:=K9 (·==(61:UInt8)) T;have B:(if(0:Int)<=(dJ (·==(61:UInt8)) T)then(gd (bJ ((i:Int)+(dJ (·==(61:UInt8)) T)))<|some ((i:Int)+(dJ (·==(61:UInt8)) T)))else some (e:Int))=some ((i+jK T:Nat):Int):=by
  unfold jK at E⊢;rcases t with⟨h1,h2⟩|⟨h1,h2,h3⟩
  ·rw [aB aA0];congr 1;omega
  ·rw [aC h1,bA (adc _ aA0 aA0)];congr 1;omega
 have m:(0:Int)<=dJ (·==(61:UInt8)) T↔jK T<T.length:=by unfold jK;rcases t with⟨h1,h2⟩|⟨h1,h2,h3⟩<;>constructor<;>intro h<;>omega
 rw [B,aY,Eg s aA0 i (i+jK T) aA0 aA0 k f,aY,q (jK T) aA0];unfold jS;cases D:uO k (T.take (jK T))with
 |some j=>have z:=qT _ _ _ j D;rw [eI]at z;simp only;rw [aL];exact⟨_,_,_,aA0,aA0,rfl,fun h=>absurd h aA1⟩
 |none=>
  simp only;rw [aH];by_cases p:jK T=0
  ·rw [aC aA0,aC p];exact⟨_,_,_,aA0,aA0,rfl,fun h=>absurd h aA1⟩
  ·have y:(T.take (jK T)).length<=4194304:=by rw [eI];omega
   have H:=xP k (T.take (jK T));rw [aB aA0,aB p,bA aA0,uK _ y k f D,aY,XY _ aA0,aY];by_cases d:jK T<T.length
   ·have o:(0:Int)<=dJ (·==(61:UInt8)) T:=m.2 d;rw [aC d];simp only [o,decide_true,eM];rw [bA (adc _ aA0 aA0),Ke,Eg s aA0 (i+jK T+1) e aA0 aA0 k f,aY,r];cases w:uO k (T.drop (jK T+1))with
    |some j=>have z:=qT _ _ _ j w;rw [jR]at z;simp only;rw [aL,aY];exact⟨_,_,_,aA0,aA0,rfl,fun h=>absurd h aA1⟩
    |none=>
     have u:(T.drop (jK T+1)).length=T.length-(jK T+1):=jR;have A:(if((i+jK T+1:Nat):Int)=(e:Int)then some (decide (k=(1:Int)))else some false)=some (decide (T.drop (jK T+1)=[]/\k=1)):=by
      by_cases x:T.drop (jK T+1)=[]
      ·rw [x]at u;rw [aC (by simp at u;omega)];congr 1;simp [x]
      ·have:¬(T.drop (jK T+1)).length=0:=fun h=>x (Jz h);rw [aB aA0,aQ (fun h=>x h.1)]
     simp only;rw [aH,A,aY];by_cases hx:T.drop (jK T+1)=[]/\k=1
     ·rw [aO hx,aL,aY,aC hx];exact⟨_,_,_,aA0,aA0,rfl,fun h=>absurd h aA1⟩
     ·rw [aQ hx,aH,bA aA0,uK _ aA0 k f w,aY,aY,aB hx];exact b _ _ _
   ·have o:¬(0:Int)<=dJ (·==(61:UInt8)) T:=fun h=>d (m.1 h);have C:((i+jK T:Nat):Int)=(e:Int):=aA0;rw [aB d];simp only [o,decide_false,cL];by_cases h2:k=2
    ·rw [aC h2,aC h2,aY];exact⟨_,_,_,aA0,aA0,rfl,fun h=>absurd h aA1⟩
    ·rw [aB h2,aB h2,aY];exact b _ _ _
def rZ (st : aA) (s : aA) : Nat -> Nat -> List PP -> UInt8 × Nat × List PP
  | 0, i, l => (0, i, l)
  | f + 1, i, l => if iB s i 59 = true then
      (if (jS 1 l (sub s ((i + 1 : Nat) : Int) (cT st s (i + 1) : Int))).1 = 0 then rZ st s f (cT st s (i + 1)) (l ++ [(jS 1 l (sub s ((i + 1 : Nat) : Int) (cT st s (i + 1) : Int))).2])
       else ((jS 1 l (sub s ((i + 1 : Nat) : Int) (cT st s (i + 1) : Int))).1, 0, []))
    else (0, i, l)
def Tj (s : aA) : Nat -> Nat -> List PP -> UInt8 × List PP
  | 0, i, l => (0, l)
  | f + 1, i, l => if i < s.length then
      (if (jS 2 l (sub s ((i + 1 : Nat) : Int) (cT [38] s (i + 1) : Int))).1 = 0 then Tj s f (cT [38] s (i + 1)) (l ++ [(jS 2 l (sub s ((i + 1 : Nat) : Int) (cT [38] s (i + 1) : Int))).2])
       else ((jS 2 l (sub s ((i + 1 : Nat) : Int) (cT [38] s (i + 1) : Int))).1, []))
    else (0, l)
theorem Ux{l:List PP}{nm:aA}(h:iD l nm=0):l.length<16:=by
 unfold iD at h;split at h
 ·exact absurd h aA1
 ·split at h
  ·exact absurd h aA1
  ·omega
theorem Dy{k:Int}{l:List PP}{T:aA}(h:(jS k l T).1=0):l.length<16:=by
 unfold jS at h;split at h
 ·exact absurd h aA1
 ·split at h
  ·exact absurd h aA1
  ·split at h
   ·split at h
    ·exact absurd h aA1
    ·split at h
     ·exact absurd h aA1
     ·exact Ux h
   ·split at h
    ·exact absurd h aA1
    ·exact Ux h
theorem JA(s:aA)(y:s.length<=4194303)(v:Int×UInt8×aA×aA×Int×aA×aA×aA×Int×List PP×List PP)(h1:v.2.2.1.length<=1000)(h2:v.2.2.1.all (fun b=>decide (b.toNat<128))=true)(n:Nat):
  ∀(i d f:Nat) (l:List PP) (a:Int),0<=a->a<=5000000->s.length-i<=n->n+1<d->n<f->i<=s.length->l.length<=16->
  ∃a' u i' l',0<=a'/\a'<=5000000/\kt FU v d a 0 s (i:Int) l=some (a',(rZ v.2.2.1 s f i l).1,u,i',l')/\((rZ v.2.2.1 s f i l).1=0->u=s/\i'=((rZ v.2.2.1 s f i l).2.1:Int)/\l'=(rZ v.2.2.1 s f i l).2.2):=by
 induction n with
 |zero=>
  intro i d f l a t r z A q p w;obtain⟨d,rfl⟩:=cV d;obtain⟨f,rfl⟩:∃m,f=m+1:=⟨f-1,aA0⟩;have k:iB s i 59=false:=by unfold iB;rw [aQ aA0];rfl
  rw [amz,aig,aC rfl,Zu,aY,k,aY,aH,rZ,k,aB aA1];exact⟨_,_,_,_,aA0,aA0,rfl,fun _=>⟨rfl,rfl,rfl⟩⟩
 |succ n x=>
  intro i d f l a t r z A q p w;obtain⟨d,rfl⟩:=cV d;obtain⟨f,rfl⟩:∃m,f=m+1:=⟨f-1,aA0⟩;rw [amz,aig,aC rfl,Zu,aY,aY,rZ];cases k:iB s i 59 with
  |false=>rw [aH,aB aA1];exact⟨_,_,_,_,aA0,aA0,rfl,fun _=>⟨rfl,rfl,rfl⟩⟩
  |true=>
   have j:=(Su k).1;have o:=iK v.2.2.1 s (i+1);have g:=HA v.2.2.1 s (i+1) j;rw [aL,aC rfl,bA (adc _ aA0 aA0),Ke,L0 s aA0 (i+1) j _ h1 h2,aY];obtain⟨l',a',c,E,D,C,B⟩:=Xz s y (i+1) (cT v.2.2.1 s (i+1)) o g l w 1 (.inl rfl);rw [C,aY];by_cases e:(jS 1 l (sub s ((i+1:Nat):Int) (cT v.2.2.1 s (i+1):Int))).1=0
   ·obtain⟨rfl,rfl⟩:=B e;have:=Dy e;rw [aC e,e];exact x (cT v.2.2.1 s (i+1)) d f _ _ aA0 aA0 aA0 aA0 aA0 g aB6
   ·rw [aB e];simp only;obtain⟨d,rfl⟩:=cV d;rw [amz,aig,aB e,aY,aH];exact⟨_,_,_,_,aA0,aA0,rfl,fun h=>absurd h e⟩
theorem JZ(s:aA)(v:s.length<=4194303)(n:Nat):
  ∀(i b f:Nat) (l:List PP) (a:Int),0<=a->a<=5000000->s.length-i<=n->n+1<b->n<f->i<=s.length->l.length<=16->
  ∃a' t i' l',0<=a'/\a'<=5000000/\ku FU b a 0 s (i:Int) l=some (a',(Tj s f i l).1,t,i',l')/\((Tj s f i l).1=0->l'=(Tj s f i l).2):=by
 induction n with
 |zero=>intro i b f l a q p w x o k r;obtain⟨b,rfl⟩:=cV b;obtain⟨f,rfl⟩:∃m,f=m+1:=⟨f-1,aA0⟩;rw [amy,ky,aC rfl,lX,aY,aO aA0,aY,mI,aH,Tj,aB aA0];exact⟨_,_,_,_,aA0,aA0,rfl,fun _=>rfl⟩
 |succ n u=>
  intro i b f l a q p w x o k r;obtain⟨b,rfl⟩:=cV b;obtain⟨f,rfl⟩:∃m,f=m+1:=⟨f-1,aA0⟩;rw [amy,ky,aC rfl,lX,aY,aY,Tj];by_cases d:i<s.length
  ·have j:=iK [38] s (i+1);have g:=HA [38] s (i+1) d;rw [aQ aA0,Cb,aL,aC d,bA (adc _ aA0 aA0),Ke,L0 s aA0 (i+1) d _ aA1 aA1,aY];obtain⟨l',a',c,B,A,z,y⟩:=Xz s v (i+1) (cT [38] s (i+1)) j g l r 2 (.inr rfl);rw [z,aY];by_cases e:(jS 2 l (sub s ((i+1:Nat):Int) (cT [38] s (i+1):Int))).1=0
   ·obtain⟨rfl,rfl⟩:=y e;have:=Dy e;rw [aC e,e];exact u (cT [38] s (i+1)) b f _ _ aA0 aA0 aA0 aA0 aA0 g aB6
   ·rw [aB e];simp only;obtain⟨b,rfl⟩:=cV b;rw [amy,ky,aB e,aY,aH];exact⟨_,_,_,_,aA0,aA0,rfl,fun h=>absurd h e⟩
  ·rw [aO aA0,mI,aH,aB d];exact⟨_,_,_,_,aA0,aA0,rfl,fun _=>rfl⟩
open Go.Op renaming bytesLess → nZ
open List renaming set → eA
theorem G0(fu:Nat)(x y:PP):gq fu x y=some (Rw x.1 y.1):=by
 unfold gq vm va Rw;rw [aY,aY,aO rfl,aO rfl,mI,aH,aH];cases nZ x.1 y.1 with
 |true=>rfl
 |false=>rw [aH,aH];cases(!(false||x.1==y.1))<;>rfl
theorem TB(n:Nat):∀(P S:List PP) (x:PP) (c:Nat),P.length=n->n<c->P.length+S.length<=1048575->
  abv FU 0 c (P++x::S) (P.length:Int)=some (jI x P++S):=by
 induction n with
 |zero=>intro P S x c h t l;obtain⟨c,rfl⟩:=cV c;obtain rfl:P=[]:=Jz h;rw [ael,abt,aB aA2];rfl
 |succ n q=>
  intro P S x c h t l;obtain⟨c,rfl⟩:=cV c;rcases LV P with rfl|⟨b,a,rfl⟩
  ·simp at h
  ·simp only [LW]at*;have p:b.length=n:=by simp at h;omega
   have u:(((b++[a]).length:Int)-1)=(b.length:Int):=aA2;have r:el (b++[a]++x::S) ((b++[a]).length:Int)=x:=GM _ _ _;have m:el (b++[a]++x::S) (b.length:Int)=a:=by rw [iI];exact GM b (x::S) a
   have d:(b++[a]++x::S).length=b.length+2+S.length:=aA6;have o:(0:Int)<=((b++[a]).length:Int)/\((b++[a]).length:Int)<((b++[a]++x::S).length:Int):=aF1;have g:(0:Int)<=(b.length:Int)/\(b.length:Int)<((b++[a]++x::S).length:Int):=by rw [d];omega
   have k:bJ (b.length:Int):=adc _ aA0 (by simp at l;omega);have j:((b++[a]).length:Int).toNat=b.length+1:=aA2;have i:((b.length:Nat):Int).toNat=b.length:=aA0;rw [ael,abt,u];simp only [r,m,Fv,G0,aY,CI,bA o,bA g,bA k];rw [aC aB8,aY,lJ x.1 a.1,Ng];have s:(!(nZ a.1 x.1||a.1==x.1))=KA a.1 x.1:=rfl;rw [s];cases KA a.1 x.1 with
   |false=>rw [aH,aH];simp
   |true=>
    have f:eA (b++[a]++x::S) ((b++[a]).length:Int).toNat a=b++a::a::S:=by rw [j,iI,V6 _ _ aA0];simp
    have e:eA (b++a::a::S) ((b.length:Nat):Int).toNat x=b++x::a::S:=by rw [i,V6 _ _ aA0];simp
    rw [aL,aL,f,e,bA aA6,bA aA6,q b (a::S) x c p aA0 (by simp at l⊢;omega)];simp
theorem TC(R:List PP):∀(P:List PP) (b:Nat) (n:Int),n=((P++R).length:Int)->(P++R).length<=1048575->R.length<b->
  lz FU 0 n b (P++R) (P.length:Int)=some (R.foldl (fun out x=>jI x out) P):=by
 induction R with
 |nil=>intro P b n d f g;obtain⟨b,rfl⟩:=cV b;rw [acw,xq,aB (by rw [d];simp)];simp
 |cons a R h=>intro P b n d f g;obtain⟨b,rfl⟩:=cV b;simp only [cB,cF]at f g;rw [acw,xq,aC aF1,TB P.length P R a FU rfl aA4 aA0,aY,bA (adc _ aA0 aA0)];have c:=Hn a P;have:=h (jI a P) b n (by rw [d];simp [c];omega) (by simp only [cB,c];omega) aA0;rw [c]at this;have e:((P.length:Int)+1)=((P.length+1:Nat):Int):=rfl;rw [e,this];rfl
theorem F6(l:List PP)(b:l.length<=1048575):xo FU l 0 (l.length:Int)=some (fV l):=by
 unfold xo;rw [bA (adc _ aA0 aA0)];cases l with
 |nil=>obtain⟨m,c⟩:∃m,FU=m+1:=⟨FU-1,by rw [fR]⟩;rw [show(lz FU 0 (([]:List PP).length:Int) FU [] (0+1))=lz FU 0 (([]:List PP).length:Int) (m+1) [] (0+1)by rw [<-c]];rw [acw,xq,aB aA2];rfl
 |cons a l=>have:=TC l [a] FU ((a::l).length:Int) rfl b (by rw [fR];simp at b;omega);exact this
theorem nS(l:List PP)(d:l.length<20):L9 FU l=some (fV l):=by
 unfold L9 aed aej;obtain⟨m,a⟩:∃m,FU=m+1:=⟨FU-1,by rw [fR]⟩
 have c:xk FU (l.length:Int) FU l (0:Int) (20:Int)=some (l,0):=by
  have:∀k,xk FU (l.length:Int) (k+1) l (0:Int) (20:Int)=some (l,0):=fun k=>by rw [alm,adm,aB aA0]
  have:=this m;rw [<-a]at this;exact this
 have b:xl FU (l.length:Int) FU (fV l) (20:Int)=some (fV l):=by
  have:∀k,xl FU (l.length:Int) (k+1) (fV l) (20:Int)=some (fV l):=fun k=>by rw [alk,adl,aB aA0]
  have:=this m;rw [<-a]at this;exact this
 rw [bA aA0,c,aY];simp only;rw [F6 l aA0,aY,b];rfl
open Go.Lib renaming hasPrefix → kB, trimPrefix → fD
def xO(a:Bool)(c:UInt8):Bool:=jO c||(!a&&(c==42||c==35))
def dh(c:UInt8):Bool:=c==45||c==46||c==40||c==41
def Sk(a:Bool):aA->Option aA
 |[]=>some []
 |c::T=>if xO a c=true then(Sk a T).map (c::·)else if dh c=true then Sk a T else none
theorem I6(b:Bool)(c:UInt8):(((if(48:UInt8)<=c then some (decide (c<=(57:UInt8)))else some false)).bind fun(a:Bool)=>(bif a then some a else(bif (!b)then(if c=(42:UInt8)then some true else some (decide (c=(35:UInt8))))else some false)))=some (xO b c):=by revert c;cases b<;>exact iG _ aA3
theorem dc(c:UInt8):(if c=(45:UInt8)then some false else(if c=(46:UInt8)then some false else(if c=(40:UInt8)then some false else some (!decide (c=(41:UInt8))))))=some (!dh c):=by revert c;exact iG _ aA3
theorem DZ(s:aA)(r:s.length<=4194303)(m:Int)(u:UU)(e:Nat)(v:e<=s.length)(h:Bool)(n:Nat):∀(k f:Nat) (b:aA),k+n=e->n<f->b.length<=k->
  ∃j,aic FU (s,m) u (e:Int) h f b (k:Int)=some j/\
   (match Sk h (sub s (k:Int) (e:Int))with
   |some d=>j=.inl (b++d,(e:Int))
   |none=>∃a c w,0<=a/\a<=5000000/\j=.inr (a,5,c,w)):=by
 induction n with
 |zero=>intro k f b o p q;obtain⟨f,rfl⟩:=cV f;obtain rfl:k=e:=aA0;rw [aqh,ahp,aB aA0,rU];exact⟨_,rfl,by simp only [Sk,kP]⟩
 |succ n l=>
  intro k f b o p q;obtain⟨f,rfl⟩:=cV f;have i:sub s (k:Int) (e:Int)=at_ s (k:Int)::sub s ((k+1:Nat):Int) (e:Int):=by unfold sub;simp only [mP];rw [drop_at s k aA0,show e-k=(e-(k+1))+1 by omega,eO]
  rw [aqh,ahp,aC aA0,qH,I6,aY,i];unfold Sk;cases x:xO h (at_ s (k:Int))with
  |true=>
   rw [aL,bA aC2,aY,mR,bA (adc _ aA0 aA0),Ke,aC rfl];obtain⟨j,h1,h2⟩:=l (k+1) f (b++[at_ s (k:Int)]) aA0 aA0 aB6;refine⟨j,h1, ?_⟩;cases g:Sk h (sub s ((k+1:Nat):Int) (e:Int))with
   |none=>rw [g]at h2;exact h2
   |some d=>rw [g]at h2;simp only [Tg];rw [h2,iI];rfl
  |false=>
   rw [aH,dc,aY,aB aA1];cases t:dh (at_ s (k:Int))with
   |true=>rw [mI,aH,aY,mR,bA (adc _ aA0 aA0),Ke,aC rfl];exact l (k+1) f b aA0 aA0 aA0
   |false=>rw [Cb,aL,aY,Lk,aB aA1];exact⟨_,rfl,_,_,_,aA0,aA0,rfl⟩
def tT(s:aA)(i:Nat):UInt8×aA:=
 match Sk (iB s i 43) (sub s ((if iB s i 43=true then i+1 else i:Nat):Int) (cT [59] s i:Int))with
 |none=>(5,[])
 |some d=>if d=[]then(5,[])else if 30<d.length then(4,[])else(0,if iB s i 43=true then 43::d else d)
theorem Hg(T d:aA)(h:Sk false T=some d):fD d ([43]:aA)=d:=by
 have key:∀(T d:aA),Sk false T=some d->∀c∈d,c≠43:=by
  intro T;induction T with
  |nil=>intro d h;simp only [Sk,aV]at h;subst h;simp
  |cons a T g=>
   intro d h;unfold Sk at h;split at h
   ·rename_i i;cases b:Sk false T with
    |none=>rw [b]at h;cases h
    |some d'=>
     rw [b]at h;simp only [Tg,aV]at h;subst h;intro c f;rcases aN.1 f with rfl|f
     ·intro e;subst e;exact absurd i aA1
     ·exact g d' b c f
   ·split at h
    ·exact g d h
    ·cases h
 cases d with
 |nil=>rfl
 |cons c d=>have:=key T (c::d) h c aA2;have h2:¬(43:UInt8)=c:=fun e=>this e.symm;unfold fD kB;simp [h2]
theorem OL(st s:aA)(i:Nat)(a:i<s.length)(h:hasB st (at_ s (i:Int))=false):cT st s i=cT st s (i+1):=by unfold cT;rw [drop_at s i a,eR,aC (by rw [h];rfl)];omega
theorem Y6(s:aA)(o:s.length<=4194303)(i:Nat)(p:i<=s.length)(b:aA):∃a c u,0<=a/\a<=5000000/\akj FU (s,(i:Int)) (b,[],[],0,[],[])=some (a,(tT s i).1,c,u)/\
  ((tT s i).1=0->c=(s,(cT [59] s i:Int))/\u=(b,(tT s i).2,[],0,[],[])):=by
 have y:=iK [59] s i;have g:=HA [59] s i p;have e:∀(d v:aA) (q:aA),fD v ([43]:aA)=d->∃a c u,0<=a/\a<=5000000/\
   (if(fD v ([43]:aA))=([]:aA)then some ((i:Int),(5:UInt8),(s,(cT [59] s i:Int)),((b,v,([]:aA),(0:Int),([]:List PP),([]:List PP)):UU))else(if(30:Int)<((fD v ([43]:aA)).length:Int)then some ((i:Int),(4:UInt8),(s,(cT [59] s i:Int)),((b,v,([]:aA),(0:Int),([]:List PP),([]:List PP)):UU))else some ((0:Int),(0:UInt8),(s,(cT [59] s i:Int)),((b,v,([]:aA),(0:Int),([]:List PP),([]:List PP)):UU))))=
   some (a,(if d=[]then((5,[]):UInt8×aA)else if 30<d.length then(4,[])else(0,v)).1,c,u)/\((if d=[]then((5,[]):UInt8×aA)else if 30<d.length then(4,[])else(0,v)).1=0->c=(s,(cT [59] s i:Int))/\u=(b,(if d=[]then((5,[]):UInt8×aA)else if 30<d.length then(4,[])else(0,v)).2,[],0,[],[])):=by
  intro d v q A;rw [A];by_cases m:d=[]
  ·rw [aC m,aC m];exact⟨_,_,_,aA0,aA0,rfl,fun h=>absurd h aA1⟩
  ·rw [aB m,aB m];by_cases l:30<d.length
   ·rw [aC aA0,aC l];exact⟨_,_,_,aA0,aA0,rfl,fun h=>absurd h aA1⟩
   ·rw [aB aA0,aB l];exact⟨_,_,_,aA0,aA0,rfl,fun _=>⟨rfl,rfl⟩⟩
 unfold akj tT;simp only;rw [L0 s aA0 i p _ aA1 aA1,aY,Zu,aY];cases k:iB s i 43 with
 |true=>
  have n:=(Su k).1;have jQ:=(Su k).2;have z:=OL [59] s i n (by rw [jQ];decide);have x:=iK [59] s (i+1);rw [aL,bA aA1,bA (adc _ aA0 aA0),aY,Ke,aC rfl];simp only;obtain⟨j,h1,h2⟩:=DZ s o (i:Int) (b,[],[],0,[],[]) (cT [59] s i) g true (cT [59] s i-(i+1)) (i+1) FU ([]++[43]) aA0 aA4 (by simp only [Ka,cF,iO];omega);rw [h1,aY];cases f:Sk true (sub s ((i+1:Nat):Int) ((cT [59] s i:Nat):Int))with
  |none=>rw [f]at h2;obtain⟨a,c,w,t,r,rfl⟩:=h2;rw [Lk];exact⟨_,_,_,aA0,aA0,rfl,fun h=>absurd h aA1⟩
  |some d=>rw [f]at h2;simp only at h2;subst h2;rw [mR];simp only [eM];exact e d _ [] (by show fD (43::d) [43]=d;unfold fD kB;simp)
 |false=>
  rw [aH,aY,aB (show¬(false=true)by decide)];simp only;obtain⟨j,h1,h2⟩:=DZ s o (i:Int) (b,[],[],0,[],[]) (cT [59] s i) g false (cT [59] s i-i) i FU [] aA0 aA4 aA2;rw [h1,aY];cases f:Sk false (sub s (i:Int) ((cT [59] s i:Nat):Int))with
  |none=>rw [f]at h2;obtain⟨a,c,w,t,r,rfl⟩:=h2;rw [Lk];exact⟨_,_,_,aA0,aA0,rfl,fun h=>absurd h aA1⟩
  |some d=>
   rw [f]at h2;simp only at h2;subst h2;rw [mR];simp only;try rw [aB (show¬(false=true)by decide)]
   try simp only [Jy,cL]
   rw [Ka];exact e d d [] (Hg _ _ f)
def pU:UU:=([],[],[],0,[],[])
theorem Qg(st s:aA):∀(f i:Nat) (l:List PP),l.length<=16->(rZ st s f i l).2.2.length<=16
 |0,i,l,h=>h
 |f+1,i,l,h=>by
  unfold rZ;split
  ·split
   ·rename_i a;have:=Dy a;exact Qg st s f _ _ aB6
   ·exact dH _
  ·exact h
theorem Re(s:aA):∀(f i:Nat) (l:List PP),l.length<=16->(Tj s f i l).2.length<=16
 |0,i,l,h=>h
 |f+1,i,l,h=>by
  unfold Tj;split
  ·split
   ·rename_i a;have:=Dy a;exact Re s f _ _ aB6
   ·exact dH _
  ·exact h
theorem RE(st s:aA):∀(f i:Nat) (l:List PP),i<=s.length->(rZ st s f i l).1=0->(rZ st s f i l).2.1<=s.length
 |0,i,l,h,_=>h
 |f+1,i,l,h,a=>by
  unfold rZ at a⊢;split
  ·rename_i b;rw [aC b]at a;split
   ·rename_i h1;rw [aC h1]at a;exact RE st s f _ _ (HA st s _ (Su b).1) a
   ·exact dH _
  ·exact h
def pI (st s b c h : aA) (a : Int) (i : Nat) : UInt8 × UU :=
  if (rZ st s (s.length + 1) i []).1 = 0 then
    (if (Tj s (s.length + 1) (rZ st s (s.length + 1) i []).2.1 []).1 = 0 then (0, (b, c, h, a, fV (rZ st s (s.length + 1) i []).2.2, fV (Tj s (s.length + 1) (rZ st s (s.length + 1) i []).2.1 []).2))
     else ((Tj s (s.length + 1) (rZ st s (s.length + 1) i []).2.1 []).1, pU))
  else ((rZ st s (s.length + 1) i []).1, pU)
abbrev PV:=Int×UInt8×aA×aA×Int×aA×aA×aA×Int×List PP×List PP
def EV(v:PV):Option (UU×Int×UInt8):=((kt FU v FU v.1 v.2.1 v.2.2.2.1 v.2.2.2.2.1 v.2.2.2.2.2.2.2.2.2.1)).bind fun(a:(Int×UInt8×aA×Int×(List PP)))=>(((ku FU FU a.1 a.2.1 a.2.2.1 a.2.2.2.1 v.2.2.2.2.2.2.2.2.2.2)).bind fun(b:(Int×UInt8×aA×Int×(List PP)))=>(if b.2.1=(0:UInt8)then((L9 FU a.2.2.2.2).bind fun(d:List PP)=>((L9 FU b.2.2.2.2).bind fun(c:List PP)=>some ((v.2.2.2.2.2.1,v.2.2.2.2.2.2.1,v.2.2.2.2.2.2.2.1,v.2.2.2.2.2.2.2.2.1,d,c),(0:Int),(0:UInt8))))else some ((([]:aA),([]:aA),([]:aA),(0:Int),([]:List PP),([]:List PP)),b.1,b.2.1)))
theorem SD(b:Nat)(d:0<b)(a:Int)(e:UInt8)(c:¬e=0)(x:aA)(i:Int)(l:List PP):ku FU b a e x i l=some (a,e,x,i,l):=by obtain⟨b,rfl⟩:=cV b;rw [amy,ky,aB c,aY,aH]
theorem be(v:PV)(b:Nat)(d:0<b)(a:Int)(e:UInt8)(c:¬e=0)(x:aA)(i:Int)(l:List PP):kt FU v b a e x i l=some (a,e,x,i,l):=by obtain⟨b,rfl⟩:=cV b;rw [amz,aig,aB c,aY,aH]
theorem Pt(v:PV)(a:¬v.2.1=0):EV v=some (pU,v.1,v.2.1):=by unfold EV;rw [be v FU aA4 _ _ a,aY];simp only;rw [SD FU aA4 _ _ a,aY];simp only;rw [aB a];rfl
theorem EU(s:aA)(m:s.length<=4194303)(st:aA)(h1:st.length<=1000)(h2:st.all (fun b=>decide (b.toNat<128))=true)(a:Int)(l:0<=a)(k:a<=5000000)(e g h:aA)(d:Int)(i:Nat)(n:i<=s.length):
  ∃a',0<=a'/\a'<=5000000/\EV (a,0,st,s,(i:Int),e,g,h,d,[],[])=some ((pI st s e g h d i).2,a',(pI st s e g h d i).1):=by
 unfold EV pI;simp only;obtain⟨x,c,C,A,w,v,u,o⟩:=JA s m (a,0,st,s,(i:Int),e,g,h,d,[],[]) h1 h2 s.length i FU (s.length+1) [] a l k aA0 aA4 aA0 n aA2;rw [u,aY];simp only at o⊢;by_cases f:(rZ st s (s.length+1) i []).1=0
 ·obtain⟨rfl,rfl,rfl⟩:=o f;have j:=RE st c (c.length+1) i [] n f;have q:=Qg st c (c.length+1) i [] aA2;have p:=Re c (c.length+1) (rZ st c (c.length+1) i []).2.1 [] aA2;obtain⟨F,y,B,z,E,D,t,r⟩:=JZ c m c.length (rZ st c (c.length+1) i []).2.1 FU (c.length+1) [] x w v aA0 aA4 aA0 j aA2;rw [f,t,aY,aC rfl];simp only;by_cases h3:(Tj c (c.length+1) (rZ st c (c.length+1) i []).2.1 []).1=0
  ·rw [aC h3,aC h3,r h3,nS _ aA0,aY,nS _ aA0,aY];exact⟨_,aA0,aA0,rfl⟩
  ·rw [aB h3,aB h3];exact⟨_,aA0,aA0,rfl⟩
 ·rw [aB f,SD FU aA4 _ _ f,aY];simp only;rw [aB f];exact⟨_,aA0,aA0,rfl⟩
def N0:aA:=[115,105,112]
def DD:aA:=[115,105,112,115]
def mf:aA:=[116,101,108]
def Tk (s : aA) : UInt8 × UU :=
  if 1024 < s.length then (4, pU) else if cT [58] s 0 < s.length then
    (if dS (s.take (cT [58] s 0)) = N0 \/ dS (s.take (cT [58] s 0)) = DD then
      (if (wE s (cT [58] s 0 + 1)).1 = 0 then pI [59, 63] s (dS (s.take (cT [58] s 0))) (wE s (cT [58] s 0 + 1)).2.1 (wE s (cT [58] s 0 + 1)).2.2.1 (wE s (cT [58] s 0 + 1)).2.2.2.1 (wE s (cT [58] s 0 + 1)).2.2.2.2 else ((wE s (cT [58] s 0 + 1)).1, pU))
     else if dS (s.take (cT [58] s 0)) = mf then
      (if (tT s (cT [58] s 0 + 1)).1 = 0 then pI [59] s (dS (s.take (cT [58] s 0))) (tT s (cT [58] s 0 + 1)).2 [] 0 (cT [59] s (cT [58] s 0 + 1)) else ((tT s (cT [58] s 0 + 1)).1, pU))
     else (15, pU))
  else (5, pU)
theorem TK(s:aA)(i:Nat)(b:i<=s.length):(Nh s i).2.2.2<=s.length:=by
 have c:=GD s i b;unfold Nh;split
 ·exact dH _
 ·split
  ·rename_i a;split
   ·exact HA [59,63] s _ (Su a).1
   ·exact dH _
  ·split
   ·exact dH _
   ·exact c.2
theorem aj(s:aA)(i:Nat)(a:i<=s.length):(wE s i).2.2.2.2<=s.length:=by
 unfold wE;split
 ·split
  ·exact TK s _ aA0
  ·exact dH _
 ·exact TK s i a
theorem RH(s:aA):∃a,0<=a/\a<=5000000/\tx FU s=some ((Tk s).2,a,(Tk s).1):=by
 unfold tx Tk;by_cases r:1024<s.length
 ·rw [aC aA0,aC r];exact⟨_,aA0,aA0,rfl⟩
 ·rw [aB aA0,aB r];have t:=nl 58 s 0;rw [cQ,Dh]at t;rcases K9 (·==(58:UInt8)) s with⟨h1,h2⟩|⟨h1,h2,h3⟩
  ·rw [aC aA0,aB aA0];exact⟨_,aA0,aA0,rfl⟩
  ·have n:dJ (·==(58:UInt8)) s=((cT [58] s 0:Nat):Int):=by omega
   rw [n];have g:cT [58] s 0<s.length:=aA0
   generalize cT [58] s 0=c at g⊢;rw [aB aA0,aC g,bA (adc _ aA0 aA0),bA aA0,mP,XY _ aA7,aY,Ke];generalize dS (s.take c)=b;have q:(if b=([115,105,112]:aA)then some (decide (b=([115,105,112]:aA)))else some (decide (b=([115,105,112,115]:aA))))=some (decide (b=N0\/b=DD)):=by
    by_cases i:b=N0
    ·rw [aC (show b=([115,105,112]:aA)from i),aO (show b=([115,105,112]:aA)from i),aO (Or.inl i)]
    ·rw [aB (show¬b=([115,105,112]:aA)from i)];congr 1;rw [dT];exact⟨Or.inr,fun h=>h.resolve_left i⟩
   rw [q,aY];by_cases e:b=N0\/b=DD
   ·obtain⟨a,j,u,l,k,p,o⟩:=RB s aA0 (c+1) g b;rw [aO e,aL,aC e,p,aY,aY];by_cases f:(wE s (c+1)).1=0
    ·obtain⟨rfl,rfl⟩:=o f;rw [aC f,f];have m:(wE s (c+1)).2.2.2.2<=s.length:=aj s (c+1) g;exact EU s aA0 [59,63] aA1 aA1 a l k b _ _ _ _ m
    ·rw [aB f];exact⟨_,l,k,Pt (a,(wE s (c+1)).1,[59,63],j.1,j.2,u) f⟩
   ·rw [aQ e,aH,aB e];by_cases d:b=mf
    ·obtain⟨a,j,u,l,k,p,o⟩:=Y6 s aA0 (c+1) g b;rw [aC (show b=([116,101,108]:aA)from d),aC d,p,aY,aY];by_cases f:(tT s (c+1)).1=0
     ·obtain⟨rfl,rfl⟩:=o f;rw [aC f,f];exact EU s aA0 [59] aA1 aA1 a l k b _ _ _ _ (HA [59] s (c+1) g)
     ·rw [aB f];exact⟨_,l,k,Pt (a,(tT s (c+1)).1,[59],j.1,j.2,u) f⟩
    ·rw [aB (show¬b=([116,101,108]:aA)from d),aB d,aY];exact⟨_,oP 0,(show(0:Int)<=5000000 by decide),Pt (0,15,[59,63],s,((c+1:Nat):Int),b,[],[],0,[],[]) (show¬(15:UInt8)=0 by decide)⟩
open Go.Lib renaming join → dM
open List renaming intercalate → HP
theorem subA(s A B C:aA)(h:s=A++(B++C)):sub s (A.length:Int) ((A.length+B.length:Nat):Int)=B:=by subst h;unfold sub;rw [mP,mP,XJ,gO,Jr]
theorem SY{v:aA}(h:mJ v=true):v≠[]/\v.all dR=true:=by unfold mJ at h;rw [mH]at h;refine⟨fun e=> ?_,h.2⟩;subst e;exact absurd h.1 aA1
theorem z8(c:UInt8)(h:c=34\/c=92):Bw c=[92,c]:=by unfold Bw;rw [aC h]
theorem pd(c:UInt8)(h:¬(c=34\/c=92)):Bw c=[c]:=by unfold Bw;rw [aB h]
section
variable (q : UInt8 -> Bool) (h1 : ∀ c, iU c = true -> q (gX c) = true) (h2 : q 58 = true) (h3 : q 48 = true)
include h1 h2 h3
omit h2 in
theorem BP (g:aA) (h:xT g=true):∀c∈jL g,q c=true:=by
 have hx:g.all iU=true:=aD6;intro c a;unfold jL at a;split at a
 ·rw [aE.1 a];exact h3
 ·have b:c∈Cj g:=(tL _).subset a;obtain⟨d,e,rfl⟩:=cG.1 b;exact h1 d (bH.1 hx d e)
omit h1 h3 in
theorem Qz:∀(l:List aA),(∀x∈l,∀c∈x,q c=true)->∀c∈dM l [58],q c=true
 |[],_,c,d=>by simp [dM,HP]at d
 |[a],h,c,d=>by simp [dM,HP]at d;exact h a aA2 c d
 |a::b::l,h,c,d=>by
  have e:dM (a::b::l) [58]=a++(58::dM (b::l) [58]):=aD3;rw [e]at d;rcases aU.1 d with d|d
  ·exact h a aA2 c d
  ·rcases aN.1 d with rfl|d
   ·exact h2
   ·exact Qz (b::l) (fun x hx=>h x (fU _ hx)) c d
omit h2 in
theorem Nn (s:aA):∀x∈(xX s).1,∀c∈x,q c=true:=by
 intro x hx;unfold xX at hx;split at hx
 ·rename_i b;obtain⟨y,a,rfl⟩:=cG.1 hx;exact BP q h1 h3 y (bH.1 b y a)
 ·simp at hx
omit h2 in
theorem GG (s:aA):∀x∈(oL s).1,∀c∈x,q c=true:=by
 intro x hx;unfold oL at hx;split at hx
 ·simp at hx
 ·exact Nn q h1 h3 s x hx
theorem G7(s:aA):∀c∈(Ak s).1,q c=true:=by
 intro c a;unfold Ak at a;split at a
 ·simp at a
 ·split at a
  ·exact Qz q h2 _ (Nn q h1 h3 s) c a
  ·split at a
   ·simp at a
   ·rcases aU.1 a with a|a
    ·rcases aU.1 a with a|a
     ·exact Qz q h2 _ (GG q h1 h3 _) c a
     ·have b:c=58:=by simpa using a
      rw [b];exact h2
    ·exact Qz q h2 _ (GG q h1 h3 _) c a
end
theorem D8:∀c:UInt8,nI c=true->c≠91:=iG _ aA3
def iu(v:aA):aA:=bif mJ v||WA v then v else Ko v
theorem Y2(p:PP)(h:p.2.2=true):Th p=61::iu p.2.1:=by unfold Th iu;rw [h];rfl
theorem Y1(p:PP)(h:p.2.2=false):Th p=[]:=by unfold Th;rw [h];rfl
open Go.Px
open Go.Lib renaming cut → dA, index → bR, join → dM, trimLeftS → Tf
open List renaming intercalate → HP
theorem xE(a b:aA)(l:List aA):dM (a::b::l) [58]=a++(58::dM (b::l) [58]):=aD3
theorem join_one(a:aA):dM [a] [58]=a:=by simp [dM,HP]
theorem EG(c:UInt8):∀(a z:aA),(∀b∈a,b≠c)->cO c (a++c::z)=a::cO c z
 |[],z,_=>tn c z
 |b::a,z,h=>by rw [LX,jk c b _ (h b aA2),EG c a z (fun x hx=>h x (fU _ hx))];rfl
theorem PK(c:UInt8):∀(a:aA),(∀b∈a,b≠c)->cO c a=[a]
 |[],_=>rfl
 |b::a,h=>by rw [jk c b _ (h b aA2),PK c a (fun x hx=>h x (fU _ hx))];rfl
theorem Fb:∀gs:List aA,gs≠[]->(∀g∈gs,∀b∈g,b≠58)->cO 58 (dM gs [58])=gs
 |[],h,_=>absurd rfl h
 |[a],_,h=>by rw [join_one,PK 58 a (h a aA2)]
 |a::b::l,_,h=>by rw [xE,EG 58 a _ (h a aA2),Fb (b::l) aA2 (fun g c=>h g (fU _ c))]
def PO:aA->Bool
 |[]=>true
 |c::l=>(if c=58 then !(l.head? ==none)&& !(l.head? ==some 58)else true)&&PO l
theorem yT:∀l:aA,PO l=true->bR l [58,58]= -1/\∀r,bR (l++58::58::r) [58,58]=(l.length:Int)
 |[],_=>⟨aA1,fun r=>by rw [Ka,jg,aC aF6];rfl⟩
 |c::l,h=>by
  rw [PO,mH]at h;obtain⟨g,f⟩:=yT l h.2;have key:∀r:aA,(r=[]\/l≠[]\/c≠58)->([58,58]:aA).isPrefixOf (c::(l++r))=false:=by
   intro r j;by_cases a:c=58
   ·subst a;cases l with
    |nil=>simp at h
    |cons d l=>
     have i:¬d=58:=by simpa using h.1
     have b:((58:UInt8)==d)=false:=by simpa using fun e:(58:UInt8)=d=>i e.symm
     simp [List.isPrefixOf,b]
   ·have:((58:UInt8)==c)=false:=by simpa using fun e:(58:UInt8)=c=>a e.symm
    simp [List.isPrefixOf,this]
  constructor
  ·have:=key [] (.inl rfl);rw [kP]at this;rw [jg,this,aB aA1,aC g]
  ·intro r
   have:=key (58::58::r) (by
    by_cases a:c=58
    ·right;left;intro e;subst e a;simp at h
    ·exact .inr (.inr a))
   rw [LX,jg,this,aB aA1,f r,aB aA0,cF];omega
theorem PN:∀a:aA,(∀b∈a,b≠58)->PO a=true
 |[],_=>rfl
 |c::a,h=>by rw [PO,aB (h c aA2),PN a (fun x hx=>h x (fU _ hx))];rfl
theorem EH:∀(a:aA) (d:UInt8) (z:aA),(∀b∈a,b≠58)->d≠58->PO (d::z)=true->PO (a++58::d::z)=true
 |[],d,z,_,f,e=>by have:(d==58)=false:=aD2;rw [Ka,PO,aC rfl,e];simp [this]
 |c::a,d,z,h,f,e=>by rw [LX,PO,aB (h c aA2),EH a d z (fun x hx=>h x (fU _ hx)) f e];rfl
theorem Fc:∀gs:List aA,(∀g∈gs,g≠[]/\∀b∈g,b≠58)->PO (dM gs [58])=true
 |[],_=>by simp [Lib.join_nil,PO]
 |[a],h=>by rw [join_one];exact PN a (h a aA2).2
 |a::b::l,h=>by
  have f:=Fc (b::l) (fun g k=>h g (fU _ k));have j:=h b aA2;obtain⟨d,z,e⟩:∃d z,dM (b::l) [58]=d::z/\d≠58:=by
   cases c:b with
   |nil=>exact absurd c j.1
   |cons d b'=>
    have i:d≠58:=j.2 d (by rw [c];simp);cases l with
    |nil=>exact⟨d,b',by rw [join_one],i⟩
    |cons x l=>exact⟨d,b'++(58::dM (x::l) [58]),by rw [xE];rfl,i⟩
  rw [xE,e.1];rw [e.1]at f;exact EH a d z (h a aA2).2 e.2 f
theorem G6:∀c:UInt8,iU c=true->iU (gX c)=true:=iG _ aA3
theorem G5:∀c:UInt8,iU c=true->(!(gX c==58))=true:=iG _ aA3
theorem KI(g:aA)(h:xT g=true):xT (jL g)=true/\jL (jL g)=jL g/\jL g≠[]/\∀b∈jL g,b≠58:=by
 have hx:g.all iU=true:=aD6;have k:=Xn g h;have o:∀b∈jL g,b≠58:=fun b i=>by have:=BP (fun c=> !(c==58)) G5 aA1 g h b i;simpa using this
 have l:∀b∈jL g,iU b=true:=BP iU G6 aA1 g h;have f:jL g≠[]:=by
  unfold jL;split
  ·simp
  ·assumption
 refine⟨?_, ?_,f,o⟩
 ·have:=dW.2 f;unfold xT;rw [aO aA0,aO k,Kf,Kf,bH];exact l
 ·have j:Cj (jL g)=jL g:=by
   show dS (jL g)=jL g;refine Mu _ fun b i=> ?_;unfold jL at i;split at i
   ·rw [aE.1 i];decide
   ·have p:b∈Cj g:=(tL _).subset i;obtain⟨d,q,rfl⟩:=cG.1 p;exact qf d
  have m:Tf (jL g) [48]=[]\/Tf (jL g) [48]=jL g:=by
   unfold jL;split
   ·left;decide
   ·right;unfold Tf;exact Rn _ _
  have e:jL (jL g)=if Tf (jL g) [48]=[]then [48]else Tf (jL g) [48]:=by
   conv=>lhs;unfold jL
   rw [show Cj (if Tf (Cj g) [48]=[]then [48]else Tf (Cj g) [48])=jL g from j]
  rw [e];rcases m with a|a
  ·rw [aC a]
   have:jL g=[48]:=by
    unfold jL at a⊢;split
    ·rfl
    ·rename_i n;rw [aB n]at a;unfold Tf at a n;rw [Rn]at a;exact absurd a n
   rw [this]
  ·rw [a,aB f]
def iy(gs:List aA):Prop:=∀g∈gs,xT g=true/\jL g=g/\g≠[]/\∀b∈g,b≠58
theorem Hw(s:aA):iy (xX s).1:=by
 intro x hx;unfold xX at hx;split at hx
 ·rename_i b;obtain⟨y,a,rfl⟩:=cG.1 hx;exact KI y (bH.1 b y a)
 ·simp at hx
theorem xH(s:aA):iy (oL s).1:=by
 unfold oL;split
 ·intro x hx;simp at hx
 ·exact Hw s
theorem xG(gs:List aA)(h:iy gs)(b:gs≠[]):xX (dM gs [58])=(gs,true):=by
 unfold xX;rw [Fb gs b (fun g a=>(h g a).2.2.2),aC (bH.2 fun g a=>(h g a).1)];congr 1
 conv=>rhs;rw [<-List.map_id gs]
 exact YE fun g a=>(h g a).2.1
theorem E3(gs:List aA)(h:iy gs)(a:gs≠[]):dM gs [58]≠[]:=by
 intro e;have:=Fb gs a (fun g b=>(h g b).2.2.2);rw [e]at this;cases gs with
 |nil=>exact a rfl
 |cons g l=>
  have c:([]:aA)=g:=by have:=bP List.head? this;simpa [cO] using this
  exact(h g aA2).2.2.1 c.symm
theorem Hx(gs:List aA)(h:iy gs):oL (dM gs [58])=(gs,true):=by
 unfold oL;by_cases a:gs=[]
 ·subst a;rw [aC (by simp [Lib.join_nil])]
 ·rw [aB (E3 gs h a),xG gs h a]
theorem Nb:∀gs:List aA,(∀g∈gs,g.length<=4)->gs≠[]->(dM gs [58]).length+1<=gs.length*5
 |[],_,h=>absurd rfl h
 |[a],h,_=>by rw [join_one];have:=h a aA2;simp;omega
 |a::b::l,h,_=>by have c:=Nb (b::l) (fun g d=>h g (fU _ d)) aA2;have:=h a aA2;rw [xE];simp only [cB,cF]at c⊢;omega
theorem xJ{gs:List aA}(h:iy gs):∀g∈gs,g.length<=4:=fun g a=>by have:=(h g a).1;unfold xT at this;simp only [mH,bE]at this;exact this.1.2
theorem KD(x:aA)(h:(Ak x).2=true):Ak (Ak x).1=((Ak x).1,true):=by
 unfold Ak at h;by_cases a:39<x.length
 ·rw [aC a]at h;cases h
 rw [aB a]at h;by_cases i:(dA x [58,58]).2.2=false
 ·rw [aC i]at h;simp only [mH,bE]at h;have e:(Ak x).1=dM (xX x).1 [58]:=by unfold Ak;rw [aB a,aC i]
  rw [e];have f:=Hw x;generalize(xX x).1=gs at h f⊢;have c:gs≠[]:=by intro e;rw [e]at h;exact absurd h.2 aA1
  have r:=Nb gs (xJ f) c;have l:=(yT _ (Fc gs fun g b=>(f g b).2.2)).1;unfold Ak;rw [aB aA0,VN,aC l,aC rfl,xG gs f c,aO h.2];rfl
 ·rw [aB i]at h;by_cases j:(!(oL (dA x [58,58]).1).2|| !(oL (dA x [58,58]).2.1).2||decide (7<((oL (dA x [58,58]).1).1.length:Int)+((oL (dA x [58,58]).2.1).1.length:Int)))=true
  ·rw [aC j]at h;cases h
  ·have e:(Ak x).1=dM (oL (dA x [58,58]).1).1 [58]++[58,58]++dM (oL (dA x [58,58]).2.1).1 [58]:=by unfold Ak;rw [aB a,aB i,aB j]
   rw [e];have k:=xH (dA x [58,58]).1;have m:=xH (dA x [58,58]).2.1;simp only [mO,rN,bE,not_or]at j;have n:=j.2;generalize(oL (dA x [58,58]).1).1=A at k n⊢;generalize(oL (dA x [58,58]).2.1).1=B at m n⊢;have q:(dM A [58]).length<=A.length*5:=XV [58] 4 A (xJ k);have p:(dM B [58]).length<=B.length*5:=XV [58] 4 B (xJ m);have l:=(yT _ (Fc A fun g b=>(k g b).2.2)).2 (dM B [58]);have o:dM A [58]++[58,58]++dM B [58]=dM A [58]++58::58::dM B [58]:=aA2;have d:dA (dM A [58]++[58,58]++dM B [58]) [58,58]=(dM A [58],dM B [58],true):=by rw [o,VN,l,aB aA0,mP,Jr];congr 2;rw [show dM A [58]++58::58::dM B [58]=(dM A [58]++[58,58])++dM B [58]by simp,show(dM A [58]).length+([58,58]:aA).length=(dM A [58]++[58,58]).length by simp,XJ]
   unfold Ak;rw [aB aB6,d,aB (show¬(true=false)by decide)];simp only;rw [Hx A k,Hx B m,aB (by
    simp only [mO,rN,bE];rintro((h|h)|h)
    ·cases h
    ·cases h
    ·omega)]
theorem EF(c:UInt8)(f:UInt8->UInt8)(a:∀b,f b=c↔b=c):∀s:aA,cO c (s.map f)=(cO c s).map (List.map f)
 |[]=>rfl
 |b::l=>by
  have d:=EF c f a l;by_cases h:b=c
  ·have g:f b=c:=(a b).2 h;rw [tM,h,tn];rw [h]at g;rw [g,tn,d];rfl
  ·rw [tM,jk c b l h,jk c (f b) _ (fun e=>h ((a b).1 e)),d];cases cO c l with
   |nil=>rfl
   |cons x r=>rfl
theorem bf:∀c:UInt8,(decide (gX c=46))=decide (c=46):=iG _ aA3
theorem Q6(b:UInt8):gX b=46↔b=46:=by
 have:=bf b;by_cases h:b=46
 ·simp [h];decide
 ·rw [aQ h,cH]at this;simp [h,this]
theorem FL:∀c:UInt8,nI (gX c)=nI c:=iG _ aA3
theorem C2:∀c:UInt8,jO (gX c)=jO c:=iG _ aA3
theorem SH:∀c:UInt8,jO (gX c)=true->gX c=c:=iG _ aA3
theorem C3:∀c:UInt8,(gX c==45)=(c==45):=iG _ aA3
theorem WN(x:aA)(i:Int):(at_ (dS x) i==45)=(at_ x i==45):=by
 unfold dS at_;rw [bV,bV,aZ];cases x[i.toNat]? with
 |none=>rfl
 |some c=>exact C3 c
theorem JS(x:aA):Sl (dS x)=Sl x:=by
 have a:(dS x).length=x.length:=by unfold dS;exact Dj ..
 have b:(dS x).all nI=x.all nI:=by unfold dS;rw [List.all_map];congr 1;funext c;exact FL c
 unfold Sl;rw [a,WN,WN,b]
theorem SQ(x:aA):Ck (dS x)=Ck x:=by unfold Ck dS;rw [List.any_map];congr 1;funext c;show(!jO (gX c))=_;rw [C2]
theorem JJ(s:aA):jH (dS s)=jH s:=by
 have b:(dS s).length=s.length:=by unfold dS;exact Dj ..
 have a:cO 46 (dS s)=(cO 46 s).map dS:=EF 46 gX Q6 s;have h1:((cO 46 s).map dS).all Sl=(cO 46 s).all Sl:=by rw [List.all_map];congr 1;funext x;exact JS x
 have h2:((cO 46 s).map dS).any Ck=(cO 46 s).any Ck:=by rw [List.any_map];congr 1;funext x;exact SQ x
 unfold jH;rw [b,a,h1,h2]
theorem VZ(g:aA):Cq ([91]++g++[93])=true/\sub ([91]++g++[93]) 1 ((([91]++g++[93]).length:Int)-1)=g:=by
 have a:([91]++g++[93]).length=g.length+2:=aA2;have e:(((g.length+2:Nat):Int)-1)=(([91]++g).length:Int):=aA6;constructor
 ·unfold Cq;rw [a,aO aA0,Kf,e];have h1:at_ ([91]++g++[93]) (([91]++g).length:Int)=93:=nQ ([91]++g) 93 [];have b:at_ ([91]++g++[93]) 0=91:=rfl;rw [h1,b];rfl
 ·rw [a];have:=subA ([91]++g++[93]) [91] g [93] aA2;have c:(((g.length+2:Nat):Int)-1)=((([91]:aA).length+g.length:Nat):Int):=aA6;rw [c];exact this
theorem JW(s:aA)(h:(gA s).2=true):gA (gA s).1=((gA s).1,true):=by
 by_cases c:Cq s=true
 ·unfold gA at h;rw [aC c]at h;by_cases j:(Ak (sub s 1 ((s.length:Int)-1))).2=true
  ·have e:(gA s).1=[91]++(Ak (sub s 1 ((s.length:Int)-1))).1++[93]:=by unfold gA;rw [aC c,aC j]
   rw [e];have m:=KD _ j;generalize(Ak (sub s 1 ((s.length:Int)-1))).1=g at m⊢;obtain⟨f1,f2⟩:=VZ g;unfold gA;rw [aC f1,f2,m,aC rfl]
  ·rw [aB j]at h;cases h
 ·by_cases i:jG s=true
  ·have e:gA s=(s,true):=by unfold gA;rw [aB c,aC i]
   rw [e];exact e
  ·by_cases f:jH s=true
   ·have e:gA s=(dS s,true):=by unfold gA;rw [aB c,aB i,aC f]
    rw [e];have r:(dS s).length=s.length:=by unfold dS;exact Dj ..
    have l:∀b∈s,nI b=true\/b=46:=by unfold jH at f;simp only [mH]at f;exact kG 46 nI s (fun x hx=>by have:=bH.1 f.1.2 x hx;unfold Sl at this;simp only [mH]at this;exact this.2)
    have o:Cq (dS s)=false:=by
     cases hx:Cq (dS s)with
     |false=>rfl
     |true=>
      exfalso;unfold Cq at hx;simp only [mH,bE,beq_iff_eq]at hx;have:=at_mem (dS s) 0 aA0;have q:at_ (dS s) ((0:Nat):Int)=91:=hx.1.2;rw [q]at this;obtain⟨d,p,k⟩:=cG.1 this;rcases l d p with h1|h1
      ·have:nI (gX d)=true:=by rw [FL];exact h1
       rw [k]at this;exact D8 91 this rfl
      ·rw [h1]at k;exact absurd k aA1
    have n:jG (dS s)=false:=by
     cases hx:jG (dS s)with
     |false=>rfl
     |true=>
      exfalso;have a:=hx;unfold jG at a;simp only [mH]at a;have:=kG 46 jO (dS s) (fun x hx=>(zJ x (by rw [<-Qn];exact bH.1 a.1.2 x hx)).2.2)
      have hid:dS s=s:=Mu s fun b c=>by
       rcases this (gX b) (List.mem_map_of_mem c)with h1|h1
       ·exact SH b h1
       ·rw [h1];exact((Q6 b).1 h1).symm
      rw [hid]at hx;exact i hx
    show gA (dS s)=(dS s,true);unfold gA;rw [o,aB aA1,n,aB aA1,JJ,f,aC rfl,wQ]
   ·unfold gA at h;rw [aB c,aB i,aB f]at h;cases h
open Go.Op renaming bytesLess → nZ
theorem Xm(a b:aA):KA a b=nZ b a:=by unfold KA;rw [<-lJ b a]
theorem Gr:∀a b c:aA,nZ b a=false->nZ c b=false->nZ c a=false
 |[],b,c,_,_=>by cases c<;>rfl
 |x::a,[],c,h,_=>by cases h
 |x::a,y::b,[],_,h=>by cases h
 |x::a,y::b,z::c,h1,h2=>by
  rw [nZ,Bool.or_eq_false_iff]at h1 h2⊢;have f:¬y<x:=fB h1.1;have d:¬z<y:=fB h2.1;rw [XM]at f d;refine⟨aQ (by rw [XM];omega), ?_⟩;by_cases h:z=x
  ·have e:y=x:=by apply mL.1;rw [h]at d;omega
   subst h e;have g:(y==y)=true:=aA2;rw [g,Kf]at h1 h2⊢;exact Gr a b c h1.2 h2.2
  ·have:(z==x)=false:=by simpa using h
   rw [this];rfl
theorem JP(a b:aA)(h:nZ a b=true):nZ b a=false:=by rw [lJ b a,h];rfl
def ME(a b:PP):Prop:=nZ b.1 a.1=false
theorem SL(a b:PP)(h1:ME a b)(h2:ME b a):a.1=b.1:=by unfold ME at h1 h2;rw [lJ b.1 a.1,h2,eH]at h1;have:(a.1==b.1)=true:=aC5;exact eq_of_beq this
theorem Xh(x:PP):∀V:List PP,V.Pairwise (fun a b=>ME b a)->(zV x V).Pairwise (fun a b=>ME b a)
 |[],_=>by simp [zV]
 |a::V,h=>by
  rw [hZ]at h;rw [zV];cases e:KA a.1 x.1 with
  |true=>
   rw [aL,hZ];refine⟨fun y c=> ?_,Xh x V h.2⟩;rcases Hm x y V c with rfl|c
   ·exact JP _ _ (by rw [<-Xm];exact e)
   ·exact h.1 y c
  |false=>
   have d:ME a x:=by unfold ME;rw [<-Xm];exact e
   rw [aH,hZ,hZ];refine⟨fun y c=> ?_,h.1,h.2⟩;rcases aN.1 c with rfl|c
   ·exact d
   ·exact Gr _ _ _ (h.1 y c) d
theorem Nf(x:PP):∀V:List PP,(zV x V).Perm (x::V)
 |[]=>List.Perm.refl _
 |a::V=>by
  rw [zV];cases KA a.1 x.1 with
  |true=>rw [aL];exact((Nf x V).cons a).trans (List.Perm.swap x a V)
  |false=>rw [aH]
theorem TD(x:PP)(l:List PP)(h:l.Pairwise ME):(jI x l).Pairwise ME:=by unfold jI;rw [List.pairwise_reverse];exact Xh x _ (List.pairwise_reverse.2 aB0)
theorem JU(x:PP)(l:List PP):(jI x l).Perm (l++[x]):=by unfold jI;refine(List.reverse_perm _).trans ((Nf x _).trans ?_);exact(((List.reverse_perm l).cons x).trans (XL (l₁:=[x]) (l₂:=l)))
theorem Ib:∀(q p:List PP),p.Pairwise ME->(q.foldl (fun out x=>jI x out) p).Pairwise ME/\(q.foldl (fun out x=>jI x out) p).Perm (p++q)
 |[],p,h=>⟨h,aA2⟩
 |a::q,p,h=>by rw [mM];obtain⟨h1,h2⟩:=Ib q (jI a p) (TD a p h);refine⟨h1,h2.trans ?_⟩;have:=(JU a p).append_right q;rw [iI,YF]at this;exact this
theorem Nd(l:List PP):(fV l).Pairwise ME:=(Ib l [] List.Pairwise.nil).1
theorem L5(l:List PP):(fV l).Perm l:=by have:=(Ib l [] List.Pairwise.nil).2;rw [Ka]at this;exact this
def CA(l:List PP):Prop:=l.Pairwise fun a b=>a.1≠b.1
theorem GP:∀(l:List PP),CA l->∀a∈l,∀b∈l,a.1=b.1->a=b
 |[],_,a,h,_,_,_=>absurd h aA2
 |x::l,d,a,i,b,g,e=>by
  unfold CA at d;rw [hZ]at d;rcases aN.1 i with rfl|f
  ·rcases aN.1 g with rfl|c
   ·rfl
   ·exact absurd e (d.1 b c)
  ·rcases aN.1 g with rfl|c
   ·exact absurd e.symm (d.1 a f)
   ·exact GP l d.2 a f b c e
theorem Yd{l m:List PP}(h:l.Perm m)(a:CA l):CA m:=h.pairwise a fun h e=>h e.symm
theorem BI(l m:List PP)(h:l.Perm m)(e:CA l):fV l=fV m:=by have d:(fV l).Perm (fV m):=(L5 l).trans (h.trans (L5 m).symm);have c:=Yd (L5 l).symm e;refine List.Perm.eq_of_pairwise (fun a b g f h1 h2=> ?_) (Nd l) (Nd m) d;exact GP _ c a g b (d.mem_iff.2 f) (SL a b h1 h2)
theorem G4(q:UInt8->Bool)(h1:∀c,iU c=true->q (gX c)=true)(h2:q 58=true)(h3:q 48=true)(k:q 91=true)(j:q 93=true)(e:q 46=true)(i:∀c,jO c=true->q c=true)(g:∀c,nI c=true->q (gX c)=true)(s:aA):∀c∈(gA s).1,q c=true:=by
 intro c a;unfold gA at a;split at a
 ·split at a
  ·rcases aU.1 a with a|a
   ·rcases aU.1 a with a|a
    ·rw [aE.1 a];exact k
    ·exact G7 q h1 h2 h3 _ c a
   ·rw [aE.1 a];exact j
  ·simp at a
 ·split at a
  ·rename_i b;unfold jG at b;simp only [mH]at b;rcases kG 46 jO s (fun x hx=>(zJ x (by rw [<-Qn];exact bH.1 b.1.2 x hx)).2.2) c a with h|h
   ·exact i c h
   ·rw [h];exact e
  ·split at a
   ·rename_i b;unfold jH at b;simp only [mH]at b;obtain⟨d,f,rfl⟩:=cG.1 a;rcases kG 46 nI s (fun x hx=>by have:=bH.1 b.1.2 x hx;unfold Sl at this;simp only [mH]at this;exact this.2) d f with h|h
    ·exact g d h
    ·rw [h];exact e
   ·simp at a
open Go.Lib renaming hasPrefix → kB, trimPrefix → fD
open List renaming length → aS
def CP(s:aA):Bool:=s.all fun c=> !gN c
theorem JV(k:Int)(a:k=0\/k=1\/k=2):∀c:UInt8,Zp c k=true->gN c=false:=by rcases a with rfl|rfl|rfl<;>exact iG _ aA3
theorem Kr:∀c:UInt8,gN (gX c)=gN c:=iG _ aA3
theorem Ym(s:aA):CP (dS s)=CP s:=by unfold CP dS;rw [List.all_map];congr 1;funext c;simp only [Function.comp_apply,Kr]
theorem Is(s:aA)(d:aS s<=4194304):jv FU s=some (CP s):=by
 have h:=Jh (fun c=> !gN c) s d false (apx FU s)
  (fun b=>by rw [ars,vi,aB aA0])
  (fun b k e h=>by have a:gN (at_ s (k:Int))=true:=aB0;rw [ars,vi,aC aA0,qH,uR,aY,a,aL])
  (fun b k e h=>by have a:gN (at_ s (k:Int))=false:=aB0;rw [ars,vi,aC aA0,qH,uR,aY,a,aH,qH])
 unfold jv;rw [h,aY];unfold CP;cases s.all (fun c=> !gN c)<;>rfl
theorem uM(k:Int)(b:k=0\/k=1\/k=2):∀(f:Nat) (l:aA),qU k f l=none->CP (Af k f l)=true
 |0,l,_=>rfl
 |f+1,l,h=>by
  unfold qU at h;unfold Af;by_cases d:l=[]
  ·rw [aC d];rfl
  ·rw [aB d]at h⊢;cases c:Zp (at_ l 0) k with
   |true=>rw [c,aC rfl,rG]at h;rw [aC rfl];have:=uM k b f (l.drop 1) h;unfold CP at this⊢;rw [DL,JV k b _ c,this];rfl
   |false=>
    rw [c,aB aA1]at h;rw [aB aA1];cases e:Ig l with
    |none=>rw [e]at h;cases h
    |some v=>
     rw [e]at h;simp only at h⊢;cases a:gN v with
     |true=>rw [a,aC rfl]at h;cases h
     |false=>rw [a,aB aA1,rG]at h;have:=uM k b f (l.drop 3) h;unfold CP at this⊢;rw [DL,a,this];rfl
theorem uL(k:Int)(a:k=0\/k=1\/k=2)(l:aA)(h:uO k l=none):CP (qN k l)=true:=uM k a _ l h
def okQ(k:Int)(p:PP):Prop:=p.1≠[]/\dS p.1=p.1/\CP p.1=true/\CP p.2.1=true/\(k=1->p.2.2= !decide (p.2.1=[]))/\(k=2->p.2.2=true)
theorem EO{l:List PP}{nm:aA}(h:iD l nm=0):∀q∈l,q.1≠nm:=by
 unfold iD at h;split at h
 ·exact absurd h aA1
 ·rename_i b;intro q a e;exact b (List.any_eq_true.2 ⟨q,a,by simpa using e⟩)
theorem UM(k:Int)(p:k=1\/k=2)(l:List PP)(T:aA)(h:(jS k l T).1=0):okQ k (jS k l T).2/\∀q∈l,q.1≠(jS k l T).2.1:=by
 have d:k=0\/k=1\/k=2:=.inr p;unfold jS at h⊢;cases g:uO k (T.take (jK T))with
 |some j=>rw [g]at h;exact absurd h (show¬(5:UInt8)=0 by decide)
 |none=>
  rw [g]at h;simp only at h⊢;by_cases n:jK T=0
  ·rw [aC n]at h;exact absurd h aA1
  ·rw [aB n]at h⊢;have i:∀_:jK T<=aS T,T.take (jK T)≠[]:=fun o e=>by have:=bP aS e;rw [eI,iO]at this;omega
   have b:=i (HD _ _);have m:dS (qN k (T.take (jK T)))≠[]:=fun e=>b ((Ip k _ g).1 ((zL _).1 e));have f:CP (dS (qN k (T.take (jK T))))=true:=by rw [Ym];exact uL k d _ g
   by_cases c:jK T<aS T
   ·rw [aC c]at h⊢;cases a:uO k (T.drop (jK T+1))with
    |some j=>rw [a]at h;exact absurd h (show¬(5:UInt8)=0 by decide)
    |none=>
     rw [a]at h;simp only at h⊢;by_cases hx:T.drop (jK T+1)=[]/\k=1
     ·rw [aC hx]at h;exact absurd h aA1
     ·rw [aB hx]at h⊢;refine⟨⟨m,wQ _,f,uL k d _ a,fun h1=> ?_,fun _=>rfl⟩,EO h⟩;have:¬qN k (T.drop (jK T+1))=[]:=fun e=>hx ⟨(Ip k _ a).1 e,h1⟩;show true= !decide (qN k (T.drop (jK T+1))=[]);rw [aQ this];rfl
   ·rw [aB c]at h⊢;by_cases h2:k=2
    ·rw [aC h2]at h;exact absurd h aA1
    ·rw [aB h2]at h⊢;exact⟨⟨m,wQ _,f,rfl,fun _=>rfl,fun e=>absurd e h2⟩,EO h⟩
def LS(k:Int)(l:List PP):Prop:=CA l/\∀p∈l,okQ k p
theorem LS.nil(k:Int):LS k []:=⟨List.Pairwise.nil,aA2⟩
theorem LS.snoc{k:Int}{l:List PP}(h:LS k l)(p:PP)(d:okQ k p)(e:∀q∈l,q.1≠p.1):LS k (l++[p]):=by
 refine⟨dU.2 ⟨h.1,List.pairwise_singleton _ _,fun a g b f=> ?_⟩,fun q c=> ?_⟩
 ·rw [aE.1 f];exact e a g
 ·rcases aU.1 c with c|c
  ·exact h.2 q c
  ·rw [aE.1 c];exact d
theorem LS.sort{k:Int}{l:List PP}(h:LS k l):LS k (fV l):=⟨Yd (L5 l).symm h.1,fun p a=>h.2 p ((L5 l).mem_iff.1 a)⟩
theorem Bl(l:List PP)(h:CA l):fV (fV l)=fV l:=(BI l (fV l) (L5 l).symm h).symm
theorem RD(st s:aA):∀(f i:Nat) (l:List PP),LS 1 l->LS 1 (rZ st s f i l).2.2
 |0,i,l,h=>h
 |f+1,i,l,h=>by
  unfold rZ;split
  ·split
   ·rename_i a;obtain⟨h1,h2⟩:=UM 1 (.inl rfl) _ _ a;exact RD st s f _ _ (h.snoc _ h1 h2)
   ·exact LS.nil 1
  ·exact h
theorem TR(s:aA):∀(f i:Nat) (l:List PP),LS 2 l->LS 2 (Tj s f i l).2
 |0,i,l,h=>h
 |f+1,i,l,h=>by
  unfold Tj;split
  ·split
   ·rename_i a;obtain⟨h1,h2⟩:=UM 2 (.inr rfl) _ _ a;exact TR s f _ _ (h.snoc _ h1 h2)
   ·exact LS.nil 2
  ·exact h
def Nv(u:aA):Bool:= !decide (fD u [43]=[])&&decide ((fD u [43]).length<=30)&&(fD u [43]).all (xO (kB u [43]))
theorem Bt(b:Bool)(c:UInt8):((MS FU c).bind fun(a:Bool)=>(bif (!a)then(bif b then some true else(if c=(42:UInt8)then some false else some (!decide (c=(35:UInt8)))))else some false))=some (!xO b c):=by rw [qX,aY];revert c;cases b<;>exact iG _ aA3
theorem KU(u:aA)(f:aS u<=4194304):zj FU u=some (Nv u):=by
 have b:=Es u [43];have h:=Jh (xO (kB u [43])) (fD u [43]) aA0 false (anx FU u)
  (fun c=>by rw [aqt,vq,aB aA0])
  (fun c k d h=>by rw [aqt,vq,aC aA0,qH,Bt,aY,h,Cb,aL])
  (fun c k d h=>by rw [aqt,vq,aC aA0,qH,Bt,aY,h,mI,aH,qH])
 unfold zj Nv;by_cases a:fD u [43]=[]
 ·rw [aC a,aY,aL,aO a];rfl
 ·rw [aB a,aY,aQ a];by_cases e:30<(fD u [43]).length
  ·rw [aO aA0,aL,aQ (show¬(fD u [43]).length<=30 by omega)];rfl
  ·rw [aQ aA0,aH,h,aY,aO (show(fD u [43]).length<=30 by omega)];cases(fD u [43]).all (xO (kB u [43]))<;>rfl
theorem zT(a:Bool):∀(T d:aA),Sk a T=some d->d.all (xO a)=true
 |[],d,h=>by simp only [Sk,aV]at h;subst h;rfl
 |c::T,d,h=>by
  unfold Sk at h;split at h
  ·rename_i e;cases b:Sk a T with
   |none=>rw [b]at h;cases h
   |some d'=>rw [b]at h;simp only [Tg,aV]at h;subst h;rw [DL,e,zT a T d' b];rfl
  ·split at h
   ·exact zT a T d h
   ·cases h
theorem ZE(s:aA)(i:Nat)(h:(tT s i).1=0):Nv (tT s i).2=true:=by
 unfold tT at h⊢;cases f:Sk (iB s i 43) (sub s ((if iB s i 43=true then i+1 else i:Nat):Int) (cT [59] s i:Int))with
 |none=>rw [f]at h;exact absurd h (show¬(5:UInt8)=0 by decide)
 |some d=>
  rw [f]at h;simp only at h⊢;by_cases j:d=[]
  ·rw [aC j]at h;exact absurd h aA1
  ·rw [aB j]at h⊢;by_cases g:30<aS d
   ·rw [aC g]at h;exact absurd h aA1
   ·rw [aB g];have a:=zT _ _ _ f;simp only;cases b:iB s i 43 with
    |true=>
     rw [b]at a;rw [aC rfl];have l:fD (43::d) [43]=d:=by unfold fD kB;simp
     have k:kB (43::d) [43]=true:=by unfold kB;simp
     unfold Nv;rw [l,k,a,aQ j,aO (show d.length<=30 by omega)];rfl
    |false=>
     rw [b]at a f;rw [aB aA1];have l:=Hg _ _ f;have k:kB d [43]=false:=by
      cases d with
      |nil=>exact absurd rfl j
      |cons c d=>
       have m:xO false c=true:=by rw [DL,mH]at a;exact a.1
       have:c≠43:=fun e=>by subst e;exact absurd m aA1
       have h2:¬(43:UInt8)=c:=fun e=>this e.symm;show((43:UInt8)==c&&([]:aA).isPrefixOf d)=false;rw [beq_eq_false_iff_ne.2 h2];rfl
     unfold Nv;rw [l,k,a,aQ j,aO (show d.length<=30 by omega)];rfl
structure Good (u:UU):Prop where
 sch:((u.1=N0\/u.1=DD)/\gA u.2.2.1=(u.2.2.1,true)/\0<=u.2.2.2.1/\u.2.2.2.1<=65535/\CP u.2.1=true)\/(u.1=mf/\u.2.2.1=[]/\u.2.2.2.1=0/\u.2.2.2.2.2=[]/\Nv u.2.1=true)
 ps:LS 1 u.2.2.2.2.1
 hs:LS 2 u.2.2.2.2.2
 pl:aS u.2.2.2.2.1<=16
 hl:aS u.2.2.2.2.2<=16
 pi:fV u.2.2.2.2.1=u.2.2.2.2.1
 hi:fV u.2.2.2.2.2=u.2.2.2.2.2
theorem Vc(st s b d h:aA)(a:Int)(i:Nat)(c:(pI st s b d h a i).1=0):
  ∃P H,(pI st s b d h a i).2=(b,d,h,a,P,H)/\LS 1 P/\LS 2 H/\P.length<=16/\H.length<=16/\fV P=P/\fV H=H/\H=fV (Tj s (aS s+1) (rZ st s (aS s+1) i []).2.1 []).2:=by
 unfold pI at c⊢;have f:=RD st s (aS s+1) i [] (LS.nil 1);have e:=TR s (aS s+1) (rZ st s (aS s+1) i []).2.1 [] (LS.nil 2);have j:=Qg st s (aS s+1) i [] aA2;have g:=Re s (aS s+1) (rZ st s (aS s+1) i []).2.1 [] aA2;split
 ·rename_i h1;rw [aC h1]at c;split
  ·exact⟨_,_,rfl,f.sort,e.sort,by rw [sE];exact j,by rw [sE];exact g,Bl _ f.1,Bl _ e.1,rfl⟩
  ·rename_i h2;rw [aB h2]at c;exact absurd c h2
 ·rename_i h1;rw [aB h1]at c;exact absurd c h1
theorem QZ(q:aA)(h:(oD q).2=0):1<=(oD q).1/\(oD q).1<=65535:=by
 unfold oD at h⊢;split
 ·rename_i hx;rw [aC hx]at h;exact absurd h aA1
 ·rename_i hx;rw [aB hx]at h;have h1:¬((hK q).1<1\/65535<(hK q).1):=fun e=>hx ⟨h,e⟩;omega
theorem TJ(s:aA)(i:Nat)(h:(Nh s i).1=0):gA (Nh s i).2.1=((Nh s i).2.1,true)/\0<=(Nh s i).2.2.1/\(Nh s i).2.2.1<=65535:=by
 unfold Nh at h⊢;split
 ·rename_i c;rw [aC c]at h;exact absurd h aA1
 ·rename_i c;rw [aB c]at h;have hid:=JW _ aE0;split
  ·rename_i a;rw [aC a]at h;split
   ·rename_i b;have:=QZ _ b;exact⟨hid,by simp only;omega,by simp only;omega⟩
   ·rename_i b;rw [aB b]at h;exact absurd h b
  ·rename_i a;rw [aB a]at h;split
   ·rename_i hx;rw [aC hx]at h;exact absurd h aA1
   ·exact⟨hid,show(0:Int)<=0 by decide,show(0:Int)<=65535 by decide⟩
theorem YY(U:aA)(h:(Kg U).1=0):CP (Kg U).2=true/\(Kg U).2≠[]:=by
 unfold Kg at h⊢;cases a:uO 0 U with
 |some j=>rw [a]at h;simp only at h;split at h<;>exact absurd h aA1
 |none=>
  rw [a]at h;simp only at h⊢;by_cases b:U=[]
  ·rw [aC b]at h;exact absurd h aA1
  ·rw [aB b];exact⟨uL 0 (.inl rfl) U a,fun e=>b ((Ip 0 U a).1 e)⟩
theorem ai(s:aA)(i:Nat)(h:(wE s i).1=0):gA (wE s i).2.2.1=((wE s i).2.2.1,true)/\0<=(wE s i).2.2.2.1/\(wE s i).2.2.2.1<=65535/\CP (wE s i).2.1=true:=by
 unfold wE at h⊢;split
 ·rename_i a;rw [aC a]at h;split
  ·rename_i b;rw [aC b]at h;have:=TJ s _ h;exact⟨this.1,this.2.1,this.2.2,(YY _ b).1⟩
  ·rename_i b;rw [aB b]at h;exact absurd h b
 ·rename_i a;rw [aB a]at h;have:=TJ s _ h;exact⟨this.1,this.2.1,this.2.2,rfl⟩
theorem FH(s:aA):∀(f i:Nat) (l:List PP),i<=aS s->aS s-i<f->(i=aS s\/iB s i 59=true)->(rZ [59] s f i l).1=0->(rZ [59] s f i l).2.1=aS s
 |0,i,l,h1,h2,h3,b=>by omega
 |f+1,i,l,h1,h2,h3,b=>by
  unfold rZ at b⊢;by_cases d:iB s i 59=true
  ·rw [aC d]at b⊢;have c:=(Su d).1;have h:=iK [59] s (i+1);have e:=HA [59] s (i+1) c;by_cases g:(jS 1 l (sub s ((i+1:Nat):Int) (cT [59] s (i+1):Int))).1=0
   ·rw [aC g]at b⊢;refine FH s f _ _ e aA0 ?_ b;by_cases j:cT [59] s (i+1)=aS s
    ·exact .inl j
    ·have a:=Ud [59] s (i+1) c aA0;refine .inr ?_;unfold iB;rw [aO aA0,Kf];unfold hasB at a;rw [eG,List.any_nil,Te]at a;have k:=eq_of_beq a;rw [<-k];rfl
   ·rw [aB g]at b;exact absurd b g
  ·rw [aB d];exact h3.resolve_right d
theorem Ga(s:aA)(h:(Tk s).1=0):Good (Tk s).2:=by
 unfold Tk at h⊢;by_cases t:1024<aS s
 ·rw [aC t]at h;exact absurd h aA1
 ·rw [aB t]at h⊢;by_cases j:cT [58] s 0<aS s
  ·rw [aC j]at h⊢;generalize cT [58] s 0=c at j h⊢;generalize dS (s.take c)=f at h⊢;by_cases b:f=N0\/f=DD
   ·rw [aC b]at h⊢;by_cases d:(wE s (c+1)).1=0
    ·rw [aC d]at h⊢;obtain⟨P,H,e,r,q,p,o,n,m,_⟩:=Vc _ _ _ _ _ _ _ h;rw [e];obtain⟨A,z,y,x⟩:=ai s (c+1) d;exact⟨.inl ⟨b,A,z,y,x⟩,r,q,p,o,n,m⟩
    ·rw [aB d]at h;exact absurd h d
   ·rw [aB b]at h⊢;by_cases a:f=mf
    ·rw [aC a]at h⊢;by_cases d:(tT s (c+1)).1=0
     ·rw [aC d]at h⊢;have u:=iK [59] s (c+1);have k:=HA [59] s (c+1) j;have l:(rZ [59] s (aS s+1) (cT [59] s (c+1)) []).1=0:=by
       unfold pI at h;by_cases hx:(rZ [59] s (aS s+1) (cT [59] s (c+1)) []).1=0
       ·exact hx
       ·rw [aB hx]at h;exact absurd h hx
      have i:=FH s (aS s+1) (cT [59] s (c+1)) [] k aA0 (by
       by_cases v:cT [59] s (c+1)=aS s
       ·exact .inl v
       ·have g:=Ud [59] s (c+1) j aA0;refine .inr ?_;unfold iB;rw [aO aA0,Kf];unfold hasB at g;rw [eG,List.any_nil,Te]at g;have B:=eq_of_beq g;rw [<-B];rfl) l
      obtain⟨P,H,e,r,q,p,o,n,m,C⟩:=Vc _ _ _ _ _ _ _ h;rw [e];have w:H=[]:=by rw [C,i,Tj,aB (Nat.lt_irrefl _)];rfl
      exact⟨.inr ⟨a,rfl,rfl,w,ZE s (c+1) d⟩,r,q,p,o,n,m⟩
     ·rw [aB d]at h;exact absurd h d
    ·rw [aB a]at h;exact absurd h aA1
  ·rw [aB j]at h;exact absurd h aA1
theorem KP(k:Int)(z:k=1\/k=2)(l:List PP)(E:aS l<=16)(n:LS k l)(B:∀p∈l,aS p.1<=4194304/\p.2.1.length<=4194304)(q:List PP):∀(p:List PP) (b:Nat),l=p++q->aS q<b->
  vj FU l k b p (aS p:Int)=some (.inl l):=by
 induction q with
 |nil=>intro p b h i;obtain⟨b,rfl⟩:=cV b;rw [avc,amw,aB aA8,h,kP]
 |cons a q y=>
  intro p b h i;obtain⟨b,rfl⟩:=cV b;have d:=bP aS h;simp only [cB,cF]at d i;have c:(0:Int)<=(aS p:Int)/\(aS p:Int)<(aS l:Int):=aA0;have A:el l (aS p:Int)=a:=aB5;have m:a∈l:=aA8;obtain⟨w,v,u,t,s,r⟩:=n.2 a m;obtain⟨o,D⟩:=B a m;have g:(p.any fun x=>x.1==a.1)=false:=by rw [rJ];intro x hx e;have j:=n.1;rw [h]at j;exact(dU.1 j).2.2 x hx a aA2 (by simpa using e)
  have f:=y (p++[a]) b aA8 aA0;rw [show((p++[a]).length:Int)=(aS p:Int)+1 by simp]at f;rw [avc,amw,aC c.2,bA c,bA c,A,XY _ o,aY,v,aB w,Is _ o,aY,u,mI,aH,Is _ D,aY,t,mI,aH,Hu p aA0,g,aY,aY,aH];have C:(if k=(2:Int)then(bif (!(a.2.2))then some true else(if k=(1:Int)then some (!((a.2.2)==(!decide ((a.2.1)=([]:aA)))))else some false))else(if k=(1:Int)then some (!((a.2.2)==(!decide ((a.2.1)=([]:aA)))))else some false))=some false:=by
   rcases z with rfl|rfl
   ·rw [aB aA1,aC rfl,s rfl];simp
   ·rw [aC rfl,r rfl,mI,aH,aB aA1]
  rw [C,aY,aH];simp only [Fv];rw [bA aB1,bA (adc _ aA0 aA0)];exact f
theorem sI(k:Int)(b:k=1\/k=2)(l:List PP)(a:aS l<=16)(d:LS k l)(c:∀p∈l,aS p.1<=4194304/\p.2.1.length<=4194304):uc FU l k=some (fV l,true):=by unfold uc;have h:vj FU l k FU [] (0:Int)=some (.inl l):=KP k b l a d c l [] FU rfl aA4;rw [aB aA0,h,aY,mR,nS l aA0,aY]
def xy(u:UU):Prop:=aS u.1<=4194304/\u.2.1.length<=4194304/\u.2.2.1.length<=4194304/\(∀p∈u.2.2.2.2.1,aS p.1<=4194304/\p.2.1.length<=4194304)/\(∀p∈u.2.2.2.2.2,aS p.1<=4194304/\p.2.1.length<=4194304)
theorem JH(u:UU)(x:Good u)(w:xy u):zi FU u=some (u,0):=by
 obtain⟨a,y,h,v,P,H⟩:=u;obtain⟨q,p,o,n,m,l,k⟩:=x;obtain⟨t,f,s,e,d⟩:=w;simp only at q p o n m l k t f s e d;have b:dS a=a:=by
  rcases q with⟨h1,_⟩|⟨h1,_⟩
  ·rcases h1 with rfl|rfl<;>decide
  ·rw [h1];decide
 unfold zi;simp only;rw [XY _ t,aY,b];have r:(if a=([115,105,112]:aA)then some (decide (a=([115,105,112]:aA)))else some (decide (a=([115,105,112,115]:aA))))=some (decide (a=N0\/a=DD)):=by
  by_cases c:a=N0
  ·rw [aC (show a=([115,105,112]:aA)from c),aO (show a=([115,105,112]:aA)from c),aO (Or.inl c)]
  ·rw [aB (show¬a=([115,105,112]:aA)from c)];congr 1;rw [dT];exact⟨Or.inr,fun h=>h.resolve_left c⟩
 rw [r,aY];rcases q with⟨h1,h2,h3,j,i⟩|⟨h1,h2,h3,j,i⟩
 ·rw [aO h1,aL,jb _ s,aY,h2,aL,aC h3,aC j,Is _ f,aY,i,aY];rw [sI 1 (.inl rfl) P n p e,aY,sI 2 (.inr rfl) H m o d,aY,l,k];rfl
 ·subst h2 h3 j;have g:¬(a=N0\/a=DD):=by rw [h1];decide
  rw [aQ g,aH,aC (show a=([116,101,108]:aA)from h1),aC rfl,aC rfl,aC (show(([]:List PP).length:Int)=0 from rfl),KU _ f,aY,i,aY];rw [sI 1 (.inl rfl) P n p e,aY,sI 2 (.inr rfl) [] m o d,aY,l,k];rfl
def TO(n:Nat):UInt8:=at_ [48,49,50,51,52,53,54,55,56,57,65,66,67,68,69,70] (n:Int)
def UW(k:Int)(c:UInt8):aA:=if Zp c k=true then [c]else [37,TO (c.toNat/16),TO (c.toNat%16)]
def uJ(k:Int)(s:aA):aA:=s.flatMap (UW k)
theorem shr4:∀c:UInt8,(Pl c (4:Int)).toNat=c.toNat/16:=iG _ aA3
theorem az:∀c:UInt8,(c&&&(15:UInt8)).toNat=c.toNat%16:=iG _ aA3
theorem Zt(k:Int)(s:aA):(uJ k s).length<=3*aS s:=by
 unfold uJ;induction s with
 |nil=>exact eJ _
 |cons c s a=>
  rw [tN,cB,cF];have:(UW k c).length<=3:=by unfold UW;split<;>simp
  omega
theorem dm(s:aA)(r:aS s<=4194304)(k:Int)(l:k=0\/k=1\/k=2)(q:aA):∀(p:aA) (d:Nat),s=p++q->aS q<d->
  vh FU s k d (uJ k p) (aS p:Int)=some (uJ k s):=by
 induction q with
 |nil=>intro p d h g;obtain⟨d,rfl⟩:=cV d;rw [ave,anb,aB aA8,h,kP]
 |cons c q j=>
  intro p d h g;obtain⟨d,rfl⟩:=cV d;have e:=bP aS h;simp only [cB,cF]at e g;have b:(0:Int)<=(aS p:Int)/\(aS p:Int)<(aS s:Int):=aA0;have n:at_ s (aS p:Int)=c:=by rw [h];simp [at_]
  have a:=j (p++[c]) d aA8 aA0;have m:=Zt k p;have o:uJ k (p++[c])=uJ k p++UW k c:=by unfold uJ;rw [LY,DJ]
  rw [show((p++[c]).length:Int)=(aS p:Int)+1 by simp,o]at a;rw [ave,anb,aC b.2,bA b,Ho _ k l,n,aY];unfold UW at a;cases i:Zp c k with
  |true=>rw [i,aC rfl]at a;rw [aL,bA b,bA aB1,bA (adc _ aA0 aA0)];exact a
  |false=>rw [i,aB aA1]at a;have t:=MX c;have f:(([48,49,50,51,52,53,54,55,56,57,65,66,67,68,69,70]:aA).length:Int)=16:=rfl;rw [aH,bA b,shr4,az,f,bA aA0,bA b,bA aA0,bA aC2,bA (adc _ aA0 aA0)];exact a
theorem lW(s:aA)(a:aS s<=4194304)(k:Int)(b:k=0\/k=1\/k=2):WU FU s k=some (uJ k s):=by unfold WU;have h:vh FU s k FU [] (0:Int)=some (uJ k s):=dm s a k b s [] FU rfl aA4;rw [UC aA0,h,aY]
open Go.Lib renaming itoa → gF
theorem Ay(out s:aA)(h:aS out+aS s<=140737488355328):Tm FU ((),out) s=some ((aS s:Int),(),(),out++s):=by unfold Tm;simp only;rw [bA aA0]
theorem O8(out:aA)(c:UInt8)(h:aS out+1<=140737488355328):wy FU ((),out) c=some ((),(),out++[c]):=by unfold wy;simp only;rw [bA aB1]
def Qk(p:PP):aA:=uJ 1 p.1++(bif p.2.2 then 61::uJ 1 p.2.1 else [])
def Cn(p:PP):aA:=uJ 2 p.1++61::uJ 2 p.2.1
def oF(l:List PP):aA:=l.flatMap fun p=>59::Qk p
def qG(l:List PP):aA:=l.flatMap fun p=>38::Cn p
def BM:List PP->aA
 |[]=>[]
 |p::r=>63::(Cn p++qG r)
def ON(u:UU):aA:=if u.1=mf then u.2.1 else if u.2.1=[]then []else uJ 0 u.2.1++[64]
def QW(n:Int):aA:=if n=0 then []else 58::gF n
def ag(u:UU):aA:=u.1++(58::(ON u++(u.2.2.1++(QW u.2.2.2.1++(oF u.2.2.2.2.1++BM u.2.2.2.2.2)))))
theorem Vu(p:PP)(h:aS p.1<=4194304/\p.2.1.length<=4194304):(Qk p).length<=25165830:=by
 have h1:=Zt 1 p.1;have h2:=Zt 1 p.2.1;unfold Qk;rw [cB];cases p.2.2 with
 |true=>rw [aL,cF];omega
 |false=>rw [aH,iO];omega
theorem GC(p:PP)(h:aS p.1<=4194304/\p.2.1.length<=4194304):(Cn p).length<=25165830:=by have h1:=Zt 2 p.1;have h2:=Zt 2 p.2.1;unfold Cn;rw [cB,cF];omega
theorem IW(u:UU)(q:∀p∈u.2.2.2.2.1,aS p.1<=4194304/\p.2.1.length<=4194304)(s:aS u.2.2.2.2.1<=16)(r:List PP):∀(pre:List PP) (a:Nat) (out:aA),u.2.2.2.2.1=pre++r->aS r<a->aS out<=100000000+aS pre*30000000->
  kv FU (u,0) a (aS pre:Int) () out=some ((),out++oF r):=by
 induction r with
 |nil=>intro pre a out h j m;obtain⟨a,rfl⟩:=cV a;rw [kP]at h;rw [awi,aoa,aB aA8];simp [oF]
 |cons p r k=>
  intro pre a out h j m;obtain⟨a,rfl⟩:=cV a;have f:=bP aS h;simp only [cB,cF]at f j;have b:(0:Int)<=(aS pre:Int)/\(aS pre:Int)<(aS u.2.2.2.2.1:Int):=aA0;have n:el u.2.2.2.2.1 (aS pre:Int)=p:=aB5;have c:=q p aA8;have v:=Zt 1 p.1;have t:=Zt 1 p.2.1;have d:bJ ((aS pre:Int)+1):=adc _ aA0 aA0;have next:∀o:aA,o=out++(59::Qk p)->kv FU (u,0) a ((aS pre:Int)+1) () o=some ((),out++oF (p::r)):=by intro o e;have l:=Vu p c;have g:=k (pre++[p]) a o aA8 aA0 (by rw [e];simp only [cB,cF,iO];omega);rw [show((pre++[p]).length:Int)=(aS pre:Int)+1 by simp]at g;rw [g,e];simp [oF]
  rw [awi,aoa,aC b.2];simp only;rw [bA b,bA b,n,lW _ c.1 1 (.inr (.inl rfl)),aY,bA aB1,Ay _ _ aA9,aY];cases i:p.2.2 with
  |true=>
   rw [aL,lW _ c.2 1 (.inr (.inl rfl)),aY,bA aB1,Ay _ _ aA9,aY,bA d];refine next _ ?_
   unfold Qk;rw [i];simp
  |false=>
   rw [aH,bA d];refine next _ ?_
   unfold Qk;rw [i];simp
theorem IV(u:UU)(y:∀p∈u.2.2.2.2.2,aS p.1<=4194304/\p.2.1.length<=4194304)(z:aS u.2.2.2.2.2<=16)(r:List PP):∀(pre:List PP) (b:Nat) (out:aA),u.2.2.2.2.2=pre++r->aS r<b->aS out<=1000000000+aS pre*30000000->
  gr FU (u,0) b (aS pre:Int) () out=some ((),out++(if pre=[]then BM r else qG r)):=by
 induction r with
 |nil=>intro pre b out h s w;obtain⟨b,rfl⟩:=cV b;rw [kP]at h;rw [awh,anz,aB aA8];split<;>simp [BM,qG]
 |cons p r t=>
  intro pre b out h s w;obtain⟨b,rfl⟩:=cV b;have k:=bP aS h;simp only [cB,cF]at k s;have f:(0:Int)<=(aS pre:Int)/\(aS pre:Int)<(aS u.2.2.2.2.2:Int):=aA0;have x:el u.2.2.2.2.2 (aS pre:Int)=p:=aB5;have g:=y p aA8;have B:=Zt 2 p.1;have A:=Zt 2 p.2.1;have v:=GC p g;have q:bJ ((aS pre:Int)+1):=adc _ aA0 aA0;have next:∀(c:UInt8) (o:aA),o=out++(c::Cn p)->gr FU (u,0) b ((aS pre:Int)+1) () o=some ((),out++(c::(Cn p++qG r))):=by intro c o j;have l:=t (pre++[p]) b o aA8 aA0 (by rw [j];simp only [cB,cF,iO];omega);rw [show((pre++[p]).length:Int)=(aS pre:Int)+1 by simp,aB aA2]at l;rw [l,j];simp
  have tail:∀(c:UInt8),((WU FU p.1 (2:Int)).bind fun(a:aA)=>(gd (aS a+([61]:aA).length<=9223372036854775807)<|((WU FU p.2.1 (2:Int)).bind fun(d:aA)=>(gd ((a++([61]:aA)).length+aS d<=9223372036854775807)<|((Tm FU ((),out++[c]) ((a++([61]:aA))++d)).bind fun(i:(Int×Unit×(Unit×(List UInt8))))=>(gd (bJ ((aS pre:Int)+(1:Int)))<|(gr FU (u,0) b ((aS pre:Int)+(1:Int)) () i.2.2.2)))))))=some ((),out++(c::(Cn p++qG r))):=by
   intro c;rw [lW _ g.1 2 (.inr (.inr rfl)),aY,bA aB1,lW _ g.2 2 (.inr (.inr rfl)),aY,bA aA9,Ay _ _ aA9,aY,bA q];refine next c _ ?_
   unfold Cn;simp
  rw [awh,anz,aC f.2];simp only;rw [bA f,bA f,x];by_cases m:pre=[]
  ·have n:(aS pre:Int)=0:=by rw [m];rfl
   rw [aC n,aC m,O8 _ _ aA0,aY,aY];simp only;rw [tail 63];rfl
  ·have n:¬(aS pre:Int)=0:=fun e=>m (Jz aA0);rw [aB n,aB m,O8 _ _ aA0,aY,aY];simp only;rw [tail 38];unfold qG;rw [tN];rfl
theorem zD:∀(l:List PP),(∀p∈l,aS p.1<=4194304/\p.2.1.length<=4194304)->(oF l).length<=aS l*30000000
 |[],_=>eJ _
 |p::l,h=>by have h1:=Vu p (h p iH);have h2:=zD l (fun q a=>h q (fU _ a));unfold oF at h2⊢;rw [tN,cB,cF,cF];omega
theorem Xl:∀(l:List PP),(∀p∈l,aS p.1<=4194304/\p.2.1.length<=4194304)->(qG l).length<=aS l*30000000
 |[],_=>eJ _
 |p::l,h=>by have h1:=GC p (h p iH);have h2:=Xl l (fun q a=>h q (fU _ a));unfold qG at h2⊢;rw [tN,cB,cF,cF];omega
theorem Xk(l:List PP)(h:∀p∈l,aS p.1<=4194304/\p.2.1.length<=4194304):(BM l).length<=aS l*30000000:=by
 have:=Xl l h;cases l with
 |nil=>exact dH _
 |cons p l=>unfold qG at this;rw [tN,cB,cF]at this;unfold BM qG;rw [cF,cB];omega
theorem QX(u:UU)(g:Good u)(y:xy u):ze FU u=some (ag u,0):=by
 have d:0<=u.2.2.2.1/\u.2.2.2.1<=65535:=by
  rcases g.sch with⟨_,_,h1,h2,_⟩|⟨_,_,h,_⟩
  ·exact⟨h1,h2⟩
  ·omega
 have hit:=lS u.2.2.2.1 d.1 d.2;have m:=g.pl;have n:=g.hl;have w:=Zt 0 u.2.1;obtain⟨v,r,t,l,k⟩:=y;have A:=zD _ l;have z:=Xk _ k;unfold ze;rw [JH u g ⟨v,r,t,l,k⟩,aY,aC rfl];simp only;rw [bA aB1,Ay _ _ aD1,aY];simp only;have p:(if u.1=([116,101,108]:aA)then((Tm FU ((),([]:aA)++(u.1++([58]:aA))) u.2.1).bind fun(j:(Int×Unit×(Unit×(List UInt8))))=>some ((),j.2.2.2))else(if u.2.1=([]:aA)then some ((),([]:aA)++(u.1++([58]:aA)))else((WU FU u.2.1 (0:Int)).bind fun(b:aA)=>(gd (aS b+([64]:aA).length<=9223372036854775807)<|((Tm FU ((),([]:aA)++(u.1++([58]:aA))) (b++([64]:aA))).bind fun(i:(Int×Unit×(Unit×(List UInt8))))=>some ((),i.2.2.2))))))=some ((),u.1++([58]:aA)++ON u):=by
  unfold ON;by_cases e:u.1=mf
  ·rw [aC (show u.1=([116,101,108]:aA)from e),aC e,Ay _ _ aD1,aY];simp
  ·rw [aB (show¬u.1=([116,101,108]:aA)from e),aB e];by_cases f:u.2.1=[]
   ·rw [aC f,aC f];simp
   ·rw [aB f,aB f,lW _ r 0 (.inl rfl),aY,bA aB1,Ay _ _ aD1,aY];simp
 rw [p,aY];have x:(ON u).length<=12582913:=by
  unfold ON;split
  ·omega
  ·split
   ·exact dH _
   ·rw [cB,dX];omega
 simp only;rw [Ay _ _ aA9,aY];simp only;have q:∀o:aA,aS o<=50000000->(if u.2.2.2.1=(0:Int)then some ((),o)else(gd (bJ u.2.2.2.1)<|(gd (([58]:aA).length+(gF u.2.2.2.1).length<=9223372036854775807)<|((Tm FU ((),o) (([58]:aA)++(gF u.2.2.2.1))).bind fun(c:(Int×Unit×(Unit×(List UInt8))))=>some ((),c.2.2.2)))))=some ((),o++QW u.2.2.2.1):=by
  intro o B;unfold QW;by_cases a:u.2.2.2.1=0
  ·rw [aC a,aC a,kP]
  ·rw [aB a,aB a,bA (adc _ aA0 aA0),bA aB1,Ay _ _ aA9,aY];simp
 rw [q _ aA9,aY];have s:(QW u.2.2.2.1).length<=6:=by
  unfold QW;split
  ·exact dH _
  ·rw [cF];omega
 simp only;have a:kv FU (u,0) FU (0:Int) () _=_:=IW u l m u.2.2.2.2.1 [] FU (u.1++([58]:aA)++ON u++u.2.2.1++QW u.2.2.2.1) rfl aA4 aD1;rw [a,aY];simp only;have h1:gr FU (u,0) FU (0:Int) () _=_:=IV u k n u.2.2.2.2.2 [] FU (u.1++([58]:aA)++ON u++u.2.2.1++QW u.2.2.2.1++oF u.2.2.2.2.1) rfl aA4 aD1;rw [h1,aY,aC rfl];simp only;rw [bA aA9];unfold ag;simp
open Go.Lib renaming cut → dA, join → dM
def Ki(l:List PP):Nat:=(l.map fun z=>z.1.length+z.2.1.length).sum
theorem lA(p:PP)(l:List PP):Ki (p::l)=p.1.length+p.2.1.length+Ki l:=by unfold Ki;rw [tM,List.sum_cons]
theorem Eu{l m:List PP}(h:l.Perm m):Ki l=Ki m:=by unfold Ki;exact(h.map _).sum_nat
theorem ZH(a b:List PP):Ki (a++b)=Ki a+Ki b:=by unfold Ki;rw [Om,List.sum_append]
theorem Ev(q:PP->Bool):∀l:List PP,Ki (l.filter q)<=Ki l
 |[]=>eJ _
 |p::l=>by
  have:=Ev q l;rw [List.filter_cons];split
  ·rw [lA,lA];omega
  ·rw [lA];omega
theorem OS(p:PP):(Th p).length<=2*p.2.1.length+3:=by
 have:=pL p.2.1;unfold Th;cases p.2.2 with
 |false=>simp
 |true=>
  rw [aL,cF];cases(mJ p.2.1||WA p.2.1)with
  |true=>rw [aL];omega
  |false=>rw [aH];omega
theorem Vo:∀(r pre:List PP) (t:aA),Qf pre r=some t->t.length<=2*Ki r+4*r.length
 |[],_,t,h=>by rw [Qf,aV]at h;subst h;simp
 |p::r,pre,t,h=>by
  rw [Qf]at h;cases a:XO pre p&&JE p with
  |false=>rw [a]at h;cases h
  |true=>rw [a,aL,bY]at h;obtain⟨u,b,rfl⟩:=h;have:=Vo r _ u b;have c:=OS p;rw [lA];simp only [cF,cB];omega
theorem Fw(l:List PP):(tY l).1.length<=2*Ki l+64:=by
 unfold tY;split
 ·simp
 ·cases a:Qf [] l with
  |none=>simp
  |some t=>have:=Vo l [] t a;simp only;omega
theorem AW(x:aA×List PP):(Fu x).1.length<=x.1.length+2*Ki x.2+64:=by
 have:=Fw (fV x.2);rw [Eu (L5 x.2)]at this;unfold Fu;split
 ·simp only [cB];omega
 ·simp
theorem KB(s:aA):(Ak s).1.length<=250:=by
 unfold Ak;by_cases a:39<s.length
 ·rw [aC a];simp
 ·rw [aB a];have e:∀x:aA,x.length<=39->(dM (xX x).1 [58]).length<=40*5:=fun x hx=>by have h1:=ti x;have h2:=XV [58] 4 (xX x).1 h1.2;simp only [dX]at h2;omega
  split
  ·have:=e s aA0;simp only;omega
  ·split
   ·simp
   ·rename_i d;simp only [mO,rN,bE,not_or]at d;have c:=XV [58] 4 (oL (dA s [58,58]).1).1 (xJ (xH _));have b:=XV [58] 4 (oL (dA s [58,58]).2.1).1 (xJ (xH _));simp only [dX,cB,cF,iO]at c b⊢;omega
theorem sG(s:aA):(gA s).1.length<=s.length+252:=by
 have:=KB (sub s 1 ((s.length:Int)-1));unfold gA;split
 ·split
  ·simp only [cB,dX];omega
  ·simp
 ·split
  ·simp
  ·split
   ·unfold dS;simp
   ·simp
theorem Y9(a:List PP)(b:aA):Ki (gL a++lZ b)<=Ki a+b.length+6:=by
 have h1:=Ev (fun p=> !(p.1==iq)) a;have h2:Ki (lZ b)<=b.length+6:=by
  unfold lZ;split
  ·exact dH _
  ·rw [lA];have:iq.length=6:=rfl;have c:Ki []=0:=rfl;simp only;omega
 rw [ZH];unfold gL;omega
theorem IY(x:VV):(Ft x).1.length<=x.1.length+x.2.1.length+2*(Ki x.2.2.2.2+x.2.2.2.1.length)+400:=by
 by_cases a:(gA x.2.1).2=true/\mJ x.1=true/\0<=x.2.2.1/\x.2.2.1<=65535/\(tY (fV (gL x.2.2.2.2++lZ x.2.2.2.1))).2=0
 ·have h1:=Fw (fV (gL x.2.2.2.2++lZ x.2.2.2.1));rw [Eu (L5 _)]at h1;have h2:=Y9 x.2.2.2.2 x.2.2.2.1;have h3:=sG x.2.1;have e:=tR x.1;have d:=(lS x.2.2.1 a.2.2.1 a.2.2.2.1).2.2.1;have c:(pN (gA x.2.1).1 x.2.2.1).length<=(gA x.2.1).1.length+6:=by
   unfold pN;split
   ·omega
   ·simp only [cB,dX];omega
  have b:xx.length=8:=rfl;rw [Lz x a];simp only [cB,dX];omega
 ·rw [lE x a];simp
theorem Ub(v:aA):(tQ v).1.2.2.2.2.length<=16:=by
 have d:∀c h a rest,(Ek c h a rest).1.2.2.2.2.length<=16:=by
  intro c h a rest;unfold Ek;split
  ·exact Gb rest
  ·unfold tO;simp
 have b:(tO,(5:UInt8)).1.2.2.2.2.length<=16:=by unfold tO;simp
 unfold tQ;split
 ·exact b
 ·split
  ·exact b
  ·split
   ·exact b
   ·split
    ·exact b
    ·unfold Uc;split
     ·exact b
     ·split
      ·split
       ·exact d _ _ _ _
       ·unfold tO;simp
      ·exact d _ _ _ _
open Go.Lib renaming join → dM
abbrev AA:=aA×UU×List PP
def Kq:AA:=([],pU,[])
def tE(s:aA):Nat->Nat->List aA->UInt8×Nat×List aA
 |0,_,_=>(5,0,[])
 |f+1,i,a=>if iB s i 60=true then(0,i,a)else if cD dR s (i:Int)=i then(5,0,[])else tE s f (cD cW s ((cD dR s (i:Int):Nat):Int)) (a++[sub s (i:Int) ((cD dR s (i:Int):Nat):Int)])
def Aj(s:aA)(i:Nat):UInt8×aA×Nat:=
 if iB s i 34=true then
  (if(Lg s (i:Int)).2.2=0 then(if iB s (cD cW s (Lg s (i:Int)).2.1) 60=true then(0,(Lg s (i:Int)).1,cD cW s (Lg s (i:Int)).2.1)else(5,[],0))else((Lg s (i:Int)).2.2,[],0))
 else if hasB s 60=true then((tE s (s.length+1) i []).1,dM (tE s (s.length+1) i []).2.2 [32],(tE s (s.length+1) i []).2.1)
 else(0,[],i)
def iZ(s:aA)(i:Nat):UInt8×UU×Nat:=
 if iB s i 60=true then(if cT [62] s (i+1)=s.length then(5,pU,0)else((Tk (sub s ((i+1:Nat):Int) (cT [62] s (i+1):Int))).1,(Tk (sub s ((i+1:Nat):Int) (cT [62] s (i+1):Int))).2,cT [62] s (i+1)+1))
 else if cT [63,44] s i<cT [59,32,9] s i then(5,pU,0)else((Tk (sub s (i:Int) (cT [59,32,9] s i:Int))).1,(Tk (sub s (i:Int) (cT [59,32,9] s i:Int))).2,cT [59,32,9] s i)
def jV (s : aA) : UInt8 × AA :=
  if 1024 < s.length then (4, Kq) else
  if (Aj s (cD cW s 0)).1 = 0 then
    (if (iZ s (Aj s (cD cW s 0)).2.2).1 = 0 then
      (if (jC (s.drop (iZ s (Aj s (cD cW s 0)).2.2).2.2)).2.2 = 0 then (0, ((Aj s (cD cW s 0)).2.1, (iZ s (Aj s (cD cW s 0)).2.2).2.1, (jC (s.drop (iZ s (Aj s (cD cW s 0)).2.2).2.2)).1))
       else ((jC (s.drop (iZ s (Aj s (cD cW s 0)).2.2).2.2)).2.2, Kq))
     else ((iZ s (Aj s (cD cW s 0)).2.2).1, Kq))
  else ((Aj s (cD cW s 0)).1, Kq)
def yt(d:aA):aA:=if d=[]then []else Ko d++[32]
def pe(a:AA):aA×UInt8:=
 if a.1.any gN=false/\(tY (fV a.2.2)).2=0 then(yt a.1++(60::(ag a.2.1++(62::(tY (fV a.2.2)).1))),0)else([],2)
theorem Vz(s:aA):∀(f i:Nat) (a:List aA),i<=s.length->(tE s f i a).2.1<=s.length
 |0,_,_,_=>dH _
 |f+1,i,a,h=>by
  rw [tE];split
  ·exact h
  ·split
   ·exact dH _
   ·exact Vz s f _ _ (qW _ _ _)
theorem Yf(s:aA)(i:Nat)(a:i<=s.length):(Aj s i).2.2<=s.length:=by
 unfold Aj;split
 ·split
  ·split
   ·exact qW _ _ _
   ·exact dH _
  ·exact dH _
 ·split
  ·exact Vz s _ i [] a
  ·exact a
theorem IB(s:aA)(i:Nat)(h:(iZ s i).1=0):Good (iZ s i).2.1:=by
 unfold iZ at h⊢;split
 ·rename_i h1;rw [aC h1]at h;split
  ·rename_i h2;rw [aC h2]at h;exact absurd h aA1
  ·rename_i h2;rw [aB h2]at h;exact Ga _ h
 ·rename_i h1;rw [aB h1]at h;split
  ·rename_i h2;rw [aC h2]at h;exact absurd h aA1
  ·rename_i h2;rw [aB h2]at h;exact Ga _ h
theorem Ze(s:aA)(h:(jV s).1=0):Good (jV s).2.2.1/\(jV s).2.2.2.length<=16/\∀p∈(jV s).2.2.2,dS p.1=p.1/\p.1.length<=4194304:=by
 unfold jV at h⊢;split
 ·rename_i h1;rw [aC h1]at h;exact absurd h aA1
 ·rename_i h1;rw [aB h1]at h;split
  ·rename_i h2;rw [aC h2]at h;split
   ·rename_i h3;rw [aC h3]at h;split
    ·have a:∀k,(s.drop k).length<=4194304:=fun k=>by rw [jR];omega
     refine⟨IB s _ h3,Gb _,fun p c=> ?_⟩;have:=jh _ (a _) p c;exact⟨this.1,oA this.2.1 (a _)⟩
    ·rename_i b;rw [aB b]at h;exact absurd h b
   ·rename_i h3;rw [aB h3]at h;exact absurd h h3
  ·rename_i h2;rw [aB h2]at h;exact absurd h h2
def PY:List PP->aA->aA->List PP
 |[],nm,v=>[(nm,v,true)]
 |p::l,nm,v=>if dS p.1=nm then(p.1,v,true)::l else p::PY l nm v
def VP(x:aA):(List aA⊕UInt8)->(List aA⊕UInt8)
 |.inl l=>.inl (x::l)
 |.inr e=>.inr e
def gD:Nat->aA->aA->List aA⊕UInt8
 |0,a,[]=>.inl [dO a]
 |_+1,_,[]=>.inr 6
 |0,a,c::l=>if c=34 then gD 1 (a++[c]) l else if c=60 then gD 3 (a++[c]) l else if c=62 then .inr 5 else if c=44 then VP (dO a) (gD 0 [] l)else gD 0 (a++[c]) l
 |1,a,c::l=>if c=34 then gD 0 (a++[c]) l else if c=92 then gD 2 (a++[c]) l else if gN c=true then .inr 5 else gD 1 (a++[c]) l
 |2,a,c::l=>if K8 c=true then gD 1 (a++[c]) l else .inr 5
 |_+3,a,c::l=>if c=62 then gD 0 (a++[c]) l else gD 3 (a++[c]) l
theorem s0n(a:aA):gD 0 a []=.inl [dO a]:=by rw [gD]
theorem yh(a:aA)(c:UInt8)(l:aA):gD 0 a (c::l)=if c=34 then gD 1 (a++[c]) l else if c=60 then gD 3 (a++[c]) l else if c=62 then .inr 5 else if c=44 then VP (dO a) (gD 0 [] l)else gD 0 (a++[c]) l:=by rw [gD]
theorem oo(a:aA)(c:UInt8)(l:aA):gD 1 a (c::l)=if c=34 then gD 0 (a++[c]) l else if c=92 then gD 2 (a++[c]) l else if gN c=true then .inr 5 else gD 1 (a++[c]) l:=by rw [gD]
theorem s2c(a:aA)(c:UInt8)(l:aA):gD 2 a (c::l)=if K8 c=true then gD 1 (a++[c]) l else .inr 5:=by rw [gD]
theorem s3c(m:Nat)(a:aA)(c:UInt8)(l:aA):gD (m+3) a (c::l)=if c=62 then gD 0 (a++[c]) l else gD 3 (a++[c]) l:=by rw [gD]
theorem om(a:aA)(c:UInt8)(l:aA):gD 3 a (c::l)=if c=62 then gD 0 (a++[c]) l else gD 3 (a++[c]) l:=s3c 0 a c l
def nG(v:aA):List aA×UInt8:=match gD 0 [] v with|.inr e=>([],e)|.inl l=>if l.any (fun x=>decide (x=[]))=true then([],5)else(l,0)
theorem KZ{x:aA}{r:List aA⊕UInt8}{l:List aA}(h:VP x r=.inl l):∃m,r=.inl m/\l=x::m:=by
 cases r with
 |inl m=>exact⟨m,rfl,(Sum.inl.inj h).symm⟩
 |inr e=>cases h
theorem Z0:∀(l:aA) (m:Nat) (b:aA) (e:UInt8),gD m b l=.inr e->e≠0:=by
 intro l;induction l with
 |nil=>
  intro m b e h;cases m with
  |zero=>cases h
  |succ m=>rw [<-XE h];decide
 |cons c l a=>
  intro m b e h
  match m with
  |0=>
   rw [gD]at h;split at h
   ·exact a _ _ _ h
   ·split at h
    ·exact a _ _ _ h
    ·split at h
     ·rw [<-XE h];decide
     ·split at h
      ·cases d:gD 0 [] l with
       |inl q=>rw [d]at h;cases h
       |inr e'=>rw [d]at h;rw [<-XE h];exact a _ _ _ d
      ·exact a _ _ _ h
  |1=>
   rw [gD]at h;split at h
   ·exact a _ _ _ h
   ·split at h
    ·exact a _ _ _ h
    ·split at h
     ·rw [<-XE h];decide
     ·exact a _ _ _ h
  |2=>
   rw [gD]at h;split at h
   ·exact a _ _ _ h
   ·rw [<-XE h];decide
  |m+3=>
   rw [gD]at h;split at h
   ·exact a _ _ _ h
   ·exact a _ _ _ h
def Cl(e:aA):Prop:=(∀a rest,gD 0 a (e++rest)=gD 0 (a++e) rest)/\e.any gN=false
theorem Cl.nil:Cl []:=⟨fun a rest=>by rw [kP];rfl,rfl⟩
theorem Cl.app{a b:aA}(d:Cl a)(c:Cl b):Cl (a++b):=⟨fun e rest=>by rw [iI,d.1,c.1,iI],by rw [List.any_append,d.2,c.2];rfl⟩
def No(c:UInt8):Bool:= !(c==34)&& !(c==60)&& !(c==62)&& !(c==44)&& !gN c
theorem Cl.one(c:UInt8)(h:No c=true):Cl [c]:=by unfold No at h;simp only [mH,rN,beq_eq_false_iff_ne]at h;obtain⟨⟨⟨⟨h1,h2⟩,h3⟩,b⟩,a⟩:=h;refine⟨fun d rest=> ?_,by rw [eG,a];rfl⟩;rw [YF,yh,aB h1,aB h2,aB h3,aB b]
theorem Cl.all:∀(a:aA),(∀c∈a,No c=true)->Cl a
 |[],_=>Cl.nil
 |c::a,h=>by have:=(Cl.one c (h c iH)).app (Cl.all a (fun d b=>h d (fU _ b)));exact this
theorem Cl.cons{c:UInt8}{a:aA}(h:No c=true)(b:Cl a):Cl (c::a):=(Cl.one c h).app b
theorem AN:∀(v:aA) (a rest:aA),v.any gN=false->gD 1 a (v.flatMap Bw++34::rest)=gD 0 (a++(v.flatMap Bw++[34])) rest
 |[],a,rest,_=>by rw [List.flatMap_nil,Ka,oo,aC rfl];rfl
 |c::v,a,rest,h=>by
  rw [eG,Bool.or_eq_false_iff]at h;by_cases b:c=34\/c=92
  ·have d:K8 c=true:=by rcases b with rfl|rfl<;>decide
   rw [tN,z8 c b,LX,LX,LX,oo,aB aA1,aC rfl,Ka,LX,s2c,aC d,AN v _ rest h.2];simp
  ·rw [tN,pd c b,YF,LX,oo,aB (fun e=>b (.inl e)),aB (fun e=>b (.inr e)),aB (by rw [h.1];decide),AN v _ rest h.2];simp
theorem aa:∀c:UInt8,(Bw c).any gN=gN c:=iG _ aA3
theorem FE:∀v:aA,(v.flatMap Bw).any gN=v.any gN
 |[]=>rfl
 |c::v=>by rw [tN,List.any_append,FE v,aa];rfl
theorem Cl.quo(v:aA)(h:v.any gN=false):Cl (Ko v):=by
 unfold Ko;refine⟨fun a rest=> ?_, ?_⟩
 ·rw [LX,yh,aC rfl,iI,YF,AN v _ rest h];simp
 ·rw [eG,List.any_append,FE,h];decide
theorem yn(a b:aA)(l:List aA)(s:aA):dM (a::b::l) s=a++(s++dM (b::l) s):=aD3
theorem yo(a s:aA):dM [a] s=a:=by simp [dM,HP]
theorem Wx(sep:aA):∀(c:List aA) (x:aA),dM (c++[x]) sep=if c=[]then x else dM c sep++(sep++x)
 |[],x=>by rw [Ka,yo,aC rfl]
 |[a],x=>by rw [aB aA2,yo];show dM [a,x] sep=_;rw [yn,yo]
 |a::b::c,x=>by rw [aB aA2,yn];show dM (a::b::(c++[x])) sep=_;rw [yn];have:=Wx sep (b::c) x;rw [aB aA2]at this;have e:b::(c++[x])=(b::c)++[x]:=rfl;rw [e,this];simp
open Go.Lib renaming itoa → gF, join → dM
theorem SX(n:Int)(b:0<=n)(h:n<=2147483647):hK (gF n)=(n,0)/\1<=(gF n).length/\(gF n).length<=10/\(gF n).all jO=true:=by obtain⟨k,rfl⟩:∃k:Nat,n=(k:Int):=⟨n.toNat,aA0⟩;obtain⟨h1,h2,h3,a⟩:=GU 9 k aA0;rw [Hh];refine⟨?_,h3,a,h1⟩;unfold hK;rw [h1,h2,aB (by rintro(h|h|h);omega;omega;cases h),aB aA0]
def Bv(s:aA):Int×aA×UInt8:=((hK (s.take (eR (fun c=> !cW c) s))).1,s.drop (cD cW s (eR (fun c=> !cW c) s:Int)),(hK (s.take (eR (fun c=> !cW c) s))).2)
theorem Qp(s:aA):0<=(hK s).1/\(hK s).1<=2147483647:=by
 unfold hK;split
 ·exact⟨aA1,aA1⟩
 ·split
  ·exact⟨aA1,aA1⟩
  ·dsimp only;omega
theorem FK(s:aA):0<=(Bv s).1/\(Bv s).1<=2147483647:=by unfold Bv;exact Qp _
def iE(v:aA):Int×aA×UInt8:=
 if(Bv (dO v)).2.2=0 then(if mJ (Bv (dO v)).2.1=true then((Bv (dO v)).1,(Bv (dO v)).2.1,0)else(0,[],5))else(0,[],(Bv (dO v)).2.2)
def kH(v:aA):Int×Int×aA×UInt8:=
 if(Bv (dO v)).2.2=0 then(if(iE (Bv (dO v)).2.1).2.2=0 then((Bv (dO v)).1,(iE (Bv (dO v)).2.1).1,(iE (Bv (dO v)).2.1).2.1,0)else(0,0,[],(iE (Bv (dO v)).2.1).2.2))else(0,0,[],(Bv (dO v)).2.2)
def EA(k:Int)(ct:Bool)(v:aA):aA×UInt8:=
 if k=1 then(if ct=true/\dO v=[42]then([42],0)else if(jV (dO v)).1=0 then pe (jV (dO v)).2 else([],(jV (dO v)).1))
 else if k=2 then(if(tQ v).2=0 then Ft (tQ v).1 else([],(tQ v).2))
 else if k=3 then(if(iE v).2.2=0 then(gF (iE v).1++32::(iE v).2.1,0)else([],(iE v).2.2))
 else if k=4 then(if(kH v).2.2.2=0 then(gF (kH v).1++32::(gF (kH v).2.1++32::(kH v).2.2.1),0)else([],(kH v).2.2.2))
 else if k=5 then(if(hK (dO v)).2=0 then(gF (hK (dO v)).1,0)else([],(hK (dO v)).2))
 else if k=6\/k=7 then(if(lT v).2=0 then Fu (lT v).1 else([],(lT v).2))
 else if(dO v).any gN=true then([],5)else(dO v,0)
theorem OW:∀c:UInt8,dR c=true->No c=true:=iG _ aA3
theorem Cl.tok{v:aA}(h:mJ v=true):Cl v:=Cl.all v (fun c a=>OW c (bH.1 (SY h).2 c a))
theorem JX(s:aA):∀c∈(gA s).1,No c=true:=G4 _ (iG _ aA3) aA1 aA1 aA1 aA1 aA1 (iG _ aA3) (iG _ aA3) s
theorem Cl.iu(v:aA)(h:v.any gN=false):Cl (iu v):=by
 unfold Go.Wk.iu;cases h1:mJ v with
 |true=>exact Cl.tok h1
 |false=>
  cases h2:WA v with
  |true=>have h3:=h2;unfold WA at h3;simp only [mH,bE]at h3;have:=JX v;rw [h3.1.2]at this;exact Cl.all v this
  |false=>exact Cl.quo v h
theorem Cl.Th(p:PP)(h:JE p=true):Cl (Th p):=by
 unfold JE at h;cases a:p.2.2 with
 |true=>rw [a,aL]at h;rw [Y2 p a];exact Cl.cons aA1 (Cl.iu _ aB0)
 |false=>rw [Y1 p a];exact Cl.nil
def Ox(k:Int)(ct:Bool):List aA->List aA×UInt8
 |[]=>([],0)
 |x::l=>if(EA k ct x).2=0 then(if(Ox k ct l).2=0 then((EA k ct x).1::(Ox k ct l).1,0)else([],(Ox k ct l).2))else([],(EA k ct x).2)
theorem ED(k:Int)(ct:Bool):∀l:List aA,(Ox k ct l).2=0->(Ox k ct l).1.length=l.length
 |[],_=>rfl
 |x::l,h=>by
  rw [Ox]at h⊢;by_cases h1:(EA k ct x).2=0
  ·rw [aC h1]at h⊢;by_cases h2:(Ox k ct l).2=0
   ·rw [aC h2];simp only [cF,ED k ct l h2]
   ·rw [aB h2]at h;exact absurd h h2
  ·rw [aB h1]at h;exact absurd h h1
def P4(many:Bool)(k:Int)(ct:Bool)(v:aA):aA×UInt8:=
 if many=true then(if(nG v).2=0 then(if(Ox k ct (nG v).1).2=0 then(dM (Ox k ct (nG v).1).1 [44,32],0)else([],(Ox k ct (nG v).1).2))else([],(nG v).2))else EA k ct v
open Int renaming toNat → aR
theorem OU(x:aA):Lib.trimRightS x [32,9]=QJ cW x:=by unfold Lib.trimRightS QJ;rw [Ah]
theorem Ls(p:UInt8->Bool):∀(l:aA) (n:Nat),eR p (l.take n)=min (eR p l) n
 |[],n=>by rw [List.take_nil];simp [eR]
 |c::l,0=>by rw [List.take_zero];simp [eR]
 |c::l,n+1=>by
  rw [eO,eR,eR];split
  ·rw [Ls p l n];omega
  ·omega
theorem Ma(s:aA)(h:aS s<=4194304)(b e:Nat)(j:b<=e)(m:e<=aS s):∃k,tw FU s (b:Int) (e:Int)=some (k,dO (sub s (b:Int) (e:Int))):=by
 have i:cD cW s (b:Int)=b+eR cW (s.drop b):=by unfold cD;rw [baw b s.length aA0]
 have d:sub s (b:Int) (e:Int)=(s.drop b).take (e-b):=by unfold sub;rw [mP,mP]
 have c:min ((cD cW s (b:Int):Nat):Int) (e:Int)=((b+eR cW (sub s (b:Int) (e:Int)):Nat):Int):=by rw [d,Ls,i];omega
 have f:=HD cW (sub s (b:Int) (e:Int));have l:(sub s (b:Int) (e:Int)).length=e-b:=aD5;have a:sub s ((b+eR cW (sub s (b:Int) (e:Int)):Nat):Int) (e:Int)=(sub s (b:Int) (e:Int)).dropWhile cW:=by rw [<-qK];generalize eR cW (sub s (b:Int) (e:Int))=n;rw [d];unfold sub;rw [mP,mP,XI,MA];congr 1;omega
 have g:=sub_le s ((b+eR cW (sub s (b:Int) (e:Int)):Nat):Int) (e:Int);unfold tw;rw [sJ s h,aY,c,bA aA0,bA aA0,bA aA1,a,OU];exact⟨_,rfl⟩
theorem Ey(s:aA)(b i m:Nat)(a:b<=i):sub s (b:Int) ((i+m:Nat):Int)=sub s (b:Int) (i:Int)++(s.drop i).take m:=by unfold sub;rw [mP,mP,mP,show i+m-b=(i-b)+m by omega,List.take_add,MA,show b+(i-b)=i by omega]
theorem z6(n:Nat):∀(l:aA) (k:Nat) (acc a:aA),aS l<=n->
  ((fL l k acc).2.2=0->gD 1 a l=gD 0 (a++l.take ((fL l k acc).2.1.toNat-k)) (l.drop ((fL l k acc).2.1.toNat-k)))/\(¬(fL l k acc).2.2=0->gD 1 a l=.inr (fL l k acc).2.2):=by
 induction n with
 |zero=>
  intro l k acc a h;obtain rfl:l=[]:=Jz aA0;have e:fL [] k acc=([],(k:Int),6):=by unfold fL;rfl
  rw [e];exact⟨fun h=>absurd h (show¬(6:UInt8)=0 by decide),fun _=>rfl⟩
 |succ n o=>
  intro l k acc a h;cases l with
  |nil=>
   have e:fL [] k acc=([],(k:Int),6):=by unfold fL;rfl
   rw [e];exact⟨fun h=>absurd h (show¬(6:UInt8)=0 by decide),fun _=>rfl⟩
  |cons c l=>
   rw [cF]at h;rw [rR,oo];by_cases f:c=34
   ·rw [aC f,aC f];refine⟨fun _=> ?_,fun h=>absurd rfl h⟩;dsimp only;rw [show aR (((k+1:Nat):Int))-k=1 by omega];rfl
   ·rw [aB f,aB f];by_cases b:c=92
    ·rw [aC b,aC b];cases l with
     |nil=>rw [aC rfl];exact⟨fun h=>absurd h (show¬(6:UInt8)=0 by decide),fun _=>rfl⟩
     |cons d r=>
      have q:at_ (d::r) 0=d:=rfl;rw [aB aA2,q,s2c];cases s:K8 d with
      |false=>rw [aB aA1,aB aA1];exact⟨fun h=>absurd h (show¬(5:UInt8)=0 by decide),fun _=>rfl⟩
      |true=>rw [aC rfl,aC rfl,List.drop_one,List.tail_cons];rw [cF]at h;obtain⟨m,j⟩:=o r (k+2) (acc++[d]) ((a++[c])++[d]) aA0;have g:=(Dl r.length r (k+2) (acc++[d]) (eJ _)).2;refine⟨fun i=> ?_,j⟩;have p:=g i;rw [m i];have e:(fL r (k+2) (acc++[d])).2.1.toNat-k=((fL r (k+2) (acc++[d])).2.1.toNat-(k+2))+2:=aA0;rw [e,eO,eO,eP,eP];simp
    ·rw [aB b,aB b];cases t:gN c with
     |true=>rw [aC rfl];exact⟨fun h=>absurd h (show¬(5:UInt8)=0 by decide),fun _=>rfl⟩
     |false=>obtain⟨m,j⟩:=o l (k+1) (acc++[c]) (a++[c]) aA0;have g:=(Dl l.length l (k+1) (acc++[c]) (eJ _)).2;rw [aB aA1];refine⟨fun i=> ?_,j⟩;have p:=g i;have u:(if false=true then(.inr 5:List aA⊕UInt8)else gD 1 (a++[c]) l)=gD 1 (a++[c]) l:=aB aA1;have e:(fL l (k+1) (acc++[c])).2.1.toNat-k=((fL l (k+1) (acc++[c])).2.1.toNat-(k+1))+1:=aA0;rw [m i,e,eO,eP];simp
theorem ur:∀(l a:aA),(dJ (·==(62:UInt8)) l<0->gD 3 a l=.inr 6)/\(¬dJ (·==(62:UInt8)) l<0->gD 3 a l=gD 0 (a++l.take ((dJ (·==(62:UInt8)) l).toNat+1)) (l.drop ((dJ (·==(62:UInt8)) l).toNat+1)))
 |[],a=>⟨fun _=>rfl,fun h=>absurd (show(-1:Int)<0 by decide) h⟩
 |c::l,a=>by
  obtain⟨f,d⟩:=ur l (a++[c]);have g:=qE (·==(62:UInt8)) l;rw [om];by_cases h:c=62
  ·have e:dJ (·==(62:UInt8)) (c::l)=0:=by rw [dJ,h];rfl
   rw [e,aC h];exact⟨fun h=>absurd h aA1,fun _=>rfl⟩
  ·have i:(c==(62:UInt8))=false:=beq_eq_false_iff_ne.2 h;rw [aB h,dJ,i,aB aA1];by_cases b:dJ (·==(62:UInt8)) l= -1
   ·rw [aC b];refine⟨fun _=>f aA0,fun h=>absurd (show(-1:Int)<0 by decide) h⟩
   ·rw [aB b];refine⟨fun h=>absurd h aA0,fun _=> ?_⟩;rw [d aA0,show aR (dJ (·==(62:UInt8)) l+1)+1=((dJ (·==(62:UInt8)) l).toNat+1)+1 by omega,eO,eP];simp
theorem PJ(s:aA)(Y:aS s<=4194303)(n:Nat):∀(i d:Nat) (acc:List (Int×aA)) (b:Nat),aS s-i<=n->n<d->b<=i->i<=aS s->aS acc<=i->
  ∃j,uq FU s 44 d acc (b:Int) (i:Int)=some j/\
   (match gD 0 (sub s (b:Int) (i:Int)) (s.drop i)with
   |.inl l=>∃(c:List (Int×aA)) (b':Nat),j=.inl (c,(b':Int))/\b'<=aS s/\c.length<=aS s/\c.map (·.2)++[dO (sub s (b':Int) (aS s:Int))]=acc.map (·.2)++l
   |.inr e=>∃q a,j=.inr (q,a,e)):=by
 induction n with
 |zero=>intro i d acc b S T B v H;obtain⟨d,rfl⟩:=cV d;obtain rfl:i=aS s:=aA0;rw [atj,ve,aB aA0,YG (eJ _),s0n];exact⟨_,rfl,acc,b,rfl,aA0,H,rfl⟩
 |succ n A=>
  intro i d acc b S T B v H;obtain⟨d,rfl⟩:=cV d;by_cases u:i<aS s
  ·have G:=drop_at s i u;have t:sub s (b:Int) ((i+1:Nat):Int)=sub s (b:Int) (i:Int)++[at_ s (i:Int)]:=by rw [Ey s b i 1 B,G];rfl
   rw [atj,ve,aC aA0,bA aA0,G,yh];by_cases g:at_ s (i:Int)=34
   ·rw [aC g,aC g,tS s aA0,aY];have Q:Lg s (i:Int)=fL (s.drop (i+1)) (i+1) []:=by unfold Lg;rw [aB aA0,aB (by rintro(h|h);omega;exact h g),mP]
    have D:=z6 (s.drop (i+1)).length (s.drop (i+1)) (i+1) [] (sub s (b:Int) (i:Int)++[at_ s (i:Int)]) (eJ _);have w:=(Dl (s.drop (i+1)).length (s.drop (i+1)) (i+1) [] (eJ _)).2;have F:(s.drop (i+1)).length=aS s-(i+1):=jR;rw [Q];generalize fL (s.drop (i+1)) (i+1) []=U at D w⊢;by_cases y:U.2.2=0
    ·obtain⟨X,W⟩:=w y;obtain⟨o,E⟩:∃o:Nat,U.2.1=(o:Int):=⟨U.2.1.toNat,aA0⟩;rw [E]at X W;have J:=D.1 y;rw [E,mP,<-t,<-Ey s b (i+1) (o-(i+1)) aA0,MA,show i+1+(o-(i+1))=o by omega]at J;rw [aC y,E,<-t,J];exact A o d acc b aA0 aA0 aA0 aA0 aA0
    ·rw [aB y,D.2 y];exact⟨_,rfl,_,_,rfl⟩
   ·rw [aB g,aB g];by_cases f:at_ s (i:Int)=60
    ·have hx:gD 3 (sub s (b:Int) (i:Int)) (s.drop i)=gD 3 (sub s (b:Int) (i:Int)++[at_ s (i:Int)]) (s.drop (i+1)):=by rw [G,om,aB (by rw [f];decide)]
     obtain⟨L,K⟩:=ur (s.drop i) (sub s (b:Int) (i:Int));have F:(s.drop i).length=aS s-i:=jR;have C:=K9 (·==(62:UInt8)) (s.drop i);rw [aC f,aC f,bA aA0,mP,<-hx];generalize dJ (·==(62:UInt8)) (s.drop i)=x at L K C⊢;by_cases m:x<0
     ·rw [aC m,L m];exact⟨_,rfl,_,_,rfl⟩
     ·rw [aB m,K m,<-Ey s b i (x.toNat+1) B,MA,bA (adc _ aA0 aA0),bA (adc _ aA0 aA0),show(i:Int)+(x+1)=((i+(x.toNat+1):Nat):Int)by omega];exact A (i+(x.toNat+1)) d acc b aA0 aA0 aA0 aA0 aA0
    ·rw [aB f,aB f];by_cases p:at_ s (i:Int)=62
     ·rw [aC p,aC p];exact⟨_,rfl,_,_,rfl⟩
     ·rw [aB p,aB p];by_cases r:at_ s (i:Int)=44
      ·obtain⟨k,R⟩:=Ma s aA0 b i B v;rw [aC r,aC r,R,aY,bA aE3,bA (adc _ aA0 aA0),Ke];obtain⟨j,V,z⟩:=A (i+1) d (acc++[(k,dO (sub s (b:Int) (i:Int)))]) (i+1) aA0 aA0 (eJ _) u aB8;refine⟨j,V, ?_⟩;rw [rU]at z;cases I:gD 0 [] (s.drop (i+1))with
       |inr e=>rw [I]at z;exact z
       |inl l=>rw [I]at z;obtain⟨c,b',P,O,N,M⟩:=z;refine⟨c,b',P,O,N, ?_⟩;rw [M,Om,N2,iI];rfl
      ·rw [aB r,aB r,bA (adc _ aA0 aA0),Ke,<-t];exact A (i+1) d acc b aA0 aA0 aA0 u aA0
  ·obtain rfl:i=aS s:=by omega
   rw [atj,ve,aB aA0,YG (eJ _),s0n];exact⟨_,rfl,acc,b,rfl,aA0,H,rfl⟩
theorem IH(s:aA)(i:aS s<=4194303):∃q a,zd FU s 44=some (q,a,(match gD 0 [] s with|.inl _=>0|.inr e=>e))/\(∀l,gD 0 [] s=.inl l->q.map (·.2)=l/\q.length<=aS s+1):=by
 obtain⟨j,h1,h2⟩:=PJ s i s.length 0 FU [] 0 aA0 aA4 (eJ _) (dH _) (eJ _);have b:uq FU s 44 FU [] (0:Int) (0:Int)=some j:=h1;rw [rU,cQ]at h2;unfold zd;rw [uN,aY];have e:(bif cW 44 then some true else(if(44:UInt8)=(34:UInt8)then some true else(if(44:UInt8)=(60:UInt8)then some true else some (decide ((44:UInt8)=(62:UInt8))))))=some false:=aA1;rw [e,aY,aH,b,aY];cases c:gD 0 [] s with
 |inr e=>rw [c]at h2;obtain⟨q,a,rfl⟩:=h2;rw [Lk];exact⟨q,a,rfl,fun l h=>by cases h⟩
 |inl l=>rw [c]at h2;obtain⟨d,b',rfl,g,n,f⟩:=h2;obtain⟨k,m⟩:=Ma s aA0 b' s.length g (eJ _);rw [mR];dsimp only;rw [m,aY,bA aE3];refine⟨_,_,rfl,fun l' h=> ?_⟩;have:=Sum.inl.inj h;subst this;rw [Om,N2,f];exact⟨rfl,by rw [cB,dX];omega⟩
theorem TN(c:((List (Int×aA))×Int×UInt8))(k:aS c.1<=4194304)(q:List (Int×aA)):∀(p:List (Int×aA)) (b:Nat),c.1=p++q->aS q<b->
  uk FU c b (p.map (·.2)) (aS p:Int)=some (if(q.map (·.2)).any (fun x=>decide (x=[]))=true then .inr ([],5)else .inl (c.1.map (·.2))):=by
 induction q with
 |nil=>intro p b h f;obtain⟨b,rfl⟩:=cV b;rw [kP]at h;rw [ayg,arc,aB aF0,h];rfl
 |cons a q g=>
  intro p b h f;obtain⟨b,rfl⟩:=cV b;have i:=bP aS h;simp only [cB,cF]at i f;have e:(0:Int)<=(aS p:Int)/\(aS p:Int)<(aS c.1:Int):=aA0;have j:el c.1 (aS p:Int)=a:=aB5;rw [ayg,arc,aC e.2,bA e,bA e,j,tM,eG];by_cases d:a.2=[]
  ·rw [aC d,aO d,Bool.true_or,aC rfl]
  ·rw [aB d,aQ d,eH,bA (by simp only [Dj,dX];omega),bA (adc _ aA0 aA0)];have:=g (p++[a]) b aA8 aA0;rw [Om,N2]at this;rw [show((aS p:Int)+1)=((p++[a]).length:Int)by simp];exact this
theorem SI(v:aA)(g:aS v<=4194303):zb FU v=some (nG v):=by
 obtain⟨q,a,i,h⟩:=IH v g;unfold zb nG;rw [i,aY];have d:=Z0 v 0 [];cases f:gD 0 [] v with
 |inr e=>dsimp only;rw [aB (d e f)]
 |inl l=>
  obtain⟨h1,h2⟩:=h l f;dsimp only;have:=TN (q,a,0) (by dsimp only;omega) q [] FU rfl aA4;have b:uk FU (q,a,0) FU [] (0:Int)=_:=this;rw [aC rfl,b,aY,h1];by_cases c:l.any (fun x=>decide (x=[]))=true
  ·rw [aC c,aC c,Lk]
  ·rw [aB c,aB c,mR]
theorem HV(s:aA)(k:Nat)(c:k<=s.length):(pD s k).1.length<=s.length+252:=by
 unfold pD;split
 ·rename_i h;have:=vL s k (Su h).2 (Su h).1;omega
 ·split
  ·split
   ·have a:=sG (sub s (k:Int) (min ((k+eR (fun b=> !(b==93)) (s.drop k):Nat)+1:Int) (s.length:Int)));rw [CQ]at a;dsimp only;omega
   ·exact dH _
  ·split
   ·exact dH _
   ·dsimp only;rw [CQ];omega
theorem BG(s:aA)(b:Nat):(xU s b).1.2.1.length<=s.length+252:=by
 unfold xU;split
 ·exact dH _
 ·split
  ·exact dH _
  ·split
   ·exact HV s _ (qW _ _ _)
   ·exact dH _
theorem Vt(s:aA):∀(f:Nat) (l:List PP) (i:Nat),(∀p∈l,p.2.1.length<=s.length+252)->∀p∈(nE s f l i).1,p.2.1.length<=s.length+252
 |0,_,_,_=>by simp [nE]
 |f+1,l,i,h=>by
  rw [nE];split
  ·exact h
  ·split
   ·simp
   ·split
    ·split
     ·refine Vt s f _ _ fun p a=> ?_;rcases aU.1 a with a|a
      ·exact h p a
      ·rw [aE.1 a];exact BG s _
     ·simp
    ·simp
theorem wF(s:aA):∀p∈(jC s).1,p.2.1.length<=s.length+252:=Vt s _ [] 0 aA2
theorem Xw(k:Int)(l:List PP)(T:aA):(jS k l T).2.1.length<=T.length/\(jS k l T).2.2.1.length<=T.length:=by
 have h1:=xP k (T.take (jK T));have h2:=xP k (T.drop (jK T+1));rw [eI]at h1;rw [jR]at h2;have h3:(dS (qN k (T.take (jK T)))).length=(qN k (T.take (jK T))).length:=by unfold dS;rw [Dj]
 unfold jS;split
 ·exact⟨dH _,dH _⟩
 ·split
  ·exact⟨dH _,dH _⟩
  ·split
   ·split
    ·exact⟨dH _,dH _⟩
    ·split
     ·exact⟨dH _,dH _⟩
     ·dsimp only;omega
   ·split
    ·exact⟨dH _,dH _⟩
    ·exact⟨by dsimp only;omega,dH _⟩
def gS(n:Nat)(l:List PP):Prop:=∀p∈l,p.1.length<=n/\p.2.1.length<=n
theorem gS.snoc{n:Nat}{l:List PP}(h:gS n l)(p:PP)(h1:p.1.length<=n)(h2:p.2.1.length<=n):gS n (l++[p]):=fun q b=>by
 rcases aU.1 b with a|a
 ·exact h q a
 ·rw [aE.1 a];exact⟨h1,h2⟩
theorem RC(st s:aA):∀(f i:Nat) (l:List PP),gS s.length l->gS s.length (rZ st s f i l).2.2
 |0,i,l,h=>h
 |f+1,i,l,h=>by
  rw [rZ];split
  ·split
   ·have:=Xw 1 l (sub s ((i+1:Nat):Int) (cT st s (i+1):Int));have b:=sub_le s ((i+1:Nat):Int) (cT st s (i+1):Int);exact RC st s f _ _ (h.snoc _ aA0 aA0)
   ·intro p a;cases a
  ·exact h
theorem TQ(s:aA):∀(f i:Nat) (l:List PP),gS s.length l->gS s.length (Tj s f i l).2
 |0,i,l,h=>h
 |f+1,i,l,h=>by
  rw [Tj];split
  ·split
   ·have:=Xw 2 l (sub s ((i+1:Nat):Int) (cT [38] s (i+1):Int));have b:=sub_le s ((i+1:Nat):Int) (cT [38] s (i+1):Int);exact TQ s f _ _ (h.snoc _ aA0 aA0)
   ·intro p a;cases a
  ·exact h
def pE(n:Nat)(u:UU):Prop:=u.1.length<=n/\u.2.1.length<=n/\u.2.2.1.length<=n/\gS n u.2.2.2.2.1/\gS n u.2.2.2.2.2
theorem Tl(n:Nat):pE n pU:=⟨dH _,dH _,dH _,(fun p a=>by cases a),(fun p a=>by cases a)⟩
theorem Hj{n:Nat}{l:List PP}(h:gS n l):gS n (fV l):=fun p a=>h p (lU l p a)
theorem vV(n:Nat)(st s b d h:aA)(c:Int)(i:Nat)(h1:b.length<=n)(h2:d.length<=n)(h3:h.length<=n)(g:s.length<=n):pE n (pI st s b d h c i).2:=by
 have e:∀l,gS s.length l->gS n l:=fun l f p a=>⟨oA (f p a).1 g,oA (f p a).2 g⟩;unfold pI;split
 ·split
  ·exact⟨h1,h2,h3,Hj (e _ (RC st s _ i [] (fun p a=>by cases a))),Hj (e _ (TQ s _ _ [] (fun p a=>by cases a)))⟩
  ·exact Tl n
 ·exact Tl n
theorem GA(s:aA)(i:Nat):(Nh s i).2.1.length<=s.length+252:=by
 have h1:=sG (sub s (i:Int) (iV s i:Int));have h2:=sub_le s (i:Int) (iV s i:Int);unfold Nh;split
 ·exact dH _
 ·split
  ·split
   ·dsimp only;omega
   ·exact dH _
  ·split
   ·exact dH _
   ·dsimp only;omega
theorem OM(U:aA):(Kg U).2.length<=U.length:=by
 have:=xP 0 U;unfold Kg;split
 ·exact dH _
 ·split
  ·exact dH _
  ·exact this
theorem FG(s:aA)(i:Nat):(wE s i).2.1.length<=s.length/\(wE s i).2.2.1.length<=s.length+252:=by
 have a:=GA s i;have h1:=GA s (cT [64] s i+1);have h2:=OM (sub s (i:Int) (cT [64] s i:Int));have h3:=sub_le s (i:Int) (cT [64] s i:Int);unfold wE;split
 ·split
  ·exact⟨by dsimp only;omega,h1⟩
  ·exact⟨dH _,dH _⟩
 ·exact⟨dH _,a⟩
theorem Ug(s:aA)(i:Nat):(tT s i).2.length<=31:=by
 unfold tT;split
 ·exact dH _
 ·split
  ·exact dH _
  ·split
   ·exact dH _
   ·dsimp only;split
    ·rw [cF];omega
    ·omega
theorem Mb(s:aA):pE 1300 (Tk s).2:=by
 unfold Tk;split
 ·exact Tl _
 ·have c:(dS (s.take (cT [58] s 0))).length<=s.length:=by unfold dS;rw [Dj,eI];omega
  have b:=FG s (cT [58] s 0+1);have a:=Ug s (cT [58] s 0+1);split
  ·split
   ·split
    ·exact vV 1300 _ s _ _ _ _ _ aA0 aA0 aA0 aA0
    ·exact Tl _
   ·split
    ·split
     ·exact vV 1300 _ s _ _ _ _ _ aA0 aA0 (dH _) aA0
     ·exact Tl _
    ·exact Tl _
  ·exact Tl _
theorem pE.sml{n:Nat}{u:UU}(h:pE n u)(a:n<=4194304):xy u:=
 ⟨oA h.1 a,oA h.2.1 a,oA h.2.2.1 a,fun p b=>⟨oA (h.2.2.2.1 p b).1 a,oA (h.2.2.2.1 p b).2 a⟩,fun p b=>⟨oA (h.2.2.2.2 p b).1 a,oA (h.2.2.2.2 p b).2 a⟩⟩
theorem A6(u:UU)(b:Good u)(f:xy u):(ag u).length<=2000000000:=by
 obtain⟨l,k,j,d,c⟩:=f;have n:=zD _ d;have m:=Xk _ c;have g:=b.pl;have i:=b.hl;have e:=Zt 0 u.2.1;have a:0<=u.2.2.2.1/\u.2.2.2.1<=65535:=by
  rcases b.sch with⟨_,_,h1,h2,_⟩|⟨_,_,h,_⟩
  ·exact⟨h1,h2⟩
  ·omega
 have hit:=lS u.2.2.2.1 a.1 a.2;have h1:(ON u).length<=12582913:=by
  unfold ON;split
  ·omega
  ·split
   ·exact dH _
   ·rw [cB,dX];omega
 have h2:(QW u.2.2.2.1).length<=6:=by
  unfold QW;split
  ·exact dH _
  ·rw [cF];omega
 unfold ag;simp only [cB,cF];omega
theorem Gm(s:aA):∀(f i:Nat) (a:List aA),i<=s.length->a.length<=i->(∀x∈a,x.length<=s.length)->(tE s f i a).2.2.length<=s.length/\∀x∈(tE s f i a).2.2,x.length<=s.length
 |0,_,_,_,_,_=>⟨dH _,fun x hx=>by cases hx⟩
 |f+1,i,a,c,d,hx=>by
  have h1:=Sv dR s i c;have h2:=qW dR s (i:Int);have h3:=Sv cW s (cD dR s (i:Int)) h2;rw [tE];split
  ·exact⟨oA d c,hx⟩
  ·split
   ·exact⟨dH _,fun x hx=>by cases hx⟩
   ·rename_i e;refine Gm s f _ _ (qW _ _ _) aB8 (fun x b=> ?_);rcases aU.1 b with h|h
    ·exact hx x h
    ·rw [aE.1 h];exact sub_le _ _ _
theorem VI(s:aA)(c:s.length<=1024)(i:Nat)(e:i<=s.length):(Aj s i).2.1.length<=1100000:=by
 unfold Aj;split
 ·rename_i h;have:=vL s i (Su h).2 (Su h).1;split
  ·split
   ·dsimp only;omega
   ·exact dH _
  ·exact dH _
 ·split
  ·obtain⟨a,b⟩:=Gm s (s.length+1) i [] e (dH _) (fun x hx=>by cases hx);have d:=XV [32] s.length _ b;rw [dX]at d;refine oA d ?_;refine oA (XF (oA a c) (Nat.succ_le_succ c)) aA1
  ·exact dH _
theorem M3(s:aA):pE 1300 (jV s).2.2.1/\(jV s).2.1.length<=1100000/\gS 1300 (jV s).2.2.2:=by
 have a:pE 1300 Kq.2.1/\Kq.1.length<=1100000/\gS 1300 Kq.2.2:=⟨Tl _,dH _,fun p b=>by cases b⟩;unfold jV;split
 ·exact a
 ·rename_i c;split
  ·split
   ·split
    ·refine⟨?_,VI s aA0 _ (qW _ _ _), ?_⟩
     ·show pE 1300 (iZ s (Aj s (cD cW s 0)).2.2).2.1;generalize(Aj s (cD cW s 0)).2.2=j;unfold iZ;split
      ·split
       ·exact Tl _
       ·exact Mb _
      ·split
       ·exact Tl _
       ·exact Mb _
     ·intro p b;dsimp only at b;have d:(s.drop (iZ s (Aj s (cD cW s 0)).2.2).2.2).length<=1024:=by rw [jR];omega
      have h1:=jh _ aA0 p b;have h2:=wF _ p b;exact⟨aA0,aA0⟩
    ·exact a
   ·exact a
  ·exact a
theorem ZA(n:Nat):∀(l:aA) (k:Nat) (acc:aA),l.length<=n->0<=(fL l k acc).2.1/\(fL l k acc).2.1<=((k+l.length:Nat):Int):=by
 induction n with
 |zero=>intro l k acc h;have:l=[]:=Jz aA0;subst this;unfold fL;exact⟨by dsimp only;omega,by dsimp only;omega⟩
 |succ n a=>
  intro l k acc h;cases l with
  |nil=>unfold fL;exact⟨by dsimp only;omega,by dsimp only;omega⟩
  |cons c l=>
   rw [cF]at h⊢;rw [rR];split
   ·exact⟨by dsimp only;omega,by dsimp only;omega⟩
   ·split
    ·split
     ·exact⟨by dsimp only;omega,by dsimp only;omega⟩
     ·split
      ·have d:(l.drop 1).length=l.length-1:=jR;have:=a (l.drop 1) (k+2) (acc++[at_ l 0]) aA0;have b:l≠[]:=by assumption
       have:=dW.2 b;omega
      ·exact⟨by dsimp only;omega,by dsimp only;omega⟩
    ·split
     ·exact⟨by dsimp only;omega,by dsimp only;omega⟩
     ·have:=a l (k+1) (acc++[c]) aA0;omega
theorem OP(s:aA)(k:Nat)(c:k<=s.length):0<=(Lg s (k:Int)).2.1/\(Lg s (k:Int)).2.1<=(s.length:Int):=by
 unfold Lg;split
 ·exact⟨by dsimp only;omega,by dsimp only;omega⟩
 ·split
  ·exact⟨by dsimp only;omega,by dsimp only;omega⟩
  ·rename_i h;have a:¬(k:Int)=(s.length:Int):=fun e=>h (.inl e);have b:(s.drop (aR (k:Int)+1)).length=s.length-(k+1):=by rw [mP,jR]
   have:=ZA _ (s.drop (aR (k:Int)+1)) (aR (k:Int)+1) [] (eJ _);rw [mP]at this b⊢;omega
theorem YX(s:aA)(k:Nat)(c:k<=s.length):0<=(pD s k).2.1/\(pD s k).2.1<=(s.length:Int)+1:=by
 have h1:=qW dR s (k:Int);have a:=HD (fun b=> !(b==93)) (s.drop k);rw [jR]at a;unfold pD;split
 ·have:=OP s k c;omega
 ·split
  ·split
   ·exact⟨by dsimp only;omega,by dsimp only;omega⟩
   ·exact⟨by dsimp only;omega,by dsimp only;omega⟩
  ·split
   ·exact⟨by dsimp only;omega,by dsimp only;omega⟩
   ·exact⟨by dsimp only;omega,by dsimp only;omega⟩
theorem SJ(s:aA)(b:Nat)(a:b<=s.length):0<=(xU s b).2.1/\(xU s b).2.1<=(s.length:Int)+1:=by
 unfold xU;split
 ·exact⟨by dsimp only;omega,by dsimp only;omega⟩
 ·split
  ·exact⟨by dsimp only;omega,by dsimp only;omega⟩
  ·split
   ·exact⟨by dsimp only;omega,by dsimp only;omega⟩
   ·exact YX s _ (qW _ _ _)
theorem FI(s:aA):∀(f:Nat) (l:List PP) (i:Nat),0<=(nE s f l i).2.1/\(nE s f l i).2.1<=(s.length:Int)+1
 |0,_,_=>⟨by unfold nE;decide,by unfold nE;dsimp only;omega⟩
 |f+1,l,i=>by
  have h1:=qW cW s (i:Int);have h2:=qW cW s ((cD cW s (i:Int)+1:Nat):Int);rw [nE];split
  ·exact⟨by dsimp only;omega,by dsimp only;omega⟩
  ·split
   ·exact⟨by dsimp only;omega,by dsimp only;omega⟩
   ·split
    ·split
     ·exact FI s f _ _
     ·exact⟨by dsimp only;omega,by dsimp only;omega⟩
    ·exact SJ s _ h2
theorem B0(s:aA)(a:s.length<=4194304):0<=(jC s).2.1/\(jC s).2.1<=(s.length:Int)+1:=FI s _ _ _
theorem B8(s:aA)(v:s.length<=1024)(u:AA)(n:Nat):∀(i d f:Nat) (b:List aA),s.length-i<=n->n<d->n<f->i<=s.length->b.length<=i->
  ∃j,age FU u d b s (i:Int)=some j/\
   ((tE s f i b).1=0->j=.inl ((tE s f i b).2.2,s,((tE s f i b).2.1:Int)))/\(¬(tE s f i b).1=0->∃a c w,j=.inr (a,(tE s f i b).1,c,w)):=by
 induction n with
 |zero=>
  intro i d f b r t o k q;obtain⟨d,rfl⟩:=cV d;obtain⟨f,rfl⟩:∃m,f=m+1:=⟨f-1,aA0⟩;obtain rfl:i=s.length:=aA0;have l:iB s s.length 60=false:=by unfold iB;rw [aQ aA0];rfl
  have e:cD dR s (s.length:Int)=s.length:=IJ _ _;rw [anr,afy,Zu,aY,l,Cb,aL,rT s aA0 _ (eJ _),aY,e,rU,aC rfl];have g:tE s (f+1) s.length b=(5,0,[]):=by rw [tE,l,aB aA1,aC e]
  rw [g];exact⟨_,rfl,fun h=>absurd h (show¬(5:UInt8)=0 by decide),fun _=>⟨_,_,_,rfl⟩⟩
 |succ n p=>
  intro i d f b r t o k q;obtain⟨d,rfl⟩:=cV d;obtain⟨f,rfl⟩:∃m,f=m+1:=⟨f-1,aA0⟩;have h1:=Sv dR s i k;have h2:=qW dR s (i:Int);have h3:=Sv cW s (cD dR s (i:Int)) h2;rw [anr,afy,Zu,aY];cases l:iB s i 60 with
  |true=>
   have g:tE s (f+1) i b=(0,i,b):=by rw [tE,l,aC rfl]
   rw [g,mI,aH];exact⟨_,rfl,fun _=>rfl,fun h=>absurd rfl h⟩
  |false=>
   rw [Cb,aL,rT s aA0 i k,aY];dsimp only;by_cases e:cD dR s (i:Int)=i
   ·have g:tE s (f+1) i b=(5,0,[]):=by rw [tE,l,aB aA1,aC e]
    rw [aC ((jl s i _ h2 h1).2 e),g];exact⟨_,rfl,fun h=>absurd h (show¬(5:UInt8)=0 by decide),fun _=>⟨_,_,_,rfl⟩⟩
   ·have g:tE s (f+1) i b=tE s f (cD cW s ((cD dR s (i:Int):Nat):Int)) (b++[sub s (i:Int) ((cD dR s (i:Int):Nat):Int)]):=by rw [tE,l,aB aA1,aB e]
    rw [aB (fun h=>e ((jl s i _ h2 h1).1 h)),bA aE3,U4 s aA0,aY,g];exact p _ d f _ aA0 aA0 aA0 (qW _ _ _) aB8
theorem IZ(s:aA)(f:s.length<=1024)(i:Nat)(g:i<=s.length):∃a c w,lu FU (s,(i:Int)) ([],pU,[])=some (a,(tE s (s.length+1) i []).1,c,w)/\
  ((tE s (s.length+1) i []).1=0->c=(s,((tE s (s.length+1) i []).2.1:Int))/\w=(dM (tE s (s.length+1) i []).2.2 [32],pU,[])):=by
 obtain⟨j,e,h1,h2⟩:=B8 s f ([],pU,[]) s.length i FU (s.length+1) [] aA0 aA4 aA0 g (dH _);unfold lu;rw [show(s,(i:Int)).1=s from rfl,show(s,(i:Int)).2=(i:Int)from rfl,e,aY];by_cases d:(tE s (s.length+1) i []).1=0
 ·rw [h1 d,mR];obtain⟨a,b⟩:=Gm s (s.length+1) i [] g (dH _) (fun x hx=>by cases hx);have l:=XV [32] s.length _ b;rw [dX]at l;have k:(tE s (s.length+1) i []).2.2.length*(s.length+1)<=1024*1025:=XF (oA a f) (Nat.succ_le_succ f);dsimp only;rw [bA (by constructor<;>omega),d];exact⟨_,_,_,rfl,fun _=>⟨rfl,rfl⟩⟩
 ·obtain⟨a,c,w,m⟩:=h2 d;rw [m,Lk];exact⟨_,_,_,rfl,fun h=>absurd h d⟩
theorem Y5(s:aA)(z:s.length<=1024)(i:Nat)(p:i<=s.length)(d:aA):∃a c w,wg FU (s,(i:Int)) (d,pU,[])=some (a,(iZ s i).1,c,w)/\((iZ s i).1=0->c=(s,((iZ s i).2.2:Int))/\w=(d,(iZ s i).2.1,[])/\(iZ s i).2.2<=s.length):=by
 have n:∀(b e k:Nat),b<=e->e<=s.length->k<=s.length->k<=1025->∃a c w,(gd (0<=(b:Int)/\(b:Int)<=(e:Int)/\(e:Int)<=(s.length:Int))<|((tx FU (sub s (b:Int) (e:Int))).bind fun(f:UU×Int×UInt8)=>(if f.2.2=(0:UInt8)then some ((0:Int),(0:UInt8),(s,(k:Int)),(d,f.1,([]:List PP)))else(gd (bJ ((b:Int)+f.2.1))<|some ((b:Int)+f.2.1,f.2.2,(s,(i:Int)),(d,pU,([]:List PP)))))))=some (a,(Tk (sub s (b:Int) (e:Int))).1,c,w)/\((Tk (sub s (b:Int) (e:Int))).1=0->c=(s,(k:Int))/\w=(d,(Tk (sub s (b:Int) (e:Int))).2,[])/\k<=s.length):=by
  intro b e k A l u t;obtain⟨a,x,v,y⟩:=RH (sub s (b:Int) (e:Int));have r:=sub_le s (b:Int) (e:Int);rw [bA aA0,y,aY];dsimp only;by_cases o:(Tk (sub s (b:Int) (e:Int))).1=0
  ·rw [aC o,o];exact⟨_,_,_,rfl,fun _=>⟨rfl,rfl,u⟩⟩
  ·rw [aB o,bA (adc _ aA0 aA0)];exact⟨_,_,_,rfl,fun h=>absurd h o⟩
 unfold wg iZ;rw [Zu,aY];dsimp only;cases q:iB s i 60 with
 |true=>
  have m:=(Su q).1;have j:=iK [62] s (i+1);have g:=HA [62] s (i+1) m;rw [aL,aC rfl,bA (adc _ aA0 aA0),Ke,L0 s aA0 (i+1) m _ aA1 aA1,aY];by_cases l:cT [62] s (i+1)=s.length
  ·rw [aC aA0,aC l,aY,Lk];exact⟨_,_,_,rfl,fun h=>absurd h (show¬(5:UInt8)=0 by decide)⟩
  ·rw [aB aA0,aB l,bA (adc _ aA0 aA0),aY,mR];exact n (i+1) (cT [62] s (i+1)) (cT [62] s (i+1)+1) j g aA0 aA0
 |false=>
  have j:=iK [59,32,9] s i;have g:=HA [59,32,9] s i p;rw [aH,aB aA1,L0 s aA0 i p _ aA1 aA1,aY,L0 s aA0 i p _ aA1 aA1,aY];by_cases l:cT [63,44] s i<cT [59,32,9] s i
  ·rw [aC aA0,aC l,aY,Lk];exact⟨_,_,_,rfl,fun h=>absurd h (show¬(5:UInt8)=0 by decide)⟩
  ·rw [aB aA0,aB l,aY,mR];exact n i (cT [59,32,9] s i) (cT [59,32,9] s i) j g g aA0
theorem CH(s:aA):Lib.contains s [60]=hasB s 60:=nO s 60
theorem Qj(s:aA):∃a,aly FU s=some ((jV s).2,a,(jV s).1):=by
 unfold aly jV;by_cases q:1024<s.length
 ·rw [aC aA0,aC q];exact⟨_,rfl⟩
 ·rw [aB aA0,aB q,U4 s aA0,aY];have l:=qW cW s 0;generalize cD cW s 0=b at l⊢;have j:∃a c w,((((Cv FU (s,(b:Int)) (34:UInt8)).bind fun(k:Bool)=>(bif k then((aib FU (s,(b:Int)) (([]:aA),(([]:aA),([]:aA),([]:aA),(0:Int),([]:List PP),([]:List PP)),([]:List PP))).bind fun(f:(Int×UInt8×(aA×Int)×AA))=>some (f.1,f.2.1,f.2.2.1.1,f.2.2.1.2,f.2.2.2.1,f.2.2.2.2.1.1,f.2.2.2.2.1.2.1,f.2.2.2.2.1.2.2.1,f.2.2.2.2.1.2.2.2.1,f.2.2.2.2.1.2.2.2.2.1,f.2.2.2.2.1.2.2.2.2.2,f.2.2.2.2.2))else(gd (s.length<=1000000000)<|(bif (Lib.contains s ([60]:aA))then((lu FU (s,(b:Int)) (([]:aA),(([]:aA),([]:aA),([]:aA),(0:Int),([]:List PP),([]:List PP)),([]:List PP))).bind fun(d:(Int×UInt8×(aA×Int)×AA))=>some (d.1,d.2.1,d.2.2.1.1,d.2.2.1.2,d.2.2.2.1,d.2.2.2.2.1.1,d.2.2.2.2.1.2.1,d.2.2.2.2.1.2.2.1,d.2.2.2.2.1.2.2.2.1,d.2.2.2.2.1.2.2.2.2.1,d.2.2.2.2.1.2.2.2.2.2,d.2.2.2.2.2))else some ((0:Int),(0:UInt8),s,(b:Int),([]:aA),([]:aA),([]:aA),([]:aA),(0:Int),([]:List PP),([]:List PP),([]:List PP))))))):Option (Int×UInt8×aA×Int×aA×aA×aA×aA×Int×(List PP)×(List PP)×(List PP)))
    =some (a,(Aj s b).1,c,w)/\((Aj s b).1=0->c=s/\w=(((Aj s b).2.2:Int),(Aj s b).2.1,[],[],[],0,[],[],[])):=by
   have i:=Yf s b l;rw [Zu,aY];unfold Aj at i⊢;cases r:iB s b 34 with
   |true=>
    rw [r,aC rfl]at i;rw [aL,aC rfl];unfold aib;dsimp only;rw [tS s aA0,aY];by_cases g:(Lg s (b:Int)).2.2=0
    ·rw [aC g]at i;rw [aC g,aC g,U4 s aA0,aY,Zu,aY];cases o:iB s (cD cW s (Lg s (b:Int)).2.1) 60 with
     |true=>rw [mI,aH,aY,aC rfl];exact⟨_,_,_,rfl,fun _=>⟨rfl,rfl⟩⟩
     |false=>rw [Cb,aL,aY,aB aA1];exact⟨_,_,_,rfl,fun h=>absurd h (show¬(5:UInt8)=0 by decide)⟩
    ·rw [aB g,aB g,aY];exact⟨_,_,_,rfl,fun h=>absurd h g⟩
   |false=>
    rw [aH,aB aA1,bA aA0,CH];cases o:hasB s 60 with
    |true=>obtain⟨a,c,w,e,h⟩:=IZ s aA0 b l;rw [aL,aC rfl];have e':lu FU (s,(b:Int)) (([]:aA),(([]:aA),([]:aA),([]:aA),(0:Int),([]:List PP),([]:List PP)),([]:List PP))=some (a,(tE s (s.length+1) b []).1,c,w):=e;rw [e',aY];refine⟨_,_,_,rfl,fun g=> ?_⟩;obtain⟨rfl,rfl⟩:=h g;exact⟨rfl,rfl⟩
    |false=>rw [aH,aB aA1];exact⟨_,_,_,rfl,fun _=>⟨rfl,rfl⟩⟩
  obtain⟨a,c,w,e,h⟩:=j;have i:=Yf s b l;dsimp only;rw [e,aY];dsimp only;generalize Aj s b=D at h i⊢;by_cases g:D.1=0
  ·obtain⟨rfl,rfl⟩:=h g;rw [aC g,aC g];obtain⟨x,v,w2,u,h2⟩:=Y5 c aA0 D.2.2 i D.2.1;have p:wg FU (c,(D.2.2:Int)) (D.2.1,(([]:aA),([]:aA),([]:aA),(0:Int),([]:List PP),([]:List PP)),([]:List PP))=some (x,(iZ c D.2.2).1,v,w2):=u;rw [p,aY,aY];dsimp only;generalize iZ c D.2.2=G at h2⊢;by_cases h1:G.1=0
   ·obtain⟨rfl,rfl,h3⟩:=h2 h1;rw [aC h1,aC h1];dsimp only;obtain⟨t,n⟩:=B0 (c.drop G.2.2) aC6;rw [bA aA0,mP,zE _ aC6,aY,bA (adc _ aA0 (by rw [jR]at n;omega)),aY];dsimp only;by_cases m:(jC (c.drop G.2.2)).2.2=0
    ·rw [aC m,aC m];exact⟨_,rfl⟩
    ·rw [aB m,aB m];exact⟨_,rfl⟩
   ·rw [aB h1,aB h1,aY];dsimp only;rw [aB h1];exact⟨_,rfl⟩
  ·rw [aB g,aB g,aY];dsimp only;rw [aB g,aY];dsimp only;rw [aB g];exact⟨_,rfl⟩
theorem Qb(a:AA)(g:Good a.2.1)(f:xy a.2.1)(o:a.1.length<=4194304)(n:a.2.2.length<20)(q:∀p∈a.2.2,p.1.length<=4194304/\p.2.1.length<=4194304):alx FU a=some (pe a):=by
 have c:∀p∈fV a.2.2,p.1.length<=4194304/\p.2.1.length<=4194304:=fun p m=>q p (lU _ p m);have j:=A6 a.2.1 g f;have l:=Qd (fV a.2.2) c;have k:=pL a.1;unfold alx pe;rw [Fq _ o,aY];cases i:a.1.any gN with
 |true=>
  have e:Vl a.1=([],5):=by unfold Vl;rw [i,aC rfl]
  rw [e,aB (show¬(5:UInt8)=0 by decide),aB (show¬(true=false/\(tY (fV a.2.2)).2=0)from fun h=>absurd h.1 aA1)]
 |false=>
  have e:Vl a.1=(Ko a.1,0):=by unfold Vl;rw [i,aB aA1]
  rw [e,aC rfl,QX _ g f,aY,aC rfl,nS _ n,aY,aza _ c,aY];dsimp only;by_cases d:(tY (fV a.2.2)).2=0
  ·rw [aC d,aC (show false=false/\(tY (fV a.2.2)).2=0 from⟨rfl,d⟩)];unfold yt;by_cases b:a.1=[]
   ·rw [aC b,aC b,bA aE3,bA aA9,bA aA9];simp
   ·have h2:([32,60]:aA).length=2:=rfl;rw [aB b,aB b,bA aA0,bA (by rw [cB];omega),bA aA9,bA aA9];simp
  ·rw [aB d,aB (show¬(false=false/\(tY (fV a.2.2)).2=0)from fun h=>d h.2)]
theorem TT(v:aA)(b:v.length<=4194304):zl FU v=some ((jV (dO v)).2,(jV (dO v)).1):=by obtain⟨a,e⟩:=Qj (dO v);unfold zl;rw [kF v b,aY,e,aY]
open Go.Lib renaming indexAny → yL
theorem wL(s:aA)(d:s.length<=4194304):uo FU s=some (Bv s):=by
 have a:yL s [32,9]=dJ cW s:=by rw [jn,Ah]
 unfold uo Bv;rw [bA ⟨aA0,aA1,aA1⟩,a];have e:(if dJ cW s<(0:Int)then some (s.length:Int)else some (dJ cW s))=some ((eR (fun c=> !cW c) s:Nat):Int):=by
  rcases K9 cW s with⟨h1,h2⟩|⟨h1,h2,h3⟩
  ·rw [aC aA0,h2]
  ·rw [aB aA0,h3]
 have b:=HD (fun c=> !cW c) s;have f:=qW cW s ((eR (fun c=> !cW c) s:Nat):Int);rw [e,aY,bA aA0,mP,sB,aY,sJ s d,aY,bA aA0,mP]
theorem sA(s:aA):(Bv s).2.1.length<=s.length:=by unfold Bv;rw [jR];omega
theorem Yl(v:aA)(a:v.length<=4194304):tr FU v=some (iE v):=by
 have b:=MN v;have c:=sA (dO v);unfold tr iE;rw [kF v a,aY,wL _ aA0,aY];by_cases h:(Bv (dO v)).2.2=0
 ·rw [aC h,aC h,U3 _ aA0,aY];cases d:mJ (Bv (dO v)).2.1 with
  |true=>rw [mI,aH,aC rfl]
  |false=>rw [Cb,aL,aB aA1]
 ·rw [aB h,aB h]
theorem QN(v:aA)(a:v.length<=4194304):zc FU v=some (kH v):=by
 have b:=MN v;have c:=sA (dO v);unfold zc kH;rw [kF v a,aY,wL _ aA0,aY];by_cases h:(Bv (dO v)).2.2=0
 ·rw [aC h,aC h,Yl _ aA0,aY];by_cases h2:(iE (Bv (dO v)).2.1).2.2=0
  ·rw [aC h2,aC h2]
  ·rw [aB h2,aB h2]
 ·rw [aB h,aB h]
theorem TM(v:aA)(a:v.length<=4194304):zf FU v=some (hK (dO v)):=by unfold zf;rw [kF v a,aY,sB,aY]
open List renaming length → aS, set → eA
def gW(c:aA):Int:=(U8 FU c).getD 0
theorem E1:∀x∈Kd,U8 FU x.1=some (gW x.1):=aA3
theorem E2(c:aA):U8 FU c=some (gW c):=by
 by_cases h:∃x∈Kd,x.1=c
 ·obtain⟨x,hx,rfl⟩:=h;exact E1 x hx
 ·have a:∀x∈Kd,x.1≠c:=fun x hx e=>h ⟨x,hx,e⟩;have:=Wu c a;unfold gW;rw [this];rfl
theorem Oy(n:Nat):∀l:List PP,gS n l->Ki l<=aS l*(2*n)
 |[],_=>dH _
 |p::l,h=>by have h1:=h p iH;have h2:=Oy n l (fun q a=>h q (fU _ a));rw [lA,cF,gY];omega
theorem Mc(n:Nat):∀l:List PP,gS n l->(oF l).length<=aS l*(6*n+2)
 |[],_=>dH _
 |p::l,h=>by
  have h1:=h p iH;have h2:=Mc n l (fun q a=>h q (fU _ a));have e:=Zt 1 p.1;have d:=Zt 1 p.2.1;have b:oF (p::l)=59::(Qk p++oF l):=by unfold oF;rw [tN];rfl
  have c:(Qk p).length<=6*n+1:=by
   unfold Qk;rw [cB];cases p.2.2 with
   |true=>rw [aL,cF];omega
   |false=>rw [aH,iO];omega
  rw [b,cF,cB,cF,gY];omega
theorem Xj(n:Nat):∀l:List PP,gS n l->(qG l).length<=aS l*(6*n+2)
 |[],_=>dH _
 |p::l,h=>by
  have h1:=h p iH;have h2:=Xj n l (fun q a=>h q (fU _ a));have e:=Zt 2 p.1;have d:=Zt 2 p.2.1;have b:qG (p::l)=38::(Cn p++qG l):=by unfold qG;rw [tN];rfl
  have c:(Cn p).length<=6*n+1:=by unfold Cn;rw [cB,cF];omega
  rw [b,cF,cB,cF,gY];omega
theorem JY(n:Nat)(l:List PP)(h:gS n l):(BM l).length<=aS l*(6*n+2):=by
 have:=Xj n l h;cases l with
 |nil=>exact dH _
 |cons p l=>
  have a:qG (p::l)=38::(Cn p++qG l):=by unfold qG;rw [tN];rfl
  rw [a]at this;unfold BM;exact this
theorem QY(n:Nat)(u:UU)(b:Good u)(h:pE n u):(ag u).length<=197*n+80:=by
 obtain⟨i,g,f,d,c⟩:=h;have m:=Mc n _ d;have l:=JY n _ c;have e:=Zt 0 u.2.1;have a:0<=u.2.2.2.1/\u.2.2.2.1<=65535:=by
  rcases b.sch with⟨_,_,h1,h2,_⟩|⟨_,_,h,_⟩
  ·exact⟨h1,h2⟩
  ·omega
 have hit:=lS u.2.2.2.1 a.1 a.2;have k:aS u.2.2.2.2.1*(6*n+2)<=16*(6*n+2):=MV _ b.pl;have j:aS u.2.2.2.2.2*(6*n+2)<=16*(6*n+2):=MV _ b.hl;have h1:(ON u).length<=3*n+1:=by
  unfold ON;split
  ·omega
  ·split
   ·exact dH _
   ·rw [cB,dX];omega
 have h2:(QW u.2.2.2.1).length<=6:=by
  unfold QW;split
  ·exact dH _
  ·rw [cF];omega
 unfold ag;simp only [cB,cF];omega
theorem Fz(s:aA):pE (aS s+252) (Tk s).2:=by
 unfold Tk;split
 ·exact Tl _
 ·have c:(dS (s.take (cT [58] s 0))).length<=aS s:=by unfold dS;rw [Dj,eI];omega
  have b:=FG s (cT [58] s 0+1);have a:=Ug s (cT [58] s 0+1);split
  ·split
   ·split
    ·exact vV _ _ s _ _ _ _ _ aA0 aA0 aA0 aA0
    ·exact Tl _
   ·split
    ·split
     ·exact vV _ _ s _ _ _ _ _ aA0 aA0 (dH _) aA0
     ·exact Tl _
    ·exact Tl _
  ·exact Tl _
theorem pE.mono{n m:Nat}{u:UU}(h:pE n u)(a:n<=m):pE m u:=
 ⟨oA h.1 a,oA h.2.1 a,oA h.2.2.1 a,fun p b=>⟨oA (h.2.2.2.1 p b).1 a,oA (h.2.2.2.1 p b).2 a⟩,fun p b=>⟨oA (h.2.2.2.2 p b).1 a,oA (h.2.2.2.2 p b).2 a⟩⟩
theorem Gk(s:aA):∀(f i:Nat) (a:List aA),i<=aS s->(dM a [32]).length<=2*i->(dM (tE s f i a).2.2 [32]).length<=2*aS s
 |0,_,_,_,_=>dH _
 |f+1,i,a,d,e=>by
  have h1:=Sv dR s i d;have h2:=qW dR s (i:Int);have h3:=Sv cW s (cD dR s (i:Int)) h2;rw [tE];split
  ·dsimp only;omega
  ·split
   ·exact dH _
   ·rename_i c;have b:(sub s (i:Int) ((cD dR s (i:Int):Nat):Int)).length=cD dR s (i:Int)-i:=by rw [CQ];omega
    refine Gk s f _ _ (qW _ _ _) ?_;rw [Wx];split
    ·omega
    ·rw [cB,cB,dX];omega
theorem KT(s:aA)(i:Nat)(a:i<=aS s):(Aj s i).2.1.length<=2*aS s:=by
 unfold Aj;split
 ·rename_i h;have:=vL s i (Su h).2 (Su h).1;split
  ·split
   ·dsimp only;omega
   ·exact dH _
  ·exact dH _
 ·split
  ·exact Gk s (aS s+1) i [] a (dH _)
  ·exact dH _
theorem WX(s:aA):pE (aS s+252) (jV s).2.2.1/\(jV s).2.1.length<=2*aS s/\gS (aS s+252) (jV s).2.2.2:=by
 have a:pE (aS s+252) Kq.2.1/\Kq.1.length<=2*aS s/\gS (aS s+252) Kq.2.2:=⟨Tl _,dH _,fun p b=>by cases b⟩;unfold jV;split
 ·exact a
 ·rename_i c;split
  ·split
   ·split
    ·refine⟨?_,KT s _ (qW _ _ _), ?_⟩
     ·show pE (aS s+252) (iZ s (Aj s (cD cW s 0)).2.2).2.1;generalize(Aj s (cD cW s 0)).2.2=j;unfold iZ;split
      ·split
       ·exact Tl _
       ·exact(Fz _).mono (by have:=sub_le s ((j+1:Nat):Int) (cT [62] s (j+1):Int);omega)
      ·split
       ·exact Tl _
       ·exact(Fz _).mono (by have:=sub_le s (j:Int) (cT [59,32,9] s j:Int);omega)
     ·intro p b;dsimp only at b;have d:(s.drop (iZ s (Aj s (cD cW s 0)).2.2).2.2).length<=aS s:=by rw [jR];omega
      have h1:=jh _ aA0 p b;have h2:=wF _ p b;exact⟨aA0,aA0⟩
    ·exact a
   ·exact a
  ·exact a
theorem A7(n:Nat)(a:AA)(b:Good a.2.1)(h1:pE n a.2.1)(h2:aS a.1<=2*n)(h3:gS n a.2.2)(c:aS a.2.2<=16):(pe a).1.length<=265*n+200:=by
 have j:=QY n a.2.1 b h1;have i:=pL a.1;have h:=Fw (fV a.2.2);have g:=Eu (L5 a.2.2);have f:=Oy n a.2.2 h3;have e:aS a.2.2*(2*n)<=16*(2*n):=MV _ c;have d:(yt a.1).length<=4*n+3:=by
  unfold yt;split
  ·exact dH _
  ·rw [cB,dX];omega
 unfold pe;split
 ·simp only [cB,cF];omega
 ·exact dH _
theorem OK(v:aA)(m:aS v<=4194304):(tQ v).1.1.length<=aS v/\(tQ v).1.2.1.length<=aS v+252/\(tQ v).1.2.2.2.1.length<=aS v+252/\gS (aS v+252) (tQ v).1.2.2.2.2:=by
 have d:aS tO.1<=aS v/\tO.2.1.length<=aS v+252/\tO.2.2.2.1.length<=aS v+252/\gS (aS v+252) tO.2.2.2.2:=⟨dH _,dH _,dH _,fun p f=>by cases f⟩
 have n:=MN v;have k:∀(e h:aA) (c:Int) (rest:aA),aS e<=aS v->aS h<=aS v+252->aS rest<=aS v->(Ek e h c rest).1.1.length<=aS v/\(Ek e h c rest).1.2.1.length<=aS v+252/\(Ek e h c rest).1.2.2.2.1.length<=aS v+252/\gS (aS v+252) (Ek e h c rest).1.2.2.2.2:=by
  intro e h c rest h1 h2 h3;have i:gS (aS v+252) (jC rest).1:=fun p f=>by have a:=jh rest aA0 p f;have b:=wF rest p f;exact⟨aA0,aA0⟩
  unfold Ek;split
  ·refine⟨h1,h2, ?_,i⟩;dsimp only;unfold Kv;split
   ·rename_i p f;exact(i p (List.mem_of_find?_eq_some f)).2
   ·exact dH _
  ·exact d
 unfold tQ;split
 ·exact d
 ·split
  ·exact d
  ·split
   ·exact d
   ·split
    ·exact d
    ·have g:(Yz (sub (dO v) 8 (cD dR (dO v) 8:Int))).length<=aS v:=by have:=sub_le (dO v) 8 (cD dR (dO v) 8:Int);rw [tR];omega
     have l:∀P rest:aA,aS P<=aS v->aS rest<=aS v->(Uc (Yz (sub (dO v) 8 (cD dR (dO v) 8:Int))) P rest).1.1.length<=aS v/\(Uc (Yz (sub (dO v) 8 (cD dR (dO v) 8:Int))) P rest).1.2.1.length<=aS v+252/\(Uc (Yz (sub (dO v) 8 (cD dR (dO v) 8:Int))) P rest).1.2.2.2.1.length<=aS v+252/\gS (aS v+252) (Uc (Yz (sub (dO v) 8 (cD dR (dO v) 8:Int))) P rest).1.2.2.2.2:=by
      intro P rest r j;have o:=sG (nN P).1;have q:=(Yi P).1;unfold Uc;split
      ·exact d
      ·split
       ·split
        ·exact k _ _ _ _ g aA0 j
        ·exact d
       ·exact k _ _ _ _ g aA0 j
     refine l _ _ ?_ ?_
     ·rw [eI,jR];omega
     ·rw [jR,jR];omega
theorem FY(v:aA)(d:aS v<=4194304):(lT v).1.1.length<=aS v/\gS (aS v+252) (lT v).1.2:=by
 have e:=MN v;unfold lT;split
 ·exact⟨dH _,fun p c=>by cases c⟩
 ·split
  ·refine⟨by dsimp only;rw [eI];omega,fun p c=> ?_⟩;have f:((dO v).drop (Hi (dO v))).length<=aS v:=aC6;have a:=jh _ aA0 p c;have b:=wF _ p c;exact⟨aA0,aA0⟩
  ·exact⟨dH _,fun p c=>by cases c⟩
theorem fs(n:Int)(a:0<=n)(h:n<=2147483647):(gF n).length<=10:=(SX n a h).2.2.1
theorem Im(v:aA):0<=(iE v).1/\(iE v).1<=2147483647/\(iE v).2.1.length<=aS v:=by
 have a:=FK (dO v);have c:=sA (dO v);have b:=MN v;unfold iE;split
 ·split
  ·exact⟨a.1,a.2,by dsimp only;omega⟩
  ·exact⟨oP 0,(show(0:Int)<=2147483647 by decide),dH _⟩
 ·exact⟨oP 0,(show(0:Int)<=2147483647 by decide),dH _⟩
theorem Vk(v:aA):(0<=(kH v).1/\(kH v).1<=2147483647)/\(0<=(kH v).2.1/\(kH v).2.1<=2147483647)/\(kH v).2.2.1.length<=aS v:=by
 have b:=FK (dO v);have a:=Im (Bv (dO v)).2.1;have c:=sA (dO v);have d:=MN v;unfold kH;generalize iE (Bv (dO v)).2.1=C at a⊢;generalize Bv (dO v)=D at b c a⊢;split
 ·split
  ·exact⟨b,⟨a.1,a.2.1⟩,by dsimp only;omega⟩
  ·exact⟨⟨oP 0,(show(0:Int)<=2147483647 by decide)⟩,⟨oP 0,(show(0:Int)<=2147483647 by decide)⟩,dH _⟩
 ·exact⟨⟨oP 0,(show(0:Int)<=2147483647 by decide)⟩,⟨oP 0,(show(0:Int)<=2147483647 by decide)⟩,dH _⟩
theorem ZF(k:Int)(ct:Bool)(v:aA)(r:aS v<=4194000):(EA k ct v).1.length<=265*aS v+80000:=by
 have s:=MN v;have z:∀e:UInt8,(([]:aA),e).1.length<=265*aS v+80000:=fun e=>dH _;unfold EA;split
 ·split
  ·show 1<=_;omega
  ·split
   ·rename_i j;obtain⟨m,l,_⟩:=Ze _ j;obtain⟨p,u,o⟩:=WX (dO v);have:=A7 ((dO v).length+252) _ m p aA0 o l;omega
   ·exact z _
 ·split
  ·split
   ·obtain⟨v1,h,q,v4⟩:=OK v aA0;have a:=IY (tQ v).1;have b:=Oy _ _ v4;have c:=Ub v;have d:(tQ v).1.2.2.2.2.length*(2*(aS v+252))<=16*(2*(aS v+252)):=MV _ c;omega
   ·exact z _
  ·split
   ·split
    ·obtain⟨g,f,i⟩:=Im v;have:=fs _ g f;simp only [cB,cF];omega
    ·exact z _
   ·split
    ·split
     ·obtain⟨⟨g,f⟩,⟨i,n⟩,t⟩:=Vk v;have:=fs _ g f;have:=fs _ i n;simp only [cB,cF];omega
     ·exact z _
    ·split
     ·split
      ·obtain⟨g,f⟩:=Qp (dO v);have:=fs _ g f;dsimp only;omega
      ·exact z _
     ·split
      ·split
       ·obtain⟨v1,h⟩:=FY v aA0;have a:=AW (lT v).1;have b:=Oy _ _ h;have c:=Nc v;have d:(lT v).1.2.length*(2*(aS v+252))<=16*(2*(aS v+252)):=MV _ c;omega
       ·exact z _
      ·split
       ·exact z _
       ·dsimp only;omega
def Uj(l:List aA):Nat:=(l.map aS).sum
theorem fv(x:aA)(l:List aA):Uj (x::l)=aS x+Uj l:=rfl
theorem Ww:∀(l:List aA),(dM l [44,32]).length<=Uj l+2*aS l
 |[]=>dH _
 |[a]=>by rw [yo,fv];omega
 |a::b::l=>by have:=Ww (b::l);rw [yn,fv];simp only [cB,cF,iO]at this⊢;omega
theorem EB(k:Int)(ct:Bool):∀l:List aA,(∀x∈l,aS x<=4194000)->Uj (Ox k ct l).1<=265*Uj l+80000*aS l
 |[],_=>dH _
 |x::l,h=>by
  have h1:=ZF k ct x (h x iH);have h2:=EB k ct l (fun y a=>h y (fU _ a));rw [Ox,fv,cF];split
  ·split
   ·rw [fv];omega
   ·exact dH _
  ·exact dH _
theorem jA:∀(s:aA) (m:Nat) (a:aA) (l:List aA),gD m a s=.inl l->Uj l<=aS a+aS s/\l.length<=aS s+1
 |[],0,a,l,h=>by rw [s0n]at h;have:=Sum.inl.inj h;subst this;have:=MN a;exact⟨by rw [fv];show _+0<=_;omega,aA2⟩
 |[],m+1,a,l,h=>by cases h
 |c::s,0,a,l,h=>by
  have b:(a++[c]).length=aS a+1:=aA2;rw [yh]at h;rw [cF];split at h
  ·have:=jA s _ _ l h;omega
  ·split at h
   ·have:=jA s _ _ l h;omega
   ·split at h
    ·cases h
    ·split at h
     ·obtain⟨m,h1,rfl⟩:=KZ h;have:=jA s _ _ m h1;have:=MN a;rw [fv,cF];simp only [iO]at*;omega
     ·have:=jA s _ _ l h;omega
 |c::s,1,a,l,h=>by
  have b:(a++[c]).length=aS a+1:=aA2;rw [oo]at h;rw [cF];split at h
  ·have:=jA s _ _ l h;omega
  ·split at h
   ·have:=jA s _ _ l h;omega
   ·split at h
    ·cases h
    ·have:=jA s _ _ l h;omega
 |c::s,2,a,l,h=>by
  have b:(a++[c]).length=aS a+1:=aA2;rw [s2c]at h;rw [cF];split at h
  ·have:=jA s _ _ l h;omega
  ·cases h
 |c::s,m+3,a,l,h=>by
  have b:(a++[c]).length=aS a+1:=aA2;rw [s3c]at h;rw [cF];split at h
  ·have:=jA s _ _ l h;omega
  ·have:=jA s _ _ l h;omega
theorem RZ(v:aA):Uj (nG v).1<=aS v/\(nG v).1.length<=aS v+1:=by
 unfold nG;cases a:gD 0 [] v with
 |inr e=>exact⟨dH _,dH _⟩
 |inl l=>
  have:=jA v 0 [] l a;dsimp only;split
  ·exact⟨dH _,dH _⟩
  ·dsimp only;simp only [iO]at this;omega
theorem Ui:∀(l:List aA),∀x∈l,aS x<=Uj l
 |[],x,hx=>by cases hx
 |a::l,x,hx=>by
  rw [fv];rcases aN.1 hx with h|h
  ·rw [h];omega
  ·have:=Ui l x h;omega
def yd:aA:=[67,111,110,116,97,99,116]
def Yk(c:aA):Bool:=decide (c=yd)
theorem Uf(c v:aA)(C:aS v<=4190000):tu FU c v=some (EA (gW c) (Yk c) v):=by
 unfold tu EA;rw [E2,aY];generalize gW c=k;by_cases m:k=1
 ·rw [aC m,aC m];have e:(if c=([67,111,110,116,97,99,116]:aA)then((MP FU v).bind fun(d:aA)=>some (decide (d=([42]:aA))))else some false)=some (decide (Yk c=true/\dO v=[42])):=by
   unfold Yk;by_cases o:c=yd
   ·rw [aC (show c=([67,111,110,116,97,99,116]:aA)from o),kF v aA0,aY,aO o];congr 1;rw [dT];exact⟨fun h=>⟨rfl,h⟩,fun h=>h.2⟩
   ·rw [aB (show¬c=([67,111,110,116,97,99,116]:aA)from o),aQ o,aQ (fun h=>absurd h.1 aA1)]
  rw [e,aY];by_cases n:Yk c=true/\dO v=[42]
  ·rw [aO n,aL,aC n]
  ·rw [aQ n,aH,aB n,TT v aA0,aY];dsimp only;by_cases a:(jV (dO v)).1=0
   ·obtain⟨x,G,F⟩:=Ze _ a;obtain⟨A,I,z⟩:=M3 (dO v);rw [aC a,aC a,Qb _ x (A.sml aA1) aA0 aA0 (fun p f=>by have:=z p f;omega),aY]
   ·rw [aB a,aB a]
 ·rw [aB m,aB m];by_cases l:k=2
  ·rw [aC l,aC l,X7 v aA0,aY];by_cases a:(tQ v).2=0
   ·obtain⟨v1,s,B,v4⟩:=OK v aA0;have u:=Ub v;rw [aC a,aC a,Vm _ aA0 aA0 aA0 (fun p f=>by have:=v4 p f;omega) aA0,aY]
   ·rw [aB a,aB a]
  ·rw [aB l,aB l];by_cases j:k=3
   ·obtain⟨r,q,t⟩:=Im v;have w:=fs _ r q;rw [aC j,aC j,Yl v aA0,aY];by_cases a:(iE v).2.2=0
    ·rw [aC a,aC a,bA (adc _ aA0 aA0),bA aE3,bA aB8,iI];rfl
    ·rw [aB a,aB a]
   ·rw [aB j,aB j];by_cases i:k=4
    ·obtain⟨⟨r,q⟩,⟨t,y⟩,H⟩:=Vk v;have w:=fs _ r q;have E:=fs _ t y;rw [aC i,aC i,QN v aA0,aY];by_cases a:(kH v).2.2.2=0
     ·rw [aC a,aC a,bA (adc _ aA0 aA0),bA aE3,bA (adc _ aA0 aA0),bA aB8,bA aA9,bA aA9];simp
     ·rw [aB a,aB a]
    ·rw [aB i,aB i];by_cases g:k=5
     ·obtain⟨r,q⟩:=Qp (dO v);rw [aC g,aC g,TM v aA0,aY];by_cases a:(hK (dO v)).2=0
      ·rw [aC a,aC a,bA (adc _ aA0 aA0)]
      ·rw [aB a,aB a]
     ·rw [aB g,aB g];have e:(if k=(6:Int)then some (decide (k=(6:Int)))else some (decide (k=(7:Int))))=some (decide (k=6\/k=7)):=by
       by_cases b:k=6
       ·rw [aC b,aO b,aO (.inl b)]
       ·rw [aB b];congr 1;rw [dT];exact⟨.inr,fun h=>h.resolve_left b⟩
      rw [e,aY];by_cases b:k=6\/k=7
      ·rw [aO b,aL,aC b,E7 v aA0,aY];by_cases a:(lT v).2=0
       ·obtain⟨v1,s⟩:=FY v aA0;have u:=Nc v;rw [aC a,aC a,Qa _ aA0 aA0 (fun p f=>by have:=s p f;omega),aY]
       ·rw [aB a,aB a]
      ·have D:=MN v;rw [aQ b,aH,aB b,kF v aA0,aY,Fq _ aA0,aY];unfold Vl;by_cases a:(dO v).any gN=true
       ·rw [aC a,aC a];rfl
       ·rw [aB a,aB a,aC rfl]
theorem ZD(a:aA×UInt8)(d:List aA×UInt8)(m:aS d.1<=4194304)(r:List aA):∀(P:List aA) (c:Nat),aS P+aS r=aS d.1->aS r<c->(∀x∈r,aS x<=4190000)->
  um FU a d c (P++r) (aS P:Int)=some (if(Ox (gW a.1) (Yk a.1) r).2=0 then .inl (P++(Ox (gW a.1) (Yk a.1) r).1)else .inr ([],(Ox (gW a.1) (Yk a.1) r).2)):=by
 induction r with
 |nil=>intro P c h g hx;obtain⟨c,rfl⟩:=cV c;rw [iO]at h;rw [ayf,ara,aB aA0];rfl
 |cons x r i=>
  intro P c h g hx;obtain⟨c,rfl⟩:=cV c;rw [cF]at h g;have f:(P++x::r).length=aS P+(aS r+1):=by rw [cB,cF]
  have b:0<=(aS P:Int)/\(aS P:Int)<((P++x::r).length:Int):=aA0;have l:el (P++x::r) (aS P:Int)=x:=by simp [el]
  rw [ayf,ara,aC aA0,bA b,bA b,l,Uf _ x (hx x iH),aY,bA b,bA b,Ox];by_cases e:(EA (gW a.1) (Yk a.1) x).2=0
  ·have k:eA (P++x::r) (aR (aS P:Int)) (EA (gW a.1) (Yk a.1) x).1=(P++[(EA (gW a.1) (Yk a.1) x).1])++r:=by rw [mP,V6 _ _ (eJ _),Dd,Js];simp
   have:=i (P++[(EA (gW a.1) (Yk a.1) x).1]) c aB8 aA0 (fun y j=>hx y (fU _ j));rw [show((P++[(EA (gW a.1) (Yk a.1) x).1]).length:Int)=(aS P:Int)+1 by rw [cB,dX];rfl]at this;rw [aC e,aC e,bA (adc _ aA0 aA0),k,this];by_cases h1:(Ox (gW a.1) (Yk a.1) r).2=0
   ·rw [aC h1,aC h1,aC rfl,iI];rfl
   ·rw [aB h1,aB h1,aB h1]
  ·rw [aB e,aB e,aB e]
def Ue(nm v:aA):aA×UInt8:=if(jN nm).2=0 then P4 (Wc (jN nm).1) (gW (jN nm).1) (Yk (jN nm).1) v else([],5)
theorem TS(nm v:aA)(g:aS nm<=4194304)(e:aS v<=1100000):tt FU nm v=some (Ue nm v):=by
 unfold tt Ue;rw [Yq nm aA0,aY];by_cases b:(jN nm).2=0
 ·rw [aC b,aC b,C0,aY];unfold P4;cases i:Wc (jN nm).1 with
  |false=>rw [Cb,aL,Uf _ v aA0,aY,aB aA1]
  |true=>
   obtain⟨d,c⟩:=RZ v;have hx:∀x∈(nG v).1,aS x<=4190000:=fun x hx=>by have:=Ui _ x hx;omega
   have:=ZD (jN nm) (nG v) aA0 (nG v).1 [] FU aA2 aA4 hx;have a:um FU (jN nm) (nG v) FU (nG v).1 (0:Int)=_:=this;have f:=EB (gW (jN nm).1) (Yk (jN nm).1) (nG v).1 (fun x h=>by have:=hx x h;omega);rw [mI,aH,SI v aA0,aY,aC rfl];by_cases h1:(nG v).2=0
   ·rw [aC h1,aC h1,a,aY];by_cases h2:(Ox (gW (jN nm).1) (Yk (jN nm).1) (nG v).1).2=0
    ·have j:=ED _ _ _ h2;have k:=Ww (Ox (gW (jN nm).1) (Yk (jN nm).1) (nG v).1).1;rw [aC h2,aC h2,mR,Ka,bA (by constructor<;>omega)]
    ·rw [aB h2,aB h2,Lk]
   ·rw [aB h1,aB h1]
 ·rw [aB b,aB b]
open Go.Lib renaming index → bR
open List renaming length → aS, replicate → hC, set → eA, take → kO
theorem pz(nm v:aA)(a:aS nm<=4194304):∃r,ld FU nm v=some r/\(r.2=0->r.1.1=nm/\r.1.2.length<=1024):=by
 unfold ld;by_cases h:(1024:Int)<(aS v:Int)
 ·rw [aC h];exact⟨_,rfl,fun h=>absurd h aA1⟩
 ·rw [aB h,TS nm v a aA0,aY];by_cases h2:(Ue nm v).2=0
  ·rw [aC h2];by_cases h3:(1024:Int)<((Ue nm v).1.length:Int)
   ·rw [aC h3];exact⟨_,rfl,fun h=>absurd h aA1⟩
   ·rw [aB h3];exact⟨_,rfl,fun _=>⟨rfl,by show(Ue nm v).1.length<=1024;omega⟩⟩
  ·rw [aB h2];exact⟨_,rfl,fun h=>absurd h h2⟩
abbrev PT:=List (aA×aA)×List UInt8
def pn(h:aA×aA):Prop:=aS h.1<=64/\h.2.length<=1024
theorem Y7(g:∀s:aA,(jN s).2=0->(jN s).1.length<=64)(d:PT)(E:aS d.1<=64)(u:∀h∈d.1,aS h.1<=4194304)(q:List (aA×aA)):∀(p:List (aA×aA)) (b:Nat) (acc:List (aA×aA)),d.1=p++q->aS q<b->aS acc<=aS p->(∀h∈acc,pn h)->
  ∃j,kx FU d b (aS p:Int) acc=some j/\(∀l,j=.inl l->aS l<=64/\∀h∈l,pn h)/\∀r,j=.inr r->r.2=false:=by
 induction q with
 |nil=>
  intro p b acc h n y k;obtain⟨b,rfl⟩:=cV b;have c:=bP aS h;simp only [cB,iO]at c;refine⟨.inl acc, ?_,fun l f=> ?_,fun r e=>by cases e⟩
  ·rw [arp,vk,aB aA8]
  ·cases f;exact⟨aA0,k⟩
 |cons a q o=>
  intro p b acc h n y k;obtain⟨b,rfl⟩:=cV b;have c:=bP aS h;simp only [cB,cF]at c n;have m:(0:Int)<=(aS p:Int)/\(aS p:Int)<(aS d.1:Int):=aA0;have w:el d.1 (aS p:Int)=a:=aB5;have v:((aS p:Int)+1)=((p++[a]).length:Int):=aA2;have t:=u a aA8;rw [arp,vk,aC m.2,bA m,bA m,w,Yq _ aA0,aY];by_cases i:(jN a.1).2=0
  ·obtain⟨r,h1,h2⟩:=pz (jN a.1).1 a.2 (by have:=g _ i;omega);rw [aC i,h1,aY];by_cases h3:r.2=0
   ·obtain⟨D,C⟩:=h2 h3;obtain⟨j,B,A,z⟩:=o (p++[a]) b (acc++[r.1]) aA8 aA0 aA6 (by
     intro x hx;rcases aU.1 hx with hx|hx
     ·exact k x hx
     ·rw [aE.1 hx];exact⟨by rw [D];exact g _ i,C⟩)
    rw [aC h3,bA aA6,bA (adc _ aA0 aA0),v,B];exact⟨j,rfl,A,z⟩
   ·rw [aB h3];exact⟨_,rfl,fun l f=>(by cases f),fun r e=>(by cases e;rfl)⟩
  ·rw [aB i];exact⟨_,rfl,fun l f=>(by cases f),fun r e=>(by cases e;rfl)⟩
theorem nr(b:∀s:aA,(jN s).2=0->(jN s).1.length<=64)(a:PT)(d:∀h∈a.1,aS h.1<=4194304)(f:aS a.2<=1000000):
  ∃r,ua FU a=some r/\(r.2=true->r.1.2=a.2/\r.1.1.length<=64/\∀h∈r.1.1,pn h):=by
 unfold ua;by_cases h:(64:Int)<(aS a.1:Int)
 ·rw [aC h];exact⟨_,rfl,fun h=>absurd h aA1⟩
 ·obtain⟨j,h1,h2,h3⟩:=Y7 b a aA0 d a.1 [] FU [] rfl aA4 aA2 (fun h e=>by cases e);have c:kx FU a FU (0:Int) []=some j:=h1;rw [aB h,bA aA0,c,aY];cases j with
  |inl l=>exact⟨_,rfl,fun _=>⟨rfl,(h2 l rfl).1,(h2 l rfl).2⟩⟩
  |inr r=>exact⟨r,rfl,fun h=>by rw [h3 r rfl]at h;cases h⟩
def okP(x:PT):Prop:=aS x.1<=64/\∀h∈x.1,pn h
theorem bu(n:∀s:aA,(jN s).2=0->(jN s).1.length<=64)(parts:PL)(E:aS parts<=8)(y:∀x∈parts,(∀h∈x.1,aS h.1<=4194304)/\x.2.length<=1000000)(q:PL):∀(p b:PL) (c:Nat),parts=p++q->aS q<c->aS b=aS p->b.map (·.2)=p.map (·.2)->(∀x∈b,okP x)->
  ∃j,ke FU parts c (b++hC q.length ([],[])) (aS p:Int)=some j/\(∀l,j=.inl l->l.map (·.2)=parts.map (·.2)/\∀x∈l,okP x)/\∀r,j=.inr r->r.2=2:=by
 induction q with
 |nil=>
  intro p b c h u e i m;obtain⟨c,rfl⟩:=cV c;refine⟨.inl b, ?_,fun l h2=> ?_,fun r g=>by cases g⟩
  ·rw [atp,uv,aB aA8];simp
  ·cases h2;rw [h,kP];exact⟨i,m⟩
 |cons a q w=>
  intro p b c h u e i m;obtain⟨c,rfl⟩:=cV c;have k:=bP aS h;simp only [cB,cF]at k u;have o:(0:Int)<=(aS p:Int)/\(aS p:Int)<(aS parts:Int):=aA0;have A:el parts (aS p:Int)=a:=aB5;have z:((aS p:Int)+1)=((p++[a]).length:Int):=aA2;have v:=y a aA8;obtain⟨r,h1,h2⟩:=nr n a v.1 v.2;rw [atp,uv,aC o.2,bA o,bA o,A,h1,aY];by_cases h3:r.2=true
  ·obtain⟨D,C,B⟩:=h2 h3;have f:(0:Int)<=(aS p:Int)/\(aS p:Int)<((b++hC (a::q).length (([],[]):PT)).length:Int):=by simp;omega
   have d:eA (b++hC (a::q).length (([],[]):PT)) (aR (aS p:Int)) r.1=(b++[r.1])++hC q.length ([],[]):=by rw [mP,<-e,V6 _ _ (eJ _),Dd,cF,List.replicate_succ];simp
   rw [h3];show∃j,gd _ (gd _ (gd _ _))=some j/\_;rw [bA f,bA f,bA (adc _ aA0 aA0),d,z];refine w (p++[a]) (b++[r.1]) c aA8 aA0 (by simp [e]) ?_ ?_
   ·rw [Om,Om,i,N2,N2,D]
   ·intro x hx;rcases aU.1 hx with hx|hx
    ·exact m x hx
    ·rw [aE.1 hx];exact⟨C,B⟩
  ·have t:r.2=false:=by simpa using h3
   rw [t];exact⟨_,rfl,fun l e=>(by cases e),fun r g=>(by cases g;rfl)⟩
theorem cu(s p:aA)(h:∀u rest,s≠u++(p++rest)):uj FU s p=some false:=by
 unfold uj;by_cases b:(aS p:Int)<=(aS s:Int)
 ·have a:¬kO (aR (aS p:Int)) s=p:=by intro c;have:=LZ (aR (aS p:Int)) s;rw [c]at this;exact h [] _ this.symm
  rw [aC b,bA aA0];unfold yz;rw [aQ a];rfl
 ·rw [aB b];rfl
theorem ew(s p:aA)(e:aS s<=1000000)(b:2<=aS p)(f:aS p<=1000)(h:∀u rest,s≠u++(p++rest)):ud FU s p=some false:=by
 unfold ud;have d:bR s p= -1:=Lib.index_none fun j g=>by
  cases c:Lib.occAt s p j with
  |false=>rfl
  |true=>obtain⟨v,a⟩:=Jw.1 (show List.isPrefixOf p (s.drop j)=true from c);refine absurd ?_ (h (s.take j) v);rw [a,LZ]
 rw [bA aA0,d];rfl
theorem bs(y:aA)(m:aS y<=70)(v:PL)(n:aS v<=8)(l:∀x∈v,aS x.2<=1000000)(f:∀x∈v,∀u rest,x.2≠u++(([45,45]++y)++rest))(q:PL):∀(p:PL) (b:Nat),v=p++q->aS q<b->
  kg FU y v b (aS p:Int)=some (.inl ()):=by
 induction q with
 |nil=>intro p b h g;obtain⟨b,rfl⟩:=cV b;rw [ato,uw,aB aA8]
 |cons a q i=>intro p b h g;obtain⟨b,rfl⟩:=cV b;have d:=bP aS h;simp only [cB,cF]at d g;have c:(0:Int)<=(aS p:Int)/\(aS p:Int)<(aS v:Int):=aA0;have k:el v (aS p:Int)=a:=aB5;have e:a∈v:=aA8;have j:((aS p:Int)+1)=((p++[a]).length:Int):=aA2;have h1:=cu a.2 ([45,45]++y) (f a e);have h2:=ew a.2 ([13,10]++([45,45]++y)) (l a e) aA2 aA6 (fun u rest h=>f a e (u++[13,10]) rest aA8);rw [ato,uw,aC c.2,bA c,bA c,k,h1,aY,aH,bA aA6,h2];show gd _ _=_;rw [bA (adc _ aA0 aA0),j,i (p++[a]) b aA8 aA0]
theorem bp(v:PL)(X:Int)(d:List (aA×aA))(j:(el v X).1=d)(s:aS d<=64)(m:∀h∈d,pn h)(q:List (aA×aA)):∀(p:List (aA×aA)) (c:Nat) (b:List UInt8),d=p++q->aS q<c->aS b<=10000+aS p*1100->
  ∃b',kj FU v X c b (aS p:Int)=some b'/\b'.length<=10000+aS d*1100:=by
 induction q with
 |nil=>intro p c b h i k;obtain⟨c,rfl⟩:=cV c;rw [kP]at h;refine⟨b, ?_,by rw [h];exact k⟩;rw [atm,uy,j,aB aF0]
 |cons a q l=>intro p c b h i k;obtain⟨c,rfl⟩:=cV c;have f:=bP aS h;simp only [cB,cF]at f i;have e:(0:Int)<=(aS p:Int)/\(aS p:Int)<(aS d:Int):=aA0;have g:el d (aS p:Int)=a:=aB5;have n:((aS p:Int)+1)=((p++[a]).length:Int):=aA2;obtain⟨r,o⟩:=m a aA8;obtain⟨b',h1,h2⟩:=l (p++[a]) c (b++(((a.1++[58,32])++a.2)++[13,10])) aA8 aA0 aA6;refine⟨b', ?_,h2⟩;rw [atm,uy,j,aC e.2,bA e,bA e,g,bA aA6,bA aA6,bA aA6,bA aA6,bA (adc _ aA0 aA0),n,h1]
theorem bq(y:aA)(B:aS y<=70)(v:PL)(C:aS v<=8)(w:∀x∈v,aS x.2<=1000000)(t:∀x∈v,okP x)(q:PL):∀(p:PL) (c:Nat) (b:List UInt8),v=p++q->aS q<c->aS b<=8192->
  ∃j,ki FU y v c b (aS p:Int)=some j/\(∀b,j=.inl b->aS b<=8192)/\∀r,j=.inr r->r.2=4:=by
 induction q with
 |nil=>intro p c b h i e;obtain⟨c,rfl⟩:=cV c;refine⟨.inl b, ?_,fun b' h=>(by cases h;exact e),fun r h=>(by cases h)⟩;rw [atn,ux,aB aA8]
 |cons a q s=>
  intro p c b h i e;obtain⟨c,rfl⟩:=cV c;have f:=bP aS h;simp only [cB,cF]at f i;have d:(0:Int)<=(aS p:Int)/\(aS p:Int)<(aS v:Int):=aA0;have k:el v (aS p:Int)=a:=aB5;have l:a∈v:=aA8;have u:((aS p:Int)+1)=((p++[a]).length:Int):=aA2;have z:=w a l;obtain⟨o,n⟩:=t a l;obtain⟨b',h1,h2⟩:=bp v (aS p:Int) a.1 (by rw [k]) o n a.1 [] FU (b++(([45,45]++y)++[13,10])) rfl aA4 aA6;have g:kj FU v (aS p:Int) FU (b++(([45,45]++y)++[13,10])) (0:Int)=some b':=h1;rw [atn,ux,aC d.2,bA d,bA d,bA aA6,bA aA6,bA aA6,g,aY,bA aA6,k,bA aA6,bA aA6];by_cases m:(8192:Int)<((((b'++([13,10]:aA))++a.2)++([13,10]:aA)).length:Int)
  ·rw [aC m];exact⟨_,rfl,fun b h=>(by cases h),fun r h=>(by cases h;rfl)⟩
  ·rw [aB m];obtain⟨j,h3,A⟩:=s (p++[a]) c (((b'++([13,10]:aA))++a.2)++([13,10]:aA)) aA8 aA0 aA0;show∃j,gd _ _=some j/\_;rw [bA (adc _ aA0 aA0),u,h3];exact⟨j,rfl,A⟩
theorem Yt(y:aA)(a:aS y<=70):∃b,gm FU y=some b:=by
 unfold gm;rw [U3 y aA0,aY];cases mJ y with
 |true=>exact⟨_,rfl⟩
 |false=>exact⟨_,rfl⟩
theorem qg(o:∀s:aA,(jN s).2=0->(jN s).1.length<=64)(y:aA)(g:aS y<=70)(l:PL)(P:aS l<=20)(C:∀x∈l,(∀h∈x.1,aS h.1<=4194304)/\x.2.length<=1000000)(n:∀x∈l,∀u rest,x.2≠u++(([45,45]++y)++rest)):
  ∃r,jq FU l y=some r/\(r.2=0\/r.2=4\/r.2=2):=by
 obtain⟨E,I⟩:=Yt y g;have key:∃b,((gm FU y).bind fun(f:Bool)=>(bif (!f)then some true else(if(aS l:Int)<(1:Int)then some true else some (decide ((8:Int)<(aS l:Int))))))=some b/\(b=false->aS l<=8):=by
  rw [I,aY];cases E with
  |false=>exact⟨true,rfl,fun h=>by cases h⟩
  |true=>
   show∃b,(if(aS l:Int)<(1:Int)then some true else some (decide ((8:Int)<(aS l:Int))))=some b/\_;by_cases h1:(aS l:Int)<1
   ·rw [aC h1];exact⟨_,rfl,fun h=>by cases h⟩
   ·rw [aB h1];exact⟨_,rfl,fun h=>by have:=fB h;omega⟩
 obtain⟨b,h1,h2⟩:=key;unfold jq;rw [h1,aY];cases b with
 |true=>exact⟨_,rfl,.inr (.inr rfl)⟩
 |false=>
  have K:=h2 rfl;obtain⟨j,h3,O,N⟩:=bu o l K C l [] [] FU rfl aA4 rfl rfl (fun x hx=>by cases hx);have w:ke FU l FU (hC (aR (aS l:Int)) ([],[])) (0:Int)=some j:=by rw [mP];exact h3
  have G:∀(α:Type) (i:Decidable (0<=(aS l:Int)/\(48:Int)*(aS l:Int)<=281474976710656)) (k:Option α), @gd α _ i k=k:=fun α i k=> @bA _ _ i _ ⟨aA0,aA0⟩;rw [aH,G,w,aY];cases j with
  |inr r=>exact⟨r,rfl,.inr (.inr (N r rfl))⟩
  |inl v=>
   obtain⟨D,m⟩:=O v rfl;have F:aS v=aS l:=by have:=bP aS D;simpa using this
   have d:∀x∈v,∃z∈l,z.2=x.2:=fun x hx=>by
    have:x.2∈l.map (·.2):=by rw [<-D];exact List.mem_map_of_mem hx
    obtain⟨z,a,e⟩:=cG.1 this;exact⟨z,a,e⟩
   have c:∀x∈v,aS x.2<=1000000:=fun x hx=>by obtain⟨z,a,e⟩:=d x hx;rw [<-e];exact(C z a).2
   have p:∀x∈v,∀u rest,x.2≠u++(([45,45]++y)++rest):=fun x hx=>by obtain⟨z,a,e⟩:=d x hx;rw [<-e];exact n z a
   have M:=bs y g v aA0 c p v [] FU rfl aA4;have t:kg FU y v FU (0:Int)=some (.inl ()):=M;obtain⟨B,L,J,A⟩:=bq y g v aA0 c m v [] FU [] rfl aA4 aA2;have q:ki FU y v FU [] (0:Int)=some B:=L;show∃r,gd _ _=some r/\_;rw [bA aA6,t,aY];show∃r,Option.bind _ _=some r/\_;rw [q,aY];cases B with
   |inr r=>exact⟨r,rfl,.inr (.inl (A r rfl))⟩
   |inl b=>
    have H:=J b rfl;show∃r,gd _ (gd _ (gd _ _))=some r/\_;rw [bA aA6,bA aA6,bA aA6];split
    ·exact⟨_,rfl,.inr (.inl rfl)⟩
    ·exact⟨_,rfl,.inl rfl⟩
theorem Ys:∀c:UInt8,pW c≠[]->jN (pW c)=(pW c,0):=iG _ aA3
theorem Iv:∀n∈YA,jN n=(n,0):=aA3
theorem vO(y:aA):∀(l:List aA) {q},lB l y=some (.inr q)->q.1∈l/\q.2=0
 |[],q,h=>by cases h
 |n::l,q,h=>by
  unfold lB at h;split at h
  ·cases h;exact⟨iH,rfl⟩
  ·have:=vO y l h;exact⟨fU _ this.1,this.2⟩
theorem Y3:∀c:UInt8,dR (Zs c)=dR c:=iG _ aA3
theorem ZB:∀c:UInt8,dR (gX c)=dR c:=iG _ aA3
theorem YZ:∀c:UInt8,(Zs c==45)=(c==45):=iG _ aA3
theorem upup:∀c:UInt8,Zs (Zs c)=Zs c:=iG _ aA3
theorem SE:∀c:UInt8,gX (gX c)=gX c:=iG _ aA3
theorem Q5:∀c:UInt8,gX (Zs c)=gX c:=iG _ aA3
theorem yR:∀(l:aA) (f:Bool),(Iz f l).length=l.length
 |[],_=>rfl
 |c::l,f=>by rw [Iz,cF,cF,yR l]
theorem Lp:∀(l:aA) (f:Bool),(Iz f l).all dR=l.all dR
 |[],_=>rfl
 |c::l,f=>by
  rw [Iz,DL,DL,Lp l];cases f
  ·rw [aB aA1,ZB]
  ·rw [aC rfl,Y3]
theorem Bd:∀(l:aA) (f:Bool),dS (Iz f l)=dS l
 |[],_=>rfl
 |c::l,f=>by
  have:=Bd l (c==45);simp only [dS]at this⊢;rw [Iz,tM,tM,this];cases f
  ·rw [aB aA1,SE]
  ·rw [aC rfl,Q5]
theorem Bc:∀(l:aA) (f:Bool),Iz f (Iz f l)=Iz f l
 |[],_=>rfl
 |c::l,f=>by
  have:=Bc l (c==45);cases f
  ·simp only [Iz,aB (show¬(false=true)by decide),SE,qe,this]
  ·simp only [Iz,eM,upup,YZ,this]
theorem Xc(l:aA)(f:Bool):mJ (Iz f l)=mJ l:=by unfold mJ;rw [Lp];cases l<;>rfl
theorem Sa(s:aA)(h:(jN s).2=0):jN (jN s).1=((jN s).1,0):=by
 by_cases d:mJ s=false\/64<s.length
 ·have e:jN s=([],5):=by unfold jN;rw [aC d]
  rw [e]at h;exact absurd h aA1
 ·by_cases h1:s.length=1/\pW (gX (at_ s 0))≠[]
  ·have e:jN s=(pW (gX (at_ s 0)),0):=by unfold jN;rw [aB d,aC h1]
   rw [e];exact Ys _ h1.2
  ·have e:jN s=((vb FU (dS s) FU 0).getD (.inl ())).elim (fun _=>(Iz true s,0)) id:=by unfold jN;rw [aB d,aB h1]
   obtain⟨r,f⟩:=bac (dS s) YA;rw [mY,f,jX]at e;cases r with
   |inr q=>have g:=vO _ _ f;have e':jN s=q:=e;rw [e',Iv q.1 g.1]
   |inl u=>
    have e':jN s=(Iz true s,0):=e;rw [e'];have j:¬(mJ (Iz true s)=false\/64<(Iz true s).length):=by rw [Xc,yR];exact d
    have i:¬((Iz true s).length=1/\pW (gX (at_ (Iz true s) 0))≠[]):=by
     rintro⟨a,b⟩;rw [yR]at a
     match s,a with
     |[c],_=>exact h1 ⟨rfl,fun x=>b (by show pW (gX (Zs c))=[];rw [Q5];exact x)⟩
    unfold jN;rw [aB j,aB i,Bd,Bc,mY,f];rfl
open Go.Lib renaming decDigits → yG
theorem Yr(s:aA)(h:(jN s).2=0):(jN s).1.length<=64:=by
 have e:=Sa s h;by_cases a:64<(jN s).1.length
 ·have b:jN (jN s).1=([],5):=by rw [jN,aC (Or.inr a)]
  rw [b]at e;exact absurd (bP Prod.snd e) (show¬((5:UInt8)=0)by decide)
 ·omega
theorem So:gb FU=some true:=by kernel_rfl
theorem wD(l:PL)(g:∀x∈l,∀h∈x.1,h.1.length<=4194304):aps FU l=some true:=by
 obtain⟨b,h1,h2⟩:=dk l;unfold aps;rw [h1,aY,So];cases b with
 |false=>rfl
 |true=>
  obtain⟨a,d⟩:=h2 rfl;obtain⟨m,h3,p,o⟩:=ta l a fun x hx=>(d x hx).2;obtain⟨_,_,R3,i⟩:=GU 9 m aT;have c:∀x∈l,∀u rest,x.2≠u++(([45,45]++(98::yG m))++rest):=fun x hx u rest h=>o x hx u rest aA8;have f:(98::yG m).length<=70:=aA6;have n:=gg l (98::yG m) a f (fun x hx=>(d x hx).2) c l [] FU rfl aA4;have e:ll FU l (98::yG m) FU (0:Int)=some (.inl ()):=n;obtain⟨r,k,j⟩:=qg Yr (98::yG m) f l a (fun x hx=>⟨g x hx,by have:=(d x hx).2;omega⟩) c;have jQ:at_ (98::yG m) (0:Int)=98:=rfl;simp only [mI,aH];rw [h3,aY,aB aA6,aB aT,bA aA2,jQ];simp only [decide_true,mI,aY,aH];rw [e,aY];show Option.bind _ _=_;rw [k,aY];rcases j with h|h|h
  ·rw [h];rfl
  ·rw [h];rfl
  ·rw [h];rfl
end Go.Wk
