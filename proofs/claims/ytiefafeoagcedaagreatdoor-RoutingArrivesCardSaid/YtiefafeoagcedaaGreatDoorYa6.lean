/-
  The law RoutingArrives holds (part 6 of 9).
-/
import Derived.Test.YtiefafeoagcedaaGreatDoorYa5
open Bool renaming false → ν, true → μ
open List renaming length → γ
open Option renaming some → θ
set_option linter.unusedVariables false
set_option linter.unusedSimpArgs false
set_option maxRecDepth 100000
namespace Go.Wk
open Go.Px
open Go.Lib renaming itoa → iS
open Int renaming toNat → bR
open List renaming length → aR
theorem Z4(t:aC):(bif (!(lq t))then θ μ else if(Rn t)<1 then θ μ else if 65535<(Rn t)then θ μ else gd (bK (Rn t))<|some (!decide ((iS (Rn t))=t)))=θ (!decide (Xm t)):=by
 cases a:lq t with
 |false=>rw[vJ,aO,aG (λh=>by have:=((Ld t).2 h).1;rw[a]at this;cases this)];rfl
 |true=>
  rw[iV,aJ];by_cases c:Rn t<1
  ·rw[aB c,aG (λh=>by have:=((Ld t).2 h).2.1;omega)];rfl
  ·rw[aA c];by_cases b:65535<Rn t
   ·rw[aB b,aG (λh=>by have:=((Ld t).2 h).2.2.1;omega)];rfl
   ·rw[aA b,aV (cJ _ aA0 aA0)];congr 2;rw[dE];exact⟨λh=>(Ld t).1 ⟨a,aA0,aA0,h⟩,λh=>((Ld t).2 h).2.2.2⟩
def CX(p:aC):aC×Int×η:=
 if fP (·==58) p<0 then([],0,ν)
 else if Xm (p.drop (bR (fP (·==58) p+1)))/\kC (p.take (bR (fP (·==58) p)))=(p.take (bR (fP (·==58) p)),μ)then(p.take (bR (fP (·==58) p)),(gI (p.drop (bR (fP (·==58) p+1)))).1,μ)
 else([],0,ν)
theorem mR(a:aC×η)(x:aC):a=(x,μ)↔a.2=μ/\a.1=x:=by rw[cO];exact And.comm
theorem ppl_eq(p:aC)(j:aR p<=4194303):afp FU p=θ (CX p):=by
 unfold afp CX;have i:=uE (·==(58:ζ)) p;generalize fP (·==(58:ζ)) p=c at*;rw[aV aA0];by_cases e:c<0
 ·rw[aB e,aB e]
 ·have k:0<=c/\c<(aR p:Int):=by
   rcases i with⟨h,_⟩|h
   ·omega
   ·exact h
  have g:γ (p.take c.toNat)<=4194303:=aB5;rw[aA e,aA e,aV (cJ _ aA0 aA0),aV aA0,aV aB6,Z4,aS];generalize p.drop (bR (c+1))=t;generalize p.take c.toNat=x at g⊢;by_cases a:Xm t
  ·rw[aH a,iV,aJ,aV aA0,uT x aA0,aS,aV aA0,(OB a).1];by_cases d:(kC x).2=μ
   ·rw[d,iV,aJ];by_cases b:(kC x).1=x
    ·rw[aH b,aS,iV,aJ,aB ⟨a,(mR _ _).2 ⟨d,b⟩⟩,b]
    ·rw[aG b,aS,vJ,aO,aA (λh=>b ((mR _ _).1 h.2).2)]
   ·have f:(kC x).2=ν:=by simpa using d
    rw[f,vJ,aO,aS,aO,aA (λh=>d ((mR _ _).1 h.2).1)]
  ·rw[aG a,vJ,aO,aA (λh=>a h.1)]
theorem spl_at(p:aC)(r:aR p<=4194303):∀(q a:aC) (b:Nat) (d:Int),p=a++q->aR q<b->
  aoq FU p b d (aR a:Int)=θ (if fP (·==(58:ζ)) q<0 then d else(aR a:Int)+fP (·==(58:ζ)) q):=by
 intro q;induction q with
 |nil=>intro a b d h m;obtain⟨b,rfl⟩:=cD b;rw[gV]at h;rw[bdi,arp,aA aB8];rfl
 |cons c q n=>
  intro a b d h m;obtain⟨b,rfl⟩:=cD b;have j:=bM aR h;simp only[cR,dT]at j m;have o:Υ p (aR a:Int)=c:=by rw[h];exact AL _ _ _
  have g:((aR a:Int)+1)=(γ (a++[c]):Int):=aA2;have l:=λk=>n (a++[c]) b k aA7 aA0;have s:=uE (·==(58:ζ)) q;rw[bdi,arp,aB aA0,aV aA0,o];by_cases i:c=58
  ·have e:fP (·==(58:ζ)) (c::q)=if fP (·==(58:ζ)) q= -1 then 0 else fP (·==(58:ζ)) q+1:=by subst i;rfl
   rw[aB i,aV (cJ _ aA0 aA0),g,l,e,<-g];generalize fP (·==(58:ζ)) q=x at*;by_cases f:x= -1
   ·rw[aB f,aB (show x<0 by omega),aA aA1,Int.add_zero]
   ·rw[aA f,aA (show¬x<0 by omega),aA aA0,Int.add_assoc,Int.add_comm 1 x]
  ·have e:fP (·==(58:ζ)) (c::q)=if fP (·==(58:ζ)) q= -1 then-1 else fP (·==(58:ζ)) q+1:=by rw[fP,aA (show¬(c==58)=μ by rw[beq_iff_eq];exact i)]
   rw[aA i,aV (cJ _ aA0 aA0),g,l,e,<-g];generalize fP (·==(58:ζ)) q=x at*;by_cases f:x= -1
   ·rw[aB f,aB (show x<0 by omega),aB aA1]
   ·rw[aA f,aA (show¬x<0 by omega),aA aA0,Int.add_assoc,Int.add_comm 1 x]
theorem spl_eq(p:aC)(r:aR p<=4194303):bcc FU p=θ (CX p):=by
 have u:=spl_at p r p [] FU (-1) Τ aA5;have j:aoq FU p FU (-1:Int) (0:Int)=_:=u;have m:=uE (·==(58:ζ)) p;have e:(if fP (·==(58:ζ)) p<0 then(-1:Int)else(γ ([]:aC):Int)+fP (·==(58:ζ)) p)=fP (·==(58:ζ)) p:=by
  rcases m with⟨h,_⟩|h
  ·rw[h];rfl
  ·rw[aA aA0];exact Int.zero_add _
 unfold bcc CX;rw[j,e,aS];generalize fP (·==(58:ζ)) p=c at*;by_cases d:c<0
 ·rw[aB d,aB d]
 ·have v:0<=c/\c<(aR p:Int):=by
   rcases m with⟨h,_⟩|h
   ·omega
   ·exact h
  have q:γ (p.take c.toNat)<=4194303:=aB5;have s:γ (p.drop (bR (c+1)))<=4194303:=aB6;rw[aA d,aA d,aV aA0,uB _ aA0,aS,aV (cJ _ aA0 aA0),aV aA0,ph _ aA0,aS,aV aA0];generalize p.drop (bR (c+1))=t at s⊢;generalize p.take c.toNat=x at q⊢;have a:=qj t;by_cases i:(kC x).2=μ
  ·rw[i,iV,aJ];by_cases b:(kC x).1=x
   ·rw[aB b];by_cases g:(gI (oS t)).2=0
    ·rw[aB g];by_cases o:(gI (oS t)).1<1
     ·rw[aB o,aS,aO,aA (λh=>by have:=(a.2 h.1).2.1;omega)]
     ·rw[aA o];by_cases n:65535<(gI (oS t)).1
      ·rw[aB n,aS,aO,aA (λh=>by have:=(a.2 h.1).2.2.1;omega)]
      ·rw[aA n,oG _ aA0 aA0,aS,aV (cJ _ aA0 aA0),aV aA0];by_cases f:iS (gI (oS t)).1=t
       ·have l:=a.1 ⟨g,aA0,aA0,f⟩;rw[aH f,iV,aS,aJ,aB ⟨l,(mR _ _).2 ⟨i,b⟩⟩,b,(OB l).2]
       ·rw[aG f,vJ,aS,aO,aA (λh=>f (a.2 h.1).2.2.2)]
    ·rw[aA g,aS,aO,aA (λh=>g (a.2 h.1).1)]
   ·rw[aA b,aS,aO,aA (λh=>b ((mR _ _).1 h.2).2)]
  ·have k:(kC x).2=ν:=by simpa using i
   rw[k,vJ,aO,aS,aO,aA (λh=>i ((mR _ _).1 h.2).1)]
def plcT(h:aC)(n:Int):aC:=h++[58]++iS (if n=0 then 5060 else n)
theorem Um{u:UU}(h:Good u):0<=u.2.2.2.1/\u.2.2.2.1<=65535:=by
 rcases h.sch with⟨_,_,a,b,_⟩|⟨_,_,a,_⟩
 ·exact⟨a,b⟩
 ·rw[a];exact⟨aA1,aA1⟩
def Qo(u place:aC):η:=if(uS u).1=0 then(if(uS u).2.2.1=[]then decide (plcT (uS u).2.2.2.1 (uS u).2.2.2.2.1=place)else ν)else ν
theorem ao(u place:aC):zy FU u place=θ (Qo u place):=by
 obtain⟨a,_,_,h⟩:=DA u;have e:=(uC u).2.2.1;unfold zy Qo;rw[h,aS];dsimp only;by_cases b:(uS u).1=0
 ·have d:=Um (oI u b);rw[aB b,aB b];by_cases c:(uS u).2.2.1=[]
  ·rw[aB c,aB c,plc_eq _ _ aA0 d.1 d.2,aS,aS];rfl
  ·rw[aA c,aA c,aS]
 ·rw[aA b,aA b,aS]
theorem NG(u place:aC):vz FU u place=θ (Qo u place):=by
 obtain⟨a,_,h⟩:=Kr u;have f:=(uC u).2.2.1;unfold vz Qo;rw[h,aS];dsimp only;by_cases b:(uS u).1=0
 ·have c:=Um (oI u b);have e:=rplc (uS u).2.2.2.1 _ aA0 c.1 c.2;rw[aB b,aB b];by_cases d:(uS u).2.2.1=[]
  ·rw[aB d,aB d,aV e.1,V2 _ c.1 c.2,aS,aV e.2,aS];rfl
  ·rw[aA d,aA d,aS]
 ·rw[aA b,aA b,aS]
def Hg(l:δ HH):aC×η:=if(gW l dS).length=0 then([],ν)else((Js (el (gW l dS) 0)).1,decide ((Js (el (gW l dS) 0)).2=0))
def Cz(l:δ HH):aC×η:=if(gW l dS).length=0 then([],ν)else((Js (el (gW l dS) (γ (gW l dS)-1))).1,decide ((Js (el (gW l dS) (γ (gW l dS)-1))).2=0))
theorem Zo{l:δ HH}{n:Nat}(h:kA l<=n){i:Int}(d:0<=i)(a:i<γ (gW l dS)):γ (el (gW l dS) i)<=n:=by obtain⟨k,rfl⟩:∃k:Nat,i=k:=⟨i.toNat,aA0⟩;have c:=oa (l:=gW l dS) (i:=k) aA0;have b:=vn dS l;omega
theorem frt_eq(m:MM)(h:kA m.2.2.2.2.1<=4194303):wx FU m=θ (Hg m.2.2.2.2.1):=by
 obtain⟨c,b⟩:=lP h (dC _);unfold wx Hg;rw[show([82,111,117,116,101]:aC)=dS from Τ,all_eq m dS c b aA1,aS];by_cases a:γ (gW m.2.2.2.2.1 dS)=0
 ·rw[aB aA0,aB a]
 ·have:=Zo h (i:=0) (kt _) aA0;rw[aA aA0,aA a,aV aA0,aV aA0,OY _ aA0,aS]
theorem V1(m:MM)(h:kA m.2.2.2.2.1<=4194303)(b:η):wk FU m b=θ (bif b then Cz m.2.2.2.2.1 else Hg m.2.2.2.2.1):=by
 obtain⟨d,c⟩:=lP h (dC _);unfold wk Hg Cz;rw[show([82,111,117,116,101]:aC)=dS from Τ,Xj m dS d c aA1,aS];have f:=oC (gW m.2.2.2.2.1 dS);have e:=vn dS m.2.2.2.2.1;by_cases a:γ (gW m.2.2.2.2.1 dS)=0
 ·rw[aB aA0,aB a,aB a];cases b<;>rfl
 ·rw[aA aA0,aA a,aA a,aV aA0,aV aA0];cases b with
  |false=>have:=Zo h (i:=0) (kt _) aA0;rw[aJ,aS,NX _ aA0,aS,aJ]
  |true=>have:=Zo h (i:=(γ (gW m.2.2.2.2.1 dS):Int)-1) aA0 aA0;rw[aO,aV (cJ _ aA0 aA0),aV aA0,aV aA0,aS,NX _ aA0,aS,aO]
theorem req_eq(m:MM):aif FU m=θ (decide (m.2.2.1=0/\m.1≠[])):=by
 unfold aif;by_cases h:m.2.2.1=0
 ·rw[aB h];congr 1;simp[h]
 ·rw[aA h];congr 1;simp[h]
theorem pf(m:MM):atb FU m=θ (decide (m.2.2.1=0/\m.1≠[])):=by
 unfold atb;by_cases h:m.2.2.1=0
 ·rw[aB h];congr 1;simp[h]
 ·rw[aA h];congr 1;simp[h]
theorem Cv(a:Int)(b: -10<=a)(h:a<=9223372036854775807):bK a:=⟨aA0,aA0⟩
theorem PL{a:Type}[Inhabited a](l:δ a)(k:Nat)(h:k<aR l):l.drop k=el l k::l.drop (k+1):=by simp[el,h]
theorem wrt_lp(rs:δ aC)(o:mL rs<=500000)(m:MM)(g:aR m.2.2.2.2.2<=4194304)(c:δ HH)(n:kA c<=500000):∀(k:Nat) (b:Nat),k<=aR rs->k<b->
  apw FU rs b ((k:Int)-1) m.1 m.2.1 m.2.2.1 m.2.2.2.1 ((rs.drop k).foldr (λr a=>rE a dS r) c) m.2.2.2.2.2=θ (dq m (rs.foldr (λr a=>rE a dS r) c)):=by
 intro k;induction k with
 |zero=>intro b h i;obtain⟨b,rfl⟩:=cD b;rw[bap,anu,aA aA0,WZ];rfl
 |succ k d=>
  intro b h i;obtain⟨b,rfl⟩:=cD b;have p:=oC rs;have l:=yN c (rs.drop (k+1));have q:mL (rs.drop (k+1))<=mL rs:=by have:=Ig (rs.take (k+1)) (rs.drop (k+1));rw[HN]at this;omega
  obtain⟨j,s⟩:=lP (dC (kA ((rs.drop (k+1)).foldr (λr a=>rE a dS r) c))) aA0;have e:((k+1:Nat):Int)-1=(k:Int):=aA0;have f:=bb (m.1,m.2.1,m.2.2.1,m.2.2.2.1,(rs.drop (k+1)).foldr (λr a=>rE a dS r) c,m.2.2.2.2.2) dS (el rs (k:Int)) j g aA1;rw[bap,anu,e,aB aA0,aV aA0,aV aA0,show([82,111,117,116,101]:aC)=dS from Τ,f,aS,aV (Cv _ aA0 aA0)];have:=d b aA0 aA0;rw[PL rs k aA0,List.foldr_cons]at this;exact this
open List renaming drop → dG
theorem AU(m:MM)(rs:δ aC)(c:mL rs<=500000)(b:kA m.2.2.2.2.1<=500000)(a:γ m.2.2.2.2.2<=4194304):ait FU m rs=θ (dq m (Jk m.2.2.2.2.1 rs)):=by obtain⟨d,g⟩:=lP b aA1;have e:=oC rs;have f:=nY (λh=> !mE dS h) m.2.2.2.2.1;have h:=wrt_lp rs c m a (m.2.2.2.2.1.filter λh=> !mE dS h) aA0 (γ rs) FU (dC _) aA5;rw[WX,List.foldr_nil]at h;unfold ait;rw[show([82,111,117,116,101]:aC)=dS from Τ,bc m dS d a aA1,aS,aV (Cv _ aA0 aA0)];dsimp only;rw[h,aS];rfl
theorem oz(m:MM)(rs:δ aC)(n:mL rs<=500000)(c:δ HH)(l:kA c<=500000):∀(k:Nat) (b:Nat),k<=γ rs->k<b->
  aor FU m rs b ((k:Int)-1) m.1 m.2.1 m.2.2.1 m.2.2.2.1 ((rs.drop k).foldr (λr a=>rE a dS r) c)=θ (m.1,m.2.1,m.2.2.1,m.2.2.2.1,rs.foldr (λr a=>rE a dS r) c):=by
 intro k;induction k with
 |zero=>intro b g h;obtain⟨b,rfl⟩:=cD b;rw[awp,amc,aA aA0,WZ]
 |succ k d=>
  intro b g h;obtain⟨b,rfl⟩:=cD b;have o:=oC rs;have j:=yN c (rs.drop (k+1));have p:mL (rs.drop (k+1))<=mL rs:=by have:=Ig (rs.take (k+1)) (rs.drop (k+1));rw[HN]at this;omega
  obtain⟨i,q⟩:=lP (dC (kA ((rs.drop (k+1)).foldr (λr a=>rE a dS r) c))) aA0;have e:((k+1:Nat):Int)-1=(k:Int):=aA0;have f:=Y4 (m.1,m.2.1,m.2.2.1,m.2.2.2.1,(rs.drop (k+1)).foldr (λr a=>rE a dS r) c,m.2.2.2.2.2) dS (el rs (k:Int)) i aA1;rw[awp,amc,e,aB aA0,aV aA0,aV aA0,show([82,111,117,116,101]:aC)=dS from Τ,f,aS,aV (Cv _ aA0 aA0)];have:=d b aA0 aA0;rw[PL rs k aA0,List.foldr_cons]at this;exact this
theorem Ss(m:MM)(rs:δ aC)(b:mL rs<=500000)(a:kA m.2.2.2.2.1<=500000):wj FU m rs=θ (dq m (Jk m.2.2.2.2.1 rs)):=by obtain⟨c,f⟩:=lP a aA1;have d:=oC rs;have e:=nY (λh=> !mE dS h) m.2.2.2.2.1;have h:=oz m rs b (m.2.2.2.2.1.filter λh=> !mE dS h) aA0 (γ rs) FU (dC _) aA5;rw[WX,List.foldr_nil]at h;unfold wj;rw[show([82,111,117,116,101]:aC)=dS from Τ,Y5 m dS c aA1,aS,aV (Cv _ aA0 aA0)];dsimp only;rw[h,aS];rfl
def mA(m:MM)(place:aC):MM:=
 if(Cz m.2.2.2.2.1).2=μ/\Qo m.2.1 place=μ then(m.1,(Cz m.2.2.2.2.1).1,m.2.2.1,m.2.2.2.1,Jk m.2.2.2.2.1 ((gW m.2.2.2.2.1 dS).take (γ (gW m.2.2.2.2.1 dS)-1)),m.2.2.2.2.2)else m
def Ou(m:MM)(place:aC):MM:=
 if(Hg m.2.2.2.2.1).2=μ/\Qo (Hg m.2.2.2.2.1).1 place=μ then dq m (Jk m.2.2.2.2.1 ((gW m.2.2.2.2.1 dS).drop 1))else m
def GB(m:MM)(place:aC):MM×ζ:=
 if(m.2.2.1=0/\m.1≠[])/\(CX place).2.2=μ then(Ou (mA m place) place,0)else(xk,2)
theorem AT(l:δ HH)(rs:δ aC)(n:Nat)(h:kA l<=n)(a:mL rs<=n):kA (Jk l rs)<=7*n:=by have:=ml l rs;omega
theorem QL(m:MM)(place:aC)(h:kA m.2.2.2.2.1<=20000):kA (mA m place).2.2.2.2.1<=140000:=by
 have b:=vn dS m.2.2.2.2.1;have a:=Jz (gW m.2.2.2.2.1 dS) (γ (gW m.2.2.2.2.1 dS)-1);unfold mA;split
 ·exact AT _ _ 20000 h aA0
 ·omega
theorem vx(m:MM)(place:aC)(h:kA m.2.2.2.2.1<=140000):kA (Ou m place).2.2.2.2.1<=980000:=by
 have b:=vn dS m.2.2.2.2.1;have a:=Ka (gW m.2.2.2.2.1 dS);unfold Ou;split
 ·exact AT _ _ 140000 h aA0
 ·omega
variable{l:δ HH}
theorem OI(h:(Cz l).2=μ):1<=γ (gW l dS):=by
 unfold Cz at h;split at h
 ·cases h
 ·omega
theorem PA(h:(Hg l).2=μ):1<=γ (gW l dS):=by
 unfold Hg at h;split at h
 ·cases h
 ·omega
theorem copy_eq(m:MM)(a:kA m.2.2.2.2.1<=500000)(b:γ m.2.2.2.2.2<=4194304):alx FU m=θ m:=by
 have:γ m.2.2.2.2.1<=kA m.2.2.2.2.1:=by unfold kA;omega
 unfold alx;rw[aV aA0,aV aA0]
theorem vy(m:MM)(place:aC)(f:kA m.2.2.2.2.1<=140000)(g:γ m.2.2.2.2.2<=4194304):
  ((wx FU m).bind λb=>(bif b.2 then((zy FU b.1 place).bind λd=>θ d)else θ ν).bind λe=>bif e then((ju FU m ([82,111,117,116,101])).bind λa=>gd (0<=(1:Int)/\1<=(γ a:Int))<|(ait FU m (dG (bR 1) a)).bind λ(c:MM)=>θ (c,0))else θ (m,(0:ζ)))=θ (Ou m place,0):=by
 obtain⟨k,j⟩:=lP f aA1;have p:=vn dS m.2.2.2.2.1;have o:=Ka (gW m.2.2.2.2.1 dS);rw[frt_eq m aA0,aS,ao,aS];unfold Ou;cases i:(Hg m.2.2.2.2.1).2 with
 |false=>rw[aJ,aS,aJ,aA (λh=>by cases h.1)]
 |true=>
  have n:=PA i;rw[aO,aS];cases l:Qo (Hg m.2.2.2.2.1).1 place with
  |false=>rw[aJ,aA (λh=>by cases h.2)]
  |true=>rw[aO,aB ⟨rfl,rfl⟩,show [82,111,117,116,101]=dS from Τ,all_eq m dS k j aA1,aS,aV aA0,show bR _=1 from Τ,AU m _ aA0 aA0 g,aS]
theorem WB(m:MM)(place:aC)(z:γ place<=100)(k:kA m.2.2.2.2.1<=20000)(l:γ m.2.2.2.2.2<=4194304):aqq FU m place=θ (GB m place):=by
 obtain⟨w,u⟩:=lP k aA1;have B:=vn dS m.2.2.2.2.1;have A:=oC (gW m.2.2.2.2.1 dS);have y:=Jz (gW m.2.2.2.2.1 dS) (γ (gW m.2.2.2.2.1 dS)-1);unfold aqq GB;rw[ppl_eq place aA0,aS,req_eq,aS];cases s:(CX place).2.2 with
 |false=>rw[vJ,aO,aS,aO,aA (λh=>by cases h.2)];rfl
 |true=>
  rw[iV,aJ,aS];by_cases g:m.2.2.1=0/\m.1≠[]
  ·rw[aH g,iV,aJ,aB ⟨g,rfl⟩,copy_eq m aA0 l,aS,show([82,111,117,116,101]:aC)=dS from Τ,all_eq m dS w u aA1,aS,aV (Cv _ aA0 aA0),ao,aS];have r:=QL m place k;have key:∀v:MM,v=mA m place->((wx FU v).bind λ(b:(aC×η))=>(bif b.2 then((zy FU b.1 place).bind λ(d:η)=>θ d)else θ ν).bind λ(f:η)=>bif f then((ju FU v ([82,111,117,116,101]:aC)).bind λ(a:δ aC)=>gd (0<=(1:Int)/\(1:Int)<=(γ a:Int))<|(ait FU v (dG (bR (1:Int)) a)).bind λ(c:MM)=>θ (c,(0:ζ)))else θ (v,(0:ζ)))=θ (Ou (mA m place) place,0):=by intro v q;subst q;refine vy _ place r ?_;unfold mA;split<;>exact l
   by_cases p:γ (gW m.2.2.2.2.1 dS)=0
   ·have e:mA m place=m:=by unfold mA;rw[aA (λh=>by have:=OI h.1;omega)]
    rw[aA (show¬(0:Int)<=(γ (gW m.2.2.2.2.1 dS):Int)-1 by omega),aS,aJ,aS];exact key _ e.symm
   ·rw[aB (show(0:Int)<=(γ (gW m.2.2.2.2.1 dS):Int)-1 by omega),aS];cases o:Qo m.2.1 place with
    |false=>
     have e:mA m place=m:=by unfold mA;rw[aA (λh=>by rw[o]at h;cases h.2)]
     rw[aJ,aS];exact key _ e.symm
    |true=>
     have t:=Zo k (i:=(γ (gW m.2.2.2.2.1 dS):Int)-1) aA0 aA0;rw[aO,aV aA0,aV aA0,OY _ aA0,aS];by_cases j:(Js (el (gW m.2.2.2.2.1 dS) (γ (gW m.2.2.2.2.1 dS)-1))).2=0
     ·have e:mA m place=(m.1,(Js (el (gW m.2.2.2.2.1 dS) (γ (gW m.2.2.2.2.1 dS)-1))).1,m.2.2.1,m.2.2.2.1,Jk m.2.2.2.2.1 ((gW m.2.2.2.2.1 dS).take (γ (gW m.2.2.2.2.1 dS)-1)),m.2.2.2.2.2):=by
       have n:Cz m.2.2.2.2.1=((Js (el (gW m.2.2.2.2.1 dS) (γ (gW m.2.2.2.2.1 dS)-1))).1,μ):=by unfold Cz;rw[aA p,aH j]
       unfold mA;rw[n,aB ⟨rfl,o⟩]
      have x:bR ((γ (gW m.2.2.2.2.1 dS):Int)-1)=γ (gW m.2.2.2.2.1 dS)-1:=aA0;rw[aB j,aV aA0,x,AU m _ aA0 aA0 l,aS,aS];exact key _ e.symm
     ·have e:mA m place=m:=by
       have n:(Cz m.2.2.2.2.1).2=ν:=by unfold Cz;rw[aA p,aG j]
       unfold mA;rw[n,aA (λh=>by cases h.1)]
      rw[aA j,aS];exact key _ e.symm
  ·rw[aG g,vJ,aO,aA (λh=>g h.1)];rfl
theorem Dc:Zq FU=θ μ:=by kernel_rfl
theorem sY(a:MM)(j:kA a.2.2.2.2.1<=4194303)(e:ζ)(b:MM)(f:ζ)(i:b=a)(h:e=f):(((Zr FU a b).bind λd=>bif d then(if e=f then((Zq FU).bind λc=>θ c)else θ ν)else θ ν).bind λg=>θ g)=θ μ:=by
 subst i;have:γ b.2.2.2.2.1<=kA b.2.2.2.2.1:=by unfold kA;omega
 rw[ox b bA,aS,aO,aB h,Dc,aS,aS]
theorem Kz(x m:MM)(place:aC)(hx:x=Ou m place)(e:ζ)(r:e=0)(s:kA m.2.2.2.2.1<=140000):
  ((wk FU m ν).bind λ(c:(aC×η))=>bif c.2 then((vz FU c.1 place).bind λ(l:η)=>bif l then((jt FU m ([82,111,117,116,101]:aC)).bind λ(b:δ aC)=>gd (0<=(1:Int)/\(1:Int)<=(γ b:Int))<|(wj FU m (dG (bR (1:Int)) b)).bind λ(a:MM)=>((Zr FU x (a.1,a.2.1,a.2.2.1,a.2.2.2.1,a.2.2.2.2.1,m.2.2.2.2.2)).bind λ(k:η)=>bif k then(if e=(0:ζ)then((Zq FU).bind λ(j:η)=>θ j)else θ ν)else θ ν).bind λ(p:η)=>θ p)else((Zr FU x m).bind λ(i:η)=>bif i then(if e=(0:ζ)then((Zq FU).bind λ(g:η)=>θ g)else θ ν)else θ ν).bind λ(o:η)=>θ o)else((Zr FU x m).bind λ(f:η)=>bif f then(if e=(0:ζ)then((Zq FU).bind λ(d:η)=>θ d)else θ ν)else θ ν).bind λ(n:η)=>θ n)=θ μ:=by
 obtain⟨v,u⟩:=lP s aA1;have A:=vn dS m.2.2.2.2.1;have z:=Ka (gW m.2.2.2.2.1 dS);have w:=vx m place s;rw[V1 m bA,aJ,aS,NG];cases q:(Hg m.2.2.2.2.1).2 with
 |false=>
  have ex:x=m:=by rw[hx];unfold Ou;rw[aA (λh=>by rw[q]at h;cases h.1)]
  rw[aJ];exact sY x (by rw[ex];omega) e m 0 ex.symm r
 |true=>
  have y:=PA q;rw[aO,aS];cases t:Qo (Hg m.2.2.2.2.1).1 place with
  |false=>
   have ex:x=m:=by rw[hx];unfold Ou;rw[aA (λh=>by rw[t]at h;cases h.2)]
   rw[aJ];exact sY x (by rw[ex];omega) e m 0 ex.symm r
  |true=>
   have ex:x=dq m (Jk m.2.2.2.2.1 ((gW m.2.2.2.2.1 dS).drop 1)):=by rw[hx];unfold Ou;rw[aB ⟨q,t⟩]
   rw[aO,show([82,111,117,116,101]:aC)=dS from Τ,Xj m dS v u aA1,aS,aV bA,show bR (1:Int)=1 from Τ,Ss m _ bA bA,aS];exact sY x (by rw[hx];omega) e _ 0 ex.symm r
theorem rG(m:aC×aC×Int×aC×δ (aC×aC)×δ ζ)(place:aC):aln FU m place=θ μ:=by
 unfold aln;rcases RZ m with e|⟨e,w,v,n⟩
 ·rw[e,aS,vJ,aO,aS,aO,Dc,aS]
 ·rw[e,aS,iV,aJ,aS];by_cases l:(100:Int)<(γ place:Int)
  ·rw[aH l,aO,Dc,aS]
  ·have c:kA m.2.2.2.2.1<=20000:=by have:=YX m.2.2.2.2.1 n;omega
   obtain⟨p,o⟩:=lP c aA1;have u:=vn dS m.2.2.2.2.1;have s:=oC (gW m.2.2.2.2.1 dS);have r:=Jz (gW m.2.2.2.2.1 dS) (γ (gW m.2.2.2.2.1 dS)-1);have g:kA xk.2.2.2.2.1<=4194303:=aA1;rw[aG l,aJ,WB m place bA c bA,aS,pf,aS];by_cases b:m.2.2.1=0/\m.1≠[]
   ·have q:atc FU place=θ (CX place).2.2:=by unfold atc;rw[spl_eq place bA,aS]
    rw[aH b,iV,aJ,q,aS];cases j:(CX place).2.2 with
    |false=>
     have ea:GB m place=(xk,2):=by unfold GB;rw[aA (λh=>by rw[j]at h;cases h.2)]
     rw[vJ,aO,ea];exact sY xk g 2 xk 2 Τ Τ
    |true=>
     have ea:GB m place=(Ou (mA m place) place,0):=by unfold GB;rw[aB ⟨b,j⟩]
     have i:=QL m place c;rw[iV,aJ,ea,V1 m bA,aO,aS,NG,aS];dsimp only;cases d:(Cz m.2.2.2.2.1).2 with
     |false=>
      have a:mA m place=m:=by unfold mA;rw[aA (λh=>by rw[d]at h;cases h.1)]
      rw[aJ,a];exact Kz _ m place Τ 0 Τ bA
     |true=>
      have t:=OI d;rw[aO];cases k:Qo m.2.1 place with
      |false=>
       have a:mA m place=m:=by unfold mA;rw[aA (λh=>by rw[k]at h;cases h.2)]
       rw[aJ,a];exact Kz _ m place Τ 0 Τ bA
      |true=>
       have a:mA m place=(m.1,(Cz m.2.2.2.2.1).1,m.2.2.1,m.2.2.2.1,Jk m.2.2.2.2.1 ((gW m.2.2.2.2.1 dS).take (γ (gW m.2.2.2.2.1 dS)-1)),m.2.2.2.2.2):=by unfold mA;rw[aB ⟨d,k⟩]
       have f:bR ((γ (gW m.2.2.2.2.1 dS):Int)-1)=γ (gW m.2.2.2.2.1 dS)-1:=aA0;rw[aO,show([82,111,117,116,101]:aC)=dS from Τ,Xj m dS p o aA1,aS,aV (Cv _ bA bA),aV bA,f,Ss m _ bA bA,aS];rw[a]at i;rw[a];exact Kz _ (m.1,(Cz m.2.2.2.2.1).1,m.2.2.1,m.2.2.2.1,Jk m.2.2.2.2.1 ((gW m.2.2.2.2.1 dS).take (γ (gW m.2.2.2.2.1 dS)-1)),m.2.2.2.2.2) place Τ 0 Τ i
   ·have ea:GB m place=(xk,2):=by unfold GB;rw[aA (λh=>b h.1)]
    rw[aG b,vJ,aO,ea];exact sY xk g 2 xk 2 Τ Τ
end Go.Wk
