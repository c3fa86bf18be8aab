/-
  The law HeaderStable (part 5 of 8).
-/
import Derived.Test.YtpbfkeakaefenaaGreatDoorSt4
import Derived.Laws.Bits64
set_option linter.unusedVariables false
set_option linter.unusedSimpArgs false
set_option maxRecDepth 100000
namespace Go.Wk
open Go.Px
open Bool renaming not_true → zaz
open Go.Op renaming bytesLess → zaL
open List renaming append_assoc → zal, append_nil → zam, eq_nil_of_length_eq_zero → zap, length → zbl, length_append → zab, length_cons → zad, length_singleton → zae, set → zaJ
open Option renaming bind_some → zaa
def cmpV(a b:Str):Int:=bif zaL a b then-1 else bif !(zaL a b||a==b)then 1 else 0
theorem hs1_eq(fu:Nat)(x y:PP):ahr fu x y=some (cmpV x.1 y.1):=by
 unfold ahr air akx cmpV
 rw [zaa,zaa,decide_eq_true rfl,decide_eq_true rfl,zaz,cond_false,cond_false]
 cases zaL x.1 y.1 with
 |true=>rfl
 |false=>
  rw [cond_false,cond_false]
  cases(!(false||x.1==y.1))<;>rfl
theorem cmp_lt(a b:Str):decide (cmpV a b<0)=zaL a b:=by
 unfold cmpV
 cases zaL a b with
 |true=>rfl
 |false=>
  rw [cond_false]
  cases(!(false||a==b))<;>rfl
theorem coll_lp(x:List PP)(hx:x.length≤4194304)(q:List PP):∀(p:List PP) (fk:Nat),x=p++q→q.length<fk→
  aah FU x fk (p.length:Int) p=some (x,0):=by
 induction q with
 |nil=>
  intro p fk h hf
  obtain⟨fk,rfl⟩:=fkx fk
  rw [zam]at h
  subst h
  rw [abo,aam,if_neg omg]
 |cons a q ih=>
  intro p fk h hf
  obtain⟨fk,rfl⟩:=fkx fk
  have hlen:=congrArg zbl h
  simp only [zab,zad]at hlen hf
  have hin:(0:Int)≤(p.length:Int)∧(p.length:Int)<(x.length:Int):=by omega
  have he:el x (p.length:Int)=a:=by rw [h];simp [el]
  rw [abo,aam,if_pos hin.2,aaa hin,aaa hin,he]
  unfold acp
  simp only [pp_eta]
  rw [aaa (by simp only [zae];omega),zaa,if_pos rfl,aaa (aef _ omg omg)]
  have:=ih (p++[a]) fk (by rw [h];simp) omg
  rw [show((p++[a]).length:Int)=(p.length:Int)+1 by simp]at this
  exact this
theorem collect_eq(x:List PP)(hx:x.length≤4194304):adi FU x=some x:=by
 have:=coll_lp x hx x [] FU (by simp) (by rw [ahy];omega)
 unfold adi aed abd
 have this':aah FU x FU (0:Int) []=_:=this
 rw [this',zaa,if_pos rfl];rfl
theorem el_at(P S:List PP)(x:PP):el (P++x::S) (P.length:Int)=x:=by simp [el]
theorem ins_lp1(n:Nat):∀(P S:List PP) (x:PP) (fk:Nat),P.length=n→n<fk→P.length+S.length≤1048575→
  aba FU 0 fk (P++x::S) (P.length:Int)=some (insR x P++S):=by
 induction n with
 |zero=>
  intro P S x fk hP hf hl
  obtain⟨fk,rfl⟩:=fkx fk
  obtain rfl:P=[]:=zap hP
  rw [abk,aan,if_neg (by simp)];rfl
 |succ n ih=>
  intro P S x fk hP hf hl
  obtain⟨fk,rfl⟩:=fkx fk
  rcases List.eq_nil_or_concat P with rfl|⟨P',a,rfl⟩
  ·simp at hP
  ·simp only [List.concat_eq_append]at*
   have hP':P'.length=n:=by simp at hP;omega
   have e1:(((P'++[a]).length:Int)-1)=(P'.length:Int):=by simp
   have hj:el (P'++[a]++x::S) ((P'++[a]).length:Int)=x:=el_at _ _ _
   have hj1:el (P'++[a]++x::S) (P'.length:Int)=a:=by rw [zal];exact el_at P' (x::S) a
   have hlen:(P'++[a]++x::S).length=P'.length+2+S.length:=by simp;omega
   have hin:(0:Int)≤((P'++[a]).length:Int)∧((P'++[a]).length:Int)<((P'++[a]++x::S).length:Int):=by rw [hlen];simp;omega
   have hin1:(0:Int)≤(P'.length:Int)∧(P'.length:Int)<((P'++[a]++x::S).length:Int):=by rw [hlen];omega
   have hok:abt (P'.length:Int):=aef _ omg (by simp at hl;omega)
   have ht1:((P'++[a]).length:Int).toNat=P'.length+1:=by simp
   have ht2:((P'.length:Nat):Int).toNat=P'.length:=by omega
   rw [abk,aan,e1]
   simp only [hj,hj1,pp_eta,hs1_eq,zaa,cmp_lt,aaa hin,aaa hin1,aaa hok]
   rw [if_pos (by rw [zab,zae];omega),zaa,less_tri x.1 a.1,insR_snoc]
   have hg:(!(zaL a.1 x.1||a.1==x.1))=gtN a.1 x.1:=rfl
   rw [hg]
   cases gtN a.1 x.1 with
   |false=>rw [cond_false,cond_false];simp
   |true=>
    have hset:zaJ (P'++[a]++x::S) ((P'++[a]).length:Int).toNat a=P'++a::a::S:=by
     rw [ht1,zal,List.set_append_right _ _ omg]
     simp
    have hset2:zaJ (P'++a::a::S) ((P'.length:Nat):Int).toNat x=P'++x::a::S:=by
     rw [ht2,List.set_append_right _ _ omg]
     simp
    rw [cond_true,cond_true,hset,hset2,aaa (by simp;omega),aaa (by simp;omega),ih P' (a::S) x fk hP' omg (by simp at hl⊢;omega)]
    simp
theorem ins_lp0(R:List PP):∀(P:List PP) (fk:Nat) (n:Int),n=((P++R).length:Int)→(P++R).length≤1048575→R.length<fk→
  aak FU 0 n fk (P++R) (P.length:Int)=some (R.foldl (fun out x=>insR x out) P):=by
 induction R with
 |nil=>
  intro P fk n hn hl hf
  obtain⟨fk,rfl⟩:=fkx fk
  rw [aay,aaj,if_neg (by rw [hn];simp)];simp
 |cons a R ih=>
  intro P fk n hn hl hf
  obtain⟨fk,rfl⟩:=fkx fk
  simp only [zab,zad]at hl hf
  rw [aay,aaj,if_pos (by rw [hn];simp;omega),ins_lp1 P.length P R a FU rfl (by rw [ahy];omega) omg,zaa,aaa (aef _ omg omg)]
  have hil:=insR_len a P
  have:=ih (insR a P) fk n (by rw [hn];simp [hil];omega) (by simp only [zab,hil];omega) omg
  rw [hil]at this
  have e:((P.length:Int)+1)=((P.length+1:Nat):Int):=rfl
  rw [e,this];rfl
theorem ins_eq(l:List PP)(hl:l.length≤1048575):aal FU l 0 (l.length:Int)=some (acl l):=by
 unfold aal
 rw [aaa (aef _ omg omg)]
 cases l with
 |nil=>
  obtain⟨m,hm⟩:∃m,FU=m+1:=⟨FU-1,by rw [ahy]⟩
  rw [show(aak FU 0 (([]:List PP).length:Int) FU [] (0+1))=aak FU 0 (([]:List PP).length:Int) (m+1) [] (0+1)by rw [←hm]]
  rw [aay,aaj,if_neg (by simp)];rfl
 |cons a l=>
  have:=ins_lp0 l [a] FU ((a::l).length:Int) rfl hl (by rw [ahy];simp at hl;omega)
  exact this
open Go.IntKind renaming wrap → zac
open List renaming length_set → zaD, set → zaJ
open Sum renaming elim_inl → zaA, elim_inr → zbg
def asl(o:Option (List PP))(n:Nat):Prop:=∃d,o=some d∧d.length=n
theorem alz(a:Int)(h0: -1000≤a)(h:a≤100000):abt a:=⟨by omega,by omega⟩
theorem tIns1(fu:Nat)(a:Nat)(n:Nat):∀(data:List PP) (fk:Nat),n<data.length→data.length≤100→n<fk→asl (aba fu (a:Int) fk data (n:Int)) data.length:=by
 induction n with
 |zero=>
  intro data fk hn hl hf
  obtain⟨fk,rfl⟩:=fkx fk
  rw [abk,aan,if_neg omg]
  exact⟨data,rfl,rfl⟩
 |succ n ih=>
  intro data fk hn hl hf
  obtain⟨fk,rfl⟩:=fkx fk
  have e1:(((n+1:Nat):Int)-1)=(n:Int):=by omega
  have hin:(0:Int)≤((n+1:Nat):Int)∧((n+1:Nat):Int)<(data.length:Int):=by omega
  have hin1:(0:Int)≤(n:Int)∧(n:Int)<(data.length:Int):=by omega
  rw [abk,aan,e1]
  simp only [hs1_eq,zaa,cmp_lt,aaa hin,aaa hin1,aaa (alz (n:Int) omg omg),zaD]
  by_cases h:(a:Int)<((n+1:Nat):Int)
  ·rw [if_pos h,zaa]
   cases zaL (el data ((n+1:Nat):Int)).1 (el data (n:Int)).1 with
   |false=>exact⟨data,rfl,rfl⟩
   |true=>
    rw [cond_true]
    have:=ih (zaJ (zaJ data (((n+1:Nat):Int).toNat) (el data (n:Int))) ((n:Int).toNat) (el data ((n+1:Nat):Int))) fk (by simp only [zaD];omega) (by simp only [zaD];omega) omg
    rw [zaD,zaD]at this
    exact this
  ·rw [if_neg h];exact⟨data,rfl,rfl⟩
theorem tIns0(fu:Nat)(hfu:1000≤fu)(a b:Nat)(m:Nat):∀(data:List PP) (i fk:Nat),b≤i+m→m<fk→b≤data.length→data.length≤100→asl (aak fu (a:Int) (b:Int) fk data (i:Int)) data.length:=by
 induction m with
 |zero=>
  intro data i fk hm hf hb hl
  obtain⟨fk,rfl⟩:=fkx fk
  rw [aay,aaj,if_neg omg]
  exact⟨data,rfl,rfl⟩
 |succ m ih=>
  intro data i fk hm hf hb hl
  obtain⟨fk,rfl⟩:=fkx fk
  rw [aay,aaj]
  by_cases h:(i:Int)<(b:Int)
  ·obtain⟨d,h1,h2⟩:=tIns1 fu a i data fu omg hl omg
   rw [if_pos h,h1,zaa,aaa (alz _ omg omg)]
   have:=ih d (i+1) fk omg omg omg omg
   rw [h2]at this
   exact this
  ·rw [if_neg h];exact⟨data,rfl,rfl⟩
theorem tIns(fu:Nat)(hfu:1000≤fu)(a b:Nat)(data:List PP)(ha:a≤100)(hb:b≤data.length)(hl:data.length≤100):asl (aal fu data (a:Int) (b:Int)) data.length:=by
 unfold aal
 rw [aaa (alz _ omg omg)]
 exact tIns0 fu hfu a b 100 data (a+1) fu omg omg hb hl
theorem tSwap0(fu:Nat)(a b n:Nat)(m:Nat):∀(data:List PP) (i fk:Nat),n≤i+m→m<fk→a+n≤data.length→b+n≤data.length→data.length≤100→asl (acd fu (a:Int) (b:Int) (n:Int) fk data (i:Int)) data.length:=by
 induction m with
 |zero=>
  intro data i fk hm hf ha hb hl
  obtain⟨fk,rfl⟩:=fkx fk
  rw [aet,abv,if_neg omg]
  exact⟨data,rfl,rfl⟩
 |succ m ih=>
  intro data i fk hm hf ha hb hl
  obtain⟨fk,rfl⟩:=fkx fk
  rw [aet,abv]
  by_cases h:(i:Int)<(n:Int)
  ·have hA:(0:Int)≤(a:Int)+(i:Int)∧(a:Int)+(i:Int)<(data.length:Int):=by omega
   have hB:(0:Int)≤(b:Int)+(i:Int)∧(b:Int)+(i:Int)<(data.length:Int):=by omega
   rw [if_pos h]
   simp only [aaa hA,aaa hB,aaa (alz ((a:Int)+(i:Int)) omg omg),aaa (alz ((b:Int)+(i:Int)) omg omg),aaa (alz ((i:Int)+1) omg omg),zaD]
   have:=ih (zaJ (zaJ data ((a:Int)+(i:Int)).toNat (el data ((b:Int)+(i:Int)))) ((b:Int)+(i:Int)).toNat (el data ((a:Int)+(i:Int)))) (i+1) fk omg omg (by simp only [zaD];omega) (by simp only [zaD];omega) (by simp only [zaD];omega)
   rw [zaD,zaD]at this
   exact this
  ·rw [if_neg h];exact⟨data,rfl,rfl⟩
theorem tSwap(fu:Nat)(hfu:1000≤fu)(a b n:Int)(data:List PP)(ha0:0≤a)(hb0:0≤b)(hn0:0≤n)(ha:a+n≤data.length)(hb:b+n≤data.length)(hl:data.length≤100):asl (abc fu data a b n) data.length:=by
 obtain⟨a,rfl⟩:∃k:Nat,a=(k:Int):=⟨a.toNat,by omega⟩
 obtain⟨b,rfl⟩:∃k:Nat,b=(k:Int):=⟨b.toNat,by omega⟩
 obtain⟨n,rfl⟩:∃k:Nat,n=(k:Int):=⟨n.toNat,by omega⟩
 unfold abc
 exact tSwap0 fu a b n n data 0 fu omg omg omg omg hl
theorem tRot0(fu:Nat)(hfu:1000≤fu)(m:Nat)(t:Nat):∀(data:List PP) (i j:Int) (fk:Nat),i+j≤(t:Int)→t<fk→0<i→0<j→i≤(m:Int)→(m:Int)+j≤(data.length:Int)→data.length≤100→
  ∃d i',aco fu (m:Int) fk data i j=some (d,i')∧d.length=data.length∧0≤i'∧i'≤(m:Int)∧(m:Int)+i'≤(data.length:Int):=by
 induction t with
 |zero=>intro data i j fk h;omega
 |succ t ih=>
  intro data i j fk h hf hi hj him hjm hl
  obtain⟨fk,rfl⟩:=fkx fk
  rw [akj,adl]
  by_cases hij:i=j
  ·rw [if_pos hij];exact⟨data,i,rfl,rfl,by omega,by omega,by omega⟩
  ·rw [if_neg hij]
   by_cases hlt:j<i
   ·obtain⟨d,h1,h2⟩:=tSwap fu hfu ((m:Int)-i) (m:Int) j data omg omg omg omg omg hl
    rw [if_pos hlt,aaa (alz _ omg omg),h1,zaa,aaa (alz _ omg omg)]
    have:=ih d (i-j) j fk omg omg omg omg omg omg omg
    rw [h2]at this
    exact this
   ·obtain⟨d,h1,h2⟩:=tSwap fu hfu ((m:Int)-i) ((m:Int)+j-i) i data omg omg omg omg omg hl
    rw [if_neg hlt,aaa (alz _ omg omg),aaa (alz _ omg omg),aaa (alz _ omg omg),h1,zaa,aaa (alz _ omg omg)]
    have:=ih d i (j-i) fk omg omg omg omg omg omg omg
    rw [h2]at this
    exact this
theorem tRot(fu:Nat)(hfu:1000≤fu)(data:List PP)(a m b:Int)(ha:0≤a)(ham:a<m)(hmb:m<b)(hb:b≤(data.length:Int))(hl:data.length≤100):asl (abu fu data a m b) data.length:=by
 obtain⟨m,rfl⟩:∃k:Nat,m=(k:Int):=⟨m.toNat,by omega⟩
 unfold abu
 obtain⟨d,i',h1,h2,h3,h4,h5⟩:=tRot0 fu hfu m 200 data ((m:Int)-a) (b-(m:Int)) fu omg omg omg omg omg omg hl
 obtain⟨e,h6,h7⟩:=tSwap fu hfu ((m:Int)-i') (m:Int) i' d omg omg omg omg omg omg
 rw [aaa (alz _ omg omg),aaa (alz _ omg omg),h1,zaa]
 simp only
 rw [aaa (alz _ omg omg),h6,zaa]
 exact⟨e,rfl,by omega⟩
theorem wmid(x:Int)(h0:0≤x)(h1:x≤100000):zac .i64 ((zac .u64 x)/2)=x/2:=by
 rw [IntKind.wrap_u64,Int.emod_eq_of_lt h0 omg,aua omg omg]
theorem tM0(fu:Nat)(data:List PP)(hl:data.length≤100)(a:Int)(ha:0≤a∧a<(data.length:Int))(t:Nat):∀(i j:Int) (fk:Nat),j-i≤(t:Int)→t<fk→0≤i→i≤j→j≤(data.length:Int)→
  ∃k,aci fu data a fk i j=some k∧i≤k∧k≤j:=by
 induction t with
 |zero=>
  intro i j fk h hf h0 hij hj
  obtain⟨fk,rfl⟩:=fkx fk
  rw [afc,acb,if_neg omg]
  exact⟨i,rfl,by omega,hij⟩
 |succ t ih=>
  intro i j fk h hf h0 hij hj
  obtain⟨fk,rfl⟩:=fkx fk
  rw [afc,acb]
  by_cases hlt:i<j
  ·rw [if_pos hlt,aaa (alz _ omg omg),wmid _ omg omg]
   have hm:0≤(i+j)/2∧(i+j)/2<(data.length:Int):=by omega
   simp only [aaa hm,aaa ha,hs1_eq,zaa]
   by_cases hc:cmpV (el data ((i+j)/2)).1 (el data a).1<0
   ·rw [if_pos hc,aaa (alz _ omg omg)]
    obtain⟨k,h1,h2,h3⟩:=ih ((i+j)/2+1) j fk omg omg omg omg hj
    exact⟨k,h1,by omega,h3⟩
   ·rw [if_neg hc]
    obtain⟨k,h1,h2,h3⟩:=ih i ((i+j)/2) fk omg omg omg omg omg
    exact⟨k,h1,h2,by omega⟩
  ·rw [if_neg hlt];exact⟨i,rfl,by omega,hij⟩
theorem tM2(fu:Nat)(data:List PP)(hl:data.length≤100)(a:Int)(ha:0≤a∧a<(data.length:Int))(t:Nat):∀(i j:Int) (fk:Nat),j-i≤(t:Int)→t<fk→0≤i→i≤j→j≤(data.length:Int)→
  ∃k,acg fu data a fk i j=some k∧i≤k∧k≤j:=by
 induction t with
 |zero=>
  intro i j fk h hf h0 hij hj
  obtain⟨fk,rfl⟩:=fkx fk
  rw [afa,abz,if_neg omg]
  exact⟨i,rfl,by omega,hij⟩
 |succ t ih=>
  intro i j fk h hf h0 hij hj
  obtain⟨fk,rfl⟩:=fkx fk
  rw [afa,abz]
  by_cases hlt:i<j
  ·rw [if_pos hlt,aaa (alz _ omg omg),wmid _ omg omg]
   have hm:0≤(i+j)/2∧(i+j)/2<(data.length:Int):=by omega
   simp only [aaa hm,aaa ha,hs1_eq,zaa]
   by_cases hc:cmpV (el data a).1 (el data ((i+j)/2)).1<0
   ·rw [if_pos hc]
    obtain⟨k,h1,h2,h3⟩:=ih i ((i+j)/2) fk omg omg omg omg omg
    exact⟨k,h1,h2,by omega⟩
   ·rw [if_neg hc,aaa (alz _ omg omg)]
    obtain⟨k,h1,h2,h3⟩:=ih ((i+j)/2+1) j fk omg omg omg omg hj
    exact⟨k,h1,by omega,h3⟩
  ·rw [if_neg hlt];exact⟨i,rfl,by omega,hij⟩
theorem tM1(fu:Nat)(v:Int)(t:Nat):∀(data:List PP) (k:Int) (fk:Nat),v-k≤(t:Int)→t<fk→0≤k→v≤(data.length:Int)→0≤v→k≤1000→data.length≤100→asl (ach fu v fk data k) data.length:=by
 induction t with
 |zero=>
  intro data k fk h hf hk hv h0 h1 hl
  obtain⟨fk,rfl⟩:=fkx fk
  rw [afb,aca,aaa (alz _ omg omg),if_neg omg]
  exact⟨data,rfl,rfl⟩
 |succ t ih=>
  intro data k fk h hf hk hv h0 h1 hl
  obtain⟨fk,rfl⟩:=fkx fk
  rw [afb,aca,aaa (alz _ omg omg)]
  by_cases hlt:k<v-1
  ·have hA:(0:Int)≤k∧k<(data.length:Int):=by omega
   have hB:(0:Int)≤k+1∧k+1<(data.length:Int):=by omega
   rw [if_pos hlt]
   simp only [aaa hA,aaa hB,aaa (alz (k+1) omg omg),zaD]
   have:=ih (zaJ (zaJ data k.toNat (el data (k+1))) (k+1).toNat (el data k)) (k+1) fk omg omg omg (by simp only [zaD];omega) h0 omg (by simp only [zaD];omega)
   rw [zaD,zaD]at this
   exact this
  ·rw [if_neg hlt];exact⟨data,rfl,rfl⟩
theorem tM3(fu:Nat)(v:Int)(hv:0≤v)(t:Nat):∀(data:List PP) (k:Int) (fk:Nat),k-v≤(t:Int)→t<fk→k<(data.length:Int)→data.length≤100→asl (acf fu v fk data k) data.length:=by
 induction t with
 |zero=>
  intro data k fk h hf hk hl
  obtain⟨fk,rfl⟩:=fkx fk
  rw [aez,aby,if_neg omg]
  exact⟨data,rfl,rfl⟩
 |succ t ih=>
  intro data k fk h hf hk hl
  obtain⟨fk,rfl⟩:=fkx fk
  rw [aez,aby]
  by_cases hlt:v<k
  ·have hA:(0:Int)≤k∧k<(data.length:Int):=by omega
   have hB:(0:Int)≤k-1∧k-1<(data.length:Int):=by omega
   rw [if_pos hlt]
   simp only [aaa hA,aaa hB,aaa (alz (k-1) omg omg),zaD]
   have:=ih (zaJ (zaJ data k.toNat (el data (k-1))) (k-1).toNat (el data k)) (k-1) fk omg omg (by simp only [zaD];omega) (by simp only [zaD];omega)
   rw [zaD,zaD]at this
   exact this
  ·rw [if_neg hlt];exact⟨data,rfl,rfl⟩
theorem tM4(fu:Nat)(data:List PP)(hl:data.length≤100)(a m b:Int)(h0:0≤a)(hab:a+b≤200)(hb0:0≤b)(hm0:0≤m)(hm1:m≤100)(lo hi:Int)(hlo:0≤lo)(hhi:hi≤(data.length:Int))
  (hp:∀c,lo≤c→c<hi→0≤((a+b)/2+m-1)-c∧((a+b)/2+m-1)-c<(data.length:Int)) (t:Nat):∀(i j:Int) (fk:Nat),j-i≤(t:Int)→t<fk→lo≤i→i≤j→j≤hi→
  ∃k,ace fu data a m b fk i j=some k∧i≤k∧k≤j:=by
 induction t with
 |zero=>
  intro i j fk h hf h1 hij hj
  obtain⟨fk,rfl⟩:=fkx fk
  rw [aey,abx,if_neg omg]
  exact⟨i,rfl,by omega,hij⟩
 |succ t ih=>
  intro i j fk h hf h1 hij hj
  obtain⟨fk,rfl⟩:=fkx fk
  rw [aey,abx]
  by_cases hlt:i<j
  ·have hpc:=hp ((i+j)/2) omg omg
   have hm:0≤(i+j)/2∧(i+j)/2<(data.length:Int):=by omega
   rw [if_pos hlt,aaa (alz _ omg omg),wmid (i+j) omg omg,wmid (a+b) omg omg]
   simp only [aaa hm,aaa hpc,aaa (alz ((a+b)/2+m-1-(i+j)/2) omg omg),hs1_eq,zaa]
   by_cases hc:cmpV (el data ((a+b)/2+m-1-(i+j)/2)).1 (el data ((i+j)/2)).1<0
   ·rw [if_pos hc]
    obtain⟨k,g1,g2,g3⟩:=ih i ((i+j)/2) fk omg omg omg omg omg
    exact⟨k,g1,g2,by omega⟩
   ·rw [if_neg hc,aaa (alz _ omg omg)]
    obtain⟨k,g1,g2,g3⟩:=ih ((i+j)/2+1) j fk omg omg omg omg hj
    exact⟨k,g1,by omega,g3⟩
  ·rw [if_neg hlt];exact⟨i,rfl,by omega,hij⟩
theorem tSym(z:Nat):∀(fu:Nat) (data:List PP) (a m b:Int),b-a≤(z:Int)→z+1001≤fu→0≤a→a<m→m<b→b≤(data.length:Int)→data.length≤100→asl (aai fu data a m b) data.length:=by
 induction z with
 |zero=>intro fu data a m b h;omega
 |succ z ih=>
  intro fu data a m b h hf ha ham hmb hb hl
  obtain⟨fu,rfl⟩:∃k,fu=k+1:=⟨fu-1,by omega⟩
  rw [aai,aaa (alz _ omg omg)]
  by_cases h1:m-a=1
  ·obtain⟨k,g1,g2,g3⟩:=tM0 fu data hl a omg 200 m b fu omg omg omg omg hb
   obtain⟨d,g4,g5⟩:=tM1 fu k 200 data a fu omg omg ha omg omg omg hl
   rw [if_pos h1,g1,zaa,g4,zaa,zaa,zbg]
   exact⟨d,rfl,g5⟩
  ·rw [if_neg h1,zaa,zaA,aaa (alz _ omg omg)]
   by_cases h2:b-m=1
   ·obtain⟨k,g1,g2,g3⟩:=tM2 fu data hl m omg 200 a m fu omg omg ha omg omg
    obtain⟨d,g4,g5⟩:=tM3 fu k omg 200 data m fu omg omg omg hl
    rw [if_pos h2,g1,zaa,g4,zaa,zaa,zbg]
    exact⟨d,rfl,g5⟩
   ·rw [if_neg h2,zaa,zaA,aaa (alz _ omg omg),wmid (a+b) omg omg,aaa (alz _ omg omg)]
    have hpair:∃lo hi:Int,(if(a+b)/2<m then gd (abt ((a+b)/2+m-b)) (some ((a+b)/2+m-b,(a+b)/2))else some (a,m))=some (lo,hi)∧a≤lo∧lo≤hi∧hi≤m∧hi≤(a+b)/2∧(∀c,lo≤c→c≤hi→(a+b)/2+m-c≤b∧m≤(a+b)/2+m-c):=by
     by_cases hmm:(a+b)/2<m
     ·exact⟨_,_,by rw [if_pos hmm,aaa (alz _ omg omg)],by omega,by omega,by omega,by omega,fun c h1 h2=>by omega⟩
     ·exact⟨a,m,by rw [if_neg hmm],by omega,by omega,by omega,by omega,fun c h1 h2=>by omega⟩
    obtain⟨lo,hi,e,p1,p2,p3,p4,p5⟩:=hpair
    rw [e,zaa,aaa (alz _ omg omg)]
    simp only
    obtain⟨st,g1,g2,g3⟩:=tM4 fu data hl a m b ha omg omg omg omg lo hi omg omg (fun c c1 c2=>by have:=p5 c c1 omg;omega) 200 lo hi fu omg omg omg p2 omg
    have p6:=p5 st g2 g3
    rw [g1,zaa,aaa (alz _ omg omg)]
    have hrot:∃d1,(((if st<m then some (decide (m<(a+b)/2+m-st))else some false)).bind fun(v1323:Bool)=>(bif v1323 then((abu fu data st m ((a+b)/2+m-st)).bind fun(y1328:List PP)=>some y1328)else some data))=some d1∧d1.length=data.length:=by
     by_cases c1:st<m
     ·rw [if_pos c1,zaa]
      by_cases c2:m<(a+b)/2+m-st
      ·obtain⟨d,k1,k2⟩:=tRot fu omg data st m ((a+b)/2+m-st) omg c1 c2 omg hl
       rw [decide_eq_true c2,cond_true,k1];exact⟨d,rfl,k2⟩
      ·rw [decide_eq_false c2];exact⟨data,rfl,rfl⟩
     ·rw [if_neg c1];exact⟨data,rfl,rfl⟩
    obtain⟨d1,r1,r2⟩:=hrot
    rw [r1,zaa]
    have hs1:∃d2,(((if a<st then some (decide (st<(a+b)/2))else some false)).bind fun(v1360:Bool)=>(bif v1360 then((aai fu d1 a st ((a+b)/2)).bind fun(y1365:List PP)=>some y1365)else some d1))=some d2∧d2.length=data.length:=by
     by_cases c1:a<st
     ·rw [if_pos c1,zaa]
      by_cases c2:st<(a+b)/2
      ·obtain⟨d,k1,k2⟩:=ih fu d1 a st ((a+b)/2) omg omg ha c1 c2 omg omg
       rw [decide_eq_true c2,cond_true,k1];exact⟨d,rfl,by omega⟩
      ·rw [decide_eq_false c2];exact⟨d1,rfl,r2⟩
     ·rw [if_neg c1];exact⟨d1,rfl,r2⟩
    obtain⟨d2,s1,s2⟩:=hs1
    rw [s1,zaa]
    by_cases c1:(a+b)/2<(a+b)/2+m-st
    ·rw [if_pos c1,zaa]
     by_cases c2:(a+b)/2+m-st<b
     ·obtain⟨d,k1,k2⟩:=ih fu d2 ((a+b)/2) ((a+b)/2+m-st) b omg omg omg c1 c2 omg omg
      rw [decide_eq_true c2,cond_true,k1];exact⟨d,rfl,by omega⟩
     ·rw [decide_eq_false c2];exact⟨d2,rfl,s2⟩
    ·rw [if_neg c1];exact⟨d2,rfl,s2⟩
open Bool renaming and_eq_true → zai, not_false → zaH, not_true → zaz, true_and → zaS
open Go.Lib renaming cut → zaW, index → zaN
open List renaming all_cons → zaR, cons_append → zay, drop_left → zbi, length_append → zab, length_cons → zad, length_nil → zaj, length_singleton → zae, take_left → zbv
theorem tSt0(n:Nat)(t:Nat):∀(data:List PP) (a b fk:Nat),n<b+t→t<fk→a≤n→n=data.length→data.length≤100→
  ∃d a':_,aar FU (n:Int) fk data (a:Int) (b:Int)=some (d,((a':Nat):Int))∧d.length=data.length∧a'≤n:=by
 induction t with
 |zero=>
  intro data a b fk h hf ha hn hl
  obtain⟨fk,rfl⟩:=fkx fk
  rw [adf,abg,if_neg omg]
  exact⟨data,a,rfl,rfl,ha⟩
 |succ t ih=>
  intro data a b fk h hf ha hn hl
  obtain⟨fk,rfl⟩:=fkx fk
  rw [adf,abg]
  by_cases hb:(b:Int)≤(n:Int)
  ·obtain⟨d,h1,h2⟩:=tIns FU (by rw [ahy];omega) a b data omg omg hl
   rw [if_pos hb,h1,zaa,aaa (alz _ omg omg)]
   have:=ih d b (b+20) fk omg omg omg omg omg
   rw [h2]at this
   exact this
  ·rw [if_neg hb];exact⟨data,a,rfl,rfl,ha⟩
theorem tSt2(n bs:Nat)(hbs:1≤bs)(hbs2:bs≤1000)(t:Nat):∀(data:List PP) (a b fk:Nat),n<b+t→t<fk→a≤n→b=a+2*bs→n=data.length→data.length≤100→
  ∃d a':_,abj FU (n:Int) (bs:Int) fk data (a:Int) (b:Int)=some (d,((a':Nat):Int))∧d.length=data.length∧a'≤n:=by
 induction t with
 |zero=>
  intro data a b fk h hf ha hab hn hl
  obtain⟨fk,rfl⟩:=fkx fk
  rw [afh,acm,if_neg omg]
  exact⟨data,a,rfl,rfl,ha⟩
 |succ t ih=>
  intro data a b fk h hf ha hab hn hl
  obtain⟨fk,rfl⟩:=fkx fk
  rw [afh,acm]
  by_cases hb:(b:Int)≤(n:Int)
  ·obtain⟨d,h1,h2⟩:=tSym 100 FU data (a:Int) ((a:Int)+(bs:Int)) (b:Int) omg (by rw [ahy];omega) omg omg omg omg hl
   rw [if_pos hb,aaa (alz _ omg omg),h1,zaa,aaa (alz _ omg omg),aaa (alz _ omg omg)]
   have:=ih d b (b+2*bs) fk omg omg omg rfl omg omg
   rw [h2]at this
   have e:(b:Int)+2*(bs:Int)=((b+2*bs:Nat):Int):=by omega
   rw [e]
   exact this
  ·rw [if_neg hb];exact⟨data,a,rfl,rfl,ha⟩
theorem tSt1(n:Nat)(t:Nat):∀(data:List PP) (bs fk:Nat),n<bs+t→t<fk→1≤bs→bs≤200→n=data.length→data.length≤100→asl (aaq FU (n:Int) fk data (bs:Int)) data.length:=by
 induction t with
 |zero=>
  intro data bs fk h hf h1 h2 hn hl
  obtain⟨fk,rfl⟩:=fkx fk
  rw [ade,abf,if_neg omg]
  exact⟨data,rfl,rfl⟩
 |succ t ih=>
  intro data bs fk h hf h1 h2 hn hl
  obtain⟨fk,rfl⟩:=fkx fk
  rw [ade,abf]
  by_cases hb:(bs:Int)<(n:Int)
  ·obtain⟨d,a',g1,g2,g3⟩:=tSt2 n bs h1 omg 200 data 0 (2*bs) FU omg (by rw [ahy];omega) omg omg hn hl
   have g1':abj FU (n:Int) (bs:Int) FU data (0:Int) ((2:Int)*(bs:Int))=some (d,((a':Nat):Int)):=g1
   rw [if_pos hb,aaa (alz _ omg omg),g1',zaa]
   simp only
   rw [aaa (alz _ omg omg)]
   have e:(bs:Int)*2=((bs*2:Nat):Int):=by omega
   by_cases hc:(a':Int)+(bs:Int)<(n:Int)
   ·obtain⟨d2,k1,k2⟩:=tSym 100 FU d (a':Int) ((a':Int)+(bs:Int)) (n:Int) omg (by rw [ahy];omega) omg omg omg omg omg
    rw [if_pos hc,k1,zaa,aaa (alz _ omg omg),e]
    have:=ih d2 (bs*2) fk omg omg omg omg omg omg
    rw [k2,g2]at this
    exact this
   ·rw [if_neg hc,aaa (alz _ omg omg),e]
    have:=ih d (bs*2) fk omg omg omg omg omg omg
    rw [g2]at this
    exact this
  ·rw [if_neg hb];exact⟨data,rfl,rfl⟩
theorem sorted_keeps(l:List PP)(hl:l.length≤100):asl (acz FU l) l.length:=by
 unfold acz aib aaw abp acv
 obtain⟨d,a',g1,g2,g3⟩:=tSt0 l.length 200 l 0 20 FU omg (by rw [ahy];omega) omg rfl hl
 have g1':aar FU (l.length:Int) FU l (0:Int) (20:Int)=some (d,((a':Nat):Int)):=g1
 obtain⟨d2,k1,k2⟩:=tIns FU (by rw [ahy];omega) a' l.length d omg omg omg
 obtain⟨d3,m1,m2⟩:=tSt1 l.length 200 d2 20 FU omg (by rw [ahy];omega) omg omg omg omg
 have m1':aaq FU (l.length:Int) FU d2 (20:Int)=some d3:=m1
 rw [zaa,collect_eq l omg,zaa,g1',zaa]
 simp only
 rw [k1,zaa,m1',zaa,zaa,zaa]
 exact⟨d3,rfl,by omega⟩
theorem sorted_eq(l:List PP)(hl:l.length<20):acz FU l=some (acl l):=by
 unfold acz aib aaw abp acv
 obtain⟨m,hm⟩:∃m,FU=m+1:=⟨FU-1,by rw [ahy]⟩
 have g1:aar FU (l.length:Int) FU l (0:Int) (20:Int)=some (l,0):=by
  have:∀k,aar FU (l.length:Int) (k+1) l (0:Int) (20:Int)=some (l,0):=fun k=>by
   rw [adf,abg,if_neg omg]
  have:=this m
  rw [←hm]at this
  exact this
 have g2:aaq FU (l.length:Int) FU (acl l) (20:Int)=some (acl l):=by
  have:∀k,aaq FU (l.length:Int) (k+1) (acl l) (20:Int)=some (acl l):=fun k=>by
   rw [ade,abf,if_neg omg]
  have:=this m
  rw [←hm]at this
  exact this
 rw [zaa,collect_eq l omg,zaa,g1,zaa]
 simp only
 rw [ins_eq l omg,zaa,g2];rfl
theorem idx47(c:UInt8):∀v:Str,(zaN v [c]= -1∧∀b∈v,b≠c)∨(∃f s2,v=f++c::s2∧(∀b∈f,b≠c)∧zaN v [c]=(f.length:Int))
 |[]=>.inl ⟨rfl,by simp⟩
 |b::l=>by
  rw [awf]
  have e:([c]:Str).isPrefixOf (b::l)=(c==b):=by simp [List.isPrefixOf]
  rw [e]
  by_cases h:b=c
  ·subst h
   right
   exact⟨[],l,rfl,by simp,by rw [if_pos (by simp)];rfl⟩
  ·rw [if_neg (by simpa using fun x=>h x.symm)]
   rcases idx47 c l with⟨h1,h2⟩|⟨f,s2,h1,h2,h3⟩
   ·left
    rw [if_pos h1]
    exact⟨rfl,fun x hx=>by rcases List.mem_cons.1 hx with rfl|hx;exact h;exact h2 x hx⟩
   ·right
    refine⟨b::f,s2,by rw [h1];rfl,fun x hx=>by rcases List.mem_cons.1 hx with rfl|hx;exact h;exact h2 x hx, ?_⟩
    rw [if_neg omg,h3,zad];omega
def cutOk(v:Str):Bool:=ahi (zaW v [47]).1&&(!(zaW v [47]).2.2||ahi (zaW v [47]).2.1)
theorem tok47:aaf 47=false:=by decide
theorem span_all_iff(p:UInt8→Bool)(l:Str):l.all p=decide (ahv p l=l.length):=by
 have:=span_eq_iff p l
 rw [Bool.eq_iff_iff,decide_eq_true_eq];exact this.symm
theorem span_part(p:UInt8→Bool):∀(f:Str) (c:UInt8) (s2:Str),f.all p=false→ahv p (f++c::s2)<f.length∧p (at_ (f++c::s2) (ahv p (f++c::s2):Int))=false
 |[],c,s2,h=>by cases h
 |a::f,c,s2,h=>by
  cases ha:p a with
  |false=>
   rw [zay,awo p a _ ha]
   exact⟨by simp,by simpa [at_] using ha⟩
  |true=>
   rw [zaR,ha,zaS]at h
   have ih:=span_part p f c s2 h
   have e:ahv p (a::f++c::s2)=ahv p (f++c::s2)+1:=by rw [zay,ahv,if_pos ha]
   rw [e]
   refine⟨by rw [zad];omega, ?_⟩
   have:=ih.2
   simpa [at_] using this
theorem item_cut(v:Str):cutOk v=decide (v≠[]∧itemE v=v.length):=by
 unfold cutOk itemE
 rw [skipL_zero,cut_eq]
 have hle:=ape aaf v
 rcases idx47 47 v with⟨h1,h2⟩|⟨f,s2,h1,h2,h3⟩
 ·rw [if_pos h1]
  simp only [zaH,Bool.true_or,Bool.and_true]
  have hs:aep v (ahv aaf v) 47=false:=by
   cases h:aep v (ahv aaf v) 47 with
   |false=>rfl
   |true=>
    have:=ags h
    exact absurd this.2 (h2 _ (at_mem v _ this.1))
  rw [hs,if_neg (show¬(false=true)by decide)]
  unfold ahi
  rw [span_all_iff,Bool.eq_iff_iff]
  simp only [zai,Bool.not_eq_true',List.isEmpty_eq_false_iff,decide_eq_true_eq]
  constructor
  ·rintro⟨a,b⟩
   have:=List.length_pos_iff.2 a
   exact⟨a,by rw [if_neg omg];exact b⟩
  ·rintro⟨a,b⟩
   have:=List.length_pos_iff.2 a
   refine⟨a, ?_⟩
   split at b
   ·omega
   ·exact b
 ·rw [if_neg omg,h3]
  have et:((f.length:Nat):Int).toNat=f.length:=by omega
  have e1:v.take f.length=f:=by rw [h1,zbv]
  have e2:v.drop (f.length+([47]:Str).length)=s2:=by
   rw [h1,zae,show f++47::s2=(f++[47])++s2 by simp,show f.length+1=(f++[47]).length by simp,zbi]
  rw [et,e1,e2]
  simp only [zaz,Bool.false_or]
  have hvl:v.length=f.length+1+s2.length:=by rw [h1];simp;omega
  have hne:v≠[]:=by intro e;rw [e,zaj]at hvl;omega
  cases hf:f.all aaf with
  |false=>
   have hsp:=span_part aaf f 47 s2 hf
   rw [←h1]at hsp
   have hs:aep v (ahv aaf v) 47=false:=by
    cases h:aep v (ahv aaf v) 47 with
    |false=>rfl
    |true=>
     exfalso
     have ha:=(ags h).2
     have hm:at_ v (ahv aaf v:Int)∈f:=by
      have:at_ v (ahv aaf v:Int)=at_ f (ahv aaf v:Int):=by
       rw [h1]
       simp only [at_,List.getD_eq_getElem?_getD]
       rw [List.getElem?_append_left (by rw [←h1];omega)]
      rw [this];exact at_mem f _ hsp.1
     exact h2 _ hm ha
   have ht:ahi f=false:=by unfold ahi;rw [hf,Bool.and_false]
   rw [ht,Bool.false_and,hs,if_neg (show¬(false=true)by decide)]
   symm
   rw [decide_eq_false_iff_not]
   rintro⟨_,b⟩
   split at b<;>omega
  |true=>
   have hsp:ahv aaf v=f.length:=by rw [h1,asm aaf f _ hf,awo aaf 47 s2 tok47];omega
   have hat:at_ v ((f.length:Nat):Int)=47:=by rw [h1,at_mid]
   have hs:aep v (ahv aaf v) 47=true:=by
    unfold aep
    rw [hsp,hat,decide_eq_true omg];rfl
   have hsk:aap aaf v ((f.length+1:Nat):Int)=f.length+1+ahv aaf s2:=by
    unfold aap
    rw [aks _ _ omg]
    have:v.drop (f.length+1)=s2:=by rw [←e2,zae]
    rw [this]
   rw [hs,if_pos rfl,hsp,hsk]
   unfold ahi
   rw [hf,Bool.and_true,span_all_iff]
   have hl2:=ape aaf s2
   rw [Bool.eq_iff_iff]
   simp only [zai,Bool.not_eq_true',List.isEmpty_eq_false_iff,decide_eq_true_eq]
   constructor
   ·rintro⟨a,b,c⟩
    have ha:=List.length_pos_iff.2 a
    have hb:=List.length_pos_iff.2 b
    refine⟨hne, ?_⟩
    rw [if_neg omg,if_neg omg];omega
   ·rintro⟨_,b⟩
    by_cases h0:f.length=0
    ·rw [if_pos h0]at b;omega
    ·rw [if_neg h0]at b
     by_cases h4:f.length+1+ahv aaf s2=f.length+1
     ·rw [if_pos h4]at b;omega
     ·rw [if_neg h4]at b
      exact⟨fun e=>h0 (by rw [e];rfl),fun e=>by rw [e]at h4;simp [ahv]at h4,by omega⟩
theorem ppM_len(l:List PP)(hb:∀p∈l,p.1.length≤4194304∧p.2.1.length≤4194304):(ppM l).1.length≤256000000:=by
 unfold ppM
 split
 ·simp
 ·rename_i h
  cases hp:ppL [] l with
  |none=>simp
  |some t=>
   have:=ppL_len l [] t hb hp
   simp only
   omega
def anl(x:Str×List PP):Str×UInt8:=if cutOk x.1=true∧(ppM (acl x.2)).2=0 then(x.1++(ppM (acl x.2)).1,0)else([],2)
theorem long_eq2(l:List PP)(h:16<l.length):abr FU l=some ([],2):=by
 unfold abr;rw [if_pos omg]
theorem printItem_eq(x:Str×List PP)(h1:x.1.length≤4194304)(hl:x.2.length≤40)(hb:∀p∈x.2,p.1.length≤4194304∧p.2.1.length≤4194304):aof FU x=some (anl x):=by
 have hb':∀p∈acl x.2,p.1.length≤4194304∧p.2.1.length≤4194304:=fun p hp=>hb p (awe _ p hp)
 have hil:=isort_len x.2
 have hpl:=ppM_len (acl x.2) hb'
 have hc:=cut_len x.1 [47]
 unfold aof anl
 rw [aaa omg,awm _ omg,zaa]
 have e:(bif (!ahi (zaW x.1 [47]).1)then some true else(bif ((zaW x.1 [47]).2.2)then((agy FU ((zaW x.1 [47]).2.1)).bind fun(y31:Bool)=>some (!y31))else some false))=some (!cutOk x.1):=by
  unfold cutOk
  rw [awm _ omg]
  cases ahi (zaW x.1 [47]).1<;>cases(zaW x.1 [47]).2.2<;>simp
 rw [e,zaa]
 cases hk:cutOk x.1 with
 |false=>rw [zaH,cond_true,if_neg (fun h=>absurd h.1 (by decide))]
 |true=>
  rw [zaz,cond_false]
  obtain⟨y,hy1,hy2⟩:∃y,((acz FU x.2).bind fun(y39:List PP)=>((abr FU y39).bind fun(y47:(Str×UInt8))=>(if y47.2=(0:UInt8)then(gd (x.1.length+y47.1.length≤9223372036854775807)<|some (x.1++y47.1,(0:UInt8)))else some (([]:Str),(2:UInt8)))))=(if(ppM (acl x.2)).2=(0:UInt8)then(gd (x.1.length+(ppM (acl x.2)).1.length≤9223372036854775807)<|some (x.1++(ppM (acl x.2)).1,(0:UInt8)))else some (([]:Str),(2:UInt8)))∧y=0:=by
   refine⟨0, ?_,rfl⟩
   by_cases h16:16<x.2.length
   ·obtain⟨d,g1,g2⟩:=sorted_keeps x.2 omg
    have hm:ppM (acl x.2)=([],2):=by unfold ppM;rw [if_pos omg]
    rw [g1,zaa,long_eq2 d omg,zaa,hm]
   ·rw [sorted_eq x.2 omg,zaa,avj _ hb',zaa]
  rw [hy1]
  by_cases h4:(ppM (acl x.2)).2=0
  ·rw [if_pos h4,aaa omg,if_pos ⟨rfl,h4⟩]
  ·rw [if_neg h4,if_neg (fun h=>h4 h.2)]
theorem parM_len(s:Str):∀(f:Nat) (l:List PP) (i:Nat),l.length≤16→(parM s f l i).1.length≤16
 |0,_,_,_=>by simp [parM]
 |f+1,l,i,h=>by
  rw [parM]
  split
  ·exact h
  ·split
   ·simp
   ·split
    ·split
     ·rename_i hr
      have hl16:=((room0 l _).1 hr).2
      exact parM_len s f _ _ (by simp only [zab,zae];omega)
     ·simp
    ·simp
theorem itemP_len(v:Str):(aur v).1.2.length≤16:=by
 unfold aur
 split
 ·simp
 ·split
  ·exact parM_len _ _ _ _ (by simp)
  ·simp
end Go.Wk
set_option maxRecDepth 20000
namespace Go.Wk
open Go.Px
open Bool renaming true_and → zaS
open List renaming all_cons → zaR, append_nil → zam, length → zbl, length_append → zab, length_cons → zad
open Option renaming bind_some → zaa
open Sum renaming elim_inl → zaA, elim_inr → zbg
open UInt8 renaming lt_iff_toNat_lt → zbe
theorem digB_no{c:UInt8}(h:adc c=false):c<48∨(57:UInt8)<c:=by
 by_cases h1:c<48
 ·exact .inl h1
 ·by_cases h2:(57:UInt8)<c
  ·exact .inr h2
  ·exfalso
   have:adc c=true:=by
    rw [digitB_iff]
    rw [zbe]at h1 h2
    have e1:(48:UInt8).toNat=48:=rfl
    have e2:(57:UInt8).toNat=57:=rfl
    omega
   rw [this]at h;cases h
theorem digQ_sub{c:UInt8}(h:adc c=true):(c-48).toNat=c.toNat-48∧¬c<48∧¬(57:UInt8)<c∧c.toNat≤57:=by
 have hc:=(digitB_iff c).1 h
 refine⟨?_, ?_, ?_,by omega⟩
 ·have h48:(48:UInt8)≤c:=by rw [UInt8.le_iff_toNat_le];show 48≤c.toNat;omega
  rw [UInt8.toNat_sub_of_le _ _ h48];rfl
 ·rw [zbe];show¬c.toNat<48;omega
 ·rw [zbe];show¬57<c.toNat;omega
def numQ(s:Str):Int×UInt8:=
 if s.length<1∨10<s.length∨s.all adc=false then(0,5)else if 2147483647<ajd s then(0,3)else((ajd s:Int),0)
theorem numberQ_lp(s:Str)(hs:s.length≤18)(l:Str):∀(p:Str) (fk:Nat),s=p++l→l.length<fk→p.all adc=true→
  akv FU s fk (ajd p:Int) (p.length:Int)=some (if l.all adc=true then .inl (ajd s:Int)else .inr ((0:Int),(5:UInt8))):=by
 induction l with
 |nil=>
  intro p fk h hf hp
  obtain⟨fk,rfl⟩:=fkx fk
  rw [zam]at h
  subst h
  rw [apj,aka,if_neg omg];rfl
 |cons c l ih=>
  intro p fk h hf hp
  obtain⟨fk,rfl⟩:=fkx fk
  have hb:(0:Int)≤(p.length:Int)∧(p.length:Int)<(s.length:Int):=by rw [h,zab,zad];omega
  have ha:at_ s (p.length:Int)=c:=by rw [h,at_mid]
  simp only [zad]at hf
  cases hc:adc c with
  |false=>
   rw [apj,aka,if_pos hb.2,aaa hb,ha,zaR,hc,Bool.false_and,if_neg (show¬false=true by decide)]
   rcases digB_no hc with h1|h1
   ·rw [if_pos h1,zaa,cond_true]
   ·by_cases h2:c<48
    ·rw [if_pos h2,zaa,cond_true]
    ·rw [if_neg h2,aaa hb,decide_eq_true h1,zaa,cond_true]
  |true=>
   obtain⟨hx,n1,n2,n3⟩:=digQ_sub hc
   have hv:=decVal_lt 17 p (by have:=congrArg zbl h;rw [zab,zad]at this;omega) hp
   rw [apj,aka,if_pos hb.2,aaa hb,ha,if_neg n1,aaa hb,decide_eq_false n2,zaa,cond_false,hx,aaa (aef _ omg omg),aaa hb,aaa (aef _ omg omg),aaa (aef _ omg omg)]
   have e:(10:Int)*(ajd p:Int)+((c.toNat-48:Nat):Int)=(ajd (p++[c]):Int):=by rw [axc];omega
   rw [e,aso p c,zaR,hc,zaS]
   exact ih (p++[c]) fk (by rw [h];simp) omg (by rw [List.all_append,hp];simpa using hc)
theorem number_eq(s:Str):aje FU s=some (numQ s):=by
 unfold aje numQ
 by_cases h1:s.length<1
 ·rw [if_pos omg,zaa,cond_true,if_pos (.inl h1)]
 ·rw [if_neg omg,zaa]
  by_cases h2:10<s.length
  ·rw [decide_eq_true omg,cond_true,if_pos (.inr (.inl h2))]
  ·rw [decide_eq_false omg,cond_false]
   have:=numberQ_lp s omg s [] FU (by simp) (by rw [ahy];omega) (by simp)
   change akv FU s FU (0:Int) (0:Int)=_ at this
   rw [this,zaa]
   cases h3:s.all adc with
   |false=>rw [if_neg (show¬false=true by decide),zbg,if_pos (.inr (.inr rfl))]
   |true=>
    rw [if_pos rfl,zaA,if_neg (show¬(s.length<1∨10<s.length∨true=false)by rintro(h|h|h)<;>first|omega|cases h)]
    by_cases h4:2147483647<ajd s
    ·rw [if_pos omg,if_pos h4]
    ·rw [if_neg omg,if_neg h4]
def portQ(s:Str):Int×UInt8:=if(numQ s).2=0∧((numQ s).1<1∨65535<(numQ s).1)then(0,3)else numQ s
end Go.Wk
set_option maxRecDepth 100000
namespace Go.Wk
open Go.Px
open Go.Lib renaming itoa → zat
open Int renaming toNat_natCast → zar
open UInt8 renaming ofNat → zbm
theorem dig_of:∀n:Fin 10,adc (zbm (48+n.val))=true∧(zbm (48+n.val)).toNat-48=n.val∧sub ([48,49,50,51,52,53,54,55,56,57]:Str) (n.val:Int) ((n.val:Int)+1)=[zbm (48+n.val)]:=by decide+kernel
theorem dig_at(n:Nat)(h:n<10):adc (zbm (48+n))=true∧(zbm (48+n)).toNat-48=n∧sub ([48,49,50,51,52,53,54,55,56,57]:Str) (n:Int) ((n:Int)+1)=[zbm (48+n)]:=dig_of ⟨n,h⟩
theorem dd_ok:∀(k n:Nat),n<10^(k+1)→(Lib.decDigits n).all adc=true∧ajd (Lib.decDigits n)=n∧1≤(Lib.decDigits n).length∧(Lib.decDigits n).length≤k+1:=by
 intro k
 induction k with
 |zero=>
  intro n h
  have h:n<10:=by simpa using h
  have:=dig_at n h
  rw [Lib.decDigits,dif_pos h]
  refine⟨by simpa using this.1, ?_,by simp,by simp⟩
  show 10*0+_=n
  omega
 |succ k ih=>
  intro n h
  rw [Lib.decDigits]
  by_cases h1:n<10
  ·have:=dig_at n h1
   rw [dif_pos h1]
   refine⟨by simpa using this.1, ?_,by simp,by simp⟩
   show 10*0+_=n
   omega
  ·have hd:=dig_at (n%10) (Nat.mod_lt _ (by decide))
   have:=ih (n/10) (by rw [Nat.pow_succ]at h;omega)
   rw [dif_neg h1]
   refine⟨by rw [List.all_append,this.1];simpa using hd.1, ?_,by simp,by simp;omega⟩
   rw [axc,this.2.1,hd.2.1]
   omega
theorem itoa_nat(n:Nat):zat (n:Int)=Lib.decDigits n:=by
 unfold zat
 rw [if_neg (by omega),zar]
theorem amd(n:Int)(h0:0≤n)(h:n≤65535):numQ (zat n)=(n,0)∧1≤(zat n).length∧(zat n).length≤5∧(zat n).all adc=true:=by
 obtain⟨m,rfl⟩:∃m:Nat,n=(m:Int):=⟨n.toNat,by omega⟩
 obtain⟨h1,h2,h3,h4⟩:=dd_ok 4 m (by omega)
 rw [itoa_nat]
 refine⟨?_,h3,h4,h1⟩
 unfold numQ
 rw [h1,h2,if_neg (by rintro(h|h|h)<;>first|omega|cases h),if_neg (by omega)]
open Bool renaming not_false → zaH, not_true → zaz, true_and → zaS
open Int renaming toNat → zan, toNat_natCast → zar
open List renaming append_assoc → zal, append_nil → zam, drop → zaC, drop_zero → zbs, length → zbl, length_append → zab, length_cons → zad, length_drop → zaq, length_map → zaK, length_nil → zaj, length_singleton → zae, length_take → zaE, nil_append → zax, singleton_append → zaM, take → zbt
open Option renaming bind_some → zaa
open Sum renaming elim_inl → zaA, elim_inr → zbg
abbrev VV:=Str×Str×Int×Str×List PP
def zVia:VV:=([],[],0,[],[])
def VER:Str:=[83,73,80,47,50,46,48,47]
def BRN:Str:=[98,114,97,110,99,104]
def adz(s:Str):Str:=s.map avt
theorem upperL_len(s:Str):(adz s).length=s.length:=by unfold adz;exact zaK ..
theorem upper_lp(s:Str)(hs:s.length≤9223372036854775807)(l:Str):∀(p:Str) (fk:Nat),p.length+l.length=s.length→l.length<fk→
  ads FU s fk (p++l) (p.length:Int)=some (p++l.map avt):=by
 induction l with
 |nil=>
  intro p fk hk hf
  obtain⟨fk,rfl⟩:=fkx fk
  simp only [zaj]at hk
  rw [ahw,ado,if_neg omg];rfl
 |cons c l ih=>
  intro p fk hk hf
  obtain⟨fk,rfl⟩:=fkx fk
  simp only [zad]at hk hf
  have hb:=mid_lt p c l
  rw [ahw,ado,if_pos omg,aaa hb,aaa hb,at_mid,upperByte_eq]
  simp only [zaa]
  rw [aaa hb,aaa hb,aaa (aef _ omg omg),set_mid,aso p (avt c),ih (p++[avt c]) fk (by rw [zab,zae];omega) omg]
  simp
theorem upper_eq(s:Str)(hs:s.length≤9223372036854775807):acu FU s=some (adz s):=by
 unfold acu
 have:=upper_lp s hs s [] FU (by simp) (by rw [ahy];omega)
 simp only [zax,zaj,Int.natCast_zero,Int.cast_ofNat_Int]at this
 rw [this];rfl
theorem get_lp(l:List PP)(hl:l.length≤4194304)(hn:∀p∈l,p.1.length≤4194304)(y:Str)(n:Nat):∀(k fk:Nat),k+n=l.length→n<fk→
  amr FU l y fk (k:Int)=some (match(l.drop k).find? (fun p=>aau p.1==y)with|none=>.inl ()|some p=>.inr (p.2.1,true)):=by
 induction n with
 |zero=>
  intro k fk hk hf
  obtain⟨fk,rfl⟩:=fkx fk
  obtain rfl:k=l.length:=by omega
  rw [auy,aoi,if_neg omg,List.drop_length];rfl
 |succ n ih=>
  intro k fk hk hf
  obtain⟨fk,rfl⟩:=fkx fk
  have hlt:k<l.length:=by omega
  have hin:(0:Int)≤(k:Int)∧(k:Int)<(l.length:Int):=by omega
  have hd:l.drop k=el l (k:Int)::l.drop (k+1):=by rw [el_nat _ _ hlt,List.drop_eq_getElem_cons hlt]
  rw [auy,aoi,if_pos hin.2,aaa hin,aaa hin,anr _ (hn _ (el_mem2 l k hlt)),zaa,hd,List.find?_cons]
  by_cases h:aau (el l (k:Int)).1=y
  ·rw [if_pos h,show(aau (el l (k:Int)).1==y)=true by simpa using h]
  ·rw [if_neg h,show(aau (el l (k:Int)).1==y)=false by simpa using h,aaa (aef _ omg omg),ahl,ih (k+1) fk omg omg]
theorem get_eq(l:List PP)(hl:l.length≤4194304)(hn:∀p∈l,p.1.length≤4194304)(name:Str)(hm:name.length≤4194304):arq FU l name=some (getP l name):=by
 have:=get_lp l hl hn (aau name) l.length 0 FU omg (by rw [ahy];omega)
 rw [zbs]at this
 have this':amr FU l (aau name) FU (0:Int)=_:=this
 unfold arq
 rw [anr _ hm,zaa,this',zaa]
 have e:getP l name=(match l.find? (fun p=>aau p.1==aau name)with|some p=>(p.2.1,true)|none=>([],false)):=rfl
 rw [e]
 cases l.find? (fun p=>aau p.1==aau name)<;>rfl
theorem contains_any(v:Str)(c:UInt8):Lib.contains v [c]=v.any (·==c):=by
 unfold Lib.contains
 rcases idx47 c v with⟨h1,h2⟩|⟨f,s2,h1,h2,h3⟩
 ·rw [h1,decide_eq_false omg]
  symm
  rw [List.any_eq_false]
  intro x hx
  simpa using h2 x hx
 ·rw [h3,decide_eq_true omg,h1]
  simp
def cutP(P:Str):Str×Str×Bool:=
 if ate (·==(58:UInt8)) P<0 then(P,[],false)
 else if((P.take (ate (·==(58:UInt8)) P).toNat).any (·==91)&&(P.drop (ate (·==(58:UInt8)) P).toNat).any (·==93))=true then(P,[],false)
 else(P.take (ate (·==(58:UInt8)) P).toNat,P.drop (ate (·==(58:UInt8)) P+1).toNat,true)
theorem cutPort_eq(P:Str)(hP:P.length≤4194304):apw FU P=some (cutP P):=by
 have hsp:=lixb_spec (·==(58:UInt8)) P
 unfold apw cutP
 rw [aaa omg]
 generalize ate (·==(58:UInt8)) P=a at hsp⊢
 by_cases h:a<0
 ·rw [if_pos h,zaa,cond_true,if_pos h]
 ·have hr:0≤a∧a<(P.length:Int):=by omega
  rw [if_neg h,if_neg h,aaa omg,aaa (by rw [zaE];omega),contains_any,contains_any]
  have fin:∀o:Option Bool,o=some ((P.take a.toNat).any (·==91)&&(P.drop a.toNat).any (·==93))→(o.bind fun(v:Bool)=>(bif v then some (P,([]:Str),false)else(gd (0≤a∧a≤(P.length:Int))<|(gd (abt (a+(1:Int)))<|(gd (0≤(a+(1:Int))∧(a+(1:Int))≤(P.length:Int))<|some (zbt (zan a) P,zaC (zan (a+(1:Int))) P,true))))))=some (if((P.take a.toNat).any (·==91)&&(P.drop a.toNat).any (·==93))=true then(P,[],false)else(P.take a.toNat,P.drop (a+1).toNat,true)):=by
   intro o ho
   rw [ho,zaa]
   cases((P.take a.toNat).any (·==91)&&(P.drop a.toNat).any (·==93))with
   |true=>rfl
   |false=>rw [cond_false,aaa omg,aaa (aef _ omg omg),aaa omg,if_neg (show¬(false=true)by decide)]
  refine fin _ ?_
  cases(P.take a.toNat).any (·==91)with
  |false=>rfl
  |true=>rw [cond_true,aaa omg,aaa (by rw [zaq];omega),zaS]
theorem cutP_len(P:Str):(cutP P).1.length≤P.length∧(cutP P).2.1.length≤P.length:=by
 unfold cutP
 split
 ·simp
 ·split
  ·simp
  ·simp only [zaE,zaq];omega
def sepB(c:UInt8):Bool:=c==59||aac c
theorem sep_set:(fun c=>([59,32,9]:Str).contains c)=sepB:=by
 funext c;revert c;exact aae _ (by decide+kernel)
def viaF(tr h:Str)(port:Int)(rest:Str):VV×UInt8:=if(parP rest).2.2=0 then((tr,h,port,(getP (parP rest).1 BRN).1,(parP rest).1),0)else(zVia,(parP rest).2.2)
def viaB(tr place rest:Str):VV×UInt8:=
 if(acq (cutP place).1).2=false then(zVia,5)
 else if(cutP place).2.2=true then(if(portQ (cutP place).2.1).2=0 then viaF tr (acq (cutP place).1).1 (portQ (cutP place).2.1).1 rest else(zVia,(portQ (cutP place).2.1).2))
 else viaF tr (acq (cutP place).1).1 0 rest
def viaP(v:Str):VV×UInt8:=
 if(aat v).length<8 then(zVia,5)
 else if¬adz ((aat v).take 8)=VER then(zVia,5)
 else if aap aaf (aat v) 8=8 then(zVia,5)
 else if aap aac (aat v) (aap aaf (aat v) 8:Int)=aap aaf (aat v) 8 then(zVia,5)
 else viaB (adz (sub (aat v) 8 (aap aaf (aat v) 8:Int)))
  (((aat v).drop (aap aac (aat v) (aap aaf (aat v) 8:Int))).take (ahv (fun c=> !sepB c) ((aat v).drop (aap aac (aat v) (aap aaf (aat v) 8:Int)))))
  (((aat v).drop (aap aac (aat v) (aap aaf (aat v) 8:Int))).drop (ahv (fun c=> !sepB c) ((aat v).drop (aap aac (aat v) (aap aaf (aat v) 8:Int)))))
theorem parM_names(s:Str)(hs:s.length≤4194304):∀(f:Nat) (l:List PP) (i:Nat),(∀p∈l,aau p.1=p.1∧p.1.length≤s.length∧p.2.1.length≤90000000)→∀p∈(parM s f l i).1,aau p.1=p.1∧p.1.length≤s.length∧p.2.1.length≤90000000
 |0,_,_,_=>by simp [parM]
 |f+1,l,i,h=>by
  rw [parM]
  split
  ·exact h
  ·split
   ·simp
   ·split
    ·rename_i h0
     have hb2:=ada aac s ((aap aac s (i:Int)+1:Nat):Int)
     have hbd:=listP_bd s hs _ hb2 h0
     split
     ·refine parM_names s hs f _ _ fun p hp=> ?_
      rcases List.mem_append.1 hp with hp|hp
      ·exact h p hp
      ·rw [List.mem_singleton.1 hp];exact⟨hbd.2.2.2.1,hbd.2.2.2.2.1,hbd.2.2.2.2.2⟩
     ·simp
    ·simp
theorem aty(s:Str)(hs:s.length≤4194304):∀p∈(parP s).1,aau p.1=p.1∧p.1.length≤s.length∧p.2.1.length≤90000000:=parM_names s hs _ [] 0 (by simp)
theorem parP_len(s:Str):(parP s).1.length≤16:=parM_len s _ [] 0 (by simp)
theorem viaF_eq(tr h:Str)(port:Int)(rest:Str)(hr:rest.length≤4194304):((ahj FU rest).bind fun(y:((List PP)×Int×UInt8))=>(if y.2.2=(0:UInt8)then((arq FU y.1 ([98,114,97,110,99,104]:Str)).bind fun(g:(Str×Bool))=>some ((tr,h,port,g.1,y.1),(0:UInt8)))else some ((([]:Str),([]:Str),(0:Int),([]:Str),([]:List PP)),y.2.2)))=some (viaF tr h port rest):=by
 have hl:=parP_len rest
 have hn:=aty rest hr
 unfold viaF
 rw [params_eq rest hr,zaa]
 by_cases h0:(parP rest).2.2=0
 ·rw [if_pos h0,if_pos h0,get_eq _ omg (fun p hp=>by have:=(hn p hp).2.1;omega) _ (by decide),zaa];rfl
 ·rw [if_neg h0,if_neg h0];rfl
theorem port_ok(y:Int×UInt8):((if y.2=(0:UInt8)then(if y.1<(1:Int)then some true else some (decide ((65535:Int)<y.1)))else some false).bind fun(b:Bool)=>(bif b then some (3:UInt8)else some y.2))=some (if y.2=0∧(y.1<1∨65535<y.1)then 3 else y.2):=by
 by_cases h0:y.2=0
 ·rw [if_pos h0]
  by_cases h1:y.1<1
  ·rw [if_pos h1,if_pos ⟨h0,.inl h1⟩];rfl
  ·rw [if_neg h1]
   by_cases h2:65535<y.1
   ·rw [decide_eq_true h2,if_pos ⟨h0,.inr h2⟩];rfl
   ·rw [decide_eq_false h2,if_neg (by rintro⟨_,h|h⟩<;>contradiction)];rfl
 ·rw [if_neg h0,if_neg (fun h=>h0 h.1)];rfl
theorem via_eq(v:Str)(hv:v.length≤4194304):asz FU v=some (viaP v):=by
 have hl:=anj v
 unfold asz viaP
 rw [trim_eq v hv,zaa]
 generalize aat v=s at hl⊢
 by_cases h8:s.length<8
 ·rw [if_pos (show(s.length:Int)<8 by omega),if_pos h8];rfl
 rw [if_neg (show¬(s.length:Int)<8 by omega),if_neg h8,aaa omg,upper_eq _ (by rw [zaE];omega),zaa,zaa]
 by_cases hV:adz (s.take 8)=VER
 ·have hV':adz (zbt (zan (8:Int)) s)=([83,73,80,47,50,46,48,47]:Str):=hV
  have hk1:=aiv aaf s 8 omg
  have hk2:=ada aaf s 8
  have hk1':8≤aap aaf s 8:=hk1
  rw [decide_eq_true hV',zaz,cond_false,if_neg (not_not_intro hV),tokEndP_eq s omg,zaa,blanks_eq s omg,zaa]
  generalize aap aaf s 8=k at hk1' hk2⊢
  have hi1:=aiv aac s k hk2
  have hi2:=ada aac s (k:Int)
  generalize aap aac s (k:Int)=i at hi1 hi2⊢
  by_cases hk8:k=8
  ·rw [if_pos omg,zaa,cond_true,if_pos hk8];rfl
  rw [if_neg omg,zaa,if_neg hk8]
  by_cases hik:i=k
  ·rw [decide_eq_true omg,cond_true,if_pos hik];rfl
  rw [decide_eq_false omg,cond_false,if_neg hik,aaa omg,upper_eq _ (by rw [show(8:Int)=((8:Nat):Int)from rfl,aqc];omega),zaa,aaa omg,zar]
  have hPl:(s.drop i).length≤4194304:=by rw [zaq];omega
  generalize adz (sub s (8:Int) (k:Int))=tr
  generalize s.drop i=P at hPl⊢
  have hsp:=atq sepB P
  have hspl:=ape (fun c=> !sepB c) P
  have hpl:∀o:Option (Str×Str),o=some (P.take (ahv (fun c=> !sepB c) P),P.drop (ahv (fun c=> !sepB c) P))→∀f:Str×Str→Option (VV×UInt8),o.bind f=f (P.take (ahv (fun c=> !sepB c) P),P.drop (ahv (fun c=> !sepB c) P)):=fun o ho f=>by rw [ho];rfl
  rw [hpl _ (by
   rw [aaa ⟨by omega,by decide,by decide⟩,aql,sep_set]
   by_cases hx:(0:Int)≤ixb sepB P
   ·rcases hsp with h|h
    ·omega
    ·rw [if_pos hx,aaa omg,aaa omg,h.2.2,zar]
   ·rcases hsp with h|h
    ·rw [if_neg hx,h.2,List.take_length,List.drop_length]
    ·omega)]
  have hpt:(P.take (ahv (fun c=> !sepB c) P)).length≤4194304:=by rw [zaE];omega
  have hpd:(P.drop (ahv (fun c=> !sepB c) P)).length≤4194304:=by rw [zaq];omega
  generalize P.take (ahv (fun c=> !sepB c) P)=pl at hpt⊢
  generalize P.drop (ahv (fun c=> !sepB c) P)=rest at hpd⊢
  have hcl:=cutP_len pl
  unfold viaB
  simp only
  rw [cutPort_eq pl hpt,zaa,awj _ omg,zaa]
  cases hh:(acq (cutP pl).1).2 with
  |false=>rfl
  |true=>
   rw [zaz,cond_false,if_neg (show¬(true=false)by decide)]
   cases hc:(cutP pl).2.2 with
   |false=>
    rw [cond_false,zaa,zaA,viaF_eq _ _ _ _ hpd,if_neg (show¬(false=true)by decide)]
   |true=>
    rw [cond_true,number_eq,zaa,port_ok,zaa,if_pos rfl]
    unfold portQ
    by_cases hp:(numQ (cutP pl).2.1).2=0∧((numQ (cutP pl).2.1).1<1∨65535<(numQ (cutP pl).2.1).1)
    ·rw [if_pos hp,if_pos hp,if_neg (by decide),zaa,zbg,if_neg (by decide)];rfl
    ·rw [if_neg hp,if_neg hp]
     by_cases h0:(numQ (cutP pl).2.1).2=0
     ·rw [if_pos h0,if_pos h0,zaa,zaA,viaF_eq _ _ _ _ hpd]
     ·rw [if_neg h0,if_neg h0,zaa,zbg];rfl
 ·have hV':¬adz (zbt (zan (8:Int)) s)=([83,73,80,47,50,46,48,47]:Str):=hV
  rw [decide_eq_false hV',zaH,cond_true,if_pos hV];rfl
def ars(l:List PP):List PP:=l.filter fun p=> !(p.1==BRN)
def aut(b:Str):List PP:=if b=[]then []else [(BRN,b,true)]
def apk(h:Str)(n:Int):Str:=if n=0 then h else h++([58]++zat n)
def aqs(x:VV):Str×UInt8:=
 if(acq x.2.1).2=true∧ahi x.1=true∧0≤x.2.2.1∧x.2.2.1≤65535∧(ppM (acl (ars x.2.2.2.2++aut x.2.2.2.1))).2=0
 then(VER++adz x.1++[32]++apk (acq x.2.1).1 x.2.2.1++(ppM (acl (ars x.2.2.2.2++aut x.2.2.2.1))).1,0)else([],2)
theorem noBr_len(l:List PP):(ars l).length≤l.length:=List.length_filter_le _ _
theorem noBr_mem(l:List PP)(p:PP)(h:p∈ars l):p∈l:=(List.mem_filter.1 h).1
theorem brOf_len(b:Str):(aut b).length≤1:=by unfold aut;split<;>simp
theorem nobr_lp(x:VV)(hl:x.2.2.2.2.length≤4194304)(q:List PP):∀(p:List PP) (fk:Nat),x.2.2.2.2=p++q→q.length<fk→
  aid FU x fk (ars p) (p.length:Int)=some (ars (p++q)):=by
 induction q with
 |nil=>
  intro p fk h hf
  obtain⟨fk,rfl⟩:=fkx fk
  rw [ark,akb,if_neg (by rw [h];simp),zam]
 |cons a q ih=>
  intro p fk h hf
  obtain⟨fk,rfl⟩:=fkx fk
  have hlen:=congrArg zbl h
  simp only [zab,zad]at hlen hf
  have hin:(0:Int)≤(p.length:Int)∧(p.length:Int)<(x.2.2.2.2.length:Int):=by omega
  have he:el x.2.2.2.2 (p.length:Int)=a:=by rw [h];simp [el]
  have hih:=ih (p++[a]) fk (by rw [h];simp) omg
  rw [show((p++[a]).length:Int)=(p.length:Int)+1 by simp,zal,zaM]at hih
  have hnl:=noBr_len p
  rw [ark,akb,if_pos hin.2,aaa hin,aaa hin,he]
  by_cases hb:a.1=BRN
  ·have e:ars (p++[a])=ars p:=by unfold ars;rw [List.filter_append];simp [hb]
   rw [if_pos (show a.1=([98,114,97,110,99,104]:Str)from hb),aaa (aef _ omg omg)]
   rw [e]at hih;exact hih
  ·have e:ars (p++[a])=ars p++[a]:=by unfold ars;rw [List.filter_append];simp [hb]
   rw [if_neg (show¬a.1=([98,114,97,110,99,104]:Str)from hb)]
   simp only [pp_eta]
   rw [aaa (by simp only [zae];omega),aaa (aef _ omg omg)]
   rw [e]at hih;exact hih
theorem vl_mem(x:VV)(hb:∀p∈x.2.2.2.2,p.1.length≤4194304∧p.2.1.length≤4194304)(hB:x.2.2.2.1.length≤4194304):∀p∈ars x.2.2.2.2++aut x.2.2.2.1,p.1.length≤4194304∧p.2.1.length≤4194304:=by
 intro p hp
 rcases List.mem_append.1 hp with h|h
 ·exact hb p (noBr_mem _ p h)
 ·unfold aut at h
  split at h
  ·simp at h
  ·rw [List.mem_singleton.1 h];exact⟨show BRN.length≤4194304 by decide,hB⟩
theorem isort_ppM(l:List PP)(hl:l.length≤100)(hb:∀p∈l,p.1.length≤4194304∧p.2.1.length≤4194304):((acz FU l).bind fun y=>abr FU y)=some (ppM (acl l)):=by
 have hil:=isort_len l
 by_cases h16:16<l.length
 ·obtain⟨d,g1,g2⟩:=sorted_keeps l hl
  have hm:ppM (acl l)=([],2):=by unfold ppM;rw [if_pos omg]
  rw [g1,zaa,long_eq2 d omg,hm]
 ·rw [sorted_eq l omg,zaa,avj _ (fun p hp=>hb p (awe _ p hp))]
theorem prVia_no(x:VV)(h:¬((acq x.2.1).2=true∧ahi x.1=true∧0≤x.2.2.1∧x.2.2.1≤65535∧(ppM (acl (ars x.2.2.2.2++aut x.2.2.2.1))).2=0)):aqs x=([],2):=by unfold aqs;rw [if_neg h]
theorem prVia_yes(x:VV)(h:(acq x.2.1).2=true∧ahi x.1=true∧0≤x.2.2.1∧x.2.2.1≤65535∧(ppM (acl (ars x.2.2.2.2++aut x.2.2.2.1))).2=0):aqs x=(VER++adz x.1++[32]++apk (acq x.2.1).1 x.2.2.1++(ppM (acl (ars x.2.2.2.2++aut x.2.2.2.1))).1,0):=by unfold aqs;rw [if_pos h]
theorem printVia_eq(x:VV)(h1:x.1.length≤4194304)(h2:x.2.1.length≤4194304)(hl:x.2.2.2.2.length≤40)(hb:∀p∈x.2.2.2.2,p.1.length≤4194304∧p.2.1.length≤4194304)(hB:x.2.2.2.1.length≤4194304):aoy FU x=some (aqs x):=by
 have hnl:=noBr_len x.2.2.2.2
 have hbl:=brOf_len x.2.2.2.1
 have hvm:=vl_mem x hb hB
 have hvl:(ars x.2.2.2.2++aut x.2.2.2.1).length≤41:=by rw [zab];omega
 have hpl:=ppM_len (acl (ars x.2.2.2.2++aut x.2.2.2.1)) (fun p hp=>hvm p (awe _ p hp))
 have hh:=hostP_len x.2.1
 have hul:=upperL_len x.1
 unfold aoy
 rw [awj _ h2,zaa]
 cases hH:(acq x.2.1).2 with
 |false=>rw [prVia_no x (fun h=>by rw [hH]at h;exact absurd h.1 (by decide))];rfl
 |true=>
  rw [zaz,cond_false,awm _ omg,zaa]
  cases hT:ahi x.1 with
  |false=>rw [prVia_no x (fun h=>by rw [hT]at h;exact absurd h.2.1 (by decide))];rfl
  |true=>
   rw [zaz,cond_false]
   by_cases hp0:x.2.2.1<0
   ·rw [if_pos hp0,zaa,cond_true,prVia_no x (by rintro⟨_,_,h,_⟩;omega)]
   by_cases hp1:65535<x.2.2.1
   ·rw [if_neg hp0,decide_eq_true hp1,zaa,cond_true,prVia_no x (by rintro⟨_,_,_,h,_⟩;omega)]
   have hlp:=nobr_lp x omg x.2.2.2.2 [] FU rfl (by rw [ahy];omega)
   have hlp':aid FU x FU ([]:List PP) (0:Int)=some (ars x.2.2.2.2):=hlp
   rw [if_neg hp0,decide_eq_false hp1,zaa,cond_false,hlp',zaa]
   have eb:(if x.2.2.2.1=([]:Str)then some (ars x.2.2.2.2)else(gd (((ars x.2.2.2.2).length+([(([98,114,97,110,99,104]:Str),x.2.2.2.1,true)]:List PP).length)*40≤140737488355328)<|some (ars x.2.2.2.2++([(([98,114,97,110,99,104]:Str),x.2.2.2.1,true)]:List PP))))=some (ars x.2.2.2.2++aut x.2.2.2.1):=by
    unfold aut
    by_cases hbr:x.2.2.2.1=[]
    ·rw [if_pos hbr,if_pos hbr,zam]
    ·rw [if_neg hbr,if_neg hbr,aaa (by simp only [zae];omega)];rfl
   rw [eb,zaa]
   have hs:=isort_ppM (ars x.2.2.2.2++aut x.2.2.2.1) omg hvm
   have hyes:=prVia_yes x
   have hno:=prVia_no x
   generalize ars x.2.2.2.2++aut x.2.2.2.1=l at hs hpl hyes hno⊢
   have key:∀f:Str×UInt8→Option (Str×UInt8),((acz FU l).bind fun(y:List PP)=>((abr FU y).bind f))=f (ppM (acl l)):=by
    intro f
    have:((acz FU l).bind fun(y:List PP)=>((abr FU y).bind f))=((acz FU l).bind fun y=>abr FU y).bind f:=by
     cases acz FU l<;>rfl
    rw [this,hs];rfl
   rw [key]
   by_cases h0:(ppM (acl l)).2=0
   ·have hi:=amd x.2.2.1 omg omg
    have eh:(if x.2.2.1=(0:Int)then some (acq x.2.1).1 else(gd (abt x.2.2.1)<|(gd (([58]:Str).length+(zat x.2.2.1).length≤9223372036854775807)<|(gd ((acq x.2.1).1.length+(([58]:Str)++(zat x.2.2.1)).length≤9223372036854775807)<|some ((acq x.2.1).1++(([58]:Str)++(zat x.2.2.1)))))))=some (apk (acq x.2.1).1 x.2.2.1):=by
     unfold apk
     by_cases hz:x.2.2.1=0
     ·rw [if_pos hz,if_pos hz]
     ·rw [if_neg hz,if_neg hz,aaa (aef _ omg omg),aaa (by simp only [zae];omega),aaa (by simp only [zab,zae];omega)]
    have hpr:(apk (acq x.2.1).1 x.2.2.1).length≤(acq x.2.1).1.length+6:=by
     unfold apk;split
     ·omega
     ·simp only [zab,zae];omega
    rw [if_pos h0,eh,zaa,upper_eq _ omg,zaa,aaa (by simp only [zad,zaj];omega),aaa (by simp only [zab,zad,zaj];omega),aaa (by simp only [zab,zad,zaj];omega),aaa (by simp only [zab,zad,zaj];omega),hyes ⟨hH,hT,by omega,by omega,h0⟩]
    rfl
   ·rw [if_neg h0,hno (fun h=>h0 h.2.2.2.2)]
open Bool renaming not_false → zaH, not_true → zaz
open List renaming append_nil → zam, drop_drop → zbu, drop_eq_nil_of_le → zbj, drop_zero → zbs, length_append → zab, length_drop → zaq, length_singleton → zae, length_take → zaE, nil_append → zax
open Nat renaming add_zero → zaP, le_refl → zao
open Sum renaming elim_inl → zaA
theorem ixb_hasB(l:Str)(c:UInt8):decide ((0:Int)≤ixb (·==c) l)=asq l c:=ixb_has_dec l c
theorem inClass_eq(c:UInt8)(k:Int)(hk:k=0∨k=1∨k=2):amm FU c k=some (inC c k):=by
 unfold amm
 rw [ad_letter,zaa]
 have hin:∀b:Bool,inC c k=(b||asq (classL k) c)→((some b).bind fun(v19:Bool)=>(bif v19 then some true else(((if(0:Int)≤k then(if k≤(2:Int)then(gd (0≤k∧k<(3:Int))<|(gd (0≤k∧k<(anq.length:Int))<|some (decide ((0:Int)≤(ixb (·==c) (el anq k))))))else some false)else some false)).bind fun(v48:Bool)=>some v48)))=some (inC c k):=by
  intro b hb
  rw [hb,zaa]
  cases b with
  |true=>rfl
  |false=>
   have hl:(anq.length:Int)=3:=rfl
   have hc:el anq k=classL k:=by rcases hk with rfl|rfl|rfl<;>rfl
   rw [cond_false,if_pos (by omega),if_pos (by omega),aaa (by omega),aaa (by omega),hc,ixb_hasB];rfl
 cases h1:letterB c with
 |true=>rw [cond_true];exact hin true (by unfold inC;rw [h1];rfl)
 |false=>
  rw [cond_false,ad_digit,zaa]
  cases h2:adc c with
  |true=>rw [cond_true];exact hin true (by unfold inC;rw [h1,h2];rfl)
  |false=>
   rw [cond_false,ixb_hasB]
   exact hin _ (by unfold inC;rw [h1,h2];rfl)
def hx(c:UInt8):UInt8:=((afn FU c).getD (0,false)).1
theorem hexD_eq:∀c:UInt8,afn FU c=some (hx c,hexB c):=aae _ (by decide+kernel)
theorem hx_lt:∀c:UInt8,(hx c).toNat<16:=aae _ (by decide+kernel)
theorem shl_or:∀a b:Fin 16,(shl8 (zbm a.val) (4:Int))|||zbm b.val=zbm (16*a.val+b.val):=by decide+kernel
def esV(a b:UInt8):UInt8:=zbm (16*(hx a).toNat+(hx b).toNat)
theorem shl_or'(a b:UInt8):(shl8 (hx a) (4:Int))|||hx b=esV a b:=by
 have:=shl_or ⟨(hx a).toNat,hx_lt a⟩ ⟨(hx b).toNat,hx_lt b⟩
 simp only [UInt8.ofNat_toNat]at this
 exact this
def escH(l:Str):Option UInt8:=if 2<l.length∧at_ l 0=37∧hexB (at_ l 1)=true∧hexB (at_ l 2)=true then some (esV (at_ l 1) (at_ l 2))else none
theorem at_drop(s:Str)(i:Nat)(j:Nat):at_ (s.drop i) (j:Int)=at_ s ((i+j:Nat):Int):=by
 simp only [at_,zar,List.getD_eq_getElem?_getD,List.getElem?_drop]
theorem escAt_eq(s:Str)(hs:s.length≤4194304)(i:Nat)(hi:i<s.length):∃v,akz FU s (i:Int)=some (v,(escH (s.drop i)).isSome)∧((escH (s.drop i)).isSome=true→escH (s.drop i)=some v):=by
 have a0:=at_drop s i 0
 have a1:=at_drop s i 1
 have a2:=at_drop s i 2
 have e1:(i:Int)+1=((i+1:Nat):Int):=rfl
 have e2:(i:Int)+2=((i+2:Nat):Int):=rfl
 have hl:(s.drop i).length=s.length-i:=zaq
 rw [zaP]at a0
 have a0':at_ (s.drop i) 0=at_ s (i:Int):=a0
 have a1':at_ (s.drop i) 1=at_ s ((i+1:Nat):Int):=a1
 have a2':at_ (s.drop i) 2=at_ s ((i+2:Nat):Int):=a2
 unfold akz escH
 rw [aaa (aef _ (by omega) (by omega)),e1,e2,hl,a0',a1',a2']
 by_cases h2:s.length≤i+2
 ·rw [if_pos (by omega),zaa,cond_true,if_neg (by omega)]
  exact⟨0,rfl,fun h=>absurd h (by decide)⟩
 ·rw [if_neg (by omega),aaa (by omega),zaa]
  by_cases h37:at_ s (i:Int)=37
  ·rw [decide_eq_true h37,zaz,cond_false,aaa (aef _ (by omega) (by omega)),aaa (by omega),hexD_eq,zaa,aaa (aef _ (by omega) (by omega)),aaa (by omega),hexD_eq,zaa,shl_or']
   cases ha:hexB (at_ s ((i+1:Nat):Int))with
   |false=>
    rw [cond_false,zaa,if_neg (fun h=>absurd h.2.2.1 (by decide))]
    exact⟨_,rfl,fun h=>absurd h (by decide)⟩
   |true=>
    rw [cond_true,zaa]
    cases hb:hexB (at_ s ((i+2:Nat):Int))with
    |false=>
     rw [if_neg (fun h=>absurd h.2.2.2 (by decide))]
     exact⟨_,rfl,fun h=>absurd h (by decide)⟩
    |true=>
     rw [if_pos ⟨by omega,h37,rfl,rfl⟩]
     exact⟨_,rfl,fun _=>rfl⟩
  ·rw [decide_eq_false h37,zaH,cond_true,if_neg (fun h=>h37 h.2.1)]
   exact⟨0,rfl,fun h=>absurd h (by decide)⟩
def badF(k:Int):Nat→Str→Option Nat
 |0,_=>none
 |f+1,l=>if l=[]then none else if inC (at_ l 0) k=true then(badF k f (l.drop 1)).map (·+1)
  else match escH l with
   |some v=>if aax v=true then some 0 else(badF k f (l.drop 3)).map (·+3)
   |none=>some 0
def conF(k:Int):Nat→Str→Str
 |0,_=>[]
 |f+1,l=>if l=[]then []else if inC (at_ l 0) k=true then at_ l 0::conF k f (l.drop 1)
  else match escH l with
   |some v=>v::conF k f (l.drop 3)
   |none=>[]
def badP(k:Int)(l:Str):Option Nat:=badF k (l.length+1) l
def conP(k:Int)(l:Str):Str:=conF k (l.length+1) l
theorem inC37(k:Int)(hk:k=0∨k=1∨k=2):inC 37 k=false:=by rcases hk with rfl|rfl|rfl<;>decide
theorem escH_head{l:Str}{v:UInt8}(h:escH l=some v):2<l.length∧at_ l 0=37:=by
 unfold escH at h
 split at h
 ·rename_i hc;exact⟨hc.1,hc.2.1⟩
 ·cases h
theorem ad_control(c:UInt8):apc FU c=some (aax c):=by revert c;exact aae _ (by decide+kernel)
theorem wrong_lp(s:Str)(i0:Int)(e:Nat)(hs:s.length≤4194304)(he:e≤s.length)(k:Int)(hk:k=0∨k=1∨k=2)(n:Nat):∀(i fk f:Nat),e-i≤n→n<fk→i≤e→e-i<f→
  ahm FU (s,i0) (e:Int) k fk (i:Int)=some (match badF k f ((s.take e).drop i)with|none=>.inl ()|some j=>.inr (((i+j:Nat):Int),true)):=by
 induction n with
 |zero=>
  intro i fk f hi hf hie hff
  obtain⟨fk,rfl⟩:=fkx fk
  obtain⟨f,rfl⟩:∃m,f=m+1:=⟨f-1,by omega⟩
  rw [aja,aff,if_neg (by omega),badF,if_pos (zbj (by rw [zaE];omega))]
 |succ n ih=>
  intro i fk f hi hf hie hff
  obtain⟨fk,rfl⟩:=fkx fk
  obtain⟨f,rfl⟩:∃m,f=m+1:=⟨f-1,by omega⟩
  by_cases hlt:i<e
  ·have hlen:((s.take e).drop i).length=e-i:=by rw [zaq,zaE];omega
   have hne:¬(s.take e).drop i=[]:=fun h=>by rw [h]at hlen;simp at hlen;omega
   have hat:at_ ((s.take e).drop i) 0=at_ s (i:Int):=by
    have:=at_drop (s.take e) i 0
    rw [zaP]at this
    rw [show at_ ((s.take e).drop i) 0=at_ (s.take e) (i:Int)from this]
    simp only [at_,zar,List.getD_eq_getElem?_getD]
    rw [List.getElem?_take_of_lt hlt]
   have d1:((s.take e).drop i).drop 1=(s.take e).drop (i+1):=by rw [zbu]
   have d3:((s.take e).drop i).drop 3=(s.take e).drop (i+3):=by rw [zbu]
   rw [aja,aff,if_pos (by omega),aaa (show 0≤(i:Int)∧(i:Int)<(s.length:Int)by omega),inClass_eq _ k hk,zaa,badF,if_neg hne,hat]
   cases hc:inC (at_ s (i:Int)) k with
   |true=>
    rw [cond_true,aaa (aef _ (by omega) (by omega)),ahl,ih (i+1) fk f (by omega) (by omega) (by omega) (by omega),if_pos rfl,d1]
    cases badF k f ((s.take e).drop (i+1))with
    |none=>rfl
    |some j=>
     show some (Sum.inr _)=some (Sum.inr _)
     congr 3
     try dsimp only
     omega
   |false=>
    have htl:(s.take e).length=e:=by rw [zaE];omega
    obtain⟨v,h1,h2⟩:=escAt_eq (s.take e) (by omega) i (by omega)
    rw [cond_false,aaa (show 0≤(e:Int)∧(e:Int)≤(s.length:Int)by omega),zar,h1,zaa,if_neg (show¬(false=true)by decide)]
    cases hE:escH ((s.take e).drop i)with
    |none=>
     simp only [Option.isSome_none,zaH,cond_true,zaa]
     congr 3
    |some v'=>
     rw [hE]at h2
     obtain rfl:v'=v:=by have:=h2 rfl;simpa using this
     have hl3:=(escH_head hE).1
     simp only [Option.isSome_some,zaz,cond_false]
     rw [ad_control,zaa,zaa]
     cases hcv:aax v' with
     |true=>rw [cond_true,if_pos rfl];rfl
     |false=>
      rw [cond_false,aaa (aef _ (by omega) (by omega)),aaa (aef _ (by omega) (by omega)),if_neg (show¬(false=true)by decide),d3]
      have e3:(i:Int)+2+1=((i+3:Nat):Int):=by omega
      rw [e3,ih (i+3) fk f (by omega) (by omega) (by omega) (by omega)]
      cases badF k f ((s.take e).drop (i+3))with
      |none=>rfl
      |some j=>
       show some (Sum.inr _)=some (Sum.inr _)
       congr 3
       try dsimp only
       omega
  ·rw [aja,aff,if_neg (by omega),badF,if_pos (zbj (by rw [zaE];omega))]
theorem wrong_eq(s:Str)(hs:s.length≤4194304)(i e:Nat)(hie:i≤e)(he:e≤s.length)(k:Int)(hk:k=0∨k=1∨k=2):
  afp FU (s,(i:Int)) (e:Int) k=some (match badP k (sub s (i:Int) (e:Int))with|none=>((0:Int),false)|some j=>(((i+j:Nat):Int),true)):=by
 have hsub:sub s (i:Int) (e:Int)=(s.take e).drop i:=by unfold sub;rw [zar,zar,List.drop_take]
 have hlen:((s.take e).drop i).length=e-i:=by rw [zaq,zaE];omega
 have:=wrong_lp s (i:Int) e hs he k hk (e-i) i FU ((sub s (i:Int) (e:Int)).length+1) (zao _) (by rw [ahy];omega) hie (by rw [hsub,hlen];omega)
 unfold afp
 simp only
 rw [this,zaa,←hsub]
 unfold badP
 cases badF k ((sub s (i:Int) (e:Int)).length+1) (sub s (i:Int) (e:Int))<;>rfl
theorem unesc_lp(s:Str)(hs:s.length≤4194304)(k:Int)(hk:k=0∨k=1∨k=2)(n:Nat):∀(i fk f:Nat) (b:Str),s.length-i≤n→n<fk→i≤s.length→s.length-i<f→b.length≤i→badF k f (s.drop i)=none→
  ahq FU s fk b (i:Int)=some (.inl (b++conF k f (s.drop i))):=by
 induction n with
 |zero=>
  intro i fk f b hi hf hie hff hb hbad
  obtain⟨fk,rfl⟩:=fkx fk
  obtain⟨f,rfl⟩:∃m,f=m+1:=⟨f-1,by omega⟩
  rw [amq,ahe,if_neg (by omega),conF,if_pos (zbj (by omega)),zam]
 |succ n ih=>
  intro i fk f b hi hf hie hff hb hbad
  obtain⟨fk,rfl⟩:=fkx fk
  obtain⟨f,rfl⟩:∃m,f=m+1:=⟨f-1,by omega⟩
  by_cases hlt:i<s.length
  ·have hin:0≤(i:Int)∧(i:Int)<(s.length:Int):=by omega
   have hlen:(s.drop i).length=s.length-i:=zaq
   have hne:¬s.drop i=[]:=fun h=>by rw [h]at hlen;simp at hlen;omega
   have hat:at_ (s.drop i) 0=at_ s (i:Int):=by
    have:=at_drop s i 0
    rw [zaP]at this;exact this
   have d1:(s.drop i).drop 1=s.drop (i+1):=by rw [zbu]
   have d3:(s.drop i).drop 3=s.drop (i+3):=by rw [zbu]
   rw [badF,if_neg hne,hat]at hbad
   rw [amq,ahe,if_pos hin.2,aaa hin,conF,if_neg hne,hat]
   by_cases hc:inC (at_ s (i:Int)) k=true
   ·have h37:¬at_ s (i:Int)=37:=fun e=>by rw [e,inC37 k hk]at hc;cases hc
    rw [if_pos hc,Option.map_eq_none_iff,d1]at hbad
    rw [if_neg h37,aaa hin,aaa (by simp only [zae];omega),aaa (aef _ (by omega) (by omega)),ahl,ih (i+1) fk f _ (by omega) (by omega) (by omega) (by omega) (by simp only [zab,zae];omega) hbad,if_pos hc,d1]
    simp
   ·rw [if_neg hc]at hbad⊢
    cases hE:escH (s.drop i)with
    |none=>rw [hE]at hbad;cases hbad
    |some v=>
     rw [hE]at hbad
     simp only at hbad
     have hl3:=(escH_head hE).1
     have h37:at_ s (i:Int)=37:=by rw [←hat];exact(escH_head hE).2
     obtain⟨v',h1,h2⟩:=escAt_eq s hs i hlt
     rw [hE]at h1 h2
     obtain rfl:v=v':=by have:=h2 rfl;simpa using this
     by_cases hcv:aax v=true
     ·rw [if_pos hcv]at hbad;cases hbad
     ·rw [if_neg hcv,Option.map_eq_none_iff,d3]at hbad
      have e3:(i:Int)+2+1=((i+3:Nat):Int):=by omega
      rw [if_pos h37,h1,zaa]
      simp only [Option.isSome_some,zaz,cond_false]
      rw [aaa (by simp only [zae];omega),aaa (aef _ (by omega) (by omega)),aaa (aef _ (by omega) (by omega)),e3,ih (i+3) fk f _ (by omega) (by omega) (by omega) (by omega) (by simp only [zab,zae];omega) hbad,d3]
      simp
  ·rw [amq,ahe,if_neg (by omega),conF,if_pos (zbj (by omega)),zam]
theorem content_eq(s:Str)(hs:s.length≤4194304)(k:Int)(hk:k=0∨k=1∨k=2)(hbad:badP k s=none):ajp FU s=some (conP k s):=by
 have:=unesc_lp s hs k hk s.length 0 FU (s.length+1) [] (by omega) (by rw [ahy];omega) (by omega) (by omega) (by simp) (by rw [zbs];exact hbad)
 have this':ahq FU s FU ([]:List UInt8) (0:Int)=_:=this
 unfold ajp aro
 rw [gd_mk (by omega),this',zaa,zaA,zaa,zax,zbs];rfl
open Go.Lib renaming indexAny → zbf
open List renaming length_cons → zad, length_drop → zaq
open Option renaming map_eq_some_iff → zbb
def utl(st:Str)(s:Str)(i:Nat):Nat:=i+ahv (fun c=> !asq st c) (s.drop i)
theorem utl_ge(st s:Str)(i:Nat):i≤utl st s i:=Nat.le_add_right _ _
theorem ava(st s:Str)(i:Nat)(hi:i≤s.length):utl st s i≤s.length:=by
 have:=ape (fun c=> !asq st c) (s.drop i)
 rw [zaq]at this
 unfold utl;omega
theorem contains_hasB(st:Str):(fun c=>st.contains c)=asq st:=by
 funext c
 unfold asq
 rw [List.contains_eq_any_beq]
 congr 1
 funext b
 exact Bool.beq_comm
theorem atn(s:Str)(hs:s.length≤4194304)(i:Nat)(hi:i≤s.length)(st:Str)(h1:st.length≤1000)(h2:st.all (fun b=>decide (b.toNat<128))=true):aav FU s (i:Int) st=some ((utl st s i:Nat):Int):=by
 have hd:(s.drop i).length=s.length-i:=zaq
 have hsp:=atq (asq st) (s.drop i)
 have hi':zbf (s.drop i) st=ixb (asq st) (s.drop i):=by rw [aql,contains_hasB]
 unfold aav utl
 rw [aaa (by omega),zar,aaa ⟨by omega,h1,h2⟩,hi']
 rcases hsp with⟨h3,h4⟩|⟨h3,h4,h5⟩
 ·rw [if_neg (by omega),h4,hd]
  congr 1
  try dsimp only
  omega
 ·rw [if_pos h3,aaa (aef _ (by omega) (by omega)),h5];rfl
theorem utl_stop(st s:Str)(i:Nat)(hi:i≤s.length)(h:utl st s i<s.length):asq st (at_ s ((utl st s i:Nat):Int))=true:=by
 have hd:(s.drop i).length=s.length-i:=zaq
 have key:∀l:Str,ahv (fun c=> !asq st c) l<l.length→asq st (at_ l (ahv (fun c=> !asq st c) l:Int))=true:=by
  intro l
  induction l with
  |nil=>intro h;simp at h
  |cons a l ih=>
   intro h
   cases ha:asq st a with
   |true=>
    have e:ahv (fun c=> !asq st c) (a::l)=0:=awo _ a l (by simp [ha])
    rw [e];exact ha
   |false=>
    have e:ahv (fun c=> !asq st c) (a::l)=ahv (fun c=> !asq st c) l+1:=by rw [ahv,if_pos (by simp [ha])]
    rw [e]at h⊢
    have:=ih (by simp only [zad]at h;omega)
    simpa [at_] using this
 unfold utl at h⊢
 have:=key (s.drop i) (by omega)
 rw [at_drop]at this
 exact this
theorem badF_len(k:Int):∀(f:Nat) (l:Str) (j:Nat),badF k f l=some j→j<l.length
 |0,_,_,h=>by cases h
 |f+1,l,j,h=>by
  rw [badF]at h
  by_cases hn:l=[]
  ·rw [if_pos hn]at h;cases h
  ·have hl:=List.length_pos_iff.2 hn
   rw [if_neg hn]at h
   split at h
   ·rw [zbb]at h
    obtain⟨x,hx,rfl⟩:=h
    have:=badF_len k f _ x hx
    rw [zaq]at this;omega
   ·split at h
    ·rename_i v hE
     split at h
     ·rw [Option.some.injEq]at h;omega
     ·rw [zbb]at h
      obtain⟨x,hx,rfl⟩:=h
      have:=badF_len k f _ x hx
      rw [zaq]at this;omega
    ·rw [Option.some.injEq]at h;omega
theorem conF_len(k:Int):∀(f:Nat) (l:Str),(conF k f l).length≤l.length
 |0,_=>by simp [conF]
 |f+1,l=>by
  rw [conF]
  by_cases hn:l=[]
  ·rw [if_pos hn];simp
  ·have hl:=List.length_pos_iff.2 hn
   rw [if_neg hn]
   split
   ·have:=conF_len k f (l.drop 1)
    rw [zaq]at this
    rw [zad];omega
   ·split
    ·have:=conF_len k f (l.drop 3)
     rw [zaq]at this
     rw [zad];omega
    ·simp
theorem conP_len(k:Int)(l:Str):(conP k l).length≤l.length:=conF_len k _ l
theorem conP_nil(k:Int)(l:Str)(hb:badP k l=none):conP k l=[]↔l=[]:=by
 unfold conP badP at*
 rw [conF]
 rw [badF]at hb
 by_cases hn:l=[]
 ·rw [if_pos hn];simp [hn]
 ·rw [if_neg hn]at hb⊢
  constructor
  ·intro h
   exfalso
   split at h
   ·cases h
   ·rename_i hc
    rw [if_neg hc]at hb
    split at h
    ·cases h
    ·rename_i hE
     rw [hE]at hb;cases hb
  ·intro h;exact absurd h hn
open Bool renaming not_false → zaH, not_true → zaz, or_false → zbz
open List renaming any_cons → zbo, eq_nil_of_length_eq_zero → zap, length_drop → zaq
abbrev UU:=Str×Str×Str×Int×List PP×List PP
def usrP(U:Str):UInt8×Str:=match badP 0 U with|some j=>(if at_ U (j:Int)=58 then 15 else 5,[])|none=>if U=[]then(5,[])else(0,conP 0 U)
theorem utl1(b:UInt8)(s:Str)(i:Nat):utl [b] s i=i+ahv (fun c=> !(c==b)) (s.drop i):=by
 have e:(fun c=> !asq [b] c)=(fun c=> !(c==b)):=by
  funext c
  unfold asq
  rw [zbo,List.any_nil,zbz,Bool.beq_comm]
 unfold utl
 rw [e]
def hEnd(s:Str)(i:Nat):Nat:=if aep s i 91=true then min (utl [93] s i+1) s.length else utl [58,59,63] s i
def hpP (s : Str) (i : Nat) : UInt8 × Str × Int × Nat :=
  if (acq (sub s (i : Int) (hEnd s i : Int))).2 = false then (5, [], 0, 0)
  else if aep s (hEnd s i) 58 = true then
    (if (portQ (sub s ((hEnd s i + 1 : Nat) : Int) (utl [59, 63] s (hEnd s i + 1) : Int))).2 = 0 then (0, (acq (sub s (i : Int) (hEnd s i : Int))).1, (portQ (sub s ((hEnd s i + 1 : Nat) : Int) (utl [59, 63] s (hEnd s i + 1) : Int))).1, utl [59, 63] s (hEnd s i + 1))
     else ((portQ (sub s ((hEnd s i + 1 : Nat) : Int) (utl [59, 63] s (hEnd s i + 1) : Int))).2, [], 0, 0))
  else if hEnd s i < s.length ∧ aep s (hEnd s i) 59 = false ∧ aep s (hEnd s i) 63 = false then (5, [], 0, 0)
  else (0, (acq (sub s (i : Int) (hEnd s i : Int))).1, 0, hEnd s i)
theorem hEnd_bd(s:Str)(i:Nat)(hi:i≤s.length):i≤hEnd s i∧hEnd s i≤s.length:=by
 have h1:=utl_ge [93] s i
 have h2:=ava [93] s i hi
 have h3:=utl_ge [58,59,63] s i
 have h4:=ava [58,59,63] s i hi
 unfold hEnd
 split
 ·rename_i h
  have:=(ags h).1
  omega
 ·omega
def plP(s:Str)(i:Nat):UInt8×Str×(Str×Int×Nat):=
 if utl [64] s i<s.length then
  (if(usrP (sub s (i:Int) (utl [64] s i:Int))).1=0 then((hpP s (utl [64] s i+1)).1,(usrP (sub s (i:Int) (utl [64] s i:Int))).2,(hpP s (utl [64] s i+1)).2)else((usrP (sub s (i:Int) (utl [64] s i:Int))).1,[],[],0,0))
 else((hpP s i).1,[],(hpP s i).2)
theorem adHp_eq(s:Str)(hs:s.length≤4194304)(i:Nat)(hi:i≤s.length)(sch us:Str):∃a c u,0≤a∧a≤5000000∧((aav FU s (i:Int) ([58,59,63]:Str)).bind fun(y68:Int)=>((((aag FU (s,(i:Int)) (91:UInt8)).bind fun(y91:Bool)=>(bif y91 then((aav FU s (i:Int) ([93]:Str)).bind fun(y97:Int)=>(gd (abt (y97+(1:Int)))<|some (min (y97+(1:Int)) (s.length:Int))))else some y68))).bind fun(v90:Int)=>(gd (0≤(i:Int)∧(i:Int)≤v90∧v90≤(s.length:Int))<|((agr FU (sub s (i:Int) v90)).bind fun(y108:(Str×Bool))=>(bif (!y108.2)then some ((i:Int),(5:UInt8),(s,(i:Int)),((sch,us,([]:Str),(0:Int),([]:List PP),([]:List PP)):UU))else((aag FU (s,v90) (58:UInt8)).bind fun(y118:Bool)=>(bif y118 then(gd (abt (v90+(1:Int)))<|((aav FU s (v90+(1:Int)) ([59,63]:Str)).bind fun(y127:Int)=>(gd (0≤(v90+(1:Int))∧(v90+(1:Int))≤y127∧y127≤(s.length:Int))<|((aje FU (sub s (v90+(1:Int)) y127)).bind fun(y135:(Int×UInt8))=>(((((if y135.2=(0:UInt8)then(if y135.1<(1:Int)then some true else some (decide ((65535:Int)<y135.1)))else some false)).bind fun(v160:Bool)=>(bif v160 then some (3:UInt8)else some y135.2))).bind fun(v154:UInt8)=>(if v154=(0:UInt8)then some ((0:Int),(0:UInt8),(s,y127),((sch,us,y108.1,y135.1,([]:List PP),([]:List PP)):UU))else some (v90+(1:Int),v154,(s,v90+(1:Int)),((sch,us,y108.1,(0:Int),([]:List PP),([]:List PP)):UU))))))))else((((adx FU (s,v90)).bind fun(y194:Bool)=>(bif (!y194)then((aag FU (s,v90) (59:UInt8)).bind fun(y200:Bool)=>(bif (!y200)then((aag FU (s,v90) (63:UInt8)).bind fun(y206:Bool)=>some (!y206))else some false))else some false))).bind fun(v193:Bool)=>(bif v193 then some (v90,(5:UInt8),(s,v90),((sch,us,y108.1,(0:Int),([]:List PP),([]:List PP)):UU))else some ((0:Int),(0:UInt8),(s,v90),((sch,us,y108.1,(0:Int),([]:List PP),([]:List PP)):UU)))))))))))
  =some (a,(hpP s i).1,c,u)∧((hpP s i).1=0→c=(s,((hpP s i).2.2.2:Int))∧u=(sch,us,(hpP s i).2.1,(hpP s i).2.2.1,[],[])):=by
 have hb:=hEnd_bd s i hi
 have e1:((if aep s i 91=true then some ((min (utl [93] s i+1) s.length:Nat):Int)else some ((utl [58,59,63] s i:Nat):Int)))=some ((hEnd s i:Nat):Int):=by unfold hEnd;split<;>rfl
 have e2:((aag FU (s,(i:Int)) (91:UInt8)).bind fun(y91:Bool)=>(bif y91 then((aav FU s (i:Int) ([93]:Str)).bind fun(y97:Int)=>(gd (abt (y97+(1:Int)))<|some (min (y97+(1:Int)) (s.length:Int))))else some ((utl [58,59,63] s i:Nat):Int)))=some ((hEnd s i:Nat):Int):=by
  have hu:=ava [93] s i hi
  rw [apf,zaa,←e1]
  cases aep s i 91 with
  |false=>rfl
  |true=>
   rw [cond_true,atn s hs i hi _ (by decide) (by decide),zaa,aaa (aef _ (by omega) (by omega)),if_pos rfl]
   congr 1
   try dsimp only
   omega
 rw [atn s hs i hi _ (by decide) (by decide),zaa,e2,zaa]
 unfold hpP
 generalize hEnd s i=e at hb⊢
 rw [aaa (by omega),awj _ (by rw [aqc];omega),zaa]
 cases hh:(acq (sub s (i:Int) (e:Int))).2 with
 |false=>exact⟨_,_,_,(by omega),(by omega),rfl,fun h=>by rw [if_pos rfl]at h;exact absurd h (by decide)⟩
 |true=>
  rw [zaz,cond_false,if_neg (show¬(true=false)by decide),apf,zaa]
  cases h58:aep s e 58 with
  |true=>
   have hel:=(ags h58).1
   have hu1:=utl_ge [59,63] s (e+1)
   have hu2:=ava [59,63] s (e+1) hel
   rw [cond_true,if_pos rfl,aaa (aef _ (by omega) (by omega)),ahl,atn s hs (e+1) hel _ (by decide) (by decide),zaa,aaa (by omega),number_eq,zaa,port_ok,zaa]
   unfold portQ
   generalize numQ (sub s ((e+1:Nat):Int) ((utl [59,63] s (e+1):Nat):Int))=q
   by_cases hp:q.2=0∧(q.1<1∨65535<q.1)
   ·rw [if_pos hp,if_pos hp,if_neg (by decide),if_neg (by decide)]
    exact⟨_,_,_,(by omega),(by omega),rfl,fun h=>absurd h (by decide)⟩
   ·rw [if_neg hp,if_neg hp]
    by_cases h0:q.2=0
    ·rw [if_pos h0,if_pos h0];exact⟨_,_,_,(by omega),(by omega),rfl,fun _=>⟨rfl,rfl⟩⟩
    ·rw [if_neg h0,if_neg h0];exact⟨_,_,_,(by omega),(by omega),rfl,fun h=>absurd h h0⟩
  |false=>
   have e3:((adx FU (s,(e:Int))).bind fun(y194:Bool)=>(bif (!y194)then((aag FU (s,(e:Int)) (59:UInt8)).bind fun(y200:Bool)=>(bif (!y200)then((aag FU (s,(e:Int)) (63:UInt8)).bind fun(y206:Bool)=>some (!y206))else some false))else some false))=some (decide (e<s.length∧aep s e 59=false∧aep s e 63=false)):=by
    rw [ended_eq,zaa]
    by_cases hlt:e<s.length
    ·rw [decide_eq_false (show¬(s.length:Int)≤(e:Int)by omega),zaH,cond_true,apf,zaa]
     cases h59:aep s e 59 with
     |true=>rw [decide_eq_false (by rintro⟨_,h,_⟩;cases h)];rfl
     |false=>
      rw [zaH,cond_true,apf,zaa]
      cases h63:aep s e 63 with
      |true=>rw [decide_eq_false (by rintro⟨_,_,h⟩;cases h)];rfl
      |false=>rw [decide_eq_true ⟨hlt,rfl,rfl⟩];rfl
    ·rw [decide_eq_true (show(s.length:Int)≤(e:Int)by omega),decide_eq_false (fun h=>hlt h.1)];rfl
   rw [cond_false,if_neg (show¬(false=true)by decide),e3,zaa]
   by_cases hx:e<s.length∧aep s e 59=false∧aep s e 63=false
   ·rw [decide_eq_true hx,cond_true,if_pos hx];exact⟨_,_,_,(by omega),(by omega),rfl,fun h=>absurd h (by decide)⟩
   ·rw [decide_eq_false hx,cond_false,if_neg hx];exact⟨_,_,_,(by omega),(by omega),rfl,fun _=>⟨rfl,rfl⟩⟩
theorem place_eq(s:Str)(hs:s.length≤4194303)(i:Nat)(hi:i≤s.length)(sch:Str):∃a c u,0≤a∧a≤5000000∧ake FU (s,(i:Int)) (sch,[],[],0,[],[])=some (a,(plP s i).1,c,u)∧((plP s i).1=0→c=(s,((plP s i).2.2.2.2:Int))∧u=(sch,(plP s i).2.1,(plP s i).2.2.1,(plP s i).2.2.2.1,[],[])):=by
 have hd:(s.drop i).length=s.length-i:=zaq
 have hsp:=atq (·==(64:UInt8)) (s.drop i)
 have hu:=utl1 64 s i
 unfold ake plP
 simp only
 rw [aaa (by omega),zar]
 rcases hsp with⟨h3,h4⟩|⟨h3,h4,h5⟩
 ·have hun:¬utl [64] s i<s.length:=by omega
  rw [if_neg (by omega),zaa,zaA,if_neg hun]
  exact adHp_eq s (by omega) i hi sch []
 ·have e1:(i:Int)+ixb (·==(64:UInt8)) (s.drop i)=((utl [64] s i:Nat):Int):=by rw [h5,hu];rfl
  have hlt:utl [64] s i<s.length:=by omega
  have hge:=utl_ge [64] s i
  have h0:(ixb (·==(64:UInt8)) (s.drop i)=0)↔utl [64] s i=i:=by omega
  rw [if_pos h3,e1,aaa (aef _ (by omega) (by omega)),if_pos hlt,wrong_eq s (by omega) i _ hge (by omega) 0 (.inl rfl),zaa]
  have hsub:(sub s (i:Int) (utl [64] s i:Int)).length=utl [64] s i-i:=by rw [aqc];omega
  unfold usrP
  cases hb:badP 0 (sub s (i:Int) (utl [64] s i:Int))with
  |some j=>
   have hj:j<utl [64] s i-i:=by
    have:=badF_len 0 _ _ j hb
    omega
   have hat:at_ s ((i+j:Nat):Int)=at_ (sub s (i:Int) (utl [64] s i:Int)) (j:Int):=by
    unfold sub
    rw [zar,zar]
    have:=at_drop s i j
    rw [←this]
    simp only [at_,zar,List.getD_eq_getElem?_getD]
    rw [List.getElem?_take_of_lt hj]
   simp only
   rw [cond_true,aaa (by omega),hat]
   by_cases h58:at_ (sub s (i:Int) (utl [64] s i:Int)) (j:Int)=58
   ·rw [if_pos h58,if_pos h58,zaa,zbg,if_neg (by decide)]
    exact⟨_,_,_,(by omega),(by omega),rfl,fun h=>absurd h (by decide)⟩
   ·rw [if_neg h58,if_neg h58,zaa,zbg,if_neg (by decide)]
    exact⟨_,_,_,(by omega),(by omega),rfl,fun h=>absurd h (by decide)⟩
  |none=>
   simp only
   rw [cond_false]
   by_cases hz:utl [64] s i=i
   ·have hn:sub s (i:Int) (utl [64] s i:Int)=[]:=by
     apply zap;omega
    rw [if_pos (h0.2 hz),if_pos hn,zaa,zbg,if_neg (by decide)]
    exact⟨_,_,_,(by omega),(by omega),rfl,fun h=>absurd h (by decide)⟩
   ·have hn:¬sub s (i:Int) (utl [64] s i:Int)=[]:=fun h=>by rw [h]at hsub;simp at hsub;omega
    rw [if_neg (fun h=>hz (h0.1 h)),if_neg hn,aaa (by omega),content_eq _ (by omega) 0 (.inl rfl) hb,zaa,aaa (aef _ (by omega) (by omega)),zaa,zaA,ahl,if_pos rfl]
    exact adHp_eq s (by omega) _ (by omega) sch _
open List renaming drop_drop → zbu, eq_nil_of_length_eq_zero → zap, length_append → zab, length_cons → zad, length_drop → zaq, length_nil → zaj, length_take → zaE
theorem sub_take(s:Str)(i e n:Nat)(h:i+n≤e):sub s (i:Int) ((i+n:Nat):Int)=(sub s (i:Int) (e:Int)).take n:=by
 unfold sub
 simp only [zar]
 rw [List.take_take]
 congr 1
 try dsimp only
 omega
theorem sub_drop2(s:Str)(i e n:Nat):sub s ((i+n+1:Nat):Int) (e:Int)=(sub s (i:Int) (e:Int)).drop (n+1):=by
 unfold sub
 simp only [zar]
 rw [List.drop_take,zbu]
 congr 1
 try dsimp only
 omega
def atj(T:Str):Nat:=ahv (fun c=> !(c==61)) T
def fldP(k:Int)(l:List PP)(T:Str):UInt8×PP:=
 match badP k (T.take (atj T))with
 |some _=>(5,([],[],false))
 |none=>if atj T=0 then(5,([],[],false))else if atj T<T.length then
   (match badP k (T.drop (atj T+1))with
   |some _=>(5,([],[],false))
   |none=>if T.drop (atj T+1)=[]∧k=1 then(5,([],[],false))else(asb l (aau (conP k (T.take (atj T)))),(aau (conP k (T.take (atj T))),conP k (T.drop (atj T+1)),true)))
  else if k=2 then(5,([],[],false))else(asb l (aau (conP k (T.take (atj T)))),(aau (conP k (T.take (atj T))),[],false))
theorem field_eq(s:Str)(hs:s.length≤4194303)(i e:Nat)(hie:i≤e)(he:e≤s.length)(l:List PP)(hl:l.length≤16)(k:Int)(hk:k=1∨k=2):
  ∃l' a c,0≤a∧a≤5000000∧ahp FU (s,(i:Int)) l (e:Int) k=some (l',a,(fldP k l (sub s (i:Int) (e:Int))).1,c)∧
   ((fldP k l (sub s (i:Int) (e:Int))).1=0→l'=l++[(fldP k l (sub s (i:Int) (e:Int))).2]∧c=(s,(e:Int))):=by
 have hk3:k=0∨k=1∨k=2:=.inr hk
 have hT:(sub s (i:Int) (e:Int)).length=e-i:=by rw [aqc];omega
 have hst:=fun n h=>sub_take s i e n h
 have hsd:=fun n=>sub_drop2 s i e n
 have hroom:∀(nm v:Str) (h:Bool),∃l' a c,0≤a∧a≤5000000∧((ans FU l nm).bind fun(y112:UInt8)=>(if y112=(0:UInt8)then(gd ((l.length+([(nm,v,h)]:List PP).length)*40≤140737488355328)<|some (l++([(nm,v,h)]:List PP),(0:Int),(0:UInt8),(s,(e:Int))))else some (([]:List PP),(i:Int),y112,(s,(e:Int)))))=some (l',a,asb l nm,c)∧(asb l nm=0→l'=l++[(nm,v,h)]∧c=(s,(e:Int))):=by
  intro nm v h
  rw [room_eq l (by omega),zaa]
  by_cases h0:asb l nm=0
  ·rw [if_pos h0,aaa (by simp only [zad,zaj];omega),h0]
   exact⟨_,_,_,(by omega),(by omega),rfl,fun _=>⟨rfl,rfl⟩⟩
  ·rw [if_neg h0]
   exact⟨_,_,_,(by omega),(by omega),rfl,fun h=>absurd h h0⟩
 unfold ahp
 simp only
 rw [aaa (by omega)]
 generalize hTT:sub s (i:Int) (e:Int)=T at hT hst hsd⊢
 have hn:atj T≤T.length:=ape _ _
 have hix:=atq (·==(61:UInt8)) T
 have e10:(if(0:Int)≤(ixb (·==(61:UInt8)) T)then(gd (abt ((i:Int)+(ixb (·==(61:UInt8)) T)))<|some ((i:Int)+(ixb (·==(61:UInt8)) T)))else some (e:Int))=some ((i+atj T:Nat):Int):=by
  unfold atj at hn⊢
  rcases hix with⟨h1,h2⟩|⟨h1,h2,h3⟩
  ·rw [if_neg (by omega)];congr 1;omega
  ·rw [if_pos h1,aaa (aef _ (by omega) (by omega))];congr 1;omega
 have hiff:(0:Int)≤ixb (·==(61:UInt8)) T↔atj T<T.length:=by
  unfold atj
  rcases hix with⟨h1,h2⟩|⟨h1,h2,h3⟩<;>constructor<;>intro h<;>omega
 rw [e10,zaa,wrong_eq s (by omega) i (i+atj T) (by omega) (by omega) k hk3,zaa,hst (atj T) (by omega)]
 unfold fldP
 cases hb:badP k (T.take (atj T))with
 |some j=>
  have hj:=badF_len _ _ _ j hb
  rw [zaE]at hj
  simp only
  rw [cond_true]
  exact⟨_,_,_,(by omega),(by omega),rfl,fun h=>absurd h (by decide)⟩
 |none=>
  simp only
  rw [cond_false]
  by_cases h0:atj T=0
  ·rw [if_pos (by omega),if_pos h0]
   exact⟨_,_,_,(by omega),(by omega),rfl,fun h=>absurd h (by decide)⟩
  ·have htl:(T.take (atj T)).length≤4194304:=by rw [zaE];omega
   have hcl:=conP_len k (T.take (atj T))
   rw [if_neg (by omega),if_neg h0,aaa (by omega),content_eq _ htl k hk3 hb,zaa,anr _ (by omega),zaa]
   by_cases hlt:atj T<T.length
   ·have h61:(0:Int)≤ixb (·==(61:UInt8)) T:=hiff.2 hlt
    rw [if_pos hlt]
    simp only [h61,decide_true,if_true]
    rw [aaa (aef _ (by omega) (by omega)),ahl,wrong_eq s (by omega) (i+atj T+1) e (by omega) (by omega) k hk3,zaa,hsd]
    cases hb2:badP k (T.drop (atj T+1))with
    |some j=>
     have hj:=badF_len _ _ _ j hb2
     rw [zaq]at hj
     simp only
     rw [cond_true,zaa]
     exact⟨_,_,_,(by omega),(by omega),rfl,fun h=>absurd h (by decide)⟩
    |none=>
     have hdl:(T.drop (atj T+1)).length=T.length-(atj T+1):=zaq
     have e92:(if((i+atj T+1:Nat):Int)=(e:Int)then some (decide (k=(1:Int)))else some false)=some (decide (T.drop (atj T+1)=[]∧k=1)):=by
      by_cases hz:T.drop (atj T+1)=[]
      ·rw [hz]at hdl
       rw [if_pos (by simp at hdl;omega)]
       congr 1
       simp [hz]
      ·have:¬(T.drop (atj T+1)).length=0:=fun h=>hz (zap h)
       rw [if_neg (by omega),decide_eq_false (fun h=>hz h.1)]
     simp only
     rw [cond_false,e92,zaa]
     by_cases hx:T.drop (atj T+1)=[]∧k=1
     ·rw [decide_eq_true hx,cond_true,zaa,if_pos hx]
      exact⟨_,_,_,(by omega),(by omega),rfl,fun h=>absurd h (by decide)⟩
     ·rw [decide_eq_false hx,cond_false,aaa (by omega),content_eq _ (by omega) k hk3 hb2,zaa,zaa,if_neg hx]
      exact hroom _ _ _
   ·have h61:¬(0:Int)≤ixb (·==(61:UInt8)) T:=fun h=>hlt (hiff.1 h)
    have hend:((i+atj T:Nat):Int)=(e:Int):=by omega
    rw [if_neg hlt]
    simp only [h61,decide_false,if_false]
    by_cases h2:k=2
    ·rw [if_pos h2,if_pos h2,zaa]
     exact⟨_,_,_,(by omega),(by omega),rfl,fun h=>absurd h (by decide)⟩
    ·rw [if_neg h2,if_neg h2,zaa]
     exact hroom _ _ _
def plL (st : Str) (s : Str) : Nat → Nat → List PP → UInt8 × Nat × List PP
  | 0, i, l => (0, i, l)
  | f + 1, i, l => if aep s i 59 = true then
      (if (fldP 1 l (sub s ((i + 1 : Nat) : Int) (utl st s (i + 1) : Int))).1 = 0 then plL st s f (utl st s (i + 1)) (l ++ [(fldP 1 l (sub s ((i + 1 : Nat) : Int) (utl st s (i + 1) : Int))).2])
       else ((fldP 1 l (sub s ((i + 1 : Nat) : Int) (utl st s (i + 1) : Int))).1, 0, []))
    else (0, i, l)
def hdL (s : Str) : Nat → Nat → List PP → UInt8 × List PP
  | 0, i, l => (0, l)
  | f + 1, i, l => if i < s.length then
      (if (fldP 2 l (sub s ((i + 1 : Nat) : Int) (utl [38] s (i + 1) : Int))).1 = 0 then hdL s f (utl [38] s (i + 1)) (l ++ [(fldP 2 l (sub s ((i + 1 : Nat) : Int) (utl [38] s (i + 1) : Int))).2])
       else ((fldP 2 l (sub s ((i + 1 : Nat) : Int) (utl [38] s (i + 1) : Int))).1, []))
    else (0, l)
theorem room_len{l:List PP}{nm:Str}(h:asb l nm=0):l.length<16:=by
 unfold asb at h
 split at h
 ·exact absurd h (by decide)
 ·split at h
  ·exact absurd h (by decide)
  ·omega
theorem fld_len{k:Int}{l:List PP}{T:Str}(h:(fldP k l T).1=0):l.length<16:=by
 unfold fldP at h
 split at h
 ·exact absurd h (by decide)
 ·split at h
  ·exact absurd h (by decide)
  ·split at h
   ·split at h
    ·exact absurd h (by decide)
    ·split at h
     ·exact absurd h (by decide)
     ·exact room_len h
   ·split at h
    ·exact absurd h (by decide)
    ·exact room_len h
theorem plLoop_eq(s:Str)(hs:s.length≤4194303)(v:Int×UInt8×Str×Str×Int×Str×Str×Str×Int×List PP×List PP)(h1:v.2.2.1.length≤1000)(h2:v.2.2.1.all (fun b=>decide (b.toNat<128))=true)(n:Nat):
  ∀(i fk f:Nat) (l:List PP) (a:Int),0≤a→a≤5000000→s.length-i≤n→n+1<fk→n<f→i≤s.length→l.length≤16→
  ∃a' x' i' l',0≤a'∧a'≤5000000∧ahu FU v fk a 0 s (i:Int) l=some (a',(plL v.2.2.1 s f i l).1,x',i',l')∧((plL v.2.2.1 s f i l).1=0→x'=s∧i'=((plL v.2.2.1 s f i l).2.1:Int)∧l'=(plL v.2.2.1 s f i l).2.2):=by
 induction n with
 |zero=>
  intro i fk f l a ha0 ha1 hi hf hff hil hl
  obtain⟨fk,rfl⟩:=fkx fk
  obtain⟨f,rfl⟩:∃m,f=m+1:=⟨f-1,by omega⟩
  have hz:aep s i 59=false:=by unfold aep;rw [decide_eq_false (by omega)];rfl
  rw [alb,ahg,if_pos rfl,apf,zaa,hz,zaa,cond_false,plL,hz,if_neg (by decide)]
  exact⟨_,_,_,_,(by omega),(by omega),rfl,fun _=>⟨rfl,rfl,rfl⟩⟩
 |succ n ih=>
  intro i fk f l a ha0 ha1 hi hf hff hil hl
  obtain⟨fk,rfl⟩:=fkx fk
  obtain⟨f,rfl⟩:∃m,f=m+1:=⟨f-1,by omega⟩
  rw [alb,ahg,if_pos rfl,apf,zaa,zaa,plL]
  cases hz:aep s i 59 with
  |false=>
   rw [cond_false,if_neg (by decide)]
   exact⟨_,_,_,_,(by omega),(by omega),rfl,fun _=>⟨rfl,rfl,rfl⟩⟩
  |true=>
   have hlt:=(ags hz).1
   have hu1:=utl_ge v.2.2.1 s (i+1)
   have hu2:=ava v.2.2.1 s (i+1) hlt
   rw [cond_true,if_pos rfl,aaa (aef _ (by omega) (by omega)),ahl,atn s (by omega) (i+1) hlt _ h1 h2,zaa]
   obtain⟨l',a',c,b1,b2,e1,e2⟩:=field_eq s hs (i+1) (utl v.2.2.1 s (i+1)) hu1 hu2 l hl 1 (.inl rfl)
   rw [e1,zaa]
   by_cases h0:(fldP 1 l (sub s ((i+1:Nat):Int) (utl v.2.2.1 s (i+1):Int))).1=0
   ·obtain⟨rfl,rfl⟩:=e2 h0
    have:=fld_len h0
    rw [if_pos h0,h0]
    exact ih (utl v.2.2.1 s (i+1)) fk f _ _ (by omega) (by omega) (by omega) (by omega) (by omega) hu2 (by simp only [zab,zad,zaj];omega)
   ·rw [if_neg h0]
    simp only
    obtain⟨fk,rfl⟩:=fkx fk
    rw [alb,ahg,if_neg h0,zaa,cond_false]
    exact⟨_,_,_,_,(by omega),(by omega),rfl,fun h=>absurd h h0⟩
theorem hdLoop_eq(s:Str)(hs:s.length≤4194303)(n:Nat):
  ∀(i fk f:Nat) (l:List PP) (a:Int),0≤a→a≤5000000→s.length-i≤n→n+1<fk→n<f→i≤s.length→l.length≤16→
  ∃a' x' i' l',0≤a'∧a'≤5000000∧aht FU fk a 0 s (i:Int) l=some (a',(hdL s f i l).1,x',i',l')∧((hdL s f i l).1=0→l'=(hdL s f i l).2):=by
 induction n with
 |zero=>
  intro i fk f l a ha0 ha1 hi hf hff hil hl
  obtain⟨fk,rfl⟩:=fkx fk
  obtain⟨f,rfl⟩:∃m,f=m+1:=⟨f-1,by omega⟩
  rw [ala,ahf,if_pos rfl,ended_eq,zaa,decide_eq_true (by omega),zaa,zaz,cond_false,hdL,if_neg (by omega)]
  exact⟨_,_,_,_,(by omega),(by omega),rfl,fun _=>rfl⟩
 |succ n ih=>
  intro i fk f l a ha0 ha1 hi hf hff hil hl
  obtain⟨fk,rfl⟩:=fkx fk
  obtain⟨f,rfl⟩:∃m,f=m+1:=⟨f-1,by omega⟩
  rw [ala,ahf,if_pos rfl,ended_eq,zaa,zaa,hdL]
  by_cases hlt:i<s.length
  ·have hu1:=utl_ge [38] s (i+1)
   have hu2:=ava [38] s (i+1) hlt
   rw [decide_eq_false (by omega),zaH,cond_true,if_pos hlt,aaa (aef _ (by omega) (by omega)),ahl,atn s (by omega) (i+1) hlt _ (by decide) (by decide),zaa]
   obtain⟨l',a',c,b1,b2,e1,e2⟩:=field_eq s hs (i+1) (utl [38] s (i+1)) hu1 hu2 l hl 2 (.inr rfl)
   rw [e1,zaa]
   by_cases h0:(fldP 2 l (sub s ((i+1:Nat):Int) (utl [38] s (i+1):Int))).1=0
   ·obtain⟨rfl,rfl⟩:=e2 h0
    have:=fld_len h0
    rw [if_pos h0,h0]
    exact ih (utl [38] s (i+1)) fk f _ _ (by omega) (by omega) (by omega) (by omega) (by omega) hu2 (by simp only [zab,zad,zaj];omega)
   ·rw [if_neg h0]
    simp only
    obtain⟨fk,rfl⟩:=fkx fk
    rw [ala,ahf,if_neg h0,zaa,cond_false]
    exact⟨_,_,_,_,(by omega),(by omega),rfl,fun h=>absurd h h0⟩
  ·rw [decide_eq_true (by omega),zaz,cond_false,if_neg hlt]
   exact⟨_,_,_,_,(by omega),(by omega),rfl,fun _=>rfl⟩
open Bool renaming not_true → zaz
open Go.Op renaming bytesLess → zaL
open List renaming append_assoc → zal, eq_nil_of_length_eq_zero → zap, length_append → zab, length_cons → zad, length_singleton → zae, set → zaJ
theorem hs1_eqA(fu:Nat)(x y:PP):agz fu x y=some (cmpV x.1 y.1):=by
 unfold agz air akx cmpV
 rw [zaa,zaa,decide_eq_true rfl,decide_eq_true rfl,zaz,cond_false,cond_false]
 cases zaL x.1 y.1 with
 |true=>rfl
 |false=>
  rw [cond_false,cond_false]
  cases(!(false||x.1==y.1))<;>rfl
theorem ins_lp1A(n:Nat):∀(P S:List PP) (x:PP) (fk:Nat),P.length=n→n<fk→P.length+S.length≤1048575→
  abn FU 0 fk (P++x::S) (P.length:Int)=some (insR x P++S):=by
 induction n with
 |zero=>
  intro P S x fk hP hf hl
  obtain⟨fk,rfl⟩:=fkx fk
  obtain rfl:P=[]:=zap hP
  rw [aec,abl,if_neg (by simp)];rfl
 |succ n ih=>
  intro P S x fk hP hf hl
  obtain⟨fk,rfl⟩:=fkx fk
  rcases List.eq_nil_or_concat P with rfl|⟨P',a,rfl⟩
  ·simp at hP
  ·simp only [List.concat_eq_append]at*
   have hP':P'.length=n:=by simp at hP;omega
   have e1:(((P'++[a]).length:Int)-1)=(P'.length:Int):=by simp
   have hj:el (P'++[a]++x::S) ((P'++[a]).length:Int)=x:=el_at _ _ _
   have hj1:el (P'++[a]++x::S) (P'.length:Int)=a:=by rw [zal];exact el_at P' (x::S) a
   have hlen:(P'++[a]++x::S).length=P'.length+2+S.length:=by simp;omega
   have hin:(0:Int)≤((P'++[a]).length:Int)∧((P'++[a]).length:Int)<((P'++[a]++x::S).length:Int):=by rw [hlen];simp;omega
   have hin1:(0:Int)≤(P'.length:Int)∧(P'.length:Int)<((P'++[a]++x::S).length:Int):=by rw [hlen];omega
   have hok:abt (P'.length:Int):=aef _ (by omega) (by simp at hl;omega)
   have ht1:((P'++[a]).length:Int).toNat=P'.length+1:=by simp
   have ht2:((P'.length:Nat):Int).toNat=P'.length:=by omega
   rw [aec,abl,e1]
   simp only [hj,hj1,pp_eta,hs1_eqA,zaa,cmp_lt,aaa hin,aaa hin1,aaa hok]
   rw [if_pos (by rw [zab,zae];omega),zaa,less_tri x.1 a.1,insR_snoc]
   have hg:(!(zaL a.1 x.1||a.1==x.1))=gtN a.1 x.1:=rfl
   rw [hg]
   cases gtN a.1 x.1 with
   |false=>rw [cond_false,cond_false];simp
   |true=>
    have hset:zaJ (P'++[a]++x::S) ((P'++[a]).length:Int).toNat a=P'++a::a::S:=by
     rw [ht1,zal,List.set_append_right _ _ (by omega)]
     simp
    have hset2:zaJ (P'++a::a::S) ((P'.length:Nat):Int).toNat x=P'++x::a::S:=by
     rw [ht2,List.set_append_right _ _ (by omega)]
     simp
    rw [cond_true,cond_true,hset,hset2,aaa (by simp;omega),aaa (by simp;omega),ih P' (a::S) x fk hP' (by omega) (by simp at hl⊢;omega)]
    simp
theorem ins_lp0A(R:List PP):∀(P:List PP) (fk:Nat) (n:Int),n=((P++R).length:Int)→(P++R).length≤1048575→R.length<fk→
  aao FU 0 n fk (P++R) (P.length:Int)=some (R.foldl (fun out x=>insR x out) P):=by
 induction R with
 |nil=>
  intro P fk n hn hl hf
  obtain⟨fk,rfl⟩:=fkx fk
  rw [acr,aaz,if_neg (by rw [hn];simp)];simp
 |cons a R ih=>
  intro P fk n hn hl hf
  obtain⟨fk,rfl⟩:=fkx fk
  simp only [zab,zad]at hl hf
  rw [acr,aaz,if_pos (by rw [hn];simp;omega),ins_lp1A P.length P R a FU rfl (by rw [ahy];omega) (by omega),zaa,aaa (aef _ (by omega) (by omega))]
  have hil:=insR_len a P
  have:=ih (insR a P) fk n (by rw [hn];simp [hil];omega) (by simp only [zab,hil];omega) (by omega)
  rw [hil]at this
  have e:((P.length:Int)+1)=((P.length+1:Nat):Int):=rfl
  rw [e,this];rfl
theorem ins_eqA(l:List PP)(hl:l.length≤1048575):abe FU l 0 (l.length:Int)=some (acl l):=by
 unfold abe
 rw [aaa (aef _ (by omega) (by omega))]
 cases l with
 |nil=>
  obtain⟨m,hm⟩:∃m,FU=m+1:=⟨FU-1,by rw [ahy]⟩
  rw [show(aao FU 0 (([]:List PP).length:Int) FU [] (0+1))=aao FU 0 (([]:List PP).length:Int) (m+1) [] (0+1)by rw [←hm]]
  rw [acr,aaz,if_neg (by simp)];rfl
 |cons a l=>
  have:=ins_lp0A l [a] FU ((a::l).length:Int) rfl hl (by rw [ahy];simp at hl;omega)
  exact this
theorem asorted_eq(l:List PP)(hl:l.length<20):afy FU l=some (acl l):=by
 unfold afy adv aea
 obtain⟨m,hm⟩:∃m,FU=m+1:=⟨FU-1,by rw [ahy]⟩
 have g1:abi FU (l.length:Int) FU l (0:Int) (20:Int)=some (l,0):=by
  have:∀k,abi FU (l.length:Int) (k+1) l (0:Int) (20:Int)=some (l,0):=fun k=>by
   rw [ajy,adh,if_neg (by omega)]
  have:=this m
  rw [←hm]at this
  exact this
 have g2:abh FU (l.length:Int) FU (acl l) (20:Int)=some (acl l):=by
  have:∀k,abh FU (l.length:Int) (k+1) (acl l) (20:Int)=some (acl l):=fun k=>by
   rw [ajx,adg,if_neg (by omega)]
  have:=this m
  rw [←hm]at this
  exact this
 rw [aaa (by omega),g1,zaa]
 simp only
 rw [ins_eqA l (by omega),zaa,g2];rfl
open Go.Lib renaming hasPrefix → zba, trimPrefix → zaw
open List renaming append_assoc → zal, append_nil → zam, drop_zero → zbs, length_append → zab, length_cons → zad, length_nil → zaj, length_take → zaE, nil_append → zax
open Nat renaming zero_add → zbc, zero_le → zah
open Option renaming bind_some → zaa, map_some → zaU
def dialB(sg:Bool)(c:UInt8):Bool:=adc c||(!sg&&(c==42||c==35))
def gapB(c:UInt8):Bool:=c==45||c==46||c==40||c==41
def avp(sg:Bool):Str→Option Str
 |[]=>some []
 |c::T=>if dialB sg c=true then(avp sg T).map (c::·)else if gapB c=true then avp sg T else none
theorem dial_eq(sg:Bool)(c:UInt8):(((if(48:UInt8)≤c then some (decide (c≤(57:UInt8)))else some false)).bind fun(v764:Bool)=>(bif v764 then some v764 else(bif (!sg)then(if c=(42:UInt8)then some true else some (decide (c=(35:UInt8))))else some false)))=some (dialB sg c):=by
 revert c
 cases sg<;>exact aae _ (by decide+kernel)
theorem gap_eq(c:UInt8):(if c=(45:UInt8)then some false else(if c=(46:UInt8)then some false else(if c=(40:UInt8)then some false else some (!decide (c=(41:UInt8))))))=some (!gapB c):=by
 revert c
 exact aae _ (by decide+kernel)
theorem telN_lp(s:Str)(hs:s.length≤4194303)(i0:Int)(u:UU)(e:Nat)(he:e≤s.length)(sg:Bool)(n:Nat):∀(k fk:Nat) (b:Str),k+n=e→n<fk→b.length≤k→
  ∃j,ahd FU (s,i0) u (e:Int) sg fk b (k:Int)=some j∧
   (match avp sg (sub s (k:Int) (e:Int))with
   |some d=>j=.inl (b++d,(e:Int))
   |none=>∃a c w,0≤a∧a≤5000000∧j=.inr (a,5,c,w)):=by
 induction n with
 |zero=>
  intro k fk b hk hf hb
  obtain⟨fk,rfl⟩:=fkx fk
  obtain rfl:k=e:=by omega
  rw [anp,ago,if_neg (by omega),sub_self']
  exact⟨_,rfl,by simp only [avp,zam]⟩
 |succ n ih=>
  intro k fk b hk hf hb
  obtain⟨fk,rfl⟩:=fkx fk
  have hsp:sub s (k:Int) (e:Int)=at_ s (k:Int)::sub s ((k+1:Nat):Int) (e:Int):=by
   unfold sub
   simp only [zar]
   rw [drop_at s k (by omega),show e-k=(e-(k+1))+1 by omega,List.take_succ_cons]
  rw [anp,ago,if_pos (by omega),gok,dial_eq,zaa,hsp]
  unfold avp
  cases hd:dialB sg (at_ s (k:Int))with
  |true=>
   rw [cond_true,aaa (by simp only [zad,zaj];omega),zaa,zaA,aaa (aef _ (by omega) (by omega)),ahl,if_pos rfl]
   obtain⟨j,h1,h2⟩:=ih (k+1) fk (b++[at_ s (k:Int)]) (by omega) (by omega) (by simp only [zab,zad,zaj];omega)
   refine⟨j,h1, ?_⟩
   cases hk2:avp sg (sub s ((k+1:Nat):Int) (e:Int))with
   |none=>rw [hk2]at h2;exact h2
   |some d=>
    rw [hk2]at h2
    simp only [zaU]
    rw [h2,zal];rfl
  |false=>
   rw [cond_false,gap_eq,zaa,if_neg (by decide)]
   cases hg:gapB (at_ s (k:Int))with
   |true=>
    rw [zaz,cond_false,zaa,zaA,aaa (aef _ (by omega) (by omega)),ahl,if_pos rfl]
    exact ih (k+1) fk b (by omega) (by omega) (by omega)
   |false=>
    rw [zaH,cond_true,zaa,zbg,if_neg (by decide)]
    exact⟨_,rfl,_,_,_,(by omega),(by omega),rfl⟩
def telP(s:Str)(i:Nat):UInt8×Str:=
 match avp (aep s i 43) (sub s ((if aep s i 43=true then i+1 else i:Nat):Int) (utl [59] s i:Int))with
 |none=>(5,[])
 |some d=>if d=[]then(5,[])else if 30<d.length then(4,[])else(0,if aep s i 43=true then 43::d else d)
theorem keepN_head(T d:Str)(h:avp false T=some d):zaw d ([43]:Str)=d:=by
 have key:∀(T d:Str),avp false T=some d→∀c∈d,c≠43:=by
  intro T
  induction T with
  |nil=>intro d h;simp only [avp,Option.some.injEq]at h;subst h;simp
  |cons a T ih=>
   intro d h
   unfold avp at h
   split at h
   ·rename_i hd
    cases hk:avp false T with
    |none=>rw [hk]at h;cases h
    |some d'=>
     rw [hk]at h
     simp only [zaU,Option.some.injEq]at h
     subst h
     intro c hc
     rcases List.mem_cons.1 hc with rfl|hc
     ·intro e;subst e;exact absurd hd (by decide)
     ·exact ih d' hk c hc
   ·split at h
    ·exact ih d h
    ·cases h
 cases d with
 |nil=>rfl
 |cons c d=>
  have:=key T (c::d) h c (by simp)
  have h2:¬(43:UInt8)=c:=fun e=>this e.symm
  unfold zaw zba
  simp [h2]
theorem utl_step(st s:Str)(i:Nat)(hi:i<s.length)(h:asq st (at_ s (i:Int))=false):utl st s i=utl st s (i+1):=by
 unfold utl
 rw [drop_at s i hi,ahv,if_pos (by rw [h];rfl)]
 omega
theorem tel_eq(s:Str)(hs:s.length≤4194303)(i:Nat)(hi:i≤s.length)(sch:Str):∃a c u,0≤a∧a≤5000000∧ajb FU (s,(i:Int)) (sch,[],[],0,[],[])=some (a,(telP s i).1,c,u)∧
  ((telP s i).1=0→c=(s,(utl [59] s i:Int))∧u=(sch,(telP s i).2,[],0,[],[])):=by
 have hu1:=utl_ge [59] s i
 have hu2:=ava [59] s i hi
 have hfin:∀(d v:Str) (u0:Str),zaw v ([43]:Str)=d→∃a c u,0≤a∧a≤5000000∧
   (if(zaw v ([43]:Str))=([]:Str)then some ((i:Int),(5:UInt8),(s,(utl [59] s i:Int)),((sch,v,([]:Str),(0:Int),([]:List PP),([]:List PP)):UU))else(if(30:Int)<((zaw v ([43]:Str)).length:Int)then some ((i:Int),(4:UInt8),(s,(utl [59] s i:Int)),((sch,v,([]:Str),(0:Int),([]:List PP),([]:List PP)):UU))else some ((0:Int),(0:UInt8),(s,(utl [59] s i:Int)),((sch,v,([]:Str),(0:Int),([]:List PP),([]:List PP)):UU))))=
   some (a,(if d=[]then((5,[]):UInt8×Str)else if 30<d.length then(4,[])else(0,v)).1,c,u)∧((if d=[]then((5,[]):UInt8×Str)else if 30<d.length then(4,[])else(0,v)).1=0→c=(s,(utl [59] s i:Int))∧u=(sch,(if d=[]then((5,[]):UInt8×Str)else if 30<d.length then(4,[])else(0,v)).2,[],0,[],[])):=by
  intro d v u0 hd
  rw [hd]
  by_cases h0:d=[]
  ·rw [if_pos h0,if_pos h0]
   exact⟨_,_,_,(by omega),(by omega),rfl,fun h=>absurd h (by decide)⟩
  ·rw [if_neg h0,if_neg h0]
   by_cases h30:30<d.length
   ·rw [if_pos (by omega),if_pos h30]
    exact⟨_,_,_,(by omega),(by omega),rfl,fun h=>absurd h (by decide)⟩
   ·rw [if_neg (by omega),if_neg h30]
    exact⟨_,_,_,(by omega),(by omega),rfl,fun _=>⟨rfl,rfl⟩⟩
 unfold ajb telP
 simp only
 rw [atn s (by omega) i hi _ (by decide) (by decide),zaa,apf,zaa]
 cases hsg:aep s i 43 with
 |true=>
  have hlt:=(ags hsg).1
  have hat:=(ags hsg).2
  have hst:=utl_step [59] s i hlt (by rw [hat];decide)
  have hu3:=utl_ge [59] s (i+1)
  rw [cond_true,aaa (by decide),aaa (aef _ (by omega) (by omega)),zaa,ahl,if_pos rfl]
  simp only
  obtain⟨j,h1,h2⟩:=telN_lp s hs (i:Int) (sch,[],[],0,[],[]) (utl [59] s i) hu2 true (utl [59] s i-(i+1)) (i+1) FU ([]++[43]) (by omega) (by rw [ahy];omega) (by simp only [zax,zad,zaj];omega)
  rw [h1,zaa]
  cases hk:avp true (sub s ((i+1:Nat):Int) ((utl [59] s i:Nat):Int))with
  |none=>
   rw [hk]at h2
   obtain⟨a,c,w,q1,q2,rfl⟩:=h2
   rw [zbg]
   exact⟨_,_,_,(by omega),(by omega),rfl,fun h=>absurd h (by decide)⟩
  |some d=>
   rw [hk]at h2
   simp only at h2
   subst h2
   rw [zaA]
   simp only [if_true]
   exact hfin d _ [] (by
    show zaw (43::d) [43]=d
    unfold zaw zba
    simp)
 |false=>
  rw [cond_false,zaa,if_neg (show¬(false=true)by decide)]
  simp only
  obtain⟨j,h1,h2⟩:=telN_lp s hs (i:Int) (sch,[],[],0,[],[]) (utl [59] s i) hu2 false (utl [59] s i-i) i FU [] (by omega) (by rw [ahy];omega) (by simp)
  rw [h1,zaa]
  cases hk:avp false (sub s (i:Int) ((utl [59] s i:Nat):Int))with
  |none=>
   rw [hk]at h2
   obtain⟨a,c,w,q1,q2,rfl⟩:=h2
   rw [zbg]
   exact⟨_,_,_,(by omega),(by omega),rfl,fun h=>absurd h (by decide)⟩
  |some d=>
   rw [hk]at h2
   simp only at h2
   subst h2
   rw [zaA]
   simp only
   try rw [if_neg (show¬(false=true)by decide)]
   try simp only [Bool.false_eq_true,if_false]
   rw [zax]
   exact hfin d d [] (keepN_head _ _ hk)
def nilU:UU:=([],[],[],0,[],[])
theorem plL_len(st s:Str):∀(f i:Nat) (l:List PP),l.length≤16→(plL st s f i l).2.2.length≤16
 |0,i,l,h=>h
 |f+1,i,l,h=>by
  unfold plL
  split
  ·split
   ·rename_i h0
    have:=fld_len h0
    exact plL_len st s f _ _ (by simp only [zab,zad,zaj];omega)
   ·exact zah _
  ·exact h
theorem hdL_len(s:Str):∀(f i:Nat) (l:List PP),l.length≤16→(hdL s f i l).2.length≤16
 |0,i,l,h=>h
 |f+1,i,l,h=>by
  unfold hdL
  split
  ·split
   ·rename_i h0
    have:=fld_len h0
    exact hdL_len s f _ _ (by simp only [zab,zad,zaj];omega)
   ·exact zah _
  ·exact h
theorem plL_le(st s:Str):∀(f i:Nat) (l:List PP),i≤s.length→(plL st s f i l).1=0→(plL st s f i l).2.1≤s.length
 |0,i,l,h,_=>h
 |f+1,i,l,h,h0=>by
  unfold plL at h0⊢
  split
  ·rename_i hz
   rw [if_pos hz]at h0
   split
   ·rename_i h1
    rw [if_pos h1]at h0
    exact plL_le st s f _ _ (ava st s _ (ags hz).1) h0
   ·exact zah _
  ·exact h
def restP (st s sch us h : Str) (port : Int) (i : Nat) : UInt8 × UU :=
  if (plL st s (s.length + 1) i []).1 = 0 then
    (if (hdL s (s.length + 1) (plL st s (s.length + 1) i []).2.1 []).1 = 0 then (0, (sch, us, h, port, acl (plL st s (s.length + 1) i []).2.2, acl (hdL s (s.length + 1) (plL st s (s.length + 1) i []).2.1 []).2))
     else ((hdL s (s.length + 1) (plL st s (s.length + 1) i []).2.1 []).1, nilU))
  else ((plL st s (s.length + 1) i []).1, nilU)
abbrev PV:=Int×UInt8×Str×Str×Int×Str×Str×Str×Int×List PP×List PP
def restL(v:PV):Option (UU×Int×UInt8):=((ahu FU v FU v.1 v.2.1 v.2.2.2.1 v.2.2.2.2.1 v.2.2.2.2.2.2.2.2.2.1)).bind fun(v287:(Int×UInt8×Str×Int×(List PP)))=>(((aht FU FU v287.1 v287.2.1 v287.2.2.1 v287.2.2.2.1 v.2.2.2.2.2.2.2.2.2.2)).bind fun(v568:(Int×UInt8×Str×Int×(List PP)))=>(if v568.2.1=(0:UInt8)then((afy FU v287.2.2.2.2).bind fun(y709:List PP)=>((afy FU v568.2.2.2.2).bind fun(y719:List PP)=>some ((v.2.2.2.2.2.1,v.2.2.2.2.2.2.1,v.2.2.2.2.2.2.2.1,v.2.2.2.2.2.2.2.2.1,y709,y719),(0:Int),(0:UInt8))))else some ((([]:Str),([]:Str),([]:Str),(0:Int),([]:List PP),([]:List PP)),v568.1,v568.2.1)))
theorem lp1_no(fk:Nat)(hf:0<fk)(a:Int)(e:UInt8)(he:¬e=0)(x:Str)(i:Int)(l:List PP):aht FU fk a e x i l=some (a,e,x,i,l):=by
 obtain⟨fk,rfl⟩:=fkx fk
 rw [ala,ahf,if_neg he,zaa,cond_false]
theorem lp0_no(v:PV)(fk:Nat)(hf:0<fk)(a:Int)(e:UInt8)(he:¬e=0)(x:Str)(i:Int)(l:List PP):ahu FU v fk a e x i l=some (a,e,x,i,l):=by
 obtain⟨fk,rfl⟩:=fkx fk
 rw [alb,ahg,if_neg he,zaa,cond_false]
theorem rest_no(v:PV)(he:¬v.2.1=0):restL v=some (nilU,v.1,v.2.1):=by
 unfold restL
 rw [lp0_no v FU (by rw [ahy];omega) _ _ he,zaa]
 simp only
 rw [lp1_no FU (by rw [ahy];omega) _ _ he,zaa]
 simp only
 rw [if_neg he];rfl
theorem rest_eq(s:Str)(hs:s.length≤4194303)(st:Str)(h1:st.length≤1000)(h2:st.all (fun b=>decide (b.toNat<128))=true)(a:Int)(ha0:0≤a)(ha1:a≤5000000)(sch us h:Str)(port:Int)(i:Nat)(hi:i≤s.length):
  ∃a',0≤a'∧a'≤5000000∧restL (a,0,st,s,(i:Int),sch,us,h,port,[],[])=some ((restP st s sch us h port i).2,a',(restP st s sch us h port i).1):=by
 unfold restL restP
 simp only
 obtain⟨a1,x1,i1,l1,b1,b2,e1,e2⟩:=plLoop_eq s hs (a,0,st,s,(i:Int),sch,us,h,port,[],[]) h1 h2 s.length i FU (s.length+1) [] a ha0 ha1 (by omega) (by rw [ahy];omega) (by omega) hi (by simp)
 rw [e1,zaa]
 simp only at e2⊢
 by_cases h0:(plL st s (s.length+1) i []).1=0
 ·obtain⟨rfl,rfl,rfl⟩:=e2 h0
  have hle:=plL_le st x1 (x1.length+1) i [] hi h0
  have hl1:=plL_len st x1 (x1.length+1) i [] (by simp)
  have hl2:=hdL_len x1 (x1.length+1) (plL st x1 (x1.length+1) i []).2.1 [] (by simp)
  obtain⟨a2,x2,i2,l2,b3,b4,g1,g2⟩:=hdLoop_eq x1 hs x1.length (plL st x1 (x1.length+1) i []).2.1 FU (x1.length+1) [] a1 b1 b2 (by omega) (by rw [ahy];omega) (by omega) hle (by simp)
  rw [h0,g1,zaa,if_pos rfl]
  simp only
  by_cases h3:(hdL x1 (x1.length+1) (plL st x1 (x1.length+1) i []).2.1 []).1=0
  ·rw [if_pos h3,if_pos h3,g2 h3,asorted_eq _ (by omega),zaa,asorted_eq _ (by omega),zaa]
   exact⟨_,(by omega),(by omega),rfl⟩
  ·rw [if_neg h3,if_neg h3]
   exact⟨_,(by omega),(by omega),rfl⟩
 ·rw [if_neg h0,lp1_no FU (by rw [ahy];omega) _ _ h0,zaa]
  simp only
  rw [if_neg h0]
  exact⟨_,(by omega),(by omega),rfl⟩
def SIP:Str:=[115,105,112]
def SIPS:Str:=[115,105,112,115]
def TEL:Str:=[116,101,108]
def aqk (s : Str) : UInt8 × UU :=
  if 1024 < s.length then (4, nilU) else if utl [58] s 0 < s.length then
    (if aau (s.take (utl [58] s 0)) = SIP ∨ aau (s.take (utl [58] s 0)) = SIPS then
      (if (plP s (utl [58] s 0 + 1)).1 = 0 then restP [59, 63] s (aau (s.take (utl [58] s 0))) (plP s (utl [58] s 0 + 1)).2.1 (plP s (utl [58] s 0 + 1)).2.2.1 (plP s (utl [58] s 0 + 1)).2.2.2.1 (plP s (utl [58] s 0 + 1)).2.2.2.2 else ((plP s (utl [58] s 0 + 1)).1, nilU))
     else if aau (s.take (utl [58] s 0)) = TEL then
      (if (telP s (utl [58] s 0 + 1)).1 = 0 then restP [59] s (aau (s.take (utl [58] s 0))) (telP s (utl [58] s 0 + 1)).2 [] 0 (utl [59] s (utl [58] s 0 + 1)) else ((telP s (utl [58] s 0 + 1)).1, nilU))
     else (15, nilU))
  else (5, nilU)
theorem hpP_le(s:Str)(i:Nat)(hi:i≤s.length):(hpP s i).2.2.2≤s.length:=by
 have hb:=hEnd_bd s i hi
 unfold hpP
 split
 ·exact zah _
 ·split
  ·rename_i h58
   split
   ·exact ava [59,63] s _ (ags h58).1
   ·exact zah _
  ·split
   ·exact zah _
   ·exact hb.2
theorem plP_le(s:Str)(i:Nat)(hi:i≤s.length):(plP s i).2.2.2.2≤s.length:=by
 unfold plP
 split
 ·split
  ·exact hpP_le s _ (by omega)
  ·exact zah _
 ·exact hpP_le s i hi
theorem parse_eq(s:Str):∃a,0≤a∧a≤5000000∧aos FU s=some ((aqk s).2,a,(aqk s).1):=by
 unfold aos aqk
 by_cases hl:1024<s.length
 ·rw [if_pos (by omega),if_pos hl]
  exact⟨_,(by omega),(by omega),rfl⟩
 ·rw [if_neg (by omega),if_neg hl]
  have hu:=utl1 58 s 0
  rw [zbs,zbc]at hu
  rcases atq (·==(58:UInt8)) s with⟨h1,h2⟩|⟨h1,h2,h3⟩
  ·rw [if_pos (by omega),if_neg (by omega)]
   exact⟨_,(by omega),(by omega),rfl⟩
  ·have hix:ixb (·==(58:UInt8)) s=((utl [58] s 0:Nat):Int):=by omega
   rw [hix]
   have hc:utl [58] s 0<s.length:=by omega
   generalize utl [58] s 0=c at hc⊢
   rw [if_neg (by omega),if_pos hc,aaa (aef _ (by omega) (by omega)),aaa (by omega),zar,anr _ (by rw [zaE];omega),zaa,ahl]
   generalize aau (s.take c)=sch
   have e98:(if sch=([115,105,112]:Str)then some (decide (sch=([115,105,112]:Str)))else some (decide (sch=([115,105,112,115]:Str))))=some (decide (sch=SIP∨sch=SIPS)):=by
    by_cases hA:sch=SIP
    ·rw [if_pos (show sch=([115,105,112]:Str)from hA),decide_eq_true (show sch=([115,105,112]:Str)from hA),decide_eq_true (Or.inl hA)]
    ·rw [if_neg (show¬sch=([115,105,112]:Str)from hA)]
     congr 1
     rw [decide_eq_decide]
     exact⟨Or.inr,fun h=>h.resolve_left hA⟩
   rw [e98,zaa]
   by_cases hsip:sch=SIP∨sch=SIPS
   ·obtain⟨a,cc,u,b1,b2,g1,g2⟩:=place_eq s (by omega) (c+1) hc sch
    rw [decide_eq_true hsip,cond_true,if_pos hsip,g1,zaa,zaa]
    by_cases h0:(plP s (c+1)).1=0
    ·obtain⟨rfl,rfl⟩:=g2 h0
     rw [if_pos h0,h0]
     have hnx:(plP s (c+1)).2.2.2.2≤s.length:=plP_le s (c+1) hc
     exact rest_eq s (by omega) [59,63] (by decide) (by decide) a b1 b2 sch _ _ _ _ hnx
    ·rw [if_neg h0]
     exact⟨_,b1,b2,rest_no (a,(plP s (c+1)).1,[59,63],cc.1,cc.2,u) h0⟩
   ·rw [decide_eq_false hsip,cond_false,if_neg hsip]
    by_cases htel:sch=TEL
    ·obtain⟨a,cc,u,b1,b2,g1,g2⟩:=tel_eq s (by omega) (c+1) hc sch
     rw [if_pos (show sch=([116,101,108]:Str)from htel),if_pos htel,g1,zaa,zaa]
     by_cases h0:(telP s (c+1)).1=0
     ·obtain⟨rfl,rfl⟩:=g2 h0
      rw [if_pos h0,h0]
      exact rest_eq s (by omega) [59] (by decide) (by decide) a b1 b2 sch _ _ _ _ (ava [59] s (c+1) hc)
     ·rw [if_neg h0]
      exact⟨_,b1,b2,rest_no (a,(telP s (c+1)).1,[59],cc.1,cc.2,u) h0⟩
    ·rw [if_neg (show¬sch=([116,101,108]:Str)from htel),if_neg htel,zaa]
     exact⟨_,Int.le_refl 0,(show(0:Int)≤5000000 by decide),rest_no (0,15,[59,63],s,((c+1:Nat):Int),sch,[],[],0,[],[]) (show¬(15:UInt8)=0 by decide)⟩
open Bool renaming and_eq_true → zai, or_false → zbz, true_and → zaS
open Go.Lib renaming join → zau
open List renaming all_cons → zaR, any_cons → zbo, append_assoc → zal, append_nil → zam, cons_append → zay, drop_left → zbi, flatMap_cons → zas, intercalate → zbw, length_append → zab, length_cons → zad, length_nil → zaj, length_singleton → zae, mem_cons_of_mem → zaf, nil_append → zax, singleton_append → zaM, take_left → zbv
open Nat renaming le_refl → zao, zero_le → zah
theorem skipA(p:UInt8→Bool)(s A B:Str)(h:s=A++B):aap p s (A.length:Int)=A.length+ahv p B:=by
 subst h
 unfold aap
 rw [aks _ _ (by rw [zab];omega),zbi]
theorem atA(s A B:Str)(c:UInt8)(h:s=A++c::B):at_ s (A.length:Int)=c:=by rw [h,at_mid]
theorem avu(s A B:Str)(b:UInt8)(h:s=A++B):aep s A.length b=decide (B.head? =some b):=by
 subst h
 unfold aep
 cases B with
 |nil=>simp
 |cons c B=>
  rw [at_mid,decide_eq_true (by rw [zab,zad];omega),zaS,List.head?_cons]
  by_cases h:c=b
  ·subst h;simp
  ·simp [h]
theorem subA(s A B C:Str)(h:s=A++(B++C)):sub s (A.length:Int) ((A.length+B.length:Nat):Int)=B:=by
 subst h
 unfold sub
 rw [zar,zar,zbi,Nat.add_sub_cancel_left,zbv]
theorem ank(p:UInt8→Bool)(B:Str)(h:∀c,B.head? =some c→p c=false):ahv p B=0:=by
 cases B with
 |nil=>rfl
 |cons c B=>exact awo p c B (h c rfl)
theorem atr(a b:Str)(h:a≠[]):(a++b).head? =a.head? :=by
 cases a with
 |nil=>exact absurd rfl h
 |cons x a=>rfl
theorem head_all(p:UInt8→Bool)(a:Str)(h:a.all p=true)(c:UInt8)(hc:a.head? =some c):p c=true:=by
 cases a with
 |nil=>cases hc
 |cons x a=>
  rw [List.head?_cons,Option.some.injEq]at hc
  rw [zaR,zai]at h
  rw [←hc];exact h.1
theorem aov{v:Str}(h:ahi v=true):v≠[]∧v.all aaf=true:=by
 unfold ahi at h
 rw [zai]at h
 refine⟨fun e=> ?_,h.2⟩
 subst e
 exact absurd h.1 (by decide)
theorem qs_yes(c:UInt8)(h:c=34∨c=92):amy c=[92,c]:=by unfold amy;rw [if_pos h]
theorem qs_no(c:UInt8)(h:¬(c=34∨c=92)):amy c=[c]:=by unfold amy;rw [if_neg h]
theorem unq_flat:∀(v rest:Str) (k:Nat) (acc:Str),v.any aax=false→unqL (v.flatMap amy++34::rest) k acc=(acc++v,((k+(v.flatMap amy).length+1:Nat):Int),0)
 |[],rest,k,acc,_=>by
  rw [List.flatMap_nil,zax,aud,if_pos rfl,zam,zaj]
 |c::v,rest,k,acc,h=>by
  rw [zbo,Bool.or_eq_false_iff]at h
  by_cases hq:c=34∨c=92
  ·have he:asr c=true:=by rcases hq with rfl|rfl<;>decide
   have e:(c::v).flatMap amy++34::rest=92::c::(v.flatMap amy++34::rest):=by rw [zas,qs_yes c hq];rfl
   rw [e,aud,if_neg (by decide),if_pos rfl,if_neg (by simp)]
   have ha:at_ (c::(v.flatMap amy++34::rest)) 0=c:=by simp [at_]
   rw [ha,if_pos he,List.drop_one,List.tail_cons,unq_flat v rest (k+2) _ h.2,zas,qs_yes c hq]
   simp only [zal,zaM,zab,zad,zaj]
   congr 2
   omega
  ·have e:(c::v).flatMap amy++34::rest=c::(v.flatMap amy++34::rest):=by rw [zas,qs_no c hq];rfl
   rw [e,aud,if_neg (fun h=>hq (.inl h)),if_neg (fun h=>hq (.inr h)),if_neg (by rw [h.1];decide),unq_flat v rest (k+1) _ h.2,zas,qs_no c hq]
   simp only [zal,zaM,zab,zad,zaj]
   congr 2
   omega
theorem unqA(s A v C:Str)(h:s=A++(quoT v++C))(hv:v.any aax=false):auc s (A.length:Int)=(v,((A.length+(quoT v).length:Nat):Int),0):=by
 have e:quoT v++C=34::(v.flatMap amy++34::C):=by unfold quoT;simp
 have hs:s=A++34::(v.flatMap amy++34::C):=by rw [h,e]
 have hl:s.length=A.length+(v.flatMap amy++34::C).length+1:=by rw [hs,zab,zad];omega
 have ha:=atA s A _ 34 hs
 have hd:s.drop (A.length+1)=v.flatMap amy++34::C:=by
  rw [hs,show A++34::(v.flatMap amy++34::C)=(A++[34])++(v.flatMap amy++34::C)by simp,show A.length+1=(A++[34]).length by simp,zbi]
 unfold auc
 rw [if_neg (by omega),if_neg (by rintro(h|h);omega;exact h ha),zar,hd,unq_flat v C _ [] hv,zax]
 have hq:(quoT v).length=(v.flatMap amy).length+2:=by unfold quoT;simp
 rw [hq]
 congr 2
 omega
section
variable (q : UInt8 → Bool) (h1 : ∀ c, hexB c = true → q (aer c) = true) (h2 : q 58 = true) (h3 : q 48 = true)
include h1 h2 h3
omit h2 in
theorem grpN_q (g:Str) (h:arb g=true):∀c∈aus g,q c=true:=by
 have hx:g.all hexB=true:=by unfold arb at h;simp only [zai]at h;exact h.2
 intro c hc
 unfold aus at hc
 split at hc
 ·rw [List.mem_singleton.1 hc];exact h3
 ·have hm:c∈lowP g:=(List.dropWhile_suffix _).subset hc
  obtain⟨d,hd,rfl⟩:=List.mem_map.1 hm
  exact h1 d (List.all_eq_true.1 hx d hd)
omit h1 h3 in
theorem join_q:∀(l:List Str),(∀x∈l,∀c∈x,q c=true)→∀c∈zau l [58],q c=true
 |[],_,c,hc=>by simp [zau,zbw]at hc
 |[a],h,c,hc=>by
  simp [zau,zbw]at hc
  exact h a (by simp) c hc
 |a::b::l,h,c,hc=>by
  have e:zau (a::b::l) [58]=a++(58::zau (b::l) [58]):=by simp [zau,zbw,List.intersperse]
  rw [e]at hc
  rcases List.mem_append.1 hc with hc|hc
  ·exact h a (by simp) c hc
  ·rcases List.mem_cons.1 hc with rfl|hc
   ·exact h2
   ·exact join_q (b::l) (fun x hx=>h x (zaf _ hx)) c hc
omit h2 in
theorem grpList_q (s:Str):∀x∈(agu s).1,∀c∈x,q c=true:=by
 intro x hx
 unfold agu at hx
 split at hx
 ·rename_i ha
  obtain⟨y,hy,rfl⟩:=List.mem_map.1 hx
  exact grpN_q q h1 h3 y (List.all_eq_true.1 ha y hy)
 ·simp at hx
omit h2 in
theorem grpL0_q (s:Str):∀x∈(ann s).1,∀c∈x,q c=true:=by
 intro x hx
 unfold ann at hx
 split at hx
 ·simp at hx
 ·exact grpList_q q h1 h3 s x hx
theorem grpsP_q(s:Str):∀c∈(ara s).1,q c=true:=by
 intro c hc
 unfold ara at hc
 split at hc
 ·simp at hc
 ·split at hc
  ·exact join_q q h2 _ (grpList_q q h1 h3 s) c hc
  ·split at hc
   ·simp at hc
   ·rcases List.mem_append.1 hc with hc|hc
    ·rcases List.mem_append.1 hc with hc|hc
     ·exact join_q q h2 _ (grpL0_q q h1 h3 _) c hc
     ·have h58:c=58:=by simpa using hc
      rw [h58];exact h2
    ·exact join_q q h2 _ (grpL0_q q h1 h3 _) c hc
end
theorem hex_n93:∀c:UInt8,hexB c=true→(!(aer c==93))=true:=aae _ (by decide+kernel)
theorem dig_n91:∀c:UInt8,adc c=true→c≠91:=aae _ (by decide+kernel)
theorem lab_n91:∀c:UInt8,labB c=true→c≠91:=aae _ (by decide+kernel)
theorem brV_form(v:Str)(h:brV v=true):∃g:Str,v=91::(g++[93])∧(∀c∈g,(!(c==93))=true):=by
 unfold brV at h
 simp only [zai,decide_eq_true_eq,beq_iff_eq]at h
 obtain⟨⟨h1,h2⟩,h3⟩:=h
 have hm:0<v.length→(91:UInt8)∈v:=fun hl=>by
  have:=at_mem v 0 hl
  have e:at_ v ((0:Nat):Int)=91:=h3
  rw [e]at this;exact this
 have hne:=host_ne v h1 h2
 have hl:=List.length_pos_iff.2 hne
 unfold acq at h1 h2
 split at h1
 ·rename_i hb
  rw [if_pos hb]at h2
  split at h1
  ·rename_i hg
   rw [if_pos hg]at h2
   refine⟨(ara (sub v 1 ((v.length:Int)-1))).1, ?_,grpsP_q (fun c=> !(c==93)) hex_n93 (by decide) (by decide) _⟩
   exact h2.symm
  ·cases h1
 ·exfalso
  split at h1
  ·rename_i hn
   unfold numsP at hn
   simp only [zai]at hn
   rcases atf 46 adc v (fun x hx=>(num_parts x (by rw [←oct_num];exact List.all_eq_true.1 hn.1.2 x hx)).2.2) 91 (hm hl)with h|h
   ·exact dig_n91 91 h rfl
   ·exact absurd h (by decide)
  ·split at h1
   ·rename_i hn
    unfold avw at hn
    simp only [zai]at hn
    rcases atf 46 labB v (fun x hx=>by
     have:=List.all_eq_true.1 hn.1.2 x hx
     unfold avm at this
     simp only [zai]at this
     exact this.2) 91 (hm hl)with h|h
    ·exact lab_n91 91 h rfl
    ·exact absurd h (by decide)
   ·cases h1
theorem valP_tok(s A v C:Str)(h:s=A++(v++C))(hv:ahi v=true)(hC:∀c,C.head? =some c→aaf c=false):valP s A.length=(v,((A.length+v.length:Nat):Int),0):=by
 obtain⟨hne,hall⟩:=aov hv
 have hsk:aap aaf s (A.length:Int)=A.length+v.length:=by rw [skipA aaf s A _ h,asm aaf v C hall,ank aaf C hC];rfl
 have hh:∀c:UInt8,aaf c=false→aep s A.length c=false:=fun c hc=>by
  rw [avu s A _ c h,atr v C hne,decide_eq_false_iff_not]
  intro e
  rw [head_all aaf v hall c e]at hc;cases hc
 have hl:=List.length_pos_iff.2 hne
 unfold valP
 rw [hh 34 (by decide),if_neg (by decide),hh 91 (by decide),if_neg (by decide),hsk,if_neg (by omega),subA s A v C h]
theorem valP_quo(s A v C:Str)(h:s=A++(quoT v++C))(hv:v.any aax=false):valP s A.length=(v,((A.length+(quoT v).length:Nat):Int),0):=by
 unfold valP
 rw [avu s A _ 34 h,decide_eq_true (by unfold quoT;rfl),if_pos rfl,unqA s A v C h hv]
theorem valP_brk(s A v C:Str)(h:s=A++(v++C))(hv:brV v=true):valP s A.length=(v,((A.length+v.length:Nat):Int),0):=by
 obtain⟨g,hg,hq⟩:=brV_form v hv
 have hhead:(v++C).head? =some 91:=by rw [hg];rfl
 have hsp:ahv (fun b=> !(b==93)) (s.drop A.length)=v.length-1:=by
  rw [h,zbi,hg,show(91::(g++[93]))++C=(91::g)++93::C by simp,asm _ _ _ (by
   rw [List.all_eq_true]
   intro c hc
   rcases List.mem_cons.1 hc with rfl|hc
   ·decide
   ·exact hq c hc),awo _ 93 C (by decide)]
  simp
 have hl:2≤v.length:=by rw [hg];simp
 have hsl:s.length=A.length+v.length+C.length:=by rw [h,zab,zab];omega
 have hb:=hv
 unfold brV at hb
 simp only [zai,decide_eq_true_eq]at hb
 have hmin:(min ((A.length+(v.length-1):Nat)+1:Int) (s.length:Int))=((A.length+v.length:Nat):Int):=by omega
 unfold valP
 rw [avu s A _ 34 h,hhead,decide_eq_false (by decide),if_neg (by decide),avu s A _ 91 h,hhead,decide_eq_true rfl,if_pos rfl,hsp,hmin,subA s A v C h,if_pos hb.1.1,hb.1.2]
 congr 2
 omega
theorem aot:∀c:UInt8,aaf c=true→aac c=false:=aae _ (by decide+kernel)
theorem head_tok(v B:Str)(hv:ahi v=true):∀c,(v++B).head? =some c→aaf c=true:=fun c hc=>by
 obtain⟨hne,hall⟩:=aov hv
 rw [atr v B hne]at hc
 exact head_all aaf v hall c hc
def vtx(v:Str):Str:=bif ahi v||brV v then v else quoT v
theorem vtx_val(s A v C:Str)(h:s=A++(vtx v++C))(hv:v.any aax=false)(hC:∀c,C.head? =some c→aaf c=false):valP s A.length=(v,((A.length+(vtx v).length:Nat):Int),0):=by
 unfold vtx at h⊢
 cases h1:ahi v with
 |true=>rw [h1,Bool.true_or,cond_true]at h;rw [Bool.true_or,cond_true];exact valP_tok s A v C h h1 hC
 |false=>
  cases h2:brV v with
  |true=>rw [h1,h2,Bool.or_true,cond_true]at h;rw [Bool.or_true,cond_true];exact valP_brk s A v C h h2
  |false=>rw [h1,h2,zbz,cond_false]at h;rw [zbz,cond_false];exact valP_quo s A v C h hv
theorem vtx_blank(v C:Str):∀c,(vtx v++C).head? =some c→aac c=false:=by
 intro c hc
 unfold vtx at hc
 cases h1:ahi v with
 |true=>rw [h1,Bool.true_or,cond_true]at hc;exact aot c (head_tok v C h1 c hc)
 |false=>
  cases h2:brV v with
  |true=>
   obtain⟨g,hg,_⟩:=brV_form v h2
   rw [h1,h2,Bool.or_true,cond_true,hg]at hc
   have:c=91:=by simpa using hc.symm
   rw [this];decide
  |false=>
   rw [h1,h2,zbz,cond_false]at hc
   have:c=34:=by unfold quoT at hc;simpa using hc.symm
   rw [this];decide
theorem txt_eq(p:PP)(h:p.2.2=true):txt p=61::vtx p.2.1:=by unfold txt vtx;rw [h];rfl
theorem txt_no(p:PP)(h:p.2.2=false):txt p=[]:=by unfold txt;rw [h];rfl
theorem listA(s A C:Str)(p:PP)(h:s=A++(p.1++(txt p++C)))(hn:ahi p.1=true)(hlow:aau p.1=p.1)(hv:okV p=true)(hC:∀c,C.head? =some c→c=59):
  aqe s A.length=(p,0,0,(s,((A.length+(p.1.length+(txt p).length):Nat):Int))):=by
 obtain⟨hne,hall⟩:=aov hn
 have hl:=List.length_pos_iff.2 hne
 have hC':∀f:UInt8→Bool,f 59=false→∀c,C.head? =some c→f c=false:=fun f hf c hc=>by rw [hC c hc];exact hf
 have hstop:∀f:UInt8→Bool,f 59=false→f 61=false→∀c,(txt p++C).head? =some c→f c=false:=by
  intro f h59 h61 c hc
  cases h2:p.2.2 with
  |true=>
   rw [txt_eq p h2,zay,List.head?_cons,Option.some.injEq]at hc
   rw [←hc];exact h61
  |false=>rw [txt_no p h2,zax]at hc;exact hC' f h59 c hc
 have ht:aap aaf s (A.length:Int)=A.length+p.1.length:=by
  rw [skipA aaf s A _ h,asm aaf p.1 _ hall,ank aaf _ (hstop aaf (by decide) (by decide))];rfl
 have hsub:=subA s A p.1 _ h
 have h':s=(A++p.1)++(txt p++C):=by rw [h,zal]
 have hlen:(A++p.1).length=A.length+p.1.length:=zab
 have hy:aap aac s ((A.length+p.1.length:Nat):Int)=A.length+p.1.length:=by
  rw [←hlen,skipA aac s (A++p.1) _ h',ank aac _ (hstop aac (by decide) (by decide))];rfl
 have hsee:=avu s (A++p.1) _ 61 h'
 rw [hlen]at hsee
 unfold aqe
 rw [ht,if_neg (by omega),hy,hsee,hsub,hlow]
 cases h2:p.2.2 with
 |false=>
  have hnil:p.2.1=[]:=by unfold okV at hv;rw [h2,cond_false]at hv;exact of_decide_eq_true hv
  have h61:¬(txt p++C).head? =some 61:=fun e=>by
   rw [txt_no p h2,zax]at e
   exact absurd (hC 61 e) (by decide)
  rw [decide_eq_false h61,if_pos rfl,txt_no p h2]
  have ep:(p.1,([]:Str),false)=p:=by rw [←hnil,←h2]
  rw [ep];rfl
 |true=>
  have hnc:p.2.1.any aax=false:=by unfold okV at hv;rw [h2,cond_true]at hv;simpa using hv
  have h61:(txt p++C).head? =some 61:=by rw [txt_eq p h2];rfl
  have h3:s=(A++p.1++[61])++(vtx p.2.1++C):=by rw [h',txt_eq p h2];simp
  have hlen3:(A++p.1++[61]).length=A.length+p.1.length+1:=by simp;omega
  have hz:aap aac s ((A.length+p.1.length+1:Nat):Int)=A.length+p.1.length+1:=by
   rw [←hlen3,skipA aac s (A++p.1++[61]) _ h3,ank aac _ (vtx_blank p.2.1 C)];rfl
  have hval:=vtx_val s (A++p.1++[61]) p.2.1 C h3 hnc (hC' aaf (by decide))
  rw [hlen3]at hval
  rw [decide_eq_true h61,if_neg (by decide),hz,hval,if_pos rfl]
  have ep:(p.1,p.2.1,true)=p:=by rw [←h2]
  have el:(txt p).length=(vtx p.2.1).length+1:=by rw [txt_eq p h2];rfl
  rw [ep,el]
  show(p,(0:Int),(0:UInt8),(s,((A.length+p.1.length+1+(vtx p.2.1).length:Nat):Int)))=_
  rw [show A.length+p.1.length+1+(vtx p.2.1).length=A.length+(p.1.length+((vtx p.2.1).length+1))by omega]
theorem ppL_head:∀(r pre:List PP) (u:Str),ppL pre r=some u→∀c,u.head? =some c→c=59
 |[],pre,u,h,c,hc=>by
  rw [ppL,Option.some.injEq]at h
  subst h;cases hc
 |p::r,pre,u,h,c,hc=>by
  rw [ppL]at h
  cases hk:okN pre p&&okV p with
  |false=>rw [hk]at h;cases h
  |true=>
   rw [hk,cond_true,zbb]at h
   obtain⟨t,_,rfl⟩:=h
   rw [List.head?_cons,Option.some.injEq]at hc
   exact hc.symm
theorem parA(s:Str):∀(r pre:List PP) (u A:Str) (f:Nat),ppL pre r=some u→s=A++u→r.length<f→pre.length+r.length≤16→parM s f pre A.length=(pre++r,0,0)
 |[],pre,u,A,f,h,hs,hf,hl=>by
  obtain⟨f,rfl⟩:∃m,f=m+1:=⟨f-1,by omega⟩
  rw [ppL,Option.some.injEq]at h
  subst h
  rw [zam]at hs
  subst hs
  rw [parM,if_pos (by rw [skipL_end];exact zao _),zam]
 |p::r,pre,u,A,f,h,hs,hf,hl=>by
  obtain⟨f,rfl⟩:∃m,f=m+1:=⟨f-1,by omega⟩
  rw [ppL]at h
  cases hk:okN pre p&&okV p with
  |false=>rw [hk]at h;cases h
  |true=>
   rw [hk,cond_true,zbb]at h
   obtain⟨t,ht,rfl⟩:=h
   rw [zai]at hk
   obtain⟨hN,hV⟩:=hk
   unfold okN at hN
   simp only [zai,decide_eq_true_eq,Bool.not_eq_true']at hN
   obtain⟨⟨hn,hlow⟩,hany⟩:=hN
   simp only [zad]at hf hl
   have hsl:s.length=A.length+((p.1++(txt p++t)).length+1):=by rw [hs,zab,zad]
   have hsk:aap aac s (A.length:Int)=A.length:=by
    rw [skipA aac s A _ hs,awo aac 59 _ (by decide)];rfl
   have hat:=atA s A _ 59 hs
   have hs2:s=(A++[59])++(p.1++(txt p++t)):=by rw [hs];simp
   have hlen2:(A++[59]).length=A.length+1:=by simp
   have hsk2:aap aac s ((A.length+1:Nat):Int)=A.length+1:=by
    rw [←hlen2,skipA aac s (A++[59]) _ hs2,ank aac _ (fun c hc=>aot c (head_tok p.1 _ hn c hc))];rfl
   have hlist:=listA s (A++[59]) t p hs2 hn hlow hV (ppL_head r _ t ht)
   rw [hlen2]at hlist
   have hroom:asb pre p.1=0:=by
    unfold asb
    rw [hany,if_neg (by decide),if_neg (by omega)]
   have hs3:s=(A++[59]++p.1++txt p)++t:=by rw [hs];simp
   have hlen3:(A++[59]++p.1++txt p).length=A.length+1+(p.1.length+(txt p).length):=by simp;omega
   have ih:=parA s r (pre++[p]) t (A++[59]++p.1++txt p) f ht hs3 (by omega) (by simp only [zab,zae];omega)
   rw [hlen3,zal,zaM]at ih
   have h59:at_ s ((A.length:Nat):Int)=59:=hat
   rw [parM,hsk,if_neg (by omega),if_neg (not_not_intro h59),hsk2,hlist,if_pos rfl]
   show(if asb pre p.1=0 then _ else _)=_
   rw [if_pos hroom]
   exact ih
theorem ppL_rl:∀(r pre:List PP) (u:Str),ppL pre r=some u→r.length≤u.length
 |[],_,_,_=>zah _
 |p::r,pre,u,h=>by
  rw [ppL]at h
  cases hk:okN pre p&&okV p with
  |false=>rw [hk]at h;cases h
  |true=>
   rw [hk,cond_true,zbb]at h
   obtain⟨t,ht,rfl⟩:=h
   have:=ppL_rl r _ t ht
   simp only [zad,zab];omega
theorem par_back(l:List PP)(t:Str)(h:ppM l=(t,0)):parP t=(l,0,0)∧(∀c,t.head? =some c→c=59)∧ppL [] l=some t∧l.length≤16:=by
 unfold ppM at h
 by_cases h16:16<l.length
 ·rw [if_pos h16]at h;exact absurd (congrArg Prod.snd h) (by simp)
 ·rw [if_neg h16]at h
  cases hp:ppL [] l with
  |none=>rw [hp]at h;exact absurd (congrArg Prod.snd h) (by simp)
  |some u=>
   rw [hp]at h
   have e:u=t:=congrArg Prod.fst h
   subst e
   have hl:=ppL_rl l [] u hp
   exact⟨parA u l [] u [] (u.length+1) hp rfl (by omega) (by simp only [zaj];omega),ppL_head l [] u hp,rfl,by omega⟩
open Go.Px
open Bool renaming and_eq_true → zai, true_and → zaS
open Go.Lib renaming cut → zaW, index → zaN, join → zau, trimLeftS → zbp
open Int renaming toNat_natCast → zar
open List renaming append_nil → zam, cons_append → zay, drop_left → zbi, intercalate → zbw, length_append → zab, length_cons → zad, length_map → zaK, length_nil → zaj, map_congr_left → zbn, map_cons → zaI, mem_cons_of_mem → zaf, nil_append → zax, take_left → zbv
theorem join_two(a b:Str)(l:List Str):zau (a::b::l) [58]=a++(58::zau (b::l) [58]):=by simp [zau,zbw,List.intersperse]
theorem join_one(a:Str):zau [a] [58]=a:=by simp [zau,zbw]
theorem spl_app(c:UInt8):∀(a z:Str),(∀b∈a,b≠c)→spl c (a++c::z)=a::spl c z
 |[],z,_=>auf c z
 |b::a,z,h=>by
  rw [zay,asa c b _ (h b (by simp)),spl_app c a z (fun x hx=>h x (zaf _ hx))];rfl
theorem spl_no(c:UInt8):∀(a:Str),(∀b∈a,b≠c)→spl c a=[a]
 |[],_=>rfl
 |b::a,h=>by
  rw [asa c b _ (h b (by simp)),spl_no c a (fun x hx=>h x (zaf _ hx))];rfl
theorem spl_join:∀gs:List Str,gs≠[]→(∀g∈gs,∀b∈g,b≠58)→spl 58 (zau gs [58])=gs
 |[],h,_=>absurd rfl h
 |[a],_,h=>by rw [join_one,spl_no 58 a (h a (by simp))]
 |a::b::l,_,h=>by
  rw [join_two,spl_app 58 a _ (h a (by simp)),spl_join (b::l) (by simp) (fun g hg=>h g (zaf _ hg))]
def spc:Str→Bool
 |[]=>true
 |c::l=>(if c=58 then !(l.head? ==none)&& !(l.head? ==some 58)else true)&&spc l
theorem spc_index:∀l:Str,spc l=true→zaN l [58,58]= -1∧∀r,zaN (l++58::58::r) [58,58]=(l.length:Int)
 |[],_=>⟨by decide,fun r=>by rw [zax,awf,if_pos (by simp [List.isPrefixOf])];rfl⟩
 |c::l,h=>by
  rw [spc,zai]at h
  obtain⟨i1,i2⟩:=spc_index l h.2
  have key:∀r:Str,(r=[]∨l≠[]∨c≠58)→([58,58]:Str).isPrefixOf (c::(l++r))=false:=by
   intro r hr
   by_cases h58:c=58
   ·subst h58
    cases l with
    |nil=>simp at h
    |cons d l=>
     have hd:¬d=58:=by simpa using h.1
     have hd':((58:UInt8)==d)=false:=by simpa using fun e:(58:UInt8)=d=>hd e.symm
     simp [List.isPrefixOf,hd']
   ·have:((58:UInt8)==c)=false:=by simpa using fun e:(58:UInt8)=c=>h58 e.symm
    simp [List.isPrefixOf,this]
  constructor
  ·have:=key [] (.inl rfl)
   rw [zam]at this
   rw [awf,this,if_neg (by decide),if_pos i1]
  ·intro r
   have:=key (58::58::r) (by
    by_cases h58:c=58
    ·right;left
     intro e
     subst e h58
     simp at h
    ·exact .inr (.inr h58))
   rw [zay,awf,this,if_neg (by decide),i2 r,if_neg (by omega),zad]
   omega
theorem spc_no:∀a:Str,(∀b∈a,b≠58)→spc a=true
 |[],_=>rfl
 |c::a,h=>by rw [spc,if_neg (h c (by simp)),spc_no a (fun x hx=>h x (zaf _ hx))];rfl
theorem spc_app:∀(a:Str) (d:UInt8) (z:Str),(∀b∈a,b≠58)→d≠58→spc (d::z)=true→spc (a++58::d::z)=true
 |[],d,z,_,hd,hz=>by
  have:(d==58)=false:=by simpa using hd
  rw [zax,spc,if_pos rfl,hz]
  simp [this]
 |c::a,d,z,h,hd,hz=>by
  rw [zay,spc,if_neg (h c (by simp)),spc_app a d z (fun x hx=>h x (zaf _ hx)) hd hz];rfl
theorem spc_join:∀gs:List Str,(∀g∈gs,g≠[]∧∀b∈g,b≠58)→spc (zau gs [58])=true
 |[],_=>by simp [Lib.join_nil,spc]
 |[a],h=>by rw [join_one];exact spc_no a (h a (by simp)).2
 |a::b::l,h=>by
  have ih:=spc_join (b::l) (fun g hg=>h g (zaf _ hg))
  have hb:=h b (by simp)
  obtain⟨d,z,hz⟩:∃d z,zau (b::l) [58]=d::z∧d≠58:=by
   cases hbb:b with
   |nil=>exact absurd hbb hb.1
   |cons d b'=>
    have hd:d≠58:=hb.2 d (by rw [hbb];simp)
    cases l with
    |nil=>exact⟨d,b',by rw [join_one],hd⟩
    |cons x l=>exact⟨d,b'++(58::zau (x::l) [58]),by rw [join_two];rfl,hd⟩
  rw [join_two,hz.1]
  rw [hz.1]at ih
  exact spc_app a d z (h a (by simp)).2 hz.2 ih
theorem dw_idem(p:UInt8→Bool):∀l:Str,(l.dropWhile p).dropWhile p=l.dropWhile p
 |[]=>rfl
 |c::l=>by
  cases h:p c with
  |true=>rw [List.dropWhile_cons_of_pos h];exact dw_idem p l
  |false=>rw [List.dropWhile_cons_of_neg (by rw [h];decide),List.dropWhile_cons_of_neg (by rw [h];decide)]
theorem hex_low:∀c:UInt8,hexB c=true→hexB (aer c)=true:=aae _ (by decide+kernel)
theorem hex_n58:∀c:UInt8,hexB c=true→(!(aer c==58))=true:=aae _ (by decide+kernel)
theorem grpN_idem(g:Str)(h:arb g=true):arb (aus g)=true∧aus (aus g)=aus g∧aus g≠[]∧∀b∈aus g,b≠58:=by
 have hx:g.all hexB=true:=by unfold arb at h;simp only [zai]at h;exact h.2
 have hlen:=grpN_len g h
 have h58:∀b∈aus g,b≠58:=fun b hb=>by
  have:=grpN_q (fun c=> !(c==58)) hex_n58 (by decide) g h b hb
  simpa using this
 have hhex:∀b∈aus g,hexB b=true:=grpN_q hexB hex_low (by decide) g h
 have hne:aus g≠[]:=by
  unfold aus
  split
  ·simp
  ·assumption
 refine⟨?_, ?_,hne,h58⟩
 ·have:=List.length_pos_iff.2 hne
  unfold arb
  rw [decide_eq_true (by omega),decide_eq_true hlen,zaS,zaS,List.all_eq_true]
  exact hhex
 ·have hlow:lowP (aus g)=aus g:=by
   show aau (aus g)=aus g
   refine lowerL_id _ fun b hb=> ?_
   unfold aus at hb
   split at hb
   ·rw [List.mem_singleton.1 hb];decide
   ·have hm:b∈lowP g:=(List.dropWhile_suffix _).subset hb
    obtain⟨d,hd,rfl⟩:=List.mem_map.1 hm
    exact low2 d
  have htr:zbp (aus g) [48]=[]∨zbp (aus g) [48]=aus g:=by
   unfold aus
   split
   ·left;decide
   ·right;unfold zbp;exact dw_idem _ _
  have e:aus (aus g)=if zbp (aus g) [48]=[]then [48]else zbp (aus g) [48]:=by
   conv=>lhs;unfold aus
   rw [show lowP (if zbp (lowP g) [48]=[]then [48]else zbp (lowP g) [48])=aus g from hlow]
  rw [e]
  rcases htr with h0|h0
  ·rw [if_pos h0]
   have:aus g=[48]:=by
    unfold aus at h0⊢
    split
    ·rfl
    ·rename_i hn
     rw [if_neg hn]at h0
     unfold zbp at h0 hn
     rw [dw_idem]at h0
     exact absurd h0 hn
   rw [this]
  ·rw [h0,if_neg hne]
def gdG(gs:List Str):Prop:=∀g∈gs,arb g=true∧aus g=g∧g≠[]∧∀b∈g,b≠58
theorem grpList_gd(s:Str):gdG (agu s).1:=by
 intro x hx
 unfold agu at hx
 split at hx
 ·rename_i ha
  obtain⟨y,hy,rfl⟩:=List.mem_map.1 hx
  exact grpN_idem y (List.all_eq_true.1 ha y hy)
 ·simp at hx
theorem grpL0_gd(s:Str):gdG (ann s).1:=by
 unfold ann
 split
 ·intro x hx;simp at hx
 ·exact grpList_gd s
theorem grpList_join(gs:List Str)(h:gdG gs)(hne:gs≠[]):agu (zau gs [58])=(gs,true):=by
 unfold agu
 rw [spl_join gs hne (fun g hg=>(h g hg).2.2.2),if_pos (List.all_eq_true.2 fun g hg=>(h g hg).1)]
 congr 1
 conv=>rhs;rw [←List.map_id gs]
 exact zbn fun g hg=>(h g hg).2.1
theorem join_ne(gs:List Str)(h:gdG gs)(hne:gs≠[]):zau gs [58]≠[]:=by
 intro e
 have:=spl_join gs hne (fun g hg=>(h g hg).2.2.2)
 rw [e]at this
 cases gs with
 |nil=>exact hne rfl
 |cons g l=>
  have e2:([]:Str)=g:=by
   have:=congrArg List.head? this
   simpa [spl] using this
  exact(h g (by simp)).2.2.1 e2.symm
theorem grpL0_join(gs:List Str)(h:gdG gs):ann (zau gs [58])=(gs,true):=by
 unfold ann
 by_cases hne:gs=[]
 ·subst hne;rw [if_pos (by simp [Lib.join_nil])]
 ·rw [if_neg (join_ne gs h hne),grpList_join gs h hne]
theorem join_len1:∀gs:List Str,(∀g∈gs,g.length≤4)→gs≠[]→(zau gs [58]).length+1≤gs.length*5
 |[],_,h=>absurd rfl h
 |[a],h,_=>by rw [join_one];have:=h a (by simp);simp;omega
 |a::b::l,h,_=>by
  have ih:=join_len1 (b::l) (fun g hg=>h g (zaf _ hg)) (by simp)
  have:=h a (by simp)
  rw [join_two]
  simp only [zab,zad]at ih⊢
  omega
theorem gdG_len{gs:List Str}(h:gdG gs):∀g∈gs,g.length≤4:=fun g hg=>by
 have:=(h g hg).1
 unfold arb at this
 simp only [zai,decide_eq_true_eq]at this
 exact this.1.2
theorem grps_idem(x:Str)(h:(ara x).2=true):ara (ara x).1=((ara x).1,true):=by
 unfold ara at h
 by_cases h39:39<x.length
 ·rw [if_pos h39]at h;cases h
 rw [if_neg h39]at h
 by_cases hc:(zaW x [58,58]).2.2=false
 ·rw [if_pos hc]at h
  simp only [zai,decide_eq_true_eq]at h
  have e:(ara x).1=zau (agu x).1 [58]:=by unfold ara;rw [if_neg h39,if_pos hc]
  rw [e]
  have hg:=grpList_gd x
  generalize(agu x).1=gs at h hg⊢
  have hne:gs≠[]:=by intro e;rw [e]at h;exact absurd h.2 (by decide)
  have hl:=join_len1 gs (gdG_len hg) hne
  have hi:=(spc_index _ (spc_join gs fun g hg'=>(hg g hg').2.2)).1
  unfold ara
  rw [if_neg (by omega),cut_eq,if_pos hi,if_pos rfl,grpList_join gs hg hne,decide_eq_true h.2];rfl
 ·rw [if_neg hc]at h
  by_cases hb:(!(ann (zaW x [58,58]).1).2|| !(ann (zaW x [58,58]).2.1).2||decide (7<((ann (zaW x [58,58]).1).1.length:Int)+((ann (zaW x [58,58]).2.1).1.length:Int)))=true
  ·rw [if_pos hb]at h;cases h
  ·have e:(ara x).1=zau (ann (zaW x [58,58]).1).1 [58]++[58,58]++zau (ann (zaW x [58,58]).2.1).1 [58]:=by unfold ara;rw [if_neg h39,if_neg hc,if_neg hb]
   rw [e]
   have gA:=grpL0_gd (zaW x [58,58]).1
   have gB:=grpL0_gd (zaW x [58,58]).2.1
   simp only [Bool.or_eq_true,Bool.not_eq_true',decide_eq_true_eq,not_or]at hb
   have h7:=hb.2
   generalize(ann (zaW x [58,58]).1).1=A at gA h7⊢
   generalize(ann (zaW x [58,58]).2.1).1=B at gB h7⊢
   have lA:(zau A [58]).length≤A.length*5:=asp [58] 4 A (gdG_len gA)
   have lB:(zau B [58]).length≤B.length*5:=asp [58] 4 B (gdG_len gB)
   have hi:=(spc_index _ (spc_join A fun g hg'=>(gA g hg').2.2)).2 (zau B [58])
   have e2:zau A [58]++[58,58]++zau B [58]=zau A [58]++58::58::zau B [58]:=by simp
   have hcut:zaW (zau A [58]++[58,58]++zau B [58]) [58,58]=(zau A [58],zau B [58],true):=by
    rw [e2,cut_eq,hi,if_neg (by omega),zar,zbv]
    congr 2
    rw [show zau A [58]++58::58::zau B [58]=(zau A [58]++[58,58])++zau B [58]by simp,show(zau A [58]).length+([58,58]:Str).length=(zau A [58]++[58,58]).length by simp,zbi]
   unfold ara
   rw [if_neg (by simp only [zab,zad,zaj];omega),hcut,if_neg (show¬(true=false)by decide)]
   simp only
   rw [grpL0_join A gA,grpL0_join B gB,if_neg (by
    simp only [Bool.or_eq_true,Bool.not_eq_true',decide_eq_true_eq]
    rintro((h|h)|h)
    ·cases h
    ·cases h
    ·omega)]
theorem spl_map(c:UInt8)(f:UInt8→UInt8)(hf:∀b,f b=c↔b=c):∀s:Str,spl c (s.map f)=(spl c s).map (List.map f)
 |[]=>rfl
 |b::l=>by
  have ih:=spl_map c f hf l
  by_cases h:b=c
  ·have hb:f b=c:=(hf b).2 h
   rw [zaI,h,auf]
   rw [h]at hb
   rw [hb,auf,ih];rfl
  ·rw [zaI,asa c b l h,asa c (f b) _ (fun e=>h ((hf b).1 e)),ih]
   cases spl c l with
   |nil=>rfl
   |cons x r=>rfl
theorem low46':∀c:UInt8,(decide (aer c=46))=decide (c=46):=aae _ (by decide+kernel)
theorem low46(b:UInt8):aer b=46↔b=46:=by
 have:=low46' b
 by_cases h:b=46
 ·simp [h];decide
 ·rw [decide_eq_false h,decide_eq_false_iff_not]at this
  simp [h,this]
theorem low_lab:∀c:UInt8,labB (aer c)=labB c:=aae _ (by decide+kernel)
theorem low_dig:∀c:UInt8,adc (aer c)=adc c:=aae _ (by decide+kernel)
theorem low_dig2:∀c:UInt8,adc (aer c)=true→aer c=c:=aae _ (by decide+kernel)
theorem low_45':∀c:UInt8,(aer c==45)=(c==45):=aae _ (by decide+kernel)
theorem at_low(x:Str)(i:Int):(at_ (aau x) i==45)=(at_ x i==45):=by
 unfold aau at_
 rw [List.getD_eq_getElem?_getD,List.getD_eq_getElem?_getD,List.getElem?_map]
 cases x[i.toNat]? with
 |none=>rfl
 |some c=>exact low_45' c
theorem labOk_low(x:Str):avm (aau x)=avm x:=by
 have hl:(aau x).length=x.length:=by unfold aau;exact zaK ..
 have ha:(aau x).all labB=x.all labB:=by
  unfold aau
  rw [List.all_map]
  congr 1
  funext c
  exact low_lab c
 unfold avm
 rw [hl,at_low,at_low,ha]
theorem labW_low(x:Str):labW (aau x)=labW x:=by
 unfold labW aau
 rw [List.any_map]
 congr 1
 funext c
 show(!adc (aer c))=_
 rw [low_dig]
theorem named_low(s:Str):avw (aau s)=avw s:=by
 have hl:(aau s).length=s.length:=by unfold aau;exact zaK ..
 have hs:spl 46 (aau s)=(spl 46 s).map aau:=spl_map 46 aer low46 s
 have h1:((spl 46 s).map aau).all avm=(spl 46 s).all avm:=by rw [List.all_map];congr 1;funext x;exact labOk_low x
 have h2:((spl 46 s).map aau).any labW=(spl 46 s).any labW:=by rw [List.any_map];congr 1;funext x;exact labW_low x
 unfold avw
 rw [hl,hs,h1,h2]
theorem brk_form(g:Str):brkB ([91]++g++[93])=true∧sub ([91]++g++[93]) 1 ((([91]++g++[93]).length:Int)-1)=g:=by
 have hl:([91]++g++[93]).length=g.length+2:=by simp
 have e:(((g.length+2:Nat):Int)-1)=(([91]++g).length:Int):=by simp;omega
 constructor
 ·unfold brkB
  rw [hl,decide_eq_true (by omega),zaS,e]
  have h1:at_ ([91]++g++[93]) (([91]++g).length:Int)=93:=at_mid ([91]++g) 93 []
  have h0:at_ ([91]++g++[93]) 0=91:=rfl
  rw [h1,h0];rfl
 ·rw [hl]
  have:=subA ([91]++g++[93]) [91] g [93] (by simp)
  have e2:(((g.length+2:Nat):Int)-1)=((([91]:Str).length+g.length:Nat):Int):=by simp;omega
  rw [e2]
  exact this
theorem host_idem(s:Str)(h:(acq s).2=true):acq (acq s).1=((acq s).1,true):=by
 by_cases hb:brkB s=true
 ·unfold acq at h
  rw [if_pos hb]at h
  by_cases hg:(ara (sub s 1 ((s.length:Int)-1))).2=true
  ·have e:(acq s).1=[91]++(ara (sub s 1 ((s.length:Int)-1))).1++[93]:=by unfold acq;rw [if_pos hb,if_pos hg]
   rw [e]
   have hi:=grps_idem _ hg
   generalize(ara (sub s 1 ((s.length:Int)-1))).1=g at hi⊢
   obtain⟨f1,f2⟩:=brk_form g
   unfold acq
   rw [if_pos f1,f2,hi,if_pos rfl]
  ·rw [if_neg hg]at h;cases h
 ·by_cases hn:numsP s=true
  ·have e:acq s=(s,true):=by unfold acq;rw [if_neg hb,if_pos hn]
   rw [e];exact e
  ·by_cases hm:avw s=true
   ·have e:acq s=(aau s,true):=by unfold acq;rw [if_neg hb,if_neg hn,if_pos hm]
    rw [e]
    have hl:(aau s).length=s.length:=by unfold aau;exact zaK ..
    have hch:∀b∈s,labB b=true∨b=46:=by
     unfold avw at hm
     simp only [zai]at hm
     exact atf 46 labB s (fun x hx=>by
      have:=List.all_eq_true.1 hm.1.2 x hx
      unfold avm at this
      simp only [zai]at this
      exact this.2)
    have nb:brkB (aau s)=false:=by
     cases hx:brkB (aau s)with
     |false=>rfl
     |true=>
      exfalso
      unfold brkB at hx
      simp only [zai,decide_eq_true_eq,beq_iff_eq]at hx
      have:=at_mem (aau s) 0 (by omega)
      have e0:at_ (aau s) ((0:Nat):Int)=91:=hx.1.2
      rw [e0]at this
      obtain⟨d,hd,he⟩:=List.mem_map.1 this
      rcases hch d hd with h1|h1
      ·have:labB (aer d)=true:=by rw [low_lab];exact h1
       rw [he]at this
       exact lab_n91 91 this rfl
      ·rw [h1]at he;exact absurd he (by decide)
    have nn:numsP (aau s)=false:=by
     cases hx:numsP (aau s)with
     |false=>rfl
     |true=>
      exfalso
      have hx':=hx
      unfold numsP at hx'
      simp only [zai]at hx'
      have:=atf 46 adc (aau s) (fun x hx=>(num_parts x (by rw [←oct_num];exact List.all_eq_true.1 hx'.1.2 x hx)).2.2)
      have hid:aau s=s:=lowerL_id s fun b hb=>by
       rcases this (aer b) (List.mem_map_of_mem hb)with h1|h1
       ·exact low_dig2 b h1
       ·rw [h1];exact((low46 b).1 h1).symm
      rw [hid]at hx
      exact hn hx
    show acq (aau s)=(aau s,true)
    unfold acq
    rw [nb,if_neg (by decide),nn,if_neg (by decide),named_low,hm,if_pos rfl,lowlowL]
   ·unfold acq at h
    rw [if_neg hb,if_neg hn,if_neg hm]at h;cases h
open Bool renaming and_eq_true → zai, or_false → zbz
open List renaming append_nil → zam, cons_append → zay, drop_left → zbi, length → zbl, length_append → zab, length_drop → zaq, length_nil → zaj, take_left → zbv
open Nat renaming zero_le → zah
open Option renaming map_eq_some_iff → zbb
def lastOk(l:Str):Prop:=∀c,l.getLast? =some c→aac c=false
theorem asd(a b:Str)(hb:b≠[])(h:lastOk b):lastOk (a++b):=by
 intro c hc
 refine h c ?_
 cases hl:b.getLast? with
 |none=>exact absurd (List.getLast?_eq_none_iff.1 hl) hb
 |some d=>
  rw [List.getLast?_append,hl]at hc
  exact hc
theorem ase(p:UInt8→Bool)(hp:∀c,p c=true→aac c=false)(b:Str)(h:b.all p=true):lastOk b:=
 fun c hc=>hp c (List.all_eq_true.1 h c (List.mem_of_getLast? hc))
theorem awr(a:Str)(d:UInt8)(h:aac d=false):lastOk (a++[d]):=by
 intro c hc
 rw [List.getLast?_concat,Option.some.injEq]at hc
 rw [←hc];exact h
theorem trim_id(s:Str)(h1:∀c,s.head? =some c→aac c=false)(h2:lastOk s):aat s=s:=by
 have e1:s.dropWhile aac=s:=by
  cases s with
  |nil=>rfl
  |cons c l=>exact List.dropWhile_cons_of_neg (by rw [h1 c rfl];decide)
 have e2:s.reverse.dropWhile aac=s.reverse:=by
  cases hr:s.reverse with
  |nil=>rfl
  |cons c l=>
   refine List.dropWhile_cons_of_neg ?_
   have:s.getLast? =some c:=by rw [←List.head?_reverse,hr];rfl
   rw [h2 c this];decide
 unfold aat rdw
 rw [e1,e2,List.reverse_reverse]
theorem vtx_last(v:Str)(hne:vtx v≠[]):lastOk (vtx v):=by
 unfold vtx at hne⊢
 cases h1:ahi v with
 |true=>rw [Bool.true_or,cond_true];exact ase aaf aot v (aov h1).2
 |false=>
  cases h2:brV v with
  |true=>
   obtain⟨g,hg,_⟩:=brV_form v h2
   rw [Bool.or_true,cond_true,hg]
   exact awr (91::g) 93 (by decide)
  |false=>
   rw [zbz,cond_false]
   unfold quoT
   exact awr (34::v.flatMap amy) 34 (by decide)
theorem ppL_last:∀(r pre:List PP) (u V:Str),ppL pre r=some u→lastOk V→lastOk (V++u)
 |[],pre,u,V,h,hV=>by
  rw [ppL,Option.some.injEq]at h
  subst h;rw [zam];exact hV
 |p::r,pre,u,V,h,hV=>by
  rw [ppL]at h
  cases hk:okN pre p&&okV p with
  |false=>rw [hk]at h;cases h
  |true=>
   rw [hk,cond_true,zbb]at h
   obtain⟨t,ht,rfl⟩:=h
   rw [zai]at hk
   have hn:ahi p.1=true:=by
    have:=hk.1
    unfold okN at this
    simp only [zai]at this
    exact this.1.1
   have e:V++59::(p.1++(txt p++t))=(V++59::(p.1++txt p))++t:=by simp
   rw [e]
   refine ppL_last r _ t _ ht ?_
   have hp1:=ase aaf aot p.1 (aov hn).2
   cases h2:p.2.2 with
   |false=>
    rw [txt_no p h2,zam,show V++59::p.1=(V++[59])++p.1 by simp]
    exact asd _ _ (aov hn).1 hp1
   |true=>
    rw [txt_eq p h2,show V++59::(p.1++61::vtx p.2.1)=(V++59::p.1++[61])++vtx p.2.1 by simp]
    by_cases hv:vtx p.2.1=[]
    ·rw [hv,zam]
     exact awr _ 61 (by decide)
    ·exact asd _ _ hv (vtx_last _ hv)
theorem span_ext(p:UInt8→Bool)(t:Str)(ht:∀c,t.head? =some c→p c=false):∀s:Str,ahv p (s++t)=ahv p s
 |[]=>ank p t ht
 |c::s=>by
  rw [zay,ahv,ahv,span_ext p t ht s]
theorem skip_ext(p:UInt8→Bool)(s t:Str)(k:Nat)(hk:k≤s.length)(ht:∀c,t.head? =some c→p c=false):aap p (s++t) (k:Int)=aap p s (k:Int):=by
 unfold aap
 rw [aks k _ (by rw [zab];omega),aks k _ hk,List.drop_append_of_le_length hk,span_ext p t ht]
theorem sees_ext(s t:Str)(k:Nat)(b:UInt8)(hk:k≤s.length)(ht:∀c,t.head? =some c→c≠b):aep (s++t) k b=aep s k b:=by
 by_cases h:k<s.length
 ·unfold aep
  rw [decide_eq_true h,decide_eq_true (show k<(s++t).length by rw [zab];omega)]
  congr 2
  simp only [at_,List.getD_eq_getElem?_getD]
  rw [List.getElem?_append_left (by omega)]
 ·have e:k=s.length:=by omega
  subst e
  rw [avu (s++t) s t b rfl,avu s s [] b (by simp),decide_eq_false (fun e=>ht b e rfl)]
  rfl
theorem itemE_ext(V t:Str)(ht:∀c,t.head? =some c→c=59):itemE (V++t)=itemE V:=by
 have hs:∀k,k≤V.length→aap aaf (V++t) (k:Int)=aap aaf V (k:Int):=fun k hk=>skip_ext aaf V t k hk fun c hc=>by rw [ht c hc];decide
 have h0:aap aaf (V++t) 0=aap aaf V 0:=hs 0 (zah _)
 have hk:=ada aaf V 0
 unfold itemE
 rw [h0]
 generalize aap aaf V 0=k at hk⊢
 rw [sees_ext V t k 47 hk fun c hc=>by rw [ht c hc];decide]
 by_cases hk0:k=0
 ·rw [if_pos hk0,if_pos hk0]
 ·rw [if_neg hk0,if_neg hk0]
  cases h47:aep V k 47 with
  |false=>rfl
  |true=>rw [hs (k+1) (ags h47).1]
theorem itemE_head(V:Str)(h:itemE V=V.length)(hne:V≠[]):∀c,V.head? =some c→aaf c=true:=by
 intro c hc
 cases V with
 |nil=>exact absurd rfl hne
 |cons d l=>
  rw [List.head?_cons,Option.some.injEq]at hc
  subst hc
  cases ht:aaf d with
  |true=>rfl
  |false=>
   have:aap aaf (d::l) 0=0:=by rw [skipL_zero,awo aaf d l ht]
   unfold itemE at h
   rw [if_pos this]at h
   cases h
theorem itemE_last(V:Str)(h:itemE V=V.length)(hne:V≠[]):lastOk V:=by
 have hsp:∀(i:Nat),i≤V.length→aap aaf V (i:Int)=V.length→i<V.length→lastOk V:=by
  intro i hi he hlt
  unfold aap at he
  rw [aks i _ hi]at he
  have hd:(V.drop i).all aaf=true:=by
   rw [span_all_iff,decide_eq_true_eq,zaq];omega
  have e:=(List.take_append_drop i V).symm
  rw [e]
  refine asd _ _ ?_ (ase aaf aot _ hd)
  intro e2
  have:=congrArg zbl e2
  rw [zaq,zaj]at this
  omega
 have hl:=List.length_pos_iff.2 hne
 unfold itemE at h
 split at h
 ·omega
 ·split at h
  ·rename_i h47
   have h1:=(ags h47).1
   split at h
   ·omega
   ·rename_i hx
    have:=ada aaf V ((aap aaf V 0+1:Nat):Int)
    exact hsp (aap aaf V 0+1) (by omega) h (by omega)
  ·exact hsp 0 (zah _) h hl
theorem item_back(x:Str×List PP)(h:(anl x).2=0):aur (anl x).1=((x.1,acl x.2),0):=by
 unfold anl at h⊢
 by_cases hc:cutOk x.1=true∧(ppM (acl x.2)).2=0
 ·rw [if_pos hc]at h⊢
  obtain⟨h1,h2⟩:=hc
  rw [item_cut,decide_eq_true_eq]at h1
  obtain⟨hne,hE⟩:=h1
  obtain⟨b1,b2,b3,b4⟩:=par_back (acl x.2) (ppM (acl x.2)).1 (by rw [←h2])
  generalize(ppM (acl x.2)).1=t at b1 b2 b3⊢
  have htr:aat (x.1++t)=x.1++t:=by
   refine trim_id _ (fun c hc=> ?_) (ppL_last _ [] t x.1 b3 (itemE_last x.1 hE hne))
   rw [atr x.1 t hne]at hc
   exact aot c (itemE_head x.1 hE hne c hc)
  have hl:=List.length_pos_iff.2 hne
  simp only
  unfold aur
  rw [htr,itemE_ext x.1 t b2,hE,if_neg (by omega),zbi,zbv,b1,if_pos rfl]
 ·rw [if_neg hc]at h;exact absurd h (by decide)
open Go.Lib renaming itoa → zat
open Go.Op renaming bytesLess → zaL
open List renaming append_assoc → zal, append_nil → zam, cons_append → zay, drop_left → zbi, length_append → zab, length_cons → zad, map_congr_left → zbn, mem_cons_of_mem → zaf, nil_append → zax, singleton_append → zaM, take_left → zbv
open UInt8 renaming lt_iff_toNat_lt → zbe
theorem gtN_less(a b:Str):gtN a b=zaL b a:=by unfold gtN;rw [←less_tri b a]
theorem less_trans:∀a b c:Str,zaL b a=false→zaL c b=false→zaL c a=false
 |[],b,c,_,_=>by cases c<;>rfl
 |x::a,[],c,h,_=>by cases h
 |x::a,y::b,[],_,h=>by cases h
 |x::a,y::b,z::c,h1,h2=>by
  rw [zaL,Bool.or_eq_false_iff]at h1 h2⊢
  have n1:¬y<x:=of_decide_eq_false h1.1
  have n2:¬z<y:=of_decide_eq_false h2.1
  rw [zbe]at n1 n2
  refine⟨decide_eq_false (by rw [zbe];omega), ?_⟩
  by_cases h:z=x
  ·have e:y=x:=by
    apply UInt8.toNat_inj.1
    rw [h]at n2
    omega
   subst h e
   have e1:(y==y)=true:=by simp
   rw [e1,zaS]at h1 h2⊢
   exact less_trans a b c h1.2 h2.2
  ·have:(z==x)=false:=by simpa using h
   rw [this];rfl
theorem less_asym(a b:Str)(h:zaL a b=true):zaL b a=false:=by rw [less_tri b a,h];rfl
def leP(a b:PP):Prop:=zaL b.1 a.1=false
theorem leP_anti(a b:PP)(h1:leP a b)(h2:leP b a):a.1=b.1:=by
 unfold leP at h1 h2
 rw [less_tri b.1 a.1,h2,Bool.false_or]at h1
 have:(a.1==b.1)=true:=by simpa using h1
 exact eq_of_beq this
theorem insV_dsc(x:PP):∀V:List PP,V.Pairwise (fun a b=>leP b a)→(insV x V).Pairwise (fun a b=>leP b a)
 |[],_=>by simp [insV]
 |a::V,h=>by
  rw [List.pairwise_cons]at h
  rw [insV]
  cases hg:gtN a.1 x.1 with
  |true=>
   rw [cond_true,List.pairwise_cons]
   refine⟨fun y hy=> ?_,insV_dsc x V h.2⟩
   rcases insV_mem x y V hy with rfl|hy
   ·exact less_asym _ _ (by rw [←gtN_less];exact hg)
   ·exact h.1 y hy
  |false=>
   have hax:leP a x:=by unfold leP;rw [←gtN_less];exact hg
   rw [cond_false,List.pairwise_cons,List.pairwise_cons]
   refine⟨fun y hy=> ?_,h.1,h.2⟩
   rcases List.mem_cons.1 hy with rfl|hy
   ·exact hax
   ·exact less_trans _ _ _ (h.1 y hy) hax
theorem insV_perm(x:PP):∀V:List PP,(insV x V).Perm (x::V)
 |[]=>List.Perm.refl _
 |a::V=>by
  rw [insV]
  cases gtN a.1 x.1 with
  |true=>rw [cond_true];exact((insV_perm x V).cons a).trans (List.Perm.swap x a V)
  |false=>rw [cond_false]
theorem insR_srt(x:PP)(l:List PP)(h:l.Pairwise leP):(insR x l).Pairwise leP:=by
 unfold insR
 rw [List.pairwise_reverse]
 exact insV_dsc x _ (List.pairwise_reverse.2 (by simpa using h))
theorem insR_perm(x:PP)(l:List PP):(insR x l).Perm (l++[x]):=by
 unfold insR
 refine(List.reverse_perm _).trans ((insV_perm x _).trans ?_)
 exact(((List.reverse_perm l).cons x).trans (List.perm_append_comm (l₁:=[x]) (l₂:=l)))
theorem fold_srt:∀(q p:List PP),p.Pairwise leP→(q.foldl (fun out x=>insR x out) p).Pairwise leP∧(q.foldl (fun out x=>insR x out) p).Perm (p++q)
 |[],p,h=>⟨h,by simp⟩
 |a::q,p,h=>by
  rw [List.foldl_cons]
  obtain⟨h1,h2⟩:=fold_srt q (insR a p) (insR_srt a p h)
  refine⟨h1,h2.trans ?_⟩
  have:=(insR_perm a p).append_right q
  rw [zal,zaM]at this
  exact this
theorem isort_srt(l:List PP):(acl l).Pairwise leP:=(fold_srt l [] List.Pairwise.nil).1
theorem ajg(l:List PP):(acl l).Perm l:=by
 have:=(fold_srt l [] List.Pairwise.nil).2
 rw [zax]at this
 exact this
def dstN(l:List PP):Prop:=l.Pairwise fun a b=>a.1≠b.1
theorem dst_inj:∀(l:List PP),dstN l→∀a∈l,∀b∈l,a.1=b.1→a=b
 |[],_,a,h,_,_,_=>absurd h (by simp)
 |x::l,hd,a,ha,b,hb,e=>by
  unfold dstN at hd
  rw [List.pairwise_cons]at hd
  rcases List.mem_cons.1 ha with rfl|ha'
  ·rcases List.mem_cons.1 hb with rfl|hb'
   ·rfl
   ·exact absurd e (hd.1 b hb')
  ·rcases List.mem_cons.1 hb with rfl|hb'
   ·exact absurd e.symm (hd.1 a ha')
   ·exact dst_inj l hd.2 a ha' b hb' e
theorem dst_perm{l m:List PP}(h:l.Perm m)(hd:dstN l):dstN m:=h.pairwise hd fun h e=>h e.symm
theorem isort_uniq(l m:List PP)(h:l.Perm m)(hd:dstN l):acl l=acl m:=by
 have hp:(acl l).Perm (acl m):=(ajg l).trans (h.trans (ajg m).symm)
 have hdi:=dst_perm (ajg l).symm hd
 refine List.Perm.eq_of_pairwise (fun a b ha hb h1 h2=> ?_) (isort_srt l) (isort_srt m) hp
 exact dst_inj _ hdi a ha b (hp.mem_iff.2 hb) (leP_anti a b h1 h2)
theorem ppL_dst:∀(r pre:List PP) (u:Str),ppL pre r=some u→dstN r∧∀p∈r,(∀q∈pre,q.1≠p.1)∧aau p.1=p.1
 |[],pre,u,_=>⟨List.Pairwise.nil,by simp⟩
 |p::r,pre,u,h=>by
  rw [ppL]at h
  cases hk:okN pre p&&okV p with
  |false=>rw [hk]at h;cases h
  |true=>
   rw [hk,cond_true,zbb]at h
   obtain⟨t,ht,rfl⟩:=h
   rw [zai]at hk
   have hN:=hk.1
   unfold okN at hN
   simp only [zai,decide_eq_true_eq,Bool.not_eq_true']at hN
   obtain⟨i1,i2⟩:=ppL_dst r _ t ht
   have hpre:∀q∈pre,q.1≠p.1:=fun q hq e=>by
    have:=List.any_eq_false.1 hN.2 q hq
    exact this (by simpa using e)
   refine⟨List.pairwise_cons.2 ⟨fun q hq=>(i2 q hq).1 p (by simp),i1⟩,fun q hq=> ?_⟩
   rcases List.mem_cons.1 hq with rfl|hq
   ·exact⟨hpre,hN.1.2⟩
   ·exact⟨fun z hz=>(i2 q hq).1 z (by simp [hz]),(i2 q hq).2⟩
theorem get_mem(l:List PP)(hd:dstN l)(hlow:∀p∈l,aau p.1=p.1)(p:PP)(hp:p∈l):getP l p.1=(p.2.1,true):=by
 have e:getP l p.1=(match l.find? (fun q=>aau q.1==aau p.1)with|some p=>(p.2.1,true)|none=>([],false)):=rfl
 rw [e]
 cases hf:l.find? (fun q=>aau q.1==aau p.1)with
 |none=>
  have:=List.find?_eq_none.1 hf p hp
  exact absurd (by simp) this
 |some q=>
  have h1:=List.find?_some hf
  have h2:=List.mem_of_find?_eq_some hf
  have h3:aau q.1=aau p.1:=by simpa using h1
  rw [hlow q h2,hlow p hp]at h3
  rw [dst_inj l hd q h2 p hp h3]
theorem get_no(l:List PP)(name:Str)(hlow:∀p∈l,aau p.1=p.1)(hn:aau name=name)(h:∀p∈l,p.1≠name):getP l name=([],false):=by
 have e:getP l name=(match l.find? (fun q=>aau q.1==aau name)with|some p=>(p.2.1,true)|none=>([],false)):=rfl
 rw [e]
 cases hf:l.find? (fun q=>aau q.1==aau name)with
 |none=>rfl
 |some q=>
  have h1:=List.find?_some hf
  have h2:=List.mem_of_find?_eq_some hf
  have h3:aau q.1=aau name:=by simpa using h1
  rw [hlow q h2,hn]at h3
  exact absurd h3 (h q h2)
theorem hostP_q(q:UInt8→Bool)(h1:∀c,hexB c=true→q (aer c)=true)(h2:q 58=true)(h3:q 48=true)(h4:q 91=true)(h5:q 93=true)(h6:q 46=true)(h7:∀c,adc c=true→q c=true)(h8:∀c,labB c=true→q (aer c)=true)(s:Str):∀c∈(acq s).1,q c=true:=by
 intro c hc
 unfold acq at hc
 split at hc
 ·split at hc
  ·rcases List.mem_append.1 hc with hc|hc
   ·rcases List.mem_append.1 hc with hc|hc
    ·rw [List.mem_singleton.1 hc];exact h4
    ·exact grpsP_q q h1 h2 h3 _ c hc
   ·rw [List.mem_singleton.1 hc];exact h5
  ·simp at hc
 ·split at hc
  ·rename_i hn
   unfold numsP at hn
   simp only [zai]at hn
   rcases atf 46 adc s (fun x hx=>(num_parts x (by rw [←oct_num];exact List.all_eq_true.1 hn.1.2 x hx)).2.2) c hc with h|h
   ·exact h7 c h
   ·rw [h];exact h6
  ·split at hc
   ·rename_i hn
    unfold avw at hn
    simp only [zai]at hn
    obtain⟨d,hd,rfl⟩:=List.mem_map.1 hc
    rcases atf 46 labB s (fun x hx=>by
     have:=List.all_eq_true.1 hn.1.2 x hx
     unfold avm at this
     simp only [zai]at this
     exact this.2) d hd with h|h
    ·exact h8 d h
    ·rw [h];exact h6
   ·simp at hc
theorem host_sep(s:Str):∀c∈(acq s).1,(!sepB c)=true:=hostP_q _ (aae _ (by decide+kernel)) (by decide) (by decide) (by decide) (by decide) (by decide) (aae _ (by decide+kernel)) (aae _ (by decide+kernel)) s
theorem sep_blank:∀c:UInt8,(!sepB c)=true→aac c=false:=aae _ (by decide+kernel)
theorem dig_sep:∀c:UInt8,adc c=true→(!sepB c)=true:=aae _ (by decide+kernel)
theorem host_form(s:Str)(h:(acq s).2=true):(∃g,(acq s).1=[91]++g++[93])∨(∀c∈(acq s).1,c≠58∧c≠91∧c≠93):=by
 by_cases hb:brkB s=true
 ·left
  unfold acq at h⊢
  rw [if_pos hb]at h⊢
  by_cases hg:(ara (sub s 1 ((s.length:Int)-1))).2=true
  ·rw [if_pos hg];exact⟨_,rfl⟩
  ·rw [if_neg hg]at h;cases h
 ·right
  intro c hc
  unfold acq at hc
  rw [if_neg hb]at hc
  split at hc
  ·rename_i hn
   unfold numsP at hn
   simp only [zai]at hn
   rcases atf 46 adc s (fun x hx=>(num_parts x (by rw [←oct_num];exact List.all_eq_true.1 hn.1.2 x hx)).2.2) c hc with h|h
   ·revert h;revert c;exact fun c _=>(aae (fun c=>adc c=true→c≠58∧c≠91∧c≠93) (by decide+kernel)) c
   ·rw [h];decide
  ·split at hc
   ·rename_i hn
    unfold avw at hn
    simp only [zai]at hn
    obtain⟨d,hd,rfl⟩:=List.mem_map.1 hc
    rcases atf 46 labB s (fun x hx=>by
     have:=List.all_eq_true.1 hn.1.2 x hx
     unfold avm at this
     simp only [zai]at this
     exact this.2) d hd with h|h
    ·exact(aae (fun c=>labB c=true→aer c≠58∧aer c≠91∧aer c≠93) (by decide+kernel)) d h
    ·rw [h];decide
   ·simp at hc
theorem host_ne'(s:Str)(h:(acq s).2=true):(acq s).1≠[]:=by
 intro e
 have:=host_idem s h
 rw [e]at this
 exact absurd (congrArg Prod.snd this) (by decide)
theorem lixb_none(p:UInt8→Bool):∀l:Str,(∀c∈l,p c=false)→ate p l= -1
 |[],_=>rfl
 |b::l,h=>by
  unfold ate
  rw [lixb_none p l (fun c hc=>h c (zaf _ hc)),if_pos rfl,h b (by simp),if_neg (by decide)]
theorem lixb_last(p:UInt8→Bool)(c:UInt8)(hc:p c=true)(B:Str)(hB:∀b∈B,p b=false):∀A:Str,ate p (A++c::B)=(A.length:Int)
 |[]=>by
  rw [zax]
  unfold ate
  rw [lixb_none p B hB,if_pos rfl,hc,if_pos rfl];rfl
 |a::A=>by
  rw [zay]
  unfold ate
  rw [lixb_last p c hc B hB A,if_neg (by omega),zad];omega
theorem cut_host(s:Str)(h:(acq s).2=true):cutP (acq s).1=((acq s).1,[],false):=by
 rcases host_form s h with⟨g,hg⟩|hn
 ·rw [hg]
  have hsp:=lixb_spec (·==(58:UInt8)) ([91]++g++[93])
  unfold cutP
  by_cases hx:ate (·==(58:UInt8)) ([91]++g++[93])<0
  ·rw [if_pos hx]
  ·rw [if_neg hx]
   have hl:([91]++g++[93]).length=g.length+2:=by simp
   have h58:∀a:Nat,ate (·==(58:UInt8)) ([91]++g++[93])=(a:Int)→1≤a∧a≤g.length:=by
    intro a ha
    have e1:ate (·==(58:UInt8)) ([91]++g++[93])=ate (·==(58:UInt8)) ([91]++g):=by rw [lixb_snoc,if_neg (by decide)]
    rw [e1,zaM]at ha
    unfold ate at ha
    have hs2:=lixb_spec (·==(58:UInt8)) g
    split at ha
    ·rw [if_neg (by decide)]at ha;omega
    ·omega
   obtain⟨a,ha⟩:∃a:Nat,ate (·==(58:UInt8)) ([91]++g++[93])=(a:Int):=⟨(ate (·==(58:UInt8)) ([91]++g++[93])).toNat,by omega⟩
   have hb:=h58 a ha
   rw [ha,zar]
   have t1:(([91]++g++[93]).take a).any (·==91)=true:=by
    rw [List.any_eq_true]
    refine⟨91, ?_,by decide⟩
    obtain⟨b,rfl⟩:∃b,a=b+1:=⟨a-1,by omega⟩
    simp
   have t2:(([91]++g++[93]).drop a).any (·==93)=true:=by
    rw [List.any_eq_true]
    refine⟨93, ?_,by decide⟩
    rw [List.drop_append_of_le_length (by simp;omega)]
    simp
   rw [t1,t2,if_pos (by decide)]
 ·unfold cutP
  rw [lixb_none _ _ (fun c hc=>by simpa using (hn c hc).1),if_pos (by decide)]
theorem cut_port(s u:Str)(h:(acq s).2=true)(hu:u.all adc=true):cutP ((acq s).1++58::u)=((acq s).1,u,true):=by
 have hd:∀c∈u,c≠58∧c≠93:=fun c hc=>(aae (fun c=>adc c=true→c≠58∧c≠93) (by decide+kernel)) c (List.all_eq_true.1 hu c hc)
 have hx:ate (·==(58:UInt8)) ((acq s).1++58::u)=((acq s).1.length:Int):=lixb_last _ 58 (by decide) u (fun b hb=>by simpa using (hd b hb).1) _
 have h93:(58::u).any (·==93)=false:=by
  rw [List.any_eq_false]
  intro c hc
  rcases List.mem_cons.1 hc with rfl|hc
  ·decide
  ·simpa using (hd c hc).2
 have e:(((acq s).1.length:Int)+1).toNat=((acq s).1++[58]).length:=by simp
 unfold cutP
 rw [hx,if_neg (by omega),zar,zbv,zbi,h93,Bool.and_false,if_neg (by decide),e,show(acq s).1++58::u=((acq s).1++[58])++u by simp,zbi]
theorem up_tok:∀c:UInt8,aaf c=true→aaf (avt c)=true:=aae _ (by decide+kernel)
theorem up_up:∀c:UInt8,avt (avt c)=avt c:=aae _ (by decide+kernel)
theorem upperL_idem(s:Str):adz (adz s)=adz s:=by
 unfold adz;rw [List.map_map];exact zbn fun c _=>up_up c
theorem upperL_tok(s:Str)(h:ahi s=true):ahi (adz s)=true:=by
 obtain⟨hne,hall⟩:=aov h
 unfold ahi
 rw [zai]
 refine⟨?_, ?_⟩
 ·cases s with
  |nil=>exact absurd rfl hne
  |cons a s=>rfl
 ·unfold adz
  rw [List.all_map]
  exact List.all_eq_true.2 fun c hc=>up_tok c (List.all_eq_true.1 hall c hc)
theorem brn_low:aau BRN=BRN:=by decide
theorem dst_vl(ps:List PP)(b:Str)(t:Str)(h:ppL [] (acl (ars ps++aut b))=some t):dstN (ars ps++aut b):=dst_perm (ajg _) (ppL_dst _ _ _ h).1
theorem get_branch(ps:List PP)(b:Str)(t:Str)(h:ppL [] (acl (ars ps++aut b))=some t):getP (acl (ars ps++aut b)) BRN=(b, !(decide (b=[]))):=by
 obtain⟨hd,hl⟩:=ppL_dst _ _ _ h
 by_cases hb:b=[]
 ·rw [decide_eq_true hb,hb]
  refine get_no _ _ (fun p hp=>(hl p (by rw [hb];exact hp)).2) brn_low fun p hp=> ?_
  have hp':=awe _ p hp
  unfold aut at hp'
  rw [if_pos rfl,zam]at hp'
  have:=(List.mem_filter.1 hp').2
  simpa using this
 ·rw [decide_eq_false hb]
  have hm:((BRN,b,true):PP)∈acl (ars ps++aut b):=(ajg _).mem_iff.2 (by unfold aut;rw [if_neg hb];simp)
  exact get_mem _ hd (fun p hp=>(hl p hp).2) _ hm
theorem prHost_all(s:Str)(n:Int)(h0:0≤n)(h1:n≤65535):(apk (acq s).1 n).all (fun c=> !sepB c)=true:=by
 rw [List.all_eq_true]
 intro c hc
 unfold apk at hc
 split at hc
 ·exact host_sep s c hc
 ·rcases List.mem_append.1 hc with hc|hc
  ·exact host_sep s c hc
  ·rcases List.mem_append.1 hc with hc|hc
   ·rw [List.mem_singleton.1 hc];decide
   ·exact dig_sep c (List.all_eq_true.1 (amd n h0 h1).2.2.2 c hc)
theorem prHost_ne(s:Str)(n:Int)(h:(acq s).2=true):apk (acq s).1 n≠[]∧(apk (acq s).1 n).head? =(acq s).1.head? :=by
 have hne:=host_ne' s h
 unfold apk
 split
 ·exact⟨hne,rfl⟩
 ·exact⟨by simp [hne],atr _ _ hne⟩
theorem via_back(x:VV)(h:(aqs x).2=0):viaP (aqs x).1=((adz x.1,(acq x.2.1).1,x.2.2.1,x.2.2.2.1,acl (ars x.2.2.2.2++aut x.2.2.2.1)),0):=by
 unfold aqs at h⊢
 by_cases hc:(acq x.2.1).2=true∧ahi x.1=true∧0≤x.2.2.1∧x.2.2.1≤65535∧(ppM (acl (ars x.2.2.2.2++aut x.2.2.2.1))).2=0
 ·rw [if_pos hc]
  obtain⟨hH,hT,hp0,hp1,h0⟩:=hc
  obtain⟨b1,b2,b3,b4⟩:=par_back (acl (ars x.2.2.2.2++aut x.2.2.2.1)) (ppM (acl (ars x.2.2.2.2++aut x.2.2.2.1))).1 (by rw [←h0])
  have hbr:=get_branch _ _ _ b3
  have hcutP:cutP (apk (acq x.2.1).1 x.2.2.1)=if x.2.2.1=0 then((acq x.2.1).1,[],false)else((acq x.2.1).1,zat x.2.2.1,true):=by
   unfold apk
   by_cases hz:x.2.2.1=0
   ·rw [if_pos hz,if_pos hz,cut_host _ hH]
   ·rw [if_neg hz,if_neg hz,zaM,cut_port _ _ hH (amd _ hp0 hp1).2.2.2]
  generalize acl (ars x.2.2.2.2++aut x.2.2.2.1)=l at b1 b2 b3 b4 hbr⊢
  generalize(ppM l).1=t at b1 b2 b3⊢
  have hall:=prHost_all x.2.1 x.2.2.1 hp0 hp1
  obtain⟨hpn,hph⟩:=prHost_ne x.2.1 x.2.2.1 hH
  have hidem:=host_idem x.2.1 hH
  have hnum:=(amd x.2.2.1 hp0 hp1).1
  have hUT:=upperL_tok x.1 hT
  obtain⟨hUn,hUa⟩:=aov hUT
  simp only
  have hs:VER++adz x.1++[32]++apk (acq x.2.1).1 x.2.2.1++t=(VER++adz x.1++[32])++(apk (acq x.2.1).1 x.2.2.1++t):=by simp
  have hPh:∀c,(apk (acq x.2.1).1 x.2.2.1++t).head? =some c→aac c=false:=fun c hc=>by
   rw [atr _ _ hpn]at hc
   exact sep_blank c (head_all (fun c=> !sepB c) _ hall c hc)
  generalize apk (acq x.2.1).1 x.2.2.1=ph at hcutP hall hpn hph hs hPh⊢
  have htr:aat (VER++adz x.1++[32]++ph++t)=VER++adz x.1++[32]++ph++t:=by
   refine trim_id _ (fun c hc=> ?_) (ppL_last _ [] t _ b3 (asd _ _ hpn (ase (fun c=> !sepB c) sep_blank _ hall)))
   have:c=83:=by
    have e:(VER++adz x.1++[32]++ph++t).head? =some 83:=rfl
    rw [e,Option.some.injEq]at hc
    exact hc.symm
   rw [this];decide
  have h8:(VER:Str).length=8:=rfl
  have hA:VER++adz x.1++[32]++ph++t=VER++(adz x.1++32::(ph++t)):=by simp
  have htk:aap aaf (VER++adz x.1++[32]++ph++t) 8=8+(adz x.1).length:=by
   have:=skipA aaf _ VER _ hA
   rw [asm aaf _ _ hUa,awo aaf 32 _ (by decide)]at this
   exact this
  have hl2:(VER++adz x.1).length=8+(adz x.1).length:=by rw [zab,h8]
  have hB:VER++adz x.1++[32]++ph++t=(VER++adz x.1)++32::(ph++t):=by simp
  have hbl:aap aac (VER++adz x.1++[32]++ph++t) ((8+(adz x.1).length:Nat):Int)=8+(adz x.1).length+1:=by
   have:=skipA aac _ (VER++adz x.1) _ hB
   have e:ahv aac (32::(ph++t))=1:=by
    rw [ahv,if_pos (by decide),ank aac _ hPh]
   rw [e,hl2]at this
   exact this
  have hsub:sub (VER++adz x.1++[32]++ph++t) 8 ((8+(adz x.1).length:Nat):Int)=adz x.1:=subA _ VER (adz x.1) (32::(ph++t)) hA
  have hl3:(VER++adz x.1++[32]).length=8+(adz x.1).length+1:=by rw [zab,hl2];rfl
  have hdrop:(VER++adz x.1++[32]++ph++t).drop (8+(adz x.1).length+1)=ph++t:=by rw [hs,←hl3,zbi]
  have hspan:ahv (fun c=> !sepB c) (ph++t)=ph.length:=by
   rw [asm _ _ _ hall,ank _ t (fun c hc=>by rw [b2 c hc];decide)];rfl
  have hlt:¬(VER++adz x.1++[32]++ph++t).length<8:=by rw [hA,zab,h8];omega
  have hup:adz ((VER++adz x.1++[32]++ph++t).take 8)=VER:=by
   rw [hA,←h8,zbv];decide
  have hUl:=List.length_pos_iff.2 hUn
  unfold viaP
  rw [htr,if_neg hlt,if_neg (not_not_intro hup),htk,if_neg (by omega),hbl,if_neg (by omega),hsub,hdrop,hspan,zbv,zbi,upperL_idem]
  unfold viaB
  rw [hcutP]
  have fin:∀port:Int,viaF (adz x.1) (acq x.2.1).1 port t=((adz x.1,(acq x.2.1).1,port,x.2.2.2.1,l),0):=by
   intro port
   unfold viaF
   rw [b1,if_pos rfl,hbr]
  by_cases hz:x.2.2.1=0
  ·rw [if_pos hz]
   simp only
   rw [hidem,if_neg (show¬(true=false)by decide),if_neg (by decide),fin,hz]
  ·have hq:portQ (zat x.2.2.1)=(x.2.2.1,0):=by
    unfold portQ
    rw [hnum,if_neg (by rintro⟨_,h|h⟩<;>simp only at h<;>omega)]
   rw [if_neg hz]
   simp only
   rw [hidem,if_neg (show¬(true=false)by decide),if_pos trivial,hq,if_pos rfl,fin]
 ·rw [if_neg hc]at h;exact absurd h (by decide)
theorem via_again(x:VV)(h:(aqs x).2=0):aqs (adz x.1,(acq x.2.1).1,x.2.2.1,x.2.2.2.1,acl (ars x.2.2.2.2++aut x.2.2.2.1))=aqs x:=by
 have h':=h
 unfold aqs at h'
 by_cases hc:(acq x.2.1).2=true∧ahi x.1=true∧0≤x.2.2.1∧x.2.2.1≤65535∧(ppM (acl (ars x.2.2.2.2++aut x.2.2.2.1))).2=0
 ·obtain⟨hH,hT,hp0,hp1,h0⟩:=hc
  obtain⟨b1,b2,b3,b4⟩:=par_back (acl (ars x.2.2.2.2++aut x.2.2.2.1)) (ppM (acl (ars x.2.2.2.2++aut x.2.2.2.1))).1 (by rw [←h0])
  have hd:=dst_vl _ _ _ b3
  have hperm:(ars (acl (ars x.2.2.2.2++aut x.2.2.2.1))++aut x.2.2.2.1).Perm (ars x.2.2.2.2++aut x.2.2.2.1):=by
   refine List.Perm.append_right _ ?_
   have h1:(ars (acl (ars x.2.2.2.2++aut x.2.2.2.1))).Perm (ars (ars x.2.2.2.2++aut x.2.2.2.1)):=(ajg _).filter _
   have h2:ars (ars x.2.2.2.2++aut x.2.2.2.1)=ars x.2.2.2.2:=by
    unfold ars
    rw [List.filter_append,List.filter_filter]
    have e1:(aut x.2.2.2.1).filter (fun p=> !(p.1==BRN))=[]:=by
     unfold aut
     split
     ·rfl
     ·simp
    rw [e1,zam]
    congr 1
    funext p
    simp
   rw [h2]at h1
   exact h1
  have he:=isort_uniq _ _ hperm.symm hd
  unfold aqs
  simp only
  rw [←he,host_idem _ hH,upperL_tok _ hT,hH,hT,upperL_idem]
 ·rw [if_neg hc]at h';exact absurd h' (by decide)
open Bool renaming and_eq_true → zai, not_false → zaH, not_true → zaz
open Go.Lib renaming hasPrefix → zba, trimPrefix → zaw
open List renaming all_cons → zaR, length → zbl, length_nil → zaj, length_take → zaE
open Option renaming bind_some → zaa, map_some → zaU
def aqn(s:Str):Bool:=s.all fun c=> !aax c
theorem inC_clean(k:Int)(hk:k=0∨k=1∨k=2):∀c:UInt8,inC c k=true→aax c=false:=by
 rcases hk with rfl|rfl|rfl<;>exact aae _ (by decide+kernel)
theorem lower_control:∀c:UInt8,aax (aer c)=aax c:=aae _ (by decide+kernel)
theorem clean_lower(s:Str):aqn (aau s)=aqn s:=by
 unfold aqn aau
 rw [List.all_map]
 congr 1
 funext c
 simp only [Function.comp_apply,lower_control]
theorem clean_eq(s:Str)(hs:s.length≤4194304):amo FU s=some (aqn s):=by
 have h:=all_gen0 (fun c=> !aax c) s hs false (ani FU s)
  (fun fk=>by rw [aoq,ait,if_neg (by omega)])
  (fun fk k hk h=>by
   have h':aax (at_ s (k:Int))=true:=by simpa using h
   rw [aoq,ait,if_pos (by omega),gok,ad_control,zaa,h',cond_true])
  (fun fk k hk h=>by
   have h':aax (at_ s (k:Int))=false:=by simpa using h
   rw [aoq,ait,if_pos (by omega),gok,ad_control,zaa,h',cond_false,gok])
 unfold amo
 rw [h,zaa]
 unfold aqn
 cases s.all (fun c=> !aax c)<;>rfl
theorem conF_clean(k:Int)(hk:k=0∨k=1∨k=2):∀(f:Nat) (l:Str),badF k f l=none→aqn (conF k f l)=true
 |0,l,_=>rfl
 |f+1,l,h=>by
  unfold badF at h
  unfold conF
  by_cases hl:l=[]
  ·rw [if_pos hl];rfl
  ·rw [if_neg hl]at h⊢
   cases hc:inC (at_ l 0) k with
   |true=>
    rw [hc,if_pos rfl,Option.map_eq_none_iff]at h
    rw [if_pos rfl]
    have:=conF_clean k hk f (l.drop 1) h
    unfold aqn at this⊢
    rw [zaR,inC_clean k hk _ hc,this];rfl
   |false=>
    rw [hc,if_neg (by decide)]at h
    rw [if_neg (by decide)]
    cases hE:escH l with
    |none=>rw [hE]at h;cases h
    |some v=>
     rw [hE]at h
     simp only at h⊢
     cases hv:aax v with
     |true=>rw [hv,if_pos rfl]at h;cases h
     |false=>
      rw [hv,if_neg (by decide),Option.map_eq_none_iff]at h
      have:=conF_clean k hk f (l.drop 3) h
      unfold aqn at this⊢
      rw [zaR,hv,this];rfl
theorem conP_clean(k:Int)(hk:k=0∨k=1∨k=2)(l:Str)(h:badP k l=none):aqn (conP k l)=true:=conF_clean k hk _ l h
def okQ(k:Int)(p:PP):Prop:=p.1≠[]∧aau p.1=p.1∧aqn p.1=true∧aqn p.2.1=true∧(k=1→p.2.2= !decide (p.2.1=[]))∧(k=2→p.2.2=true)
theorem room_no{l:List PP}{nm:Str}(h:asb l nm=0):∀q∈l,q.1≠nm:=by
 unfold asb at h
 split at h
 ·exact absurd h (by decide)
 ·rename_i hn
  intro q hq e
  exact hn (List.any_eq_true.2 ⟨q,hq,by simpa using e⟩)
theorem fld_ok(k:Int)(hk:k=1∨k=2)(l:List PP)(T:Str)(h:(fldP k l T).1=0):okQ k (fldP k l T).2∧∀q∈l,q.1≠(fldP k l T).2.1:=by
 have hk3:k=0∨k=1∨k=2:=.inr hk
 unfold fldP at h⊢
 cases hb:badP k (T.take (atj T))with
 |some j=>rw [hb]at h;exact absurd h (show¬(5:UInt8)=0 by decide)
 |none=>
  rw [hb]at h
  simp only at h⊢
  by_cases h0:atj T=0
  ·rw [if_pos h0]at h;exact absurd h (by decide)
  ·rw [if_neg h0]at h⊢
   have hne:∀_:atj T≤T.length,T.take (atj T)≠[]:=fun hle e=>by
    have:=congrArg zbl e
    rw [zaE,zaj]at this
    omega
   have hne':=hne (ape _ _)
   have hN:aau (conP k (T.take (atj T)))≠[]:=fun e=>hne' ((conP_nil k _ hb).1 ((lower_nil _).1 e))
   have hNc:aqn (aau (conP k (T.take (atj T))))=true:=by rw [clean_lower];exact conP_clean k hk3 _ hb
   by_cases hlt:atj T<T.length
   ·rw [if_pos hlt]at h⊢
    cases hb2:badP k (T.drop (atj T+1))with
    |some j=>rw [hb2]at h;exact absurd h (show¬(5:UInt8)=0 by decide)
    |none=>
     rw [hb2]at h
     simp only at h⊢
     by_cases hx:T.drop (atj T+1)=[]∧k=1
     ·rw [if_pos hx]at h;exact absurd h (by decide)
     ·rw [if_neg hx]at h⊢
      refine⟨⟨hN,lowlowL _,hNc,conP_clean k hk3 _ hb2,fun h1=> ?_,fun _=>rfl⟩,room_no h⟩
      have:¬conP k (T.drop (atj T+1))=[]:=fun e=>hx ⟨(conP_nil k _ hb2).1 e,h1⟩
      show true= !decide (conP k (T.drop (atj T+1))=[])
      rw [decide_eq_false this];rfl
   ·rw [if_neg hlt]at h⊢
    by_cases h2:k=2
    ·rw [if_pos h2]at h;exact absurd h (by decide)
    ·rw [if_neg h2]at h⊢
     exact⟨⟨hN,lowlowL _,hNc,rfl,fun _=>rfl,fun e=>absurd e h2⟩,room_no h⟩
def LS(k:Int)(l:List PP):Prop:=dstN l∧∀p∈l,okQ k p
theorem LS.nil(k:Int):LS k []:=⟨List.Pairwise.nil,by simp⟩
theorem LS.snoc{k:Int}{l:List PP}(h:LS k l)(p:PP)(hp:okQ k p)(hn:∀q∈l,q.1≠p.1):LS k (l++[p]):=by
 refine⟨List.pairwise_append.2 ⟨h.1,List.pairwise_singleton _ _,fun a ha b hb=> ?_⟩,fun q hq=> ?_⟩
 ·rw [List.mem_singleton.1 hb];exact hn a ha
 ·rcases List.mem_append.1 hq with hq|hq
  ·exact h.2 q hq
  ·rw [List.mem_singleton.1 hq];exact hp
theorem LS.sort{k:Int}{l:List PP}(h:LS k l):LS k (acl l):=⟨dst_perm (ajg l).symm h.1,fun p hp=>h.2 p ((ajg l).mem_iff.1 hp)⟩
theorem isort_isort(l:List PP)(h:dstN l):acl (acl l)=acl l:=(isort_uniq l (acl l) (ajg l).symm h).symm
theorem plL_ok(st s:Str):∀(f i:Nat) (l:List PP),LS 1 l→LS 1 (plL st s f i l).2.2
 |0,i,l,h=>h
 |f+1,i,l,h=>by
  unfold plL
  split
  ·split
   ·rename_i h0
    obtain⟨h1,h2⟩:=fld_ok 1 (.inl rfl) _ _ h0
    exact plL_ok st s f _ _ (h.snoc _ h1 h2)
   ·exact LS.nil 1
  ·exact h
theorem hdL_ok(s:Str):∀(f i:Nat) (l:List PP),LS 2 l→LS 2 (hdL s f i l).2
 |0,i,l,h=>h
 |f+1,i,l,h=>by
  unfold hdL
  split
  ·split
   ·rename_i h0
    obtain⟨h1,h2⟩:=fld_ok 2 (.inr rfl) _ _ h0
    exact hdL_ok s f _ _ (h.snoc _ h1 h2)
   ·exact LS.nil 2
  ·exact h
def dialL(u:Str):Bool:= !decide (zaw u [43]=[])&&decide ((zaw u [43]).length≤30)&&(zaw u [43]).all (dialB (zba u [43]))
theorem dialed_step(sg:Bool)(c:UInt8):((aem FU c).bind fun(y170:Bool)=>(bif (!y170)then(bif sg then some true else(if c=(42:UInt8)then some false else some (!decide (c=(35:UInt8)))))else some false))=some (!dialB sg c):=by
 rw [ad_digit,zaa]
 revert c
 cases sg<;>exact aae _ (by decide+kernel)
theorem dialed_eq(u:Str)(hu:u.length≤4194304):aqa FU u=some (dialL u):=by
 have hlen:=trimPrefix_len u [43]
 have h:=all_gen0 (dialB (zba u [43])) (zaw u [43]) (by omega) false (alv FU u)
  (fun fk=>by rw [anw,aig,if_neg (by omega)])
  (fun fk k hk h=>by rw [anw,aig,if_pos (by omega),gok,dialed_step,zaa,h,zaH,cond_true])
  (fun fk k hk h=>by rw [anw,aig,if_pos (by omega),gok,dialed_step,zaa,h,zaz,cond_false,gok])
 unfold aqa dialL
 by_cases h0:zaw u [43]=[]
 ·rw [if_pos h0,zaa,cond_true,decide_eq_true h0];rfl
 ·rw [if_neg h0,zaa,decide_eq_false h0]
  by_cases h30:30<(zaw u [43]).length
  ·rw [decide_eq_true (by omega),cond_true,decide_eq_false (show¬(zaw u [43]).length≤30 by omega)];rfl
  ·rw [decide_eq_false (by omega),cond_false,h,zaa,decide_eq_true (show(zaw u [43]).length≤30 by omega)]
   cases(zaw u [43]).all (dialB (zba u [43]))<;>rfl
theorem keepN_all(sg:Bool):∀(T d:Str),avp sg T=some d→d.all (dialB sg)=true
 |[],d,h=>by simp only [avp,Option.some.injEq]at h;subst h;rfl
 |c::T,d,h=>by
  unfold avp at h
  split at h
  ·rename_i hd
   cases hk:avp sg T with
   |none=>rw [hk]at h;cases h
   |some d'=>
    rw [hk]at h
    simp only [zaU,Option.some.injEq]at h
    subst h
    rw [zaR,hd,keepN_all sg T d' hk];rfl
  ·split at h
   ·exact keepN_all sg T d h
   ·cases h
theorem telP_ok(s:Str)(i:Nat)(h:(telP s i).1=0):dialL (telP s i).2=true:=by
 unfold telP at h⊢
 cases hk:avp (aep s i 43) (sub s ((if aep s i 43=true then i+1 else i:Nat):Int) (utl [59] s i:Int))with
 |none=>rw [hk]at h;exact absurd h (show¬(5:UInt8)=0 by decide)
 |some d=>
  rw [hk]at h
  simp only at h⊢
  by_cases h0:d=[]
  ·rw [if_pos h0]at h;exact absurd h (by decide)
  ·rw [if_neg h0]at h⊢
   by_cases h30:30<d.length
   ·rw [if_pos h30]at h;exact absurd h (by decide)
   ·rw [if_neg h30]
    have ha:=keepN_all _ _ _ hk
    simp only
    cases hsg:aep s i 43 with
    |true=>
     rw [hsg]at ha
     rw [if_pos rfl]
     have e1:zaw (43::d) [43]=d:=by unfold zaw zba;simp
     have e2:zba (43::d) [43]=true:=by unfold zba;simp
     unfold dialL
     rw [e1,e2,ha,decide_eq_false h0,decide_eq_true (show d.length≤30 by omega)];rfl
    |false=>
     rw [hsg]at ha hk
     rw [if_neg (by decide)]
     have e1:=keepN_head _ _ hk
     have e2:zba d [43]=false:=by
      cases d with
      |nil=>exact absurd rfl h0
      |cons c d=>
       have hc:dialB false c=true:=by rw [zaR,zai]at ha;exact ha.1
       have:c≠43:=fun e=>by subst e;exact absurd hc (by decide)
       have h2:¬(43:UInt8)=c:=fun e=>this e.symm
       show((43:UInt8)==c&&([]:Str).isPrefixOf d)=false
       rw [beq_eq_false_iff_ne.2 h2];rfl
     unfold dialL
     rw [e1,e2,ha,decide_eq_false h0,decide_eq_true (show d.length≤30 by omega)];rfl
structure Good (u:UU):Prop where
 sch:((u.1=SIP∨u.1=SIPS)∧acq u.2.2.1=(u.2.2.1,true)∧0≤u.2.2.2.1∧u.2.2.2.1≤65535∧aqn u.2.1=true)∨(u.1=TEL∧u.2.2.1=[]∧u.2.2.2.1=0∧u.2.2.2.2.2=[]∧dialL u.2.1=true)
 ps:LS 1 u.2.2.2.2.1
 hs:LS 2 u.2.2.2.2.2
 pl:u.2.2.2.2.1.length≤16
 hl:u.2.2.2.2.2.length≤16
 pi:acl u.2.2.2.2.1=u.2.2.2.2.1
 hi:acl u.2.2.2.2.2=u.2.2.2.2.2
theorem restP_ok(st s sch us h:Str)(port:Int)(i:Nat)(h0:(restP st s sch us h port i).1=0):
  ∃P H,(restP st s sch us h port i).2=(sch,us,h,port,P,H)∧LS 1 P∧LS 2 H∧P.length≤16∧H.length≤16∧acl P=P∧acl H=H∧H=acl (hdL s (s.length+1) (plL st s (s.length+1) i []).2.1 []).2:=by
 unfold restP at h0⊢
 have a1:=plL_ok st s (s.length+1) i [] (LS.nil 1)
 have a2:=hdL_ok s (s.length+1) (plL st s (s.length+1) i []).2.1 [] (LS.nil 2)
 have b1:=plL_len st s (s.length+1) i [] (by simp)
 have b2:=hdL_len s (s.length+1) (plL st s (s.length+1) i []).2.1 [] (by simp)
 split
 ·rename_i h1
  rw [if_pos h1]at h0
  split
  ·exact⟨_,_,rfl,a1.sort,a2.sort,by rw [isort_len];exact b1,by rw [isort_len];exact b2,isort_isort _ a1.1,isort_isort _ a2.1,rfl⟩
  ·rename_i h2
   rw [if_neg h2]at h0
   exact absurd h0 h2
 ·rename_i h1
  rw [if_neg h1]at h0
  exact absurd h0 h1
theorem portQ_ok(q:Str)(h:(portQ q).2=0):1≤(portQ q).1∧(portQ q).1≤65535:=by
 unfold portQ at h⊢
 split
 ·rename_i hx
  rw [if_pos hx]at h
  exact absurd h (by decide)
 ·rename_i hx
  rw [if_neg hx]at h
  have h1:¬((numQ q).1<1∨65535<(numQ q).1):=fun e=>hx ⟨h,e⟩
  omega
theorem hpP_ok(s:Str)(i:Nat)(h:(hpP s i).1=0):acq (hpP s i).2.1=((hpP s i).2.1,true)∧0≤(hpP s i).2.2.1∧(hpP s i).2.2.1≤65535:=by
 unfold hpP at h⊢
 split
 ·rename_i hh
  rw [if_pos hh]at h
  exact absurd h (by decide)
 ·rename_i hh
  rw [if_neg hh]at h
  have hid:=host_idem _ (by simpa using hh)
  split
  ·rename_i h58
   rw [if_pos h58]at h
   split
   ·rename_i hp
    have:=portQ_ok _ hp
    exact⟨hid,by simp only;omega,by simp only;omega⟩
   ·rename_i hp
    rw [if_neg hp]at h
    exact absurd h hp
  ·rename_i h58
   rw [if_neg h58]at h
   split
   ·rename_i hx
    rw [if_pos hx]at h
    exact absurd h (by decide)
   ·exact⟨hid,show(0:Int)≤0 by decide,show(0:Int)≤65535 by decide⟩
theorem usrP_ok(U:Str)(h:(usrP U).1=0):aqn (usrP U).2=true∧(usrP U).2≠[]:=by
 unfold usrP at h⊢
 cases hb:badP 0 U with
 |some j=>
  rw [hb]at h
  simp only at h
  split at h<;>exact absurd h (by decide)
 |none=>
  rw [hb]at h
  simp only at h⊢
  by_cases hU:U=[]
  ·rw [if_pos hU]at h;exact absurd h (by decide)
  ·rw [if_neg hU]
   exact⟨conP_clean 0 (.inl rfl) U hb,fun e=>hU ((conP_nil 0 U hb).1 e)⟩
theorem plP_ok(s:Str)(i:Nat)(h:(plP s i).1=0):acq (plP s i).2.2.1=((plP s i).2.2.1,true)∧0≤(plP s i).2.2.2.1∧(plP s i).2.2.2.1≤65535∧aqn (plP s i).2.1=true:=by
 unfold plP at h⊢
 split
 ·rename_i hlt
  rw [if_pos hlt]at h
  split
  ·rename_i hu
   rw [if_pos hu]at h
   have:=hpP_ok s _ h
   exact⟨this.1,this.2.1,this.2.2,(usrP_ok _ hu).1⟩
  ·rename_i hu
   rw [if_neg hu]at h
   exact absurd h hu
 ·rename_i hlt
  rw [if_neg hlt]at h
  have:=hpP_ok s _ h
  exact⟨this.1,this.2.1,this.2.2,rfl⟩
open Bool renaming and_eq_true → zai, not_true → zaz, or_false → zbz, true_and → zaS
open List renaming all_cons → zaR, any_cons → zbo, append_nil → zam, drop_succ_cons → zbx, drop_zero → zbs, flatMap_cons → zas, length → zbl, length_append → zab, length_cons → zad, length_nil → zaj, length_singleton → zae, singleton_append → zaM
open Nat renaming le_refl → zao, lt_succ_self → zaZ
open Option renaming bind_some → zaa
open Sum renaming elim_inl → zaA
open UInt8 renaming toNat_lt → zby
theorem plL_end(s:Str):∀(f i:Nat) (l:List PP),i≤s.length→s.length-i<f→(i=s.length∨aep s i 59=true)→(plL [59] s f i l).1=0→(plL [59] s f i l).2.1=s.length
 |0,i,l,h1,h2,h3,h4=>by omega
 |f+1,i,l,h1,h2,h3,h4=>by
  unfold plL at h4⊢
  by_cases hz:aep s i 59=true
  ·rw [if_pos hz]at h4⊢
   have hlt:=(ags hz).1
   have hu1:=utl_ge [59] s (i+1)
   have hu2:=ava [59] s (i+1) hlt
   by_cases h0:(fldP 1 l (sub s ((i+1:Nat):Int) (utl [59] s (i+1):Int))).1=0
   ·rw [if_pos h0]at h4⊢
    refine plL_end s f _ _ hu2 (by omega) ?_ h4
    by_cases he:utl [59] s (i+1)=s.length
    ·exact .inl he
    ·have hst:=utl_stop [59] s (i+1) hlt (by omega)
     refine .inr ?_
     unfold aep
     rw [decide_eq_true (by omega),zaS]
     unfold asq at hst
     rw [zbo,List.any_nil,zbz]at hst
     have e2:=eq_of_beq hst
     rw [←e2];rfl
   ·rw [if_neg h0]at h4
    exact absurd h4 h0
  ·rw [if_neg hz]
   exact h3.resolve_right hz
theorem parse_good(s:Str)(h:(aqk s).1=0):Good (aqk s).2:=by
 unfold aqk at h⊢
 by_cases hl:1024<s.length
 ·rw [if_pos hl]at h;exact absurd h (by decide)
 ·rw [if_neg hl]at h⊢
  by_cases hc:utl [58] s 0<s.length
  ·rw [if_pos hc]at h⊢
   generalize utl [58] s 0=c at hc h⊢
   generalize aau (s.take c)=sch at h⊢
   by_cases hsip:sch=SIP∨sch=SIPS
   ·rw [if_pos hsip]at h⊢
    by_cases h0:(plP s (c+1)).1=0
    ·rw [if_pos h0]at h⊢
     obtain⟨P,H,e,a1,a2,a3,a4,a5,a6,_⟩:=restP_ok _ _ _ _ _ _ _ h
     rw [e]
     obtain⟨g1,g2,g3,g4⟩:=plP_ok s (c+1) h0
     exact⟨.inl ⟨hsip,g1,g2,g3,g4⟩,a1,a2,a3,a4,a5,a6⟩
    ·rw [if_neg h0]at h;exact absurd h h0
   ·rw [if_neg hsip]at h⊢
    by_cases htel:sch=TEL
    ·rw [if_pos htel]at h⊢
     by_cases h0:(telP s (c+1)).1=0
     ·rw [if_pos h0]at h⊢
      have hu1:=utl_ge [59] s (c+1)
      have hu2:=ava [59] s (c+1) hc
      have hp0:(plL [59] s (s.length+1) (utl [59] s (c+1)) []).1=0:=by
       unfold restP at h
       by_cases hx:(plL [59] s (s.length+1) (utl [59] s (c+1)) []).1=0
       ·exact hx
       ·rw [if_neg hx]at h;exact absurd h hx
      have hend:=plL_end s (s.length+1) (utl [59] s (c+1)) [] hu2 (by omega) (by
       by_cases he:utl [59] s (c+1)=s.length
       ·exact .inl he
       ·have hst:=utl_stop [59] s (c+1) hc (by omega)
        refine .inr ?_
        unfold aep
        rw [decide_eq_true (by omega),zaS]
        unfold asq at hst
        rw [zbo,List.any_nil,zbz]at hst
        have e2:=eq_of_beq hst
        rw [←e2];rfl) hp0
      obtain⟨P,H,e,a1,a2,a3,a4,a5,a6,a7⟩:=restP_ok _ _ _ _ _ _ _ h
      rw [e]
      have hH:H=[]:=by
       rw [a7,hend,hdL,if_neg (Nat.lt_irrefl _)];rfl
      exact⟨.inr ⟨htel,rfl,rfl,hH,telP_ok s (c+1) h0⟩,a1,a2,a3,a4,a5,a6⟩
     ·rw [if_neg h0]at h;exact absurd h h0
    ·rw [if_neg htel]at h;exact absurd h (by decide)
  ·rw [if_neg hc]at h;exact absurd h (by decide)
theorem fields_lp(k:Int)(hk:k=1∨k=2)(l:List PP)(hl:l.length≤16)(hL:LS k l)(hb:∀p∈l,p.1.length≤4194304∧p.2.1.length≤4194304)(q:List PP):∀(p:List PP) (fk:Nat),l=p++q→q.length<fk→
  ais FU l k fk p (p.length:Int)=some (.inl l):=by
 induction q with
 |nil=>
  intro p fk h hf
  obtain⟨fk,rfl⟩:=fkx fk
  rw [arv,aky,if_neg (by rw [h];simp),h,zam]
 |cons a q ih=>
  intro p fk h hf
  obtain⟨fk,rfl⟩:=fkx fk
  have hlen:=congrArg zbl h
  simp only [zab,zad]at hlen hf
  have hin:(0:Int)≤(p.length:Int)∧(p.length:Int)<(l.length:Int):=by omega
  have he:el l (p.length:Int)=a:=by rw [h];simp [el]
  have ha:a∈l:=by rw [h];simp
  obtain⟨o1,o2,o3,o4,o5,o6⟩:=hL.2 a ha
  obtain⟨b1,b2⟩:=hb a ha
  have hno:(p.any fun x=>x.1==a.1)=false:=by
   rw [List.any_eq_false]
   intro x hx e
   have hd:=hL.1
   rw [h]at hd
   exact(List.pairwise_append.1 hd).2.2 x hx a (by simp) (by simpa using e)
  have hih:=ih (p++[a]) fk (by rw [h];simp) (by omega)
  rw [show((p++[a]).length:Int)=(p.length:Int)+1 by simp]at hih
  rw [arv,aky,if_pos hin.2,aaa hin,aaa hin,he,anr _ b1,zaa,o2,if_neg o1,clean_eq _ b1,zaa,o3,zaz,cond_false,clean_eq _ b2,zaa,o4,zaz,cond_false,holds_eq p (by omega),hno,zaa,zaa,cond_false]
  have e9:(if k=(2:Int)then(bif (!(a.2.2))then some true else(if k=(1:Int)then some (!((a.2.2)==(!decide ((a.2.1)=([]:Str)))))else some false))else(if k=(1:Int)then some (!((a.2.2)==(!decide ((a.2.1)=([]:Str)))))else some false))=some false:=by
   rcases hk with rfl|rfl
   ·rw [if_neg (by decide),if_pos rfl,o5 rfl];simp
   ·rw [if_pos rfl,o6 rfl,zaz,cond_false,if_neg (by decide)]
  rw [e9,zaa,cond_false]
  simp only [pp_eta]
  rw [aaa (by simp only [zae];omega),aaa (aef _ (by omega) (by omega))]
  exact hih
theorem fields_eq(k:Int)(hk:k=1∨k=2)(l:List PP)(hl:l.length≤16)(hL:LS k l)(hb:∀p∈l,p.1.length≤4194304∧p.2.1.length≤4194304):ano FU l k=some (acl l,true):=by
 unfold ano
 have h:ais FU l k FU [] (0:Int)=some (.inl l):=fields_lp k hk l hl hL hb l [] FU rfl (by rw [ahy];omega)
 rw [if_neg (by omega),h,zaa,zaA,asorted_eq l (by omega),zaa]
def Sml(u:UU):Prop:=u.1.length≤4194304∧u.2.1.length≤4194304∧u.2.2.1.length≤4194304∧(∀p∈u.2.2.2.2.1,p.1.length≤4194304∧p.2.1.length≤4194304)∧(∀p∈u.2.2.2.2.2,p.1.length≤4194304∧p.2.1.length≤4194304)
theorem normal_eq(u:UU)(hg:Good u)(hs:Sml u):aqb FU u=some (u,0):=by
 obtain⟨sch,us,h,port,P,H⟩:=u
 obtain⟨g1,g2,g3,g4,g5,g6,g7⟩:=hg
 obtain⟨s1,s2,s3,s4,s5⟩:=hs
 simp only at g1 g2 g3 g4 g5 g6 g7 s1 s2 s3 s4 s5
 have hlow:aau sch=sch:=by
  rcases g1 with⟨h1,_⟩|⟨h1,_⟩
  ·rcases h1 with rfl|rfl<;>decide
  ·rw [h1];decide
 unfold aqb
 simp only
 rw [anr _ s1,zaa,hlow]
 have e98:(if sch=([115,105,112]:Str)then some (decide (sch=([115,105,112]:Str)))else some (decide (sch=([115,105,112,115]:Str))))=some (decide (sch=SIP∨sch=SIPS)):=by
  by_cases hA:sch=SIP
  ·rw [if_pos (show sch=([115,105,112]:Str)from hA),decide_eq_true (show sch=([115,105,112]:Str)from hA),decide_eq_true (Or.inl hA)]
  ·rw [if_neg (show¬sch=([115,105,112]:Str)from hA)]
   congr 1
   rw [decide_eq_decide]
   exact⟨Or.inr,fun h=>h.resolve_left hA⟩
 rw [e98,zaa]
 rcases g1 with⟨h1,h2,h3,h4,h5⟩|⟨h1,h2,h3,h4,h5⟩
 ·rw [decide_eq_true h1,cond_true,awj _ s3,zaa,h2,cond_true,if_pos h3,if_pos h4,clean_eq _ s2,zaa,h5,zaa]
  rw [fields_eq 1 (.inl rfl) P g4 g2 s4,zaa,fields_eq 2 (.inr rfl) H g5 g3 s5,zaa,g6,g7];rfl
 ·subst h2 h3 h4
  have hns:¬(sch=SIP∨sch=SIPS):=by rw [h1];decide
  rw [decide_eq_false hns,cond_false,if_pos (show sch=([116,101,108]:Str)from h1),if_pos rfl,if_pos rfl,if_pos (show(([]:List PP).length:Int)=0 from rfl),dialed_eq _ s2,zaa,h5,zaa]
  rw [fields_eq 1 (.inl rfl) P g4 g2 s4,zaa,fields_eq 2 (.inr rfl) [] g5 g3 s5,zaa,g6,g7];rfl
def awx(n:Nat):UInt8:=at_ [48,49,50,51,52,53,54,55,56,57,65,66,67,68,69,70] (n:Int)
def esc1(k:Int)(c:UInt8):Str:=if inC c k=true then [c]else [37,awx (c.toNat/16),awx (c.toNat%16)]
def aqi(k:Int)(s:Str):Str:=s.flatMap (esc1 k)
theorem shr4:∀c:UInt8,(shr8 c (4:Int)).toNat=c.toNat/16:=aae _ (by decide+kernel)
theorem mask15:∀c:UInt8,(c&&&(15:UInt8)).toNat=c.toNat%16:=aae _ (by decide+kernel)
theorem api(k:Int)(s:Str):(aqi k s).length≤3*s.length:=by
 unfold aqi
 induction s with
 |nil=>exact zao _
 |cons c s ih=>
  rw [zas,zab,zad]
  have:(esc1 k c).length≤3:=by unfold esc1;split<;>simp
  omega
theorem esc_lp(s:Str)(hs:s.length≤4194304)(k:Int)(hk:k=0∨k=1∨k=2)(q:Str):∀(p:Str) (fk:Nat),s=p++q→q.length<fk→
  aiu FU s k fk (aqi k p) (p.length:Int)=some (aqi k s):=by
 induction q with
 |nil=>
  intro p fk h hf
  obtain⟨fk,rfl⟩:=fkx fk
  rw [arx,ald,if_neg (by rw [h];simp),h,zam]
 |cons c q ih=>
  intro p fk h hf
  obtain⟨fk,rfl⟩:=fkx fk
  have hlen:=congrArg zbl h
  simp only [zab,zad]at hlen hf
  have hin:(0:Int)≤(p.length:Int)∧(p.length:Int)<(s.length:Int):=by omega
  have he:at_ s (p.length:Int)=c:=by rw [h];simp [at_]
  have hih:=ih (p++[c]) fk (by rw [h];simp) (by omega)
  have hel:=api k p
  have e2:aqi k (p++[c])=aqi k p++esc1 k c:=by unfold aqi;rw [List.flatMap_append,List.flatMap_singleton]
  rw [show((p++[c]).length:Int)=(p.length:Int)+1 by simp,e2]at hih
  rw [arx,ald,if_pos hin.2,aaa hin,inClass_eq _ k hk,he,zaa]
  unfold esc1 at hih
  cases hc:inC c k with
  |true=>
   rw [hc,if_pos rfl]at hih
   rw [cond_true,aaa hin,aaa (by simp only [zae];omega),aaa (aef _ (by omega) (by omega))]
   exact hih
  |false=>
   rw [hc,if_neg (by decide)]at hih
   have hn:=zby c
   have l16:(([48,49,50,51,52,53,54,55,56,57,65,66,67,68,69,70]:Str).length:Int)=16:=rfl
   rw [cond_false,aaa hin,shr4,mask15,l16,aaa (by omega),aaa hin,aaa (by omega),aaa (by simp only [zad,zaj];omega),aaa (aef _ (by omega) (by omega))]
   exact hih
theorem escape_eq(s:Str)(hs:s.length≤4194304)(k:Int)(hk:k=0∨k=1∨k=2):aen FU s k=some (aqi k s):=by
 unfold aen
 have h:aiu FU s k FU [] (0:Int)=some (aqi k s):=esc_lp s hs k hk s [] FU rfl (by rw [ahy];omega)
 rw [gd_mk (by omega),h,zaa]
theorem esc_hex:∀c:UInt8,hexB (awx (c.toNat/16))=true∧hexB (awx (c.toNat%16))=true∧esV (awx (c.toNat/16)) (awx (c.toNat%16))=c:=aae _ (by decide+kernel)
theorem escH_esc(c:UInt8)(t:Str):escH (37::awx (c.toNat/16)::awx (c.toNat%16)::t)=some c:=by
 obtain⟨h1,h2,h3⟩:=esc_hex c
 unfold escH
 have a0:at_ (37::awx (c.toNat/16)::awx (c.toNat%16)::t) 0=37:=rfl
 have a1:at_ (37::awx (c.toNat/16)::awx (c.toNat%16)::t) 1=awx (c.toNat/16):=rfl
 have a2:at_ (37::awx (c.toNat/16)::awx (c.toNat%16)::t) 2=awx (c.toNat%16):=rfl
 rw [a0,a1,a2,if_pos ⟨by simp,rfl,h1,h2⟩,h3]
theorem esc_back(k:Int)(hk:k=0∨k=1∨k=2):∀(s:Str) (f:Nat),aqn s=true→(aqi k s).length<f→badF k f (aqi k s)=none∧conF k f (aqi k s)=s
 |[],f,_,hf=>by
  obtain⟨f,rfl⟩:∃m,f=m+1:=⟨f-1,by omega⟩
  exact⟨rfl,rfl⟩
 |c::s,f,hc,hf=>by
  obtain⟨f,rfl⟩:∃m,f=m+1:=⟨f-1,by omega⟩
  unfold aqn at hc
  rw [zaR,zai]at hc
  have e:aqi k (c::s)=esc1 k c++aqi k s:=by unfold aqi;rw [zas]
  rw [e]at hf⊢
  unfold esc1 at hf⊢
  cases hi:inC c k with
  |true=>
   rw [hi,if_pos rfl]at hf
   obtain⟨h1,h2⟩:=esc_back k hk s f hc.2 (by simp at hf;omega)
   have a0:at_ (c::aqi k s) 0=c:=rfl
   rw [if_pos rfl,zaM]
   have hne:¬(c::aqi k s=[]):=by simp
   unfold badF conF
   rw [if_neg hne,if_neg hne,a0,hi,if_pos rfl,if_pos rfl,zbx,zbs,h1,h2]
   exact⟨rfl,rfl⟩
  |false=>
   rw [hi,if_neg (by decide)]at hf
   obtain⟨h1,h2⟩:=esc_back k hk s f hc.2 (by simp at hf;omega)
   rw [if_neg (by decide)]
   have hE:=escH_esc c (aqi k s)
   have hcc:aax c=false:=by simpa using hc.1
   show badF k (f+1) (37::awx (c.toNat/16)::awx (c.toNat%16)::aqi k s)=none∧conF k (f+1) (37::awx (c.toNat/16)::awx (c.toNat%16)::aqi k s)=c::s
   have a0:at_ (37::awx (c.toNat/16)::awx (c.toNat%16)::aqi k s) 0=37:=rfl
   have hne:¬(37::awx (c.toNat/16)::awx (c.toNat%16)::aqi k s=[]):=by simp
   unfold badF conF
   rw [if_neg hne,if_neg hne,a0,inC37 k hk,if_neg (by decide),if_neg (by decide),hE]
   simp only
   rw [hcc,if_neg (by decide)]
   simp only [zbx,zbs]
   rw [h1,h2]
   exact⟨rfl,rfl⟩
theorem esc_ok(k:Int)(hk:k=0∨k=1∨k=2)(s:Str)(h:aqn s=true):badP k (aqi k s)=none∧conP k (aqi k s)=s:=esc_back k hk s _ h (zaZ _)
theorem esc_mem(k:Int)(q:UInt8→Bool)(h1:∀c,inC c k=true→q c=true)(h2:q 37=true)(h3:∀c:UInt8,q (awx (c.toNat/16))=true∧q (awx (c.toNat%16))=true)(s:Str):∀c∈aqi k s,q c=true:=by
 intro c hc
 unfold aqi at hc
 rw [List.mem_flatMap]at hc
 obtain⟨x,_,hx⟩:=hc
 unfold esc1 at hx
 split at hx
 ·rename_i hi
  rw [List.mem_singleton.1 hx];exact h1 x hi
 ·simp only [List.mem_cons,List.not_mem_nil,or_false]at hx
  rcases hx with rfl|rfl|rfl
  ·exact h2
  ·exact(h3 x).1
  ·exact(h3 x).2
open List renaming append_nil → zam, eq_nil_of_length_eq_zero → zap, flatMap_cons → zas, length → zbl, length_append → zab, length_cons → zad, length_nil → zaj, length_singleton → zae, mem_cons_of_mem → zaf, mem_cons_self → zak
open Nat renaming le_refl → zao, zero_le → zah
theorem ws_eq(out s:Str)(h:out.length+s.length≤140737488355328):aad FU ((),out) s=some ((s.length:Int),(),(),out++s):=by
 unfold aad
 simp only
 rw [aaa (by omega)]
theorem wb_eq(out:Str)(c:UInt8)(h:out.length+1≤140737488355328):afe FU ((),out) c=some ((),(),out++[c]):=by
 unfold afe
 simp only
 rw [aaa (by simp only [zae];omega)]
def par1(p:PP):Str:=aqi 1 p.1++(bif p.2.2 then 61::aqi 1 p.2.1 else [])
def hd1T(p:PP):Str:=aqi 2 p.1++61::aqi 2 p.2.1
def amt(l:List PP):Str:=l.flatMap fun p=>59::par1 p
def hds2(l:List PP):Str:=l.flatMap fun p=>38::hd1T p
def hdsT:List PP→Str
 |[]=>[]
 |p::r=>63::(hd1T p++hds2 r)
def usT(u:UU):Str:=if u.1=TEL then u.2.1 else if u.2.1=[]then []else aqi 0 u.2.1++[64]
def ptT(n:Int):Str:=if n=0 then []else 58::zat n
def prU(u:UU):Str:=u.1++(58::(usT u++(u.2.2.1++(ptT u.2.2.2.1++(amt u.2.2.2.2.1++hdsT u.2.2.2.2.2)))))
theorem par1_len(p:PP)(h:p.1.length≤4194304∧p.2.1.length≤4194304):(par1 p).length≤25165830:=by
 have h1:=api 1 p.1
 have h2:=api 1 p.2.1
 unfold par1
 rw [zab]
 cases p.2.2 with
 |true=>rw [cond_true,zad];omega
 |false=>rw [cond_false,zaj];omega
theorem hd1_len(p:PP)(h:p.1.length≤4194304∧p.2.1.length≤4194304):(hd1T p).length≤25165830:=by
 have h1:=api 2 p.1
 have h2:=api 2 p.2.1
 unfold hd1T
 rw [zab,zad];omega
theorem print_lp0(u:UU)(hb:∀p∈u.2.2.2.2.1,p.1.length≤4194304∧p.2.1.length≤4194304)(hl:u.2.2.2.2.1.length≤16)(r:List PP):∀(pre:List PP) (fk:Nat) (out:Str),u.2.2.2.2.1=pre++r→r.length<fk→out.length≤100000000+pre.length*30000000→
  ahs FU (u,0) fk (pre.length:Int) () out=some ((),out++amt r):=by
 induction r with
 |nil=>
  intro pre fk out h hf ho
  obtain⟨fk,rfl⟩:=fkx fk
  rw [zam]at h
  rw [atc,alx,if_neg (by rw [h];simp)]
  simp [amt]
 |cons p r ih=>
  intro pre fk out h hf ho
  obtain⟨fk,rfl⟩:=fkx fk
  have hlen:=congrArg zbl h
  simp only [zab,zad]at hlen hf
  have hin:(0:Int)≤(pre.length:Int)∧(pre.length:Int)<(u.2.2.2.2.1.length:Int):=by omega
  have he:el u.2.2.2.2.1 (pre.length:Int)=p:=by rw [h];simp [el]
  have hbp:=hb p (by rw [h];simp)
  have e1:=api 1 p.1
  have e2:=api 1 p.2.1
  have hok:abt ((pre.length:Int)+1):=aef _ (by omega) (by omega)
  have next:∀o:Str,o=out++(59::par1 p)→ahs FU (u,0) fk ((pre.length:Int)+1) () o=some ((),out++amt (p::r)):=by
   intro o ho'
   have hp1:=par1_len p hbp
   have hih:=ih (pre++[p]) fk o (by rw [h];simp) (by omega) (by rw [ho'];simp only [zab,zad,zaj];omega)
   rw [show((pre++[p]).length:Int)=(pre.length:Int)+1 by simp]at hih
   rw [hih,ho']
   simp [amt]
  rw [atc,alx,if_pos hin.2]
  simp only
  rw [aaa hin,aaa hin,he,escape_eq _ hbp.1 1 (.inr (.inl rfl)),zaa,aaa (by simp only [zae];omega),ws_eq _ _ (by simp only [zab,zae];omega),zaa]
  cases hh:p.2.2 with
  |true=>
   rw [cond_true,escape_eq _ hbp.2 1 (.inr (.inl rfl)),zaa,aaa (by simp only [zae];omega),ws_eq _ _ (by simp only [zab,zae];omega),zaa,aaa hok]
   refine next _ ?_
   unfold par1
   rw [hh]
   simp
  |false=>
   rw [cond_false,aaa hok]
   refine next _ ?_
   unfold par1
   rw [hh]
   simp
theorem print_lp1(u:UU)(hb:∀p∈u.2.2.2.2.2,p.1.length≤4194304∧p.2.1.length≤4194304)(hl:u.2.2.2.2.2.length≤16)(r:List PP):∀(pre:List PP) (fk:Nat) (out:Str),u.2.2.2.2.2=pre++r→r.length<fk→out.length≤1000000000+pre.length*30000000→
  agf FU (u,0) fk (pre.length:Int) () out=some ((),out++(if pre=[]then hdsT r else hds2 r)):=by
 induction r with
 |nil=>
  intro pre fk out h hf ho
  obtain⟨fk,rfl⟩:=fkx fk
  rw [zam]at h
  rw [atb,alw,if_neg (by rw [h];simp)]
  split<;>simp [hdsT,hds2]
 |cons p r ih=>
  intro pre fk out h hf ho
  obtain⟨fk,rfl⟩:=fkx fk
  have hlen:=congrArg zbl h
  simp only [zab,zad]at hlen hf
  have hin:(0:Int)≤(pre.length:Int)∧(pre.length:Int)<(u.2.2.2.2.2.length:Int):=by omega
  have he:el u.2.2.2.2.2 (pre.length:Int)=p:=by rw [h];simp [el]
  have hbp:=hb p (by rw [h];simp)
  have e1:=api 2 p.1
  have e2:=api 2 p.2.1
  have hp1:=hd1_len p hbp
  have hok:abt ((pre.length:Int)+1):=aef _ (by omega) (by omega)
  have next:∀(c:UInt8) (o:Str),o=out++(c::hd1T p)→agf FU (u,0) fk ((pre.length:Int)+1) () o=some ((),out++(c::(hd1T p++hds2 r))):=by
   intro c o ho'
   have hih:=ih (pre++[p]) fk o (by rw [h];simp) (by omega) (by rw [ho'];simp only [zab,zad,zaj];omega)
   rw [show((pre++[p]).length:Int)=(pre.length:Int)+1 by simp,if_neg (by simp)]at hih
   rw [hih,ho']
   simp
  have tail:∀(c:UInt8),((aen FU p.1 (2:Int)).bind fun(y972:Str)=>(gd (y972.length+([61]:Str).length≤9223372036854775807)<|((aen FU p.2.1 (2:Int)).bind fun(y978:Str)=>(gd ((y972++([61]:Str)).length+y978.length≤9223372036854775807)<|((aad FU ((),out++[c]) ((y972++([61]:Str))++y978)).bind fun(y986:(Int×Unit×(Unit×(List UInt8))))=>(gd (abt ((pre.length:Int)+(1:Int)))<|(agf FU (u,0) fk ((pre.length:Int)+(1:Int)) () y986.2.2.2)))))))=some ((),out++(c::(hd1T p++hds2 r))):=by
   intro c
   rw [escape_eq _ hbp.1 2 (.inr (.inr rfl)),zaa,aaa (by simp only [zae];omega),escape_eq _ hbp.2 2 (.inr (.inr rfl)),zaa,aaa (by simp only [zab,zae];omega),ws_eq _ _ (by simp only [zab,zae];omega),zaa,aaa hok]
   refine next c _ ?_
   unfold hd1T
   simp
  rw [atb,alw,if_pos hin.2]
  simp only
  rw [aaa hin,aaa hin,he]
  by_cases h0:pre=[]
  ·have hz:(pre.length:Int)=0:=by rw [h0];rfl
   rw [if_pos hz,if_pos h0,wb_eq _ _ (by omega),zaa,zaa]
   simp only
   rw [tail 63];rfl
  ·have hz:¬(pre.length:Int)=0:=fun e=>h0 (zap (by omega))
   rw [if_neg hz,if_neg h0,wb_eq _ _ (by omega),zaa,zaa]
   simp only
   rw [tail 38]
   unfold hds2
   rw [zas];rfl
theorem parsT_len:∀(l:List PP),(∀p∈l,p.1.length≤4194304∧p.2.1.length≤4194304)→(amt l).length≤l.length*30000000
 |[],_=>zao _
 |p::l,h=>by
  have h1:=par1_len p (h p zak)
  have h2:=parsT_len l (fun q hq=>h q (zaf _ hq))
  unfold amt at h2⊢
  rw [zas,zab,zad,zad]
  omega
theorem hds2_len:∀(l:List PP),(∀p∈l,p.1.length≤4194304∧p.2.1.length≤4194304)→(hds2 l).length≤l.length*30000000
 |[],_=>zao _
 |p::l,h=>by
  have h1:=hd1_len p (h p zak)
  have h2:=hds2_len l (fun q hq=>h q (zaf _ hq))
  unfold hds2 at h2⊢
  rw [zas,zab,zad,zad]
  omega
theorem hdsT_len(l:List PP)(h:∀p∈l,p.1.length≤4194304∧p.2.1.length≤4194304):(hdsT l).length≤l.length*30000000:=by
 have:=hds2_len l h
 cases l with
 |nil=>exact zah _
 |cons p l=>
  unfold hds2 at this
  rw [zas,zab,zad]at this
  unfold hdsT hds2
  rw [zad,zab];omega
theorem print_eq(u:UU)(hg:Good u)(hs:Sml u):arp FU u=some (prU u,0):=by
 have hpo:0≤u.2.2.2.1∧u.2.2.2.1≤65535:=by
  rcases hg.sch with⟨_,_,h1,h2,_⟩|⟨_,_,h,_⟩
  ·exact⟨h1,h2⟩
  ·omega
 have hit:=amd u.2.2.2.1 hpo.1 hpo.2
 have hpl:=hg.pl
 have hhl:=hg.hl
 have hus:=api 0 u.2.1
 obtain⟨s1,s2,s3,s4,s5⟩:=hs
 have l1:=parsT_len _ s4
 have l2:=hdsT_len _ s5
 unfold arp
 rw [normal_eq u hg ⟨s1,s2,s3,s4,s5⟩,zaa,if_pos rfl]
 simp only
 rw [aaa (by simp only [zae];omega),ws_eq _ _ (by simp only [zab,zae,zaj];omega),zaa]
 simp only
 have eus:(if u.1=([116,101,108]:Str)then((aad FU ((),([]:Str)++(u.1++([58]:Str))) u.2.1).bind fun(y74:(Int×Unit×(Unit×(List UInt8))))=>some ((),y74.2.2.2))else(if u.2.1=([]:Str)then some ((),([]:Str)++(u.1++([58]:Str)))else((aen FU u.2.1 (0:Int)).bind fun(y85:Str)=>(gd (y85.length+([64]:Str).length≤9223372036854775807)<|((aad FU ((),([]:Str)++(u.1++([58]:Str))) (y85++([64]:Str))).bind fun(y91:(Int×Unit×(Unit×(List UInt8))))=>some ((),y91.2.2.2))))))=some ((),u.1++([58]:Str)++usT u):=by
  unfold usT
  by_cases ht:u.1=TEL
  ·rw [if_pos (show u.1=([116,101,108]:Str)from ht),if_pos ht,ws_eq _ _ (by simp only [zab,zae,zaj];omega),zaa];simp
  ·rw [if_neg (show¬u.1=([116,101,108]:Str)from ht),if_neg ht]
   by_cases hn:u.2.1=[]
   ·rw [if_pos hn,if_pos hn];simp
   ·rw [if_neg hn,if_neg hn,escape_eq _ s2 0 (.inl rfl),zaa,aaa (by simp only [zae];omega),ws_eq _ _ (by simp only [zab,zae,zaj];omega),zaa];simp
 rw [eus,zaa]
 have hul:(usT u).length≤12582913:=by
  unfold usT
  split
  ·omega
  ·split
   ·exact zah _
   ·rw [zab,zae];omega
 simp only
 rw [ws_eq _ _ (by simp only [zab,zae];omega),zaa]
 simp only
 have ept:∀o:Str,o.length≤50000000→(if u.2.2.2.1=(0:Int)then some ((),o)else(gd (abt u.2.2.2.1)<|(gd (([58]:Str).length+(zat u.2.2.2.1).length≤9223372036854775807)<|((aad FU ((),o) (([58]:Str)++(zat u.2.2.2.1))).bind fun(y144:(Int×Unit×(Unit×(List UInt8))))=>some ((),y144.2.2.2)))))=some ((),o++ptT u.2.2.2.1):=by
  intro o ho
  unfold ptT
  by_cases h0:u.2.2.2.1=0
  ·rw [if_pos h0,if_pos h0,zam]
  ·rw [if_neg h0,if_neg h0,aaa (aef _ (by omega) (by omega)),aaa (by simp only [zae];omega),ws_eq _ _ (by simp only [zab,zae];omega),zaa];simp
 rw [ept _ (by simp only [zab,zae];omega),zaa]
 have hptl:(ptT u.2.2.2.1).length≤6:=by
  unfold ptT
  split
  ·exact zah _
  ·rw [zad];omega
 simp only
 have h0:ahs FU (u,0) FU (0:Int) () _=_:=print_lp0 u s4 hpl u.2.2.2.2.1 [] FU (u.1++([58]:Str)++usT u++u.2.2.1++ptT u.2.2.2.1) rfl (by rw [ahy];omega) (by simp only [zab,zae,zaj];omega)
 rw [h0,zaa]
 simp only
 have h1:agf FU (u,0) FU (0:Int) () _=_:=print_lp1 u s5 hhl u.2.2.2.2.2 [] FU (u.1++([58]:Str)++usT u++u.2.2.1++ptT u.2.2.2.1++amt u.2.2.2.2.1) rfl (by rw [ahy];omega) (by simp only [zab,zae,zaj];omega)
 rw [h1,zaa,if_pos rfl]
 simp only
 rw [aaa (by simp only [zab,zae];omega)]
 unfold prU
 simp
open Go.Lib renaming hasPrefix → zba, itoa → zat, trimPrefix → zaw
open List renaming all_cons → zaR, any_cons → zbo, append_assoc → zal, append_nil → zam, cons_append → zay, drop_drop → zbu, drop_left → zbi, eq_nil_of_length_eq_zero → zap, flatMap_cons → zas, length_append → zab, length_cons → zad, length_nil → zaj, mem_cons_self → zak, nil_append → zax, singleton_append → zaM, take_left → zbv
open Nat renaming add_zero → zaP, le_refl → zao
theorem utlA(st s A X Y:Str)(h:s=A++(X++Y))(hX:∀c∈X,asq st c=false)(hY:∀c,Y.head? =some c→asq st c=true):utl st s A.length=A.length+X.length:=by
 subst h
 unfold utl
 rw [zbi,asm _ _ _ (by rw [List.all_eq_true];intro c hc;rw [hX c hc];rfl),ank _ _ (fun c hc=>by rw [hY c hc];rfl),zaP]
theorem len2(A X:Str):A.length+X.length=(A++X).length:=List.length_append.symm
theorem snoc1(A:Str)(c:UInt8):A.length+1=(A++[c]).length:=by rw [zab];rfl
theorem fldNA(X Y:Str)(hX:∀c∈X,(!(c==61))=true)(hY:∀c,Y.head? =some c→c=61):atj (X++Y)=X.length:=by
 unfold atj
 rw [asm _ _ _ (List.all_eq_true.2 hX),ank _ _ (fun c hc=>by rw [hY c hc];rfl),zaP]
theorem e61(k:Int)(hk:k=1∨k=2)(s:Str):∀c∈aqi k s,(!(c==61))=true:=by
 rcases hk with rfl|rfl
 ·exact esc_mem 1 _ (aae _ (by decide+kernel)) (by decide) (aae _ (by decide+kernel)) s
 ·exact esc_mem 2 _ (aae _ (by decide+kernel)) (by decide) (aae _ (by decide+kernel)) s
theorem esc_nil(k:Int)(hk:k=0∨k=1∨k=2)(s:Str)(hc:aqn s=true):aqi k s=[]↔s=[]:=by
 have:=conP_nil k (aqi k s) (esc_ok k hk s hc).1
 rw [(esc_ok k hk s hc).2]at this
 exact this.symm
theorem fld_txt(k:Int)(hk:k=1∨k=2)(l:List PP)(p:PP)(hp:okQ k p)(hh:p.2.2=true):fldP k l (aqi k p.1++61::aqi k p.2.1)=(asb l p.1,p):=by
 have hk3:k=0∨k=1∨k=2:=.inr hk
 obtain⟨q1,q2,q3,q4,q5,q6⟩:=hp
 obtain⟨a1,a2⟩:=esc_ok k hk3 p.1 q3
 obtain⟨b1,b2⟩:=esc_ok k hk3 p.2.1 q4
 have hn:atj (aqi k p.1++61::aqi k p.2.1)=(aqi k p.1).length:=fldNA _ _ (e61 k hk p.1) (fun c hc=>by simpa using hc.symm)
 have hne:¬(aqi k p.1).length=0:=fun e=>q1 ((esc_nil k hk3 p.1 q3).1 (zap e))
 have hd:(aqi k p.1++61::aqi k p.2.1).drop ((aqi k p.1).length+1)=aqi k p.2.1:=by
  rw [←zbu,zbi];rfl
 have hx:¬(aqi k p.2.1=[]∧k=1):=by
  rintro⟨h1,h2⟩
  have h3:=(esc_nil k hk3 p.2.1 q4).1 h1
  have:=q5 h2
  rw [hh,h3]at this
  exact absurd this (by decide)
 unfold fldP
 rw [hn,zbv,a1]
 simp only
 rw [if_neg hne,if_pos (by rw [zab,zad];omega),hd,b1]
 simp only
 rw [if_neg hx,a2,b2,q2]
 have:p=(p.1,p.2.1,true):=by rw [←hh]
 rw [←this]
theorem fld_txt0(l:List PP)(p:PP)(hp:okQ 1 p)(hh:p.2.2=false):fldP 1 l (aqi 1 p.1)=(asb l p.1,p):=by
 have hk3:(1:Int)=0∨(1:Int)=1∨(1:Int)=2:=.inr (.inl rfl)
 obtain⟨q1,q2,q3,q4,q5,q6⟩:=hp
 obtain⟨a1,a2⟩:=esc_ok 1 hk3 p.1 q3
 have hn:atj (aqi 1 p.1)=(aqi 1 p.1).length:=by
  have:=fldNA (aqi 1 p.1) [] (e61 1 (.inl rfl) p.1) (fun c hc=>by simp at hc)
  rw [zam]at this
  exact this
 have hne:¬(aqi 1 p.1).length=0:=fun e=>q1 ((esc_nil 1 hk3 p.1 q3).1 (zap e))
 have hv:p.2.1=[]:=by
  have:=q5 rfl
  rw [hh]at this
  simpa using this.symm
 unfold fldP
 rw [hn,List.take_length,a1]
 simp only
 rw [if_neg hne,if_neg (Nat.lt_irrefl _),if_neg (by decide),a2,q2]
 have:p=(p.1,[],false):=by rw [←hh,←hv]
 rw [←this]
theorem fld_par1(l:List PP)(p:PP)(hp:okQ 1 p):fldP 1 l (par1 p)=(asb l p.1,p):=by
 unfold par1
 cases hh:p.2.2 with
 |true=>rw [cond_true];exact fld_txt 1 (.inl rfl) l p hp hh
 |false=>rw [cond_false,zam];exact fld_txt0 l p hp hh
theorem fld_hd1(l:List PP)(p:PP)(hp:okQ 2 p):fldP 2 l (hd1T p)=(asb l p.1,p):=fld_txt 2 (.inr rfl) l p hp (hp.2.2.2.2.2 rfl)
theorem par1_mem(q:UInt8→Bool)(h1:∀c,inC c 1=true→q c=true)(h2:q 37=true)(h3:∀c:UInt8,q (awx (c.toNat/16))=true∧q (awx (c.toNat%16))=true)(h4:q 61=true)(p:PP):∀c∈par1 p,q c=true:=by
 intro c hc
 unfold par1 at hc
 rcases List.mem_append.1 hc with h|h
 ·exact esc_mem 1 q h1 h2 h3 _ c h
 ·cases hh:p.2.2 with
  |true=>
   rw [hh,cond_true]at h
   rcases List.mem_cons.1 h with h|h
   ·rw [h];exact h4
   ·exact esc_mem 1 q h1 h2 h3 _ c h
  |false=>rw [hh,cond_false]at h;cases h
theorem hd1_mem(q:UInt8→Bool)(h1:∀c,inC c 2=true→q c=true)(h2:q 37=true)(h3:∀c:UInt8,q (awx (c.toNat/16))=true∧q (awx (c.toNat%16))=true)(h4:q 61=true)(p:PP):∀c∈hd1T p,q c=true:=by
 intro c hc
 unfold hd1T at hc
 rcases List.mem_append.1 hc with h|h
 ·exact esc_mem 2 q h1 h2 h3 _ c h
 ·rcases List.mem_cons.1 h with h|h
  ·rw [h];exact h4
  ·exact esc_mem 2 q h1 h2 h3 _ c h
theorem pars_mem(q:UInt8→Bool)(h1:∀c,inC c 1=true→q c=true)(h2:q 37=true)(h3:∀c:UInt8,q (awx (c.toNat/16))=true∧q (awx (c.toNat%16))=true)(h4:q 61=true)(h5:q 59=true)(l:List PP):∀c∈amt l,q c=true:=by
 intro c hc
 unfold amt at hc
 obtain⟨p,_,hp⟩:=List.mem_flatMap.1 hc
 rcases List.mem_cons.1 hp with h|h
 ·rw [h];exact h5
 ·exact par1_mem q h1 h2 h3 h4 p c h
theorem hds2_mem(q:UInt8→Bool)(h1:∀c,inC c 2=true→q c=true)(h2:q 37=true)(h3:∀c:UInt8,q (awx (c.toNat/16))=true∧q (awx (c.toNat%16))=true)(h4:q 61=true)(h5:q 38=true)(l:List PP):∀c∈hds2 l,q c=true:=by
 intro c hc
 unfold hds2 at hc
 obtain⟨p,_,hp⟩:=List.mem_flatMap.1 hc
 rcases List.mem_cons.1 hp with h|h
 ·rw [h];exact h5
 ·exact hd1_mem q h1 h2 h3 h4 p c h
theorem hdsT_mem(q:UInt8→Bool)(h1:∀c,inC c 2=true→q c=true)(h2:q 37=true)(h3:∀c:UInt8,q (awx (c.toNat/16))=true∧q (awx (c.toNat%16))=true)(h4:q 61=true)(h5:q 38=true)(h6:q 63=true)(l:List PP):∀c∈hdsT l,q c=true:=by
 intro c hc
 cases l with
 |nil=>cases hc
 |cons p l=>
  unfold hdsT at hc
  rcases List.mem_cons.1 hc with h|h
  ·rw [h];exact h6
  ·rcases List.mem_append.1 h with h|h
   ·exact hd1_mem q h1 h2 h3 h4 p c h
   ·exact hds2_mem q h1 h2 h3 h4 h5 l c h
theorem pars_head(l:List PP)(Z:Str)(hZ:∀c,Z.head? =some c→c=63):∀c,(amt l++Z).head? =some c→c=59∨c=63:=by
 intro c hc
 cases l with
 |nil=>exact .inr (hZ c hc)
 |cons p l=>
  unfold amt at hc
  rw [zas,zay,zay,List.head?_cons]at hc
  exact .inl (Option.some.inj hc).symm
theorem hds_head(l:List PP):∀c,(hdsT l).head? =some c→c=63:=by
 intro c hc
 cases l with
 |nil=>cases hc
 |cons p l=>unfold hdsT at hc;rw [List.head?_cons]at hc;exact(Option.some.inj hc).symm
theorem hds2_head(l:List PP):∀c,(hds2 l).head? =some c→c=38:=by
 intro c hc
 cases l with
 |nil=>cases hc
 |cons p l=>unfold hds2 at hc;rw [zas,zay,List.head?_cons]at hc;exact(Option.some.inj hc).symm
theorem room_dst(pre r:List PP)(p:PP)(hd:dstN (pre++p::r))(hl:pre.length+(r.length+1)≤16):asb pre p.1=0:=by
 unfold asb
 unfold dstN at hd
 rw [List.pairwise_append]at hd
 rw [if_neg,if_neg (by omega)]
 intro h
 rw [List.any_eq_true]at h
 obtain⟨q,hq,he⟩:=h
 exact hd.2.2 q hq p zak (eq_of_beq he)
theorem plLA(st s:Str)(hst:∀p:PP,∀c∈par1 p,asq st c=false)(h59:asq st 59=true)(Z:Str)(hZ:∀c,Z.head? =some c→c≠59∧asq st c=true):∀(r pre:List PP) (A:Str) (f:Nat),s=A++(amt r++Z)→LS 1 (pre++r)→pre.length+r.length≤16→r.length<f→
  plL st s f A.length pre=(0,A.length+(amt r).length,pre++r)
 |[],pre,A,f,h,hL,hl,hf=>by
  obtain⟨f,rfl⟩:∃m,f=m+1:=⟨f-1,by omega⟩
  have h0:amt []=[]:=rfl
  rw [h0,zax]at h
  have hs:aep s A.length 59=false:=by
   rw [avu s A Z 59 h]
   exact decide_eq_false (fun e=>(hZ 59 e).1 rfl)
  rw [plL,hs,if_neg (by decide),h0,zam];rfl
 |p::r,pre,A,f,h,hL,hl,hf=>by
  obtain⟨f,rfl⟩:∃m,f=m+1:=⟨f-1,by omega⟩
  have he:amt (p::r)=59::(par1 p++amt r):=by unfold amt;rw [zas];rfl
  rw [he]at h⊢
  have h1:s=A++(59::(par1 p++(amt r++Z))):=by rw [h];simp
  have h2:s=(A++[59])++(par1 p++(amt r++Z)):=by rw [h];simp
  have h3:s=((A++[59])++par1 p)++(amt r++Z):=by rw [h];simp
  have hs:aep s A.length 59=true:=by rw [avu s A _ 59 h1];exact decide_eq_true rfl
  have hp:okQ 1 p:=hL.2 p (by simp)
  have hu:utl st s (A.length+1)=(A++[59]).length+(par1 p).length:=by
   rw [snoc1 A 59]
   refine utlA st s (A++[59]) (par1 p) (amt r++Z) h2 (hst p) (fun c hc=> ?_)
   cases r with
   |nil=>exact(hZ c hc).2
   |cons q r=>unfold amt at hc;rw [zas,zay,zay,List.head?_cons]at hc;rw [←Option.some.inj hc];exact h59
  have hsub:sub s ((A.length+1:Nat):Int) (utl st s (A.length+1):Int)=par1 p:=by
   rw [hu,snoc1 A 59]
   exact subA s (A++[59]) (par1 p) _ h2
  have hr:=room_dst pre r p hL.1 (by simp only [zad]at hl;omega)
  have hF:fldP 1 pre (par1 p)=(0,p):=by rw [fld_par1 pre p hp,hr]
  rw [plL,hs,if_pos rfl,hsub,hF,if_pos rfl,hu,len2]
  have:=plLA st s hst h59 Z hZ r (pre++[p]) ((A++[59])++par1 p) f h3 (by rw [zal];exact hL) (by simp only [zab,zad,zaj]at hl⊢;omega) (by simp only [zad]at hf;omega)
  rw [this]
  simp only [zab,zad,zaj,zal,zaM]
  congr 2
  omega
theorem hdStep(s:Str)(p:PP)(c0:UInt8)(Z:Str)(hZ:∀c,Z.head? =some c→c=38)(A:Str)(pre:List PP)(f:Nat)(h:s=A++(c0::(hd1T p++Z)))(hp:okQ 2 p)(hr:asb pre p.1=0):
  hdL s (f+1) A.length pre=hdL s f ((A++[c0])++hd1T p).length (pre++[p]):=by
 have h2:s=(A++[c0])++(hd1T p++Z):=by rw [h];simp
 have h38:∀c∈hd1T p,asq [38] c=false:=by
  intro c hc
  have:=hd1_mem (fun c=> !(asq [38] c)) (aae _ (by decide+kernel)) (by decide) (aae _ (by decide+kernel)) (by decide) p c hc
  simpa using this
 have hu:utl [38] s (A.length+1)=(A++[c0]).length+(hd1T p).length:=by
  rw [snoc1 A c0]
  exact utlA [38] s (A++[c0]) (hd1T p) Z h2 h38 (fun c hc=>by rw [hZ c hc];decide)
 have hsub:sub s ((A.length+1:Nat):Int) (utl [38] s (A.length+1):Int)=hd1T p:=by
  rw [hu,snoc1 A c0]
  exact subA s (A++[c0]) (hd1T p) _ h2
 have hF:fldP 2 pre (hd1T p)=(0,p):=by rw [fld_hd1 pre p hp,hr]
 rw [hdL,if_pos (by rw [h,zab,zad];omega),hsub,hF,if_pos rfl,hu,len2]
theorem hdLA2(s:Str):∀(r pre:List PP) (A:Str) (f:Nat),s=A++hds2 r→LS 2 (pre++r)→pre.length+r.length≤16→r.length<f→
  hdL s f A.length pre=(0,pre++r)
 |[],pre,A,f,h,hL,hl,hf=>by
  obtain⟨f,rfl⟩:∃m,f=m+1:=⟨f-1,by omega⟩
  have h0:hds2 []=[]:=rfl
  rw [h0,zam]at h
  rw [hdL,if_neg (by rw [h];omega),zam]
 |p::r,pre,A,f,h,hL,hl,hf=>by
  obtain⟨f,rfl⟩:∃m,f=m+1:=⟨f-1,by omega⟩
  have he:hds2 (p::r)=38::(hd1T p++hds2 r):=by unfold hds2;rw [zas];rfl
  rw [he]at h
  rw [hdStep s p 38 (hds2 r) (hds2_head r) A pre f h (hL.2 p (by simp)) (room_dst pre r p hL.1 (by simp only [zad]at hl;omega)),
   hdLA2 s r (pre++[p]) ((A++[38])++hd1T p) f (by rw [h];simp) (by rw [zal];exact hL) (by simp only [zab,zad,zaj]at hl⊢;omega) (by simp only [zad]at hf;omega),zal];rfl
theorem hdLA(s:Str)(r:List PP)(A:Str)(f:Nat)(h:s=A++hdsT r)(hL:LS 2 r)(hl:r.length≤16)(hf:r.length<f):hdL s f A.length []=(0,r):=by
 cases r with
 |nil=>
  obtain⟨f,rfl⟩:∃m,f=m+1:=⟨f-1,by omega⟩
  have h0:hdsT []=[]:=rfl
  rw [h0,zam]at h
  rw [hdL,if_neg (by rw [h];omega)]
 |cons p r=>
  obtain⟨f,rfl⟩:∃m,f=m+1:=⟨f-1,by omega⟩
  unfold hdsT at h
  rw [hdStep s p 63 (hds2 r) (hds2_head r) A [] f h (hL.2 p (by simp)) (room_dst [] r p hL.1 (by simp only [zaj,zad]at hl⊢;omega)),
   hdLA2 s r ([]++[p]) ((A++[63])++hd1T p) f (by rw [h];simp) hL (by simp only [zab,zad,zaj]at hl⊢;omega) (by simp only [zad]at hf;omega)];rfl
theorem parsT_ge:∀l:List PP,l.length≤(amt l).length
 |[]=>zao _
 |p::l=>by
  have:=parsT_ge l
  have he:amt (p::l)=59::(par1 p++amt l):=by unfold amt;rw [zas];rfl
  rw [he,zad,zad,zab];omega
theorem hds2_ge:∀l:List PP,l.length≤(hds2 l).length
 |[]=>zao _
 |p::l=>by
  have:=hds2_ge l
  have he:hds2 (p::l)=38::(hd1T p++hds2 l):=by unfold hds2;rw [zas];rfl
  rw [he,zad,zad,zab];omega
theorem hdsT_ge(l:List PP):l.length≤(hdsT l).length:=by
 have:=hds2_ge l
 cases l with
 |nil=>exact zao _
 |cons p l=>
  have he:hds2 (p::l)=38::(hd1T p++hds2 l):=by unfold hds2;rw [zas];rfl
  rw [he]at this
  unfold hdsT
  exact this
theorem restA(st s:Str)(hst:∀p:PP,∀c∈par1 p,asq st c=false)(h59:asq st 59=true)(A sch us h:Str)(port:Int)(P H:List PP)(hs:s=A++(amt P++hdsT H))(h63:H=[]∨asq st 63=true)(hP:LS 1 P)(hH:LS 2 H)(pl:P.length≤16)(hl:H.length≤16)(pi:acl P=P)(hi:acl H=H):
  restP st s sch us h port A.length=(0,(sch,us,h,port,P,H)):=by
 have g1:=parsT_ge P
 have g2:=hdsT_ge H
 have hlen:s.length=A.length+((amt P).length+(hdsT H).length):=by rw [hs,zab,zab]
 have e1:=plLA st s hst h59 (hdsT H) (fun c hc=>by
  have:=hds_head H c hc
  subst this
  refine⟨by decide, ?_⟩
  rcases h63 with h|h
  ·rw [h]at hc;cases hc
  ·exact h) P [] A (s.length+1) hs hP (by simpa using pl) (by omega)
 have e2:=hdLA s H (A++amt P) (s.length+1) (by rw [hs,zal]) hH hl (by omega)
 rw [zab]at e2
 unfold restP
 rw [e1]
 dsimp only
 rw [e2]
 dsimp only
 rw [if_pos rfl,if_pos rfl,zax,pi,hi]
theorem host63(s:Str):∀c∈(acq s).1,(!(c==63))=true:=hostP_q _ (aae _ (by decide+kernel)) (by decide) (by decide) (by decide) (by decide) (by decide) (aae _ (by decide+kernel)) (aae _ (by decide+kernel)) s
theorem host64(s:Str):∀c∈(acq s).1,(!(c==64))=true:=hostP_q _ (aae _ (by decide+kernel)) (by decide) (by decide) (by decide) (by decide) (by decide) (aae _ (by decide+kernel)) (aae _ (by decide+kernel)) s
theorem hEndA(s A H Z:Str)(h:s=A++(H++Z))(hH:acq H=(H,true))(hZ:∀c,Z.head? =some c→c=58∨c=59∨c=63):hEnd s A.length=A.length+H.length:=by
 have hne:H≠[]:=by have:=host_ne' H (by rw [hH]);rw [hH]at this;exact this
 have hsees:=avu s A (H++Z) 91 h
 rw [atr _ _ hne]at hsees
 unfold hEnd
 by_cases h91:H.head? =some 91
 ·rw [hsees,decide_eq_true h91,if_pos rfl]
  have hat:at_ H 0=91:=by
   cases H with
   |nil=>cases h91
   |cons c H=>rw [List.head?_cons]at h91;exact Option.some.inj h91
  have hb:brV H=true:=by unfold brV;rw [hH,hat];simp
  obtain⟨g,e,hg⟩:=brV_form H hb
  have hu:utl [93] s A.length=A.length+(91::g).length:=by
   refine utlA [93] s A (91::g) (93::Z) (by rw [h,e];simp) (fun c hc=> ?_) (fun c hc=>by rw [List.head?_cons]at hc;rw [←Option.some.inj hc];decide)
   rcases List.mem_cons.1 hc with h|h
   ·rw [h];decide
   ·have:=hg c h
    unfold asq
    simp only [zbo,List.any_nil,zbz]
    have h2:¬c=93:=by simpa using this
    exact beq_eq_false_iff_ne.2 (fun e=>h2 e.symm)
  have hHl:H.length=(91::g).length+1:=by rw [e];simp
  have hs:s.length=A.length+(H.length+Z.length):=by rw [h,zab,zab]
  rw [hu];omega
 ·rw [hsees,decide_eq_false h91,if_neg (by decide)]
  refine utlA [58,59,63] s A H Z h (fun c hc=> ?_) (fun c hc=>by rcases hZ c hc with h|h|h<;>subst h<;>decide)
  have hf:=host_form H (by rw [hH])
  have h1:=host_sep H
  have h2:=host63 H
  rw [hH]at hf h1 h2
  have h3:c≠58:=by
   rcases hf with⟨g,e⟩|hf
   ·exfalso
    apply h91
    have e':H=[91]++g++[93]:=e
    rw [e'];rfl
   ·exact(hf c hc).1
  have h1c:=h1 c hc
  have h2c:=h2 c hc
  revert h1c h2c h3
  revert c
  exact fun c _=>aae (fun c=>c≠58→(!sepB c)=true→(!(c==63))=true→asq [58,59,63] c=false) (by decide+kernel) c
theorem portQA(n:Int)(h0:0≤n)(h:n≤65535)(hn:¬n=0):portQ (zat n)=(n,0):=by
 obtain⟨e,_,_,_⟩:=amd n h0 h
 unfold portQ
 rw [e,if_neg (by rintro⟨_,h|h⟩<;>dsimp only at h<;>omega)]
theorem hpA(s A H R:Str)(n:Int)(h:s=A++(H++(ptT n++R)))(hH:acq H=(H,true))(h0:0≤n)(h1:n≤65535)(hR:∀c,R.head? =some c→c=59∨c=63):hpP s A.length=(0,H,n,A.length+H.length+(ptT n).length):=by
 have hE:=hEndA s A H (ptT n++R) h hH (by
  intro c hc
  unfold ptT at hc
  split at hc
  ·exact .inr (hR c hc)
  ·exact .inl (Option.some.inj hc).symm)
 have hsub:sub s (A.length:Int) ((A.length+H.length:Nat):Int)=H:=subA s A H _ h
 have h2:s=(A++H)++(ptT n++R):=by rw [h,zal]
 have hsl:s.length=A.length+(H.length+((ptT n).length+R.length)):=by rw [h];simp only [zab]
 unfold hpP
 rw [hE,hsub,hH]
 simp only
 rw [if_neg (by decide)]
 by_cases hn:n=0
 ·have hp:ptT n=[]:=if_pos hn
  rw [hp,zax]at h2
  have s58:aep s (A.length+H.length) 58=false:=by
   rw [len2,avu s (A++H) R 58 h2]
   exact decide_eq_false (fun e=>by rcases hR 58 e with h|h<;>exact absurd h (by decide))
  rw [s58,if_neg (by decide),hp,hn,if_neg]
  ·rfl
  ·rintro⟨a,b,c⟩
   rw [len2,avu s (A++H) R 59 h2]at b
   rw [len2,avu s (A++H) R 63 h2]at c
   rw [hp,zaj]at hsl
   cases R with
   |nil=>rw [zaj]at hsl;omega
   |cons d R=>
    rcases hR d rfl with h|h
    ·subst h;exact absurd b (by simp)
    ·subst h;exact absurd c (by simp)
 ·have hp:ptT n=58::zat n:=if_neg hn
  obtain⟨_,_,_,hd⟩:=amd n h0 h1
  rw [hp]at h2
  have s58:aep s (A.length+H.length) 58=true:=by
   rw [len2,avu s (A++H) _ 58 h2]
   exact decide_eq_true rfl
  have h3:s=((A++H)++[58])++(zat n++R):=by rw [h2];simp
  have hu:utl [59,63] s (A.length+H.length+1)=((A++H)++[58]).length+(zat n).length:=by
   rw [len2,snoc1 (A++H) 58]
   refine utlA [59,63] s _ (zat n) R h3 (fun c hc=> ?_) (fun c hc=>by rcases hR c hc with h|h<;>subst h<;>decide)
   have:=List.all_eq_true.1 hd c hc
   revert this
   revert c
   exact fun c _=>aae (fun c=>adc c=true→asq [59,63] c=false) (by decide+kernel) c
  have hsub2:sub s ((A.length+H.length+1:Nat):Int) (utl [59,63] s (A.length+H.length+1):Int)=zat n:=by
   rw [hu,len2,snoc1 (A++H) 58]
   exact subA s _ (zat n) R h3
  rw [s58,if_pos rfl,hsub2,portQA n h0 h1 hn,if_pos rfl,hu,hp]
  simp only [zab,zad,zaj]
  congr 3
  omega
theorem plA(s A us H R:Str)(n:Int)(h:s=A++((if us=[]then []else aqi 0 us++[64])++(H++(ptT n++R))))(hH:acq H=(H,true))(h0:0≤n)(h1:n≤65535)(hR:∀c,R.head? =some c→c=59∨c=63)(hR2:∀c∈R,(!(c==64))=true)(hc:aqn us=true):
  plP s A.length=(0,us,H,n,A.length+(if us=[]then []else aqi 0 us++[64]:Str).length+H.length+(ptT n).length):=by
 unfold plP
 by_cases hu:us=[]
 ·rw [if_pos hu]at h⊢
  rw [zax]at h
  have h2:s=A++((H++(ptT n++R))++[]):=by rw [h,zam]
  have hut:utl [64] s A.length=A.length+(H++(ptT n++R)).length:=by
   refine utlA [64] s A _ [] h2 (fun c hc=> ?_) (fun c hc=>by cases hc)
   have hh:=host64 H
   rw [hH]at hh
   have hq:(!(c==64))=true:=by
    rcases List.mem_append.1 hc with h|h
    ·exact hh c h
    ·rcases List.mem_append.1 h with h|h
     ·unfold ptT at h
      split at h
      ·cases h
      ·rcases List.mem_cons.1 h with h|h
       ·rw [h];decide
       ·have:=List.all_eq_true.1 (amd n h0 h1).2.2.2 c h
        revert this
        exact aae (fun c=>adc c=true→(!(c==64))=true) (by decide+kernel) c
     ·exact hR2 c h
   have h2:¬c=64:=by simpa using hq
   unfold asq
   simp only [zbo,List.any_nil,zbz]
   exact beq_eq_false_iff_ne.2 (fun e=>h2 e.symm)
  have hlen:s.length=A.length+(H++(ptT n++R)).length:=by rw [h,zab]
  rw [if_neg (by rw [hut,hlen];exact Nat.lt_irrefl _),hpA s A H R n h hH h0 h1 hR,hu];rfl
 ·rw [if_neg hu]at h⊢
  have h2:s=A++(aqi 0 us++(64::(H++(ptT n++R)))):=by rw [h];simp
  have h3:s=(A++aqi 0 us++[64])++(H++(ptT n++R)):=by rw [h];simp
  have hut:utl [64] s A.length=A.length+(aqi 0 us).length:=by
   refine utlA [64] s A _ _ h2 (fun c hc=> ?_) (fun c hc=>by rw [←Option.some.inj hc];decide)
   have:=esc_mem 0 (fun c=> !(asq [64] c)) (aae _ (by decide+kernel)) (by decide) (aae _ (by decide+kernel)) us c hc
   simpa using this
  have hsub:sub s (A.length:Int) ((A.length+(aqi 0 us).length:Nat):Int)=aqi 0 us:=subA s A _ _ h2
  obtain⟨a1,a2⟩:=esc_ok 0 (.inl rfl) us hc
  have hus:usrP (aqi 0 us)=(0,us):=by
   unfold usrP
   rw [a1]
   simp only
   rw [if_neg (fun e=>hu ((esc_nil 0 (.inl rfl) us hc).1 e)),a2]
  have hlt:A.length+(aqi 0 us).length<s.length:=by rw [h2,zab,zab,zad];omega
  have hoff:A.length+(aqi 0 us).length+1=(A++aqi 0 us++[64]).length:=by simp only [zab,zad,zaj]
  rw [hut,if_pos hlt,hsub,hus,if_pos rfl,hoff,hpA s _ H R n h3 hH h0 h1 hR]
  simp only
  congr 4
  simp only [zab,zad,zaj];omega
theorem keepN_id(sg:Bool):∀d:Str,d.all (dialB sg)=true→avp sg d=some d
 |[],_=>rfl
 |c::d,h=>by
  rw [zaR,zai]at h
  rw [avp,if_pos h.1,keepN_id sg d h.2];rfl
theorem dial_mem(u:Str)(h:dialL u=true):∀c∈u,(!(c==59))=true∧(!(c==62))=true:=by
 unfold dialL at h
 simp only [zai]at h
 have ha:=h.2
 intro c hc
 have hd:∀sg c,dialB sg c=true→(!(c==59))=true∧(!(c==62))=true:=by intro sg;cases sg<;>exact aae _ (by decide+kernel)
 cases u with
 |nil=>cases hc
 |cons a u=>
  by_cases h43:a=43
  ·subst h43
   have e1:zaw (43::u) [43]=u:=by unfold zaw zba;simp
   rw [e1]at ha
   rcases List.mem_cons.1 hc with h|h
   ·rw [h];decide
   ·exact hd _ c (List.all_eq_true.1 ha c h)
  ·have h2:¬(43:UInt8)=a:=fun e=>h43 e.symm
   have e1:zaw (a::u) [43]=a::u:=by unfold zaw zba;simp [h2]
   rw [e1]at ha
   exact hd _ c (List.all_eq_true.1 ha c hc)
theorem dial_ne(u:Str)(h:dialL u=true):u≠[]:=fun e=>by rw [e]at h;exact absurd h (by decide)
theorem telA(s A us Z:Str)(h:s=A++(us++Z))(hZ:∀c,Z.head? =some c→c=59)(hd:dialL us=true):telP s A.length=(0,us)∧utl [59] s A.length=A.length+us.length:=by
 have hne:=dial_ne us hd
 have hut:utl [59] s A.length=A.length+us.length:=by
  refine utlA [59] s A us Z h (fun c hc=> ?_) (fun c hc=>by rw [hZ c hc];decide)
  have h2:¬c=59:=by simpa using (dial_mem us hd c hc).1
  unfold asq
  simp only [zbo,List.any_nil,zbz]
  exact beq_eq_false_iff_ne.2 (fun e=>h2 e.symm)
 refine⟨?_,hut⟩
 unfold telP
 rw [hut]
 have hsees:=avu s A (us++Z) 43 h
 rw [atr _ _ hne]at hsees
 unfold dialL at hd
 simp only [zai,Bool.not_eq_true',decide_eq_false_iff_not,decide_eq_true_eq]at hd
 obtain⟨⟨d1,d2⟩,d3⟩:=hd
 cases us with
 |nil=>exact absurd rfl hne
 |cons a u=>
  by_cases h43:a=43
  ·subst h43
   have e1:zaw (43::u) [43]=u:=by unfold zaw zba;simp
   have e2:zba (43::u) [43]=true:=by unfold zba;simp
   rw [e1]at d1 d2 d3
   rw [e2]at d3
   have h3:s=(A++[43])++(u++Z):=by rw [h];simp
   have hsub:sub s ((A.length+1:Nat):Int) ((A.length+(43::u).length:Nat):Int)=u:=by
    have:=subA s (A++[43]) u Z h3
    rw [←snoc1,show A.length+1+u.length=A.length+(43::u).length by rw [zad];omega]at this
    exact this
   rw [hsees,List.head?_cons,decide_eq_true rfl,if_pos rfl,hsub,keepN_id true u d3]
   dsimp only
   rw [if_neg d1,if_neg (by omega),if_pos rfl]
  ·have h2:¬(43:UInt8)=a:=fun e=>h43 e.symm
   have e1:zaw (a::u) [43]=a::u:=by unfold zaw zba;simp [h2]
   have e2:zba (a::u) [43]=false:=by
    show((43:UInt8)==a&&([]:Str).isPrefixOf u)=false
    rw [beq_eq_false_iff_ne.2 h2];rfl
   rw [e1]at d1 d2 d3
   rw [e2]at d3
   have hsub:sub s (A.length:Int) ((A.length+(a::u).length:Nat):Int)=a::u:=subA s A (a::u) Z h
   rw [hsees,List.head?_cons,decide_eq_false (fun e=>h43 (Option.some.inj e)),if_neg (by decide),hsub,keepN_id false _ d3]
   dsimp only
   rw [if_neg d1,if_neg (by omega),if_neg (by decide)]
theorem par59(st:Str)(hst:st=[59]∨st=[59,63])(p:PP):∀c∈par1 p,asq st c=false:=by
 intro c hc
 have:(!(asq st c))=true:=by
  rcases hst with rfl|rfl
  ·exact par1_mem (fun c=> !(asq [59] c)) (aae _ (by decide+kernel)) (by decide) (aae _ (by decide+kernel)) (by decide) p c hc
  ·exact par1_mem (fun c=> !(asq [59,63] c)) (aae _ (by decide+kernel)) (by decide) (aae _ (by decide+kernel)) (by decide) p c hc
 simpa using this
theorem sch_form(u:UU)(hg:Good u)(R:Str):utl [58] (u.1++(58::R)) 0=u.1.length∧aau ((u.1++(58::R)).take u.1.length)=u.1:=by
 have h:u.1=SIP∨u.1=SIPS∨u.1=TEL:=by
  rcases hg.sch with⟨h|h,_⟩|⟨h,_⟩
  ·exact .inl h
  ·exact .inr (.inl h)
  ·exact .inr (.inr h)
 rw [zbv]
 rcases h with h|h|h<;>rw [h]<;>exact⟨rfl,rfl⟩
theorem parse_back(u:UU)(hg:Good u)(hl:(prU u).length≤1024):aqk (prU u)=(0,u):=by
 obtain⟨sch,us,H,n,P,Q⟩:=u
 have hs:=hg.sch
 obtain⟨c1,c2⟩:=sch_form _ hg (usT (sch,us,H,n,P,Q)++(H++(ptT n++(amt P++hdsT Q))))
 have hp:prU (sch,us,H,n,P,Q)=sch++(58::(usT (sch,us,H,n,P,Q)++(H++(ptT n++(amt P++hdsT Q))))):=rfl
 have hp2:prU (sch,us,H,n,P,Q)=(sch++[58])++(usT (sch,us,H,n,P,Q)++(H++(ptT n++(amt P++hdsT Q)))):=by rw [hp];simp
 rw [←hp]at c1 c2
 dsimp only at c1 c2
 have hcl:utl [58] (prU (sch,us,H,n,P,Q)) 0<(prU (sch,us,H,n,P,Q)).length:=by rw [c1,hp,zab,zad];omega
 unfold aqk
 rw [if_neg (by omega),if_pos hcl,c1,c2,snoc1 sch 58]
 rcases hs with⟨a1,a2,a3,a4,a5⟩|⟨a1,a2,a3,a4,a5⟩
 ·dsimp only at a1 a2 a3 a4 a5
  have hnt:¬sch=TEL:=by rcases a1 with h|h<;>rw [h]<;>decide
  have eu:usT (sch,us,H,n,P,Q)=if us=[]then []else aqi 0 us++[64]:=if_neg hnt
  rw [eu]at hp2
  have hP:=plA _ (sch++[58]) us H (amt P++hdsT Q) n hp2 a2 a3 a4 (pars_head P _ (hds_head Q)) (fun c hc=>by
   rcases List.mem_append.1 hc with h|h
   ·exact pars_mem (fun c=> !(c==64)) (aae _ (by decide+kernel)) (by decide) (aae _ (by decide+kernel)) (by decide) (by decide) P c h
   ·exact hdsT_mem (fun c=> !(c==64)) (aae _ (by decide+kernel)) (by decide) (aae _ (by decide+kernel)) (by decide) (by decide) (by decide) Q c h) a5
  rw [if_pos a1,hP,if_pos rfl]
  simp only
  rw [len2,len2,len2]
  exact restA [59,63] _ (par59 _ (.inr rfl)) (by decide) _ sch us H n P Q (by rw [hp2];simp only [zal]) (.inr (by decide)) hg.ps hg.hs hg.pl hg.hl hg.pi hg.hi
 ·dsimp only at a1 a2 a3 a4 a5
  subst a2
  subst a3
  subst a4
  have hns:¬(sch=SIP∨sch=SIPS):=by rw [a1];decide
  have eu:usT (sch,us,[],0,P,[])=us:=if_pos a1
  have ept:ptT 0=[]:=rfl
  rw [eu,ept,zax,zax]at hp2
  obtain⟨t1,t2⟩:=telA _ (sch++[58]) us (amt P++hdsT []) hp2 (fun c hc=>by
   have hz:hdsT []=[]:=rfl
   rw [hz]at hc
   rcases pars_head P [] (fun c hc=>by cases hc) c hc with h|h
   ·exact h
   ·cases P with
    |nil=>cases hc
    |cons p P=>unfold amt at hc;rw [zas,zay,zay,List.head?_cons]at hc;exact(Option.some.inj hc).symm) a5
  rw [if_neg hns,if_pos a1,t1,if_pos rfl]
  dsimp only
  rw [t2,len2]
  exact restA [59] _ (par59 _ (.inl rfl)) (by decide) ((sch++[58])++us) sch us [] 0 P [] (by rw [hp2];simp only [zal]) (.inl rfl) hg.ps hg.hs hg.pl hg.hl hg.pi hg.hi
open Go.Lib renaming cut → zaW, join → zau
open List renaming length_append → zab, length_cons → zad, length_nil → zaj, length_singleton → zae, map_append → zaV, map_cons → zaI
def szP(l:List PP):Nat:=(l.map fun z=>z.1.length+z.2.1.length).sum
theorem szP_cons(p:PP)(l:List PP):szP (p::l)=p.1.length+p.2.1.length+szP l:=by unfold szP;rw [zaI,List.sum_cons]
theorem szP_perm{l m:List PP}(h:l.Perm m):szP l=szP m:=by unfold szP;exact(h.map _).sum_nat
theorem szP_app(a b:List PP):szP (a++b)=szP a+szP b:=by unfold szP;rw [zaV,List.sum_append]
theorem szP_filter(q:PP→Bool):∀l:List PP,szP (l.filter q)≤szP l
 |[]=>zao _
 |p::l=>by
  have:=szP_filter q l
  rw [List.filter_cons]
  split
  ·rw [szP_cons,szP_cons];omega
  ·rw [szP_cons];omega
theorem txt_len2(p:PP):(txt p).length≤2*p.2.1.length+3:=by
 have:=quoT_len p.2.1
 unfold txt
 cases p.2.2 with
 |false=>simp
 |true=>
  rw [cond_true,zad]
  cases(ahi p.2.1||brV p.2.1)with
  |true=>rw [cond_true];omega
  |false=>rw [cond_false];omega
theorem ppL_len2:∀(r pre:List PP) (t:Str),ppL pre r=some t→t.length≤2*szP r+4*r.length
 |[],_,t,h=>by rw [ppL,Option.some.injEq]at h;subst h;simp
 |p::r,pre,t,h=>by
  rw [ppL]at h
  cases hk:okN pre p&&okV p with
  |false=>rw [hk]at h;cases h
  |true=>
   rw [hk,cond_true,zbb]at h
   obtain⟨u,hu,rfl⟩:=h
   have:=ppL_len2 r _ u hu
   have ht:=txt_len2 p
   rw [szP_cons]
   simp only [zad,zab]
   omega
theorem ppM_len2(l:List PP):(ppM l).1.length≤2*szP l+64:=by
 unfold ppM
 split
 ·simp
 ·cases hp:ppL [] l with
  |none=>simp
  |some t=>
   have:=ppL_len2 l [] t hp
   simp only
   omega
theorem prItem_len(x:Str×List PP):(anl x).1.length≤x.1.length+2*szP x.2+64:=by
 have:=ppM_len2 (acl x.2)
 rw [szP_perm (ajg x.2)]at this
 unfold anl
 split
 ·simp only [zab];omega
 ·simp
theorem grps_len2(s:Str):(ara s).1.length≤250:=by
 unfold ara
 by_cases h39:39<s.length
 ·rw [if_pos h39];simp
 ·rw [if_neg h39]
  have hb:∀x:Str,x.length≤39→(zau (agu x).1 [58]).length≤40*5:=fun x hx=>by
   have h1:=awg x
   have h2:=asp [58] 4 (agu x).1 h1.2
   simp only [zae]at h2
   omega
  split
  ·have:=hb s (by omega);simp only;omega
  ·split
   ·simp
   ·rename_i hn
    simp only [Bool.or_eq_true,Bool.not_eq_true',decide_eq_true_eq,not_or]at hn
    have lA:=asp [58] 4 (ann (zaW s [58,58]).1).1 (gdG_len (grpL0_gd _))
    have lB:=asp [58] 4 (ann (zaW s [58,58]).2.1).1 (gdG_len (grpL0_gd _))
    simp only [zae,zab,zad,zaj]at lA lB⊢
    omega
theorem host_len2(s:Str):(acq s).1.length≤s.length+252:=by
 have:=grps_len2 (sub s 1 ((s.length:Int)-1))
 unfold acq
 split
 ·split
  ·simp only [zab,zae];omega
  ·simp
 ·split
  ·simp
  ·split
   ·unfold aau;simp
   ·simp
theorem szP_vl(ps:List PP)(b:Str):szP (ars ps++aut b)≤szP ps+b.length+6:=by
 have h1:=szP_filter (fun p=> !(p.1==BRN)) ps
 have h2:szP (aut b)≤b.length+6:=by
  unfold aut
  split
  ·exact zah _
  ·rw [szP_cons]
   have:BRN.length=6:=rfl
   have h0:szP []=0:=rfl
   simp only
   omega
 rw [szP_app]
 unfold ars
 omega
theorem prVia_len(x:VV):(aqs x).1.length≤x.1.length+x.2.1.length+2*(szP x.2.2.2.2+x.2.2.2.1.length)+400:=by
 by_cases hc:(acq x.2.1).2=true∧ahi x.1=true∧0≤x.2.2.1∧x.2.2.1≤65535∧(ppM (acl (ars x.2.2.2.2++aut x.2.2.2.1))).2=0
 ·have h1:=ppM_len2 (acl (ars x.2.2.2.2++aut x.2.2.2.1))
  rw [szP_perm (ajg _)]at h1
  have h2:=szP_vl x.2.2.2.2 x.2.2.2.1
  have h3:=host_len2 x.2.1
  have h4:=upperL_len x.1
  have h5:=(amd x.2.2.1 hc.2.2.1 hc.2.2.2.1).2.2.1
  have h6:(apk (acq x.2.1).1 x.2.2.1).length≤(acq x.2.1).1.length+6:=by
   unfold apk
   split
   ·omega
   ·simp only [zab,zae];omega
  have h8:VER.length=8:=rfl
  rw [prVia_yes x hc]
  simp only [zab,zae]
  omega
 ·rw [prVia_no x hc];simp
theorem viaP_len(v:Str):(viaP v).1.2.2.2.2.length≤16:=by
 have hF:∀tr h port rest,(viaF tr h port rest).1.2.2.2.2.length≤16:=by
  intro tr h port rest
  unfold viaF
  split
  ·exact parP_len rest
  ·unfold zVia;simp
 have hz:(zVia,(5:UInt8)).1.2.2.2.2.length≤16:=by unfold zVia;simp
 unfold viaP
 split
 ·exact hz
 ·split
  ·exact hz
  ·split
   ·exact hz
   ·split
    ·exact hz
    ·unfold viaB
     split
     ·exact hz
     ·split
      ·split
       ·exact hF _ _ _ _
       ·unfold zVia;simp
      ·exact hF _ _ _ _
end Go.Wk
