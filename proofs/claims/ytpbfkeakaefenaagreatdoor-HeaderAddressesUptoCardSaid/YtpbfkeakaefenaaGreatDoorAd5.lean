/-
  The law HeaderAddresses (part 5 of 8).
-/
import Derived.Test.YtpbfkeakaefenaaGreatDoorAd4
import Derived.Laws.Bits64
set_option linter.unusedVariables false
set_option linter.unusedSimpArgs false
set_option maxRecDepth 100000
namespace Go.Wk
open Go.Px
open Bool renaming and_eq_true → zas, not_false → zay, not_true → zap, true_and → zax
open Go.Lib renaming cut → zbe, index → zaB
open List renaming all_cons → zaT, append_nil → zan, length → zaZ, length_append → zab, length_cons → zac, length_drop → zaj, length_map → zaF, length_nil → zal, length_singleton → zad, length_take → zaw, map_congr_left → zbq, map_cons → zaE, mem_cons_of_mem → zag, mem_cons_self → zah
open Nat renaming le_trans → zaM
open Option renaming bind_some → zaa
open Sum renaming elim → zaD, elim_inl → zaz
open UInt8 renaming ofNat → zbi
theorem rf_nlab(c:UInt8):((aqk FU c).bind fun(y288:Bool)=>(bif (!y288)then((adn FU c).bind fun(y295:Bool)=>(bif (!y295)then some (!decide (c=(45:UInt8)))else some false))else some false))=some (!labB c):=by
 rw [rf_letter,rf_digit]
 unfold labB
 by_cases h:c=45
 ·subst h;rfl
 ·rw [show(c==45)=false by simpa using h,decide_eq_false h]
  cases azd c<;>cases aby c<;>rfl
theorem label_lp(x:Str)(hx:x.length≤4194304)(l:Str):∀(p:Str) (fk:Nat) (w:Bool),x=p++l→l.length<fk→
  aer FU x fk w (p.length:Int)=some (if l.all labB=true then .inl (w||labW l)else .inr (false,false)):=by
 induction l with
 |nil=>
  intro p fk w h hf
  obtain⟨fk,rfl⟩:=fkx fk
  rw [zan]at h
  rw [awn,anq,if_neg (by rw [h];omega)];simp [labW]
 |cons c l ih=>
  intro p fk w h hf
  obtain⟨fk,rfl⟩:=fkx fk
  have hl:=congrArg zaZ h
  simp only [zab,zac]at hl hf
  have hb:(0:Int)≤(p.length:Int)∧(p.length:Int)<(x.length:Int):=by omega
  have ha:at_ x (p.length:Int)=c:=by rw [h,ayp]
  have ok:aap ((p.length:Int)+1):=abb _ omg omg
  have hih:=ih (p++[c]) fk (w|| !aby c) (by rw [h];simp) omg
  rw [←aqp p c]at hih
  rw [awn,anq,if_pos hb.2]
  simp only [aaa hb,ha]
  rw [rf_nlab,zaa,zaT]
  cases hc:labB c with
  |false=>rw [zay,cond_true,Bool.false_and,if_neg (show¬(false=true)by decide)]
  |true=>
   rw [zap,cond_false,zax]
   have e:(bif w then gd (aap ((p.length:Int)+1)) (aer FU x fk true ((p.length:Int)+1))else(adn FU c).bind fun(y308:Bool)=>gd (aap ((p.length:Int)+1)) (aer FU x fk (!y308) ((p.length:Int)+1)))=aer FU x fk (w|| !aby c) ((p.length:Int)+1):=by
    cases w with
    |true=>rw [cond_true,aaa ok,Bool.true_or]
    |false=>rw [cond_false,rf_digit,zaa,aaa ok,Bool.false_or]
   rw [e,hih]
   simp [labW,Bool.or_assoc]
theorem label_eq(x:Str)(hx:x.length≤4194304):avh FU x=some (if auo x=true then(true,labW x)else(false,false)):=by
 have hlp:=label_lp x hx x [] FU false (by simp) (by rw [adq];omega)
 have hlp':aer FU x FU false (0:Int)=_:=hlp
 unfold avh
 rw [badL_eq x hx,zaa,lab_bad]
 cases hb:badL x with
 |true=>rw [cond_true];simp
 |false=>
  rw [cond_false,zay,zax,hlp',zaa]
  cases x.all labB with
  |true=>simp
  |false=>simp
def numOk(x:Str):Bool:=decide (1≤x.length)&&decide (x.length≤3)&& !(decide (1<x.length)&&(at_ x 0==48))&&x.all aby&&decide (aef x≤255)
theorem num_lp(x:Str)(hx:x.length≤15)(l:Str):∀(p:Str) (fk:Nat),x=p++l→l.length<fk→p.all aby=true→
  agv FU x fk (aef p:Int) (p.length:Int)=some (if l.all aby=true then .inl (aef x:Int)else .inr false):=by
 induction l with
 |nil=>
  intro p fk h hf hp
  obtain⟨fk,rfl⟩:=fkx fk
  rw [zan]at h
  rw [aux,amj,if_neg (by rw [h];omega),h];rfl
 |cons c l ih=>
  intro p fk h hf hp
  obtain⟨fk,rfl⟩:=fkx fk
  have hl:=congrArg zaZ h
  simp only [zab,zac]at hl hf
  have hb:(0:Int)≤(p.length:Int)∧(p.length:Int)<(x.length:Int):=by omega
  have ha:at_ x (p.length:Int)=c:=by rw [h,ayp]
  have hv:=decVal_lt 14 p omg hp
  rw [aux,amj,if_pos hb.2,aaa hb,ha,rf_digit,zaa,zaT]
  cases hc:aby c with
  |false=>rfl
  |true=>
   have hd:=dig_sub c hc
   rw [zap,cond_false,hd.1,aaa (abb _ omg omg),aaa hb,aaa (abb _ omg omg),aaa (abb _ omg omg),zax]
   have e:(10:Int)*(aef p:Int)+((c.toNat-48:Nat):Int)=(aef (p++[c]):Int):=by rw [ato];omega
   rw [e,aqp p c]
   exact ih (p++[c]) fk (by rw [h];simp) omg (by rw [List.all_append,hp];simpa using hc)
theorem num_eq(x:Str):att FU x=some (numOk x):=by
 unfold att numOk
 by_cases h1:(x.length:Int)<1
 ·rw [if_pos h1,show decide (1≤x.length)=false by(rw [decide_eq_false_iff_not];omega)];rfl
 ·rw [if_neg h1,show decide (1≤x.length)=true by(rw [decide_eq_true_eq];omega),zax]
  by_cases h2:3<(x.length:Int)
  ·rw [if_pos h2,show decide (x.length≤3)=false by(rw [decide_eq_false_iff_not];omega)];rfl
  ·rw [if_neg h2,show decide (x.length≤3)=true by(rw [decide_eq_true_eq];omega),zax]
   have hlp:=num_lp x omg x [] FU (by simp) (by rw [adq];omega) rfl
   have hlp':agv FU x FU (0:Int) (0:Int)=_:=hlp
   have fin:((agv FU x FU (0:Int) (0:Int)).bind fun(j59:(Int⊕Bool))=>zaD (fun(v61:Int)=>some (decide (v61≤(255:Int)))) (fun q=>some q) j59)=some (x.all aby&&decide (aef x≤255)):=by
    rw [hlp',zaa]
    cases ha:x.all aby with
    |false=>rfl
    |true=>
     rw [if_pos rfl,zaz,zax]
     congr 1
     rw [Bool.eq_iff_iff];simp;omega
   by_cases h3:1<(x.length:Int)
   ·rw [if_pos h3,aaa omg,zaa,show decide (1<x.length)=true by(rw [decide_eq_true_eq];omega),zax]
    by_cases h4:at_ x 0=48
    ·rw [decide_eq_true h4,show(at_ x 0==48)=true by simpa using h4];rfl
    ·rw [decide_eq_false h4,cond_false,show(at_ x 0==48)=false by simpa using h4,fin];rfl
   ·rw [if_neg h3,zaa,cond_false,show decide (1<x.length)=false by(rw [decide_eq_false_iff_not];omega),fin];rfl
def dg(n:Fin 10):UInt8:=zbi (48+n.val)
theorem dg_of:∀c:UInt8,aby c=true→∃n:Fin 10,c=dg n:=aaz _ (by decide+kernel)
theorem oct1:∀a:Fin 10,octOk [dg a]=numOk [dg a]:=by decide+kernel
theorem oct2:∀a b:Fin 10,octOk [dg a,dg b]=numOk [dg a,dg b]:=by decide+kernel
theorem oct3:∀a b c:Fin 10,octOk [dg a,dg b,dg c]=numOk [dg a,dg b,dg c]:=by decide+kernel
theorem itoa255:∀n:Fin 256,(Lib.itoa (n.val:Int)).length≤3:=by decide+kernel
theorem oct_num(x:Str):octOk x=numOk x:=by
 cases hd:x.all aby with
 |false=>rw [octOk_no1 x hd,numOk,hd];simp
 |true=>
  have hall:=List.all_eq_true.1 hd
  match x,hd,hall with
  |[],_,_=>rfl
  |[a],_,hall=>
   obtain⟨n,rfl⟩:=dg_of a (hall a (by simp))
   exact oct1 n
  |[a,b],_,hall=>
   obtain⟨n,rfl⟩:=dg_of a (hall a (by simp))
   obtain⟨m,rfl⟩:=dg_of b (hall b (by simp))
   exact oct2 n m
  |[a,b,c],_,hall=>
   obtain⟨n,rfl⟩:=dg_of a (hall a (by simp))
   obtain⟨m,rfl⟩:=dg_of b (hall b (by simp))
   obtain⟨k,rfl⟩:=dg_of c (hall c (by simp))
   exact oct3 n m k
  |a::b::c::d::l,hd,_=>
   have h1:numOk (a::b::c::d::l)=false:=by
    unfold numOk
    rw [show decide ((a::b::c::d::l).length≤3)=false by(rw [decide_eq_false_iff_not];simp only [zac];omega)];simp
   rw [h1]
   by_cases hv:aef (a::b::c::d::l)≤255
   ·refine octOk_no2 _ (.inr fun h=> ?_)
    have:=itoa255 ⟨aef (a::b::c::d::l),by omega⟩
    simp only at this
    rw [←h]at this
    simp only [zac]at this
    omega
   ·exact octOk_no2 _ (.inl (.inr omg))
theorem host_lp(X:List Str)(hX:X.length≤4194305)(hx:∀x∈X,x.length≤4194304)(q:List Str):∀(p:List Str) (fk:Nat) (four word:Bool),X=p++q→q.length<fk→
  amx FU X fk four word (p.length:Int)=some (if q.all auo=true then .inl (four&&q.all numOk,word||q.any labW)else .inr ([],false)):=by
 induction q with
 |nil=>
  intro p fk four word h hf
  obtain⟨fk,rfl⟩:=fkx fk
  rw [zan]at h
  rw [axi,aph,if_neg (by rw [h];omega)];simp
 |cons a q ih=>
  intro p fk four word h hf
  obtain⟨fk,rfl⟩:=fkx fk
  have hl:=congrArg zaZ h
  simp only [zab,zac]at hl hf
  have hb:(0:Int)≤(p.length:Int)∧(p.length:Int)<(X.length:Int):=by omega
  have he:el X (p.length:Int)=a:=by rw [h];simp [el]
  have ha:a.length≤4194304:=hx a (by rw [h];simp)
  have ok:aap ((p.length:Int)+1):=abb _ omg omg
  have hih:=fun f w=>ih (p++[a]) fk f w (by rw [h];simp) omg
  rw [show((p++[a]).length:Int)=(p.length:Int)+1 by simp]at hih
  rw [axi,aph,if_pos hb.2,aaa hb,aaa hb,he,label_eq a ha,zaa,zaT]
  cases hg:auo a with
  |false=>rw [if_neg (show¬(false=true)by decide)];simp
  |true=>
   rw [if_pos rfl,zap,cond_false,zax]
   have e:(bif word then some true else some (labW a))=some (word||labW a):=by cases word<;>rfl
   simp only
   rw [e,zaa]
   cases four with
   |true=>rw [cond_true,aaa hb,aaa hb,num_eq,zaa,aaa ok,hih];simp [Bool.or_assoc]
   |false=>rw [cond_false,aaa ok,hih];simp [Bool.or_assoc]
def brkB(s:Str):Bool:=decide (2≤s.length)&&(at_ s 0==91)&&(at_ s ((s.length:Int)-1)==93)
def akx(s:Str):Str×Bool:=
 if brkB s=true then(if(asy (sub s 1 ((s.length:Int)-1))).2=true then([91]++(asy (sub s 1 ((s.length:Int)-1))).1++[93],true)else([],false))
 else if ayd s=true then(s,true)else if namedP s=true then(aab s,true)else([],false)
theorem brk_eq(s:Str)(hs:s.length≤4194304):(if(2:Int)≤(s.length:Int)then(gd (0≤(0:Int)∧(0:Int)<(s.length:Int))<|(if(at_ s (0:Int))=(91:UInt8)then(gd (aap ((s.length:Int)-(1:Int)))<|(gd (0≤((s.length:Int)-(1:Int))∧((s.length:Int)-(1:Int))<(s.length:Int))<|some (decide ((at_ s ((s.length:Int)-(1:Int)))=(93:UInt8)))))else some false))else some false)=some (brkB s):=by
 unfold brkB
 by_cases h1:(2:Int)≤(s.length:Int)
 ·rw [if_pos h1,show decide (2≤s.length)=true by(rw [decide_eq_true_eq];omega),zax,aaa omg]
  by_cases h2:at_ s 0=91
  ·rw [if_pos h2,show(at_ s 0==91)=true by simpa using h2,zax,aaa (abb _ omg omg),aaa omg];rfl
  ·rw [if_neg h2,show(at_ s 0==91)=false by simpa using h2];rfl
 ·rw [if_neg h1,show decide (2≤s.length)=false by(rw [decide_eq_false_iff_not];omega)];rfl
theorem brk_len{s:Str}(h:brkB s=true):2≤s.length:=by
 unfold brkB at h
 simp only [zas,decide_eq_true_eq]at h
 exact h.1.1
theorem grpsP_len(s:Str):(asy s).1.length≤60000000:=by
 unfold asy
 by_cases h39:39<s.length
 ·rw [if_pos h39];simp
 ·rw [if_neg h39]
  have hc:=cut_len s [58,58]
  have j1:=joinL0 (zbe s [58,58]).1 omg
  have j2:=joinL0 (zbe s [58,58]).2.1 omg
  split
  ·have h1:=aym s
   have h2:=asf [58] 4 (afq s).1 h1.2
   simp only [zad]at h2⊢
   omega
  ·split
   ·simp
   ·simp only [zab,zac,zal];omega
theorem adHost_eq(s:Str)(hs:s.length≤4194304):age FU s=some (akx s):=by
 unfold age akx
 rw [brk_eq s hs,zaa]
 cases hb:brkB s with
 |true=>
  have h2:=brk_len hb
  have hl:=grpsP_len (sub s 1 ((s.length:Int)-1))
  rw [cond_true,aaa (abb _ omg omg),aaa omg,adGroups_eq,zaa,if_pos rfl]
  cases hg:(asy (sub s 1 ((s.length:Int)-1))).2 with
  |false=>rfl
  |true=>rw [zap,cond_false,aaa (by simp only [zad];omega),aaa (by simp only [zab,zad];omega),if_pos rfl]
 |false=>
  rw [cond_false,adNumbers_eq,zaa,if_neg (show¬(false=true)by decide)]
  cases hn:ayd s with
  |true=>rfl
  |false=>
   rw [cond_false,adNamed_eq s hs,zaa,if_neg (show¬(false=true)by decide)]
   cases hm:namedP s with
   |true=>rw [cond_true,aox s hs];rfl
   |false=>rfl
theorem sum_le(l:List Str)(m:Nat)(h:∀x∈l,x.length≤m):(l.map zaZ).sum≤m*l.length:=by
 induction l with
 |nil=>simp
 |cons a l ih=>
  have h1:=h a zah
  have h2:=ih fun x hx=>h x (zag _ hx)
  rw [zaE,List.sum_cons,zac,Nat.mul_succ]
  omega
theorem grpOk_len(g:Str)(h:aob g=true):g.length≤4:=by
 unfold aob at h
 simp only [zas,decide_eq_true_eq]at h
 exact h.1.2
theorem grpList_lens(x:Str)(h:(afq x).2=true):x.length+1≤5*(afq x).1.length:=by
 cases ha:(spl 58 x).all aob with
 |false=>rw [grpList_no x ha]at h;cases h
 |true=>
  rw [grpList_yes x ha,zaF]
  have h1:=sum_le (spl 58 x) 4 fun y hy=>grpOk_len y (List.all_eq_true.1 ha y hy)
  have h2:=spl_lens 58 x
  omega
theorem grpL0_lens(x:Str)(h:(afz x).2=true):x.length≤5*(afz x).1.length:=by
 by_cases hx:x=[]
 ·subst hx;simp
 ·rw [ayn x hx]at h⊢
  have:=grpList_lens x h
  omega
theorem index2_bd:∀s:Str,zaB s [58,58]≠-1→zaB s [58,58]+2≤(s.length:Int)
 |[],h=>absurd rfl h
 |b::l,h=>by
  rw [atm]at h⊢
  by_cases hp:([58,58]:Str).isPrefixOf (b::l)=true
  ·rw [if_pos hp]
   cases l with
   |nil=>simp [List.isPrefixOf]at hp
   |cons c l=>simp only [zac];omega
  ·rw [if_neg hp]at h⊢
   by_cases hi:zaB l [58,58]= -1
   ·rw [if_pos hi]at h;exact absurd rfl h
   ·have:=index2_bd l hi
    rw [if_neg hi,zac];omega
theorem six_grps(s:Str):(sixQ s).2=(asy s).2∧((asy s).2=true→(sixQ s).1=(asy s).1):=by
 unfold sixQ asy
 by_cases h39:39<s.length
 ·rw [if_pos h39]
  refine⟨?_,fun h=>by cases h⟩
  have hne:s≠[]:=by intro e;subst e;simp at h39
  split
  ·rw [ayn s hne]
   cases h2:(afq s).2 with
   |false=>rfl
   |true=>
    have:=grpList_lens s h2
    rw [zax,decide_eq_false_iff_not]
    omega
  ·rename_i hcut
   unfold sixP
   have hi:zaB s [58,58]≠-1:=by
    intro e;rw [cut_eq,if_pos e]at hcut;exact hcut rfl
   have hbd:=index2_bd s hi
   have hge:=index_ge [58,58] s
   have h1:(zbe s [58,58]).1.length+2+(zbe s [58,58]).2.1.length=s.length:=by
    rw [cut_eq,if_neg hi]
    simp only [zaw,zaj,zac,zal]
    omega
   cases ha:(afz (zbe s [58,58]).1).2 with
   |false=>rfl
   |true=>
    cases hb:(afz (zbe s [58,58]).2.1).2 with
    |false=>rfl
    |true=>
     have la:=grpL0_lens _ ha
     have lb:=grpL0_lens _ hb
     rw [decide_eq_true omg];rfl
 ·rw [if_neg h39]
  split
  ·by_cases hs:s=[]
   ·subst hs
    exact⟨rfl,fun h=>by cases h⟩
   ·rw [ayn s hs];exact⟨rfl,fun _=>rfl⟩
  ·unfold sixP
   split<;>exact⟨rfl,fun _=>rfl⟩
theorem spl_all(c:UInt8)(p:UInt8→Bool):∀s:Str,(∀x∈spl c s,x.all p=true)→∀b∈s,p b=true∨b=c
 |[],_,b,hb=>by simp at hb
 |d::l,h,b,hb=>by
  by_cases hd:d=c
  ·subst hd
   rw [arb]at h
   rcases List.mem_cons.1 hb with rfl|hb
   ·exact .inr rfl
   ·exact spl_all d p l (fun x hx=>h x (zag _ hx)) b hb
  ·rw [aof c d l hd]at h
   cases hx:spl c l with
   |nil=>exact absurd hx (spl_ne c l)
   |cons y r=>
    rw [hx]at h
    have h0:=h ([d]++y) zah
    rw [List.all_append,zas]at h0
    rcases List.mem_cons.1 hb with rfl|hb
    ·left;simpa using h0.1
    ·refine spl_all c p l (fun x hx'=> ?_) b hb
     rw [hx]at hx'
     rcases List.mem_cons.1 hx' with rfl|hx'
     ·exact h0.2
     ·exact h x (zag _ hx')
theorem dig_low:∀c:UInt8,aby c=true→aft c=c:=aaz _ (by decide+kernel)
theorem dig_lab:∀c:UInt8,aby c=true→labB c=true∧c≠45:=aaz _ (by decide+kernel)
theorem num_parts(x:Str)(h:numOk x=true):1≤x.length∧x.length≤3∧x.all aby=true:=by
 unfold numOk at h
 simp only [zas,decide_eq_true_eq]at h
 exact⟨h.1.1.1.1,h.1.1.1.2,h.1.2⟩
theorem at_mem(x:Str)(k:Nat)(h:k<x.length):at_ x (k:Int)∈x:=by
 simp [at_,h]
theorem num_lab(x:Str)(h:numOk x=true):auo x=true:=by
 obtain⟨h1,h2,h3⟩:=num_parts x h
 have hall:=List.all_eq_true.1 h3
 have e0:=(dig_lab _ (hall _ (at_mem x 0 omg))).2
 have e1:=(dig_lab _ (hall _ (at_mem x (x.length-1) omg))).2
 have ei:(((x.length-1:Nat)):Int)=(x.length:Int)-1:=by omega
 rw [ei]at e1
 unfold auo
 rw [decide_eq_true h1,decide_eq_true omg,show(at_ x 0==45)=false by simpa using e0,show(at_ x ((x.length:Int)-1)==45)=false by simpa using e1,List.all_eq_true.2 fun c hc=>(dig_lab c (hall c hc)).1]
 rfl
theorem lowerL_id(s:Str)(h:∀b∈s,aft b=b):aab s=s:=by
 unfold aab
 conv=>rhs;rw [←List.map_id s]
 exact zbq fun b hb=>h b hb
theorem rfHost_eq(s:Str)(hs:s.length≤4194304):art FU s=some (akx s):=by
 unfold art akx
 rw [brk_eq s hs,zaa]
 cases hb:brkB s with
 |true=>
  have h2:=brk_len hb
  have hl:=grpsP_len (sub s 1 ((s.length:Int)-1))
  have hsl:(sub s 1 ((s.length:Int)-1)).length≤4194304:=by rw [ajd];omega
  obtain⟨g1,g2⟩:=six_grps (sub s 1 ((s.length:Int)-1))
  rw [cond_true,aaa (abb _ omg omg),aaa omg,six_eq _ hsl,zaa,if_pos rfl,g1]
  cases hg:(asy (sub s 1 ((s.length:Int)-1))).2 with
  |false=>rfl
  |true=>rw [zap,cond_false,g2 hg,aaa (by simp only [zad];omega),aaa (by simp only [zab,zad];omega),if_pos rfl]
 |false=>
  have hsum:=ayy 46 s
  have hlp:=host_lp (spl 46 s) omg (fun x hx=>zaM (hsum.2 x hx) hs) (spl 46 s) [] FU (decide (((spl 46 s).length:Int)=4)) false (by simp) (by rw [adq];omega)
  have hlp':amx FU (spl 46 s) FU (decide (((spl 46 s).length:Int)=4)) false (0:Int)=_:=hlp
  rw [cond_false,pieces_eq s 46 hs,zaa,hlp',zaa,if_neg (show¬(false=true)by decide),afy s omg]
  have hlens:=spl_lens 46 s
  cases hall:(spl 46 s).all auo with
  |false=>
   have hn:ayd s=false:=by
    cases hn:ayd s with
    |false=>rfl
    |true=>
     exfalso
     unfold ayd at hn
     simp only [zas]at hn
     have:(spl 46 s).all auo=true:=List.all_eq_true.2 fun x hx=>num_lab x (by rw [←oct_num];exact List.all_eq_true.1 hn.1.2 x hx)
     rw [hall]at this;cases this
   have hm:namedP s=false:=by unfold namedP;rw [hall];simp
   rw [hn,hm];rfl
  |true=>
   rw [if_pos rfl,zaz,Bool.false_or]
   simp only
   cases hn:ayd s with
   |true=>
    have hn':=hn
    unfold ayd at hn'
    simp only [zas,decide_eq_true_eq]at hn'
    have hnum:(spl 46 s).all numOk=true:=List.all_eq_true.2 fun x hx=>by rw [←oct_num];exact List.all_eq_true.1 hn'.1.2 x hx
    have hlow:aab s=s:=lowerL_id s fun b hb'=>by
     rcases spl_all 46 aby s (fun x hx=>(num_parts x (List.all_eq_true.1 hnum x hx)).2.2) b hb' with h|h
     ·exact dig_low b h
     ·subst h;rfl
    rw [hnum,decide_eq_true omg,if_neg omg,hlow]
    cases(spl 46 s).any labW<;>rfl
   |false=>
    have hfour:(decide (((spl 46 s).length:Int)=4)&&(spl 46 s).all numOk)=false:=by
     cases hf:(decide (((spl 46 s).length:Int)=4)&&(spl 46 s).all numOk)with
     |false=>rfl
     |true=>
      exfalso
      simp only [zas,decide_eq_true_eq]at hf
      have hl:=sum_le (spl 46 s) 3 fun x hx=>(num_parts x (List.all_eq_true.1 hf.2 x hx)).2.1
      have hoct:(spl 46 s).all octOk=true:=List.all_eq_true.2 fun x hx=>by rw [oct_num];exact List.all_eq_true.1 hf.2 x hx
      have:ayd s=true:=by
       unfold ayd
       rw [hoct,decide_eq_true (show s.length≤15 by omega),decide_eq_true (show(spl 46 s).length=4 by omega)];rfl
      rw [hn]at this;cases this
    have h1:1≤s.length:=by
     cases s with
     |nil=>simp [spl,auo]at hall
     |cons _ _=>simp
    rw [hfour,if_neg (show¬(false=true)by decide)]
    unfold namedP
    rw [hall,decide_eq_true h1,zax,Bool.and_true]
    by_cases h2:255<(s.length:Int)
    ·rw [if_pos h2,decide_eq_false (show¬s.length≤255 by omega)];rfl
    ·rw [if_neg h2,decide_eq_true (show s.length≤255 by omega),zax]
     cases(spl 46 s).any labW<;>rfl
theorem hostP_len(s:Str):(akx s).1.length≤60000002+s.length:=by
 have:=grpsP_len (sub s 1 ((s.length:Int)-1))
 unfold akx
 split
 ·split
  ·simp only [zab,zad];omega
  ·simp
 ·split
  ·show s.length≤_;omega
  ·split
   ·simp [aab]
   ·simp
open Go.Lib renaming indexAny → zaX
open List renaming drop_drop → zbo, drop_length → zbl, eq_nil_of_length_eq_zero → zao, length_append → zab, length_cons → zac, length_drop → zaj, length_nil → zal, length_singleton → zad
open Nat renaming le_refl → zam
open Sum renaming elim_inl → zaz, elim_inr → zaR
theorem step_eq(s:Str)(hs:s.length≤4194304)(k:Nat):axj FU s (k:Int)=some (if s.length≤k then(0,(s.length:Int),6)else if abf (at_ s (k:Int))=true then(0,(k:Int),5)else if at_ s (k:Int)=92 then(if s.length≤k+1 then(0,(s.length:Int),6)else if asi (at_ s ((k+1:Nat):Int))=true then(2,0,0)else(0,(k:Int),5))else(1,0,0)):=by
 unfold axj
 by_cases h:s.length≤k
 ·rw [if_pos omg,if_pos h]
 ·rw [if_neg omg,if_neg h,gok,azb,zaa]
  cases hc:abf (at_ s (k:Int))with
  |true=>rw [cond_true,if_pos rfl]
  |false=>
   rw [cond_false,if_neg (show¬(false=true)by decide),gok]
   by_cases h9:at_ s (k:Int)=92
   ·rw [if_pos h9,if_pos h9,gok]
    by_cases h1:s.length≤k+1
    ·rw [if_pos omg,if_pos h1]
    ·rw [if_neg omg,if_neg h1,gok,aaa omg,abl]
     have he:asi (at_ s ((k+1:Nat):Int))=(decide (32≤at_ s ((k+1:Nat):Int))&&decide (at_ s ((k+1:Nat):Int)≤126)):=rfl
     by_cases ha:at_ s ((k+1:Nat):Int)<32
     ·rw [if_pos ha,zaa,cond_true,he,decide_eq_false (UInt8.not_le.2 ha)];rfl
     ·rw [if_neg ha,gok,aaa omg,zaa,he,decide_eq_true (UInt8.not_lt.1 ha),zax]
      by_cases hb:126<at_ s ((k+1:Nat):Int)
      ·rw [decide_eq_true hb,cond_true,decide_eq_false (UInt8.not_le.2 hb)];rfl
      ·rw [decide_eq_false hb,cond_false,decide_eq_true (UInt8.not_lt.1 hb)];rfl
   ·rw [if_neg h9,if_neg h9]
theorem ctl34:abf 34=false:=by decide
theorem ctl92:abf 92=false:=by decide
theorem rfUnq_lp(s:Str)(hs:s.length≤4194304)(n:Nat):∀(k fk:Nat) (acc:Str),s.length-k≤n→n<fk→k≤s.length→acc.length≤k→
  amo FU s fk acc (k:Int)=some (unqL (s.drop k) k acc):=by
 have f6:¬((6:UInt8)=0):=by decide
 have f5:¬((5:UInt8)=0):=by decide
 have ff:¬(false=true):=by decide
 induction n with
 |zero=>
  intro k fk acc hn hf hk ha
  obtain⟨fk,rfl⟩:=fkx fk
  obtain rfl:k=s.length:=by omega
  have st:=step_eq s hs s.length
  rw [if_pos (zam _)]at st
  rw [acn,abx,st,zaa]
  simp only
  rw [if_neg f6,zbl];rfl
 |succ n ih=>
  intro k fk acc hn hf hk ha
  obtain⟨fk,rfl⟩:=fkx fk
  have st:=step_eq s hs k
  by_cases hl:k<s.length
  ·rw [if_neg (show¬s.length≤k by omega)]at st
   rw [aln s k hl,unqL_cons]
   by_cases h1:at_ s (k:Int)=34
   ·rw [h1,ctl34,if_neg ff,if_neg (show¬((34:UInt8)=92)by decide)]at st
    rw [acn,abx,st,zaa]
    simp only
    rw [if_pos trivial,if_pos trivial,aaa omg,zaa,decide_eq_true h1,cond_true,gok,if_pos h1];rfl
   ·rw [if_neg h1]
    by_cases h2:at_ s (k:Int)=92
    ·rw [h2,ctl92,if_neg ff,if_pos rfl]at st
     rw [if_pos h2]
     by_cases h3:s.length≤k+1
     ·have e:s.drop (k+1)=[]:=(axd s (k+1)).2 h3
      have e2:s.length=k+1:=by omega
      rw [if_pos h3]at st
      rw [acn,abx,st,zaa]
      simp only
      rw [if_neg f6,if_pos e,e2]
     ·rw [if_neg h3]at st
      rw [if_neg (fun h=>h3 ((axd s (k+1)).1 h)),at_drop1]
      cases h4:asi (at_ s ((k+1:Nat):Int))with
      |false=>
       rw [h4,if_neg ff]at st
       rw [acn,abx,st,zaa]
       simp only
       rw [if_neg f5,if_neg ff]
      |true=>
       have ei:(k:Int)+2-1=((k+1:Nat):Int):=by omega
       have ej:(k:Int)+2=((k+2:Nat):Int):=by omega
       rw [h4,if_pos rfl]at st
       rw [acn,abx,st,zaa]
       simp only
       rw [if_pos trivial,if_neg (show¬((2:Int)=1)by decide),zaa,cond_false,gok,gok,ei,aaa omg,gok,gok,ej,ih (k+2) fk _ omg omg omg (by simp;omega),zbo,if_pos trivial]
    ·rw [if_neg h2]
     cases h4:abf (at_ s (k:Int))with
     |true=>
      rw [h4,if_pos rfl]at st
      rw [acn,abx,st,zaa]
      simp only
      rw [if_neg f5,if_pos trivial]
     |false=>
      have ei:(k:Int)+1-1=(k:Int):=by omega
      rw [h4,if_neg ff,if_neg h2]at st
      rw [acn,abx,st,zaa]
      simp only
      rw [if_pos trivial,if_pos trivial,aaa omg,zaa,decide_eq_false h1,cond_false,if_neg ff,gok,gok,ei,aaa omg,gok,gok,abl,ih (k+1) fk _ omg omg omg (by simp;omega)]
  ·obtain rfl:k=s.length:=by omega
   rw [if_pos (zam _)]at st
   rw [acn,abx,st,zaa]
   simp only
   rw [if_neg f6,zbl];rfl
theorem rfUnquote_eq(s:Str)(hs:s.length≤4194304)(i:Int):aon FU s i=some (ara s i):=by
 unfold aon azv ara
 by_cases h1:i<0
 ·rw [if_pos h1,if_pos (show i<0∨(s.length:Int)<i from .inl h1)];rfl
 ·rw [if_neg h1,zaa]
  by_cases h2:(s.length:Int)<i
  ·rw [decide_eq_true h2,if_pos (show i<0∨(s.length:Int)<i from .inr h2)];rfl
  ·rw [decide_eq_false h2,cond_false,if_neg (show¬(i<0∨(s.length:Int)<i)by omega)]
   by_cases h3:i=(s.length:Int)
   ·rw [if_pos h3,if_pos (show i=(s.length:Int)∨at_ s i≠34 from .inl h3)];rfl
   ·rw [if_neg h3,gok,zaa]
    by_cases h4:at_ s i=34
    ·rw [decide_eq_true h4,zap,cond_false,if_neg (by simp [h3,h4]),zaa,if_pos rfl,gok]
     obtain⟨k,rfl⟩:∃k:Nat,i=(k:Int):=⟨i.toNat,by omega⟩
     exact rfUnq_lp s hs s.length (k+1) FU [] omg (by rw [adq];omega) omg (by simp)
    ·rw [decide_eq_false h4,if_pos (show i=(s.length:Int)∨at_ s i≠34 from .inr h4)];rfl
theorem unqL_bd(n:Nat):∀(l:Str) (k:Nat) (acc:Str),l.length≤n→(unqL l k acc).1.length≤acc.length+l.length∧((unqL l k acc).2.2=0→(k:Int)+1≤(unqL l k acc).2.1∧(unqL l k acc).2.1≤((k+l.length:Nat):Int)):=by
 induction n with
 |zero=>
  intro l k acc hl
  obtain rfl:l=[]:=zao omg
  exact⟨by simp [unqL],fun h=>absurd h (show¬((6:UInt8)=0)by decide)⟩
 |succ n ih=>
  intro l k acc hl
  cases l with
  |nil=>exact⟨by simp [unqL],fun h=>absurd h (show¬((6:UInt8)=0)by decide)⟩
  |cons c l=>
   simp only [zac]at hl
   rw [unqL_cons]
   by_cases h1:c=34
   ·rw [if_pos h1];exact⟨by simp,fun _=>⟨by simp,by simp only [zac];omega⟩⟩
   ·rw [if_neg h1]
    by_cases h2:c=92
    ·rw [if_pos h2]
     by_cases h3:l=[]
     ·rw [if_pos h3];exact⟨by simp,fun h=>absurd h (show¬((6:UInt8)=0)by decide)⟩
     ·rw [if_neg h3]
      have hpos:0<l.length:=List.length_pos_iff.2 h3
      cases h4:asi (at_ l 0)with
      |true=>
       rw [if_pos rfl]
       have:=ih (l.drop 1) (k+2) (acc++[at_ l 0]) (by rw [zaj];omega)
       rw [zab,zad,zaj]at this
       exact⟨by simp only [zac];omega,fun h=>⟨by have:=(this.2 h).1;omega,by have:=(this.2 h).2;simp only [zac];omega⟩⟩
      |false=>rw [if_neg (by decide)];exact⟨by simp,fun h=>absurd h (show¬((5:UInt8)=0)by decide)⟩
    ·rw [if_neg h2]
     cases h4:abf c with
     |true=>rw [if_pos rfl];exact⟨by simp,fun h=>absurd h (show¬((5:UInt8)=0)by decide)⟩
     |false=>
      rw [if_neg (by decide)]
      have:=ih l (k+1) (acc++[c]) omg
      rw [zab,zad]at this
      exact⟨by simp only [zac];omega,fun h=>⟨by have:=(this.2 h).1;omega,by have:=(this.2 h).2;simp only [zac];omega⟩⟩
theorem unqP8_bd(s:Str)(k:Nat)(h34:at_ s (k:Int)=34)(hk:k<s.length):(ara s (k:Int)).1.length≤s.length∧((ara s (k:Int)).2.2=0→(k:Int)+2≤(ara s (k:Int)).2.1∧(ara s (k:Int)).2.1≤(s.length:Int)):=by
 unfold ara
 rw [if_neg omg,if_neg (by rintro(h|h);omega;exact h h34)]
 have e:((k:Int).toNat+1)=k+1:=by omega
 rw [e]
 have:=unqL_bd _ (s.drop (k+1)) (k+1) [] (zam _)
 rw [zaj,zal]at this
 exact⟨by omega,fun h=>⟨by have:=(this.2 h).1;omega,by have:=(this.2 h).2;omega⟩⟩
theorem arq(s:Str)(hs:s.length≤4194304)(i:Int):abn FU (s,i)=some (s,((aai aae s i:Nat):Int)):=by
 unfold abn;simp only;rw [blanks_eq s hs];rfl
theorem ended_eq(s:Str)(i:Int):ach FU (s,i)=some (decide ((s.length:Int)≤i)):=rfl
def aax(s:Str)(k:Nat)(b:UInt8):Bool:=decide (k<s.length)&&(at_ s (k:Int)==b)
theorem apr(s:Str)(k:Nat)(b:UInt8):aad FU (s,(k:Int)) b=some (aax s k b):=by
 unfold aad aax
 rw [ended_eq,zaa]
 by_cases h:k<s.length
 ·rw [decide_eq_false (show¬(s.length:Int)≤(k:Int)by omega),zay,cond_true,aaa (by simp only;omega),decide_eq_true h];rfl
 ·rw [decide_eq_true (show(s.length:Int)≤(k:Int)by omega),decide_eq_false h];rfl
theorem tokEndP_eq(s:Str)(hs:s.length≤4194304)(i:Int):afo FU s i=some ((aai aaq s i:Nat):Int):=by
 unfold afo;rw [skipTok_eq s omg];rfl
theorem aey(p:UInt8→Bool)(s:Str)(k:Nat)(h:k≤s.length):k≤aai p s (k:Int):=by
 unfold aai;rw [asl k _ h];omega
theorem token2_eq(s:Str)(hs:s.length≤4194304)(k:Nat)(hk:k≤s.length):ady FU (s,(k:Int))=some (sub s (k:Int) ((aai aaq s (k:Int):Nat):Int),(s,((aai aaq s (k:Int):Nat):Int))):=by
 have h1:=aey aaq s k hk
 have h2:=abg aaq s (k:Int)
 unfold ady
 simp only
 rw [tokEndP_eq s hs,zaa,aaa omg]
theorem ath(s:Str)(a b:Nat)(h:b≤s.length)(hab:a≤b):sub s (a:Int) (b:Int)=[]↔b=a:=by
 have:=ajd s (a:Int) (b:Int)
 constructor
 ·intro h';rw [h']at this;simp at this;omega
 ·intro h';apply zao;rw [this];omega
theorem span_not_ixb(c:UInt8)(l:Str):(if(0:Int)≤ixb (·==c) l then ixb (·==c) l else(l.length:Int))=(alj (fun b=> !(b==c)) l:Int):=by
 rcases ixb_spec (·==c) l with⟨h1,h2⟩|⟨h1,h2,h3⟩
 ·rw [if_neg omg,h2]
 ·rw [if_pos h1,h3]
theorem contains1(c:UInt8):(fun b=>([c]:Str).contains b)=(·==c):=by
 funext b
 simp [List.contains_cons]
 rfl
theorem until1_eq(s:Str)(hs:s.length≤4194304)(k:Nat)(hk:k≤s.length)(c:UInt8)(hc:c.toNat<128):aak FU s (k:Int) [c]=some ((k+alj (fun b=> !(b==c)) (s.drop k):Nat):Int):=by
 have e:((k:Nat):Int).toNat=k:=by omega
 have hd:(s.drop k).length=s.length-k:=zaj
 have h1:=span_not_ixb c (s.drop k)
 have hi:zaX (s.drop k) [c]=ixb (·==c) (s.drop k):=by rw [axa,contains1]
 have hsp:=ixb_spec (·==c) (s.drop k)
 unfold aak
 rw [aaa omg,e,aaa ⟨by omega,by simp,by simpa using hc⟩,hi]
 by_cases h:(0:Int)≤ixb (·==c) (s.drop k)
 ·rw [if_pos h]at h1⊢
  rw [aaa (abb _ omg omg),h1];rfl
 ·rw [if_neg h]at h1⊢
  congr 1
  omega
def valP(s:Str)(k:Nat):Str×Int×UInt8:=
 if aax s k 34=true then ara s (k:Int)
 else if aax s k 91=true then
  (if(akx (sub s (k:Int) (min ((k+alj (fun b=> !(b==93)) (s.drop k):Nat)+1:Int) (s.length:Int)))).2=true then
   ((akx (sub s (k:Int) (min ((k+alj (fun b=> !(b==93)) (s.drop k):Nat)+1:Int) (s.length:Int)))).1,((k+alj (fun b=> !(b==93)) (s.drop k):Nat):Int)+1,0)else([],(k:Int),5))
 else if aai aaq s (k:Int)=k then([],(k:Int),5)else(sub s (k:Int) ((aai aaq s (k:Int):Nat):Int),((aai aaq s (k:Int):Nat):Int),0)
theorem acz{s:Str}{k:Nat}{b:UInt8}(h:aax s k b=true):k<s.length∧at_ s (k:Int)=b:=by
 unfold aax at h
 simp only [zas,decide_eq_true_eq,beq_iff_eq]at h
 exact h
theorem valP_bd(s:Str)(hs:s.length≤4194304)(k:Nat)(hk:k≤s.length):(valP s k).1.length≤90000000∧((valP s k).2.2=0→(k:Int)+1≤(valP s k).2.1∧(valP s k).2.1≤(s.length:Int)+1):=by
 unfold valP
 have h1:=aey aaq s k hk
 have h2:=abg aaq s (k:Int)
 have hsp:=arw (fun b=> !(b==93)) (s.drop k)
 rw [zaj]at hsp
 split
 ·rename_i h
  have:=unqP8_bd s k (acz h).2 (acz h).1
  exact⟨by omega,fun h=>⟨by have:=(this.2 h).1;omega,by have:=(this.2 h).2;omega⟩⟩
 ·split
  ·split
   ·have hh:=hostP_len (sub s (k:Int) (min ((k+alj (fun b=> !(b==93)) (s.drop k):Nat)+1:Int) (s.length:Int)))
    rw [ajd]at hh
    exact⟨by simp only;omega,fun _=>⟨by simp only;omega,by simp only;omega⟩⟩
   ·exact⟨by simp,fun h=>absurd h (show¬((5:UInt8)=0)by decide)⟩
  ·split
   ·exact⟨by simp,fun h=>absurd h (show¬((5:UInt8)=0)by decide)⟩
   ·rename_i h
    exact⟨by simp only [ajd];omega,fun _=>⟨by simp only;omega,by simp only;omega⟩⟩
theorem rfSees(s:Str)(k:Nat)(b:UInt8):(if(k:Int)<(s.length:Int)then(gd (0≤(k:Int)∧(k:Int)<(s.length:Int))<|some (decide ((at_ s (k:Int))=b)))else some false)=some (aax s k b):=by
 unfold aax
 by_cases h:k<s.length
 ·rw [if_pos omg,aaa omg,decide_eq_true h];rfl
 ·rw [if_neg omg,decide_eq_false h];rfl
theorem value_lp(s:Str)(hs:s.length≤4194304)(k:Nat)(hk:k≤s.length):alp FU s FU (k:Int)=some ((k+alj (fun b=> !(b==93)) (s.drop k):Nat):Int):=by
 refine skip_gen (fun b=> !(b==93)) s (alp FU s) ?_ ?_ ?_ (s.length-k) k FU omg (by rw [adq];omega)
 ·intro fk;rw [arm,ajp,if_neg omg];rfl
 ·intro fk k hk h
  have h':at_ s (k:Int)=93:=by simpa using h
  rw [arm,ajp,if_pos omg,aaa omg,zaa,decide_eq_true h',zap,cond_false]
 ·intro fk k hk h
  have h':¬at_ s (k:Int)=93:=by simpa using h
  rw [arm,ajp,if_pos omg,aaa omg,zaa,decide_eq_false h',zay,cond_true,gok]
theorem value_eq(s:Str)(hs:s.length≤4194304)(k:Nat)(hk:k≤s.length):avg FU s (k:Int)=some (valP s k):=by
 have h1:=aey aaq s k hk
 have h2:=abg aaq s (k:Int)
 have hsp:=arw (fun b=> !(b==93)) (s.drop k)
 rw [zaj]at hsp
 unfold avg valP
 rw [rfSees,zaa,rfSees]
 cases h34:aax s k 34 with
 |true=>rw [cond_true,if_pos rfl,rfUnquote_eq s hs];rfl
 |false=>
  rw [cond_false,zaa,if_neg (show¬(false=true)by decide)]
  cases h91:aax s k 91 with
  |true=>
   rw [cond_true,value_lp s hs k hk,zaa,gok,aaa omg,rfHost_eq _ (by rw [ajd];omega),zaa,if_pos rfl]
   cases hh:(akx (sub s (k:Int) (min ((k+alj (fun b=> !(b==93)) (s.drop k):Nat)+1:Int) (s.length:Int)))).2 with
   |false=>rfl
   |true=>rw [zap,cond_false,gok,zaa,zaR,if_pos rfl]
  |false=>
   rw [cond_false,zaa,zaz,aty s omg,zaa,if_neg (show¬(false=true)by decide)]
   by_cases ht:aai aaq s (k:Int)=k
   ·rw [if_pos omg,if_pos ht]
   ·rw [if_neg omg,if_neg ht,aaa omg]
theorem lower_nil(l:Str):aab l=[]↔l=[]:=by unfold aab;simp
theorem ayb(p:UInt8→Bool)(s:Str)(y:Nat):aai p s ((y:Int)+1)=aai p s ((y+1:Nat):Int):=rfl
def zPrm:Str×Str×Bool:=([],[],false)
def aru(s:Str)(b:Nat):PQ×Int×UInt8×(Str×Int):=
 if aai aaq s (b:Int)=b then(zPrm,(b:Int),5,(s,(b:Int)))
 else if aax s (aai aae s ((aai aaq s (b:Int):Nat):Int)) 61=false then((aab (sub s (b:Int) ((aai aaq s (b:Int):Nat):Int)),[],false),0,0,(s,((aai aae s ((aai aaq s (b:Int):Nat):Int):Nat):Int)))
 else if(valP s (aai aae s ((aai aae s ((aai aaq s (b:Int):Nat):Int)+1:Nat):Int))).2.2=0 then((aab (sub s (b:Int) ((aai aaq s (b:Int):Nat):Int)),(valP s (aai aae s ((aai aae s ((aai aaq s (b:Int):Nat):Int)+1:Nat):Int))).1,true),0,0,(s,(valP s (aai aae s ((aai aae s ((aai aaq s (b:Int):Nat):Int)+1:Nat):Int))).2.1))
 else(zPrm,(valP s (aai aae s ((aai aae s ((aai aaq s (b:Int):Nat):Int)+1:Nat):Int))).2.1,(valP s (aai aae s ((aai aae s ((aai aaq s (b:Int):Nat):Int)+1:Nat):Int))).2.2,(s,((aai aae s ((aai aae s ((aai aaq s (b:Int):Nat):Int)+1:Nat):Int):Nat):Int)))
theorem listed_eq(s:Str)(hs:s.length≤4194304)(b:Nat)(hb:b≤s.length):ahr FU (s,(b:Int))=some (aru s b):=by
 unfold ahr aru
 have ht1:=aey aaq s b hb
 have ht2:=abg aaq s (b:Int)
 rw [token2_eq s hs b hb,zaa]
 simp only
 generalize ht:aai aaq s (b:Int)=t at ht1 ht2⊢
 have hy2:=abg aae s (t:Int)
 have hy1:=aey aae s t ht2
 rw [aox _ (by rw [ajd];omega),zaa]
 by_cases hn:t=b
 ·have:aab (sub s (b:Int) (t:Int))=[]:=(lower_nil _).2 ((ath s b t ht2 ht1).2 hn)
  rw [if_pos this,if_pos hn,hn];rfl
 ·have:¬aab (sub s (b:Int) (t:Int))=[]:=fun h=>hn ((ath s b t ht2 ht1).1 ((lower_nil _).1 h))
  rw [if_neg this,if_neg hn,arq s hs,zaa]
  generalize hy:aai aae s (t:Int)=y at hy1 hy2⊢
  rw [apr,zaa]
  cases h61:aax s y 61 with
  |false=>rw [zay,cond_true,if_pos rfl]
  |true=>
   rw [zap,cond_false,if_neg (show¬(true=false)by decide),gok,arq s hs,zaa,ayb]
   have hz2:=abg aae s ((y+1:Nat):Int)
   generalize hz:aai aae s ((y+1:Nat):Int)=z at hz2⊢
   have hq1:=aey aaq s z hz2
   have hq2:=abg aaq s (z:Int)
   have hsp:=arw (fun b=> !(b==93)) (s.drop z)
   rw [zaj]at hsp
   rw [apr,zaa]
   unfold valP
   cases h34:aax s z 34 with
   |true=>
    rw [cond_true,if_pos rfl,unquote_eq s hs,zaa]
    by_cases he:(ara s (z:Int)).2.2=0
    ·rw [if_pos he,if_pos he]
    ·rw [if_neg he,if_neg he];rfl
   |false=>
    rw [cond_false,if_neg (show¬(false=true)by decide),apr,zaa]
    cases h91:aax s z 91 with
    |true=>
     rw [cond_true,if_pos rfl,until1_eq s hs z hz2 93 (by decide),zaa]
     simp only
     rw [gok,aaa omg,adHost_eq _ (by rw [ajd];omega),zaa]
     cases hh:(akx (sub s (z:Int) (min ((z+alj (fun b=> !(b==93)) (s.drop z):Nat)+1:Int) (s.length:Int)))).2 with
     |false=>rw [zay,cond_true,if_neg (show¬(false=true)by decide),if_neg (show¬((5:UInt8)=0)by decide)];rfl
     |true=>rw [zap,cond_false,gok,if_pos rfl,if_pos rfl]
    |false=>
     rw [cond_false,if_neg (show¬(false=true)by decide),token2_eq s hs z hz2,zaa]
     simp only
     by_cases hq:aai aaq s (z:Int)=z
     ·rw [if_pos ((ath s z _ hq2 hq1).2 hq),if_pos hq,if_neg (show¬((5:UInt8)=0)by decide),hq];rfl
     ·rw [if_neg (fun h=>hq ((ath s z _ hq2 hq1).1 h)),if_neg hq,if_pos rfl]
open Bool renaming not_false → zay, not_true → zap, true_and → zax
open Int renaming toNat → zai
open List renaming drop → zaA, drop_length → zbl, drop_zero → zbt, length_append → zab, length_cons → zac, length_drop → zaj, length_map → zaF, length_singleton → zad, map_congr_left → zbq, take → zaW
open Sum renaming elim → zaD, elim_inl → zaz, elim_inr → zaR
abbrev PP:=Str×Str×Bool
theorem find_gen{α:Type}[Inhabited α](p:α→Bool)(l:List α)(F:Nat→Int→Option (Unit⊕Int))
  (h0:∀fk,F (fk+1) (l.length:Int)=some (.inl ()))
  (h1:∀fk (k:Nat),k<l.length→p (el l k)=true→F (fk+1) (k:Int)=some (.inr (k:Int)))
  (h2:∀fk (k:Nat),k<l.length→p (el l k)=false→F (fk+1) (k:Int)=F fk ((k:Int)+1)) (n:Nat):
  ∀(k fk:Nat),k+n=l.length→n<fk→F fk (k:Int)=some (match(l.drop k).findIdx? p with|none=>.inl ()|some j=>.inr ((k+j:Nat):Int)):=by
 induction n with
 |zero=>
  intro k fk hk hf
  obtain⟨fk,rfl⟩:=fkx fk
  obtain rfl:k=l.length:=by omega
  rw [h0,zbl];rfl
 |succ n ih=>
  intro k fk hk hf
  obtain⟨fk,rfl⟩:=fkx fk
  have hlt:k<l.length:=by omega
  have hd:l.drop k=el l (k:Int)::l.drop (k+1):=by rw [el_nat _ _ hlt,List.drop_eq_getElem_cons hlt]
  rw [hd,List.findIdx?_cons]
  cases h:p (el l (k:Int))with
  |true=>rw [h1 fk k hlt h];rfl
  |false=>
   rw [h2 fk k hlt h,abl,ih (k+1) fk omg omg]
   cases(l.drop (k+1)).findIdx? p with
   |none=>rfl
   |some j=>
    show some (Sum.inr _)=some (Sum.inr _)
    congr 2
    show((k+1+j:Nat):Int)=((k+(j+1):Nat):Int)
    omega
theorem find_gen0{α:Type}[Inhabited α](p:α→Bool)(l:List α)(hl:l.length≤4194304)(F:Nat→Int→Option (Unit⊕Int))
  (h0:∀fk,F (fk+1) (l.length:Int)=some (.inl ()))
  (h1:∀fk (k:Nat),k<l.length→p (el l k)=true→F (fk+1) (k:Int)=some (.inr (k:Int)))
  (h2:∀fk (k:Nat),k<l.length→p (el l k)=false→F (fk+1) (k:Int)=F fk ((k:Int)+1)):F FU 0=some (match l.findIdx? p with|none=>.inl ()|some j=>.inr ((j:Nat):Int)):=by
 have:=find_gen p l F h0 h1 h2 l.length 0 FU omg (by rw [adq];omega)
 rw [zbt]at this
 have this':F FU (0:Int)=_:=this
 rw [this']
 cases l.findIdx? p with
 |none=>rfl
 |some j=>
  show some (Sum.inr _)=some (Sum.inr _)
  congr 2
  show((0+j:Nat):Int)=_
  omega
def fIdx(o:Option Nat):Int:=match o with|none=> -1|some j=>(j:Int)
theorem fIdx_any{α:Type}(p:α→Bool)(l:List α):decide ((0:Int)≤fIdx (l.findIdx? p))=l.any p:=by
 rw [←List.findIdx?_isSome]
 cases l.findIdx? p with
 |none=>rfl
 |some j=>show decide ((0:Int)≤(j:Int))=true;rw [decide_eq_true_eq];omega
theorem holds_eq(l:List PP)(hl:l.length≤4194304)(name:Str):alx FU l name=some (l.any fun p=>p.1==name):=by
 have h:=find_gen0 (fun p:PP=>p.1==name) l hl (abp FU l name)
  (fun fk=>by rw [acf,aay,if_neg omg])
  (fun fk k hk h=>by
   have h':(el l (k:Int)).1=name:=by simpa using h
   rw [acf,aay,if_pos omg,aaa omg,aaa omg]
   unfold apn
   rw [zaa,decide_eq_true h',cond_true])
  (fun fk k hk h=>by
   have h':¬(el l (k:Int)).1=name:=by simpa using h
   rw [acf,aay,if_pos omg,aaa omg,aaa omg]
   unfold apn
   rw [zaa,decide_eq_false h',cond_false,gok])
 unfold alx acr adc
 rw [h,zaa]
 have e:zaD (fun(v38:Unit)=>some (-1:Int)) (fun q=>some q) (match l.findIdx? (fun p:PP=>p.1==name)with|none=>(Sum.inl ():Unit⊕Int)|some j=>Sum.inr ((j:Nat):Int))=some (fIdx (l.findIdx? (fun p:PP=>p.1==name))):=by
  cases l.findIdx? (fun p:PP=>p.1==name)<;>rfl
 rw [e,zaa,fIdx_any];rfl
def arc(l:List PP)(name:Str):UInt8:=if(l.any fun p=>p.1==name)=true then 7 else if 16≤l.length then 4 else 0
theorem room_eq(l:List PP)(hl:l.length≤4194304)(name:Str):anc FU l name=some (arc l name):=by
 unfold anc arc
 rw [holds_eq l hl,zaa]
 cases l.any fun p=>p.1==name with
 |true=>rfl
 |false=>
  rw [cond_false,if_neg (show¬(false=true)by decide)]
  by_cases h:16≤l.length
  ·rw [if_pos omg,if_pos h]
  ·rw [if_neg omg,if_neg h]
theorem el_mem2(l:List PP)(k:Nat)(h:k<l.length):el l (k:Int)∈l:=el_mem' l k h
theorem rfFind_eq(l:List PP)(hl:l.length≤4194304)(hn:∀p∈l,p.1.length≤4194304)(name:Str)(hm:name.length≤4194304):auf FU l name=some (fIdx (l.findIdx? fun p=>aab p.1==aab name)):=by
 have h:=find_gen0 (fun p:PP=>aab p.1==aab name) l hl (aqt FU l name)
  (fun fk=>by rw [asq,als,if_neg omg])
  (fun fk k hk h=>by
   have h':aab (el l (k:Int)).1=aab name:=by simpa using h
   have:=hn _ (el_mem2 l k hk)
   rw [asq,als,if_pos omg,aaa omg,aaa omg,afy _ omg,zaa,afy _ omg,zaa,if_pos h'])
  (fun fk k hk h=>by
   have h':¬aab (el l (k:Int)).1=aab name:=by simpa using h
   have:=hn _ (el_mem2 l k hk)
   rw [asq,als,if_pos omg,aaa omg,aaa omg,afy _ omg,zaa,afy _ omg,zaa,if_neg h',gok])
 unfold auf
 rw [h,zaa]
 cases l.findIdx? (fun p:PP=>aab p.1==aab name)<;>rfl
theorem rfRoom_eq(l:List PP)(hl:l.length≤4194304)(hn:∀p∈l,p.1.length≤4194304)(name:Str)(hm:name.length≤4194304)(h1:∀p∈l,aab p.1=p.1)(h2:aab name=name):aeq FU l name=some (arc l name):=by
 unfold aeq arc
 have e:l.any (fun p=>p.1==name)=l.any (fun p=>aab p.1==aab name):=by
  rw [Bool.eq_iff_iff,List.any_eq_true,List.any_eq_true]
  constructor
  ·rintro⟨p,hp,h⟩;exact⟨p,hp,by rw [h1 p hp,h2];exact h⟩
  ·rintro⟨p,hp,h⟩;exact⟨p,hp,by rw [h1 p hp,h2]at h;exact h⟩
 rw [rfFind_eq l hl hn name hm,zaa,e]
 have hf:=fIdx_any (fun p:PP=>aab p.1==aab name) l
 cases ha:l.any (fun p=>aab p.1==aab name)with
 |true=>
  rw [ha,decide_eq_true_eq]at hf
  rw [if_pos hf,if_pos rfl]
 |false=>
  rw [ha,decide_eq_false_iff_not]at hf
  rw [if_neg hf,if_neg (show¬(false=true)by decide)]
  by_cases h:16≤l.length
  ·rw [if_pos omg,if_pos h]
  ·rw [if_neg omg,if_neg h]
def parM (s : Str) : Nat → List PP → Nat → List PP × Int × UInt8
  | 0, _, _ => ([], 0, 0)
  | f + 1, l, i =>
    if s.length ≤ aai aae s (i : Int) then (l, 0, 0)
    else if ¬ at_ s ((aai aae s (i : Int) : Nat) : Int) = 59 then ([], ((aai aae s (i : Int) : Nat) : Int), 5)
    else if (aru s (aai aae s ((aai aae s (i : Int) + 1 : Nat) : Int))).2.2.1 = 0 then
      (if arc l (aru s (aai aae s ((aai aae s (i : Int) + 1 : Nat) : Int))).1.1 = 0 then parM s f (l ++ [(aru s (aai aae s ((aai aae s (i : Int) + 1 : Nat) : Int))).1]) (aru s (aai aae s ((aai aae s (i : Int) + 1 : Nat) : Int))).2.2.2.2.toNat
       else ([], ((aai aae s ((aai aae s (i : Int) + 1 : Nat) : Int) : Nat) : Int), arc l (aru s (aai aae s ((aai aae s (i : Int) + 1 : Nat) : Int))).1.1))
    else ([], (aru s (aai aae s ((aai aae s (i : Int) + 1 : Nat) : Int))).2.1, (aru s (aai aae s ((aai aae s (i : Int) + 1 : Nat) : Int))).2.2.1)
theorem low2:∀c:UInt8,aft (aft c)=aft c:=aaz _ (by decide+kernel)
theorem lowlowL(l:Str):aab (aab l)=aab l:=by
 unfold aab
 rw [List.map_map]
 apply zbq
 intro c _
 exact low2 c
theorem listP_bd(s:Str)(hs:s.length≤4194304)(b:Nat)(hb:b≤s.length)(h0:(aru s b).2.2.1=0):(aru s b).2.2.2.1=s∧(b:Int)+1≤(aru s b).2.2.2.2∧(aru s b).2.2.2.2≤(s.length:Int)+1∧aab (aru s b).1.1=(aru s b).1.1∧(aru s b).1.1.length≤s.length∧(aru s b).1.2.1.length≤90000000:=by
 have ht1:=aey aaq s b hb
 have ht2:=abg aaq s (b:Int)
 unfold aru at h0⊢
 generalize ht:aai aaq s (b:Int)=t at ht1 ht2 h0⊢
 have hy2:=abg aae s (t:Int)
 have hy1:=aey aae s t ht2
 have hlen:(aab (sub s (b:Int) (t:Int))).length≤s.length:=by
  unfold aab;rw [zaF,ajd];omega
 by_cases hn:t=b
 ·rw [if_pos hn]at h0;exact absurd h0 (show¬((5:UInt8)=0)by decide)
 ·rw [if_neg hn]at h0⊢
  generalize hy:aai aae s (t:Int)=y at hy1 hy2 h0⊢
  cases h61:aax s y 61 with
  |false=>
   rw [if_pos rfl]
   exact⟨rfl,by simp only;omega,by simp only;omega,lowlowL _,hlen,by simp⟩
  |true=>
   have hyl:=(acz h61).1
   rw [h61,if_neg (show¬(true=false)by decide)]at h0
   rw [if_neg (show¬(true=false)by decide)]
   have hz1:=aey aae s (y+1) omg
   have hz2:=abg aae s ((y+1:Nat):Int)
   generalize hz:aai aae s ((y+1:Nat):Int)=z at hz1 hz2 h0⊢
   by_cases hv:(valP s z).2.2=0
   ·have:=valP_bd s hs z hz2
    rw [if_pos hv]
    exact⟨rfl,by simp only;have:=(this.2 hv).1;omega,by simp only;exact(this.2 hv).2,lowlowL _,hlen,this.1⟩
   ·rw [if_neg hv]at h0
    exact absurd h0 hv
theorem params_lp(s:Str)(hs:s.length≤4194304)(n:Nat):∀(k fk:Nat) (l:List PP),s.length-k≤n→n<fk→k≤4194305→l.length≤16→
  ali FU fk l s (k:Int)=some (parM s (n+1) l k):=by
 have ff:¬(false=true):=by decide
 induction n with
 |zero=>
  intro k fk l hn hf hk hl
  obtain⟨fk,rfl⟩:=fkx fk
  have h1:=abg aae s (k:Int)
  have h2:s.length≤aai aae s (k:Int):=by
   unfold aai anj
   omega
  rw [ate,akg,arq s hs,zaa,ended_eq,zaa,decide_eq_true omg,cond_true,parM,if_pos h2]
 |succ n ih=>
  intro k fk l hn hf hk hl
  obtain⟨fk,rfl⟩:=fkx fk
  have h1:=abg aae s (k:Int)
  have hge:k≤s.length→k≤aai aae s (k:Int):=aey aae s k
  rw [parM,ate,akg,arq s hs,zaa,ended_eq,zaa]
  generalize hj:aai aae s (k:Int)=j at h1 hge⊢
  by_cases he:s.length≤j
  ·rw [decide_eq_true omg,cond_true,if_pos he]
  ·have hkl:k≤s.length:=by
    rcases Nat.lt_or_ge s.length k with h|h
    ·exfalso
     have:aai aae s (k:Int)=s.length:=by
      have a:=abg aae s (k:Int)
      unfold aai anj at a⊢
      omega
     omega
    ·exact h
   rw [decide_eq_false omg,cond_false,if_neg he,apr,zaa]
   have hjl:j<s.length:=by omega
   unfold aax
   rw [decide_eq_true hjl,zax]
   by_cases h59:at_ s (j:Int)=59
   ·have e59:(at_ s (j:Int)==59)=true:=by simpa using h59
    rw [e59,zap,cond_false,if_neg (by simpa using h59)]
    simp only
    rw [gok,arq s hs,zaa,ayb]
    have hb2:=abg aae s ((j+1:Nat):Int)
    have hb1:=aey aae s (j+1) omg
    generalize hb:aai aae s ((j+1:Nat):Int)=b at hb1 hb2⊢
    rw [listed_eq s hs b hb2,zaa]
    by_cases h0:(aru s b).2.2.1=0
    ·obtain⟨g1,g2,g3,g4,g5,g6⟩:=listP_bd s hs b hb2 h0
     rw [if_pos h0,if_pos h0,room_eq l omg,zaa,zaa]
     by_cases hr:arc l (aru s b).1.1=0
     ·have hl16:l.length<16:=by
       unfold arc at hr
       split at hr
       ·exact absurd hr (by decide)
       ·split at hr
        ·exact absurd hr (by decide)
        ·omega
      have ee:(aru s b).2.2.2.2=(((aru s b).2.2.2.2.toNat:Nat):Int):=by omega
      rw [if_pos hr]
      try simp only
      rw [if_pos hr,aaa (by simp only [zad];omega),g1,ee]
      have:=ih (aru s b).2.2.2.2.toNat fk (l++[(aru s b).1]) omg omg omg (by simp only [zab,zad];omega)
      rw [this]
      congr 2
     ·rw [if_neg hr]
      try simp only
      rw [if_neg hr]
    ·rw [if_neg h0,if_neg h0,zaa]
     simp only
     rw [if_neg h0]
   ·have e59:(at_ s (j:Int)==59)=false:=by simpa using h59
    rw [e59,zay,cond_true,if_pos h59]
def parP(s:Str):List PP×Int×UInt8:=parM s (s.length+1) [] 0
theorem params_eq(s:Str)(hs:s.length≤4194304):agz FU s=some (parP s):=by
 unfold agz
 exact params_lp s hs s.length 0 FU [] omg (by rw [adq];omega) omg (by simp)
theorem skip_idem(p:UInt8→Bool)(s:Str)(i:Int):aai p s ((aai p s i:Nat):Int)=aai p s i:=by
 have hle:=abg p s i
 by_cases h:aai p s i<s.length
 ·refine skipL_stop p s _ h ?_
  unfold aai at h⊢
  generalize anj i s.length=c at h⊢
  have:∀l:Str,alj p l<l.length→p (at_ l (alj p l:Int))=false:=by
   intro l
   induction l with
   |nil=>intro h;simp [alj]at h
   |cons a l ih=>
    intro h
    cases ha:p a with
    |false=>simp [alj,ha,at_]
    |true=>
     have e:alj p (a::l)=alj p l+1:=by simp [alj,ha]
     rw [e]at h⊢
     have:=ih (by simp only [zac]at h;omega)
     simpa [at_] using this
  have h2:=this (s.drop c) (by rw [zaj];omega)
  have e:at_ (s.drop c) (alj p (s.drop c):Int)=at_ s ((c+alj p (s.drop c):Nat):Int):=by
   simp only [at_,List.getD_eq_getElem?_getD,List.getElem?_drop]
   congr 2
  rw [e]at h2
  exact h2
 ·have:aai p s i=s.length:=by omega
  rw [this]
  exact skipL_end p s
def parFin(j:(List PP)⊕((List PP)×Int×UInt8)):Option ((List PP)×Int×UInt8):=zaD (fun(v376:List PP)=>some (v376,(0:Int),(0:UInt8))) (fun q=>some q) j
theorem rfParams_lp(s:Str)(hs:s.length≤4194304)(n:Nat):∀(k fk:Nat) (l:List PP),s.length-k≤n→n<fk→k≤4194305→l.length≤16→(∀p∈l,aab p.1=p.1∧p.1.length≤4194304)→
  ((ajv FU s fk l ((aai aae s (k:Int):Nat):Int)).bind parFin)=some (parM s (n+1) l k):=by
 have ff:¬(false=true):=by decide
 induction n with
 |zero=>
  intro k fk l hn hf hk hl hp
  obtain⟨fk,rfl⟩:=fkx fk
  have h1:=abg aae s (k:Int)
  have h2:s.length≤aai aae s (k:Int):=by
   unfold aai anj
   omega
  rw [auz,amm,if_neg omg,parM,if_pos h2];rfl
 |succ n ih=>
  intro k fk l hn hf hk hl hp
  obtain⟨fk,rfl⟩:=fkx fk
  have h1:=abg aae s (k:Int)
  have hge:k≤s.length→k≤aai aae s (k:Int):=aey aae s k
  rw [parM,auz,amm]
  by_cases he:s.length≤aai aae s (k:Int)
  ·rw [if_neg omg,if_pos he];rfl
  ·have hkl:k≤s.length:=by
    rcases Nat.lt_or_ge s.length k with h|h
    ·exfalso
     have:aai aae s (k:Int)=s.length:=by
      have a:=abg aae s (k:Int)
      unfold aai anj at a⊢
      omega
     omega
    ·exact h
   generalize hj:aai aae s (k:Int)=j at h1 hge he⊢
   rw [if_pos omg,if_neg he,aaa omg]
   have hjl:j<s.length:=by omega
   by_cases h59:at_ s (j:Int)=59
   ·rw [if_pos h59,if_neg (by simpa using h59),gok,ajj s hs,zaa,ayb]
    have hb2:=abg aae s ((j+1:Nat):Int)
    have hb1:=aey aae s (j+1) omg
    generalize hb:aai aae s ((j+1:Nat):Int)=b at hb1 hb2⊢
    have ht1:=aey aaq s b hb2
    have ht2:=abg aaq s (b:Int)
    rw [aty s omg,zaa]
    have app:∀(v:Str) (hs':Bool) (pos:Nat),(b:Int)+1≤(pos:Int)→(pos:Int)≤(s.length:Int)+1→∀nm:Str,aab nm=nm→nm.length≤4194304→
      (((aeq FU l nm).bind fun(y726:UInt8)=>(if y726=(0:UInt8)then(gd ((l.length+([(nm,v,hs')]:List PP).length)*40≤140737488355328)<|(ajv FU s fk (l++([(nm,v,hs')]:List PP)) ((aai aae s (pos:Int):Nat):Int)))else some (.inr (([]:List PP),(b:Int),y726)))).bind parFin)=some (if arc l nm=0 then parM s (n+1) (l++[(nm,v,hs')]) pos else([],(b:Int),arc l nm)):=by
     intro v hs' pos hp1 hp2 nm hnm hnl
     rw [rfRoom_eq l omg (fun p hp'=>(hp p hp').2) nm hnl (fun p hp'=>(hp p hp').1) hnm,zaa]
     by_cases hr:arc l nm=0
     ·have hl16:l.length<16:=by
       unfold arc at hr
       split at hr
       ·exact absurd hr (by decide)
       ·split at hr
        ·exact absurd hr (by decide)
        ·omega
      rw [if_pos hr,if_pos hr,aaa (by simp only [zad];omega)]
      exact ih pos fk (l++[(nm,v,hs')]) omg omg omg (by simp only [zab,zad];omega) (fun p hp'=>by
       rcases List.mem_append.1 hp' with h|h
       ·exact hp p h
       ·rw [List.mem_singleton.1 h];exact⟨hnm,hnl⟩)
     ·rw [if_neg hr,if_neg hr];rfl
    unfold aru
    generalize ht:aai aaq s (b:Int)=t at ht1 ht2⊢
    by_cases hn':t=b
    ·rw [if_pos omg,if_pos hn',if_neg (show¬((5:UInt8)=0)by decide)];rfl
    ·have hy2:=abg aae s (t:Int)
     have hy1:=aey aae s t ht2
     have hlen:(aab (sub s (b:Int) (t:Int))).length≤4194304:=by
      unfold aab;rw [zaF,ajd];omega
     rw [if_neg omg,if_neg hn',aaa omg,afy _ (by rw [ajd];omega),zaa,ajj s hs,zaa]
     have hid:=skip_idem aae s (t:Int)
     generalize hy:aai aae s (t:Int)=y at hy1 hy2 hid⊢
     rw [rfSees,zaa]
     cases h61:aax s y 61 with
     |false=>
      rw [cond_false,zaa,zaz,if_pos rfl,if_pos rfl]
      have:=app [] false y omg omg (aab (sub s (b:Int) (t:Int))) (lowlowL _) hlen
      rw [hid]at this
      exact this
     |true=>
      have hyl:=(acz h61).1
      rw [cond_true,if_neg (show¬(true=false)by decide),gok,ajj s hs,zaa,ayb]
      have hz1:=aey aae s (y+1) omg
      have hz2:=abg aae s ((y+1:Nat):Int)
      generalize hz:aai aae s ((y+1:Nat):Int)=z at hz1 hz2⊢
      rw [value_eq s hs z hz2,zaa]
      by_cases hv:(valP s z).2.2=0
      ·have hbd:=(valP_bd s hs z hz2).2 hv
       obtain⟨pos,hpos⟩:∃pos:Nat,(valP s z).2.1=(pos:Int):=⟨(valP s z).2.1.toNat,by omega⟩
       rw [if_pos hv,ajj s hs,zaa,zaa,zaz,if_pos hv,if_pos rfl,hpos]
       have:=app (valP s z).1 true pos omg omg (aab (sub s (b:Int) (t:Int))) (lowlowL _) hlen
       exact this
      ·rw [if_neg hv,zaa,zaR,if_neg hv,if_neg hv];rfl
   ·rw [if_neg h59,if_pos h59];rfl
theorem rfParams_eq(s:Str)(hs:s.length≤4194304):aql FU s=some (parP s):=by
 unfold aql
 rw [ajj s hs,zaa]
 exact rfParams_lp s hs s.length 0 FU [] omg (by rw [adq];omega) omg (by simp) (by simp)
def itemE(s:Str):Nat:=if aai aaq s 0=0 then 0 else if aax s (aai aaq s 0) 47=true then(if aai aaq s ((aai aaq s 0+1:Nat):Int)=aai aaq s 0+1 then 0 else aai aaq s ((aai aaq s 0+1:Nat):Int))else aai aaq s 0
theorem itemE_le(s:Str):itemE s≤s.length:=by
 have h1:=abg aaq s 0
 have h2:=abg aaq s ((aai aaq s 0+1:Nat):Int)
 unfold itemE
 split
 ·omega
 ·split
  ·split<;>omega
  ·exact h1
theorem itemEnd_eq(s:Str)(hs:s.length≤4194304):aso FU s=some ((itemE s:Nat):Int):=by
 have h1:=abg aaq s 0
 unfold aso itemE
 rw [aty s omg,zaa]
 generalize aai aaq s 0=k at h1⊢
 by_cases h0:k=0
 ·subst h0;rfl
 ·rw [if_neg omg,if_neg h0]
  by_cases hl:k=s.length
  ·have:aax s k 47=false:=by unfold aax;rw [decide_eq_false omg];rfl
   rw [if_pos omg,zaa,cond_true,this,if_neg (by decide)]
  ·rw [if_neg omg,aaa omg,zaa]
   unfold aax
   rw [decide_eq_true (show k<s.length by omega),zax]
   by_cases h47:at_ s (k:Int)=47
   ·rw [decide_eq_true h47,zap,cond_false,gok,aty s omg,zaa,gok,ayb,show(at_ s (k:Int)==47)=true by simpa using h47,if_pos rfl]
    by_cases he:aai aaq s ((k+1:Nat):Int)=k+1
    ·rw [if_pos omg,if_pos he];rfl
    ·rw [if_neg omg,if_neg he]
   ·rw [decide_eq_false h47,zay,cond_true,show(at_ s (k:Int)==47)=false by simpa using h47,if_neg (by decide)]
def itemP(v:Str):(Str×List PP)×UInt8:=
 if itemE (ahu v)=0 then(([],[]),5)
 else if(parP ((ahu v).drop (itemE (ahu v)))).2.2=0 then(((ahu v).take (itemE (ahu v)),(parP ((ahu v).drop (itemE (ahu v)))).1),0)
 else(([],[]),(parP ((ahu v).drop (itemE (ahu v)))).2.2)
theorem rfItem_eq(v:Str)(hv:v.length≤4194304):axe FU v=some (itemP v):=by
 have hl:=trimL_len v
 unfold axe itemP
 rw [refTrim_eq v hv,zaa,itemEnd_eq _ omg,zaa]
 have he:=itemE_le (ahu v)
 generalize itemE (ahu v)=e at he⊢
 have et:((e:Nat):Int).toNat=e:=by omega
 by_cases h0:e=0
 ·rw [if_pos omg,if_pos h0]
 ·rw [if_neg omg,if_neg h0,aaa omg,et,rfParams_eq _ (by rw [zaj];omega),zaa]
  by_cases hp:(parP ((ahu v).drop e)).2.2=0
  ·rw [if_pos hp,if_pos hp,aaa omg]
  ·rw [if_neg hp,if_neg hp]
theorem item_eq(v:Str)(hv:v.length≤4194304):avl FU v=some (itemP v):=by
 have hl:=trimL_len v
 have h1:=abg aaq (ahu v) 0
 unfold avl itemP itemE
 rw [trim_eq v hv,zaa,tokEndP_eq _ omg,zaa]
 generalize ahu v=s at hl h1⊢
 have fin:∀e:Nat,e≤s.length→e≠0→zaD (fun(v41:Int)=>(gd (0≤v41∧v41≤(s.length:Int))<|((agz FU (zaA (zai v41) s)).bind fun(y66:((List PP)×Int×UInt8))=>(if y66.2.2=(0:UInt8)then(gd (0≤v41∧v41≤(s.length:Int))<|some ((zaW (zai v41) s,y66.1),(0:UInt8)))else some ((([]:Str),([]:List PP)),y66.2.2))))) (fun q=>some q) (.inl (e:Int):Int⊕((Str×List PP)×UInt8))=some (if e=0 then(([],[]),5)else if(parP (s.drop e)).2.2=0 then((s.take e,(parP (s.drop e)).1),0)else(([],[]),(parP (s.drop e)).2.2)):=by
  intro e he h0
  have et:((e:Nat):Int).toNat=e:=by omega
  rw [zaz,aaa omg,et,params_eq _ (by rw [zaj];omega),zaa,if_neg h0]
  by_cases hp:(parP (s.drop e)).2.2=0
  ·rw [if_pos hp,if_pos hp,aaa omg]
  ·rw [if_neg hp,if_neg hp]
 generalize aai aaq s 0=k at h1⊢
 by_cases h0:k=0
 ·subst h0;rfl
 ·rw [if_neg omg,rfSees,zaa,if_neg h0]
  cases h47:aax s k 47 with
  |true=>
   have hk:=(acz h47).1
   have h2:=abg aaq s ((k+1:Nat):Int)
   have h3:=aey aaq s (k+1) omg
   rw [cond_true,gok,tokEndP_eq _ omg,zaa,gok,ayb,if_pos rfl]
   by_cases he:aai aaq s ((k+1:Nat):Int)=k+1
   ·rw [if_pos omg,if_pos he];rfl
   ·rw [if_neg omg,if_neg he,zaa,fin _ h2 omg]
  |false=>
   rw [cond_false,zaa,if_neg (show¬(false=true)by decide),fin _ h1 h0]
def quoT(s:Str):Str:=34::(s.flatMap qstep++[34])
theorem gd_mk{α:Type}{p:Prop}{ip:Decidable p}(h:p){x:Option α}: @gd _ p ip x=x:=by unfold gd;exact if_pos h
theorem plain_eq(s:Str)(hs:s.length≤4194304):aoz FU s=some (!s.any abf):=by
 have h:=all_gen0 (fun c=> !abf c) s hs false (aoy FU s)
  (fun fk=>by rw [arn,ajq,if_neg omg])
  (fun fk k hk h=>by
   have h':abf (at_ s (k:Int))=true:=by simpa using h
   rw [arn,ajq,if_pos omg,gok,azb,zaa,h',cond_true])
  (fun fk k hk h=>by
   have h':abf (at_ s (k:Int))=false:=by simpa using h
   rw [arn,ajq,if_pos omg,gok,azb,zaa,h',cond_false,gok])
 unfold aoz
 rw [h,zaa]
 have e:s.all (fun c=> !abf c)= !s.any abf:=by rw [List.not_any_eq_all_not]
 rw [e]
 cases s.any abf<;>rfl
open Go.Op renaming bytesLess → zaL
open List renaming append_assoc → zav, append_nil → zan, drop_eq_nil_of_le → zaI, length → zaZ, length_append → zab, length_cons → zac, length_drop → zaj, length_nil → zal, length_singleton → zad, length_take → zaw, nil_append → zaH
open UInt8 renaming lt_iff_toNat_lt → zbd
theorem room0(pre:List PP)(nm:Str):(arc pre nm=0)↔((pre.any fun q=>q.1==nm)=false∧pre.length<16):=by
 unfold arc
 cases pre.any fun q=>q.1==nm with
 |true=>simp
 |false=>
  rw [if_neg (show¬(false=true)by decide)]
  by_cases h:16≤pre.length
  ·rw [if_pos h];simp;omega
  ·rw [if_neg h];simp;omega
theorem pp_eta(x:PP):(x.1,x.2.1,x.2.2)=x:=rfl
theorem less_tri:∀x y:Str,zaL x y= !(zaL y x||y==x)
 |[],[]=>rfl
 |[],b::y=>rfl
 |a::x,[]=>rfl
 |a::x,b::y=>by
  have ih:=less_tri x y
  rw [zaL,zaL,ih]
  rcases Nat.lt_trichotomy a.toNat b.toNat with h|h|h
  ·have h1:a<b:=h
   have h2:¬b<a:=by rw [zbd];omega
   have h3:¬a=b:=fun e=>by subst e;omega
   have h4:(b::y==a::x)=false:=by simp;intro e;exact absurd e.symm h3
   rw [h4]
   simp [h1,h2,h3]
   exact .inl fun e=>h3 e.symm
  ·have e:a=b:=UInt8.toNat_inj.1 h
   subst e
   have h1:¬a<a:=by rw [zbd];omega
   have h4:(a::y==a::x)=(y==x):=by simp [List.cons_beq_cons]
   rw [h4]
   simp [h1]
  ·have h1:b<a:=h
   have h2:¬a<b:=by rw [zbd];omega
   have h3:¬a=b:=fun e=>by subst e;omega
   simp [h1,h2,h3]
def gtN(a b:Str):Bool:= !(zaL a b||a==b)
def insV(x:PP):List PP→List PP
 |[]=>[x]
 |a::V=>bif gtN a.1 x.1 then a::insV x V else x::a::V
def insR(x:PP)(l:List PP):List PP:=(insV x l.reverse).reverse
theorem insR_snoc(x a:PP)(l:List PP):insR x (l++[a])=bif gtN a.1 x.1 then insR x l++[a]else l++[a,x]:=by
 unfold insR
 rw [List.reverse_append,List.reverse_singleton,List.singleton_append,insV]
 cases gtN a.1 x.1<;>simp
theorem insV_len(x:PP):∀V:List PP,(insV x V).length=V.length+1
 |[]=>rfl
 |a::V=>by
  rw [insV]
  cases gtN a.1 x.1 with
  |true=>rw [cond_true,zac,insV_len x V,zac]
  |false=>rfl
theorem insR_len(x:PP)(l:List PP):(insR x l).length=l.length+1:=by
 unfold insR;rw [List.length_reverse,insV_len,List.length_reverse]
theorem insV_mem(x y:PP):∀V:List PP,y∈insV x V→y=x∨y∈V
 |[],h=>by left;simpa [insV] using h
 |a::V,h=>by
  rw [insV]at h
  cases hg:gtN a.1 x.1 with
  |true=>
   rw [hg,cond_true]at h
   rcases List.mem_cons.1 h with rfl|h
   ·right;simp
   ·rcases insV_mem x y V h with h|h
    ·exact .inl h
    ·right;simp [h]
  |false=>
   rw [hg,cond_false]at h
   rcases List.mem_cons.1 h with rfl|h
   ·left;rfl
   ·right;exact h
theorem insR_mem(x y:PP)(l:List PP)(h:y∈insR x l):y=x∨y∈l:=by
 unfold insR at h
 rcases insV_mem x y _ (List.mem_reverse.1 h)with h|h
 ·exact .inl h
 ·exact .inr (List.mem_reverse.1 h)
def aps(l:List PP):List PP:=l.foldl (fun out x=>insR x out) []
theorem fold_len:∀(q p:List PP),(q.foldl (fun out x=>insR x out) p).length=p.length+q.length
 |[],p=>by simp
 |a::q,p=>by rw [List.foldl_cons,fold_len q,insR_len,zac];omega
theorem fold_mem(y:PP):∀(q p:List PP),y∈q.foldl (fun out x=>insR x out) p→y∈p∨y∈q
 |[],p,h=>.inl h
 |a::q,p,h=>by
  rw [List.foldl_cons]at h
  rcases fold_mem y q _ h with h|h
  ·rcases insR_mem a y p h with h|h
   ·right;simp [h]
   ·exact .inl h
  ·right;simp [h]
theorem isort_len(l:List PP):(aps l).length=l.length:=by unfold aps;rw [fold_len];simp
theorem isort_mem(l:List PP)(y:PP)(h:y∈aps l):y∈l:=by
 rcases fold_mem y l [] h with h|h
 ·simp at h
 ·exact h
theorem rfSort_lp1(l:List PP)(out:List PP)(i:Int)(x:PP)(hx:el l i=x)(hi:0≤i∧i<(l.length:Int))(ho:out.length≤4194304)(n:Nat):∀fk,n≤out.length→n<fk→
  ∃k:Nat,k≤n∧aju FU l out i fk (n:Int)=some (k:Int)∧(out.take n).take k++([x]++(out.take n).drop k)=insR x (out.take n):=by
 induction n with
 |zero=>
  intro fk hn hf
  obtain⟨fk,rfl⟩:=fkx fk
  exact⟨0,zam _,by rw [apt,aiq,if_neg omg];rfl,rfl⟩
 |succ n ih=>
  intro fk hn hf
  obtain⟨fk,rfl⟩:=fkx fk
  have e:(((n+1:Nat):Int)-1)=(n:Int):=by omega
  have hlt:n<out.length:=by omega
  have ht:out.take (n+1)=out.take n++[el out (n:Int)]:=take_snoc' out n hlt
  rw [apt,aiq,if_pos omg,e,aaa (abb _ omg omg),aaa omg,aaa omg,aaa hi,aaa hi,hx,zaa,ht,insR_snoc]
  have hg:(!(zaL (el out (n:Int)).1 x.1||(el out (n:Int)).1==x.1))=gtN (el out (n:Int)).1 x.1:=rfl
  rw [hg]
  have htl:(out.take n).length=n:=by rw [zaw];omega
  cases h:gtN (el out (n:Int)).1 x.1 with
  |true=>
   obtain⟨k,h1,h2,h3⟩:=ih fk omg omg
   refine⟨k,by omega,by rw [cond_true,aaa (abb _ omg omg),h2], ?_⟩
   rw [cond_true,←h3,List.take_append_of_le_length omg,List.drop_append_of_le_length omg]
   simp
  |false=>
   refine⟨n+1,zam _,by rw [cond_false], ?_⟩
   rw [cond_false,List.take_of_length_le (by simp only [zab,zad];omega),zaI (by simp only [zab,zad];omega)]
   simp
theorem rfSort_lp(l:List PP)(hl:l.length≤4194304)(q:List PP):∀(p:List PP) (fk:Nat) (out:List PP),l=p++q→q.length<fk→out.length=p.length→
  agw FU l fk out (p.length:Int)=some (q.foldl (fun out x=>insR x out) out):=by
 induction q with
 |nil=>
  intro p fk out h hf ho
  obtain⟨fk,rfl⟩:=fkx fk
  rw [zan]at h
  rw [apu,air,if_neg (by rw [h];omega)];rfl
 |cons a q ih=>
  intro p fk out h hf ho
  obtain⟨fk,rfl⟩:=fkx fk
  have hlen:=congrArg zaZ h
  simp only [zab,zac]at hlen hf
  have hin:(0:Int)≤(p.length:Int)∧(p.length:Int)<(l.length:Int):=by omega
  have he:el l (p.length:Int)=a:=by rw [h];simp [el]
  obtain⟨k,h1,h2,h3⟩:=rfSort_lp1 l out (p.length:Int) a he hin omg out.length FU (zam _) (by rw [adq];omega)
  rw [List.take_length]at h3
  have et:((k:Nat):Int).toNat=k:=by omega
  have hil:=insR_len a out
  rw [apu,air,if_pos hin.2,h2,zaa,aaa omg,et,aaa (by simp only [zal,zaw];omega),aaa hin,aaa hin,he]
  simp only [pp_eta,zaH]
  rw [aaa (by simp only [zaw,zad];omega),aaa omg,aaa (by simp only [zab,zaw,zaj,zad];omega),zaa,aaa (abb _ omg omg),zav,h3,List.foldl_cons]
  have:=ih (p++[a]) fk (insR a out) (by rw [h];simp) omg (by rw [hil,zab,zad];omega)
  rw [show((p++[a]).length:Int)=(p.length:Int)+1 by simp]at this
  exact this
theorem aza(l:List PP)(hl:l.length≤4194304):akm FU l=some (aps l):=by
 have:=rfSort_lp l hl l [] FU [] (by simp) (by rw [adq];omega) rfl
 have this':agw FU l FU [] (0:Int)=_:=this
 unfold akm
 rw [this'];rfl
def cmpV(a b:Str):Int:=bif zaL a b then-1 else bif !(zaL a b||a==b)then 1 else 0
theorem cmp_lt(a b:Str):decide (cmpV a b<0)=zaL a b:=by
 unfold cmpV
 cases zaL a b with
 |true=>rfl
 |false=>
  rw [cond_false]
  cases(!(false||a==b))<;>rfl
theorem el_at(P S:List PP)(x:PP):el (P++x::S) (P.length:Int)=x:=by simp [el]
def Keeps(o:Option (List PP))(n:Nat):Prop:=∃d,o=some d∧d.length=n
open Go.Lib renaming index → zaB
open List renaming length_append → zab, length_cons → zac, length_singleton → zad
theorem idx47(c:UInt8):∀v:Str,(zaB v [c]= -1∧∀b∈v,b≠c)∨(∃f s2,v=f++c::s2∧(∀b∈f,b≠c)∧zaB v [c]=(f.length:Int))
 |[]=>.inl ⟨rfl,by simp⟩
 |b::l=>by
  rw [atm]
  have e:([c]:Str).isPrefixOf (b::l)=(c==b):=by simp [List.isPrefixOf]
  rw [e]
  by_cases h:b=c
  ·subst h
   right
   exact⟨[],l,rfl,by simp,by rw [if_pos (by simp)];rfl⟩
  ·rw [if_neg (by simpa using fun x=>h x.symm)]
   rcases idx47 c l with⟨h1,h2⟩|⟨f,s2,h1,h2,h3⟩
   ·left
    rw [if_pos h1]
    exact⟨rfl,fun x hx=>by rcases List.mem_cons.1 hx with rfl|hx;exact h;exact h2 x hx⟩
   ·right
    refine⟨b::f,s2,by rw [h1];rfl,fun x hx=>by rcases List.mem_cons.1 hx with rfl|hx;exact h;exact h2 x hx, ?_⟩
    rw [if_neg omg,h3,zac];omega
theorem same_lp2(X:List PP)(hX:X.length≤4194304)(n:Nat):∀(k fk:Nat),k+n=X.length→n<fk→adw FU X X fk (k:Int)=some (.inl ()):=by
 induction n with
 |zero=>
  intro k fk hk hf
  obtain⟨fk,rfl⟩:=fkx fk
  rw [alt,afe,if_neg omg]
 |succ n ih=>
  intro k fk hk hf
  obtain⟨fk,rfl⟩:=fkx fk
  have hin:(0:Int)≤(k:Int)∧(k:Int)<(X.length:Int):=by omega
  rw [alt,afe,if_pos hin.2,aaa hin,aaa hin,aaa hin,aaa hin,if_pos rfl,aaa (abb _ omg omg)]
  exact ih (k+1) fk omg omg
theorem avt(X:List PP)(hX:X.length≤4194304):adt FU X X=some true:=by
 have:=same_lp2 X hX X.length 0 FU omg (by rw [adq];omega)
 have this':adw FU X X FU (0:Int)=_:=this
 unfold adt
 rw [if_pos rfl,this'];rfl
theorem parM_len(s:Str):∀(f:Nat) (l:List PP) (i:Nat),l.length≤16→(parM s f l i).1.length≤16
 |0,_,_,_=>by simp [parM]
 |f+1,l,i,h=>by
  rw [parM]
  split
  ·exact h
  ·split
   ·simp
   ·split
    ·split
     ·rename_i hr
      have hl16:=((room0 l _).1 hr).2
      exact parM_len s f _ _ (by simp only [zab,zad];omega)
     ·simp
    ·simp
theorem itemP_len(v:Str):(itemP v).1.2.length≤16:=by
 unfold itemP
 split
 ·simp
 ·split
  ·exact parM_len _ _ _ _ (by simp)
  ·simp
end Go.Wk
set_option maxRecDepth 20000
namespace Go.Wk
open Go.Px
open Bool renaming true_and → zax
open List renaming all_cons → zaT, append_nil → zan, length → zaZ, length_append → zab, length_cons → zac
open Option renaming bind_some → zaa
open Sum renaming elim_inl → zaz, elim_inr → zaR
open UInt8 renaming lt_iff_toNat_lt → zbd
theorem digB_no{c:UInt8}(h:aby c=false):c<48∨(57:UInt8)<c:=by
 by_cases h1:c<48
 ·exact .inl h1
 ·by_cases h2:(57:UInt8)<c
  ·exact .inr h2
  ·exfalso
   have:aby c=true:=by
    rw [digitB_iff]
    rw [zbd]at h1 h2
    have e1:(48:UInt8).toNat=48:=rfl
    have e2:(57:UInt8).toNat=57:=rfl
    omega
   rw [this]at h;cases h
theorem digQ_sub{c:UInt8}(h:aby c=true):(c-48).toNat=c.toNat-48∧¬c<48∧¬(57:UInt8)<c∧c.toNat≤57:=by
 have hc:=(digitB_iff c).1 h
 refine⟨?_, ?_, ?_,by omega⟩
 ·have h48:(48:UInt8)≤c:=by rw [UInt8.le_iff_toNat_le];show 48≤c.toNat;omega
  rw [UInt8.toNat_sub_of_le _ _ h48];rfl
 ·rw [zbd];show¬c.toNat<48;omega
 ·rw [zbd];show¬57<c.toNat;omega
def numQ(s:Str):Int×UInt8:=
 if s.length<1∨10<s.length∨s.all aby=false then(0,5)else if 2147483647<aef s then(0,3)else((aef s:Int),0)
theorem numberQ_lp(s:Str)(hs:s.length≤18)(l:Str):∀(p:Str) (fk:Nat),s=p++l→l.length<fk→p.all aby=true→
  aka FU s fk (aef p:Int) (p.length:Int)=some (if l.all aby=true then .inl (aef s:Int)else .inr ((0:Int),(5:UInt8))):=by
 induction l with
 |nil=>
  intro p fk h hf hp
  obtain⟨fk,rfl⟩:=fkx fk
  rw [zan]at h
  subst h
  rw [apx,aiv,if_neg omg];rfl
 |cons c l ih=>
  intro p fk h hf hp
  obtain⟨fk,rfl⟩:=fkx fk
  have hb:(0:Int)≤(p.length:Int)∧(p.length:Int)<(s.length:Int):=by rw [h,zab,zac];omega
  have ha:at_ s (p.length:Int)=c:=by rw [h,ayp]
  simp only [zac]at hf
  cases hc:aby c with
  |false=>
   rw [apx,aiv,if_pos hb.2,aaa hb,ha,zaT,hc,Bool.false_and,if_neg (show¬false=true by decide)]
   rcases digB_no hc with h1|h1
   ·rw [if_pos h1,zaa,cond_true]
   ·by_cases h2:c<48
    ·rw [if_pos h2,zaa,cond_true]
    ·rw [if_neg h2,aaa hb,decide_eq_true h1,zaa,cond_true]
  |true=>
   obtain⟨hx,n1,n2,n3⟩:=digQ_sub hc
   have hv:=decVal_lt 17 p (by have:=congrArg zaZ h;rw [zab,zac]at this;omega) hp
   rw [apx,aiv,if_pos hb.2,aaa hb,ha,if_neg n1,aaa hb,decide_eq_false n2,zaa,cond_false,hx,aaa (abb _ omg omg),aaa hb,aaa (abb _ omg omg),aaa (abb _ omg omg)]
   have e:(10:Int)*(aef p:Int)+((c.toNat-48:Nat):Int)=(aef (p++[c]):Int):=by rw [ato];omega
   rw [e,aqp p c,zaT,hc,zax]
   exact ih (p++[c]) fk (by rw [h];simp) omg (by rw [List.all_append,hp];simpa using hc)
theorem number_eq(s:Str):ako FU s=some (numQ s):=by
 unfold ako numQ
 by_cases h1:s.length<1
 ·rw [if_pos omg,zaa,cond_true,if_pos (.inl h1)]
 ·rw [if_neg omg,zaa]
  by_cases h2:10<s.length
  ·rw [decide_eq_true omg,cond_true,if_pos (.inr (.inl h2))]
  ·rw [decide_eq_false omg,cond_false]
   have:=numberQ_lp s omg s [] FU (by simp) (by rw [adq];omega) (by simp)
   change aka FU s FU (0:Int) (0:Int)=_ at this
   rw [this,zaa]
   cases h3:s.all aby with
   |false=>rw [if_neg (show¬false=true by decide),zaR,if_pos (.inr (.inr rfl))]
   |true=>
    rw [if_pos rfl,zaz,if_neg (show¬(s.length<1∨10<s.length∨true=false)by rintro(h|h|h)<;>first|omega|cases h)]
    by_cases h4:2147483647<aef s
    ·rw [if_pos omg,if_pos h4]
    ·rw [if_neg omg,if_neg h4]
theorem refNumberQ_lp(s:Str)(hs:s.length≤4194304)(l:Str):∀(p:Str) (fk:Nat),s=p++l→l.length<fk→p.all aby=true→p.length≤10→
  ajy FU s fk (aef p:Int) (p.length:Int)=some (if l.all aby=true∧s.length≤10 then .inl (aef s:Int)else .inr ((0:Int),(5:UInt8))):=by
 induction l with
 |nil=>
  intro p fk h hf hp hl
  obtain⟨fk,rfl⟩:=fkx fk
  rw [zan]at h
  subst h
  rw [apv,ais,if_neg omg,if_pos ⟨rfl,hl⟩]
 |cons c l ih=>
  intro p fk h hf hp hl
  obtain⟨fk,rfl⟩:=fkx fk
  have hlen:s.length=p.length+(l.length+1):=by rw [h,zab,zac]
  have hb:(0:Int)≤(p.length:Int)∧(p.length:Int)<(s.length:Int):=by omega
  have ha:at_ s (p.length:Int)=c:=by rw [h,ayp]
  simp only [zac]at hf
  cases hc:aby c with
  |false=>
   rw [apv,ais,if_pos hb.2,aaa hb,ha,zaT,hc,Bool.false_and,if_neg (show¬(false=true∧s.length≤10)by rintro⟨h,_⟩;cases h)]
   by_cases h2:c<48
   ·rw [if_pos h2,zaa,cond_true]
   ·rcases digB_no hc with h1|h1
    ·exact absurd h1 h2
    ·rw [if_neg h2,aaa hb,if_pos h1,zaa,cond_true]
  |true=>
   obtain⟨hx,n1,n2,n3⟩:=digQ_sub hc
   rw [apv,ais,if_pos hb.2,aaa hb,ha,if_neg n1,aaa hb,if_neg n2,zaa]
   by_cases h10:10≤p.length
   ·rw [decide_eq_true omg,cond_true,if_neg (by rintro⟨_,h⟩;omega)]
   ·have hv:=decVal_lt 17 p omg hp
    rw [decide_eq_false omg,cond_false,hx,aaa (abb _ omg omg),aaa hb,aaa (abb _ omg omg),aaa (abb _ omg omg)]
    have e:(10:Int)*(aef p:Int)+((c.toNat-48:Nat):Int)=(aef (p++[c]):Int):=by rw [ato];omega
    rw [e,aqp p c,zaT,hc,zax]
    exact ih (p++[c]) fk (by rw [h];simp) omg (by rw [List.all_append,hp];simpa using hc) (by simp;omega)
theorem refNumber_eq(s:Str)(hs:s.length≤4194304):atw FU s=some (numQ s):=by
 unfold atw numQ
 have:=refNumberQ_lp s hs s [] FU (by simp) (by rw [adq];omega) (by simp) (by simp)
 change ajy FU s FU (0:Int) (0:Int)=_ at this
 rw [this,zaa]
 by_cases h1:s=[]
 ·subst h1;rfl
 have h0:0<s.length:=List.length_pos_iff.2 h1
 by_cases h2:s.all aby=true∧s.length≤10
 ·rw [if_pos h2,zaz,if_neg h1,if_neg (show¬(s.length<1∨10<s.length∨s.all aby=false)by rintro(h|h|h)<;>first|omega|(rw [h2.1]at h;cases h))]
  by_cases h4:2147483647<aef s
  ·rw [if_pos omg,if_pos h4]
  ·rw [if_neg omg,if_neg h4]
 ·rw [if_neg h2,zaR,if_pos]
  by_cases h3:10<s.length
  ·exact .inr (.inl h3)
  ·cases h4:s.all aby with
   |false=>exact .inr (.inr rfl)
   |true=>exact absurd ⟨h4,by omega⟩ h2
def portQ(s:Str):Int×UInt8:=if(numQ s).2=0∧((numQ s).1<1∨65535<(numQ s).1)then(0,3)else numQ s
end Go.Wk
set_option maxRecDepth 100000
namespace Go.Wk
open Go.Px
open Int renaming toNat_natCast → zat
open UInt8 renaming ofNat → zbi
theorem dig_of:∀n:Fin 10,aby (zbi (48+n.val))=true∧(zbi (48+n.val)).toNat-48=n.val∧sub ([48,49,50,51,52,53,54,55,56,57]:Str) (n.val:Int) ((n.val:Int)+1)=[zbi (48+n.val)]:=by decide+kernel
theorem dig_at(n:Nat)(h:n<10):aby (zbi (48+n))=true∧(zbi (48+n)).toNat-48=n∧sub ([48,49,50,51,52,53,54,55,56,57]:Str) (n:Int) ((n:Int)+1)=[zbi (48+n)]:=dig_of ⟨n,h⟩
theorem dd_ok:∀(k n:Nat),n<10^(k+1)→(Lib.decDigits n).all aby=true∧aef (Lib.decDigits n)=n∧1≤(Lib.decDigits n).length∧(Lib.decDigits n).length≤k+1:=by
 intro k
 induction k with
 |zero=>
  intro n h
  have h:n<10:=by simpa using h
  have:=dig_at n h
  rw [Lib.decDigits,dif_pos h]
  refine⟨by simpa using this.1, ?_,by simp,by simp⟩
  show 10*0+_=n
  omega
 |succ k ih=>
  intro n h
  rw [Lib.decDigits]
  by_cases h1:n<10
  ·have:=dig_at n h1
   rw [dif_pos h1]
   refine⟨by simpa using this.1, ?_,by simp,by simp⟩
   show 10*0+_=n
   omega
  ·have hd:=dig_at (n%10) (Nat.mod_lt _ (by decide))
   have:=ih (n/10) (by rw [Nat.pow_succ]at h;omega)
   rw [dif_neg h1]
   refine⟨by rw [List.all_append,this.1];simpa using hd.1, ?_,by simp,by simp;omega⟩
   rw [ato,this.2.1,hd.2.1]
   omega
theorem itoa_nat(n:Nat):Lib.itoa (n:Int)=Lib.decDigits n:=by
 unfold Lib.itoa
 rw [if_neg (by omega),zat]
theorem itoa_port(n:Int)(h0:0≤n)(h:n≤65535):numQ (Lib.itoa n)=(n,0)∧1≤(Lib.itoa n).length∧(Lib.itoa n).length≤5∧(Lib.itoa n).all aby=true:=by
 obtain⟨m,rfl⟩:∃m:Nat,n=(m:Int):=⟨n.toNat,by omega⟩
 obtain⟨h1,h2,h3,h4⟩:=dd_ok 4 m (by omega)
 rw [itoa_nat]
 refine⟨?_,h3,h4,h1⟩
 unfold numQ
 rw [h1,h2,if_neg (by rintro(h|h|h)<;>first|omega|cases h),if_neg (by omega)]
open List renaming drop_length → zbl, drop_zero → zbt
open Option renaming bind_some → zaa
theorem get_lp(l:List PP)(hl:l.length≤4194304)(hn:∀p∈l,p.1.length≤4194304)(y:Str)(n:Nat):∀(k fk:Nat),k+n=l.length→n<fk→
  ama FU l y fk (k:Int)=some (match(l.drop k).find? (fun p=>aab p.1==y)with|none=>.inl ()|some p=>.inr (p.2.1,true)):=by
 induction n with
 |zero=>
  intro k fk hk hf
  obtain⟨fk,rfl⟩:=fkx fk
  obtain rfl:k=l.length:=by omega
  rw [awr,anz,if_neg omg,zbl];rfl
 |succ n ih=>
  intro k fk hk hf
  obtain⟨fk,rfl⟩:=fkx fk
  have hlt:k<l.length:=by omega
  have hin:(0:Int)≤(k:Int)∧(k:Int)<(l.length:Int):=by omega
  have hd:l.drop k=el l (k:Int)::l.drop (k+1):=by rw [el_nat _ _ hlt,List.drop_eq_getElem_cons hlt]
  rw [awr,anz,if_pos hin.2,aaa hin,aaa hin,aox _ (hn _ (el_mem2 l k hlt)),zaa,hd,List.find?_cons]
  by_cases h:aab (el l (k:Int)).1=y
  ·rw [if_pos h,show(aab (el l (k:Int)).1==y)=true by simpa using h]
  ·rw [if_neg h,show(aab (el l (k:Int)).1==y)=false by simpa using h,aaa (abb _ omg omg),abl,ih (k+1) fk omg omg]
theorem get_eq(l:List PP)(hl:l.length≤4194304)(hn:∀p∈l,p.1.length≤4194304)(name:Str)(hm:name.length≤4194304):akh FU l name=some (getP l name):=by
 have:=get_lp l hl hn (aab name) l.length 0 FU omg (by rw [adq];omega)
 rw [zbt]at this
 have this':ama FU l (aab name) FU (0:Int)=_:=this
 unfold akh
 rw [aox _ hm,zaa,this',zaa]
 have e:getP l name=(match l.find? (fun p=>aab p.1==aab name)with|some p=>(p.2.1,true)|none=>([],false)):=rfl
 rw [e]
 cases l.find? (fun p=>aab p.1==aab name)<;>rfl
theorem contains_any(v:Str)(c:UInt8):Lib.contains v [c]=v.any (·==c):=by
 unfold Lib.contains
 rcases idx47 c v with⟨h1,h2⟩|⟨f,s2,h1,h2,h3⟩
 ·rw [h1,decide_eq_false omg]
  symm
  rw [List.any_eq_false]
  intro x hx
  simpa using h2 x hx
 ·rw [h3,decide_eq_true omg,h1]
  simp
theorem parM_names(s:Str)(hs:s.length≤4194304):∀(f:Nat) (l:List PP) (i:Nat),(∀p∈l,aab p.1=p.1∧p.1.length≤s.length∧p.2.1.length≤90000000)→∀p∈(parM s f l i).1,aab p.1=p.1∧p.1.length≤s.length∧p.2.1.length≤90000000
 |0,_,_,_=>by simp [parM]
 |f+1,l,i,h=>by
  rw [parM]
  split
  ·exact h
  ·split
   ·simp
   ·split
    ·rename_i h0
     have hb2:=abg aae s ((aai aae s (i:Int)+1:Nat):Int)
     have hbd:=listP_bd s hs _ hb2 h0
     split
     ·refine parM_names s hs f _ _ fun p hp=> ?_
      rcases List.mem_append.1 hp with hp|hp
      ·exact h p hp
      ·rw [List.mem_singleton.1 hp];exact⟨hbd.2.2.2.1,hbd.2.2.2.2.1,hbd.2.2.2.2.2⟩
     ·simp
    ·simp
theorem parP_names(s:Str)(hs:s.length≤4194304):∀p∈(parP s).1,aab p.1=p.1∧p.1.length≤s.length∧p.2.1.length≤90000000:=parM_names s hs _ [] 0 (by simp)
theorem parP_len(s:Str):(parP s).1.length≤16:=parM_len s _ [] 0 (by simp)
theorem port_ok(y:Int×UInt8):((if y.2=(0:UInt8)then(if y.1<(1:Int)then some true else some (decide ((65535:Int)<y.1)))else some false).bind fun(b:Bool)=>(bif b then some (3:UInt8)else some y.2))=some (if y.2=0∧(y.1<1∨65535<y.1)then 3 else y.2):=by
 by_cases h0:y.2=0
 ·rw [if_pos h0]
  by_cases h1:y.1<1
  ·rw [if_pos h1,if_pos ⟨h0,.inl h1⟩];rfl
  ·rw [if_neg h1]
   by_cases h2:65535<y.1
   ·rw [decide_eq_true h2,if_pos ⟨h0,.inr h2⟩];rfl
   ·rw [decide_eq_false h2,if_neg (by rintro⟨_,h|h⟩<;>contradiction)];rfl
 ·rw [if_neg h0,if_neg (fun h=>h0 h.1)];rfl
open Bool renaming not_false → zay, not_true → zap
open List renaming append_nil → zan, drop_drop → zbo, drop_eq_nil_of_le → zaI, drop_zero → zbt, length_append → zab, length_drop → zaj, length_singleton → zad, length_take → zaw, nil_append → zaH
open Nat renaming add_zero → zaK, le_refl → zam
open Sum renaming elim_inl → zaz
theorem ixb_hasB(l:Str)(c:UInt8):decide ((0:Int)≤ixb (·==c) l)=aoa l c:=ixb_has_dec l c
theorem inClass_eq(c:UInt8)(k:Int)(hk:k=0∨k=1∨k=2):alw FU c k=some (inC c k):=by
 unfold alw
 rw [ad_letter,zaa]
 have hin:∀b:Bool,inC c k=(b||aoa (classL k) c)→((some b).bind fun(v19:Bool)=>(bif v19 then some true else(((if(0:Int)≤k then(if k≤(2:Int)then(gd (0≤k∧k<(3:Int))<|(gd (0≤k∧k<(ana.length:Int))<|some (decide ((0:Int)≤(ixb (·==c) (el ana k))))))else some false)else some false)).bind fun(v48:Bool)=>some v48)))=some (inC c k):=by
  intro b hb
  rw [hb,zaa]
  cases b with
  |true=>rfl
  |false=>
   have hl:(ana.length:Int)=3:=rfl
   have hc:el ana k=classL k:=by rcases hk with rfl|rfl|rfl<;>rfl
   rw [cond_false,if_pos (by omega),if_pos (by omega),aaa (by omega),aaa (by omega),hc,ixb_hasB];rfl
 cases h1:azd c with
 |true=>rw [cond_true];exact hin true (by unfold inC;rw [h1];rfl)
 |false=>
  rw [cond_false,ad_digit,zaa]
  cases h2:aby c with
  |true=>rw [cond_true];exact hin true (by unfold inC;rw [h1,h2];rfl)
  |false=>
   rw [cond_false,ixb_hasB]
   exact hin _ (by unfold inC;rw [h1,h2];rfl)
theorem arl(s:Str)(c:UInt8)(hs:s.length≤4194304):aci FU s c=some (aoa s c):=by
 have h:=all_gen0 (fun b=> !(b==c)) s hs true (alb FU s c)
  (fun fk=>by rw [anf,agk,if_neg (by omega)])
  (fun fk k hk h=>by
   have h':at_ s (k:Int)=c:=by simpa using h
   rw [anf,agk,if_pos (by omega),gok,if_pos h'])
  (fun fk k hk h=>by
   have h':¬at_ s (k:Int)=c:=by simpa using h
   rw [anf,agk,if_pos (by omega),gok,if_neg h',gok])
 unfold aci
 rw [h,zaa]
 have e:s.all (fun b=> !(b==c))= !aoa s c:=by unfold aoa;rw [List.not_any_eq_all_not]
 rw [e]
 cases aoa s c<;>rfl
theorem rfIn_eq(c:UInt8)(k:Int)(hk:k=0∨k=1∨k=2):ayr FU c k=some (inC c k):=by
 unfold ayr
 rw [rf_letter,zaa]
 have hin:∀b:Bool,inC c k=(b||aoa (classL k) c)→((some b).bind fun(v21:Bool)=>(bif v21 then some true else(if k=(0:Int)then((aci FU ([38,61,43,36,44,59,63,47]:Str) c).bind fun(y43:Bool)=>some y43)else(if k=(1:Int)then((aci FU ([91,93,47,58,38,43,36]:Str) c).bind fun(y49:Bool)=>some y49)else(if k=(2:Int)then((aci FU ([91,93,47,63,58,43,36]:Str) c).bind fun(y55:Bool)=>some y55)else some false)))))=some (inC c k):=by
  intro b hb
  rw [hb,zaa]
  cases b with
  |true=>rfl
  |false=>
   rw [cond_false,arl _ _ (by decide),arl _ _ (by decide),arl _ _ (by decide)]
   rcases hk with rfl|rfl|rfl<;>rfl
 cases h1:azd c with
 |true=>rw [cond_true];exact hin true (by unfold inC;rw [h1];rfl)
 |false=>
  rw [cond_false,rf_digit,zaa]
  cases h2:aby c with
  |true=>rw [cond_true];exact hin true (by unfold inC;rw [h1,h2];rfl)
  |false=>
   rw [cond_false,arl _ _ (by decide),zaa]
   exact hin _ (by unfold inC;rw [h1,h2];rfl)
def hx(c:UInt8):UInt8:=((adu FU c).getD (0,false)).1
theorem hexD_eq:∀c:UInt8,adu FU c=some (hx c,hexB c):=aaz _ (by decide+kernel)
theorem rfHex_yes:∀c:UInt8,hexB c=true→akl FU c=some ((hx c).toNat:Int):=aaz _ (by decide+kernel)
theorem hx_lt:∀c:UInt8,(hx c).toNat<16:=aaz _ (by decide+kernel)
theorem rfHex_no:∀c:UInt8,hexB c=false→akl FU c=some (-1):=aaz _ (by decide+kernel)
theorem shl_or:∀a b:Fin 16,(shl8 (zbi a.val) (4:Int))|||zbi b.val=zbi (16*a.val+b.val):=by decide+kernel
def esV(a b:UInt8):UInt8:=zbi (16*(hx a).toNat+(hx b).toNat)
theorem shl_or'(a b:UInt8):(shl8 (hx a) (4:Int))|||hx b=esV a b:=by
 have:=shl_or ⟨(hx a).toNat,hx_lt a⟩ ⟨(hx b).toNat,hx_lt b⟩
 simp only [UInt8.ofNat_toNat]at this
 exact this
def escH(l:Str):Option UInt8:=if 2<l.length∧at_ l 0=37∧hexB (at_ l 1)=true∧hexB (at_ l 2)=true then some (esV (at_ l 1) (at_ l 2))else none
theorem awi(s:Str)(i:Nat)(j:Nat):at_ (s.drop i) (j:Int)=at_ s ((i+j:Nat):Int):=by
 simp only [at_,zat,List.getD_eq_getElem?_getD,List.getElem?_drop]
theorem escAt_eq(s:Str)(hs:s.length≤4194304)(i:Nat)(hi:i<s.length):∃v,akd FU s (i:Int)=some (v,(escH (s.drop i)).isSome)∧((escH (s.drop i)).isSome=true→escH (s.drop i)=some v):=by
 have a0:=awi s i 0
 have a1:=awi s i 1
 have a2:=awi s i 2
 have e1:(i:Int)+1=((i+1:Nat):Int):=rfl
 have e2:(i:Int)+2=((i+2:Nat):Int):=rfl
 have hl:(s.drop i).length=s.length-i:=zaj
 rw [zaK]at a0
 have a0':at_ (s.drop i) 0=at_ s (i:Int):=a0
 have a1':at_ (s.drop i) 1=at_ s ((i+1:Nat):Int):=a1
 have a2':at_ (s.drop i) 2=at_ s ((i+2:Nat):Int):=a2
 unfold akd escH
 rw [aaa (abb _ (by omega) (by omega)),e1,e2,hl,a0',a1',a2']
 by_cases h2:s.length≤i+2
 ·rw [if_pos (by omega),zaa,cond_true,if_neg (by omega)]
  exact⟨0,rfl,fun h=>absurd h (by decide)⟩
 ·rw [if_neg (by omega),aaa (by omega),zaa]
  by_cases h37:at_ s (i:Int)=37
  ·rw [decide_eq_true h37,zap,cond_false,aaa (abb _ (by omega) (by omega)),aaa (by omega),hexD_eq,zaa,aaa (abb _ (by omega) (by omega)),aaa (by omega),hexD_eq,zaa,shl_or']
   cases ha:hexB (at_ s ((i+1:Nat):Int))with
   |false=>
    rw [cond_false,zaa,if_neg (fun h=>absurd h.2.2.1 (by decide))]
    exact⟨_,rfl,fun h=>absurd h (by decide)⟩
   |true=>
    rw [cond_true,zaa]
    cases hb:hexB (at_ s ((i+2:Nat):Int))with
    |false=>
     rw [if_neg (fun h=>absurd h.2.2.2 (by decide))]
     exact⟨_,rfl,fun h=>absurd h (by decide)⟩
    |true=>
     rw [if_pos ⟨by omega,h37,rfl,rfl⟩]
     exact⟨_,rfl,fun _=>rfl⟩
  ·rw [decide_eq_false h37,zay,cond_true,if_neg (fun h=>h37 h.2.1)]
   exact⟨0,rfl,fun h=>absurd h (by decide)⟩
theorem u8i_bk:∀c:UInt8,u8i (c.toNat:Int)=c:=aaz _ (by decide+kernel)
theorem rfEsc_eq(s:Str)(hs:s.length≤4194304)(i:Nat)(hi:i<s.length):atu FU s (i:Int)=some (match escH (s.drop i)with|some v=>(v.toNat:Int)|none=> -1):=by
 have a0:=awi s i 0
 have a1:=awi s i 1
 have a2:=awi s i 2
 have e1:(i:Int)+1=((i+1:Nat):Int):=rfl
 have e2:(i:Int)+2=((i+2:Nat):Int):=rfl
 have hl:(s.drop i).length=s.length-i:=zaj
 rw [zaK]at a0
 have a0':at_ (s.drop i) 0=at_ s (i:Int):=a0
 have a1':at_ (s.drop i) 1=at_ s ((i+1:Nat):Int):=a1
 have a2':at_ (s.drop i) 2=at_ s ((i+2:Nat):Int):=a2
 unfold atu escH
 rw [aaa (abb _ (by omega) (by omega)),e1,e2,hl,a0',a1',a2']
 by_cases h2:s.length≤i+2
 ·rw [if_pos (by omega),zaa,cond_true,if_neg (by omega)]
 ·rw [if_neg (by omega),aaa (by omega)]
  by_cases h37:at_ s (i:Int)=37
  ·rw [if_pos h37,aaa (abb _ (by omega) (by omega)),aaa (by omega)]
   cases ha:hexB (at_ s ((i+1:Nat):Int))with
   |false=>rw [rfHex_no _ ha,zaa,if_pos (by decide),zaa,cond_true,if_neg (fun h=>absurd h.2.2.1 (by decide))]
   |true=>
    have hA:=hx_lt (at_ s ((i+1:Nat):Int))
    rw [rfHex_yes _ ha,zaa,if_neg (by omega),aaa (abb _ (by omega) (by omega)),aaa (by omega)]
    cases hb:hexB (at_ s ((i+2:Nat):Int))with
    |false=>rw [rfHex_no _ hb,zaa,zaa,show decide ((-1:Int)<0)=true by decide,cond_true,if_neg (fun h=>absurd h.2.2.2 (by decide))]
    |true=>
     have hB:=hx_lt (at_ s ((i+2:Nat):Int))
     rw [rfHex_yes _ hb,zaa,zaa,decide_eq_false (by omega),cond_false,aaa (abb _ (by omega) (by omega)),aaa (by omega),zaa,aaa (abb _ (by omega) (by omega)),aaa (abb _ (by omega) (by omega)),aaa (by omega),zaa,aaa (abb _ (by omega) (by omega)),if_pos ⟨by omega,h37,rfl,rfl⟩]
     unfold esV
     have:(zbi (16*(hx (at_ s ((i+1:Nat):Int))).toNat+(hx (at_ s ((i+2:Nat):Int))).toNat)).toNat=16*(hx (at_ s ((i+1:Nat):Int))).toNat+(hx (at_ s ((i+2:Nat):Int))).toNat:=by rw [UInt8.toNat_ofNat',Nat.mod_eq_of_lt (by omega)]
     simp only [this]
     congr 1
  ·rw [if_neg h37,zaa,cond_true,if_neg (fun h=>h37 h.2.1)]
def badF(k:Int):Nat→Str→Option Nat
 |0,_=>none
 |f+1,l=>if l=[]then none else if inC (at_ l 0) k=true then(badF k f (l.drop 1)).map (·+1)
  else match escH l with
   |some v=>if abf v=true then some 0 else(badF k f (l.drop 3)).map (·+3)
   |none=>some 0
def conF(k:Int):Nat→Str→Str
 |0,_=>[]
 |f+1,l=>if l=[]then []else if inC (at_ l 0) k=true then at_ l 0::conF k f (l.drop 1)
  else match escH l with
   |some v=>v::conF k f (l.drop 3)
   |none=>[]
def badP(k:Int)(l:Str):Option Nat:=badF k (l.length+1) l
def conP(k:Int)(l:Str):Str:=conF k (l.length+1) l
theorem inC37(k:Int)(hk:k=0∨k=1∨k=2):inC 37 k=false:=by rcases hk with rfl|rfl|rfl<;>decide
theorem awh{l:Str}{v:UInt8}(h:escH l=some v):2<l.length∧at_ l 0=37:=by
 unfold escH at h
 split at h
 ·rename_i hc;exact⟨hc.1,hc.2.1⟩
 ·cases h
theorem ad_control(c:UInt8):apo FU c=some (abf c):=by revert c;exact aaz _ (by decide+kernel)
theorem wrong_lp(s:Str)(i0:Int)(e:Nat)(hs:s.length≤4194304)(he:e≤s.length)(k:Int)(hk:k=0∨k=1∨k=2)(n:Nat):∀(i fk f:Nat),e-i≤n→n<fk→i≤e→e-i<f→
  afs FU (s,i0) (e:Int) k fk (i:Int)=some (match badF k f ((s.take e).drop i)with|none=>.inl ()|some j=>.inr (((i+j:Nat):Int),true)):=by
 induction n with
 |zero=>
  intro i fk f hi hf hie hff
  obtain⟨fk,rfl⟩:=fkx fk
  obtain⟨f,rfl⟩:∃m,f=m+1:=⟨f-1,by omega⟩
  rw [ahp,adj,if_neg (by omega),badF,if_pos (zaI (by rw [zaw];omega))]
 |succ n ih=>
  intro i fk f hi hf hie hff
  obtain⟨fk,rfl⟩:=fkx fk
  obtain⟨f,rfl⟩:∃m,f=m+1:=⟨f-1,by omega⟩
  by_cases hlt:i<e
  ·have hlen:((s.take e).drop i).length=e-i:=by rw [zaj,zaw];omega
   have hne:¬(s.take e).drop i=[]:=fun h=>by rw [h]at hlen;simp at hlen;omega
   have hat:at_ ((s.take e).drop i) 0=at_ s (i:Int):=by
    have:=awi (s.take e) i 0
    rw [zaK]at this
    rw [show at_ ((s.take e).drop i) 0=at_ (s.take e) (i:Int)from this]
    simp only [at_,zat,List.getD_eq_getElem?_getD]
    rw [List.getElem?_take_of_lt hlt]
   have d1:((s.take e).drop i).drop 1=(s.take e).drop (i+1):=by rw [zbo]
   have d3:((s.take e).drop i).drop 3=(s.take e).drop (i+3):=by rw [zbo]
   rw [ahp,adj,if_pos (by omega),aaa (show 0≤(i:Int)∧(i:Int)<(s.length:Int)by omega),inClass_eq _ k hk,zaa,badF,if_neg hne,hat]
   cases hc:inC (at_ s (i:Int)) k with
   |true=>
    rw [cond_true,aaa (abb _ (by omega) (by omega)),abl,ih (i+1) fk f (by omega) (by omega) (by omega) (by omega),if_pos rfl,d1]
    cases badF k f ((s.take e).drop (i+1))with
    |none=>rfl
    |some j=>
     show some (Sum.inr _)=some (Sum.inr _)
     congr 3
     try dsimp only
     omega
   |false=>
    have htl:(s.take e).length=e:=by rw [zaw];omega
    obtain⟨v,h1,h2⟩:=escAt_eq (s.take e) (by omega) i (by omega)
    rw [cond_false,aaa (show 0≤(e:Int)∧(e:Int)≤(s.length:Int)by omega),zat,h1,zaa,if_neg (show¬(false=true)by decide)]
    cases hE:escH ((s.take e).drop i)with
    |none=>
     simp only [Option.isSome_none,zay,cond_true,zaa]
     congr 3
    |some v'=>
     rw [hE]at h2
     obtain rfl:v'=v:=by have:=h2 rfl;simpa using this
     have hl3:=(awh hE).1
     simp only [Option.isSome_some,zap,cond_false]
     rw [ad_control,zaa,zaa]
     cases hcv:abf v' with
     |true=>rw [cond_true,if_pos rfl];rfl
     |false=>
      rw [cond_false,aaa (abb _ (by omega) (by omega)),aaa (abb _ (by omega) (by omega)),if_neg (show¬(false=true)by decide),d3]
      have e3:(i:Int)+2+1=((i+3:Nat):Int):=by omega
      rw [e3,ih (i+3) fk f (by omega) (by omega) (by omega) (by omega)]
      cases badF k f ((s.take e).drop (i+3))with
      |none=>rfl
      |some j=>
       show some (Sum.inr _)=some (Sum.inr _)
       congr 3
       try dsimp only
       omega
  ·rw [ahp,adj,if_neg (by omega),badF,if_pos (zaI (by rw [zaw];omega))]
theorem wrong_eq(s:Str)(hs:s.length≤4194304)(i e:Nat)(hie:i≤e)(he:e≤s.length)(k:Int)(hk:k=0∨k=1∨k=2):
  adx FU (s,(i:Int)) (e:Int) k=some (match badP k (sub s (i:Int) (e:Int))with|none=>((0:Int),false)|some j=>(((i+j:Nat):Int),true)):=by
 have hsub:sub s (i:Int) (e:Int)=(s.take e).drop i:=by unfold sub;rw [zat,zat,List.drop_take]
 have hlen:((s.take e).drop i).length=e-i:=by rw [zaj,zaw];omega
 have:=wrong_lp s (i:Int) e hs he k hk (e-i) i FU ((sub s (i:Int) (e:Int)).length+1) (zam _) (by rw [adq];omega) hie (by rw [hsub,hlen];omega)
 unfold adx
 simp only
 rw [this,zaa,←hsub]
 unfold badP
 cases badF k ((sub s (i:Int) (e:Int)).length+1) (sub s (i:Int) (e:Int))<;>rfl
theorem unesc_lp(s:Str)(hs:s.length≤4194304)(k:Int)(hk:k=0∨k=1∨k=2)(n:Nat):∀(i fk f:Nat) (b:Str),s.length-i≤n→n<fk→i≤s.length→s.length-i<f→b.length≤i→badF k f (s.drop i)=none→
  afw FU s fk b (i:Int)=some (.inl (b++conF k f (s.drop i))):=by
 induction n with
 |zero=>
  intro i fk f b hi hf hie hff hb hbad
  obtain⟨fk,rfl⟩:=fkx fk
  obtain⟨f,rfl⟩:∃m,f=m+1:=⟨f-1,by omega⟩
  rw [alz,afk,if_neg (by omega),conF,if_pos (zaI (by omega)),zan]
 |succ n ih=>
  intro i fk f b hi hf hie hff hb hbad
  obtain⟨fk,rfl⟩:=fkx fk
  obtain⟨f,rfl⟩:∃m,f=m+1:=⟨f-1,by omega⟩
  by_cases hlt:i<s.length
  ·have hin:0≤(i:Int)∧(i:Int)<(s.length:Int):=by omega
   have hlen:(s.drop i).length=s.length-i:=zaj
   have hne:¬s.drop i=[]:=fun h=>by rw [h]at hlen;simp at hlen;omega
   have hat:at_ (s.drop i) 0=at_ s (i:Int):=by
    have:=awi s i 0
    rw [zaK]at this;exact this
   have d1:(s.drop i).drop 1=s.drop (i+1):=by rw [zbo]
   have d3:(s.drop i).drop 3=s.drop (i+3):=by rw [zbo]
   rw [badF,if_neg hne,hat]at hbad
   rw [alz,afk,if_pos hin.2,aaa hin,conF,if_neg hne,hat]
   by_cases hc:inC (at_ s (i:Int)) k=true
   ·have h37:¬at_ s (i:Int)=37:=fun e=>by rw [e,inC37 k hk]at hc;cases hc
    rw [if_pos hc,Option.map_eq_none_iff,d1]at hbad
    rw [if_neg h37,aaa hin,aaa (by simp only [zad];omega),aaa (abb _ (by omega) (by omega)),abl,ih (i+1) fk f _ (by omega) (by omega) (by omega) (by omega) (by simp only [zab,zad];omega) hbad,if_pos hc,d1]
    simp
   ·rw [if_neg hc]at hbad⊢
    cases hE:escH (s.drop i)with
    |none=>rw [hE]at hbad;cases hbad
    |some v=>
     rw [hE]at hbad
     simp only at hbad
     have hl3:=(awh hE).1
     have h37:at_ s (i:Int)=37:=by rw [←hat];exact(awh hE).2
     obtain⟨v',h1,h2⟩:=escAt_eq s hs i hlt
     rw [hE]at h1 h2
     obtain rfl:v=v':=by have:=h2 rfl;simpa using this
     by_cases hcv:abf v=true
     ·rw [if_pos hcv]at hbad;cases hbad
     ·rw [if_neg hcv,Option.map_eq_none_iff,d3]at hbad
      have e3:(i:Int)+2+1=((i+3:Nat):Int):=by omega
      rw [if_pos h37,h1,zaa]
      simp only [Option.isSome_some,zap,cond_false]
      rw [aaa (by simp only [zad];omega),aaa (abb _ (by omega) (by omega)),aaa (abb _ (by omega) (by omega)),e3,ih (i+3) fk f _ (by omega) (by omega) (by omega) (by omega) (by simp only [zab,zad];omega) hbad,d3]
      simp
  ·rw [alz,afk,if_neg (by omega),conF,if_pos (zaI (by omega)),zan]
theorem content_eq(s:Str)(hs:s.length≤4194304)(k:Int)(hk:k=0∨k=1∨k=2)(hbad:badP k s=none):aic FU s=some (conP k s):=by
 have:=unesc_lp s hs k hk s.length 0 FU (s.length+1) [] (by omega) (by rw [adq];omega) (by omega) (by omega) (by simp) (by rw [zbt];exact hbad)
 have this':afw FU s FU ([]:List UInt8) (0:Int)=_:=this
 unfold aic asw
 rw [gd_mk (by omega),this',zaa,zaz,zaa,zaH,zbt];rfl
open Go.Lib renaming indexAny → zaX
open List renaming append_nil → zan, drop_drop → zbo, drop_eq_nil_of_le → zaI, length_append → zab, length_cons → zac, length_drop → zaj, length_singleton → zad, length_take → zaw, nil_append → zaH
open Sum renaming elim_inl → zaz, elim_inr → zaR
open UInt8 renaming toNat_lt → zbk
abbrev RR:=Str×Int×Int×UInt8
def awg(r:RR)(a:Int)(e:UInt8):RR:=if r.2.2.2=0 then(r.1,r.2.1,a,e)else r
theorem agh(r:RR)(a:Int)(e:UInt8):aag FU r a e=some (awg r a e):=by
 unfold aag awg
 split<;>rfl
theorem failR_1(r:RR)(a:Int)(e:UInt8):(awg r a e).1=r.1∧(awg r a e).2.1=r.2.1:=by unfold awg;split<;>exact⟨rfl,rfl⟩
def utl(st:Str)(s:Str)(i:Nat):Nat:=i+alj (fun c=> !aoa st c) (s.drop i)
theorem ame(st s:Str)(i:Nat):i≤utl st s i:=Nat.le_add_right _ _
theorem aks(st s:Str)(i:Nat)(hi:i≤s.length):utl st s i≤s.length:=by
 have:=arw (fun c=> !aoa st c) (s.drop i)
 rw [zaj]at this
 unfold utl;omega
theorem contains_hasB(st:Str):(fun c=>st.contains c)=aoa st:=by
 funext c
 unfold aoa
 rw [List.contains_eq_any_beq]
 congr 1
 funext b
 exact Bool.beq_comm
theorem avc(s:Str)(hs:s.length≤4194304)(i:Nat)(hi:i≤s.length)(st:Str)(h1:st.length≤1000)(h2:st.all (fun b=>decide (b.toNat<128))=true):aak FU s (i:Int) st=some ((utl st s i:Nat):Int):=by
 have hd:(s.drop i).length=s.length-i:=zaj
 have hsp:=ixb_spec (aoa st) (s.drop i)
 have hi':zaX (s.drop i) st=ixb (aoa st) (s.drop i):=by rw [axa,contains_hasB]
 unfold aak utl
 rw [aaa (by omega),zat,aaa ⟨by omega,h1,h2⟩,hi']
 rcases hsp with⟨h3,h4⟩|⟨h3,h4,h5⟩
 ·rw [if_neg (by omega),h4,hd]
  congr 1
  try dsimp only
  omega
 ·rw [if_pos h3,aaa (abb _ (by omega) (by omega)),h5];rfl
theorem ati(s:Str)(hs:s.length≤4194304)(i:Nat)(hi:i≤s.length)(a:Int)(e:UInt8)(st:Str)(h1:st.length≤1000):abk FU (s,(i:Int),a,e) st=some ((utl st s i:Nat):Int):=by
 have:=skip_gen (fun c=> !aoa st c) s (ags FU (s,(i:Int),a,e) st)
  (fun fk=>by rw [ajh,aea,if_neg (show¬((s.length:Int)<(s.length:Int))by omega)];rfl)
  (fun fk k hk h=>by
   have h':aoa st (at_ s (k:Int))=true:=by simpa using h
   rw [ajh,aea,if_pos (show(k:Int)<(s.length:Int)by omega),aaa (show 0≤(k:Int)∧(k:Int)<(s.length:Int)by omega),arl _ _ (by omega),h'];rfl)
  (fun fk k hk h=>by
   have h':aoa st (at_ s (k:Int))=false:=by simpa using h
   rw [ajh,aea,if_pos (show(k:Int)<(s.length:Int)by omega),aaa (show 0≤(k:Int)∧(k:Int)<(s.length:Int)by omega),arl _ _ (by omega),h',zaa,zay,zaa,cond_true,gok])
  (s.length-i) i FU (by omega) (by rw [adq];omega)
 unfold abk
 simp only
 rw [this];rfl
theorem ayw(st s:Str)(i:Nat)(hi:i≤s.length)(h:utl st s i<s.length):aoa st (at_ s ((utl st s i:Nat):Int))=true:=by
 have hd:(s.drop i).length=s.length-i:=zaj
 have key:∀l:Str,alj (fun c=> !aoa st c) l<l.length→aoa st (at_ l (alj (fun c=> !aoa st c) l:Int))=true:=by
  intro l
  induction l with
  |nil=>intro h;simp at h
  |cons a l ih=>
   intro h
   cases ha:aoa st a with
   |true=>
    have e:alj (fun c=> !aoa st c) (a::l)=0:=span_no _ a l (by simp [ha])
    rw [e];exact ha
   |false=>
    have e:alj (fun c=> !aoa st c) (a::l)=alj (fun c=> !aoa st c) l+1:=by rw [alj,if_pos (by simp [ha])]
    rw [e]at h⊢
    have:=ih (by simp only [zac]at h;omega)
    simpa [at_] using this
 unfold utl at h⊢
 have:=key (s.drop i) (by omega)
 rw [awi]at this
 exact this
theorem rfCon_lp(s:Str)(i0:Int)(a:Int)(er:UInt8)(e:Nat)(hs:s.length≤4194304)(he:e≤s.length)(k:Int)(hk:k=0∨k=1∨k=2)(n:Nat):∀(i fk f:Nat) (out:Str),e-i≤n→n<fk→i≤e→e-i<f→out.length≤i→
  afr FU (s,i0,a,er) (e:Int) k fk out (i:Int)=some (match badF k f ((s.take e).drop i)with|none=>.inl (out++conF k f ((s.take e).drop i))|some j=>.inr ([],awg (s,i0,a,er) ((i+j:Nat):Int) 5)):=by
 induction n with
 |zero=>
  intro i fk f out hi hf hie hff ho
  obtain⟨fk,rfl⟩:=fkx fk
  obtain⟨f,rfl⟩:∃m,f=m+1:=⟨f-1,by omega⟩
  have hn:(s.take e).drop i=[]:=zaI (by rw [zaw];omega)
  rw [ahn,adi,if_neg (by omega),badF,if_pos hn,conF,if_pos hn,zan]
 |succ n ih=>
  intro i fk f out hi hf hie hff ho
  obtain⟨fk,rfl⟩:=fkx fk
  obtain⟨f,rfl⟩:∃m,f=m+1:=⟨f-1,by omega⟩
  by_cases hlt:i<e
  ·have hlen:((s.take e).drop i).length=e-i:=by rw [zaj,zaw];omega
   have hne:¬(s.take e).drop i=[]:=fun h=>by rw [h]at hlen;simp at hlen;omega
   have hat:at_ ((s.take e).drop i) 0=at_ s (i:Int):=by
    have:=awi (s.take e) i 0
    rw [zaK]at this
    rw [show at_ ((s.take e).drop i) 0=at_ (s.take e) (i:Int)from this]
    simp only [at_,zat,List.getD_eq_getElem?_getD]
    rw [List.getElem?_take_of_lt hlt]
   have d1:((s.take e).drop i).drop 1=(s.take e).drop (i+1):=by rw [zbo]
   have d3:((s.take e).drop i).drop 3=(s.take e).drop (i+3):=by rw [zbo]
   have hin:0≤(i:Int)∧(i:Int)<(s.length:Int):=by omega
   rw [ahn,adi,if_pos (by omega),aaa hin,badF,conF,if_neg hne,if_neg hne,hat]
   by_cases h37:at_ s (i:Int)=37
   ·have h37':((at_ s (i:Int)).toNat:Int)=37:=by rw [h37];rfl
    have hc:¬inC (at_ s (i:Int)) k=true:=by rw [h37,inC37 k hk];decide
    have htl:(s.take e).length=e:=by rw [zaw];omega
    rw [if_pos h37',aaa (show 0≤(e:Int)∧(e:Int)≤(s.length:Int)by omega),zat,rfEsc_eq (s.take e) (by omega) i (by omega),zaa,if_neg hc,if_neg hc]
    cases hE:escH ((s.take e).drop i)with
    |none=>
     simp only
     rw [if_pos (by decide),zaa,cond_true,agh,zaa,zaa,zaR];rfl
    |some v=>
     have hl3:=(awh hE).1
     have hvb:=zbk v
     simp only
     rw [if_neg (by omega),u8i_bk,azb,zaa,zaa]
     cases hcv:abf v with
     |true=>
      rw [cond_true,agh,zaa,zaa,zaR,if_pos rfl];rfl
     |false=>
      rw [cond_false,aaa (abb _ (by omega) (by omega)),zaa,zaz,if_neg (show¬(false=true)by decide),d3]
      simp only
      have e3:(i:Int)+2+1=((i+3:Nat):Int):=by omega
      rw [u8i_bk,aaa (by simp only [zad];omega),aaa (abb _ (by omega) (by omega)),e3,ih (i+3) fk f _ (by omega) (by omega) (by omega) (by omega) (by simp only [zab,zad];omega)]
      cases badF k f ((s.take e).drop (i+3))with
      |none=>simp
      |some j=>
       show some (Sum.inr _)=some (Sum.inr _)
       congr 4
       try dsimp only
       omega
   ·have h37':¬((at_ s (i:Int)).toNat:Int)=37:=fun h=>h37 (UInt8.toNat_inj.1 (by have:(37:UInt8).toNat=37:=rfl;omega))
    rw [if_neg h37',u8i_bk,rfIn_eq _ k hk,zaa]
    cases hc:inC (at_ s (i:Int)) k with
    |true=>
     rw [zap,cond_false,zaa,zaz,if_pos rfl,if_pos rfl,d1]
     simp only
     rw [u8i_bk,aaa (by simp only [zad];omega),aaa (abb _ (by omega) (by omega)),abl,ih (i+1) fk f _ (by omega) (by omega) (by omega) (by omega) (by simp only [zab,zad];omega)]
     cases badF k f ((s.take e).drop (i+1))with
     |none=>simp
     |some j=>
      show some (Sum.inr _)=some (Sum.inr _)
      congr 4
      try dsimp only
      omega
    |false=>
     have hE:escH ((s.take e).drop i)=none:=by
      cases hE:escH ((s.take e).drop i)with
      |none=>rfl
      |some v=>exact absurd (by rw [←hat];exact(awh hE).2) h37
     rw [zay,cond_true,agh,zaa,zaa,zaR,if_neg (show¬(false=true)by decide),hE];rfl
  ·have hn:(s.take e).drop i=[]:=zaI (by rw [zaw];omega)
   rw [ahn,adi,if_neg (by omega),badF,if_pos hn,conF,if_pos hn,zan]
theorem rfCon_eq(s:Str)(hs:s.length≤4194304)(i e:Nat)(hie:i≤e)(he:e≤s.length)(a:Int)(er:UInt8)(k:Int)(hk:k=0∨k=1∨k=2):
  acg FU (s,(i:Int),a,er) (e:Int) k=some (match badP k (sub s (i:Int) (e:Int))with|none=>(conP k (sub s (i:Int) (e:Int)),(s,(e:Int),a,er))|some j=>([],awg (s,(i:Int),a,er) ((i+j:Nat):Int) 5)):=by
 have hsub:sub s (i:Int) (e:Int)=(s.take e).drop i:=by unfold sub;rw [zat,zat,List.drop_take]
 have hlen:((s.take e).drop i).length=e-i:=by rw [zaj,zaw];omega
 have:=rfCon_lp s (i:Int) a er e hs he k hk (e-i) i FU ((sub s (i:Int) (e:Int)).length+1) [] (zam _) (by rw [adq];omega) hie (by rw [hsub,hlen];omega) (by simp)
 unfold acg
 simp only
 rw [this,zaa,←hsub]
 unfold badP conP
 cases badF k ((sub s (i:Int) (e:Int)).length+1) (sub s (i:Int) (e:Int))with
 |none=>simp only [zaH];rfl
 |some j=>rfl
theorem is_eq(s:Str)(i:Nat)(a:Int)(c:UInt8):abj FU (s,(i:Int),a,0) c=some (aax s i c):=by
 unfold abj
 simp only
 rw [if_pos trivial,rfSees];rfl
theorem is_no(s:Str)(i a:Int)(e:UInt8)(he:¬e=0)(c:UInt8):abj FU (s,i,a,e) c=some false:=by
 unfold abj
 simp only
 rw [if_neg he];rfl
theorem asn(k:Int):∀(f:Nat) (l:Str) (j:Nat),badF k f l=some j→j<l.length
 |0,_,_,h=>by cases h
 |f+1,l,j,h=>by
  rw [badF]at h
  by_cases hn:l=[]
  ·rw [if_pos hn]at h;cases h
  ·have hl:=List.length_pos_iff.2 hn
   rw [if_neg hn]at h
   split at h
   ·rw [Option.map_eq_some_iff]at h
    obtain⟨x,hx,rfl⟩:=h
    have:=asn k f _ x hx
    rw [zaj]at this;omega
   ·split at h
    ·rename_i v hE
     split at h
     ·rw [Option.some.injEq]at h;omega
     ·rw [Option.map_eq_some_iff]at h
      obtain⟨x,hx,rfl⟩:=h
      have:=asn k f _ x hx
      rw [zaj]at this;omega
    ·rw [Option.some.injEq]at h;omega
theorem conF_len(k:Int):∀(f:Nat) (l:Str),(conF k f l).length≤l.length
 |0,_=>by simp [conF]
 |f+1,l=>by
  rw [conF]
  by_cases hn:l=[]
  ·rw [if_pos hn];simp
  ·have hl:=List.length_pos_iff.2 hn
   rw [if_neg hn]
   split
   ·have:=conF_len k f (l.drop 1)
    rw [zaj]at this
    rw [zac];omega
   ·split
    ·have:=conF_len k f (l.drop 3)
     rw [zaj]at this
     rw [zac];omega
    ·simp
theorem conP_len(k:Int)(l:Str):(conP k l).length≤l.length:=conF_len k _ l
theorem conP_nil(k:Int)(l:Str)(hb:badP k l=none):conP k l=[]↔l=[]:=by
 unfold conP badP at*
 rw [conF]
 rw [badF]at hb
 by_cases hn:l=[]
 ·rw [if_pos hn];simp [hn]
 ·rw [if_neg hn]at hb⊢
  constructor
  ·intro h
   exfalso
   split at h
   ·cases h
   ·rename_i hc
    rw [if_neg hc]at hb
    split at h
    ·cases h
    ·rename_i hE
     rw [hE]at hb;cases hb
  ·intro h;exact absurd h hn
open List renaming any_cons → zbm, drop_drop → zbo, eq_nil_of_length_eq_zero → zao, length_append → zab, length_cons → zac, length_drop → zaj
open Nat renaming le_refl → zam
abbrev UU:=Str×Str×Str×Int×List PP×List PP
def usrP(U:Str):UInt8×Str:=match badP 0 U with|some j=>(if at_ U (j:Int)=58 then 15 else 5,[])|none=>if U=[]then(5,[])else(0,conP 0 U)
theorem utl1(b:UInt8)(s:Str)(i:Nat):utl [b] s i=i+alj (fun c=> !(c==b)) (s.drop i):=by
 have e:(fun c=> !aoa [b] c)=(fun c=> !(c==b)):=by
  funext c
  unfold aoa
  rw [zbm,List.any_nil,Bool.or_false,Bool.beq_comm]
 unfold utl
 rw [e]
theorem awj(A B:Str)(j:Nat)(h:j<A.length):at_ (A++B) (j:Int)=at_ A (j:Int):=by
 simp only [at_,zat,List.getD_eq_getElem?_getD]
 rw [List.getElem?_append_left h]
theorem escH_colon(A B:Str)(hA:∀c∈A,c≠58)(hne:A≠[]):escH (A++58::B)=escH A:=by
 have hl:=List.length_pos_iff.2 hne
 have a0:at_ (A++58::B) 0=at_ A 0:=awj A _ 0 hl
 have h58:hexB 58=false:=by decide
 unfold escH
 by_cases h3:2<A.length
 ·have a1:at_ (A++58::B) 1=at_ A 1:=awj A _ 1 (by omega)
  have a2:at_ (A++58::B) 2=at_ A 2:=awj A _ 2 (by omega)
  have hlen:2<(A++58::B).length:=by rw [zab,zac];omega
  rw [a0,a1,a2]
  by_cases hc:at_ A 0=37∧hexB (at_ A 1)=true∧hexB (at_ A 2)=true
  ·rw [if_pos ⟨hlen,hc⟩,if_pos ⟨h3,hc⟩]
  ·rw [if_neg (fun h=>hc h.2),if_neg (fun h=>hc h.2)]
 ·have hR:(if 2<A.length∧at_ A 0=37∧hexB (at_ A 1)=true∧hexB (at_ A 2)=true then some (esV (at_ A 1) (at_ A 2))else none)=none:=if_neg (fun h=>h3 h.1)
  rw [hR]
  refine if_neg fun h=> ?_
  by_cases h1:A.length=1
  ·have:at_ (A++58::B) 1=58:=by
    have:=ayp A 58 B
    rw [h1]at this;exact this
   rw [this,h58]at h
   exact absurd h.2.2.1 (by decide)
  ·have:at_ (A++58::B) 2=58:=by
    have h2:A.length=2:=by omega
    have:=ayp A 58 B
    rw [h2]at this;exact this
   rw [this,h58]at h
   exact absurd h.2.2.2 (by decide)
theorem bad_colon(B:Str):∀(f g:Nat) (A:Str),(∀c∈A,c≠58)→A.length<f→A.length+B.length+1<g→badF 0 g (A++58::B)=some (match badF 0 f A with|some j=>j|none=>A.length)
 |0,_,A,_,h,_=>by omega
 |f+1,g,A,hA,hf,hg=>by
  obtain⟨g,rfl⟩:∃m,g=m+1:=⟨g-1,by omega⟩
  have hne2:¬A++58::B=[]:=by simp
  rw [badF,badF,if_neg hne2]
  by_cases hn:A=[]
  ·subst hn
   have h0:at_ ([]++58::B) 0=58:=rfl
   have hE:escH ([]++58::B)=none:=by
    cases hE:escH ([]++58::B)with
    |none=>rfl
    |some v=>exact absurd (show(58:UInt8)=37 from(awh hE).2) (by decide)
   rw [h0,if_neg (show¬inC 58 0=true by decide),hE,if_pos rfl];rfl
  ·have hl:=List.length_pos_iff.2 hn
   have a0:at_ (A++58::B) 0=at_ A 0:=awj A _ 0 hl
   have hd:∀m,m≤A.length→(A++58::B).drop m=A.drop m++58::B:=fun m hm=>List.drop_append_of_le_length hm
   have hAd:∀m,∀c∈A.drop m,c≠58:=fun m c hc=>hA c (List.mem_of_mem_drop hc)
   rw [if_neg hn,a0]
   by_cases hc:inC (at_ A 0) 0=true
   ·rw [if_pos hc,if_pos hc,hd 1 hl,bad_colon B f g (A.drop 1) (hAd 1) (by rw [zaj];omega) (by rw [zaj];omega)]
    cases badF 0 f (A.drop 1)with
    |some j=>rfl
    |none=>
     show some _=some _
     congr 1
     rw [zaj]
     show A.length-1+1=A.length
     omega
   ·rw [if_neg hc,if_neg hc,escH_colon A B hA hn]
    cases hE:escH A with
    |none=>rfl
    |some v=>
     have h3:=(awh hE).1
     simp only
     by_cases hcv:abf v=true
     ·rw [if_pos hcv,if_pos hcv]
     ·rw [if_neg hcv,if_neg hcv,hd 3 (by omega),bad_colon B f g (A.drop 3) (hAd 3) (by rw [zaj];omega) (by rw [zaj];omega)]
      cases badF 0 f (A.drop 3)with
      |some j=>rfl
      |none=>
       show some _=some _
       congr 1
       rw [zaj]
       show A.length-3+3=A.length
       omega
theorem usr_colon(A B:Str)(hA:∀c∈A,c≠58):usrP (A++58::B)=(match badP 0 A with|some _=>5|none=>15,[]):=by
 have h:=bad_colon B (A.length+1) ((A++58::B).length+1) A hA (by omega) (by rw [zab,zac];omega)
 unfold usrP
 have h':badP 0 (A++58::B)=some (match badP 0 A with|some j=>j|none=>A.length):=h
 rw [h']
 cases hb:badP 0 A with
 |none=>simp only [ayp,if_true]
 |some j=>
  have hj:j<A.length:=asn 0 _ A j hb
  simp only
  rw [awj A _ j hj,if_neg (hA _ (at_mem A j hj))]
theorem usr_plain(U:Str)(hU:∀c∈U,c≠58):usrP U=match badP 0 U with|some _=>(5,[])|none=>if U=[]then(5,[])else(0,conP 0 U):=by
 unfold usrP
 cases hb:badP 0 U with
 |none=>rfl
 |some j=>
  have hj:j<U.length:=asn 0 _ U j hb
  simp only
  rw [if_neg (hU _ (at_mem U j hj))]
def hEnd(s:Str)(i:Nat):Nat:=if aax s i 91=true then min (utl [93] s i+1) s.length else utl [58,59,63] s i
def hpP (s : Str) (i : Nat) : UInt8 × Str × Int × Nat :=
  if (akx (sub s (i : Int) (hEnd s i : Int))).2 = false then (5, [], 0, 0)
  else if aax s (hEnd s i) 58 = true then
    (if (portQ (sub s ((hEnd s i + 1 : Nat) : Int) (utl [59, 63] s (hEnd s i + 1) : Int))).2 = 0 then (0, (akx (sub s (i : Int) (hEnd s i : Int))).1, (portQ (sub s ((hEnd s i + 1 : Nat) : Int) (utl [59, 63] s (hEnd s i + 1) : Int))).1, utl [59, 63] s (hEnd s i + 1))
     else ((portQ (sub s ((hEnd s i + 1 : Nat) : Int) (utl [59, 63] s (hEnd s i + 1) : Int))).2, [], 0, 0))
  else if hEnd s i < s.length ∧ aax s (hEnd s i) 59 = false ∧ aax s (hEnd s i) 63 = false then (5, [], 0, 0)
  else (0, (akx (sub s (i : Int) (hEnd s i : Int))).1, 0, hEnd s i)
theorem hEnd_bd(s:Str)(i:Nat)(hi:i≤s.length):i≤hEnd s i∧hEnd s i≤s.length:=by
 have h1:=ame [93] s i
 have h2:=aks [93] s i hi
 have h3:=ame [58,59,63] s i
 have h4:=aks [58,59,63] s i hi
 unfold hEnd
 split
 ·rename_i h
  have:=(acz h).1
  omega
 ·omega
def plP(s:Str)(i:Nat):UInt8×Str×(Str×Int×Nat):=
 if utl [64] s i<s.length then
  (if(usrP (sub s (i:Int) (utl [64] s i:Int))).1=0 then((hpP s (utl [64] s i+1)).1,(usrP (sub s (i:Int) (utl [64] s i:Int))).2,(hpP s (utl [64] s i+1)).2)else((usrP (sub s (i:Int) (utl [64] s i:Int))).1,[],[],0,0))
 else((hpP s i).1,[],(hpP s i).2)
theorem adHp_eq(s:Str)(hs:s.length≤4194304)(i:Nat)(hi:i≤s.length)(sch us:Str):∃a c u,0≤a∧a≤5000000∧((aak FU s (i:Int) ([58,59,63]:Str)).bind fun(y68:Int)=>((((aad FU (s,(i:Int)) (91:UInt8)).bind fun(y91:Bool)=>(bif y91 then((aak FU s (i:Int) ([93]:Str)).bind fun(y97:Int)=>(gd (aap (y97+(1:Int)))<|some (min (y97+(1:Int)) (s.length:Int))))else some y68))).bind fun(v90:Int)=>(gd (0≤(i:Int)∧(i:Int)≤v90∧v90≤(s.length:Int))<|((age FU (sub s (i:Int) v90)).bind fun(y108:(Str×Bool))=>(bif (!y108.2)then some ((i:Int),(5:UInt8),(s,(i:Int)),((sch,us,([]:Str),(0:Int),([]:List PP),([]:List PP)):UU))else((aad FU (s,v90) (58:UInt8)).bind fun(y118:Bool)=>(bif y118 then(gd (aap (v90+(1:Int)))<|((aak FU s (v90+(1:Int)) ([59,63]:Str)).bind fun(y127:Int)=>(gd (0≤(v90+(1:Int))∧(v90+(1:Int))≤y127∧y127≤(s.length:Int))<|((ako FU (sub s (v90+(1:Int)) y127)).bind fun(y135:(Int×UInt8))=>(((((if y135.2=(0:UInt8)then(if y135.1<(1:Int)then some true else some (decide ((65535:Int)<y135.1)))else some false)).bind fun(v160:Bool)=>(bif v160 then some (3:UInt8)else some y135.2))).bind fun(v154:UInt8)=>(if v154=(0:UInt8)then some ((0:Int),(0:UInt8),(s,y127),((sch,us,y108.1,y135.1,([]:List PP),([]:List PP)):UU))else some (v90+(1:Int),v154,(s,v90+(1:Int)),((sch,us,y108.1,(0:Int),([]:List PP),([]:List PP)):UU))))))))else((((ach FU (s,v90)).bind fun(y194:Bool)=>(bif (!y194)then((aad FU (s,v90) (59:UInt8)).bind fun(y200:Bool)=>(bif (!y200)then((aad FU (s,v90) (63:UInt8)).bind fun(y206:Bool)=>some (!y206))else some false))else some false))).bind fun(v193:Bool)=>(bif v193 then some (v90,(5:UInt8),(s,v90),((sch,us,y108.1,(0:Int),([]:List PP),([]:List PP)):UU))else some ((0:Int),(0:UInt8),(s,v90),((sch,us,y108.1,(0:Int),([]:List PP),([]:List PP)):UU)))))))))))
  =some (a,(hpP s i).1,c,u)∧((hpP s i).1=0→c=(s,((hpP s i).2.2.2:Int))∧u=(sch,us,(hpP s i).2.1,(hpP s i).2.2.1,[],[])):=by
 have hb:=hEnd_bd s i hi
 have e1:((if aax s i 91=true then some ((min (utl [93] s i+1) s.length:Nat):Int)else some ((utl [58,59,63] s i:Nat):Int)))=some ((hEnd s i:Nat):Int):=by unfold hEnd;split<;>rfl
 have e2:((aad FU (s,(i:Int)) (91:UInt8)).bind fun(y91:Bool)=>(bif y91 then((aak FU s (i:Int) ([93]:Str)).bind fun(y97:Int)=>(gd (aap (y97+(1:Int)))<|some (min (y97+(1:Int)) (s.length:Int))))else some ((utl [58,59,63] s i:Nat):Int)))=some ((hEnd s i:Nat):Int):=by
  have hu:=aks [93] s i hi
  rw [apr,zaa,←e1]
  cases aax s i 91 with
  |false=>rfl
  |true=>
   rw [cond_true,avc s hs i hi _ (by decide) (by decide),zaa,aaa (abb _ (by omega) (by omega)),if_pos rfl]
   congr 1
   try dsimp only
   omega
 rw [avc s hs i hi _ (by decide) (by decide),zaa,e2,zaa]
 unfold hpP
 generalize hEnd s i=e at hb⊢
 rw [aaa (by omega),adHost_eq _ (by rw [ajd];omega),zaa]
 cases hh:(akx (sub s (i:Int) (e:Int))).2 with
 |false=>exact⟨_,_,_,(by omega),(by omega),rfl,fun h=>by rw [if_pos rfl]at h;exact absurd h (by decide)⟩
 |true=>
  rw [zap,cond_false,if_neg (show¬(true=false)by decide),apr,zaa]
  cases h58:aax s e 58 with
  |true=>
   have hel:=(acz h58).1
   have hu1:=ame [59,63] s (e+1)
   have hu2:=aks [59,63] s (e+1) hel
   rw [cond_true,if_pos rfl,aaa (abb _ (by omega) (by omega)),abl,avc s hs (e+1) hel _ (by decide) (by decide),zaa,aaa (by omega),number_eq,zaa,port_ok,zaa]
   unfold portQ
   generalize numQ (sub s ((e+1:Nat):Int) ((utl [59,63] s (e+1):Nat):Int))=q
   by_cases hp:q.2=0∧(q.1<1∨65535<q.1)
   ·rw [if_pos hp,if_pos hp,if_neg (by decide),if_neg (by decide)]
    exact⟨_,_,_,(by omega),(by omega),rfl,fun h=>absurd h (by decide)⟩
   ·rw [if_neg hp,if_neg hp]
    by_cases h0:q.2=0
    ·rw [if_pos h0,if_pos h0];exact⟨_,_,_,(by omega),(by omega),rfl,fun _=>⟨rfl,rfl⟩⟩
    ·rw [if_neg h0,if_neg h0];exact⟨_,_,_,(by omega),(by omega),rfl,fun h=>absurd h h0⟩
  |false=>
   have e3:((ach FU (s,(e:Int))).bind fun(y194:Bool)=>(bif (!y194)then((aad FU (s,(e:Int)) (59:UInt8)).bind fun(y200:Bool)=>(bif (!y200)then((aad FU (s,(e:Int)) (63:UInt8)).bind fun(y206:Bool)=>some (!y206))else some false))else some false))=some (decide (e<s.length∧aax s e 59=false∧aax s e 63=false)):=by
    rw [ended_eq,zaa]
    by_cases hlt:e<s.length
    ·rw [decide_eq_false (show¬(s.length:Int)≤(e:Int)by omega),zay,cond_true,apr,zaa]
     cases h59:aax s e 59 with
     |true=>rw [decide_eq_false (by rintro⟨_,h,_⟩;cases h)];rfl
     |false=>
      rw [zay,cond_true,apr,zaa]
      cases h63:aax s e 63 with
      |true=>rw [decide_eq_false (by rintro⟨_,_,h⟩;cases h)];rfl
      |false=>rw [decide_eq_true ⟨hlt,rfl,rfl⟩];rfl
    ·rw [decide_eq_true (show(s.length:Int)≤(e:Int)by omega),decide_eq_false (fun h=>hlt h.1)];rfl
   rw [cond_false,if_neg (show¬(false=true)by decide),e3,zaa]
   by_cases hx:e<s.length∧aax s e 59=false∧aax s e 63=false
   ·rw [decide_eq_true hx,cond_true,if_pos hx];exact⟨_,_,_,(by omega),(by omega),rfl,fun h=>absurd h (by decide)⟩
   ·rw [decide_eq_false hx,cond_false,if_neg hx];exact⟨_,_,_,(by omega),(by omega),rfl,fun _=>⟨rfl,rfl⟩⟩
theorem place_eq(s:Str)(hs:s.length≤4194303)(i:Nat)(hi:i≤s.length)(sch:Str):∃a c u,0≤a∧a≤5000000∧aiy FU (s,(i:Int)) (sch,[],[],0,[],[])=some (a,(plP s i).1,c,u)∧((plP s i).1=0→c=(s,((plP s i).2.2.2.2:Int))∧u=(sch,(plP s i).2.1,(plP s i).2.2.1,(plP s i).2.2.2.1,[],[])):=by
 have hd:(s.drop i).length=s.length-i:=zaj
 have hsp:=ixb_spec (·==(64:UInt8)) (s.drop i)
 have hu:=utl1 64 s i
 unfold aiy plP
 simp only
 rw [aaa (by omega),zat]
 rcases hsp with⟨h3,h4⟩|⟨h3,h4,h5⟩
 ·have hun:¬utl [64] s i<s.length:=by omega
  rw [if_neg (by omega),zaa,zaz,if_neg hun]
  exact adHp_eq s (by omega) i hi sch []
 ·have e1:(i:Int)+ixb (·==(64:UInt8)) (s.drop i)=((utl [64] s i:Nat):Int):=by rw [h5,hu];rfl
  have hlt:utl [64] s i<s.length:=by omega
  have hge:=ame [64] s i
  have h0:(ixb (·==(64:UInt8)) (s.drop i)=0)↔utl [64] s i=i:=by omega
  rw [if_pos h3,e1,aaa (abb _ (by omega) (by omega)),if_pos hlt,wrong_eq s (by omega) i _ hge (by omega) 0 (.inl rfl),zaa]
  have hsub:(sub s (i:Int) (utl [64] s i:Int)).length=utl [64] s i-i:=by rw [ajd];omega
  unfold usrP
  cases hb:badP 0 (sub s (i:Int) (utl [64] s i:Int))with
  |some j=>
   have hj:j<utl [64] s i-i:=by
    have:=asn 0 _ _ j hb
    omega
   have hat:at_ s ((i+j:Nat):Int)=at_ (sub s (i:Int) (utl [64] s i:Int)) (j:Int):=by
    unfold sub
    rw [zat,zat]
    have:=awi s i j
    rw [←this]
    simp only [at_,zat,List.getD_eq_getElem?_getD]
    rw [List.getElem?_take_of_lt hj]
   simp only
   rw [cond_true,aaa (by omega),hat]
   by_cases h58:at_ (sub s (i:Int) (utl [64] s i:Int)) (j:Int)=58
   ·rw [if_pos h58,if_pos h58,zaa,zaR,if_neg (by decide)]
    exact⟨_,_,_,(by omega),(by omega),rfl,fun h=>absurd h (by decide)⟩
   ·rw [if_neg h58,if_neg h58,zaa,zaR,if_neg (by decide)]
    exact⟨_,_,_,(by omega),(by omega),rfl,fun h=>absurd h (by decide)⟩
  |none=>
   simp only
   rw [cond_false]
   by_cases hz:utl [64] s i=i
   ·have hn:sub s (i:Int) (utl [64] s i:Int)=[]:=by
     apply zao;omega
    rw [if_pos (h0.2 hz),if_pos hn,zaa,zaR,if_neg (by decide)]
    exact⟨_,_,_,(by omega),(by omega),rfl,fun h=>absurd h (by decide)⟩
   ·have hn:¬sub s (i:Int) (utl [64] s i:Int)=[]:=fun h=>by rw [h]at hsub;simp at hsub;omega
    rw [if_neg (fun h=>hz (h0.1 h)),if_neg hn,aaa (by omega),content_eq _ (by omega) 0 (.inl rfl) hb,zaa,aaa (abb _ (by omega) (by omega)),zaa,zaz,abl,if_pos rfl]
    exact adHp_eq s (by omega) _ (by omega) sch _
theorem failR_ab(r:RR)(a:Int)(e:UInt8)(hr:0≤r.2.2.1∧r.2.2.1≤5000000)(ha:0≤a∧a≤5000000):0≤(awg r a e).2.2.1∧(awg r a e).2.2.1≤5000000:=by
 unfold awg
 split
 ·exact ha
 ·exact hr
theorem abo{p:Prop}(h:p:=by first|omega|(dsimp only;omega)):p:=h
theorem abd{p:Prop}(h:p:=by first|omega|(dsimp only;omega)|exact failR_ab _ _ _ abo abo|exact failR_ab _ _ _ (failR_ab _ _ _ abo abo) abo):p:=h
theorem rfUser_lp(s:Str)(hs:s.length≤4194304)(i y:Nat)(hiy:i≤y)(hy:y≤s.length)(n:Nat):∀(k fk:Nat),k+n=y→n<fk→i≤k→(∀c∈sub s (i:Int) (k:Int),c≠58)→
  (∃r:RR,afc FU (s,(i:Int),0,0) (y:Int) fk (k:Int)=some (.inr ([],r))∧r.1=s∧(0≤r.2.2.1∧r.2.2.1≤5000000)∧r.2.2.2=(usrP (sub s (i:Int) (y:Int))).1∧¬(usrP (sub s (i:Int) (y:Int))).1=0)∨
  (afc FU (s,(i:Int),0,0) (y:Int) fk (k:Int)=some (.inl ())∧∀c∈sub s (i:Int) (y:Int),c≠58):=by
 induction n with
 |zero=>
  intro k fk hk hf hik hno
  obtain⟨fk,rfl⟩:=fkx fk
  obtain rfl:k=y:=by omega
  right
  rw [aqh,agr,if_neg (by omega)]
  exact⟨rfl,hno⟩
 |succ n ih=>
  intro k fk hk hf hik hno
  obtain⟨fk,rfl⟩:=fkx fk
  rw [aqh,agr,if_pos (by omega),aaa (show 0≤(k:Int)∧(k:Int)<(s.length:Int)by omega)]
  by_cases h58:at_ s (k:Int)=58
  ·left
   have hsplit:sub s (i:Int) (y:Int)=sub s (i:Int) (k:Int)++58::sub s ((k+1:Nat):Int) (y:Int):=by
    unfold sub
    simp only [zat]
    have e1:(s.drop i).take (y-i)=(s.drop i).take (k-i)++((s.drop i).drop (k-i)).take (y-k):=by
     conv=>lhs;rw [show y-i=(k-i)+(y-k)by omega]
     rw [List.take_add]
    have e2:(s.drop i).drop (k-i)=s.drop k:=by rw [zbo];congr 1;omega
    rw [e1,e2,aln s k (by omega),h58,show y-k=(y-(k+1))+1 by omega,List.take_succ_cons]
   rw [if_pos h58,rfCon_eq s hs i k hik (by omega) 0 0 0 (.inl rfl),zaa,hsplit,usr_colon _ _ hno]
   cases hb:badP 0 (sub s (i:Int) (k:Int))with
   |some j=>
    have hj:=asn _ _ _ j hb
    have hj2:(sub s (i:Int) (k:Int)).length≤k-i:=by rw [ajd];omega
    simp only
    rw [agh,zaa,agh,zaa]
    refine⟨_,rfl, ?_,(show 0≤((i+j:Nat):Int)∧((i+j:Nat):Int)≤5000000 by omega), ?_,by decide⟩
    ·rw [(failR_1 _ _ _).1,(failR_1 _ _ _).1]
    ·rfl
   |none=>
    simp only
    rw [agh,zaa,agh,zaa]
    refine⟨_,rfl, ?_,(show 0≤((k:Nat):Int)∧((k:Nat):Int)≤5000000 by omega), ?_,by decide⟩
    ·rw [(failR_1 _ _ _).1,(failR_1 _ _ _).1]
    ·rfl
  ·have hsn:sub s (i:Int) ((k+1:Nat):Int)=sub s (i:Int) (k:Int)++[at_ s (k:Int)]:=sub_snoc s i k hik (by omega)
   have:=ih (k+1) fk (by omega) (by omega) (by omega) (fun c hc=>by
    rw [hsn]at hc
    rcases List.mem_append.1 hc with h|h
    ·exact hno c h
    ·rw [List.mem_singleton.1 h];exact h58)
   rw [if_neg h58,aaa (abb _ (by omega) (by omega)),abl]
   exact this
theorem rfUser_eq(s:Str)(hs:s.length≤4194303)(i:Nat)(hi:i≤s.length):∃u r,ain FU (s,(i:Int),0,0)=some (u,r)∧r.1=s∧(0≤r.2.2.1∧r.2.2.1≤5000000)∧
  (if utl [64] s i<s.length then r.2.2.2=(usrP (sub s (i:Int) (utl [64] s i:Int))).1∧((usrP (sub s (i:Int) (utl [64] s i:Int))).1=0→u=(usrP (sub s (i:Int) (utl [64] s i:Int))).2∧r=(s,((utl [64] s i+1:Nat):Int),0,0))else u=[]∧r=(s,(i:Int),0,0)):=by
 have hge:=ame [64] s i
 have hle:=aks [64] s i hi
 unfold ain
 rw [ati s (by omega) i hi 0 0 _ (by decide),zaa]
 simp only
 by_cases hlt:utl [64] s i<s.length
 ·rw [if_neg (by omega)]
  have hself:sub s (i:Int) (i:Int)=[]:=avs s i
  rcases rfUser_lp s (by omega) i (utl [64] s i) hge hle (utl [64] s i-i) i FU (by omega) (by rw [adq];omega) (zam _) (by rw [hself];simp)with⟨r,h1,h2,hab,h3,h4⟩|⟨h1,h2⟩
  ·rw [h1,zaa,zaR]
   exact⟨_,r,rfl,h2,hab,by rw [if_pos hlt];exact⟨h3,fun h=>absurd h h4⟩⟩
  ·rw [h1,zaa,zaz,usr_plain _ h2]
   have hsub:(sub s (i:Int) (utl [64] s i:Int)).length=utl [64] s i-i:=by rw [ajd];omega
   by_cases hz:utl [64] s i=i
   ·have hn:sub s (i:Int) (utl [64] s i:Int)=[]:=by apply zao;omega
    have hbn:badP 0 ([]:Str)=none:=rfl
    rw [if_pos (by omega),agh,zaa,zaa]
    have ef:(awg (s,(i:Int),0,0) ((utl [64] s i:Nat):Int) 5)=(s,(i:Int),((utl [64] s i:Nat):Int),5):=rfl
    rw [ef]
    try simp only
    rw [rfCon_eq s (by omega) i _ hge (by omega) _ _ 0 (.inl rfl),zaa,hn,hbn]
    try simp only
    rw [aaa (abb _ (by omega) (by omega)),if_pos trivial]
    exact⟨_,_,rfl,rfl,abd,by rw [if_pos hlt];exact⟨rfl,fun h=>absurd h (by decide)⟩⟩
   ·have hn:¬sub s (i:Int) (utl [64] s i:Int)=[]:=fun h=>by rw [h]at hsub;simp at hsub;omega
    rw [if_neg (by omega),zaa]
    try simp only
    rw [rfCon_eq s (by omega) i _ hge (by omega) _ _ 0 (.inl rfl),zaa,if_neg hn]
    cases hb:badP 0 (sub s (i:Int) (utl [64] s i:Int))with
    |some j=>
     have hj:=asn _ _ _ j hb
     simp only
     rw [aaa (abb _ (by omega) (by omega))]
     exact⟨_,_,rfl,rfl,abd,by rw [if_pos hlt];exact⟨rfl,fun h=>absurd h (by decide)⟩⟩
    |none=>
     simp only
     rw [aaa (abb _ (by omega) (by omega)),abl]
     exact⟨_,_,rfl,rfl,abd,by rw [if_pos hlt];exact⟨rfl,fun _=>⟨rfl,rfl⟩⟩⟩
 ·rw [if_pos (by omega)]
  exact⟨_,_,rfl,rfl,abd,by rw [if_neg hlt];exact⟨rfl,rfl⟩⟩
theorem rfHost2_eq(s:Str)(hs:s.length≤4194304)(i:Nat)(hi:i≤s.length):acs FU (s,(i:Int),0,0)=some ((akx (sub s (i:Int) (hEnd s i:Int))).1,if(akx (sub s (i:Int) (hEnd s i:Int))).2=true then(s,(hEnd s i:Int),0,0)else(s,(hEnd s i:Int),(i:Int),5)):=by
 have hb:=hEnd_bd s i hi
 have e1:((if aax s i 91=true then some ((min (utl [93] s i+1) s.length:Nat):Int)else some ((utl [58,59,63] s i:Nat):Int)))=some ((hEnd s i:Nat):Int):=by unfold hEnd;split<;>rfl
 unfold acs
 simp only
 rw [if_pos trivial,ati s hs i hi 0 0 _ (by decide),zaa]
 have e2:((abj FU (s,(i:Int),(0:Int),(0:UInt8)) (91:UInt8)).bind fun(y25:Bool)=>(bif y25 then((abk FU (s,(i:Int),(0:Int),(0:UInt8)) ([93]:Str)).bind fun(y31:Int)=>(gd (aap (y31+(1:Int)))<|some (min (y31+(1:Int)) (s.length:Int))))else some ((utl [58,59,63] s i:Nat):Int)))=some ((hEnd s i:Nat):Int):=by
  have hu:=aks [93] s i hi
  rw [is_eq,zaa,←e1]
  cases aax s i 91 with
  |false=>rfl
  |true=>
   rw [cond_true,ati s hs i hi 0 0 _ (by decide),zaa,aaa (abb _ (by omega) (by omega)),if_pos rfl]
   congr 1
   try dsimp only
   omega
 rw [e2,zaa]
 generalize hEnd s i=e at hb⊢
 rw [aaa (by omega),rfHost_eq _ (by rw [ajd];omega),zaa]
 cases hh:(akx (sub s (i:Int) (e:Int))).2 with
 |true=>rfl
 |false=>
  rw [zay,cond_true,agh];rfl
theorem rfPort_no(s:Str)(i a:Int)(e:UInt8)(he:¬e=0):acb FU (s,i,a,e)=some (0,(s,i,a,e)):=by
 unfold acb
 rw [is_no s i a e he,zaa,zay,cond_true]
 simp only
 by_cases h:i<(s.length:Int)
 ·rw [if_pos h,is_no s i a e he,zaa,zay,cond_true,is_no s i a e he,zaa,zay,zaa,cond_true,agh]
  have:awg (s,i,a,e) i 5=(s,i,a,e):=if_neg he
  rw [this];rfl
 ·rw [if_neg h];rfl
theorem rfHp_eq (s : Str) (hs : s.length ≤ 4194304) (i : Nat) (hi : i ≤ s.length) : ∃ y p, acs FU (s, (i : Int), 0, 0) = some y ∧ acb FU y.2 = some p ∧ p.2.1 = s ∧ (0 ≤ p.2.2.2.1 ∧ p.2.2.2.1 ≤ 5000000) ∧ p.2.2.2.2 = (hpP s i).1 ∧
    ((hpP s i).1 = 0 → y.1 = (hpP s i).2.1 ∧ p.1 = (hpP s i).2.2.1 ∧ p.2 = (s, ((hpP s i).2.2.2 : Int), 0, 0)) := by
  have hb := hEnd_bd s i hi
  rw [rfHost2_eq s hs i hi]
  unfold hpP
  generalize hEnd s i = e at hb ⊢
  cases hh : (akx (sub s (i : Int) (e : Int))).2 with
  | false =>
    refine ⟨_, (0, (s, (e : Int), (i : Int), 5)), rfl, ?_, ?_⟩
    · show acb FU (if false = true then (s, (e : Int), 0, 0) else (s, (e : Int), (i : Int), 5)) = _
      rw [if_neg (show ¬ (false = true) by decide)]; exact rfPort_no s _ _ 5 (by decide)
    · exact ⟨rfl, abd, rfl, fun h => by rw [if_pos rfl] at h; exact absurd h (by decide)⟩
  | true =>
    rw [if_pos rfl, if_neg (show ¬ (true = false) by decide)]
    have hport : ∃ p, acb FU (s, (e : Int), 0, 0) = some p ∧ p.2.1 = s ∧ (0 ≤ p.2.2.2.1 ∧ p.2.2.2.1 ≤ 5000000) ∧ p.2.2.2.2 = (if aax s e 58 = true then
    (if (portQ (sub s ((e + 1 : Nat) : Int) (utl [59, 63] s (e + 1) : Int))).2 = 0 then ((0 : UInt8), (akx (sub s (i : Int) (e : Int))).1, (portQ (sub s ((e + 1 : Nat) : Int) (utl [59, 63] s (e + 1) : Int))).1, utl [59, 63] s (e + 1))
     else ((portQ (sub s ((e + 1 : Nat) : Int) (utl [59, 63] s (e + 1) : Int))).2, [], 0, 0))
  else if e < s.length ∧ aax s e 59 = false ∧ aax s e 63 = false then (5, [], 0, 0)
  else (0, (akx (sub s (i : Int) (e : Int))).1, 0, e)).1 ∧ ((if aax s e 58 = true then
    (if (portQ (sub s ((e + 1 : Nat) : Int) (utl [59, 63] s (e + 1) : Int))).2 = 0 then ((0 : UInt8), (akx (sub s (i : Int) (e : Int))).1, (portQ (sub s ((e + 1 : Nat) : Int) (utl [59, 63] s (e + 1) : Int))).1, utl [59, 63] s (e + 1))
     else ((portQ (sub s ((e + 1 : Nat) : Int) (utl [59, 63] s (e + 1) : Int))).2, [], 0, 0))
  else if e < s.length ∧ aax s e 59 = false ∧ aax s e 63 = false then (5, [], 0, 0)
  else (0, (akx (sub s (i : Int) (e : Int))).1, 0, e)).1 = 0 → p.1 = (if aax s e 58 = true then (portQ (sub s ((e + 1 : Nat) : Int) (utl [59, 63] s (e + 1) : Int))).1 else 0) ∧ p.2 = (s, ((if aax s e 58 = true then utl [59, 63] s (e + 1) else e : Nat) : Int), 0, 0)) := by
      unfold acb
      rw [is_eq, zaa]
      cases h58 : aax s e 58 with
      | false =>
        rw [zay, cond_true]
        simp only
        have e3 : (if (e : Int) < (s.length : Int) then ((abj FU (s, (e : Int), (0 : Int), (0 : UInt8)) (59 : UInt8)).bind fun (y75 : Bool) => (bif (!y75) then ((abj FU (s, (e : Int), (0 : Int), (0 : UInt8)) (63 : UInt8)).bind fun (y81 : Bool) => some (!y81)) else some false)) else some false) = some (decide (e < s.length ∧ aax s e 59 = false ∧ aax s e 63 = false)) := by
          by_cases hlt : e < s.length
          · rw [if_pos (by omega), is_eq, zaa]
            cases h59 : aax s e 59 with
            | true => rw [decide_eq_false (by rintro ⟨_, h, _⟩; cases h)]; rfl
            | false =>
              rw [zay, cond_true, is_eq, zaa]
              cases h63 : aax s e 63 with
              | true => rw [decide_eq_false (by rintro ⟨_, _, h⟩; cases h)]; rfl
              | false => rw [decide_eq_true ⟨hlt, rfl, rfl⟩]; rfl
          · rw [if_neg (by omega), decide_eq_false (fun h => hlt h.1)]
        rw [e3, zaa, if_neg (show ¬ (false = true) by decide)]
        by_cases hx : e < s.length ∧ aax s e 59 = false ∧ aax s e 63 = false
        · rw [decide_eq_true hx, cond_true, agh, if_pos hx]
          exact ⟨_, rfl, rfl, abd, rfl, fun h => absurd h (by decide)⟩
        · rw [decide_eq_false hx, cond_false, if_neg hx]
          exact ⟨_, rfl, rfl, abd, rfl, fun _ => ⟨rfl, rfl⟩⟩
      | true =>
        have hel := (acz h58).1
        have hu1 := ame [59, 63] s (e + 1)
        have hu2 := aks [59, 63] s (e + 1) hel
        rw [zap, cond_false]
        simp only
        rw [aaa (abb _ (by omega) (by omega)), abl, ati s hs (e + 1) hel 0 0 _ (by decide), zaa, aaa (by omega), refNumber_eq _ (by rw [ajd]; omega), zaa]
        simp only [if_true]
        unfold portQ
        generalize numQ (sub s ((e + 1 : Nat) : Int) ((utl [59, 63] s (e + 1) : Nat) : Int)) = q
        by_cases h0 : q.2 = 0
        · rw [if_pos h0, zaa]
          by_cases h1 : q.1 < 1
          · rw [if_pos h1, zaa, cond_true, agh, if_pos (⟨h0, .inl h1⟩ : q.2 = 0 ∧ (q.1 < 1 ∨ 65535 < q.1)), if_neg (by decide)]
            exact ⟨_, rfl, rfl, abd, rfl, fun h => absurd h (by decide)⟩
          · by_cases h2 : 65535 < q.1
            · rw [if_neg h1, decide_eq_true h2, zaa, cond_true, agh, if_pos (⟨h0, .inr h2⟩ : q.2 = 0 ∧ (q.1 < 1 ∨ 65535 < q.1)), if_neg (by decide)]
              exact ⟨_, rfl, rfl, abd, rfl, fun h => absurd h (by decide)⟩
            · rw [if_neg h1, decide_eq_false h2, zaa, cond_false, if_neg (show ¬ (q.2 = 0 ∧ (q.1 < 1 ∨ 65535 < q.1)) by rintro ⟨_, h | h⟩ <;> contradiction), if_pos h0]
              exact ⟨_, rfl, rfl, abd, rfl, fun _ => ⟨rfl, rfl⟩⟩
        · have hn : ¬ (q.2 = 0 ∧ (q.1 < 1 ∨ 65535 < q.1)) := fun h => h0 h.1
          have ef : awg (s, ((e + 1 : Nat) : Int), 0, 0) ((e + 1 : Nat) : Int) q.2 = (s, ((e + 1 : Nat) : Int), ((e + 1 : Nat) : Int), q.2) := rfl
          rw [if_neg h0, agh, ef, zaa, zaa, if_neg hn, if_neg h0]
          have e4 : ∀ b : Bool, ((some b).bind fun (v158 : Bool) => (bif v158 then ((aag FU (s, ((e + 1 : Nat) : Int), ((e + 1 : Nat) : Int), q.2) ((e + 1 : Nat) : Int) (3 : UInt8)).bind fun (y163 : RR) => some (y163.1, y163.2.1, y163.2.2.1, y163.2.2.2)) else some (s, ((e + 1 : Nat) : Int), ((e + 1 : Nat) : Int), q.2))) = some (s, ((e + 1 : Nat) : Int), ((e + 1 : Nat) : Int), q.2) := by
            intro b
            cases b with
            | false => rfl
            | true =>
              rw [zaa, cond_true, agh]
              have : awg (s, ((e + 1 : Nat) : Int), ((e + 1 : Nat) : Int), q.2) ((e + 1 : Nat) : Int) 3 = (s, ((e + 1 : Nat) : Int), ((e + 1 : Nat) : Int), q.2) := if_neg h0
              rw [this]; rfl
          by_cases h1 : q.1 < 1
          · rw [if_pos h1, e4]
            exact ⟨_, rfl, rfl, abd, rfl, fun h => absurd h h0⟩
          · rw [if_neg h1, e4]
            exact ⟨_, rfl, rfl, abd, rfl, fun h => absurd h h0⟩
    obtain ⟨p, h1, h2, hab, h3, h4⟩ := hport
    refine ⟨_, p, rfl, h1, h2, hab, h3, fun h => ?_⟩
    obtain ⟨g1, g2⟩ := h4 h
    cases h58 : aax s e 58 with
    | true =>
      rw [h58, if_pos rfl] at h g1 g2
      rw [if_pos rfl]
      by_cases h0 : (portQ (sub s ((e + 1 : Nat) : Int) (utl [59, 63] s (e + 1) : Int))).2 = 0
      · rw [if_pos h0]; exact ⟨rfl, g1, g2⟩
      · rw [if_neg h0] at h; exact absurd h h0
    | false =>
      rw [h58, if_neg (show ¬ (false = true) by decide)] at h g1 g2
      rw [if_neg (show ¬ (false = true) by decide)]
      by_cases hx : e < s.length ∧ aax s e 59 = false ∧ aax s e 63 = false
      · rw [if_pos hx] at h; exact absurd h (by decide)
      · rw [if_neg hx]; exact ⟨rfl, g1, g2⟩
open List renaming drop_drop → zbo, eq_nil_of_length_eq_zero → zao, length_append → zab, length_cons → zac, length_drop → zaj, length_nil → zal, length_take → zaw
theorem sub_take(s:Str)(i e n:Nat)(h:i+n≤e):sub s (i:Int) ((i+n:Nat):Int)=(sub s (i:Int) (e:Int)).take n:=by
 unfold sub
 simp only [zat]
 rw [List.take_take]
 congr 1
 try dsimp only
 omega
theorem sub_drop2(s:Str)(i e n:Nat):sub s ((i+n+1:Nat):Int) (e:Int)=(sub s (i:Int) (e:Int)).drop (n+1):=by
 unfold sub
 simp only [zat]
 rw [List.drop_take,zbo]
 congr 1
 try dsimp only
 omega
def afx(T:Str):Nat:=alj (fun c=> !(c==61)) T
def awf(k:Int)(l:List PP)(T:Str):UInt8×PP:=
 match badP k (T.take (afx T))with
 |some _=>(5,([],[],false))
 |none=>if afx T=0 then(5,([],[],false))else if afx T<T.length then
   (match badP k (T.drop (afx T+1))with
   |some _=>(5,([],[],false))
   |none=>if T.drop (afx T+1)=[]∧k=1 then(5,([],[],false))else(arc l (aab (conP k (T.take (afx T)))),(aab (conP k (T.take (afx T))),conP k (T.drop (afx T+1)),true)))
  else if k=2 then(5,([],[],false))else(arc l (aab (conP k (T.take (afx T)))),(aab (conP k (T.take (afx T))),[],false))
theorem field_eq(s:Str)(hs:s.length≤4194303)(i e:Nat)(hie:i≤e)(he:e≤s.length)(l:List PP)(hl:l.length≤16)(k:Int)(hk:k=1∨k=2):
  ∃l' a c,0≤a∧a≤5000000∧afv FU (s,(i:Int)) l (e:Int) k=some (l',a,(awf k l (sub s (i:Int) (e:Int))).1,c)∧
   ((awf k l (sub s (i:Int) (e:Int))).1=0→l'=l++[(awf k l (sub s (i:Int) (e:Int))).2]∧c=(s,(e:Int))):=by
 have hk3:k=0∨k=1∨k=2:=.inr hk
 have hT:(sub s (i:Int) (e:Int)).length=e-i:=by rw [ajd];omega
 have hst:=fun n h=>sub_take s i e n h
 have hsd:=fun n=>sub_drop2 s i e n
 have hroom:∀(nm v:Str) (h:Bool),∃l' a c,0≤a∧a≤5000000∧((anc FU l nm).bind fun(y112:UInt8)=>(if y112=(0:UInt8)then(gd ((l.length+([(nm,v,h)]:List PP).length)*40≤140737488355328)<|some (l++([(nm,v,h)]:List PP),(0:Int),(0:UInt8),(s,(e:Int))))else some (([]:List PP),(i:Int),y112,(s,(e:Int)))))=some (l',a,arc l nm,c)∧(arc l nm=0→l'=l++[(nm,v,h)]∧c=(s,(e:Int))):=by
  intro nm v h
  rw [room_eq l (by omega),zaa]
  by_cases h0:arc l nm=0
  ·rw [if_pos h0,aaa (by simp only [zac,zal];omega),h0]
   exact⟨_,_,_,(by omega),(by omega),rfl,fun _=>⟨rfl,rfl⟩⟩
  ·rw [if_neg h0]
   exact⟨_,_,_,(by omega),(by omega),rfl,fun h=>absurd h h0⟩
 unfold afv
 simp only
 rw [aaa (by omega)]
 generalize hTT:sub s (i:Int) (e:Int)=T at hT hst hsd⊢
 have hn:afx T≤T.length:=arw _ _
 have hix:=ixb_spec (·==(61:UInt8)) T
 have e10:(if(0:Int)≤(ixb (·==(61:UInt8)) T)then(gd (aap ((i:Int)+(ixb (·==(61:UInt8)) T)))<|some ((i:Int)+(ixb (·==(61:UInt8)) T)))else some (e:Int))=some ((i+afx T:Nat):Int):=by
  unfold afx at hn⊢
  rcases hix with⟨h1,h2⟩|⟨h1,h2,h3⟩
  ·rw [if_neg (by omega)];congr 1;omega
  ·rw [if_pos h1,aaa (abb _ (by omega) (by omega))];congr 1;omega
 have hiff:(0:Int)≤ixb (·==(61:UInt8)) T↔afx T<T.length:=by
  unfold afx
  rcases hix with⟨h1,h2⟩|⟨h1,h2,h3⟩<;>constructor<;>intro h<;>omega
 rw [e10,zaa,wrong_eq s (by omega) i (i+afx T) (by omega) (by omega) k hk3,zaa,hst (afx T) (by omega)]
 unfold awf
 cases hb:badP k (T.take (afx T))with
 |some j=>
  have hj:=asn _ _ _ j hb
  rw [zaw]at hj
  simp only
  rw [cond_true]
  exact⟨_,_,_,(by omega),(by omega),rfl,fun h=>absurd h (by decide)⟩
 |none=>
  simp only
  rw [cond_false]
  by_cases h0:afx T=0
  ·rw [if_pos (by omega),if_pos h0]
   exact⟨_,_,_,(by omega),(by omega),rfl,fun h=>absurd h (by decide)⟩
  ·have htl:(T.take (afx T)).length≤4194304:=by rw [zaw];omega
   have hcl:=conP_len k (T.take (afx T))
   rw [if_neg (by omega),if_neg h0,aaa (by omega),content_eq _ htl k hk3 hb,zaa,aox _ (by omega),zaa]
   by_cases hlt:afx T<T.length
   ·have h61:(0:Int)≤ixb (·==(61:UInt8)) T:=hiff.2 hlt
    rw [if_pos hlt]
    simp only [h61,decide_true,if_true]
    rw [aaa (abb _ (by omega) (by omega)),abl,wrong_eq s (by omega) (i+afx T+1) e (by omega) (by omega) k hk3,zaa,hsd]
    cases hb2:badP k (T.drop (afx T+1))with
    |some j=>
     have hj:=asn _ _ _ j hb2
     rw [zaj]at hj
     simp only
     rw [cond_true,zaa]
     exact⟨_,_,_,(by omega),(by omega),rfl,fun h=>absurd h (by decide)⟩
    |none=>
     have hdl:(T.drop (afx T+1)).length=T.length-(afx T+1):=zaj
     have e92:(if((i+afx T+1:Nat):Int)=(e:Int)then some (decide (k=(1:Int)))else some false)=some (decide (T.drop (afx T+1)=[]∧k=1)):=by
      by_cases hz:T.drop (afx T+1)=[]
      ·rw [hz]at hdl
       rw [if_pos (by simp at hdl;omega)]
       congr 1
       simp [hz]
      ·have:¬(T.drop (afx T+1)).length=0:=fun h=>hz (zao h)
       rw [if_neg (by omega),decide_eq_false (fun h=>hz h.1)]
     simp only
     rw [cond_false,e92,zaa]
     by_cases hx:T.drop (afx T+1)=[]∧k=1
     ·rw [decide_eq_true hx,cond_true,zaa,if_pos hx]
      exact⟨_,_,_,(by omega),(by omega),rfl,fun h=>absurd h (by decide)⟩
     ·rw [decide_eq_false hx,cond_false,aaa (by omega),content_eq _ (by omega) k hk3 hb2,zaa,zaa,if_neg hx]
      exact hroom _ _ _
   ·have h61:¬(0:Int)≤ixb (·==(61:UInt8)) T:=fun h=>hlt (hiff.1 h)
    have hend:((i+afx T:Nat):Int)=(e:Int):=by omega
    rw [if_neg hlt]
    simp only [h61,decide_false,if_false]
    by_cases h2:k=2
    ·rw [if_pos h2,if_pos h2,zaa]
     exact⟨_,_,_,(by omega),(by omega),rfl,fun h=>absurd h (by decide)⟩
    ·rw [if_neg h2,if_neg h2,zaa]
     exact hroom _ _ _
def plL (st : Str) (s : Str) : Nat → Nat → List PP → UInt8 × Nat × List PP
  | 0, i, l => (0, i, l)
  | f + 1, i, l => if aax s i 59 = true then
      (if (awf 1 l (sub s ((i + 1 : Nat) : Int) (utl st s (i + 1) : Int))).1 = 0 then plL st s f (utl st s (i + 1)) (l ++ [(awf 1 l (sub s ((i + 1 : Nat) : Int) (utl st s (i + 1) : Int))).2])
       else ((awf 1 l (sub s ((i + 1 : Nat) : Int) (utl st s (i + 1) : Int))).1, 0, []))
    else (0, i, l)
def hdL (s : Str) : Nat → Nat → List PP → UInt8 × List PP
  | 0, i, l => (0, l)
  | f + 1, i, l => if i < s.length then
      (if (awf 2 l (sub s ((i + 1 : Nat) : Int) (utl [38] s (i + 1) : Int))).1 = 0 then hdL s f (utl [38] s (i + 1)) (l ++ [(awf 2 l (sub s ((i + 1 : Nat) : Int) (utl [38] s (i + 1) : Int))).2])
       else ((awf 2 l (sub s ((i + 1 : Nat) : Int) (utl [38] s (i + 1) : Int))).1, []))
    else (0, l)
theorem room_len{l:List PP}{nm:Str}(h:arc l nm=0):l.length<16:=by
 unfold arc at h
 split at h
 ·exact absurd h (by decide)
 ·split at h
  ·exact absurd h (by decide)
  ·omega
theorem fld_len{k:Int}{l:List PP}{T:Str}(h:(awf k l T).1=0):l.length<16:=by
 unfold awf at h
 split at h
 ·exact absurd h (by decide)
 ·split at h
  ·exact absurd h (by decide)
  ·split at h
   ·split at h
    ·exact absurd h (by decide)
    ·split at h
     ·exact absurd h (by decide)
     ·exact room_len h
   ·split at h
    ·exact absurd h (by decide)
    ·exact room_len h
theorem plLoop_eq(s:Str)(hs:s.length≤4194303)(v:Int×UInt8×Str×Str×Int×Str×Str×Str×Int×List PP×List PP)(h1:v.2.2.1.length≤1000)(h2:v.2.2.1.all (fun b=>decide (b.toNat<128))=true)(n:Nat):
  ∀(i fk f:Nat) (l:List PP) (a:Int),0≤a→a≤5000000→s.length-i≤n→n+1<fk→n<f→i≤s.length→l.length≤16→
  ∃a' x' i' l',0≤a'∧a'≤5000000∧agc FU v fk a 0 s (i:Int) l=some (a',(plL v.2.2.1 s f i l).1,x',i',l')∧((plL v.2.2.1 s f i l).1=0→x'=s∧i'=((plL v.2.2.1 s f i l).2.1:Int)∧l'=(plL v.2.2.1 s f i l).2.2):=by
 induction n with
 |zero=>
  intro i fk f l a ha0 ha1 hi hf hff hil hl
  obtain⟨fk,rfl⟩:=fkx fk
  obtain⟨f,rfl⟩:∃m,f=m+1:=⟨f-1,by omega⟩
  have hz:aax s i 59=false:=by unfold aax;rw [decide_eq_false (by omega)];rfl
  rw [akf,afm,if_pos rfl,apr,zaa,hz,zaa,cond_false,plL,hz,if_neg (by decide)]
  exact⟨_,_,_,_,(by omega),(by omega),rfl,fun _=>⟨rfl,rfl,rfl⟩⟩
 |succ n ih=>
  intro i fk f l a ha0 ha1 hi hf hff hil hl
  obtain⟨fk,rfl⟩:=fkx fk
  obtain⟨f,rfl⟩:∃m,f=m+1:=⟨f-1,by omega⟩
  rw [akf,afm,if_pos rfl,apr,zaa,zaa,plL]
  cases hz:aax s i 59 with
  |false=>
   rw [cond_false,if_neg (by decide)]
   exact⟨_,_,_,_,(by omega),(by omega),rfl,fun _=>⟨rfl,rfl,rfl⟩⟩
  |true=>
   have hlt:=(acz hz).1
   have hu1:=ame v.2.2.1 s (i+1)
   have hu2:=aks v.2.2.1 s (i+1) hlt
   rw [cond_true,if_pos rfl,aaa (abb _ (by omega) (by omega)),abl,avc s (by omega) (i+1) hlt _ h1 h2,zaa]
   obtain⟨l',a',c,b1,b2,e1,e2⟩:=field_eq s hs (i+1) (utl v.2.2.1 s (i+1)) hu1 hu2 l hl 1 (.inl rfl)
   rw [e1,zaa]
   by_cases h0:(awf 1 l (sub s ((i+1:Nat):Int) (utl v.2.2.1 s (i+1):Int))).1=0
   ·obtain⟨rfl,rfl⟩:=e2 h0
    have:=fld_len h0
    rw [if_pos h0,h0]
    exact ih (utl v.2.2.1 s (i+1)) fk f _ _ (by omega) (by omega) (by omega) (by omega) (by omega) hu2 (by simp only [zab,zac,zal];omega)
   ·rw [if_neg h0]
    simp only
    obtain⟨fk,rfl⟩:=fkx fk
    rw [akf,afm,if_neg h0,zaa,cond_false]
    exact⟨_,_,_,_,(by omega),(by omega),rfl,fun h=>absurd h h0⟩
theorem hdLoop_eq(s:Str)(hs:s.length≤4194303)(n:Nat):
  ∀(i fk f:Nat) (l:List PP) (a:Int),0≤a→a≤5000000→s.length-i≤n→n+1<fk→n<f→i≤s.length→l.length≤16→
  ∃a' x' i' l',0≤a'∧a'≤5000000∧agb FU fk a 0 s (i:Int) l=some (a',(hdL s f i l).1,x',i',l')∧((hdL s f i l).1=0→l'=(hdL s f i l).2):=by
 induction n with
 |zero=>
  intro i fk f l a ha0 ha1 hi hf hff hil hl
  obtain⟨fk,rfl⟩:=fkx fk
  obtain⟨f,rfl⟩:∃m,f=m+1:=⟨f-1,by omega⟩
  rw [ake,afl,if_pos rfl,ended_eq,zaa,decide_eq_true (by omega),zaa,zap,cond_false,hdL,if_neg (by omega)]
  exact⟨_,_,_,_,(by omega),(by omega),rfl,fun _=>rfl⟩
 |succ n ih=>
  intro i fk f l a ha0 ha1 hi hf hff hil hl
  obtain⟨fk,rfl⟩:=fkx fk
  obtain⟨f,rfl⟩:∃m,f=m+1:=⟨f-1,by omega⟩
  rw [ake,afl,if_pos rfl,ended_eq,zaa,zaa,hdL]
  by_cases hlt:i<s.length
  ·have hu1:=ame [38] s (i+1)
   have hu2:=aks [38] s (i+1) hlt
   rw [decide_eq_false (by omega),zay,cond_true,if_pos hlt,aaa (abb _ (by omega) (by omega)),abl,avc s (by omega) (i+1) hlt _ (by decide) (by decide),zaa]
   obtain⟨l',a',c,b1,b2,e1,e2⟩:=field_eq s hs (i+1) (utl [38] s (i+1)) hu1 hu2 l hl 2 (.inr rfl)
   rw [e1,zaa]
   by_cases h0:(awf 2 l (sub s ((i+1:Nat):Int) (utl [38] s (i+1):Int))).1=0
   ·obtain⟨rfl,rfl⟩:=e2 h0
    have:=fld_len h0
    rw [if_pos h0,h0]
    exact ih (utl [38] s (i+1)) fk f _ _ (by omega) (by omega) (by omega) (by omega) (by omega) hu2 (by simp only [zab,zac,zal];omega)
   ·rw [if_neg h0]
    simp only
    obtain⟨fk,rfl⟩:=fkx fk
    rw [ake,afl,if_neg h0,zaa,cond_false]
    exact⟨_,_,_,_,(by omega),(by omega),rfl,fun h=>absurd h h0⟩
  ·rw [decide_eq_true (by omega),zap,cond_false,if_neg hlt]
   exact⟨_,_,_,_,(by omega),(by omega),rfl,fun _=>rfl⟩
open Bool renaming not_true → zap
open Go.Op renaming bytesLess → zaL
open List renaming append_assoc → zav, eq_nil_of_length_eq_zero → zao, length_append → zab, length_cons → zac, length_singleton → zad, set → zbj
theorem hs1_eqA(fu:Nat)(x y:PP):aff fu x y=some (cmpV x.1 y.1):=by
 unfold aff apz anx cmpV
 rw [zaa,zaa,decide_eq_true rfl,decide_eq_true rfl,zap,cond_false,cond_false]
 cases zaL x.1 y.1 with
 |true=>rfl
 |false=>
  rw [cond_false,cond_false]
  cases(!(false||x.1==y.1))<;>rfl
theorem ins_lp1A(n:Nat):∀(P S:List PP) (x:PP) (fk:Nat),P.length=n→n<fk→P.length+S.length≤1048575→
  aaw FU 0 fk (P++x::S) (P.length:Int)=some (insR x P++S):=by
 induction n with
 |zero=>
  intro P S x fk hP hf hl
  obtain⟨fk,rfl⟩:=fkx fk
  obtain rfl:P=[]:=zao hP
  rw [acl,aat,if_neg (by simp)];rfl
 |succ n ih=>
  intro P S x fk hP hf hl
  obtain⟨fk,rfl⟩:=fkx fk
  rcases List.eq_nil_or_concat P with rfl|⟨P',a,rfl⟩
  ·simp at hP
  ·simp only [List.concat_eq_append]at*
   have hP':P'.length=n:=by simp at hP;omega
   have e1:(((P'++[a]).length:Int)-1)=(P'.length:Int):=by simp
   have hj:el (P'++[a]++x::S) ((P'++[a]).length:Int)=x:=el_at _ _ _
   have hj1:el (P'++[a]++x::S) (P'.length:Int)=a:=by rw [zav];exact el_at P' (x::S) a
   have hlen:(P'++[a]++x::S).length=P'.length+2+S.length:=by simp;omega
   have hin:(0:Int)≤((P'++[a]).length:Int)∧((P'++[a]).length:Int)<((P'++[a]++x::S).length:Int):=by rw [hlen];simp;omega
   have hin1:(0:Int)≤(P'.length:Int)∧(P'.length:Int)<((P'++[a]++x::S).length:Int):=by rw [hlen];omega
   have hok:aap (P'.length:Int):=abb _ (by omega) (by simp at hl;omega)
   have ht1:((P'++[a]).length:Int).toNat=P'.length+1:=by simp
   have ht2:((P'.length:Nat):Int).toNat=P'.length:=by omega
   rw [acl,aat,e1]
   simp only [hj,hj1,pp_eta,hs1_eqA,zaa,cmp_lt,aaa hin,aaa hin1,aaa hok]
   rw [if_pos (by rw [zab,zad];omega),zaa,less_tri x.1 a.1,insR_snoc]
   have hg:(!(zaL a.1 x.1||a.1==x.1))=gtN a.1 x.1:=rfl
   rw [hg]
   cases gtN a.1 x.1 with
   |false=>rw [cond_false,cond_false];simp
   |true=>
    have hset:zbj (P'++[a]++x::S) ((P'++[a]).length:Int).toNat a=P'++a::a::S:=by
     rw [ht1,zav,List.set_append_right _ _ (by omega)]
     simp
    have hset2:zbj (P'++a::a::S) ((P'.length:Nat):Int).toNat x=P'++x::a::S:=by
     rw [ht2,List.set_append_right _ _ (by omega)]
     simp
    rw [cond_true,cond_true,hset,hset2,aaa (by simp;omega),aaa (by simp;omega),ih P' (a::S) x fk hP' (by omega) (by simp at hl⊢;omega)]
    simp
theorem ins_lp0A(R:List PP):∀(P:List PP) (fk:Nat) (n:Int),n=((P++R).length:Int)→(P++R).length≤1048575→R.length<fk→
  aah FU 0 n fk (P++R) (P.length:Int)=some (R.foldl (fun out x=>insR x out) P):=by
 induction R with
 |nil=>
  intro P fk n hn hl hf
  obtain⟨fk,rfl⟩:=fkx fk
  rw [abm,aal,if_neg (by rw [hn];simp)];simp
 |cons a R ih=>
  intro P fk n hn hl hf
  obtain⟨fk,rfl⟩:=fkx fk
  simp only [zab,zac]at hl hf
  rw [abm,aal,if_pos (by rw [hn];simp;omega),ins_lp1A P.length P R a FU rfl (by rw [adq];omega) (by omega),zaa,aaa (abb _ (by omega) (by omega))]
  have hil:=insR_len a P
  have:=ih (insR a P) fk n (by rw [hn];simp [hil];omega) (by simp only [zab,hil];omega) (by omega)
  rw [hil]at this
  have e:((P.length:Int)+1)=((P.length+1:Nat):Int):=rfl
  rw [e,this];rfl
theorem ins_eqA(l:List PP)(hl:l.length≤1048575):aao FU l 0 (l.length:Int)=some (aps l):=by
 unfold aao
 rw [aaa (abb _ (by omega) (by omega))]
 cases l with
 |nil=>
  obtain⟨m,hm⟩:∃m,FU=m+1:=⟨FU-1,by rw [adq]⟩
  rw [show(aah FU 0 (([]:List PP).length:Int) FU [] (0+1))=aah FU 0 (([]:List PP).length:Int) (m+1) [] (0+1)by rw [←hm]]
  rw [abm,aal,if_neg (by simp)];rfl
 |cons a l=>
  have:=ins_lp0A l [a] FU ((a::l).length:Int) rfl hl (by rw [adq];simp at hl;omega)
  exact this
theorem asorted_eq(l:List PP)(hl:l.length<20):aee FU l=some (aps l):=by
 unfold aee ace acj
 obtain⟨m,hm⟩:∃m,FU=m+1:=⟨FU-1,by rw [adq]⟩
 have g1:aas FU (l.length:Int) FU l (0:Int) (20:Int)=some (l,0):=by
  have:∀k,aas FU (l.length:Int) (k+1) l (0:Int) (20:Int)=some (l,0):=fun k=>by
   rw [ail,abw,if_neg (by omega)]
  have:=this m
  rw [←hm]at this
  exact this
 have g2:aar FU (l.length:Int) FU (aps l) (20:Int)=some (aps l):=by
  have:∀k,aar FU (l.length:Int) (k+1) (aps l) (20:Int)=some (aps l):=fun k=>by
   rw [aik,abv,if_neg (by omega)]
  have:=this m
  rw [←hm]at this
  exact this
 rw [aaa (by omega),g1,zaa]
 simp only
 rw [ins_eqA l (by omega),zaa,g2];rfl
open Go.Lib renaming hasPrefix → zaO, trimPrefix → zaq
open List renaming append_assoc → zav, append_nil → zan, drop_zero → zbt, length_append → zab, length_cons → zac, length_nil → zal, length_take → zaw, nil_append → zaH
open Nat renaming le_refl → zam, zero_add → zba, zero_le → zak
open Option renaming bind_some → zaa, map_some → zaP
def dialB(sg:Bool)(c:UInt8):Bool:=aby c||(!sg&&(c==42||c==35))
def gapB(c:UInt8):Bool:=c==45||c==46||c==40||c==41
def arj(sg:Bool):Str→Option Str
 |[]=>some []
 |c::T=>if dialB sg c=true then(arj sg T).map (c::·)else if gapB c=true then arj sg T else none
theorem dial_eq(sg:Bool)(c:UInt8):(((if(48:UInt8)≤c then some (decide (c≤(57:UInt8)))else some false)).bind fun(v764:Bool)=>(bif v764 then some v764 else(bif (!sg)then(if c=(42:UInt8)then some true else some (decide (c=(35:UInt8))))else some false)))=some (dialB sg c):=by
 revert c
 cases sg<;>exact aaz _ (by decide+kernel)
theorem gap_eq(c:UInt8):(if c=(45:UInt8)then some false else(if c=(46:UInt8)then some false else(if c=(40:UInt8)then some false else some (!decide (c=(41:UInt8))))))=some (!gapB c):=by
 revert c
 exact aaz _ (by decide+kernel)
theorem keepN_len(sg:Bool):∀(T d:Str),arj sg T=some d→d.length≤T.length
 |[],d,h=>by simp only [arj,Option.some.injEq]at h;subst h;exact zam _
 |c::T,d,h=>by
  unfold arj at h
  split at h
  ·cases hk:arj sg T with
   |none=>rw [hk]at h;cases h
   |some d'=>
    rw [hk]at h
    simp only [zaP,Option.some.injEq]at h
    subst h
    have:=keepN_len sg T d' hk
    simp only [zac];omega
  ·split at h
   ·have:=keepN_len sg T d h
    simp only [zac];omega
   ·cases h
theorem telN_lp(s:Str)(hs:s.length≤4194303)(i0:Int)(u:UU)(e:Nat)(he:e≤s.length)(sg:Bool)(n:Nat):∀(k fk:Nat) (b:Str),k+n=e→n<fk→b.length≤k→
  ∃j,afj FU (s,i0) u (e:Int) sg fk b (k:Int)=some j∧
   (match arj sg (sub s (k:Int) (e:Int))with
   |some d=>j=.inl (b++d,(e:Int))
   |none=>∃a c w,0≤a∧a≤5000000∧j=.inr (a,5,c,w)):=by
 induction n with
 |zero=>
  intro k fk b hk hf hb
  obtain⟨fk,rfl⟩:=fkx fk
  obtain rfl:k=e:=by omega
  rw [amz,aeu,if_neg (by omega),avs]
  exact⟨_,rfl,by simp only [arj,zan]⟩
 |succ n ih=>
  intro k fk b hk hf hb
  obtain⟨fk,rfl⟩:=fkx fk
  have hsp:sub s (k:Int) (e:Int)=at_ s (k:Int)::sub s ((k+1:Nat):Int) (e:Int):=by
   unfold sub
   simp only [zat]
   rw [aln s k (by omega),show e-k=(e-(k+1))+1 by omega,List.take_succ_cons]
  rw [amz,aeu,if_pos (by omega),gok,dial_eq,zaa,hsp]
  unfold arj
  cases hd:dialB sg (at_ s (k:Int))with
  |true=>
   rw [cond_true,aaa (by simp only [zac,zal];omega),zaa,zaz,aaa (abb _ (by omega) (by omega)),abl,if_pos rfl]
   obtain⟨j,h1,h2⟩:=ih (k+1) fk (b++[at_ s (k:Int)]) (by omega) (by omega) (by simp only [zab,zac,zal];omega)
   refine⟨j,h1, ?_⟩
   cases hk2:arj sg (sub s ((k+1:Nat):Int) (e:Int))with
   |none=>rw [hk2]at h2;exact h2
   |some d=>
    rw [hk2]at h2
    simp only [zaP]
    rw [h2,zav];rfl
  |false=>
   rw [cond_false,gap_eq,zaa,if_neg (by decide)]
   cases hg:gapB (at_ s (k:Int))with
   |true=>
    rw [zap,cond_false,zaa,zaz,aaa (abb _ (by omega) (by omega)),abl,if_pos rfl]
    exact ih (k+1) fk b (by omega) (by omega) (by omega)
   |false=>
    rw [zay,cond_true,zaa,zaR,if_neg (by decide)]
    exact⟨_,rfl,_,_,_,(by omega),(by omega),rfl⟩
def telP(s:Str)(i:Nat):UInt8×Str:=
 match arj (aax s i 43) (sub s ((if aax s i 43=true then i+1 else i:Nat):Int) (utl [59] s i:Int))with
 |none=>(5,[])
 |some d=>if d=[]then(5,[])else if 30<d.length then(4,[])else(0,if aax s i 43=true then 43::d else d)
theorem keepN_head(T d:Str)(h:arj false T=some d):zaq d ([43]:Str)=d:=by
 have key:∀(T d:Str),arj false T=some d→∀c∈d,c≠43:=by
  intro T
  induction T with
  |nil=>intro d h;simp only [arj,Option.some.injEq]at h;subst h;simp
  |cons a T ih=>
   intro d h
   unfold arj at h
   split at h
   ·rename_i hd
    cases hk:arj false T with
    |none=>rw [hk]at h;cases h
    |some d'=>
     rw [hk]at h
     simp only [zaP,Option.some.injEq]at h
     subst h
     intro c hc
     rcases List.mem_cons.1 hc with rfl|hc
     ·intro e;subst e;exact absurd hd (by decide)
     ·exact ih d' hk c hc
   ·split at h
    ·exact ih d h
    ·cases h
 cases d with
 |nil=>rfl
 |cons c d=>
  have:=key T (c::d) h c (by simp)
  have h2:¬(43:UInt8)=c:=fun e=>this e.symm
  unfold zaq zaO
  simp [h2]
theorem utl_step(st s:Str)(i:Nat)(hi:i<s.length)(h:aoa st (at_ s (i:Int))=false):utl st s i=utl st s (i+1):=by
 unfold utl
 rw [aln s i hi,alj,if_pos (by rw [h];rfl)]
 omega
theorem tel_eq(s:Str)(hs:s.length≤4194303)(i:Nat)(hi:i≤s.length)(sch:Str):∃a c u,0≤a∧a≤5000000∧ahq FU (s,(i:Int)) (sch,[],[],0,[],[])=some (a,(telP s i).1,c,u)∧
  ((telP s i).1=0→c=(s,(utl [59] s i:Int))∧u=(sch,(telP s i).2,[],0,[],[])):=by
 have hu1:=ame [59] s i
 have hu2:=aks [59] s i hi
 have hfin:∀(d v:Str) (u0:Str),zaq v ([43]:Str)=d→∃a c u,0≤a∧a≤5000000∧
   (if(zaq v ([43]:Str))=([]:Str)then some ((i:Int),(5:UInt8),(s,(utl [59] s i:Int)),((sch,v,([]:Str),(0:Int),([]:List PP),([]:List PP)):UU))else(if(30:Int)<((zaq v ([43]:Str)).length:Int)then some ((i:Int),(4:UInt8),(s,(utl [59] s i:Int)),((sch,v,([]:Str),(0:Int),([]:List PP),([]:List PP)):UU))else some ((0:Int),(0:UInt8),(s,(utl [59] s i:Int)),((sch,v,([]:Str),(0:Int),([]:List PP),([]:List PP)):UU))))=
   some (a,(if d=[]then((5,[]):UInt8×Str)else if 30<d.length then(4,[])else(0,v)).1,c,u)∧((if d=[]then((5,[]):UInt8×Str)else if 30<d.length then(4,[])else(0,v)).1=0→c=(s,(utl [59] s i:Int))∧u=(sch,(if d=[]then((5,[]):UInt8×Str)else if 30<d.length then(4,[])else(0,v)).2,[],0,[],[])):=by
  intro d v u0 hd
  rw [hd]
  by_cases h0:d=[]
  ·rw [if_pos h0,if_pos h0]
   exact⟨_,_,_,(by omega),(by omega),rfl,fun h=>absurd h (by decide)⟩
  ·rw [if_neg h0,if_neg h0]
   by_cases h30:30<d.length
   ·rw [if_pos (by omega),if_pos h30]
    exact⟨_,_,_,(by omega),(by omega),rfl,fun h=>absurd h (by decide)⟩
   ·rw [if_neg (by omega),if_neg h30]
    exact⟨_,_,_,(by omega),(by omega),rfl,fun _=>⟨rfl,rfl⟩⟩
 unfold ahq telP
 simp only
 rw [avc s (by omega) i hi _ (by decide) (by decide),zaa,apr,zaa]
 cases hsg:aax s i 43 with
 |true=>
  have hlt:=(acz hsg).1
  have hat:=(acz hsg).2
  have hst:=utl_step [59] s i hlt (by rw [hat];decide)
  have hu3:=ame [59] s (i+1)
  rw [cond_true,aaa (by decide),aaa (abb _ (by omega) (by omega)),zaa,abl,if_pos rfl]
  simp only
  obtain⟨j,h1,h2⟩:=telN_lp s hs (i:Int) (sch,[],[],0,[],[]) (utl [59] s i) hu2 true (utl [59] s i-(i+1)) (i+1) FU ([]++[43]) (by omega) (by rw [adq];omega) (by simp only [zaH,zac,zal];omega)
  rw [h1,zaa]
  cases hk:arj true (sub s ((i+1:Nat):Int) ((utl [59] s i:Nat):Int))with
  |none=>
   rw [hk]at h2
   obtain⟨a,c,w,q1,q2,rfl⟩:=h2
   rw [zaR]
   exact⟨_,_,_,(by omega),(by omega),rfl,fun h=>absurd h (by decide)⟩
  |some d=>
   rw [hk]at h2
   simp only at h2
   subst h2
   rw [zaz]
   simp only [if_true]
   exact hfin d _ [] (by
    show zaq (43::d) [43]=d
    unfold zaq zaO
    simp)
 |false=>
  rw [cond_false,zaa,if_neg (show¬(false=true)by decide)]
  simp only
  obtain⟨j,h1,h2⟩:=telN_lp s hs (i:Int) (sch,[],[],0,[],[]) (utl [59] s i) hu2 false (utl [59] s i-i) i FU [] (by omega) (by rw [adq];omega) (by simp)
  rw [h1,zaa]
  cases hk:arj false (sub s (i:Int) ((utl [59] s i:Nat):Int))with
  |none=>
   rw [hk]at h2
   obtain⟨a,c,w,q1,q2,rfl⟩:=h2
   rw [zaR]
   exact⟨_,_,_,(by omega),(by omega),rfl,fun h=>absurd h (by decide)⟩
  |some d=>
   rw [hk]at h2
   simp only at h2
   subst h2
   rw [zaz]
   simp only
   try rw [if_neg (show¬(false=true)by decide)]
   try simp only [Bool.false_eq_true,if_false]
   rw [zaH]
   exact hfin d d [] (keepN_head _ _ hk)
def nilU:UU:=([],[],[],0,[],[])
theorem plL_len(st s:Str):∀(f i:Nat) (l:List PP),l.length≤16→(plL st s f i l).2.2.length≤16
 |0,i,l,h=>h
 |f+1,i,l,h=>by
  unfold plL
  split
  ·split
   ·rename_i h0
    have:=fld_len h0
    exact plL_len st s f _ _ (by simp only [zab,zac,zal];omega)
   ·exact zak _
  ·exact h
theorem hdL_len(s:Str):∀(f i:Nat) (l:List PP),l.length≤16→(hdL s f i l).2.length≤16
 |0,i,l,h=>h
 |f+1,i,l,h=>by
  unfold hdL
  split
  ·split
   ·rename_i h0
    have:=fld_len h0
    exact hdL_len s f _ _ (by simp only [zab,zac,zal];omega)
   ·exact zak _
  ·exact h
theorem plL_le(st s:Str):∀(f i:Nat) (l:List PP),i≤s.length→(plL st s f i l).1=0→(plL st s f i l).2.1≤s.length
 |0,i,l,h,_=>h
 |f+1,i,l,h,h0=>by
  unfold plL at h0⊢
  split
  ·rename_i hz
   rw [if_pos hz]at h0
   split
   ·rename_i h1
    rw [if_pos h1]at h0
    exact plL_le st s f _ _ (aks st s _ (acz hz).1) h0
   ·exact zak _
  ·exact h
def aqa (st s sch us h : Str) (port : Int) (i : Nat) : UInt8 × UU :=
  if (plL st s (s.length + 1) i []).1 = 0 then
    (if (hdL s (s.length + 1) (plL st s (s.length + 1) i []).2.1 []).1 = 0 then (0, (sch, us, h, port, aps (plL st s (s.length + 1) i []).2.2, aps (hdL s (s.length + 1) (plL st s (s.length + 1) i []).2.1 []).2))
     else ((hdL s (s.length + 1) (plL st s (s.length + 1) i []).2.1 []).1, nilU))
  else ((plL st s (s.length + 1) i []).1, nilU)
abbrev PV:=Int×UInt8×Str×Str×Int×Str×Str×Str×Int×List PP×List PP
def restL(v:PV):Option (UU×Int×UInt8):=((agc FU v FU v.1 v.2.1 v.2.2.2.1 v.2.2.2.2.1 v.2.2.2.2.2.2.2.2.2.1)).bind fun(v287:(Int×UInt8×Str×Int×(List PP)))=>(((agb FU FU v287.1 v287.2.1 v287.2.2.1 v287.2.2.2.1 v.2.2.2.2.2.2.2.2.2.2)).bind fun(v568:(Int×UInt8×Str×Int×(List PP)))=>(if v568.2.1=(0:UInt8)then((aee FU v287.2.2.2.2).bind fun(y709:List PP)=>((aee FU v568.2.2.2.2).bind fun(y719:List PP)=>some ((v.2.2.2.2.2.1,v.2.2.2.2.2.2.1,v.2.2.2.2.2.2.2.1,v.2.2.2.2.2.2.2.2.1,y709,y719),(0:Int),(0:UInt8))))else some ((([]:Str),([]:Str),([]:Str),(0:Int),([]:List PP),([]:List PP)),v568.1,v568.2.1)))
theorem lp1_no(fk:Nat)(hf:0<fk)(a:Int)(e:UInt8)(he:¬e=0)(x:Str)(i:Int)(l:List PP):agb FU fk a e x i l=some (a,e,x,i,l):=by
 obtain⟨fk,rfl⟩:=fkx fk
 rw [ake,afl,if_neg he,zaa,cond_false]
theorem lp0_no(v:PV)(fk:Nat)(hf:0<fk)(a:Int)(e:UInt8)(he:¬e=0)(x:Str)(i:Int)(l:List PP):agc FU v fk a e x i l=some (a,e,x,i,l):=by
 obtain⟨fk,rfl⟩:=fkx fk
 rw [akf,afm,if_neg he,zaa,cond_false]
theorem rest_no(v:PV)(he:¬v.2.1=0):restL v=some (nilU,v.1,v.2.1):=by
 unfold restL
 rw [lp0_no v FU (by rw [adq];omega) _ _ he,zaa]
 simp only
 rw [lp1_no FU (by rw [adq];omega) _ _ he,zaa]
 simp only
 rw [if_neg he];rfl
theorem rest_eq(s:Str)(hs:s.length≤4194303)(st:Str)(h1:st.length≤1000)(h2:st.all (fun b=>decide (b.toNat<128))=true)(a:Int)(ha0:0≤a)(ha1:a≤5000000)(sch us h:Str)(port:Int)(i:Nat)(hi:i≤s.length):
  ∃a',0≤a'∧a'≤5000000∧restL (a,0,st,s,(i:Int),sch,us,h,port,[],[])=some ((aqa st s sch us h port i).2,a',(aqa st s sch us h port i).1):=by
 unfold restL aqa
 simp only
 obtain⟨a1,x1,i1,l1,b1,b2,e1,e2⟩:=plLoop_eq s hs (a,0,st,s,(i:Int),sch,us,h,port,[],[]) h1 h2 s.length i FU (s.length+1) [] a ha0 ha1 (by omega) (by rw [adq];omega) (by omega) hi (by simp)
 rw [e1,zaa]
 simp only at e2⊢
 by_cases h0:(plL st s (s.length+1) i []).1=0
 ·obtain⟨rfl,rfl,rfl⟩:=e2 h0
  have hle:=plL_le st x1 (x1.length+1) i [] hi h0
  have hl1:=plL_len st x1 (x1.length+1) i [] (by simp)
  have hl2:=hdL_len x1 (x1.length+1) (plL st x1 (x1.length+1) i []).2.1 [] (by simp)
  obtain⟨a2,x2,i2,l2,b3,b4,g1,g2⟩:=hdLoop_eq x1 hs x1.length (plL st x1 (x1.length+1) i []).2.1 FU (x1.length+1) [] a1 b1 b2 (by omega) (by rw [adq];omega) (by omega) hle (by simp)
  rw [h0,g1,zaa,if_pos rfl]
  simp only
  by_cases h3:(hdL x1 (x1.length+1) (plL st x1 (x1.length+1) i []).2.1 []).1=0
  ·rw [if_pos h3,if_pos h3,g2 h3,asorted_eq _ (by omega),zaa,asorted_eq _ (by omega),zaa]
   exact⟨_,(by omega),(by omega),rfl⟩
  ·rw [if_neg h3,if_neg h3]
   exact⟨_,(by omega),(by omega),rfl⟩
 ·rw [if_neg h0,lp1_no FU (by rw [adq];omega) _ _ h0,zaa]
  simp only
  rw [if_neg h0]
  exact⟨_,(by omega),(by omega),rfl⟩
def SIP:Str:=[115,105,112]
def SIPS:Str:=[115,105,112,115]
def TEL:Str:=[116,101,108]
def amu (s : Str) : UInt8 × UU :=
  if 1024 < s.length then (4, nilU) else if utl [58] s 0 < s.length then
    (if aab (s.take (utl [58] s 0)) = SIP ∨ aab (s.take (utl [58] s 0)) = SIPS then
      (if (plP s (utl [58] s 0 + 1)).1 = 0 then aqa [59, 63] s (aab (s.take (utl [58] s 0))) (plP s (utl [58] s 0 + 1)).2.1 (plP s (utl [58] s 0 + 1)).2.2.1 (plP s (utl [58] s 0 + 1)).2.2.2.1 (plP s (utl [58] s 0 + 1)).2.2.2.2 else ((plP s (utl [58] s 0 + 1)).1, nilU))
     else if aab (s.take (utl [58] s 0)) = TEL then
      (if (telP s (utl [58] s 0 + 1)).1 = 0 then aqa [59] s (aab (s.take (utl [58] s 0))) (telP s (utl [58] s 0 + 1)).2 [] 0 (utl [59] s (utl [58] s 0 + 1)) else ((telP s (utl [58] s 0 + 1)).1, nilU))
     else (15, nilU))
  else (5, nilU)
theorem hpP_le(s:Str)(i:Nat)(hi:i≤s.length):(hpP s i).2.2.2≤s.length:=by
 have hb:=hEnd_bd s i hi
 unfold hpP
 split
 ·exact zak _
 ·split
  ·rename_i h58
   split
   ·exact aks [59,63] s _ (acz h58).1
   ·exact zak _
  ·split
   ·exact zak _
   ·exact hb.2
theorem plP_le(s:Str)(i:Nat)(hi:i≤s.length):(plP s i).2.2.2.2≤s.length:=by
 unfold plP
 split
 ·split
  ·exact hpP_le s _ (by omega)
  ·exact zak _
 ·exact hpP_le s i hi
theorem parse_eq(s:Str):∃a,0≤a∧a≤5000000∧aou FU s=some ((amu s).2,a,(amu s).1):=by
 unfold aou amu
 by_cases hl:1024<s.length
 ·rw [if_pos (by omega),if_pos hl]
  exact⟨_,(by omega),(by omega),rfl⟩
 ·rw [if_neg (by omega),if_neg hl]
  have hu:=utl1 58 s 0
  rw [zbt,zba]at hu
  rcases ixb_spec (·==(58:UInt8)) s with⟨h1,h2⟩|⟨h1,h2,h3⟩
  ·rw [if_pos (by omega),if_neg (by omega)]
   exact⟨_,(by omega),(by omega),rfl⟩
  ·have hix:ixb (·==(58:UInt8)) s=((utl [58] s 0:Nat):Int):=by omega
   rw [hix]
   have hc:utl [58] s 0<s.length:=by omega
   generalize utl [58] s 0=c at hc⊢
   rw [if_neg (by omega),if_pos hc,aaa (abb _ (by omega) (by omega)),aaa (by omega),zat,aox _ (by rw [zaw];omega),zaa,abl]
   generalize aab (s.take c)=sch
   have e98:(if sch=([115,105,112]:Str)then some (decide (sch=([115,105,112]:Str)))else some (decide (sch=([115,105,112,115]:Str))))=some (decide (sch=SIP∨sch=SIPS)):=by
    by_cases hA:sch=SIP
    ·rw [if_pos (show sch=([115,105,112]:Str)from hA),decide_eq_true (show sch=([115,105,112]:Str)from hA),decide_eq_true (Or.inl hA)]
    ·rw [if_neg (show¬sch=([115,105,112]:Str)from hA)]
     congr 1
     rw [decide_eq_decide]
     exact⟨Or.inr,fun h=>h.resolve_left hA⟩
   rw [e98,zaa]
   by_cases hsip:sch=SIP∨sch=SIPS
   ·obtain⟨a,cc,u,b1,b2,g1,g2⟩:=place_eq s (by omega) (c+1) hc sch
    rw [decide_eq_true hsip,cond_true,if_pos hsip,g1,zaa,zaa]
    by_cases h0:(plP s (c+1)).1=0
    ·obtain⟨rfl,rfl⟩:=g2 h0
     rw [if_pos h0,h0]
     have hnx:(plP s (c+1)).2.2.2.2≤s.length:=plP_le s (c+1) hc
     exact rest_eq s (by omega) [59,63] (by decide) (by decide) a b1 b2 sch _ _ _ _ hnx
    ·rw [if_neg h0]
     exact⟨_,b1,b2,rest_no (a,(plP s (c+1)).1,[59,63],cc.1,cc.2,u) h0⟩
   ·rw [decide_eq_false hsip,cond_false,if_neg hsip]
    by_cases htel:sch=TEL
    ·obtain⟨a,cc,u,b1,b2,g1,g2⟩:=tel_eq s (by omega) (c+1) hc sch
     rw [if_pos (show sch=([116,101,108]:Str)from htel),if_pos htel,g1,zaa,zaa]
     by_cases h0:(telP s (c+1)).1=0
     ·obtain⟨rfl,rfl⟩:=g2 h0
      rw [if_pos h0,h0]
      exact rest_eq s (by omega) [59] (by decide) (by decide) a b1 b2 sch _ _ _ _ (aks [59] s (c+1) hc)
     ·rw [if_neg h0]
      exact⟨_,b1,b2,rest_no (a,(telP s (c+1)).1,[59],cc.1,cc.2,u) h0⟩
    ·rw [if_neg (show¬sch=([116,101,108]:Str)from htel),if_neg htel,zaa]
     exact⟨_,Int.le_refl 0,(show(0:Int)≤5000000 by decide),rest_no (0,15,[59,63],s,((c+1:Nat):Int),sch,[],[],0,[],[]) (show¬(15:UInt8)=0 by decide)⟩
open Bool renaming and_eq_true → zas, true_and → zax
open List renaming length_append → zab, length_cons → zac
theorem seesA(s A B:Str)(b:UInt8)(h:s=A++B):aax s A.length b=decide (B.head? =some b):=by
 subst h
 unfold aax
 cases B with
 |nil=>simp
 |cons c B=>
  rw [ayp,decide_eq_true (by rw [zab,zac];omega),zax,List.head?_cons]
  by_cases h:c=b
  ·subst h;simp
  ·simp [h]
theorem subA(s A B C:Str)(h:s=A++(B++C)):sub s (A.length:Int) ((A.length+B.length:Nat):Int)=B:=by
 subst h
 unfold sub
 rw [zat,zat,List.drop_left,Nat.add_sub_cancel_left,List.take_left]
theorem span_stop(p:UInt8→Bool)(B:Str)(h:∀c,B.head? =some c→p c=false):alj p B=0:=by
 cases B with
 |nil=>rfl
 |cons c B=>exact span_no p c B (h c rfl)
theorem head_app(a b:Str)(h:a≠[]):(a++b).head? =a.head? :=by
 cases a with
 |nil=>exact absurd rfl h
 |cons x a=>rfl
theorem qs_yes(c:UInt8)(h:c=34∨c=92):qstep c=[92,c]:=by unfold qstep;rw [if_pos h]
theorem qs_no(c:UInt8)(h:¬(c=34∨c=92)):qstep c=[c]:=by unfold qstep;rw [if_neg h]
section
variable (q : UInt8 → Bool) (h1 : ∀ c, hexB c = true → q (aft c) = true) (h2 : q 58 = true) (h3 : q 48 = true)
include h1 h2 h3
omit h2 in
theorem grpN_q (g:Str) (h:aob g=true):∀c∈aum g,q c=true:=by
 have hx:g.all hexB=true:=by unfold aob at h;simp only [zas]at h;exact h.2
 intro c hc
 unfold aum at hc
 split at hc
 ·rw [List.mem_singleton.1 hc];exact h3
 ·have hm:c∈lowP g:=(List.dropWhile_suffix _).subset hc
  obtain⟨d,hd,rfl⟩:=List.mem_map.1 hm
  exact h1 d (List.all_eq_true.1 hx d hd)
end
theorem lab_n91:∀c:UInt8,labB c=true→c≠91:=aaz _ (by decide+kernel)
open Go.Px
open Bool renaming and_eq_true → zas, true_and → zax
open Go.Lib renaming cut → zbe, index → zaB, join → zar, trimLeftS → zaS
open Int renaming toNat_natCast → zat
open List renaming append_nil → zan, cons_append → zaU, length_append → zab, length_cons → zac, length_map → zaF, length_nil → zal, map_congr_left → zbq, map_cons → zaE, mem_cons_of_mem → zag, nil_append → zaH
theorem join_two(a b:Str)(l:List Str):zar (a::b::l) [58]=a++(58::zar (b::l) [58]):=by simp [zar,List.intercalate,List.intersperse]
theorem join_one(a:Str):zar [a] [58]=a:=by simp [zar,List.intercalate]
theorem spl_app(c:UInt8):∀(a z:Str),(∀b∈a,b≠c)→spl c (a++c::z)=a::spl c z
 |[],z,_=>arb c z
 |b::a,z,h=>by
  rw [zaU,aof c b _ (h b (by simp)),spl_app c a z (fun x hx=>h x (zag _ hx))];rfl
theorem spl_no(c:UInt8):∀(a:Str),(∀b∈a,b≠c)→spl c a=[a]
 |[],_=>rfl
 |b::a,h=>by
  rw [aof c b _ (h b (by simp)),spl_no c a (fun x hx=>h x (zag _ hx))];rfl
theorem spl_join:∀gs:List Str,gs≠[]→(∀g∈gs,∀b∈g,b≠58)→spl 58 (zar gs [58])=gs
 |[],h,_=>absurd rfl h
 |[a],_,h=>by rw [join_one,spl_no 58 a (h a (by simp))]
 |a::b::l,_,h=>by
  rw [join_two,spl_app 58 a _ (h a (by simp)),spl_join (b::l) (by simp) (fun g hg=>h g (zag _ hg))]
def spc:Str→Bool
 |[]=>true
 |c::l=>(if c=58 then !(l.head? ==none)&& !(l.head? ==some 58)else true)&&spc l
theorem spc_index:∀l:Str,spc l=true→zaB l [58,58]= -1∧∀r,zaB (l++58::58::r) [58,58]=(l.length:Int)
 |[],_=>⟨by decide,fun r=>by rw [zaH,atm,if_pos (by simp [List.isPrefixOf])];rfl⟩
 |c::l,h=>by
  rw [spc,zas]at h
  obtain⟨i1,i2⟩:=spc_index l h.2
  have key:∀r:Str,(r=[]∨l≠[]∨c≠58)→([58,58]:Str).isPrefixOf (c::(l++r))=false:=by
   intro r hr
   by_cases h58:c=58
   ·subst h58
    cases l with
    |nil=>simp at h
    |cons d l=>
     have hd:¬d=58:=by simpa using h.1
     have hd':((58:UInt8)==d)=false:=by simpa using fun e:(58:UInt8)=d=>hd e.symm
     simp [List.isPrefixOf,hd']
   ·have:((58:UInt8)==c)=false:=by simpa using fun e:(58:UInt8)=c=>h58 e.symm
    simp [List.isPrefixOf,this]
  constructor
  ·have:=key [] (.inl rfl)
   rw [zan]at this
   rw [atm,this,if_neg (by decide),if_pos i1]
  ·intro r
   have:=key (58::58::r) (by
    by_cases h58:c=58
    ·right;left
     intro e
     subst e h58
     simp at h
    ·exact .inr (.inr h58))
   rw [zaU,atm,this,if_neg (by decide),i2 r,if_neg (by omega),zac]
   omega
theorem spc_no:∀a:Str,(∀b∈a,b≠58)→spc a=true
 |[],_=>rfl
 |c::a,h=>by rw [spc,if_neg (h c (by simp)),spc_no a (fun x hx=>h x (zag _ hx))];rfl
theorem spc_app:∀(a:Str) (d:UInt8) (z:Str),(∀b∈a,b≠58)→d≠58→spc (d::z)=true→spc (a++58::d::z)=true
 |[],d,z,_,hd,hz=>by
  have:(d==58)=false:=by simpa using hd
  rw [zaH,spc,if_pos rfl,hz]
  simp [this]
 |c::a,d,z,h,hd,hz=>by
  rw [zaU,spc,if_neg (h c (by simp)),spc_app a d z (fun x hx=>h x (zag _ hx)) hd hz];rfl
theorem spc_join:∀gs:List Str,(∀g∈gs,g≠[]∧∀b∈g,b≠58)→spc (zar gs [58])=true
 |[],_=>by simp [Lib.join_nil,spc]
 |[a],h=>by rw [join_one];exact spc_no a (h a (by simp)).2
 |a::b::l,h=>by
  have ih:=spc_join (b::l) (fun g hg=>h g (zag _ hg))
  have hb:=h b (by simp)
  obtain⟨d,z,hz⟩:∃d z,zar (b::l) [58]=d::z∧d≠58:=by
   cases hbb:b with
   |nil=>exact absurd hbb hb.1
   |cons d b'=>
    have hd:d≠58:=hb.2 d (by rw [hbb];simp)
    cases l with
    |nil=>exact⟨d,b',by rw [join_one],hd⟩
    |cons x l=>exact⟨d,b'++(58::zar (x::l) [58]),by rw [join_two];rfl,hd⟩
  rw [join_two,hz.1]
  rw [hz.1]at ih
  exact spc_app a d z (h a (by simp)).2 hz.2 ih
theorem dw_idem(p:UInt8→Bool):∀l:Str,(l.dropWhile p).dropWhile p=l.dropWhile p
 |[]=>rfl
 |c::l=>by
  cases h:p c with
  |true=>rw [List.dropWhile_cons_of_pos h];exact dw_idem p l
  |false=>rw [List.dropWhile_cons_of_neg (by rw [h];decide),List.dropWhile_cons_of_neg (by rw [h];decide)]
theorem hex_low:∀c:UInt8,hexB c=true→hexB (aft c)=true:=aaz _ (by decide+kernel)
theorem hex_n58:∀c:UInt8,hexB c=true→(!(aft c==58))=true:=aaz _ (by decide+kernel)
theorem grpN_idem(g:Str)(h:aob g=true):aob (aum g)=true∧aum (aum g)=aum g∧aum g≠[]∧∀b∈aum g,b≠58:=by
 have hx:g.all hexB=true:=by unfold aob at h;simp only [zas]at h;exact h.2
 have hlen:=grpN_len g h
 have h58:∀b∈aum g,b≠58:=fun b hb=>by
  have:=grpN_q (fun c=> !(c==58)) hex_n58 (by decide) g h b hb
  simpa using this
 have hhex:∀b∈aum g,hexB b=true:=grpN_q hexB hex_low (by decide) g h
 have hne:aum g≠[]:=by
  unfold aum
  split
  ·simp
  ·assumption
 refine⟨?_, ?_,hne,h58⟩
 ·have:=List.length_pos_iff.2 hne
  unfold aob
  rw [decide_eq_true (by omega),decide_eq_true hlen,zax,zax,List.all_eq_true]
  exact hhex
 ·have hlow:lowP (aum g)=aum g:=by
   show aab (aum g)=aum g
   refine lowerL_id _ fun b hb=> ?_
   unfold aum at hb
   split at hb
   ·rw [List.mem_singleton.1 hb];decide
   ·have hm:b∈lowP g:=(List.dropWhile_suffix _).subset hb
    obtain⟨d,hd,rfl⟩:=List.mem_map.1 hm
    exact low2 d
  have htr:zaS (aum g) [48]=[]∨zaS (aum g) [48]=aum g:=by
   unfold aum
   split
   ·left;decide
   ·right;unfold zaS;exact dw_idem _ _
  have e:aum (aum g)=if zaS (aum g) [48]=[]then [48]else zaS (aum g) [48]:=by
   conv=>lhs;unfold aum
   rw [show lowP (if zaS (lowP g) [48]=[]then [48]else zaS (lowP g) [48])=aum g from hlow]
  rw [e]
  rcases htr with h0|h0
  ·rw [if_pos h0]
   have:aum g=[48]:=by
    unfold aum at h0⊢
    split
    ·rfl
    ·rename_i hn
     rw [if_neg hn]at h0
     unfold zaS at h0 hn
     rw [dw_idem]at h0
     exact absurd h0 hn
   rw [this]
  ·rw [h0,if_neg hne]
def gdG(gs:List Str):Prop:=∀g∈gs,aob g=true∧aum g=g∧g≠[]∧∀b∈g,b≠58
theorem grpList_gd(s:Str):gdG (afq s).1:=by
 intro x hx
 unfold afq at hx
 split at hx
 ·rename_i ha
  obtain⟨y,hy,rfl⟩:=List.mem_map.1 hx
  exact grpN_idem y (List.all_eq_true.1 ha y hy)
 ·simp at hx
theorem grpL0_gd(s:Str):gdG (afz s).1:=by
 unfold afz
 split
 ·intro x hx;simp at hx
 ·exact grpList_gd s
theorem grpList_join(gs:List Str)(h:gdG gs)(hne:gs≠[]):afq (zar gs [58])=(gs,true):=by
 unfold afq
 rw [spl_join gs hne (fun g hg=>(h g hg).2.2.2),if_pos (List.all_eq_true.2 fun g hg=>(h g hg).1)]
 congr 1
 conv=>rhs;rw [←List.map_id gs]
 exact zbq fun g hg=>(h g hg).2.1
theorem join_ne(gs:List Str)(h:gdG gs)(hne:gs≠[]):zar gs [58]≠[]:=by
 intro e
 have:=spl_join gs hne (fun g hg=>(h g hg).2.2.2)
 rw [e]at this
 cases gs with
 |nil=>exact hne rfl
 |cons g l=>
  have e2:([]:Str)=g:=by
   have:=congrArg List.head? this
   simpa [spl] using this
  exact(h g (by simp)).2.2.1 e2.symm
theorem grpL0_join(gs:List Str)(h:gdG gs):afz (zar gs [58])=(gs,true):=by
 unfold afz
 by_cases hne:gs=[]
 ·subst hne;rw [if_pos (by simp [Lib.join_nil])]
 ·rw [if_neg (join_ne gs h hne),grpList_join gs h hne]
theorem join_len1:∀gs:List Str,(∀g∈gs,g.length≤4)→gs≠[]→(zar gs [58]).length+1≤gs.length*5
 |[],_,h=>absurd rfl h
 |[a],h,_=>by rw [join_one];have:=h a (by simp);simp;omega
 |a::b::l,h,_=>by
  have ih:=join_len1 (b::l) (fun g hg=>h g (zag _ hg)) (by simp)
  have:=h a (by simp)
  rw [join_two]
  simp only [zab,zac]at ih⊢
  omega
theorem gdG_len{gs:List Str}(h:gdG gs):∀g∈gs,g.length≤4:=fun g hg=>by
 have:=(h g hg).1
 unfold aob at this
 simp only [zas,decide_eq_true_eq]at this
 exact this.1.2
theorem grps_idem(x:Str)(h:(asy x).2=true):asy (asy x).1=((asy x).1,true):=by
 unfold asy at h
 by_cases h39:39<x.length
 ·rw [if_pos h39]at h;cases h
 rw [if_neg h39]at h
 by_cases hc:(zbe x [58,58]).2.2=false
 ·rw [if_pos hc]at h
  simp only [zas,decide_eq_true_eq]at h
  have e:(asy x).1=zar (afq x).1 [58]:=by unfold asy;rw [if_neg h39,if_pos hc]
  rw [e]
  have hg:=grpList_gd x
  generalize(afq x).1=gs at h hg⊢
  have hne:gs≠[]:=by intro e;rw [e]at h;exact absurd h.2 (by decide)
  have hl:=join_len1 gs (gdG_len hg) hne
  have hi:=(spc_index _ (spc_join gs fun g hg'=>(hg g hg').2.2)).1
  unfold asy
  rw [if_neg (by omega),cut_eq,if_pos hi,if_pos rfl,grpList_join gs hg hne,decide_eq_true h.2];rfl
 ·rw [if_neg hc]at h
  by_cases hb:(!(afz (zbe x [58,58]).1).2|| !(afz (zbe x [58,58]).2.1).2||decide (7<((afz (zbe x [58,58]).1).1.length:Int)+((afz (zbe x [58,58]).2.1).1.length:Int)))=true
  ·rw [if_pos hb]at h;cases h
  ·have e:(asy x).1=zar (afz (zbe x [58,58]).1).1 [58]++[58,58]++zar (afz (zbe x [58,58]).2.1).1 [58]:=by unfold asy;rw [if_neg h39,if_neg hc,if_neg hb]
   rw [e]
   have gA:=grpL0_gd (zbe x [58,58]).1
   have gB:=grpL0_gd (zbe x [58,58]).2.1
   simp only [Bool.or_eq_true,Bool.not_eq_true',decide_eq_true_eq,not_or]at hb
   have h7:=hb.2
   generalize(afz (zbe x [58,58]).1).1=A at gA h7⊢
   generalize(afz (zbe x [58,58]).2.1).1=B at gB h7⊢
   have lA:(zar A [58]).length≤A.length*5:=asf [58] 4 A (gdG_len gA)
   have lB:(zar B [58]).length≤B.length*5:=asf [58] 4 B (gdG_len gB)
   have hi:=(spc_index _ (spc_join A fun g hg'=>(gA g hg').2.2)).2 (zar B [58])
   have e2:zar A [58]++[58,58]++zar B [58]=zar A [58]++58::58::zar B [58]:=by simp
   have hcut:zbe (zar A [58]++[58,58]++zar B [58]) [58,58]=(zar A [58],zar B [58],true):=by
    rw [e2,cut_eq,hi,if_neg (by omega),zat,List.take_left]
    congr 2
    rw [show zar A [58]++58::58::zar B [58]=(zar A [58]++[58,58])++zar B [58]by simp,show(zar A [58]).length+([58,58]:Str).length=(zar A [58]++[58,58]).length by simp,List.drop_left]
   unfold asy
   rw [if_neg (by simp only [zab,zac,zal];omega),hcut,if_neg (show¬(true=false)by decide)]
   simp only
   rw [grpL0_join A gA,grpL0_join B gB,if_neg (by
    simp only [Bool.or_eq_true,Bool.not_eq_true',decide_eq_true_eq]
    rintro((h|h)|h)
    ·cases h
    ·cases h
    ·omega)]
theorem spl_map(c:UInt8)(f:UInt8→UInt8)(hf:∀b,f b=c↔b=c):∀s:Str,spl c (s.map f)=(spl c s).map (List.map f)
 |[]=>rfl
 |b::l=>by
  have ih:=spl_map c f hf l
  by_cases h:b=c
  ·have hb:f b=c:=(hf b).2 h
   rw [zaE,h,arb]
   rw [h]at hb
   rw [hb,arb,ih];rfl
  ·rw [zaE,aof c b l h,aof c (f b) _ (fun e=>h ((hf b).1 e)),ih]
   cases spl c l with
   |nil=>rfl
   |cons x r=>rfl
theorem low46':∀c:UInt8,(decide (aft c=46))=decide (c=46):=aaz _ (by decide+kernel)
theorem low46(b:UInt8):aft b=46↔b=46:=by
 have:=low46' b
 by_cases h:b=46
 ·simp [h];decide
 ·rw [decide_eq_false h,decide_eq_false_iff_not]at this
  simp [h,this]
theorem low_lab:∀c:UInt8,labB (aft c)=labB c:=aaz _ (by decide+kernel)
theorem low_dig:∀c:UInt8,aby (aft c)=aby c:=aaz _ (by decide+kernel)
theorem low_dig2:∀c:UInt8,aby (aft c)=true→aft c=c:=aaz _ (by decide+kernel)
theorem low_45':∀c:UInt8,(aft c==45)=(c==45):=aaz _ (by decide+kernel)
theorem at_low(x:Str)(i:Int):(at_ (aab x) i==45)=(at_ x i==45):=by
 unfold aab at_
 rw [List.getD_eq_getElem?_getD,List.getD_eq_getElem?_getD,List.getElem?_map]
 cases x[i.toNat]? with
 |none=>rfl
 |some c=>exact low_45' c
theorem labOk_low(x:Str):auo (aab x)=auo x:=by
 have hl:(aab x).length=x.length:=by unfold aab;exact zaF ..
 have ha:(aab x).all labB=x.all labB:=by
  unfold aab
  rw [List.all_map]
  congr 1
  funext c
  exact low_lab c
 unfold auo
 rw [hl,at_low,at_low,ha]
theorem labW_low(x:Str):labW (aab x)=labW x:=by
 unfold labW aab
 rw [List.any_map]
 congr 1
 funext c
 show(!aby (aft c))=_
 rw [low_dig]
theorem named_low(s:Str):namedP (aab s)=namedP s:=by
 have hl:(aab s).length=s.length:=by unfold aab;exact zaF ..
 have hs:spl 46 (aab s)=(spl 46 s).map aab:=spl_map 46 aft low46 s
 have h1:((spl 46 s).map aab).all auo=(spl 46 s).all auo:=by rw [List.all_map];congr 1;funext x;exact labOk_low x
 have h2:((spl 46 s).map aab).any labW=(spl 46 s).any labW:=by rw [List.any_map];congr 1;funext x;exact labW_low x
 unfold namedP
 rw [hl,hs,h1,h2]
theorem brk_form(g:Str):brkB ([91]++g++[93])=true∧sub ([91]++g++[93]) 1 ((([91]++g++[93]).length:Int)-1)=g:=by
 have hl:([91]++g++[93]).length=g.length+2:=by simp
 have e:(((g.length+2:Nat):Int)-1)=(([91]++g).length:Int):=by simp;omega
 constructor
 ·unfold brkB
  rw [hl,decide_eq_true (by omega),zax,e]
  have h1:at_ ([91]++g++[93]) (([91]++g).length:Int)=93:=ayp ([91]++g) 93 []
  have h0:at_ ([91]++g++[93]) 0=91:=rfl
  rw [h1,h0];rfl
 ·rw [hl]
  have:=subA ([91]++g++[93]) [91] g [93] (by simp)
  have e2:(((g.length+2:Nat):Int)-1)=((([91]:Str).length+g.length:Nat):Int):=by simp;omega
  rw [e2]
  exact this
theorem host_idem(s:Str)(h:(akx s).2=true):akx (akx s).1=((akx s).1,true):=by
 by_cases hb:brkB s=true
 ·unfold akx at h
  rw [if_pos hb]at h
  by_cases hg:(asy (sub s 1 ((s.length:Int)-1))).2=true
  ·have e:(akx s).1=[91]++(asy (sub s 1 ((s.length:Int)-1))).1++[93]:=by unfold akx;rw [if_pos hb,if_pos hg]
   rw [e]
   have hi:=grps_idem _ hg
   generalize(asy (sub s 1 ((s.length:Int)-1))).1=g at hi⊢
   obtain⟨f1,f2⟩:=brk_form g
   unfold akx
   rw [if_pos f1,f2,hi,if_pos rfl]
  ·rw [if_neg hg]at h;cases h
 ·by_cases hn:ayd s=true
  ·have e:akx s=(s,true):=by unfold akx;rw [if_neg hb,if_pos hn]
   rw [e];exact e
  ·by_cases hm:namedP s=true
   ·have e:akx s=(aab s,true):=by unfold akx;rw [if_neg hb,if_neg hn,if_pos hm]
    rw [e]
    have hl:(aab s).length=s.length:=by unfold aab;exact zaF ..
    have hch:∀b∈s,labB b=true∨b=46:=by
     unfold namedP at hm
     simp only [zas]at hm
     exact spl_all 46 labB s (fun x hx=>by
      have:=List.all_eq_true.1 hm.1.2 x hx
      unfold auo at this
      simp only [zas]at this
      exact this.2)
    have nb:brkB (aab s)=false:=by
     cases hx:brkB (aab s)with
     |false=>rfl
     |true=>
      exfalso
      unfold brkB at hx
      simp only [zas,decide_eq_true_eq,beq_iff_eq]at hx
      have:=at_mem (aab s) 0 (by omega)
      have e0:at_ (aab s) ((0:Nat):Int)=91:=hx.1.2
      rw [e0]at this
      obtain⟨d,hd,he⟩:=List.mem_map.1 this
      rcases hch d hd with h1|h1
      ·have:labB (aft d)=true:=by rw [low_lab];exact h1
       rw [he]at this
       exact lab_n91 91 this rfl
      ·rw [h1]at he;exact absurd he (by decide)
    have nn:ayd (aab s)=false:=by
     cases hx:ayd (aab s)with
     |false=>rfl
     |true=>
      exfalso
      have hx':=hx
      unfold ayd at hx'
      simp only [zas]at hx'
      have:=spl_all 46 aby (aab s) (fun x hx=>(num_parts x (by rw [←oct_num];exact List.all_eq_true.1 hx'.1.2 x hx)).2.2)
      have hid:aab s=s:=lowerL_id s fun b hb=>by
       rcases this (aft b) (List.mem_map_of_mem hb)with h1|h1
       ·exact low_dig2 b h1
       ·rw [h1];exact((low46 b).1 h1).symm
      rw [hid]at hx
      exact hn hx
    show akx (aab s)=(aab s,true)
    unfold akx
    rw [nb,if_neg (by decide),nn,if_neg (by decide),named_low,hm,if_pos rfl,lowlowL]
   ·unfold akx at h
    rw [if_neg hb,if_neg hn,if_neg hm]at h;cases h
open Bool renaming true_and → zax
open Go.Op renaming bytesLess → zaL
open List renaming append_assoc → zav, nil_append → zaH
open UInt8 renaming lt_iff_toNat_lt → zbd
theorem gtN_less(a b:Str):gtN a b=zaL b a:=by unfold gtN;rw [←less_tri b a]
theorem less_trans:∀a b c:Str,zaL b a=false→zaL c b=false→zaL c a=false
 |[],b,c,_,_=>by cases c<;>rfl
 |x::a,[],c,h,_=>by cases h
 |x::a,y::b,[],_,h=>by cases h
 |x::a,y::b,z::c,h1,h2=>by
  rw [zaL,Bool.or_eq_false_iff]at h1 h2⊢
  have n1:¬y<x:=of_decide_eq_false h1.1
  have n2:¬z<y:=of_decide_eq_false h2.1
  rw [zbd]at n1 n2
  refine⟨decide_eq_false (by rw [zbd];omega), ?_⟩
  by_cases h:z=x
  ·have e:y=x:=by
    apply UInt8.toNat_inj.1
    rw [h]at n2
    omega
   subst h e
   have e1:(y==y)=true:=by simp
   rw [e1,zax]at h1 h2⊢
   exact less_trans a b c h1.2 h2.2
  ·have:(z==x)=false:=by simpa using h
   rw [this];rfl
theorem less_asym(a b:Str)(h:zaL a b=true):zaL b a=false:=by rw [less_tri b a,h];rfl
def leP(a b:PP):Prop:=zaL b.1 a.1=false
theorem leP_anti(a b:PP)(h1:leP a b)(h2:leP b a):a.1=b.1:=by
 unfold leP at h1 h2
 rw [less_tri b.1 a.1,h2,Bool.false_or]at h1
 have:(a.1==b.1)=true:=by simpa using h1
 exact eq_of_beq this
theorem insV_dsc(x:PP):∀V:List PP,V.Pairwise (fun a b=>leP b a)→(insV x V).Pairwise (fun a b=>leP b a)
 |[],_=>by simp [insV]
 |a::V,h=>by
  rw [List.pairwise_cons]at h
  rw [insV]
  cases hg:gtN a.1 x.1 with
  |true=>
   rw [cond_true,List.pairwise_cons]
   refine⟨fun y hy=> ?_,insV_dsc x V h.2⟩
   rcases insV_mem x y V hy with rfl|hy
   ·exact less_asym _ _ (by rw [←gtN_less];exact hg)
   ·exact h.1 y hy
  |false=>
   have hax:leP a x:=by unfold leP;rw [←gtN_less];exact hg
   rw [cond_false,List.pairwise_cons,List.pairwise_cons]
   refine⟨fun y hy=> ?_,h.1,h.2⟩
   rcases List.mem_cons.1 hy with rfl|hy
   ·exact hax
   ·exact less_trans _ _ _ (h.1 y hy) hax
theorem insV_perm(x:PP):∀V:List PP,(insV x V).Perm (x::V)
 |[]=>List.Perm.refl _
 |a::V=>by
  rw [insV]
  cases gtN a.1 x.1 with
  |true=>rw [cond_true];exact((insV_perm x V).cons a).trans (List.Perm.swap x a V)
  |false=>rw [cond_false]
theorem insR_srt(x:PP)(l:List PP)(h:l.Pairwise leP):(insR x l).Pairwise leP:=by
 unfold insR
 rw [List.pairwise_reverse]
 exact insV_dsc x _ (List.pairwise_reverse.2 (by simpa using h))
theorem insR_perm(x:PP)(l:List PP):(insR x l).Perm (l++[x]):=by
 unfold insR
 refine(List.reverse_perm _).trans ((insV_perm x _).trans ?_)
 exact(((List.reverse_perm l).cons x).trans (List.perm_append_comm (l₁:=[x]) (l₂:=l)))
theorem fold_srt:∀(q p:List PP),p.Pairwise leP→(q.foldl (fun out x=>insR x out) p).Pairwise leP∧(q.foldl (fun out x=>insR x out) p).Perm (p++q)
 |[],p,h=>⟨h,by simp⟩
 |a::q,p,h=>by
  rw [List.foldl_cons]
  obtain⟨h1,h2⟩:=fold_srt q (insR a p) (insR_srt a p h)
  refine⟨h1,h2.trans ?_⟩
  have:=(insR_perm a p).append_right q
  rw [zav,List.singleton_append]at this
  exact this
theorem isort_srt(l:List PP):(aps l).Pairwise leP:=(fold_srt l [] List.Pairwise.nil).1
theorem avn(l:List PP):(aps l).Perm l:=by
 have:=(fold_srt l [] List.Pairwise.nil).2
 rw [zaH]at this
 exact this
def dstN(l:List PP):Prop:=l.Pairwise fun a b=>a.1≠b.1
theorem dst_inj:∀(l:List PP),dstN l→∀a∈l,∀b∈l,a.1=b.1→a=b
 |[],_,a,h,_,_,_=>absurd h (by simp)
 |x::l,hd,a,ha,b,hb,e=>by
  unfold dstN at hd
  rw [List.pairwise_cons]at hd
  rcases List.mem_cons.1 ha with rfl|ha'
  ·rcases List.mem_cons.1 hb with rfl|hb'
   ·rfl
   ·exact absurd e (hd.1 b hb')
  ·rcases List.mem_cons.1 hb with rfl|hb'
   ·exact absurd e.symm (hd.1 a ha')
   ·exact dst_inj l hd.2 a ha' b hb' e
theorem dst_perm{l m:List PP}(h:l.Perm m)(hd:dstN l):dstN m:=h.pairwise hd fun h e=>h e.symm
theorem isort_uniq(l m:List PP)(h:l.Perm m)(hd:dstN l):aps l=aps m:=by
 have hp:(aps l).Perm (aps m):=(avn l).trans (h.trans (avn m).symm)
 have hdi:=dst_perm (avn l).symm hd
 refine List.Perm.eq_of_pairwise (fun a b ha hb h1 h2=> ?_) (isort_srt l) (isort_srt m) hp
 exact dst_inj _ hdi a ha b (hp.mem_iff.2 hb) (leP_anti a b h1 h2)
open Bool renaming and_eq_true → zas, not_false → zay, not_true → zap
open Go.Lib renaming hasPrefix → zaO, trimPrefix → zaq
open List renaming all_cons → zaT, length → zaZ, length_nil → zal, length_take → zaw
open Option renaming bind_some → zaa, map_some → zaP
def aud(s:Str):Bool:=s.all fun c=> !abf c
theorem inC_clean(k:Int)(hk:k=0∨k=1∨k=2):∀c:UInt8,inC c k=true→abf c=false:=by
 rcases hk with rfl|rfl|rfl<;>exact aaz _ (by decide+kernel)
theorem lower_control:∀c:UInt8,abf (aft c)=abf c:=aaz _ (by decide+kernel)
theorem clean_lower(s:Str):aud (aab s)=aud s:=by
 unfold aud aab
 rw [List.all_map]
 congr 1
 funext c
 simp only [Function.comp_apply,lower_control]
theorem clean_eq(s:Str)(hs:s.length≤4194304):aly FU s=some (aud s):=by
 have h:=all_gen0 (fun c=> !abf c) s hs false (amt FU s)
  (fun fk=>by rw [aos,ahg,if_neg (by omega)])
  (fun fk k hk h=>by
   have h':abf (at_ s (k:Int))=true:=by simpa using h
   rw [aos,ahg,if_pos (by omega),gok,ad_control,zaa,h',cond_true])
  (fun fk k hk h=>by
   have h':abf (at_ s (k:Int))=false:=by simpa using h
   rw [aos,ahg,if_pos (by omega),gok,ad_control,zaa,h',cond_false,gok])
 unfold aly
 rw [h,zaa]
 unfold aud
 cases s.all (fun c=> !abf c)<;>rfl
theorem conF_clean(k:Int)(hk:k=0∨k=1∨k=2):∀(f:Nat) (l:Str),badF k f l=none→aud (conF k f l)=true
 |0,l,_=>rfl
 |f+1,l,h=>by
  unfold badF at h
  unfold conF
  by_cases hl:l=[]
  ·rw [if_pos hl];rfl
  ·rw [if_neg hl]at h⊢
   cases hc:inC (at_ l 0) k with
   |true=>
    rw [hc,if_pos rfl,Option.map_eq_none_iff]at h
    rw [if_pos rfl]
    have:=conF_clean k hk f (l.drop 1) h
    unfold aud at this⊢
    rw [zaT,inC_clean k hk _ hc,this];rfl
   |false=>
    rw [hc,if_neg (by decide)]at h
    rw [if_neg (by decide)]
    cases hE:escH l with
    |none=>rw [hE]at h;cases h
    |some v=>
     rw [hE]at h
     simp only at h⊢
     cases hv:abf v with
     |true=>rw [hv,if_pos rfl]at h;cases h
     |false=>
      rw [hv,if_neg (by decide),Option.map_eq_none_iff]at h
      have:=conF_clean k hk f (l.drop 3) h
      unfold aud at this⊢
      rw [zaT,hv,this];rfl
theorem conP_clean(k:Int)(hk:k=0∨k=1∨k=2)(l:Str)(h:badP k l=none):aud (conP k l)=true:=conF_clean k hk _ l h
def okQ(k:Int)(p:PP):Prop:=p.1≠[]∧aab p.1=p.1∧aud p.1=true∧aud p.2.1=true∧(k=1→p.2.2= !decide (p.2.1=[]))∧(k=2→p.2.2=true)
theorem room_no{l:List PP}{nm:Str}(h:arc l nm=0):∀q∈l,q.1≠nm:=by
 unfold arc at h
 split at h
 ·exact absurd h (by decide)
 ·rename_i hn
  intro q hq e
  exact hn (List.any_eq_true.2 ⟨q,hq,by simpa using e⟩)
theorem fld_ok(k:Int)(hk:k=1∨k=2)(l:List PP)(T:Str)(h:(awf k l T).1=0):okQ k (awf k l T).2∧∀q∈l,q.1≠(awf k l T).2.1:=by
 have hk3:k=0∨k=1∨k=2:=.inr hk
 unfold awf at h⊢
 cases hb:badP k (T.take (afx T))with
 |some j=>rw [hb]at h;exact absurd h (show¬(5:UInt8)=0 by decide)
 |none=>
  rw [hb]at h
  simp only at h⊢
  by_cases h0:afx T=0
  ·rw [if_pos h0]at h;exact absurd h (by decide)
  ·rw [if_neg h0]at h⊢
   have hne:∀_:afx T≤T.length,T.take (afx T)≠[]:=fun hle e=>by
    have:=congrArg zaZ e
    rw [zaw,zal]at this
    omega
   have hne':=hne (arw _ _)
   have hN:aab (conP k (T.take (afx T)))≠[]:=fun e=>hne' ((conP_nil k _ hb).1 ((lower_nil _).1 e))
   have hNc:aud (aab (conP k (T.take (afx T))))=true:=by rw [clean_lower];exact conP_clean k hk3 _ hb
   by_cases hlt:afx T<T.length
   ·rw [if_pos hlt]at h⊢
    cases hb2:badP k (T.drop (afx T+1))with
    |some j=>rw [hb2]at h;exact absurd h (show¬(5:UInt8)=0 by decide)
    |none=>
     rw [hb2]at h
     simp only at h⊢
     by_cases hx:T.drop (afx T+1)=[]∧k=1
     ·rw [if_pos hx]at h;exact absurd h (by decide)
     ·rw [if_neg hx]at h⊢
      refine⟨⟨hN,lowlowL _,hNc,conP_clean k hk3 _ hb2,fun h1=> ?_,fun _=>rfl⟩,room_no h⟩
      have:¬conP k (T.drop (afx T+1))=[]:=fun e=>hx ⟨(conP_nil k _ hb2).1 e,h1⟩
      show true= !decide (conP k (T.drop (afx T+1))=[])
      rw [decide_eq_false this];rfl
   ·rw [if_neg hlt]at h⊢
    by_cases h2:k=2
    ·rw [if_pos h2]at h;exact absurd h (by decide)
    ·rw [if_neg h2]at h⊢
     exact⟨⟨hN,lowlowL _,hNc,rfl,fun _=>rfl,fun e=>absurd e h2⟩,room_no h⟩
def LS(k:Int)(l:List PP):Prop:=dstN l∧∀p∈l,okQ k p
theorem LS.nil(k:Int):LS k []:=⟨List.Pairwise.nil,by simp⟩
theorem LS.snoc{k:Int}{l:List PP}(h:LS k l)(p:PP)(hp:okQ k p)(hn:∀q∈l,q.1≠p.1):LS k (l++[p]):=by
 refine⟨List.pairwise_append.2 ⟨h.1,List.pairwise_singleton _ _,fun a ha b hb=> ?_⟩,fun q hq=> ?_⟩
 ·rw [List.mem_singleton.1 hb];exact hn a ha
 ·rcases List.mem_append.1 hq with hq|hq
  ·exact h.2 q hq
  ·rw [List.mem_singleton.1 hq];exact hp
theorem LS.sort{k:Int}{l:List PP}(h:LS k l):LS k (aps l):=⟨dst_perm (avn l).symm h.1,fun p hp=>h.2 p ((avn l).mem_iff.1 hp)⟩
theorem isort_isort(l:List PP)(h:dstN l):aps (aps l)=aps l:=(isort_uniq l (aps l) (avn l).symm h).symm
theorem plL_ok(st s:Str):∀(f i:Nat) (l:List PP),LS 1 l→LS 1 (plL st s f i l).2.2
 |0,i,l,h=>h
 |f+1,i,l,h=>by
  unfold plL
  split
  ·split
   ·rename_i h0
    obtain⟨h1,h2⟩:=fld_ok 1 (.inl rfl) _ _ h0
    exact plL_ok st s f _ _ (h.snoc _ h1 h2)
   ·exact LS.nil 1
  ·exact h
theorem hdL_ok(s:Str):∀(f i:Nat) (l:List PP),LS 2 l→LS 2 (hdL s f i l).2
 |0,i,l,h=>h
 |f+1,i,l,h=>by
  unfold hdL
  split
  ·split
   ·rename_i h0
    obtain⟨h1,h2⟩:=fld_ok 2 (.inr rfl) _ _ h0
    exact hdL_ok s f _ _ (h.snoc _ h1 h2)
   ·exact LS.nil 2
  ·exact h
def dialL(u:Str):Bool:= !decide (zaq u [43]=[])&&decide ((zaq u [43]).length≤30)&&(zaq u [43]).all (dialB (zaO u [43]))
theorem dialed_step(sg:Bool)(c:UInt8):((acw FU c).bind fun(y170:Bool)=>(bif (!y170)then(bif sg then some true else(if c=(42:UInt8)then some false else some (!decide (c=(35:UInt8)))))else some false))=some (!dialB sg c):=by
 rw [ad_digit,zaa]
 revert c
 cases sg<;>exact aaz _ (by decide+kernel)
theorem dialed_eq(u:Str)(hu:u.length≤4194304):aqy FU u=some (dialL u):=by
 have hlen:=trimPrefix_len u [43]
 have h:=all_gen0 (dialB (zaO u [43])) (zaq u [43]) (by omega) false (alf FU u)
  (fun fk=>by rw [ang,agn,if_neg (by omega)])
  (fun fk k hk h=>by rw [ang,agn,if_pos (by omega),gok,dialed_step,zaa,h,zay,cond_true])
  (fun fk k hk h=>by rw [ang,agn,if_pos (by omega),gok,dialed_step,zaa,h,zap,cond_false,gok])
 unfold aqy dialL
 by_cases h0:zaq u [43]=[]
 ·rw [if_pos h0,zaa,cond_true,decide_eq_true h0];rfl
 ·rw [if_neg h0,zaa,decide_eq_false h0]
  by_cases h30:30<(zaq u [43]).length
  ·rw [decide_eq_true (by omega),cond_true,decide_eq_false (show¬(zaq u [43]).length≤30 by omega)];rfl
  ·rw [decide_eq_false (by omega),cond_false,h,zaa,decide_eq_true (show(zaq u [43]).length≤30 by omega)]
   cases(zaq u [43]).all (dialB (zaO u [43]))<;>rfl
theorem keepN_all(sg:Bool):∀(T d:Str),arj sg T=some d→d.all (dialB sg)=true
 |[],d,h=>by simp only [arj,Option.some.injEq]at h;subst h;rfl
 |c::T,d,h=>by
  unfold arj at h
  split at h
  ·rename_i hd
   cases hk:arj sg T with
   |none=>rw [hk]at h;cases h
   |some d'=>
    rw [hk]at h
    simp only [zaP,Option.some.injEq]at h
    subst h
    rw [zaT,hd,keepN_all sg T d' hk];rfl
  ·split at h
   ·exact keepN_all sg T d h
   ·cases h
theorem telP_ok(s:Str)(i:Nat)(h:(telP s i).1=0):dialL (telP s i).2=true:=by
 unfold telP at h⊢
 cases hk:arj (aax s i 43) (sub s ((if aax s i 43=true then i+1 else i:Nat):Int) (utl [59] s i:Int))with
 |none=>rw [hk]at h;exact absurd h (show¬(5:UInt8)=0 by decide)
 |some d=>
  rw [hk]at h
  simp only at h⊢
  by_cases h0:d=[]
  ·rw [if_pos h0]at h;exact absurd h (by decide)
  ·rw [if_neg h0]at h⊢
   by_cases h30:30<d.length
   ·rw [if_pos h30]at h;exact absurd h (by decide)
   ·rw [if_neg h30]
    have ha:=keepN_all _ _ _ hk
    simp only
    cases hsg:aax s i 43 with
    |true=>
     rw [hsg]at ha
     rw [if_pos rfl]
     have e1:zaq (43::d) [43]=d:=by unfold zaq zaO;simp
     have e2:zaO (43::d) [43]=true:=by unfold zaO;simp
     unfold dialL
     rw [e1,e2,ha,decide_eq_false h0,decide_eq_true (show d.length≤30 by omega)];rfl
    |false=>
     rw [hsg]at ha hk
     rw [if_neg (by decide)]
     have e1:=keepN_head _ _ hk
     have e2:zaO d [43]=false:=by
      cases d with
      |nil=>exact absurd rfl h0
      |cons c d=>
       have hc:dialB false c=true:=by rw [zaT,zas]at ha;exact ha.1
       have:c≠43:=fun e=>by subst e;exact absurd hc (by decide)
       have h2:¬(43:UInt8)=c:=fun e=>this e.symm
       show((43:UInt8)==c&&([]:Str).isPrefixOf d)=false
       rw [beq_eq_false_iff_ne.2 h2];rfl
     unfold dialL
     rw [e1,e2,ha,decide_eq_false h0,decide_eq_true (show d.length≤30 by omega)];rfl
structure Good (u:UU):Prop where
 sch:((u.1=SIP∨u.1=SIPS)∧akx u.2.2.1=(u.2.2.1,true)∧0≤u.2.2.2.1∧u.2.2.2.1≤65535∧aud u.2.1=true)∨(u.1=TEL∧u.2.2.1=[]∧u.2.2.2.1=0∧u.2.2.2.2.2=[]∧dialL u.2.1=true)
 ps:LS 1 u.2.2.2.2.1
 hs:LS 2 u.2.2.2.2.2
 pl:u.2.2.2.2.1.length≤16
 hl:u.2.2.2.2.2.length≤16
 pi:aps u.2.2.2.2.1=u.2.2.2.2.1
 hi:aps u.2.2.2.2.2=u.2.2.2.2.2
theorem restP_ok(st s sch us h:Str)(port:Int)(i:Nat)(h0:(aqa st s sch us h port i).1=0):
  ∃P H,(aqa st s sch us h port i).2=(sch,us,h,port,P,H)∧LS 1 P∧LS 2 H∧P.length≤16∧H.length≤16∧aps P=P∧aps H=H∧H=aps (hdL s (s.length+1) (plL st s (s.length+1) i []).2.1 []).2:=by
 unfold aqa at h0⊢
 have a1:=plL_ok st s (s.length+1) i [] (LS.nil 1)
 have a2:=hdL_ok s (s.length+1) (plL st s (s.length+1) i []).2.1 [] (LS.nil 2)
 have b1:=plL_len st s (s.length+1) i [] (by simp)
 have b2:=hdL_len s (s.length+1) (plL st s (s.length+1) i []).2.1 [] (by simp)
 split
 ·rename_i h1
  rw [if_pos h1]at h0
  split
  ·exact⟨_,_,rfl,a1.sort,a2.sort,by rw [isort_len];exact b1,by rw [isort_len];exact b2,isort_isort _ a1.1,isort_isort _ a2.1,rfl⟩
  ·rename_i h2
   rw [if_neg h2]at h0
   exact absurd h0 h2
 ·rename_i h1
  rw [if_neg h1]at h0
  exact absurd h0 h1
theorem portQ_ok(q:Str)(h:(portQ q).2=0):1≤(portQ q).1∧(portQ q).1≤65535:=by
 unfold portQ at h⊢
 split
 ·rename_i hx
  rw [if_pos hx]at h
  exact absurd h (by decide)
 ·rename_i hx
  rw [if_neg hx]at h
  have h1:¬((numQ q).1<1∨65535<(numQ q).1):=fun e=>hx ⟨h,e⟩
  omega
theorem hpP_ok(s:Str)(i:Nat)(h:(hpP s i).1=0):akx (hpP s i).2.1=((hpP s i).2.1,true)∧0≤(hpP s i).2.2.1∧(hpP s i).2.2.1≤65535:=by
 unfold hpP at h⊢
 split
 ·rename_i hh
  rw [if_pos hh]at h
  exact absurd h (by decide)
 ·rename_i hh
  rw [if_neg hh]at h
  have hid:=host_idem _ (by simpa using hh)
  split
  ·rename_i h58
   rw [if_pos h58]at h
   split
   ·rename_i hp
    have:=portQ_ok _ hp
    exact⟨hid,by simp only;omega,by simp only;omega⟩
   ·rename_i hp
    rw [if_neg hp]at h
    exact absurd h hp
  ·rename_i h58
   rw [if_neg h58]at h
   split
   ·rename_i hx
    rw [if_pos hx]at h
    exact absurd h (by decide)
   ·exact⟨hid,show(0:Int)≤0 by decide,show(0:Int)≤65535 by decide⟩
theorem usrP_ok(U:Str)(h:(usrP U).1=0):aud (usrP U).2=true∧(usrP U).2≠[]:=by
 unfold usrP at h⊢
 cases hb:badP 0 U with
 |some j=>
  rw [hb]at h
  simp only at h
  split at h<;>exact absurd h (by decide)
 |none=>
  rw [hb]at h
  simp only at h⊢
  by_cases hU:U=[]
  ·rw [if_pos hU]at h;exact absurd h (by decide)
  ·rw [if_neg hU]
   exact⟨conP_clean 0 (.inl rfl) U hb,fun e=>hU ((conP_nil 0 U hb).1 e)⟩
theorem plP_ok(s:Str)(i:Nat)(h:(plP s i).1=0):akx (plP s i).2.2.1=((plP s i).2.2.1,true)∧0≤(plP s i).2.2.2.1∧(plP s i).2.2.2.1≤65535∧aud (plP s i).2.1=true:=by
 unfold plP at h⊢
 split
 ·rename_i hlt
  rw [if_pos hlt]at h
  split
  ·rename_i hu
   rw [if_pos hu]at h
   have:=hpP_ok s _ h
   exact⟨this.1,this.2.1,this.2.2,(usrP_ok _ hu).1⟩
  ·rename_i hu
   rw [if_neg hu]at h
   exact absurd h hu
 ·rename_i hlt
  rw [if_neg hlt]at h
  have:=hpP_ok s _ h
  exact⟨this.1,this.2.1,this.2.2,rfl⟩
open Bool renaming not_true → zap, true_and → zax
open List renaming any_cons → zbm, append_nil → zan, flatMap_append → zbp, flatMap_cons → zaJ, length → zaZ, length_append → zab, length_cons → zac, length_nil → zal, length_singleton → zad
open Nat renaming le_refl → zam
open Option renaming bind_some → zaa
open Sum renaming elim_inl → zaz
open UInt8 renaming toNat_lt → zbk
theorem plL_end(s:Str):∀(f i:Nat) (l:List PP),i≤s.length→s.length-i<f→(i=s.length∨aax s i 59=true)→(plL [59] s f i l).1=0→(plL [59] s f i l).2.1=s.length
 |0,i,l,h1,h2,h3,h4=>by omega
 |f+1,i,l,h1,h2,h3,h4=>by
  unfold plL at h4⊢
  by_cases hz:aax s i 59=true
  ·rw [if_pos hz]at h4⊢
   have hlt:=(acz hz).1
   have hu1:=ame [59] s (i+1)
   have hu2:=aks [59] s (i+1) hlt
   by_cases h0:(awf 1 l (sub s ((i+1:Nat):Int) (utl [59] s (i+1):Int))).1=0
   ·rw [if_pos h0]at h4⊢
    refine plL_end s f _ _ hu2 (by omega) ?_ h4
    by_cases he:utl [59] s (i+1)=s.length
    ·exact .inl he
    ·have hst:=ayw [59] s (i+1) hlt (by omega)
     refine .inr ?_
     unfold aax
     rw [decide_eq_true (by omega),zax]
     unfold aoa at hst
     rw [zbm,List.any_nil,Bool.or_false]at hst
     have e2:=eq_of_beq hst
     rw [←e2];rfl
   ·rw [if_neg h0]at h4
    exact absurd h4 h0
  ·rw [if_neg hz]
   exact h3.resolve_right hz
theorem parse_good(s:Str)(h:(amu s).1=0):Good (amu s).2:=by
 unfold amu at h⊢
 by_cases hl:1024<s.length
 ·rw [if_pos hl]at h;exact absurd h (by decide)
 ·rw [if_neg hl]at h⊢
  by_cases hc:utl [58] s 0<s.length
  ·rw [if_pos hc]at h⊢
   generalize utl [58] s 0=c at hc h⊢
   generalize aab (s.take c)=sch at h⊢
   by_cases hsip:sch=SIP∨sch=SIPS
   ·rw [if_pos hsip]at h⊢
    by_cases h0:(plP s (c+1)).1=0
    ·rw [if_pos h0]at h⊢
     obtain⟨P,H,e,a1,a2,a3,a4,a5,a6,_⟩:=restP_ok _ _ _ _ _ _ _ h
     rw [e]
     obtain⟨g1,g2,g3,g4⟩:=plP_ok s (c+1) h0
     exact⟨.inl ⟨hsip,g1,g2,g3,g4⟩,a1,a2,a3,a4,a5,a6⟩
    ·rw [if_neg h0]at h;exact absurd h h0
   ·rw [if_neg hsip]at h⊢
    by_cases htel:sch=TEL
    ·rw [if_pos htel]at h⊢
     by_cases h0:(telP s (c+1)).1=0
     ·rw [if_pos h0]at h⊢
      have hu1:=ame [59] s (c+1)
      have hu2:=aks [59] s (c+1) hc
      have hp0:(plL [59] s (s.length+1) (utl [59] s (c+1)) []).1=0:=by
       unfold aqa at h
       by_cases hx:(plL [59] s (s.length+1) (utl [59] s (c+1)) []).1=0
       ·exact hx
       ·rw [if_neg hx]at h;exact absurd h hx
      have hend:=plL_end s (s.length+1) (utl [59] s (c+1)) [] hu2 (by omega) (by
       by_cases he:utl [59] s (c+1)=s.length
       ·exact .inl he
       ·have hst:=ayw [59] s (c+1) hc (by omega)
        refine .inr ?_
        unfold aax
        rw [decide_eq_true (by omega),zax]
        unfold aoa at hst
        rw [zbm,List.any_nil,Bool.or_false]at hst
        have e2:=eq_of_beq hst
        rw [←e2];rfl) hp0
      obtain⟨P,H,e,a1,a2,a3,a4,a5,a6,a7⟩:=restP_ok _ _ _ _ _ _ _ h
      rw [e]
      have hH:H=[]:=by
       rw [a7,hend,hdL,if_neg (Nat.lt_irrefl _)];rfl
      exact⟨.inr ⟨htel,rfl,rfl,hH,telP_ok s (c+1) h0⟩,a1,a2,a3,a4,a5,a6⟩
     ·rw [if_neg h0]at h;exact absurd h h0
    ·rw [if_neg htel]at h;exact absurd h (by decide)
  ·rw [if_neg hc]at h;exact absurd h (by decide)
theorem fields_lp(k:Int)(hk:k=1∨k=2)(l:List PP)(hl:l.length≤16)(hL:LS k l)(hb:∀p∈l,p.1.length≤4194304∧p.2.1.length≤4194304)(q:List PP):∀(p:List PP) (fk:Nat),l=p++q→q.length<fk→
  ahf FU l k fk p (p.length:Int)=some (.inl l):=by
 induction q with
 |nil=>
  intro p fk h hf
  obtain⟨fk,rfl⟩:=fkx fk
  rw [atc,akc,if_neg (by rw [h];simp),h,zan]
 |cons a q ih=>
  intro p fk h hf
  obtain⟨fk,rfl⟩:=fkx fk
  have hlen:=congrArg zaZ h
  simp only [zab,zac]at hlen hf
  have hin:(0:Int)≤(p.length:Int)∧(p.length:Int)<(l.length:Int):=by omega
  have he:el l (p.length:Int)=a:=by rw [h];simp [el]
  have ha:a∈l:=by rw [h];simp
  obtain⟨o1,o2,o3,o4,o5,o6⟩:=hL.2 a ha
  obtain⟨b1,b2⟩:=hb a ha
  have hno:(p.any fun x=>x.1==a.1)=false:=by
   rw [List.any_eq_false]
   intro x hx e
   have hd:=hL.1
   rw [h]at hd
   exact(List.pairwise_append.1 hd).2.2 x hx a (by simp) (by simpa using e)
  have hih:=ih (p++[a]) fk (by rw [h];simp) (by omega)
  rw [show((p++[a]).length:Int)=(p.length:Int)+1 by simp]at hih
  rw [atc,akc,if_pos hin.2,aaa hin,aaa hin,he,aox _ b1,zaa,o2,if_neg o1,clean_eq _ b1,zaa,o3,zap,cond_false,clean_eq _ b2,zaa,o4,zap,cond_false,holds_eq p (by omega),hno,zaa,zaa,cond_false]
  have e9:(if k=(2:Int)then(bif (!(a.2.2))then some true else(if k=(1:Int)then some (!((a.2.2)==(!decide ((a.2.1)=([]:Str)))))else some false))else(if k=(1:Int)then some (!((a.2.2)==(!decide ((a.2.1)=([]:Str)))))else some false))=some false:=by
   rcases hk with rfl|rfl
   ·rw [if_neg (by decide),if_pos rfl,o5 rfl];simp
   ·rw [if_pos rfl,o6 rfl,zap,cond_false,if_neg (by decide)]
  rw [e9,zaa,cond_false]
  simp only [pp_eta]
  rw [aaa (by simp only [zad];omega),aaa (abb _ (by omega) (by omega))]
  exact hih
theorem fields_eq(k:Int)(hk:k=1∨k=2)(l:List PP)(hl:l.length≤16)(hL:LS k l)(hb:∀p∈l,p.1.length≤4194304∧p.2.1.length≤4194304):amy FU l k=some (aps l,true):=by
 unfold amy
 have h:ahf FU l k FU [] (0:Int)=some (.inl l):=fields_lp k hk l hl hL hb l [] FU rfl (by rw [adq];omega)
 rw [if_neg (by omega),h,zaa,zaz,asorted_eq l (by omega),zaa]
def Sml(u:UU):Prop:=u.1.length≤4194304∧u.2.1.length≤4194304∧u.2.2.1.length≤4194304∧(∀p∈u.2.2.2.2.1,p.1.length≤4194304∧p.2.1.length≤4194304)∧(∀p∈u.2.2.2.2.2,p.1.length≤4194304∧p.2.1.length≤4194304)
theorem normal_eq(u:UU)(hg:Good u)(hs:Sml u):aqz FU u=some (u,0):=by
 obtain⟨sch,us,h,port,P,H⟩:=u
 obtain⟨g1,g2,g3,g4,g5,g6,g7⟩:=hg
 obtain⟨s1,s2,s3,s4,s5⟩:=hs
 simp only at g1 g2 g3 g4 g5 g6 g7 s1 s2 s3 s4 s5
 have hlow:aab sch=sch:=by
  rcases g1 with⟨h1,_⟩|⟨h1,_⟩
  ·rcases h1 with rfl|rfl<;>decide
  ·rw [h1];decide
 unfold aqz
 simp only
 rw [aox _ s1,zaa,hlow]
 have e98:(if sch=([115,105,112]:Str)then some (decide (sch=([115,105,112]:Str)))else some (decide (sch=([115,105,112,115]:Str))))=some (decide (sch=SIP∨sch=SIPS)):=by
  by_cases hA:sch=SIP
  ·rw [if_pos (show sch=([115,105,112]:Str)from hA),decide_eq_true (show sch=([115,105,112]:Str)from hA),decide_eq_true (Or.inl hA)]
  ·rw [if_neg (show¬sch=([115,105,112]:Str)from hA)]
   congr 1
   rw [decide_eq_decide]
   exact⟨Or.inr,fun h=>h.resolve_left hA⟩
 rw [e98,zaa]
 rcases g1 with⟨h1,h2,h3,h4,h5⟩|⟨h1,h2,h3,h4,h5⟩
 ·rw [decide_eq_true h1,cond_true,adHost_eq _ s3,zaa,h2,cond_true,if_pos h3,if_pos h4,clean_eq _ s2,zaa,h5,zaa]
  rw [fields_eq 1 (.inl rfl) P g4 g2 s4,zaa,fields_eq 2 (.inr rfl) H g5 g3 s5,zaa,g6,g7];rfl
 ·subst h2 h3 h4
  have hns:¬(sch=SIP∨sch=SIPS):=by rw [h1];decide
  rw [decide_eq_false hns,cond_false,if_pos (show sch=([116,101,108]:Str)from h1),if_pos rfl,if_pos rfl,if_pos (show(([]:List PP).length:Int)=0 from rfl),dialed_eq _ s2,zaa,h5,zaa]
  rw [fields_eq 1 (.inl rfl) P g4 g2 s4,zaa,fields_eq 2 (.inr rfl) [] g5 g3 s5,zaa,g6,g7];rfl
def hexU(n:Nat):UInt8:=at_ [48,49,50,51,52,53,54,55,56,57,65,66,67,68,69,70] (n:Int)
def esc1(k:Int)(c:UInt8):Str:=if inC c k=true then [c]else [37,hexU (c.toNat/16),hexU (c.toNat%16)]
def escP(k:Int)(s:Str):Str:=s.flatMap (esc1 k)
theorem shr4:∀c:UInt8,(shr8 c (4:Int)).toNat=c.toNat/16:=aaz _ (by decide+kernel)
theorem mask15:∀c:UInt8,(c&&&(15:UInt8)).toNat=c.toNat%16:=aaz _ (by decide+kernel)
theorem asj(k:Int)(s:Str):(escP k s).length≤3*s.length:=by
 unfold escP
 induction s with
 |nil=>exact zam _
 |cons c s ih=>
  rw [zaJ,zab,zac]
  have:(esc1 k c).length≤3:=by unfold esc1;split<;>simp
  omega
theorem esc_lp(s:Str)(hs:s.length≤4194304)(k:Int)(hk:k=0∨k=1∨k=2)(q:Str):∀(p:Str) (fk:Nat),s=p++q→q.length<fk→
  ahh FU s k fk (escP k p) (p.length:Int)=some (escP k s):=by
 induction q with
 |nil=>
  intro p fk h hf
  obtain⟨fk,rfl⟩:=fkx fk
  rw [atf,aki,if_neg (by rw [h];simp),h,zan]
 |cons c q ih=>
  intro p fk h hf
  obtain⟨fk,rfl⟩:=fkx fk
  have hlen:=congrArg zaZ h
  simp only [zab,zac]at hlen hf
  have hin:(0:Int)≤(p.length:Int)∧(p.length:Int)<(s.length:Int):=by omega
  have he:at_ s (p.length:Int)=c:=by rw [h];simp [at_]
  have hih:=ih (p++[c]) fk (by rw [h];simp) (by omega)
  have hel:=asj k p
  have e2:escP k (p++[c])=escP k p++esc1 k c:=by unfold escP;rw [zbp,List.flatMap_singleton]
  rw [show((p++[c]).length:Int)=(p.length:Int)+1 by simp,e2]at hih
  rw [atf,aki,if_pos hin.2,aaa hin,inClass_eq _ k hk,he,zaa]
  unfold esc1 at hih
  cases hc:inC c k with
  |true=>
   rw [hc,if_pos rfl]at hih
   rw [cond_true,aaa hin,aaa (by simp only [zad];omega),aaa (abb _ (by omega) (by omega))]
   exact hih
  |false=>
   rw [hc,if_neg (by decide)]at hih
   have hn:=zbk c
   have l16:(([48,49,50,51,52,53,54,55,56,57,65,66,67,68,69,70]:Str).length:Int)=16:=rfl
   rw [cond_false,aaa hin,shr4,mask15,l16,aaa (by omega),aaa hin,aaa (by omega),aaa (by simp only [zac,zal];omega),aaa (abb _ (by omega) (by omega))]
   exact hih
theorem escape_eq(s:Str)(hs:s.length≤4194304)(k:Int)(hk:k=0∨k=1∨k=2):acx FU s k=some (escP k s):=by
 unfold acx
 have h:ahh FU s k FU [] (0:Int)=some (escP k s):=esc_lp s hs k hk s [] FU rfl (by rw [adq];omega)
 rw [gd_mk (by omega),h,zaa]
open List renaming append_nil → zan, eq_nil_of_length_eq_zero → zao, flatMap_cons → zaJ, length → zaZ, length_append → zab, length_cons → zac, length_nil → zal, length_singleton → zad, mem_cons_of_mem → zag, mem_cons_self → zah
open Nat renaming le_refl → zam, zero_le → zak
theorem ws_eq(out s:Str)(h:out.length+s.length≤140737488355328):aac FU ((),out) s=some ((s.length:Int),(),(),out++s):=by
 unfold aac
 simp only
 rw [aaa (by omega)]
theorem wb_eq(out:Str)(c:UInt8)(h:out.length+1≤140737488355328):adh FU ((),out) c=some ((),(),out++[c]):=by
 unfold adh
 simp only
 rw [aaa (by simp only [zad];omega)]
def par1(p:PP):Str:=escP 1 p.1++(bif p.2.2 then 61::escP 1 p.2.1 else [])
def hd1T(p:PP):Str:=escP 2 p.1++61::escP 2 p.2.1
def parsT(l:List PP):Str:=l.flatMap fun p=>59::par1 p
def hds2(l:List PP):Str:=l.flatMap fun p=>38::hd1T p
def hdsT:List PP→Str
 |[]=>[]
 |p::r=>63::(hd1T p++hds2 r)
def usT(u:UU):Str:=if u.1=TEL then u.2.1 else if u.2.1=[]then []else escP 0 u.2.1++[64]
def ptT(n:Int):Str:=if n=0 then []else 58::Lib.itoa n
def prU(u:UU):Str:=u.1++(58::(usT u++(u.2.2.1++(ptT u.2.2.2.1++(parsT u.2.2.2.2.1++hdsT u.2.2.2.2.2)))))
theorem par1_len(p:PP)(h:p.1.length≤4194304∧p.2.1.length≤4194304):(par1 p).length≤25165830:=by
 have h1:=asj 1 p.1
 have h2:=asj 1 p.2.1
 unfold par1
 rw [zab]
 cases p.2.2 with
 |true=>rw [cond_true,zac];omega
 |false=>rw [cond_false,zal];omega
theorem hd1_len(p:PP)(h:p.1.length≤4194304∧p.2.1.length≤4194304):(hd1T p).length≤25165830:=by
 have h1:=asj 2 p.1
 have h2:=asj 2 p.2.1
 unfold hd1T
 rw [zab,zac];omega
theorem print_lp0(u:UU)(hb:∀p∈u.2.2.2.2.1,p.1.length≤4194304∧p.2.1.length≤4194304)(hl:u.2.2.2.2.1.length≤16)(r:List PP):∀(pre:List PP) (fk:Nat) (out:Str),u.2.2.2.2.1=pre++r→r.length<fk→out.length≤100000000+pre.length*30000000→
  aga FU (u,0) fk (pre.length:Int) () out=some ((),out++parsT r):=by
 induction r with
 |nil=>
  intro pre fk out h hf ho
  obtain⟨fk,rfl⟩:=fkx fk
  rw [zan]at h
  rw [auj,alh,if_neg (by rw [h];simp)]
  simp [parsT]
 |cons p r ih=>
  intro pre fk out h hf ho
  obtain⟨fk,rfl⟩:=fkx fk
  have hlen:=congrArg zaZ h
  simp only [zab,zac]at hlen hf
  have hin:(0:Int)≤(pre.length:Int)∧(pre.length:Int)<(u.2.2.2.2.1.length:Int):=by omega
  have he:el u.2.2.2.2.1 (pre.length:Int)=p:=by rw [h];simp [el]
  have hbp:=hb p (by rw [h];simp)
  have e1:=asj 1 p.1
  have e2:=asj 1 p.2.1
  have hok:aap ((pre.length:Int)+1):=abb _ (by omega) (by omega)
  have next:∀o:Str,o=out++(59::par1 p)→aga FU (u,0) fk ((pre.length:Int)+1) () o=some ((),out++parsT (p::r)):=by
   intro o ho'
   have hp1:=par1_len p hbp
   have hih:=ih (pre++[p]) fk o (by rw [h];simp) (by omega) (by rw [ho'];simp only [zab,zac,zal];omega)
   rw [show((pre++[p]).length:Int)=(pre.length:Int)+1 by simp]at hih
   rw [hih,ho']
   simp [parsT]
  rw [auj,alh,if_pos hin.2]
  simp only
  rw [aaa hin,aaa hin,he,escape_eq _ hbp.1 1 (.inr (.inl rfl)),zaa,aaa (by simp only [zad];omega),ws_eq _ _ (by simp only [zab,zad];omega),zaa]
  cases hh:p.2.2 with
  |true=>
   rw [cond_true,escape_eq _ hbp.2 1 (.inr (.inl rfl)),zaa,aaa (by simp only [zad];omega),ws_eq _ _ (by simp only [zab,zad];omega),zaa,aaa hok]
   refine next _ ?_
   unfold par1
   rw [hh]
   simp
  |false=>
   rw [cond_false,aaa hok]
   refine next _ ?_
   unfold par1
   rw [hh]
   simp
theorem print_lp1(u:UU)(hb:∀p∈u.2.2.2.2.2,p.1.length≤4194304∧p.2.1.length≤4194304)(hl:u.2.2.2.2.2.length≤16)(r:List PP):∀(pre:List PP) (fk:Nat) (out:Str),u.2.2.2.2.2=pre++r→r.length<fk→out.length≤1000000000+pre.length*30000000→
  aej FU (u,0) fk (pre.length:Int) () out=some ((),out++(if pre=[]then hdsT r else hds2 r)):=by
 induction r with
 |nil=>
  intro pre fk out h hf ho
  obtain⟨fk,rfl⟩:=fkx fk
  rw [zan]at h
  rw [aui,alg,if_neg (by rw [h];simp)]
  split<;>simp [hdsT,hds2]
 |cons p r ih=>
  intro pre fk out h hf ho
  obtain⟨fk,rfl⟩:=fkx fk
  have hlen:=congrArg zaZ h
  simp only [zab,zac]at hlen hf
  have hin:(0:Int)≤(pre.length:Int)∧(pre.length:Int)<(u.2.2.2.2.2.length:Int):=by omega
  have he:el u.2.2.2.2.2 (pre.length:Int)=p:=by rw [h];simp [el]
  have hbp:=hb p (by rw [h];simp)
  have e1:=asj 2 p.1
  have e2:=asj 2 p.2.1
  have hp1:=hd1_len p hbp
  have hok:aap ((pre.length:Int)+1):=abb _ (by omega) (by omega)
  have next:∀(c:UInt8) (o:Str),o=out++(c::hd1T p)→aej FU (u,0) fk ((pre.length:Int)+1) () o=some ((),out++(c::(hd1T p++hds2 r))):=by
   intro c o ho'
   have hih:=ih (pre++[p]) fk o (by rw [h];simp) (by omega) (by rw [ho'];simp only [zab,zac,zal];omega)
   rw [show((pre++[p]).length:Int)=(pre.length:Int)+1 by simp,if_neg (by simp)]at hih
   rw [hih,ho']
   simp
  have tail:∀(c:UInt8),((acx FU p.1 (2:Int)).bind fun(y972:Str)=>(gd (y972.length+([61]:Str).length≤9223372036854775807)<|((acx FU p.2.1 (2:Int)).bind fun(y978:Str)=>(gd ((y972++([61]:Str)).length+y978.length≤9223372036854775807)<|((aac FU ((),out++[c]) ((y972++([61]:Str))++y978)).bind fun(y986:(Int×Unit×(Unit×(List UInt8))))=>(gd (aap ((pre.length:Int)+(1:Int)))<|(aej FU (u,0) fk ((pre.length:Int)+(1:Int)) () y986.2.2.2)))))))=some ((),out++(c::(hd1T p++hds2 r))):=by
   intro c
   rw [escape_eq _ hbp.1 2 (.inr (.inr rfl)),zaa,aaa (by simp only [zad];omega),escape_eq _ hbp.2 2 (.inr (.inr rfl)),zaa,aaa (by simp only [zab,zad];omega),ws_eq _ _ (by simp only [zab,zad];omega),zaa,aaa hok]
   refine next c _ ?_
   unfold hd1T
   simp
  rw [aui,alg,if_pos hin.2]
  simp only
  rw [aaa hin,aaa hin,he]
  by_cases h0:pre=[]
  ·have hz:(pre.length:Int)=0:=by rw [h0];rfl
   rw [if_pos hz,if_pos h0,wb_eq _ _ (by omega),zaa,zaa]
   simp only
   rw [tail 63];rfl
  ·have hz:¬(pre.length:Int)=0:=fun e=>h0 (zao (by omega))
   rw [if_neg hz,if_neg h0,wb_eq _ _ (by omega),zaa,zaa]
   simp only
   rw [tail 38]
   unfold hds2
   rw [zaJ];rfl
theorem parsT_len:∀(l:List PP),(∀p∈l,p.1.length≤4194304∧p.2.1.length≤4194304)→(parsT l).length≤l.length*30000000
 |[],_=>zam _
 |p::l,h=>by
  have h1:=par1_len p (h p zah)
  have h2:=parsT_len l (fun q hq=>h q (zag _ hq))
  unfold parsT at h2⊢
  rw [zaJ,zab,zac,zac]
  omega
theorem hds2_len:∀(l:List PP),(∀p∈l,p.1.length≤4194304∧p.2.1.length≤4194304)→(hds2 l).length≤l.length*30000000
 |[],_=>zam _
 |p::l,h=>by
  have h1:=hd1_len p (h p zah)
  have h2:=hds2_len l (fun q hq=>h q (zag _ hq))
  unfold hds2 at h2⊢
  rw [zaJ,zab,zac,zac]
  omega
theorem hdsT_len(l:List PP)(h:∀p∈l,p.1.length≤4194304∧p.2.1.length≤4194304):(hdsT l).length≤l.length*30000000:=by
 have:=hds2_len l h
 cases l with
 |nil=>exact zak _
 |cons p l=>
  unfold hds2 at this
  rw [zaJ,zab,zac]at this
  unfold hdsT hds2
  rw [zac,zab];omega
theorem print_eq(u:UU)(hg:Good u)(hs:Sml u):aot FU u=some (prU u,0):=by
 have hpo:0≤u.2.2.2.1∧u.2.2.2.1≤65535:=by
  rcases hg.sch with⟨_,_,h1,h2,_⟩|⟨_,_,h,_⟩
  ·exact⟨h1,h2⟩
  ·omega
 have hit:=itoa_port u.2.2.2.1 hpo.1 hpo.2
 have hpl:=hg.pl
 have hhl:=hg.hl
 have hus:=asj 0 u.2.1
 obtain⟨s1,s2,s3,s4,s5⟩:=hs
 have l1:=parsT_len _ s4
 have l2:=hdsT_len _ s5
 unfold aot
 rw [normal_eq u hg ⟨s1,s2,s3,s4,s5⟩,zaa,if_pos rfl]
 simp only
 rw [aaa (by simp only [zad];omega),ws_eq _ _ (by simp only [zab,zad,zal];omega),zaa]
 simp only
 have eus:(if u.1=([116,101,108]:Str)then((aac FU ((),([]:Str)++(u.1++([58]:Str))) u.2.1).bind fun(y74:(Int×Unit×(Unit×(List UInt8))))=>some ((),y74.2.2.2))else(if u.2.1=([]:Str)then some ((),([]:Str)++(u.1++([58]:Str)))else((acx FU u.2.1 (0:Int)).bind fun(y85:Str)=>(gd (y85.length+([64]:Str).length≤9223372036854775807)<|((aac FU ((),([]:Str)++(u.1++([58]:Str))) (y85++([64]:Str))).bind fun(y91:(Int×Unit×(Unit×(List UInt8))))=>some ((),y91.2.2.2))))))=some ((),u.1++([58]:Str)++usT u):=by
  unfold usT
  by_cases ht:u.1=TEL
  ·rw [if_pos (show u.1=([116,101,108]:Str)from ht),if_pos ht,ws_eq _ _ (by simp only [zab,zad,zal];omega),zaa];simp
  ·rw [if_neg (show¬u.1=([116,101,108]:Str)from ht),if_neg ht]
   by_cases hn:u.2.1=[]
   ·rw [if_pos hn,if_pos hn];simp
   ·rw [if_neg hn,if_neg hn,escape_eq _ s2 0 (.inl rfl),zaa,aaa (by simp only [zad];omega),ws_eq _ _ (by simp only [zab,zad,zal];omega),zaa];simp
 rw [eus,zaa]
 have hul:(usT u).length≤12582913:=by
  unfold usT
  split
  ·omega
  ·split
   ·exact zak _
   ·rw [zab,zad];omega
 simp only
 rw [ws_eq _ _ (by simp only [zab,zad];omega),zaa]
 simp only
 have ept:∀o:Str,o.length≤50000000→(if u.2.2.2.1=(0:Int)then some ((),o)else(gd (aap u.2.2.2.1)<|(gd (([58]:Str).length+(Lib.itoa u.2.2.2.1).length≤9223372036854775807)<|((aac FU ((),o) (([58]:Str)++(Lib.itoa u.2.2.2.1))).bind fun(y144:(Int×Unit×(Unit×(List UInt8))))=>some ((),y144.2.2.2)))))=some ((),o++ptT u.2.2.2.1):=by
  intro o ho
  unfold ptT
  by_cases h0:u.2.2.2.1=0
  ·rw [if_pos h0,if_pos h0,zan]
  ·rw [if_neg h0,if_neg h0,aaa (abb _ (by omega) (by omega)),aaa (by simp only [zad];omega),ws_eq _ _ (by simp only [zab,zad];omega),zaa];simp
 rw [ept _ (by simp only [zab,zad];omega),zaa]
 have hptl:(ptT u.2.2.2.1).length≤6:=by
  unfold ptT
  split
  ·exact zak _
  ·rw [zac];omega
 simp only
 have h0:aga FU (u,0) FU (0:Int) () _=_:=print_lp0 u s4 hpl u.2.2.2.2.1 [] FU (u.1++([58]:Str)++usT u++u.2.2.1++ptT u.2.2.2.1) rfl (by rw [adq];omega) (by simp only [zab,zad,zal];omega)
 rw [h0,zaa]
 simp only
 have h1:aej FU (u,0) FU (0:Int) () _=_:=print_lp1 u s5 hhl u.2.2.2.2.2 [] FU (u.1++([58]:Str)++usT u++u.2.2.1++ptT u.2.2.2.1++parsT u.2.2.2.2.1) rfl (by rw [adq];omega) (by simp only [zab,zad,zal];omega)
 rw [h1,zaa,if_pos rfl]
 simp only
 rw [aaa (by simp only [zab,zad];omega)]
 unfold prU
 simp
open Bool renaming and_eq_true → zas
open List renaming all_cons → zaT, any_cons → zbm, length_append → zab, length_cons → zac, mem_cons_self → zah
open Nat renaming add_zero → zaK
theorem utlA(st s A X Y:Str)(h:s=A++(X++Y))(hX:∀c∈X,aoa st c=false)(hY:∀c,Y.head? =some c→aoa st c=true):utl st s A.length=A.length+X.length:=by
 subst h
 unfold utl
 rw [List.drop_left,span_app _ _ _ (by rw [List.all_eq_true];intro c hc;rw [hX c hc];rfl),span_stop _ _ (fun c hc=>by rw [hY c hc];rfl),zaK]
theorem snoc1(A:Str)(c:UInt8):A.length+1=(A++[c]).length:=by rw [zab];rfl
theorem room_dst(pre r:List PP)(p:PP)(hd:dstN (pre++p::r))(hl:pre.length+(r.length+1)≤16):arc pre p.1=0:=by
 unfold arc
 unfold dstN at hd
 rw [List.pairwise_append]at hd
 rw [if_neg,if_neg (by omega)]
 intro h
 rw [List.any_eq_true]at h
 obtain⟨q,hq,he⟩:=h
 exact hd.2.2 q hq p zah (eq_of_beq he)
theorem keepN_id(sg:Bool):∀d:Str,d.all (dialB sg)=true→arj sg d=some d
 |[],_=>rfl
 |c::d,h=>by
  rw [zaT,zas]at h
  rw [arj,if_pos h.1,keepN_id sg d h.2];rfl
theorem dial_mem(u:Str)(h:dialL u=true):∀c∈u,(!(c==59))=true∧(!(c==62))=true:=by
 unfold dialL at h
 simp only [zas]at h
 have ha:=h.2
 intro c hc
 have hd:∀sg c,dialB sg c=true→(!(c==59))=true∧(!(c==62))=true:=by intro sg;cases sg<;>exact aaz _ (by decide+kernel)
 cases u with
 |nil=>cases hc
 |cons a u=>
  by_cases h43:a=43
  ·subst h43
   have e1:zaq (43::u) [43]=u:=by unfold zaq zaO;simp
   rw [e1]at ha
   rcases List.mem_cons.1 hc with h|h
   ·rw [h];decide
   ·exact hd _ c (List.all_eq_true.1 ha c h)
  ·have h2:¬(43:UInt8)=a:=fun e=>h43 e.symm
   have e1:zaq (a::u) [43]=a::u:=by unfold zaq zaO;simp [h2]
   rw [e1]at ha
   exact hd _ c (List.all_eq_true.1 ha c hc)
theorem dial_ne(u:Str)(h:dialL u=true):u≠[]:=fun e=>by rw [e]at h;exact absurd h (by decide)
theorem telA(s A us Z:Str)(h:s=A++(us++Z))(hZ:∀c,Z.head? =some c→c=59)(hd:dialL us=true):telP s A.length=(0,us)∧utl [59] s A.length=A.length+us.length:=by
 have hne:=dial_ne us hd
 have hut:utl [59] s A.length=A.length+us.length:=by
  refine utlA [59] s A us Z h (fun c hc=> ?_) (fun c hc=>by rw [hZ c hc];decide)
  have h2:¬c=59:=by simpa using (dial_mem us hd c hc).1
  unfold aoa
  simp only [zbm,List.any_nil,Bool.or_false]
  exact beq_eq_false_iff_ne.2 (fun e=>h2 e.symm)
 refine⟨?_,hut⟩
 unfold telP
 rw [hut]
 have hsees:=seesA s A (us++Z) 43 h
 rw [head_app _ _ hne]at hsees
 unfold dialL at hd
 simp only [zas,Bool.not_eq_true',decide_eq_false_iff_not,decide_eq_true_eq]at hd
 obtain⟨⟨d1,d2⟩,d3⟩:=hd
 cases us with
 |nil=>exact absurd rfl hne
 |cons a u=>
  by_cases h43:a=43
  ·subst h43
   have e1:zaq (43::u) [43]=u:=by unfold zaq zaO;simp
   have e2:zaO (43::u) [43]=true:=by unfold zaO;simp
   rw [e1]at d1 d2 d3
   rw [e2]at d3
   have h3:s=(A++[43])++(u++Z):=by rw [h];simp
   have hsub:sub s ((A.length+1:Nat):Int) ((A.length+(43::u).length:Nat):Int)=u:=by
    have:=subA s (A++[43]) u Z h3
    rw [←snoc1,show A.length+1+u.length=A.length+(43::u).length by rw [zac];omega]at this
    exact this
   rw [hsees,List.head?_cons,decide_eq_true rfl,if_pos rfl,hsub,keepN_id true u d3]
   dsimp only
   rw [if_neg d1,if_neg (by omega),if_pos rfl]
  ·have h2:¬(43:UInt8)=a:=fun e=>h43 e.symm
   have e1:zaq (a::u) [43]=a::u:=by unfold zaq zaO;simp [h2]
   have e2:zaO (a::u) [43]=false:=by
    show((43:UInt8)==a&&([]:Str).isPrefixOf u)=false
    rw [beq_eq_false_iff_ne.2 h2];rfl
   rw [e1]at d1 d2 d3
   rw [e2]at d3
   have hsub:sub s (A.length:Int) ((A.length+(a::u).length:Nat):Int)=a::u:=subA s A (a::u) Z h
   rw [hsees,List.head?_cons,decide_eq_false (fun e=>h43 (Option.some.inj e)),if_neg (by decide),hsub,keepN_id false _ d3]
   dsimp only
   rw [if_neg d1,if_neg (by omega),if_neg (by decide)]
open Go.Lib renaming cut → zbe, join → zar
open List renaming length_append → zab, length_cons → zac, length_nil → zal, length_singleton → zad
theorem grps_len2(s:Str):(asy s).1.length≤250:=by
 unfold asy
 by_cases h39:39<s.length
 ·rw [if_pos h39];simp
 ·rw [if_neg h39]
  have hb:∀x:Str,x.length≤39→(zar (afq x).1 [58]).length≤40*5:=fun x hx=>by
   have h1:=aym x
   have h2:=asf [58] 4 (afq x).1 h1.2
   simp only [zad]at h2
   omega
  split
  ·have:=hb s (by omega);simp only;omega
  ·split
   ·simp
   ·rename_i hn
    simp only [Bool.or_eq_true,Bool.not_eq_true',decide_eq_true_eq,not_or]at hn
    have lA:=asf [58] 4 (afz (zbe s [58,58]).1).1 (gdG_len (grpL0_gd _))
    have lB:=asf [58] 4 (afz (zbe s [58,58]).2.1).1 (gdG_len (grpL0_gd _))
    simp only [zad,zab,zac,zal]at lA lB⊢
    omega
theorem host_len2(s:Str):(akx s).1.length≤s.length+252:=by
 have:=grps_len2 (sub s 1 ((s.length:Int)-1))
 unfold akx
 split
 ·split
  ·simp only [zab,zad];omega
  ·simp
 ·split
  ·simp
  ·split
   ·unfold aab;simp
   ·simp
open Go.Lib renaming join → zar
open List renaming length_drop → zaj
open Nat renaming le_trans → zaM, zero_le → zak
abbrev AA:=Str×UU×List PP
def nilA:AA:=([],nilU,[])
def aja(s:Str):Nat→Nat→List Str→UInt8×Nat×List Str
 |0,_,_=>(5,0,[])
 |f+1,i,ws=>if aax s i 60=true then(0,i,ws)else if aai aaq s (i:Int)=i then(5,0,[])else aja s f (aai aae s ((aai aaq s (i:Int):Nat):Int)) (ws++[sub s (i:Int) ((aai aaq s (i:Int):Nat):Int)])
def aok(s:Str)(i:Nat):UInt8×Str×Nat:=
 if aax s i 34=true then
  (if(ara s (i:Int)).2.2=0 then(if aax s (aai aae s (ara s (i:Int)).2.1) 60=true then(0,(ara s (i:Int)).1,aai aae s (ara s (i:Int)).2.1)else(5,[],0))else((ara s (i:Int)).2.2,[],0))
 else if aoa s 60=true then((aja s (s.length+1) i []).1,zar (aja s (s.length+1) i []).2.2 [32],(aja s (s.length+1) i []).2.1)
 else(0,[],i)
def tgtP(s:Str)(i:Nat):UInt8×UU×Nat:=
 if aax s i 60=true then(if utl [62] s (i+1)=s.length then(5,nilU,0)else((amu (sub s ((i+1:Nat):Int) (utl [62] s (i+1):Int))).1,(amu (sub s ((i+1:Nat):Int) (utl [62] s (i+1):Int))).2,utl [62] s (i+1)+1))
 else if utl [63,44] s i<utl [59,32,9] s i then(5,nilU,0)else((amu (sub s (i:Int) (utl [59,32,9] s i:Int))).1,(amu (sub s (i:Int) (utl [59,32,9] s i:Int))).2,utl [59,32,9] s i)
def avp (s : Str) : UInt8 × AA :=
  if 1024 < s.length then (4, nilA) else
  if (aok s (aai aae s 0)).1 = 0 then
    (if (tgtP s (aok s (aai aae s 0)).2.2).1 = 0 then
      (if (parP (s.drop (tgtP s (aok s (aai aae s 0)).2.2).2.2)).2.2 = 0 then (0, ((aok s (aai aae s 0)).2.1, (tgtP s (aok s (aai aae s 0)).2.2).2.1, (parP (s.drop (tgtP s (aok s (aai aae s 0)).2.2).2.2)).1))
       else ((parP (s.drop (tgtP s (aok s (aai aae s 0)).2.2).2.2)).2.2, nilA))
     else ((tgtP s (aok s (aai aae s 0)).2.2).1, nilA))
  else ((aok s (aai aae s 0)).1, nilA)
theorem nameL_le(s:Str):∀(f i:Nat) (ws:List Str),i≤s.length→(aja s f i ws).2.1≤s.length
 |0,_,_,_=>zak _
 |f+1,i,ws,h=>by
  rw [aja]
  split
  ·exact h
  ·split
   ·exact zak _
   ·exact nameL_le s f _ _ (abg _ _ _)
theorem dispP_le(s:Str)(i:Nat)(hi:i≤s.length):(aok s i).2.2≤s.length:=by
 unfold aok
 split
 ·split
  ·split
   ·exact abg _ _ _
   ·exact zak _
  ·exact zak _
 ·split
  ·exact nameL_le s _ i [] hi
  ·exact hi
theorem tgtP_good(s:Str)(i:Nat)(h:(tgtP s i).1=0):Good (tgtP s i).2.1:=by
 unfold tgtP at h⊢
 split
 ·rename_i h1
  rw [if_pos h1]at h
  split
  ·rename_i h2
   rw [if_pos h2]at h
   exact absurd h (by decide)
  ·rename_i h2
   rw [if_neg h2]at h
   exact parse_good _ h
 ·rename_i h1
  rw [if_neg h1]at h
  split
  ·rename_i h2
   rw [if_pos h2]at h
   exact absurd h (by decide)
  ·rename_i h2
   rw [if_neg h2]at h
   exact parse_good _ h
theorem adr_good(s:Str)(h:(avp s).1=0):Good (avp s).2.2.1∧(avp s).2.2.2.length≤16∧∀p∈(avp s).2.2.2,aab p.1=p.1∧p.1.length≤4194304:=by
 unfold avp at h⊢
 split
 ·rename_i h1
  rw [if_pos h1]at h
  exact absurd h (by decide)
 ·rename_i h1
  rw [if_neg h1]at h
  split
  ·rename_i h2
   rw [if_pos h2]at h
   split
   ·rename_i h3
    rw [if_pos h3]at h
    split
    ·have hl:∀k,(s.drop k).length≤4194304:=fun k=>by rw [zaj];omega
     refine⟨tgtP_good s _ h3,parP_len _,fun p hp=> ?_⟩
     have:=parP_names _ (hl _) p hp
     exact⟨this.1,zaM this.2.1 (hl _)⟩
    ·rename_i h4
     rw [if_neg h4]at h
     exact absurd h h4
   ·rename_i h3
    rw [if_neg h3]at h
    exact absurd h h3
  ·rename_i h2
   rw [if_neg h2]at h
   exact absurd h h2
def setP:List PP→Str→Str→List PP
 |[],nm,v=>[(nm,v,true)]
 |p::l,nm,v=>if aab p.1=nm then(p.1,v,true)::l else p::setP l nm v
end Go.Wk
