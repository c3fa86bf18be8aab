/-
  The law RoutingBacks holds (part 4 of 8).
-/
import Derived.Test.YtcejgbgpflkedaaGreatDoorBk3
set_option linter.unusedVariables false
set_option linter.unusedSimpArgs false
set_option maxRecDepth 100000
namespace Go.Wk
open Go.Px
open Bool renaming not_true -> zav
open Go.Lib renaming join -> zax, trimLeftS -> zaY
open List renaming all_cons -> zbk, append_nil -> zaG, drop_length -> zbf, eq_nil_of_length_eq_zero -> zaH, length -> zaT, length_append -> zae, length_cons -> zac, length_drop -> zao, length_map -> zaA, length_nil -> zas, length_singleton -> zag, map_append -> zbe, map_cons -> zaC, nil_append -> zaO, take_of_length_le -> zaQ
open Nat renaming le_refl -> zah, le_trans -> zaF
open Option renaming bind_some -> zaa
open Sum renaming elim_inl -> zau
theorem all_gen{β:Type}(p:UInt8->Bool)(s:Str)(r:β)(F:Nat->Int->Option (Unit⊕β))
  (h0:∀fk,F (fk+1) (s.length:Int)=some (.inl ()))
  (h1:∀fk (k:Nat),k<s.length->p (at_ s k)=false->F (fk+1) (k:Int)=some (.inr r))
  (h2:∀fk (k:Nat),k<s.length->p (at_ s k)=true->F (fk+1) (k:Int)=F fk ((k:Int)+1)) (n:Nat):
  ∀(k fk:Nat),k+n=s.length->n<fk->F fk (k:Int)=some (if(s.drop k).all p=true then .inl ()else .inr r):=by
 induction n with
 |zero=>
  intro k fk hk hf;obtain⟨fk,rfl⟩:=fkx fk;obtain rfl:k=s.length:=by omega
  rw [h0,zbf];rfl
 |succ n ih=>
  intro k fk hk hf;obtain⟨fk,rfl⟩:=fkx fk;rw [aok s k omg,zbk];cases h:p (at_ s k)
  ·rw [h1 fk k omg h];rfl
  ·rw [h2 fk k omg h,afw,ih (k+1) fk omg omg];simp
theorem all_gen0{β:Type}(p:UInt8->Bool)(s:Str)(hs:s.length<=4194304)(r:β)(F:Nat->Int->Option (Unit⊕β))
  (h0:∀fk,F (fk+1) (s.length:Int)=some (.inl ()))
  (h1:∀fk (k:Nat),k<s.length->p (at_ s k)=false->F (fk+1) (k:Int)=some (.inr r))
  (h2:∀fk (k:Nat),k<s.length->p (at_ s k)=true->F (fk+1) (k:Int)=F fk ((k:Int)+1)):F FU 0=some (if s.all p=true then .inl ()else .inr r):=by
 have:=all_gen p s r F h0 h1 h2 s.length 0 FU omg (by rw [afu];omega)
 rw [List.drop_zero]at this;exact this
theorem adLower_lp(s:Str)(hs:s.length<=4194304)(l:Str):∀(p:Str) (fk:Nat),p.length+l.length=s.length->l.length<fk->
  aic FU s fk (p++l) (p.length:Int)=some (p++l.map ace):=by
 induction l with
 |nil=>
  intro p fk hk hf;obtain⟨fk,rfl⟩:=fkx fk;simp only [zas]at hk;rw [anb,agw,if_neg omg];rfl
 |cons c l ih0=>
  intro p fk hk hf;obtain⟨fk,rfl⟩:=fkx fk;simp only [zac]at hk hf;have hb:=mid_lt p c l;have ih:=ih0 (p++[ace c]) fk (by rw [zae,zag];omega) omg;have ok:acd ((p.length:Int)+1):=ado _ omg omg;rw [anb,agw,if_pos omg];simp only [aac hb,ata,aac ok,set_mid];by_cases h1:65<=c
  ·by_cases h2:c<=90
   ·simp only [if_pos h1,decide_eq_true h2,zaa,cond_true,lowerB_up c h1 h2];rw [agz p (ace c),ih];simp
   ·simp only [if_pos h1,decide_eq_false h2,zaa,cond_false];rw [ara c (fun h=>h2 h.2)]at ih;rw [agz p c,show p++c::l=(p++[c])++l by simp,ih];simp [ara c (fun h=>h2 h.2)]
  ·simp only [if_neg h1,zaa,cond_false];rw [ara c (fun h=>h1 h.1)]at ih;rw [agz p c,show p++c::l=(p++[c])++l by simp,ih];simp [ara c (fun h=>h1 h.1)]
theorem atu(s:Str)(hs:s.length<=4194304):aeq FU s=some (aap s):=by
 unfold aeq
 have:=adLower_lp s hs s [] FU (by simp) (by rw [afu];omega)
 simp only [zaO,zas,Int.natCast_zero,Int.cast_ofNat_Int]at this;rw [this];rfl
theorem ad_letter(c:UInt8):ama FU c=some (letterB c):=by revert c;exact acq _ (by decide+kernel)
theorem ad_digit(c:UInt8):aer FU c=some (aci c):=by revert c;exact acq _ (by decide+kernel)
theorem rf_letter(c:UInt8):aoe FU c=some (letterB c):=by revert c;exact acq _ (by decide+kernel)
theorem rf_digit(c:UInt8):ahb FU c=some (aci c):=by revert c;exact acq _ (by decide+kernel)
theorem ad_hex':∀c:UInt8,(ajd FU c).map (·.2)=some (hexB c):=acq _ (by decide+kernel)
theorem ad_hex(c:UInt8):∃v,ajd FU c=some (v,hexB c):=by
 obtain⟨⟨v,b⟩,h1,h2⟩:=Option.map_eq_some_iff.1 (ad_hex' c);exact⟨v,by rw [h1,<-h2]⟩
theorem rf_hex':∀c:UInt8,(asi FU c).map (fun n=>decide (n<0))=some (!hexB c):=acq _ (by decide+kernel)
theorem rf_hex(c:UInt8):∃n,asi FU c=some n/\decide (n<0)= !hexB c:=by
 obtain⟨n,h1,h2⟩:=Option.map_eq_some_iff.1 (rf_hex' c);exact⟨n,h1,h2⟩
def psp(y:Str)(l:List Str):List Str:=match l with|x::r=>(y++x)::r|[]=>[y]
theorem psp_nil(l:List Str)(h:l≠[]):psp [] l=l:=by cases l with|nil=>exact absurd rfl h|cons _ _=>rfl
theorem aui(c:UInt8)(l:Str):spl c (c::l)=[]::spl c l:=by rw [spl,if_pos rfl]
theorem auh(c b:UInt8)(l:Str)(h:b≠c):spl c (b::l)=psp [b] (spl c l):=by
 rw [spl,if_neg h];cases spl c l<;>rfl
theorem psp_psp(y z:Str)(l:List Str)(h:l≠[]):psp y (psp z l)=psp (y++z) l:=by
 cases l with|nil=>exact absurd rfl h|cons _ _=>simp [psp]
theorem spl_lens(c:UInt8):∀s:Str,((spl c s).map zaT).sum+(spl c s).length=s.length+1
 |[]=>rfl
 |b::l=>by
  have ih:=spl_lens c l;by_cases h:b=c
  ·subst h;rw [aui];simp only [zaC,List.sum_cons,zas,zac];omega
  ·rw [auh c b l h];cases hx:spl c l with
   |nil=>exact absurd hx (spl_ne c l)
   |cons x r=>
    rw [hx]at ih;simp only [psp,zaC,List.sum_cons,zac,zae,zas]at ih⊢;omega
theorem sub_snoc(s:Str)(f k:Nat)(hf:f<=k)(h:k<s.length):sub s (f:Int) ((k+1:Nat):Int)=sub s (f:Int) (k:Int)++[at_ s (k:Int)]:=by
 unfold sub;have e1:((k+1:Nat):Int).toNat-((f:Nat):Int).toNat=(k-f)+1:=by omega
 have e2:((k:Nat):Int).toNat-((f:Nat):Int).toNat=k-f:=by omega
 have e3:((f:Nat):Int).toNat=f:=by omega
 rw [e1,e2,e3,take_snoc _ (k-f) (by rw [zao];omega)];congr 2
 simp only [at_,List.getD_eq_getElem?_getD,List.getElem?_drop];congr 2
 omega
theorem atn(s:Str)(k:Nat):sub s (k:Int) (k:Int)=[]:=by unfold sub;simp
theorem pieces_lp(s:Str)(c:UInt8)(hs:s.length<=4194304)(n:Nat):∀(k f fk:Nat) (out:List Str),k+n=s.length->n<fk->f<=k->out.length<=k->
  ∃out' f':_,agb FU s c fk out (f:Int) (k:Int)=some (out',((f':Nat):Int))/\f'<=s.length/\out'.length<=s.length/\out'++[s.drop f']=out++psp (sub s (f:Int) (k:Int)) (spl c (s.drop k)):=by
 induction n with
 |zero=>
  intro k f fk out hk hn hf ho;obtain⟨fk,rfl⟩:=fkx fk;obtain rfl:k=s.length:=by omega
  refine⟨out,f,by rw [anu,ahu,if_neg omg],by omega,by omega, ?_⟩
  rw [zbf];simp only [spl,psp,zaG];congr 2
  unfold sub;rw [zaQ (by rw [zao];omega)];simp
 |succ n ih=>
  intro k f fk out hk hn hf ho;obtain⟨fk,rfl⟩:=fkx fk;have hlt:k<s.length:=by omega
  rw [anu,ahu,if_pos omg,gok,aok s k hlt];by_cases hc:at_ s (k:Int)=c
  ·rw [if_pos hc,aac omg,aac (by simp only [zag];omega),gok,gok,afw];obtain⟨o',f',h1,h2,h3,h4⟩:=ih (k+1) (k+1) fk (out++[sub s (f:Int) (k:Int)]) omg omg omg (by simp only [zae,zag];omega);refine⟨o',f',h1,h2,h3, ?_⟩
   rw [h4,hc,aui,atn,psp_nil _ (spl_ne c _)];simp [psp]
  ·rw [if_neg hc,gok,afw];obtain⟨o',f',h1,h2,h3,h4⟩:=ih (k+1) f fk out omg omg omg omg;refine⟨o',f',h1,h2,h3, ?_⟩
   rw [h4,auh c _ _ hc,psp_psp _ _ _ (spl_ne c _),sub_snoc s f k hf hlt]
theorem pieces_eq(s:Str)(c:UInt8)(hs:s.length<=4194304):ame FU s c=some (spl c s):=by
 obtain⟨o',f',h1,h2,h3,h4⟩:=pieces_lp s c hs s.length 0 0 FU [] omg (by rw [afu];omega) omg (by simp);unfold ame;have h1':agb FU s c FU [] (0:Int) (0:Int)=some (o',((f':Nat):Int)):=h1;rw [h1',zaa,aac (by simp only;omega),aac (by simp only [zag];omega)];have e:((f':Nat):Int).toNat=f':=by omega
 simp only [e];rw [h4,List.drop_zero,zaO];have e2:sub s ((0:Nat):Int) ((0:Nat):Int)=[]:=atn s 0;rw [e2,psp_nil _ (spl_ne c s)]
def stripZ:Str->Str
 |[]=>[]
 |[c]=>[c]
 |c::d::l=>if c=48 then stripZ (d::l)else c::d::l
theorem low48:∀c:UInt8,(ace c==48)=(c==48):=acq _ (by decide+kernel)
theorem trim48(c:UInt8)(l:Str):zaY (aap (c::l)) [48]=if c=48 then zaY (aap l) [48]else aap (c::l):=by
 unfold zaY aap;rw [zaC,List.dropWhile_cons];have h:([48]:Str).contains (ace c)=(c==48):=by rw [<-low48 c];simp [List.contains_cons];rfl
 rw [h];by_cases hc:c=48
 ·rw [if_pos hc,if_pos (by simpa using hc)]
 ·rw [if_neg hc,if_neg (by simpa using hc)]
theorem strip_grpN:∀g:Str,g≠[]->aap (stripZ g)=grpN g
 |[],h=>absurd rfl h
 |[c],_=>by
  have e:grpN [c]=if zaY (aap [c]) [48]=[]then [48]else zaY (aap [c]) [48]:=rfl
  rw [e,trim48];by_cases hc:c=48
  ·subst hc;rfl
  ·rw [if_neg hc,if_neg (by simp [aap])];rfl
 |c::d::l,_=>by
  have ih:=strip_grpN (d::l) (by simp);have e:grpN (c::d::l)=if zaY (aap (c::d::l)) [48]=[]then [48]else zaY (aap (c::d::l)) [48]:=rfl
  rw [e,trim48,stripZ];by_cases hc:c=48
  ·simp only [if_pos hc];rw [ih];rfl
  ·simp only [if_neg hc];rw [if_neg (by simp [aap])]
theorem group_lp1(n:Nat):∀(g:Str) (fk:Nat),g.length<=n->n<fk->akh FU fk g=some (stripZ g):=by
 induction n with
 |zero=>
  intro g fk hg hf;obtain⟨fk,rfl⟩:=fkx fk;obtain rfl:g=[]:=zaH omg;rw [aop,ait,if_neg (by simp)];rfl
 |succ n ih=>
  intro g fk hg hf;obtain⟨fk,rfl⟩:=fkx fk;rw [aop,ait]
  match g,hg with
  |[],_=>rw [if_neg (by simp)];rfl
  |[c],_=>rw [if_neg (by simp)];rfl
  |c::d::l,hg=>
   have hl:(1:Int)<((c::d::l).length:Int):=by simp only [zac];omega
   rw [if_pos hl,aac omg,zaa,stripZ];have ha:at_ (c::d::l) (0:Int)=c:=rfl;rw [ha];by_cases hc:c=48
   ·rw [decide_eq_true hc,cond_true,aac omg,if_pos hc];exact ih (d::l) fk (by simp only [zac]at hg⊢;omega) omg
   ·rw [decide_eq_false hc,cond_false,if_neg hc]
theorem strip_len:∀g:Str,(stripZ g).length<=g.length
 |[]=>zah _
 |[c]=>zah _
 |c::d::l=>by
  rw [stripZ];split
  ·have:=strip_len (d::l);simp only [zac]at this⊢;omega
  ·exact zah _
theorem group_eq(g:Str)(hg:g.length<=4194304):apw FU g=some (if aqk g then(grpN g,true)else([],false)):=by
 unfold apw;by_cases h1:(g.length:Int)<1
 ·rw [if_pos h1,grpOk_no1 g (.inl h1)];rfl
 ·rw [if_neg h1,zaa];by_cases h2:4<(g.length:Int)
  ·rw [decide_eq_true h2,grpOk_no1 g (.inr h2)];rfl
  ·rw [decide_eq_false h2,cond_false];have hlp:=all_gen0 hexB g hg (([]:Str),false) (aki FU g)
    (fun fk=>by rw [ali,agd,if_neg omg])
    (fun fk k hk h=>by
     obtain⟨n,h3,h4⟩:=rf_hex (at_ g k);rw [h]at h4;rw [ali,agd,if_pos omg,gok,h3,zaa,if_pos (of_decide_eq_true h4)])
    (fun fk k hk h=>by
     obtain⟨n,h3,h4⟩:=rf_hex (at_ g k);rw [h]at h4;rw [ali,agd,if_pos omg,gok,h3,zaa,if_neg (of_decide_eq_false h4),gok])
   rw [hlp,zaa];cases hx:g.all hexB with
   |false=>rw [grpOk_no2 g hx];rfl
   |true=>
    rw [grpOk_yes g h1 h2 hx,if_pos rfl,zau,group_lp1 g.length g FU (zah _) (by rw [afu];omega),zaa,
     amv _ (by have:=strip_len g;omega),strip_grpN g (by intro e;subst e;simp at h1)]
    rfl
theorem join_snoc(p:List Str)(x:Str):zax (p++[x]) [58]=(if p=[]then []else zax p [58]++[58])++x:=by
 induction p with
 |nil=>simp [zax,List.intercalate]
 |cons a p ih=>
  rw [if_neg (by simp)];cases p with
  |nil=>simp [zax,List.intercalate,List.intersperse]
  |cons b p=>
   have e:∀(u:Str) (v:Str) (l:List Str),zax (u::v::l) [58]=u++(58::zax (v::l) [58]):=fun u v l=>by
    simp [zax,List.intercalate,List.intersperse]
   rw [List.cons_append,List.cons_append,e,<-List.cons_append,ih,if_neg (by simp),e];simp
theorem groups_lp(X:List Str)(hX:X.length<=4194305)(hx:∀x∈X,x.length<=4194304)(q:List Str):∀(p:List Str) (fk:Nat),X=p++q->q.length<fk->p.all aqk=true->
  agc FU X fk (zax (p.map grpN) [58]) (p.length:Int)=some (if X.all aqk=true then .inl (zax (X.map grpN) [58])else .inr ([],0,false)):=by
 induction q with
 |nil=>
  intro p fk h hf hp;obtain⟨fk,rfl⟩:=fkx fk;rw [zaG]at h;subst h;rw [anw,ahw,if_neg omg,if_pos hp]
 |cons a q ih=>
  intro p fk h hf hp;obtain⟨fk,rfl⟩:=fkx fk;have hl:=congrArg zaT h;simp only [zae,zac]at hl hf;have hb:(0:Int)<=(p.length:Int)/\(p.length:Int)<(X.length:Int):=by omega
  have he:el X (p.length:Int)=a:=by rw [h];simp [el]
  have ha:a.length<=4194304:=hx a (by rw [h];simp);rw [anw,ahw,if_pos hb.2,aac hb,aac hb,he,group_eq a ha,zaa];cases hg:aqk a with
  |false=>
   have:X.all aqk=false:=by rw [h,List.all_append,zbk,hg];simp
   rw [this];rfl
  |true=>
   have hn:=grpN_len a hg;have hj:=join_len [58] 4 (p.map grpN) (fun x hx'=>by
    obtain⟨y,hy,rfl⟩:=List.mem_map.1 hx';exact grpN_len y (List.all_eq_true.1 hp y hy))
   simp only [zaA,zag]at hj
   have:=ih (p++[a]) fk (by rw [h];simp) omg (by rw [List.all_append,hp];simpa using hg)
   rw [zbe,List.map_singleton,join_snoc]at this;rw [show((p++[a]).length:Int)=(p.length:Int)+1 by simp]at this;simp only [if_true,zav,cond_false];cases p with
   |nil=>
    simp only [List.map_nil,zas,if_true,zaO]at this⊢;rw [if_neg (by simp),zaa,aac (by simp only [zax];simp;omega),gok];exact this
   |cons b p=>
    rw [if_neg (by simp)]at this;simp only [zac]at hj hl hb;rw [if_pos (by simp only [zac];omega),aac (by simp only [zag];omega),zaa,aac (by simp only [zae,zag];omega),aac (ado _ omg (by simp only [zac];omega))];exact this
theorem rfGroups_eq(s:Str)(hs:s.length<=4194304):ajj FU s=some (zax (aju s).1 [58],((aju s).1.length:Int),(aju s).2):=by
 unfold ajj;by_cases h:s=[]
 ·rw [if_pos h,grpL0_nil s h];rfl
 ·have hb:=aug 58 s
  have:=groups_lp (spl 58 s) omg (fun x hx=>zaF (hb.2 x hx) hs) (spl 58 s) [] FU (by simp) (by rw [afu];omega) rfl
  have this':agc FU (spl 58 s) FU [] (0:Int)=_:=this;rw [if_neg h,atq s h,pieces_eq s 58 hs,zaa,this',zaa];cases ha:(spl 58 s).all aqk with
  |false=>rw [grpList_no s ha];rfl
  |true=>rw [grpList_yes s ha,if_pos rfl,zau,zaA]
open Bool renaming false_and -> zbn, false_or -> zbu, not_false -> zaK, not_true -> zav, true_and -> zaz
open Go.Lib renaming cut -> zbm, index -> zar, join -> zax, trimLeftS -> zaY
open Int renaming toNat -> zaf
open List renaming drop_eq_nil_of_le -> zaN, drop_length -> zbf, length_append -> zae, length_cons -> zac, length_drop -> zao, length_nil -> zas, length_singleton -> zag, length_take -> zab, set -> zbd
open Nat renaming le_trans -> zaF, zero_add -> zbb
theorem cnd2{α β:Type}(v:α)(b:Bool)(A B:β):(bif !(v,b).2 then A else B)=bif !b then A else B:=rfl
theorem glist_lp1(l:List Str)(x:Int)(hg:(el l x).length<=4194304):adn FU l x FU 0=some (if(el l x).all hexB=true then .inl ()else .inr ([],false)):=by
 refine all_gen0 hexB (el l x) hg (([]:List Str),false) (adn FU l x) ?_ ?_ ?_
 ·intro fk;rw [afn,adf,if_neg omg]
 ·intro fk k hk h;obtain⟨v,h3⟩:=ad_hex (at_ (el l x) k);rw [h]at h3;rw [afn,adf,if_pos omg,gok,h3];simp only [zaa,zaK,cond_true]
 ·intro fk k hk h;obtain⟨v,h3⟩:=ad_hex (at_ (el l x) k);rw [h]at h3;rw [afn,adf,if_pos omg,gok,h3,zaa,cnd2,zav,cond_false,gok]
theorem glist_lp(s:Str)(hs:s.length<=4194304)(n:Nat):∀(k fk:Nat),k+n=(spl 58 s).length->n<fk->((spl 58 s).take k).all aqk=true->
  acv FU s fk (asx (spl 58 s) k) (k:Int)=some (if(spl 58 s).all aqk=true then .inl ((spl 58 s).map grpN)else .inr ([],false)):=by
 have hb:=aug 58 s;induction n with
 |zero=>
  intro k fk hk hf hp;obtain⟨fk,rfl⟩:=fkx fk;obtain rfl:k=(spl 58 s).length:=by omega
  rw [List.take_length]at hp;rw [ajn,aef,if_neg omg,if_pos hp,grpMix_all]
 |succ n ih=>
  intro k fk hk hf hp;obtain⟨fk,rfl⟩:=fkx fk;have hlt:k<(spl 58 s).length:=by omega
  have hml:=grpMix_len (spl 58 s) k omg;have hin:(0:Int)<=(k:Int)/\(k:Int)<((asx (spl 58 s) k).length:Int):=by omega
  have he:=grp_el (spl 58 s) k hlt;have hel:(el (spl 58 s) (k:Int)).length<=4194304:=zaF (hb.2 _ (el_mem' _ k hlt)) hs;have fail:aqk (el (spl 58 s) (k:Int))=false->(spl 58 s).all aqk=false:=fun h=>all_false_at' aqk _ k hlt h
  rw [ajn,aef,if_pos omg,aac hin,aac hin,he];by_cases h1:((el (spl 58 s) (k:Int)).length:Int)<1
  ·rw [if_pos h1,fail (grpOk_no1 _ (.inl h1))];rfl
  ·rw [if_neg h1,zaa];by_cases h2:4<((el (spl 58 s) (k:Int)).length:Int)
   ·rw [decide_eq_true h2,fail (grpOk_no1 _ (.inr h2))];rfl
   ·rw [decide_eq_false h2,cond_false,glist_lp1 _ _ (by rw [he];exact hel),he,zaa];cases hx:(el (spl 58 s) (k:Int)).all hexB with
    |false=>rw [fail (grpOk_no2 _ hx)];rfl
    |true=>
     have hok:=grpOk_yes _ h1 h2 hx;rw [if_pos rfl,zau,atu _ hel,zaa,aac (by simp [aap];omega),aac (by decide)];have step:∀v,v=grpN (el (spl 58 s) (k:Int))->acv FU s fk (zbd (asx (spl 58 s) k) (zaf (k:Int)) v) ((k:Int)+1)=some (if(spl 58 s).all aqk=true then .inl ((spl 58 s).map grpN)else .inr ([],false)):=fun v hv=>by
      rw [<-grp_step (spl 58 s) k v hlt hv,afw];exact ih (k+1) fk omg omg (all_take_snoc' aqk _ k hlt hp hok)
     have ok:acd ((k:Int)+1):=ado _ omg omg;by_cases hz:zaY (aap (el (spl 58 s) (k:Int))) [48]=[]
     ·rw [if_pos hz,aac hin,aac hin,zaa,zau,aac ok,step [48] (grpN_zero _ hz)]
     ·rw [if_neg hz,aac hin,aac hin,zaa,zau,aac ok,step (zaY (aap (el (spl 58 s) (k:Int))) [48]) (grpN_else _ hz)]
theorem glist_eq(s:Str)(hs:s.length<=4194304):adi FU s=some (ajt s):=by
 have hb:=aug 58 s
 have:=glist_lp s hs (spl 58 s).length 0 FU omg (by rw [afu];omega) rfl
 rw [grpMix_zero]at this;have this':acv FU s FU (spl 58 s) (0:Int)=_:=this;unfold adi;rw [aac omg,this',zaa];cases ha:(spl 58 s).all aqk with
 |false=>rw [grpList_no s ha];rfl
 |true=>rw [grpList_yes s ha];rfl
theorem glist0(x:Str)(hx:x.length<=4194304):(if x=([]:Str)then some (([]:List Str),true)else((adi FU x).bind fun(y49:((List Str)×Bool))=>some (y49.1,y49.2)))=some (aju x):=by
 by_cases h:x=[]
 ·rw [if_pos h,grpL0_nil x h]
 ·rw [if_neg h,atq x h,glist_eq x hx];rfl
theorem grpL0_bd(x:Str):(aju x).1.length<=x.length+1/\∀y∈(aju x).1,y.length<=4:=by
 unfold aju;split
 ·simp
 ·exact grpList_bd x
theorem joinL0(x:Str)(h:x.length<=4194304):(zax (aju x).1 [58]).length<=24000000:=by
 have h1:=grpL0_bd x;have h2:=join_len [58] 4 (aju x).1 h1.2;simp only [zag]at h2;omega
theorem adGroups_eq(s:Str):amb FU s=some (grpsP s):=by
 unfold amb grpsP;by_cases h39:39<s.length
 ·rw [if_pos omg,if_pos h39]
 ·rw [if_neg omg,if_neg h39,aac omg];have hc:=cut_len s [58,58];cases hd:(zbm s [58,58]).2.2 with
  |false=>
   have h1:=grpList_bd s;rw [zaK,cond_true,if_pos rfl,glist_eq s omg,zaa,aac ⟨by omega,join_grp s omg⟩];cases h2:(ajt s).2<;>rfl
  |true=>
   rw [zav,cond_false,glist0 _ omg,zaa,glist0 _ omg,zaa,if_neg (show¬(true=false)by decide)];have b1:=grpL0_bd (zbm s [58,58]).1;have b2:=grpL0_bd (zbm s [58,58]).2.1;have j1:=joinL0 (zbm s [58,58]).1 omg;have j2:=joinL0 (zbm s [58,58]).2.1 omg;cases h1:(aju (zbm s [58,58]).1).2
   ·simp
   ·cases h2:(aju (zbm s [58,58]).2.1).2
    ·simp
    ·rw [zav,cond_false,cond_false,gok,zaa,Bool.or_false,zbu];by_cases h7:7<((aju (zbm s [58,58]).1).1.length:Int)+((aju (zbm s [58,58]).2.1).1.length:Int)
     ·rw [decide_eq_true h7,if_pos rfl];rfl
     ·rw [decide_eq_false h7,if_neg (by decide),cond_false,aac ⟨by omega,by omega⟩,aac (by simp only [zac,zas];omega),aac ⟨by omega,by omega⟩,aac (by simp only [zae,zac,zas];omega)]
def sixP(a b:Str):Str×Bool:=if(!(aju a).2|| !(aju b).2||decide (7<((aju a).1.length:Int)+((aju b).1.length:Int)))=true then([],false)else(zax (aju a).1 [58]++[58,58]++zax (aju b).1 [58],true)
theorem index_ge(p:Str):∀l:Str,-1<=zar l p
 |[]=>by unfold zar;split<;>omega
 |b::l=>by
  have:=index_ge p l
  rw [zar];split
  ·omega
  ·split
   ·omega
   ·omega
theorem index_cons(p:Str)(b:UInt8)(l:Str):zar (b::l) p=if p.isPrefixOf (b::l)=true then 0 else if zar l p= -1 then-1 else zar l p+1:=by
 rw [zar];split
 ·rfl
 ·by_cases h:zar l p= -1
  ·rw [if_pos h,if_pos (by simpa using h)]
  ·rw [if_neg h,if_neg (by simpa using h)]
theorem pfx2(s:Str)(k:Nat)(h:k<s.length):([58,58]:Str).isPrefixOf (at_ s (k:Int)::s.drop (k+1))=(decide (k+1<s.length)&&(at_ s (k:Int)==58)&&(at_ s ((k+1:Nat):Int)==58)):=by
 by_cases h2:k+1<s.length
 ·rw [aok s (k+1) h2,decide_eq_true h2];simp only [List.isPrefixOf,zaz,Bool.and_true];rw [Bool.beq_comm,Bool.beq_comm (a:=(58:UInt8))]
 ·rw [zaN omg,decide_eq_false h2];simp [List.isPrefixOf]
theorem six_lp(s:Str)(hs:s.length<=4194304)(n:Nat):∀(k fk:Nat),k+n=s.length->n<fk->
  aht FU s fk (k:Int)=some (if zar (s.drop k) [58,58]= -1 then .inl ()else .inr (sixP (s.take (k+(zar (s.drop k) [58,58]).toNat)) (s.drop (k+(zar (s.drop k) [58,58]).toNat+2)))):=by
 induction n with
 |zero=>
  intro k fk hk hf;obtain⟨fk,rfl⟩:=fkx fk;obtain rfl:k=s.length:=by omega
  rw [aqu,alu,gok,if_neg omg,zbf];rfl
 |succ n ih=>
  intro k fk hk hf;obtain⟨fk,rfl⟩:=fkx fk;have hlt:k<s.length:=by omega
  rw [aqu,alu,gok,aok s k hlt,index_cons,pfx2 s k hlt];have step:aht FU s fk ((k:Int)+1)=some (if(if zar (s.drop (k+1)) [58,58]= -1 then(-1:Int)else zar (s.drop (k+1)) [58,58]+1)= -1 then .inl ()else .inr (sixP (s.take (k+(if zar (s.drop (k+1)) [58,58]= -1 then(-1:Int)else zar (s.drop (k+1)) [58,58]+1).toNat)) (s.drop (k+(if zar (s.drop (k+1)) [58,58]= -1 then(-1:Int)else zar (s.drop (k+1)) [58,58]+1).toNat+2)))):=by
   rw [afw,ih (k+1) fk omg omg];have hg:=index_ge [58,58] (s.drop (k+1));by_cases hm:zar (s.drop (k+1)) [58,58]= -1
   ·rw [if_pos hm,if_pos hm];rfl
   ·rw [if_neg hm,if_neg hm,if_neg omg];have e:k+1+(zar (s.drop (k+1)) [58,58]).toNat=k+(zar (s.drop (k+1)) [58,58]+1).toNat:=by omega
    rw [e]
  by_cases h2:k+1<s.length
  ·rw [if_pos omg,gok,decide_eq_true h2,zaz];by_cases h3:at_ s (k:Int)=58
   ·rw [if_pos h3,gok,aac omg,zaa,afw];have e3:(at_ s (k:Int)==58)=true:=by simpa using h3
    rw [e3,zaz];by_cases h4:at_ s ((k+1:Nat):Int)=58
    ·have e4:(at_ s ((k+1:Nat):Int)==58)=true:=by simpa using h4
     have et:((k:Nat):Int).toNat=k:=by omega
     have et2:((k:Int)+2).toNat=k+2:=by omega
     rw [decide_eq_true h4,zav,cond_false,e4,if_pos rfl,aac omg,et,rfGroups_eq _ (by rw [zab];omega),zaa,gok,aac omg,et2,rfGroups_eq _ (by rw [zao];omega),zaa];simp only [Int.toNat_zero,Nat.add_zero,if_neg (show¬((0:Int)= -1)by decide)];unfold sixP;have j1:=joinL0 (s.take k) (by rw [zab];omega);have j2:=joinL0 (s.drop (k+2)) (by rw [zao];omega);have b1:=(grpL0_bd (s.take k)).1;have b2:=(grpL0_bd (s.drop (k+2))).1;rw [zab]at b1;rw [zao]at b2;cases h5:(aju (s.take k)).2
     ·simp
     ·cases h6:(aju (s.drop (k+2))).2
      ·simp
      ·simp only [zav,cond_false,zbu];rw [gok,zaa];by_cases h7:7<((aju (s.take k)).1.length:Int)+((aju (s.drop (k+2))).1.length:Int)
       ·rw [decide_eq_true h7,cond_true,if_pos rfl]
       ·rw [decide_eq_false h7,cond_false,if_neg (by decide),aac (by simp only [zac,zas];omega),aac (by simp only [zae,zac,zas];omega)]
    ·have e4:(at_ s ((k+1:Nat):Int)==58)=false:=by simpa using h4
     rw [decide_eq_false h4,zaK,cond_true,e4,if_neg (show¬(false=true)by decide),gok,<-afw,step]
   ·have e3:(at_ s (k:Int)==58)=false:=by simpa using h3
    rw [if_neg h3,zaa,cond_true,e3,zbn,if_neg (show¬(false=true)by decide),gok,step]
  ·rw [if_neg omg,decide_eq_false h2,zbn,zbn,if_neg (show¬(false=true)by decide)]
   have:zar (s.drop (k+1)) [58,58]= -1:=by rw [zaN omg];rfl
   rw [if_pos this];rfl
theorem cut_eq(s p:Str):zbm s p=if zar s p= -1 then(s,[],false)else(s.take (zar s p).toNat,s.drop ((zar s p).toNat+p.length),true):=by
 unfold zbm
 have:=index_ge p s
 by_cases h:zar s p= -1
 ·rw [if_pos h,if_neg omg]
 ·rw [if_neg h,if_pos omg]
def sixQ(s:Str):Str×Bool:=if(zbm s [58,58]).2.2=false then(zax (aju s).1 [58],(aju s).2&&decide (((aju s).1.length:Int)=8))else sixP (zbm s [58,58]).1 (zbm s [58,58]).2.1
theorem six_eq(s:Str)(hs:s.length<=4194304):ash FU s=some (sixQ s):=by
 have:=six_lp s hs s.length 0 FU omg (by rw [afu];omega)
 rw [List.drop_zero,zbb]at this;have this':aht FU s FU (0:Int)=_:=this;unfold ash sixQ;rw [this',zaa,cut_eq];by_cases h:zar s [58,58]= -1
 ·rw [if_pos h,if_pos h,zau,rfGroups_eq s hs,zaa,if_pos rfl];cases hb:(aju s).2<;>rfl
 ·rw [if_neg h,if_neg h,if_neg (by simp)];rfl
open Bool renaming eq_iff_iff -> zaU, false_or -> zbu, not_false -> zaK, not_true -> zav, true_and -> zaz
open Go.Lib renaming index -> zar
open List renaming all_cons -> zbk, append_nil -> zaG, drop_length -> zbf, eq_nil_of_length_eq_zero -> zaH, length -> zaT, length_append -> zae, length_cons -> zac, length_drop -> zao, length_singleton -> zag, length_take -> zab
open Sum renaming elim -> zaE, elim_inl -> zau
theorem dig_sub(c:UInt8)(h:aci c=true):(c-48).toNat=c.toNat-48/\c.toNat<=57/\48<=c.toNat:=by
 have hc:=(digitB_iff c).1 h;have h48:(48:UInt8)<=c:=by rw [UInt8.le_iff_toNat_le];show 48<=c.toNat;omega
 exact⟨by rw [UInt8.toNat_sub_of_le _ _ h48];rfl,by omega,by omega⟩
theorem nums_lp1(s:Str)(x:Int)(hg:(el (spl 46 s) x).length<=15)(l:Str):∀(p:Str) (fk:Nat),el (spl 46 s) x=p++l->l.length<fk->p.all aci=true->
  aec FU s x fk (adv p:Int) (p.length:Int)=some (if l.all aci=true then .inl (adv (el (spl 46 s) x):Int)else .inr false):=by
 induction l with
 |nil=>
  intro p fk h hf hp;obtain⟨fk,rfl⟩:=fkx fk;rw [zaG]at h;rw [aln,afb,if_neg (by rw [h];omega),h];rfl
 |cons c l ih=>
  intro p fk h hf hp;obtain⟨fk,rfl⟩:=fkx fk;have hl:=congrArg zaT h;simp only [zae,zac]at hl hf;have hb:(0:Int)<=(p.length:Int)/\(p.length:Int)<((el (spl 46 s) x).length:Int):=by omega
  have ha:at_ (el (spl 46 s) x) (p.length:Int)=c:=by rw [h,ata]
  have hv:=decVal_lt 14 p omg hp;rw [aln,afb,if_pos hb.2,aac hb,ha,ad_digit,zaa,zbk];cases hc:aci c with
  |false=>rfl
  |true=>
   have hd:=dig_sub c hc;rw [zav,cond_false,hd.1,aac (ado _ omg omg),aac hb,aac (ado _ omg omg),aac (ado _ omg omg),zaz];have e:(10:Int)*(adv p:Int)+((c.toNat-48:Nat):Int)=(adv (p++[c]):Int):=by rw [aqp];omega
   rw [e,agz p c];exact ih (p++[c]) fk (by rw [h];simp) omg (by rw [List.all_append,hp];simpa using hc)
theorem nums_lp(s:Str)(hs:s.length<=15)(n:Nat):∀(k fk:Nat),k+n=(spl 46 s).length->n<fk->
  aed FU s fk (k:Int)=some (if((spl 46 s).drop k).all octOk=true then .inl ()else .inr false):=by
 have hb:=aug 46 s;induction n with
 |zero=>
  intro k fk hk hf;obtain⟨fk,rfl⟩:=fkx fk;obtain rfl:k=(spl 46 s).length:=by omega
  rw [alo,afc,if_neg omg,zbf];rfl
 |succ n ih=>
  intro k fk hk hf;obtain⟨fk,rfl⟩:=fkx fk;have hlt:k<(spl 46 s).length:=by omega
  have hin:(0:Int)<=(k:Int)/\(k:Int)<((spl 46 s).length:Int):=by omega
  have hel:(el (spl 46 s) (k:Int)).length<=15:=zaF (hb.2 _ (el_mem' _ k hlt)) hs;have hd:(spl 46 s).drop k=el (spl 46 s) (k:Int)::(spl 46 s).drop (k+1):=by rw [el_nat _ _ hlt,List.drop_eq_getElem_cons hlt]
  have h1:=nums_lp1 s (k:Int) hel (el (spl 46 s) (k:Int)) [] FU (by simp) (by rw [afu];omega) rfl;have h1':aec FU s (k:Int) FU (0:Int) (0:Int)=_:=h1;rw [alo,afc,if_pos omg,aac hin,aac hin,h1',zaa,hd,zbk];cases hx:(el (spl 46 s) (k:Int)).all aci with
  |false=>rw [octOk_no1 _ hx];rfl
  |true=>
   have hv:=decVal_lt 15 _ hel hx;rw [if_pos rfl,zau];by_cases h2:el (spl 46 s) (k:Int)=[]
   ·rw [if_pos h2,octOk_no2 _ (.inl (.inl h2))];rfl
   ·rw [if_neg h2];by_cases h3:255<(adv (el (spl 46 s) (k:Int)):Int)
    ·rw [if_pos h3,octOk_no2 _ (.inl (.inr h3))];rfl
    ·rw [if_neg h3,aac (ado _ omg omg),zaa];by_cases h4:el (spl 46 s) (k:Int)=Lib.itoa (adv (el (spl 46 s) (k:Int)):Int)
     ·rw [decide_eq_true h4,zav,cond_false,zaa,zau,aac (ado _ omg omg),octOk_yes _ hx h2 h3 h4,zaz];exact ih (k+1) fk omg omg
     ·rw [decide_eq_false h4,octOk_no2 _ (.inr h4)];rfl
theorem adNumbers_eq(s:Str):aks FU s=some (auk s):=by
 unfold aks;by_cases h:15<(s.length:Int)
 ·rw [if_pos h,numsP_long s h]
 ·have hb:=aug 46 s
  have:=nums_lp s omg (spl 46 s).length 0 FU omg (by rw [afu];omega)
  rw [List.drop_zero]at this;have this':aed FU s FU (0:Int)=_:=this;rw [if_neg h,aac omg,this',zaa];cases ha:(spl 46 s).all octOk with
  |false=>rw [numsP_no s ha];rfl
  |true=>rw [numsP_fin s h ha];rfl
def labB(c:UInt8):Bool:=letterB c||aci c||c==45
def atp(x:Str):Bool:=decide (1<=x.length)&&decide (x.length<=63)&& !(at_ x 0==45)&& !(at_ x ((x.length:Int)-1)==45)&&x.all labB
def labW(x:Str):Bool:=x.any (fun c=> !aci c)
def badL(x:Str):Bool:=decide ((x.length:Int)<1)||decide (63<(x.length:Int))||(at_ x 0==45)||(at_ x ((x.length:Int)-1)==45)
theorem lab_bad(x:Str):atp x=(!badL x&&x.all labB):=by
 unfold atp badL;have e1:decide (1<=x.length)= !decide ((x.length:Int)<1):=by rw [zaU];simp;omega
 have e2:decide (x.length<=63)= !decide (63<(x.length:Int)):=by rw [zaU];simp;omega
 rw [e1,e2];simp [Bool.not_or,Bool.and_assoc]
theorem badL_eq(x:Str)(hx:x.length<=4194304):(if(x.length:Int)<(1:Int)then some true else(if(63:Int)<(x.length:Int)then some true else(gd (0<=(0:Int)/\(0:Int)<(x.length:Int))<|(if(at_ x (0:Int))=(45:UInt8)then some true else(gd (acd ((x.length:Int)-(1:Int)))<|(gd (0<=((x.length:Int)-(1:Int))/\((x.length:Int)-(1:Int))<(x.length:Int))<|some (decide ((at_ x ((x.length:Int)-(1:Int)))=(45:UInt8)))))))))=some (badL x):=by
 unfold badL;by_cases h1:(x.length:Int)<1
 ·rw [if_pos h1,decide_eq_true h1];rfl
 ·rw [if_neg h1,decide_eq_false h1,zbu];by_cases h2:63<(x.length:Int)
  ·rw [if_pos h2,decide_eq_true h2];rfl
  ·rw [if_neg h2,decide_eq_false h2,zbu,aac omg];by_cases h3:at_ x 0=45
   ·rw [if_pos h3,show(at_ x 0==45)=true by simpa using h3];rfl
   ·rw [if_neg h3,show(at_ x 0==45)=false by simpa using h3,zbu,aac (ado _ omg omg),aac omg];rfl
theorem ad_nlab(c:UInt8):((ama FU c).bind fun(y365:Bool)=>(bif (!y365)then((aer FU c).bind fun(y371:Bool)=>(bif (!y371)then some (!decide (c=(45:UInt8)))else some false))else some false))=some (!labB c):=by
 rw [ad_letter,ad_digit];unfold labB;by_cases h:c=45
 ·subst h;rfl
 ·rw [show(c==45)=false by simpa using h,decide_eq_false h];cases letterB c<;>cases aci c<;>rfl
theorem named_lp1(x:Str)(hx:x.length<=4194304)(r:Bool)(l:Str):∀(p:Str) (fk:Nat) (w:Bool),x=p++l->l.length<fk->
  (l.all labB=true->abn FU x r fk (p.length:Int) w=some (0,w||labW l,r))/\(l.all labB=false->∃b,abn FU x r fk (p.length:Int) w=some (1,b,false)):=by
 induction l with
 |nil=>
  intro p fk w h hf;obtain⟨fk,rfl⟩:=fkx fk;rw [zaG]at h;refine⟨fun _=> ?_,fun h=>by cases h⟩
  rw [ajm,aee,if_neg (by rw [h];omega)];simp [labW]
 |cons c l ih=>
  intro p fk w h hf;obtain⟨fk,rfl⟩:=fkx fk;have hl:=congrArg zaT h;simp only [zae,zac]at hl hf;have hb:(0:Int)<=(p.length:Int)/\(p.length:Int)<(x.length:Int):=by omega
  have ha:at_ x (p.length:Int)=c:=by rw [h,ata]
  have ok:acd ((p.length:Int)+1):=ado _ omg omg;have hih:=ih (p++[c]) fk (w|| !aci c) (by rw [h];simp) omg;rw [<-agz p c]at hih;rw [ajm,aee,if_pos hb.2,aac hb,ha,ad_nlab,zaa,zbk];cases hc:labB c with
  |false=>exact⟨fun h=>by simp at h,fun _=>⟨w,by rw [zaK,cond_true]⟩⟩
  |true=>
   rw [zav,cond_false,zaz];have e:(bif w then gd (acd ((p.length:Int)+1)) (abn FU x r fk ((p.length:Int)+1) true)else(aer FU c).bind fun(y388:Bool)=>gd (acd ((p.length:Int)+1)) (abn FU x r fk ((p.length:Int)+1) (!y388)))=abn FU x r fk ((p.length:Int)+1) (w|| !aci c):=by
    cases w with
    |true=>rw [cond_true,aac ok,Bool.true_or]
    |false=>rw [cond_false,ad_digit,zaa,aac ok,zbu]
   rw [e];refine⟨fun h=> ?_,fun h=>hih.2 h⟩
   rw [hih.1 h];simp [labW,Bool.or_assoc]
theorem named_rd(x:Str)(hx:x.length<=4194304)(w r:Bool):(atp x=true->acu FU x w r=some (0,w||labW x,r))/\(atp x=false->∃b,acu FU x w r=some (1,b,false)):=by
 have hlp:=named_lp1 x hx r x [] FU w (by simp) (by rw [afu];omega);unfold acu;rw [badL_eq x hx,zaa,lab_bad];cases hb:badL x with
 |true=>exact⟨fun h=>by simp at h,fun _=>⟨w,by rw [cond_true]⟩⟩
 |false=>
  rw [cond_false,zaK,zaz];exact hlp
theorem index1(c:UInt8)(f:Str):(zar f [c]= -1/\spl c f=[f])\/(0<=zar f [c]/\zar f [c]<(f.length:Int)/\spl c f=f.take (zar f [c]).toNat::spl c (f.drop ((zar f [c]).toNat+1))):=by
 induction f with
 |nil=>exact .inl ⟨rfl,rfl⟩
 |cons b l ih=>
  rw [index_cons];have e:([c]:Str).isPrefixOf (b::l)=(c==b):=by simp [List.isPrefixOf]
  rw [e];by_cases h:b=c
  ·subst h;right
   rw [if_pos (by simp),aui];refine⟨Int.le_refl _,by simp only [zac];omega,by simp⟩
  ·rw [if_neg (by simpa using fun x=>h x.symm),auh c b l h];rcases ih with⟨h1,h2⟩|⟨h1,h2,h3⟩
   ·left;rw [if_pos h1,h2];exact⟨rfl,rfl⟩
   ·right
    rw [if_neg omg,h3];have e1:(zar l [c]+1).toNat=(zar l [c]).toNat+1:=by omega
    refine⟨by omega,by simp only [zac];omega, ?_⟩
    rw [e1];simp [psp]
theorem seq_lp(n:Nat):∀(f:Str) (fk:Nat) (w r:Bool),f.length<=n->n<fk->n<=4194304->
  ∃w' f' k,((aax FU [46] 0 fk w r f).bind fun(j115:((Bool×Bool×Str)⊕(Bool×Bool×Str×Nat)))=>zaE (fun(v117:(Bool×Bool×Str))=>((acu FU v117.2.2 v117.1 v117.2.1).bind fun(y190:(Nat×Bool×Bool))=>(if y190.1=0 then some (y190.2.1,y190.2.2,v117.2.2,0)else some (y190.2.1,y190.2.2,v117.2.2,y190.1)))) (fun q=>some q) j115)=some (w',(if(spl 46 f).all atp=true then r else false),f',k)/\
   (k=if(spl 46 f).all atp=true then 0 else 1)/\((spl 46 f).all atp=true->w'=(w||(spl 46 f).any labW)):=by
 induction n with
 |zero=>
  intro f fk w r hf hn h20;obtain⟨fk,rfl⟩:=fkx fk;obtain rfl:f=[]:=zaH omg;have e:zar ([]:Str) [46]= -1:=rfl;rw [ack,aaw,aac (by simp),e,if_pos (by decide),zaa,zau];obtain⟨b,hb⟩:=(named_rd [] (by simp) w r).2 rfl;simp only;rw [hb,zaa,if_neg (by simp)];exact⟨b,[],1,rfl,rfl,fun h=>absurd h (by decide)⟩
 |succ n ih=>
  intro f fk w r hf hn h20;obtain⟨fk,rfl⟩:=fkx fk;rw [ack,aaw,aac omg];rcases index1 46 f with⟨h1,h2⟩|⟨h1,h2,h3⟩
  ·rw [if_pos omg,zaa,zau,h2,zbk,List.all_nil,Bool.and_true];simp only;have hr:=named_rd f omg w r;cases hl:atp f with
   |true=>
    rw [hr.1 hl,zaa,if_pos rfl];exact⟨_,_,0,rfl,rfl,fun _=>by simp⟩
   |false=>
    obtain⟨b,hb⟩:=hr.2 hl;rw [hb,zaa,if_neg (by simp)];exact⟨b,_,1,rfl,rfl,fun h=>by cases h⟩
  ·have e0:zar f [46]+0=zar f [46]:=by omega
   have e1:(zar f [46]+((([46]:Str).length:Nat):Int)).toNat=(zar f [46]).toNat+1:=by simp only [zag];omega
   rw [if_neg omg,e0,aac (ado _ omg omg),aac omg,h3,zbk];have hr:=named_rd (f.take (zar f [46]).toNat) (by rw [zab];omega) w r;cases hl:atp (f.take (zar f [46]).toNat)with
   |true=>
    rw [hr.1 hl,zaa,if_pos rfl,aac (ado _ (by simp only [zag];omega) (by simp only [zag];omega)),aac (by simp only [zag];omega),e1,zaz];obtain⟨w',f',k,g1,g2,g3⟩:=ih (f.drop ((zar f [46]).toNat+1)) fk (w||labW (f.take (zar f [46]).toNat)) r (by rw [zao];omega) omg omg;exact⟨w',f',k,g1,g2,fun h=>by rw [g3 h,List.any_cons,Bool.or_assoc]⟩
   |false=>
    obtain⟨b,hb⟩:=hr.2 hl;rw [hb,zaa,if_neg (by simp),zaa];exact⟨b,_,1,rfl,rfl,fun h=>by cases h⟩
def namedP(s:Str):Bool:=decide (1<=s.length)&&decide (s.length<=255)&&(spl 46 s).all atp&&(spl 46 s).any labW
theorem adNamed_eq(s:Str)(hs:s.length<=4194304):ana FU s=some (namedP s):=by
 unfold ana namedP;by_cases h1:(s.length:Int)<1
 ·rw [if_pos h1,show decide (1<=s.length)=false by(rw [decide_eq_false_iff_not];omega)];rfl
 ·rw [if_neg h1,show decide (1<=s.length)=true by(rw [decide_eq_true_eq];omega),zaa,zaz];by_cases h2:255<(s.length:Int)
  ·rw [decide_eq_true h2,show decide (s.length<=255)=false by(rw [decide_eq_false_iff_not];omega)];rfl
  ·rw [decide_eq_false h2,cond_false,show decide (s.length<=255)=true by(rw [decide_eq_true_eq];omega),zaz];obtain⟨w',f',k,g1,g2,g3⟩:=seq_lp s.length s FU false false (zah _) (by rw [afu];omega) hs;unfold amn amm;rw [zaa,zaa];unfold acg;rw [if_neg (by simp),zaa,zau,g1,zaa];simp only;cases ha:(spl 46 s).all atp with
   |true=>rw [g2,ha,if_pos rfl,if_pos rfl,g3 ha];simp
   |false=>rw [ha]at g2;rw [g2];simp
open Bool renaming and_eq_true -> zay, eq_iff_iff -> zaU, false_and -> zbn, false_or -> zbu, not_false -> zaK, not_true -> zav, true_and -> zaz
open Go.Lib renaming cut -> zbm, index -> zar
open List renaming all_cons -> zbk, append_nil -> zaG, length -> zaT, length_append -> zae, length_cons -> zac, length_drop -> zao, length_map -> zaA, length_nil -> zas, length_singleton -> zag, length_take -> zab, map_congr_left -> zbj, map_cons -> zaC, mem_cons_of_mem -> zaD, mem_cons_self -> zaI
open Nat renaming le_trans -> zaF
open UInt8 renaming ofNat -> zaM
theorem rf_nlab(c:UInt8):((aoe FU c).bind fun(y288:Bool)=>(bif (!y288)then((ahb FU c).bind fun(y295:Bool)=>(bif (!y295)then some (!decide (c=(45:UInt8)))else some false))else some false))=some (!labB c):=by
 rw [rf_letter,rf_digit];unfold labB;by_cases h:c=45
 ·subst h;rfl
 ·rw [show(c==45)=false by simpa using h,decide_eq_false h];cases letterB c<;>cases aci c<;>rfl
theorem label_lp(x:Str)(hx:x.length<=4194304)(l:Str):∀(p:Str) (fk:Nat) (w:Bool),x=p++l->l.length<fk->
  adl FU x fk w (p.length:Int)=some (if l.all labB=true then .inl (w||labW l)else .inr (false,false)):=by
 induction l with
 |nil=>
  intro p fk w h hf;obtain⟨fk,rfl⟩:=fkx fk;rw [zaG]at h;rw [aoo,ais,if_neg (by rw [h];omega)];simp [labW]
 |cons c l ih=>
  intro p fk w h hf;obtain⟨fk,rfl⟩:=fkx fk;have hl:=congrArg zaT h;simp only [zae,zac]at hl hf;have hb:(0:Int)<=(p.length:Int)/\(p.length:Int)<(x.length:Int):=by omega
  have ha:at_ x (p.length:Int)=c:=by rw [h,ata]
  have ok:acd ((p.length:Int)+1):=ado _ omg omg;have hih:=ih (p++[c]) fk (w|| !aci c) (by rw [h];simp) omg;rw [<-agz p c]at hih;rw [aoo,ais,if_pos hb.2];simp only [aac hb,ha];rw [rf_nlab,zaa,zbk];cases hc:labB c with
  |false=>rw [zaK,cond_true,zbn,if_neg (show¬(false=true)by decide)]
  |true=>
   rw [zav,cond_false,zaz];have e:(bif w then gd (acd ((p.length:Int)+1)) (adl FU x fk true ((p.length:Int)+1))else(ahb FU c).bind fun(y308:Bool)=>gd (acd ((p.length:Int)+1)) (adl FU x fk (!y308) ((p.length:Int)+1)))=adl FU x fk (w|| !aci c) ((p.length:Int)+1):=by
    cases w with
    |true=>rw [cond_true,aac ok,Bool.true_or]
    |false=>rw [cond_false,rf_digit,zaa,aac ok,zbu]
   rw [e,hih];simp [labW,Bool.or_assoc]
theorem label_eq(x:Str)(hx:x.length<=4194304):apv FU x=some (if atp x=true then(true,labW x)else(false,false)):=by
 have hlp:=label_lp x hx x [] FU false (by simp) (by rw [afu];omega);have hlp':adl FU x FU false (0:Int)=_:=hlp;unfold apv;rw [badL_eq x hx,zaa,lab_bad];cases hb:badL x with
 |true=>rw [cond_true];simp
 |false=>
  rw [cond_false,zaK,zaz,hlp',zaa];cases x.all labB with
  |true=>simp
  |false=>simp
def numOk(x:Str):Bool:=decide (1<=x.length)&&decide (x.length<=3)&& !(decide (1<x.length)&&(at_ x 0==48))&&x.all aci&&decide (adv x<=255)
theorem num_lp(x:Str)(hx:x.length<=15)(l:Str):∀(p:Str) (fk:Nat),x=p++l->l.length<fk->p.all aci=true->
  aen FU x fk (adv p:Int) (p.length:Int)=some (if l.all aci=true then .inl (adv x:Int)else .inr false):=by
 induction l with
 |nil=>
  intro p fk h hf hp;obtain⟨fk,rfl⟩:=fkx fk;rw [zaG]at h;rw [anv,ahv,if_neg (by rw [h];omega),h];rfl
 |cons c l ih=>
  intro p fk h hf hp;obtain⟨fk,rfl⟩:=fkx fk;have hl:=congrArg zaT h;simp only [zae,zac]at hl hf;have hb:(0:Int)<=(p.length:Int)/\(p.length:Int)<(x.length:Int):=by omega
  have ha:at_ x (p.length:Int)=c:=by rw [h,ata]
  have hv:=decVal_lt 14 p omg hp;rw [anv,ahv,if_pos hb.2,aac hb,ha,rf_digit,zaa,zbk];cases hc:aci c with
  |false=>rfl
  |true=>
   have hd:=dig_sub c hc;rw [zav,cond_false,hd.1,aac (ado _ omg omg),aac hb,aac (ado _ omg omg),aac (ado _ omg omg),zaz];have e:(10:Int)*(adv p:Int)+((c.toNat-48:Nat):Int)=(adv (p++[c]):Int):=by rw [aqp];omega
   rw [e,agz p c];exact ih (p++[c]) fk (by rw [h];simp) omg (by rw [List.all_append,hp];simpa using hc)
theorem num_eq(x:Str):aod FU x=some (numOk x):=by
 unfold aod numOk;by_cases h1:(x.length:Int)<1
 ·rw [if_pos h1,show decide (1<=x.length)=false by(rw [decide_eq_false_iff_not];omega)];rfl
 ·rw [if_neg h1,show decide (1<=x.length)=true by(rw [decide_eq_true_eq];omega),zaz];by_cases h2:3<(x.length:Int)
  ·rw [if_pos h2,show decide (x.length<=3)=false by(rw [decide_eq_false_iff_not];omega)];rfl
  ·rw [if_neg h2,show decide (x.length<=3)=true by(rw [decide_eq_true_eq];omega),zaz];have hlp:=num_lp x omg x [] FU (by simp) (by rw [afu];omega) rfl;have hlp':aen FU x FU (0:Int) (0:Int)=_:=hlp;have fin:((aen FU x FU (0:Int) (0:Int)).bind fun(j59:(Int⊕Bool))=>zaE (fun(v61:Int)=>some (decide (v61<=(255:Int)))) (fun q=>some q) j59)=some (x.all aci&&decide (adv x<=255)):=by
    rw [hlp',zaa];cases ha:x.all aci with
    |false=>rfl
    |true=>
     rw [if_pos rfl,zau,zaz];congr 1
     rw [zaU];simp;omega
   by_cases h3:1<(x.length:Int)
   ·rw [if_pos h3,aac omg,zaa,show decide (1<x.length)=true by(rw [decide_eq_true_eq];omega),zaz];by_cases h4:at_ x 0=48
    ·rw [decide_eq_true h4,show(at_ x 0==48)=true by simpa using h4];rfl
    ·rw [decide_eq_false h4,cond_false,show(at_ x 0==48)=false by simpa using h4,fin];rfl
   ·rw [if_neg h3,zaa,cond_false,show decide (1<x.length)=false by(rw [decide_eq_false_iff_not];omega),fin];rfl
def dg(n:Fin 10):UInt8:=zaM (48+n.val)
theorem dg_of:∀c:UInt8,aci c=true->∃n:Fin 10,c=dg n:=acq _ (by decide+kernel)
theorem oct1:∀a:Fin 10,octOk [dg a]=numOk [dg a]:=by decide+kernel
theorem oct2:∀a b:Fin 10,octOk [dg a,dg b]=numOk [dg a,dg b]:=by decide+kernel
theorem oct3:∀a b c:Fin 10,octOk [dg a,dg b,dg c]=numOk [dg a,dg b,dg c]:=by decide+kernel
theorem itoa255:∀n:Fin 256,(Lib.itoa (n.val:Int)).length<=3:=by decide+kernel
theorem oct_num(x:Str):octOk x=numOk x:=by
 cases hd:x.all aci with
 |false=>rw [octOk_no1 x hd,numOk,hd];simp
 |true=>
  have hall:=List.all_eq_true.1 hd
  match x,hd,hall with
  |[],_,_=>rfl
  |[a],_,hall=>
   obtain⟨n,rfl⟩:=dg_of a (hall a (by simp));exact oct1 n
  |[a,b],_,hall=>
   obtain⟨n,rfl⟩:=dg_of a (hall a (by simp));obtain⟨m,rfl⟩:=dg_of b (hall b (by simp));exact oct2 n m
  |[a,b,c],_,hall=>
   obtain⟨n,rfl⟩:=dg_of a (hall a (by simp));obtain⟨m,rfl⟩:=dg_of b (hall b (by simp));obtain⟨k,rfl⟩:=dg_of c (hall c (by simp));exact oct3 n m k
  |a::b::c::d::l,hd,_=>
   have h1:numOk (a::b::c::d::l)=false:=by
    unfold numOk;rw [show decide ((a::b::c::d::l).length<=3)=false by(rw [decide_eq_false_iff_not];simp only [zac];omega)];simp
   rw [h1];by_cases hv:adv (a::b::c::d::l)<=255
   ·refine octOk_no2 _ (.inr fun h=> ?_)
    have:=itoa255 ⟨adv (a::b::c::d::l),by omega⟩
    simp only at this;rw [<-h]at this;simp only [zac]at this;omega
   ·exact octOk_no2 _ (.inl (.inr omg))
theorem host_lp(X:List Str)(hX:X.length<=4194305)(hx:∀x∈X,x.length<=4194304)(q:List Str):∀(p:List Str) (fk:Nat) (four word:Bool),X=p++q->q.length<fk->
  ain FU X fk four word (p.length:Int)=some (if q.all atp=true then .inl (four&&q.all numOk,word||q.any labW)else .inr ([],false)):=by
 induction q with
 |nil=>
  intro p fk four word h hf;obtain⟨fk,rfl⟩:=fkx fk;rw [zaG]at h;rw [apx,akk,if_neg (by rw [h];omega)];simp
 |cons a q ih=>
  intro p fk four word h hf;obtain⟨fk,rfl⟩:=fkx fk;have hl:=congrArg zaT h;simp only [zae,zac]at hl hf;have hb:(0:Int)<=(p.length:Int)/\(p.length:Int)<(X.length:Int):=by omega
  have he:el X (p.length:Int)=a:=by rw [h];simp [el]
  have ha:a.length<=4194304:=hx a (by rw [h];simp);have ok:acd ((p.length:Int)+1):=ado _ omg omg;have hih:=fun f w=>ih (p++[a]) fk f w (by rw [h];simp) omg
  rw [show((p++[a]).length:Int)=(p.length:Int)+1 by simp]at hih;rw [apx,akk,if_pos hb.2,aac hb,aac hb,he,label_eq a ha,zaa,zbk];cases hg:atp a with
  |false=>rw [if_neg (show¬(false=true)by decide)];simp
  |true=>
   rw [if_pos rfl,zav,cond_false,zaz];have e:(bif word then some true else some (labW a))=some (word||labW a):=by cases word<;>rfl
   simp only;rw [e,zaa];cases four with
   |true=>rw [cond_true,aac hb,aac hb,num_eq,zaa,aac ok,hih];simp [Bool.or_assoc]
   |false=>rw [cond_false,aac ok,hih];simp [Bool.or_assoc]
def brkB(s:Str):Bool:=decide (2<=s.length)&&(at_ s 0==91)&&(at_ s ((s.length:Int)-1)==93)
def ase(s:Str):Str×Bool:=
 if brkB s=true then(if(grpsP (sub s 1 ((s.length:Int)-1))).2=true then([91]++(grpsP (sub s 1 ((s.length:Int)-1))).1++[93],true)else([],false))
 else if auk s=true then(s,true)else if namedP s=true then(aap s,true)else([],false)
theorem brk_eq(s:Str)(hs:s.length<=4194304):(if(2:Int)<=(s.length:Int)then(gd (0<=(0:Int)/\(0:Int)<(s.length:Int))<|(if(at_ s (0:Int))=(91:UInt8)then(gd (acd ((s.length:Int)-(1:Int)))<|(gd (0<=((s.length:Int)-(1:Int))/\((s.length:Int)-(1:Int))<(s.length:Int))<|some (decide ((at_ s ((s.length:Int)-(1:Int)))=(93:UInt8)))))else some false))else some false)=some (brkB s):=by
 unfold brkB;by_cases h1:(2:Int)<=(s.length:Int)
 ·rw [if_pos h1,show decide (2<=s.length)=true by(rw [decide_eq_true_eq];omega),zaz,aac omg];by_cases h2:at_ s 0=91
  ·rw [if_pos h2,show(at_ s 0==91)=true by simpa using h2,zaz,aac (ado _ omg omg),aac omg];rfl
  ·rw [if_neg h2,show(at_ s 0==91)=false by simpa using h2];rfl
 ·rw [if_neg h1,show decide (2<=s.length)=false by(rw [decide_eq_false_iff_not];omega)];rfl
theorem brk_len{s:Str}(h:brkB s=true):2<=s.length:=by
 unfold brkB at h;simp only [zay,decide_eq_true_eq]at h;exact h.1.1
theorem grpsP_len(s:Str):(grpsP s).1.length<=60000000:=by
 unfold grpsP;by_cases h39:39<s.length
 ·rw [if_pos h39];simp
 ·rw [if_neg h39];have hc:=cut_len s [58,58];have j1:=joinL0 (zbm s [58,58]).1 omg;have j2:=joinL0 (zbm s [58,58]).2.1 omg;split
  ·have h1:=grpList_bd s;have h2:=join_len [58] 4 (ajt s).1 h1.2;simp only [zag]at h2⊢;omega
  ·split
   ·simp
   ·simp only [zae,zac,zas];omega
theorem adHost_eq(s:Str)(hs:s.length<=4194304):amg FU s=some (ase s):=by
 unfold amg ase;rw [brk_eq s hs,zaa];cases hb:brkB s with
 |true=>
  have h2:=brk_len hb;have hl:=grpsP_len (sub s 1 ((s.length:Int)-1));rw [cond_true,aac (ado _ omg omg),aac omg,adGroups_eq,zaa,if_pos rfl];cases hg:(grpsP (sub s 1 ((s.length:Int)-1))).2 with
  |false=>rfl
  |true=>rw [zav,cond_false,aac (by simp only [zag];omega),aac (by simp only [zae,zag];omega),if_pos rfl]
 |false=>
  rw [cond_false,adNumbers_eq,zaa,if_neg (show¬(false=true)by decide)];cases hn:auk s with
  |true=>rfl
  |false=>
   rw [cond_false,adNamed_eq s hs,zaa,if_neg (show¬(false=true)by decide)];cases hm:namedP s with
   |true=>rw [cond_true,atu s hs];rfl
   |false=>rfl
theorem sum_le(l:List Str)(m:Nat)(h:∀x∈l,x.length<=m):(l.map zaT).sum<=m*l.length:=by
 induction l with
 |nil=>simp
 |cons a l ih=>
  have h1:=h a zaI;have h2:=ih fun x hx=>h x (zaD _ hx)
  rw [zaC,List.sum_cons,zac,Nat.mul_succ];omega
theorem grpOk_len(g:Str)(h:aqk g=true):g.length<=4:=by
 unfold aqk at h;simp only [zay,decide_eq_true_eq]at h;exact h.1.2
theorem grpList_lens(x:Str)(h:(ajt x).2=true):x.length+1<=5*(ajt x).1.length:=by
 cases ha:(spl 58 x).all aqk with
 |false=>rw [grpList_no x ha]at h;cases h
 |true=>
  rw [grpList_yes x ha,zaA];have h1:=sum_le (spl 58 x) 4 fun y hy=>grpOk_len y (List.all_eq_true.1 ha y hy)
  have h2:=spl_lens 58 x;omega
theorem grpL0_lens(x:Str)(h:(aju x).2=true):x.length<=5*(aju x).1.length:=by
 by_cases hx:x=[]
 ·subst hx;simp
 ·rw [atq x hx]at h⊢
  have:=grpList_lens x h
  omega
theorem index2_bd:∀s:Str,zar s [58,58]≠-1->zar s [58,58]+2<=(s.length:Int)
 |[],h=>absurd rfl h
 |b::l,h=>by
  rw [index_cons]at h⊢;by_cases hp:([58,58]:Str).isPrefixOf (b::l)=true
  ·rw [if_pos hp];cases l with
   |nil=>simp [List.isPrefixOf]at hp
   |cons c l=>simp only [zac];omega
  ·rw [if_neg hp]at h⊢;by_cases hi:zar l [58,58]= -1
   ·rw [if_pos hi]at h;exact absurd rfl h
   ·have:=index2_bd l hi
    rw [if_neg hi,zac];omega
theorem six_grps(s:Str):(sixQ s).2=(grpsP s).2/\((grpsP s).2=true->(sixQ s).1=(grpsP s).1):=by
 unfold sixQ grpsP;by_cases h39:39<s.length
 ·rw [if_pos h39];refine⟨?_,fun h=>by cases h⟩
  have hne:s≠[]:=by intro e;subst e;simp at h39
  split
  ·rw [atq s hne];cases h2:(ajt s).2 with
   |false=>rfl
   |true=>
    have:=grpList_lens s h2
    rw [zaz,decide_eq_false_iff_not];omega
  ·rename_i hcut;unfold sixP;have hi:zar s [58,58]≠-1:=by
    intro e;rw [cut_eq,if_pos e]at hcut;exact hcut rfl
   have hbd:=index2_bd s hi;have hge:=index_ge [58,58] s;have h1:(zbm s [58,58]).1.length+2+(zbm s [58,58]).2.1.length=s.length:=by
    rw [cut_eq,if_neg hi];simp only [zab,zao,zac,zas];omega
   cases ha:(aju (zbm s [58,58]).1).2 with
   |false=>rfl
   |true=>
    cases hb:(aju (zbm s [58,58]).2.1).2 with
    |false=>rfl
    |true=>
     have la:=grpL0_lens _ ha;have lb:=grpL0_lens _ hb;rw [decide_eq_true omg];rfl
 ·rw [if_neg h39];split
  ·by_cases hs:s=[]
   ·subst hs;exact⟨rfl,fun h=>by cases h⟩
   ·rw [atq s hs];exact⟨rfl,fun _=>rfl⟩
  ·unfold sixP;split<;>exact⟨rfl,fun _=>rfl⟩
theorem spl_all(c:UInt8)(p:UInt8->Bool):∀s:Str,(∀x∈spl c s,x.all p=true)->∀b∈s,p b=true\/b=c
 |[],_,b,hb=>by simp at hb
 |d::l,h,b,hb=>by
  by_cases hd:d=c
  ·subst hd;rw [aui]at h;rcases List.mem_cons.1 hb with rfl|hb
   ·exact .inr rfl
   ·exact spl_all d p l (fun x hx=>h x (zaD _ hx)) b hb
  ·rw [auh c d l hd]at h;cases hx:spl c l with
   |nil=>exact absurd hx (spl_ne c l)
   |cons y r=>
    rw [hx]at h;have h0:=h ([d]++y) zaI;rw [List.all_append,zay]at h0;rcases List.mem_cons.1 hb with rfl|hb
    ·left;simpa using h0.1
    ·refine spl_all c p l (fun x hx'=> ?_) b hb;rw [hx]at hx';rcases List.mem_cons.1 hx' with rfl|hx'
     ·exact h0.2
     ·exact h x (zaD _ hx')
theorem dig_low:∀c:UInt8,aci c=true->ace c=c:=acq _ (by decide+kernel)
theorem dig_lab:∀c:UInt8,aci c=true->labB c=true/\c≠45:=acq _ (by decide+kernel)
theorem num_parts(x:Str)(h:numOk x=true):1<=x.length/\x.length<=3/\x.all aci=true:=by
 unfold numOk at h;simp only [zay,decide_eq_true_eq]at h;exact⟨h.1.1.1.1,h.1.1.1.2,h.1.2⟩
theorem at_mem(x:Str)(k:Nat)(h:k<x.length):at_ x (k:Int)∈x:=by
 simp [at_,h]
theorem num_lab(x:Str)(h:numOk x=true):atp x=true:=by
 obtain⟨h1,h2,h3⟩:=num_parts x h;have hall:=List.all_eq_true.1 h3;have e0:=(dig_lab _ (hall _ (at_mem x 0 omg))).2;have e1:=(dig_lab _ (hall _ (at_mem x (x.length-1) omg))).2;have ei:(((x.length-1:Nat)):Int)=(x.length:Int)-1:=by omega
 rw [ei]at e1;unfold atp;rw [decide_eq_true h1,decide_eq_true omg,show(at_ x 0==45)=false by simpa using e0,show(at_ x ((x.length:Int)-1)==45)=false by simpa using e1,List.all_eq_true.2 fun c hc=>(dig_lab c (hall c hc)).1];rfl
theorem lowerL_id(s:Str)(h:∀b∈s,ace b=b):aap s=s:=by
 unfold aap
 conv=>rhs;rw [<-List.map_id s]
 exact zbj fun b hb=>h b hb
theorem rfHost_eq(s:Str)(hs:s.length<=4194304):apb FU s=some (ase s):=by
 unfold apb ase;rw [brk_eq s hs,zaa];cases hb:brkB s with
 |true=>
  have h2:=brk_len hb;have hl:=grpsP_len (sub s 1 ((s.length:Int)-1));have hsl:(sub s 1 ((s.length:Int)-1)).length<=4194304:=by rw [aoj];omega
  obtain⟨g1,g2⟩:=six_grps (sub s 1 ((s.length:Int)-1));rw [cond_true,aac (ado _ omg omg),aac omg,six_eq _ hsl,zaa,if_pos rfl,g1];cases hg:(grpsP (sub s 1 ((s.length:Int)-1))).2 with
  |false=>rfl
  |true=>rw [zav,cond_false,g2 hg,aac (by simp only [zag];omega),aac (by simp only [zae,zag];omega),if_pos rfl]
 |false=>
  have hsum:=aug 46 s;have hlp:=host_lp (spl 46 s) omg (fun x hx=>zaF (hsum.2 x hx) hs) (spl 46 s) [] FU (decide (((spl 46 s).length:Int)=4)) false (by simp) (by rw [afu];omega);have hlp':ain FU (spl 46 s) FU (decide (((spl 46 s).length:Int)=4)) false (0:Int)=_:=hlp;rw [cond_false,pieces_eq s 46 hs,zaa,hlp',zaa,if_neg (show¬(false=true)by decide),amv s omg];have hlens:=spl_lens 46 s;cases hall:(spl 46 s).all atp with
  |false=>
   have hn:auk s=false:=by
    cases hn:auk s with
    |false=>rfl
    |true=>
     exfalso;unfold auk at hn;simp only [zay]at hn
     have:(spl 46 s).all atp=true:=List.all_eq_true.2 fun x hx=>num_lab x (by rw [<-oct_num];exact List.all_eq_true.1 hn.1.2 x hx)
     rw [hall]at this;cases this
   have hm:namedP s=false:=by unfold namedP;rw [hall];simp
   rw [hn,hm];rfl
  |true=>
   rw [if_pos rfl,zau,zbu];simp only;cases hn:auk s with
   |true=>
    have hn':=hn;unfold auk at hn';simp only [zay,decide_eq_true_eq]at hn';have hnum:(spl 46 s).all numOk=true:=List.all_eq_true.2 fun x hx=>by rw [<-oct_num];exact List.all_eq_true.1 hn'.1.2 x hx
    have hlow:aap s=s:=lowerL_id s fun b hb'=>by
     rcases spl_all 46 aci s (fun x hx=>(num_parts x (List.all_eq_true.1 hnum x hx)).2.2) b hb' with h|h
     ·exact dig_low b h
     ·subst h;rfl
    rw [hnum,decide_eq_true omg,if_neg omg,hlow]
    cases(spl 46 s).any labW<;>rfl
   |false=>
    have hfour:(decide (((spl 46 s).length:Int)=4)&&(spl 46 s).all numOk)=false:=by
     cases hf:(decide (((spl 46 s).length:Int)=4)&&(spl 46 s).all numOk)with
     |false=>rfl
     |true=>
      exfalso;simp only [zay,decide_eq_true_eq]at hf;have hl:=sum_le (spl 46 s) 3 fun x hx=>(num_parts x (List.all_eq_true.1 hf.2 x hx)).2.1
      have hoct:(spl 46 s).all octOk=true:=List.all_eq_true.2 fun x hx=>by rw [oct_num];exact List.all_eq_true.1 hf.2 x hx
      have:auk s=true:=by
       unfold auk;rw [hoct,decide_eq_true (show s.length<=15 by omega),decide_eq_true (show(spl 46 s).length=4 by omega)];rfl
      rw [hn]at this;cases this
    have h1:1<=s.length:=by
     cases s with
     |nil=>simp [spl,atp]at hall
     |cons _ _=>simp
    rw [hfour,if_neg (show¬(false=true)by decide)];unfold namedP;rw [hall,decide_eq_true h1,zaz,Bool.and_true];by_cases h2:255<(s.length:Int)
    ·rw [if_pos h2,decide_eq_false (show¬s.length<=255 by omega)];rfl
    ·rw [if_neg h2,decide_eq_true (show s.length<=255 by omega),zaz]
     cases(spl 46 s).any labW<;>rfl
theorem hostP_len(s:Str):(ase s).1.length<=60000002+s.length:=by
 have:=grpsP_len (sub s 1 ((s.length:Int)-1))
 unfold ase;split
 ·split
  ·simp only [zae,zag];omega
  ·simp
 ·split
  ·show s.length<=_;omega
  ·split
   ·simp [aap]
   ·simp
open Bool renaming and_eq_true -> zay, not_false -> zaK, not_true -> zav, true_and -> zaz
open Go.Lib renaming indexAny -> zaR
open List renaming drop_drop -> zbr, drop_length -> zbf, eq_nil_of_length_eq_zero -> zaH, length_append -> zae, length_cons -> zac, length_drop -> zao, length_nil -> zas, length_singleton -> zag
open Nat renaming le_refl -> zah
open Sum renaming elim_inl -> zau, elim_inr -> zbi
theorem step_eq(s:Str)(hs:s.length<=4194304)(k:Nat):arj FU s (k:Int)=some (if s.length<=k then(0,(s.length:Int),6)else if ale (at_ s (k:Int))=true then(0,(k:Int),5)else if at_ s (k:Int)=92 then(if s.length<=k+1 then(0,(s.length:Int),6)else if apj (at_ s ((k+1:Nat):Int))=true then(2,0,0)else(0,(k:Int),5))else(1,0,0)):=by
 unfold arj;by_cases h:s.length<=k
 ·rw [if_pos omg,if_pos h]
 ·rw [if_neg omg,if_neg h,gok,ref_control,zaa];cases hc:ale (at_ s (k:Int))with
  |true=>rw [cond_true,if_pos rfl]
  |false=>
   rw [cond_false,if_neg (show¬(false=true)by decide),gok];by_cases h9:at_ s (k:Int)=92
   ·rw [if_pos h9,if_pos h9,gok];by_cases h1:s.length<=k+1
    ·rw [if_pos omg,if_pos h1]
    ·rw [if_neg omg,if_neg h1,gok,aac omg,afw];have he:apj (at_ s ((k+1:Nat):Int))=(decide (32<=at_ s ((k+1:Nat):Int))&&decide (at_ s ((k+1:Nat):Int)<=126)):=rfl;by_cases ha:at_ s ((k+1:Nat):Int)<32
     ·rw [if_pos ha,zaa,cond_true,he,decide_eq_false (UInt8.not_le.2 ha)];rfl
     ·rw [if_neg ha,gok,aac omg,zaa,he,decide_eq_true (UInt8.not_lt.1 ha),zaz];by_cases hb:126<at_ s ((k+1:Nat):Int)
      ·rw [decide_eq_true hb,cond_true,decide_eq_false (UInt8.not_le.2 hb)];rfl
      ·rw [decide_eq_false hb,cond_false,decide_eq_true (UInt8.not_lt.1 hb)];rfl
   ·rw [if_neg h9,if_neg h9]
theorem ctl34:ale 34=false:=by decide
theorem ctl92:ale 92=false:=by decide
theorem rfUnq_lp(s:Str)(hs:s.length<=4194304)(n:Nat):∀(k fk:Nat) (acc:Str),s.length-k<=n->n<fk->k<=s.length->acc.length<=k->
  ahy FU s fk acc (k:Int)=some (unqL (s.drop k) k acc):=by
 have f6:¬((6:UInt8)=0):=by decide
 have f5:¬((5:UInt8)=0):=by decide
 have ff:¬(false=true):=by decide
 induction n with
 |zero=>
  intro k fk acc hn hf hk ha;obtain⟨fk,rfl⟩:=fkx fk;obtain rfl:k=s.length:=by omega
  have st:=step_eq s hs s.length;rw [if_pos (zah _)]at st;rw [aby,abj,st,zaa];simp only;rw [if_neg f6,zbf];rfl
 |succ n ih=>
  intro k fk acc hn hf hk ha;obtain⟨fk,rfl⟩:=fkx fk;have st:=step_eq s hs k;by_cases hl:k<s.length
  ·rw [if_neg (show¬s.length<=k by omega)]at st;rw [aok s k hl,unqL_cons];by_cases h1:at_ s (k:Int)=34
   ·rw [h1,ctl34,if_neg ff,if_neg (show¬((34:UInt8)=92)by decide)]at st;rw [aby,abj,st,zaa];simp only;rw [if_pos trivial,if_pos trivial,aac omg,zaa,decide_eq_true h1,cond_true,gok,if_pos h1];rfl
   ·rw [if_neg h1];by_cases h2:at_ s (k:Int)=92
    ·rw [h2,ctl92,if_neg ff,if_pos rfl]at st;rw [if_pos h2];by_cases h3:s.length<=k+1
     ·have e:s.drop (k+1)=[]:=(asz s (k+1)).2 h3;have e2:s.length=k+1:=by omega
      rw [if_pos h3]at st;rw [aby,abj,st,zaa];simp only;rw [if_neg f6,if_pos e,e2]
     ·rw [if_neg h3]at st;rw [if_neg (fun h=>h3 ((asz s (k+1)).1 h)),at_drop1];cases h4:apj (at_ s ((k+1:Nat):Int))with
      |false=>
       rw [h4,if_neg ff]at st;rw [aby,abj,st,zaa];simp only;rw [if_neg f5,if_neg ff]
      |true=>
       have ei:(k:Int)+2-1=((k+1:Nat):Int):=by omega
       have ej:(k:Int)+2=((k+2:Nat):Int):=by omega
       rw [h4,if_pos rfl]at st;rw [aby,abj,st,zaa];simp only;rw [if_pos trivial,if_neg (show¬((2:Int)=1)by decide),zaa,cond_false,gok,gok,ei,aac omg,gok,gok,ej,ih (k+2) fk _ omg omg omg (by simp;omega),zbr,if_pos trivial]
    ·rw [if_neg h2];cases h4:ale (at_ s (k:Int))with
     |true=>
      rw [h4,if_pos rfl]at st;rw [aby,abj,st,zaa];simp only;rw [if_neg f5,if_pos trivial]
     |false=>
      have ei:(k:Int)+1-1=(k:Int):=by omega
      rw [h4,if_neg ff,if_neg h2]at st;rw [aby,abj,st,zaa];simp only;rw [if_pos trivial,if_pos trivial,aac omg,zaa,decide_eq_false h1,cond_false,if_neg ff,gok,gok,ei,aac omg,gok,gok,afw,ih (k+1) fk _ omg omg omg (by simp;omega)]
  ·obtain rfl:k=s.length:=by omega
   rw [if_pos (zah _)]at st;rw [aby,abj,st,zaa];simp only;rw [if_neg f6,zbf];rfl
theorem rfUnquote_eq(s:Str)(hs:s.length<=4194304)(i:Int):akl FU s i=some (unqP8 s i):=by
 unfold akl arw unqP8;by_cases h1:i<0
 ·rw [if_pos h1,if_pos (show i<0\/(s.length:Int)<i from .inl h1)];rfl
 ·rw [if_neg h1,zaa];by_cases h2:(s.length:Int)<i
  ·rw [decide_eq_true h2,if_pos (show i<0\/(s.length:Int)<i from .inr h2)];rfl
  ·rw [decide_eq_false h2,cond_false,if_neg (show¬(i<0\/(s.length:Int)<i)by omega)];by_cases h3:i=(s.length:Int)
   ·rw [if_pos h3,if_pos (show i=(s.length:Int)\/at_ s i≠34 from .inl h3)];rfl
   ·rw [if_neg h3,gok,zaa];by_cases h4:at_ s i=34
    ·rw [decide_eq_true h4,zav,cond_false,if_neg (by simp [h3,h4]),zaa,if_pos rfl,gok];obtain⟨k,rfl⟩:∃k:Nat,i=(k:Int):=⟨i.toNat,by omega⟩
     exact rfUnq_lp s hs s.length (k+1) FU [] omg (by rw [afu];omega) omg (by simp)
    ·rw [decide_eq_false h4,if_pos (show i=(s.length:Int)\/at_ s i≠34 from .inr h4)];rfl
theorem unqL_bd(n:Nat):∀(l:Str) (k:Nat) (acc:Str),l.length<=n->(unqL l k acc).1.length<=acc.length+l.length/\((unqL l k acc).2.2=0->(k:Int)+1<=(unqL l k acc).2.1/\(unqL l k acc).2.1<=((k+l.length:Nat):Int)):=by
 induction n with
 |zero=>
  intro l k acc hl;obtain rfl:l=[]:=zaH omg;exact⟨by simp [unqL],fun h=>absurd h (show¬((6:UInt8)=0)by decide)⟩
 |succ n ih=>
  intro l k acc hl;cases l with
  |nil=>exact⟨by simp [unqL],fun h=>absurd h (show¬((6:UInt8)=0)by decide)⟩
  |cons c l=>
   simp only [zac]at hl;rw [unqL_cons];by_cases h1:c=34
   ·rw [if_pos h1];exact⟨by simp,fun _=>⟨by simp,by simp only [zac];omega⟩⟩
   ·rw [if_neg h1];by_cases h2:c=92
    ·rw [if_pos h2];by_cases h3:l=[]
     ·rw [if_pos h3];exact⟨by simp,fun h=>absurd h (show¬((6:UInt8)=0)by decide)⟩
     ·rw [if_neg h3];have hpos:0<l.length:=List.length_pos_iff.2 h3;cases h4:apj (at_ l 0)with
      |true=>
       rw [if_pos rfl]
       have:=ih (l.drop 1) (k+2) (acc++[at_ l 0]) (by rw [zao];omega)
       rw [zae,zag,zao]at this;exact⟨by simp only [zac];omega,fun h=>⟨by have:=(this.2 h).1;omega,by have:=(this.2 h).2;simp only [zac];omega⟩⟩
      |false=>rw [if_neg (by decide)];exact⟨by simp,fun h=>absurd h (show¬((5:UInt8)=0)by decide)⟩
    ·rw [if_neg h2];cases h4:ale c with
     |true=>rw [if_pos rfl];exact⟨by simp,fun h=>absurd h (show¬((5:UInt8)=0)by decide)⟩
     |false=>
      rw [if_neg (by decide)]
      have:=ih l (k+1) (acc++[c]) omg
      rw [zae,zag]at this;exact⟨by simp only [zac];omega,fun h=>⟨by have:=(this.2 h).1;omega,by have:=(this.2 h).2;simp only [zac];omega⟩⟩
theorem unqP8_bd(s:Str)(k:Nat)(h34:at_ s (k:Int)=34)(hk:k<s.length):(unqP8 s (k:Int)).1.length<=s.length/\((unqP8 s (k:Int)).2.2=0->(k:Int)+2<=(unqP8 s (k:Int)).2.1/\(unqP8 s (k:Int)).2.1<=(s.length:Int)):=by
 unfold unqP8;rw [if_neg omg,if_neg (by rintro(h|h);omega;exact h h34)];have e:((k:Int).toNat+1)=k+1:=by omega
 rw [e]
 have:=unqL_bd _ (s.drop (k+1)) (k+1) [] (zah _)
 rw [zao,zas]at this;exact⟨by omega,fun h=>⟨by have:=(this.2 h).1;omega,by have:=(this.2 h).2;omega⟩⟩
theorem att(s:Str)(hs:s.length<=4194304)(i:Int):acb FU (s,i)=some (s,((aan aaj s i:Nat):Int)):=by
 unfold acb;simp only;rw [blanks_eq s hs];rfl
theorem ended_eq(s:Str)(i:Int):afd FU (s,i)=some (decide ((s.length:Int)<=i)):=rfl
def seesB(s:Str)(k:Nat)(b:UInt8):Bool:=decide (k<s.length)&&(at_ s (k:Int)==b)
theorem sees_eq(s:Str)(k:Nat)(b:UInt8):acm FU (s,(k:Int)) b=some (seesB s k b):=by
 unfold acm seesB;rw [ended_eq,zaa];by_cases h:k<s.length
 ·rw [decide_eq_false (show¬(s.length:Int)<=(k:Int)by omega),zaK,cond_true,aac (by simp only;omega),decide_eq_true h];rfl
 ·rw [decide_eq_true (show(s.length:Int)<=(k:Int)by omega),decide_eq_false h];rfl
theorem tokEndP_eq(s:Str)(hs:s.length<=4194304)(i:Int):aew FU s i=some ((aan aaz s i:Nat):Int):=by
 unfold aew;rw [skipTok_eq s omg];rfl
theorem afv(p:UInt8->Bool)(s:Str)(k:Nat)(h:k<=s.length):k<=aan p s (k:Int):=by
 unfold aan;rw [apl k _ h];omega
theorem token2_eq(s:Str)(hs:s.length<=4194304)(k:Nat)(hk:k<=s.length):adq FU (s,(k:Int))=some (sub s (k:Int) ((aan aaz s (k:Int):Nat):Int),(s,((aan aaz s (k:Int):Nat):Int))):=by
 have h1:=afv aaz s k hk;have h2:=adg aaz s (k:Int);unfold adq;simp only;rw [tokEndP_eq s hs,zaa,aac omg]
theorem auf(s:Str)(a b:Nat)(h:b<=s.length)(hab:a<=b):sub s (a:Int) (b:Int)=[]↔b=a:=by
 have:=aoj s (a:Int) (b:Int)
 constructor
 ·intro h';rw [h']at this;simp at this;omega
 ·intro h';apply zaH;rw [this];omega
theorem span_not_ixb(c:UInt8)(l:Str):(if(0:Int)<=ixb (·==c) l then ixb (·==c) l else(l.length:Int))=(afr (fun b=> !(b==c)) l:Int):=by
 rcases ixb_spec (·==c) l with⟨h1,h2⟩|⟨h1,h2,h3⟩
 ·rw [if_neg omg,h2]
 ·rw [if_pos h1,h3]
theorem contains1(c:UInt8):(fun b=>([c]:Str).contains b)=(·==c):=by
 funext b
 simp [List.contains_cons]
 rfl
theorem until1_eq(s:Str)(hs:s.length<=4194304)(k:Nat)(hk:k<=s.length)(c:UInt8)(hc:c.toNat<128):agv FU s (k:Int) [c]=some ((k+afr (fun b=> !(b==c)) (s.drop k):Nat):Int):=by
 have e:((k:Nat):Int).toNat=k:=by omega
 have hd:(s.drop k).length=s.length-k:=zao;have h1:=span_not_ixb c (s.drop k);have hi:zaR (s.drop k) [c]=ixb (·==c) (s.drop k):=by rw [asw,contains1]
 have hsp:=ixb_spec (·==c) (s.drop k);unfold agv;rw [aac omg,e,aac ⟨by omega,by simp,by simpa using hc⟩,hi];by_cases h:(0:Int)<=ixb (·==c) (s.drop k)
 ·rw [if_pos h]at h1⊢;rw [aac (ado _ omg omg),h1];rfl
 ·rw [if_neg h]at h1⊢;congr 1
  omega
def valP(s:Str)(k:Nat):Str×Int×UInt8:=
 if seesB s k 34=true then unqP8 s (k:Int)
 else if seesB s k 91=true then
  (if(ase (sub s (k:Int) (min ((k+afr (fun b=> !(b==93)) (s.drop k):Nat)+1:Int) (s.length:Int)))).2=true then
   ((ase (sub s (k:Int) (min ((k+afr (fun b=> !(b==93)) (s.drop k):Nat)+1:Int) (s.length:Int)))).1,((k+afr (fun b=> !(b==93)) (s.drop k):Nat):Int)+1,0)else([],(k:Int),5))
 else if aan aaz s (k:Int)=k then([],(k:Int),5)else(sub s (k:Int) ((aan aaz s (k:Int):Nat):Int),((aan aaz s (k:Int):Nat):Int),0)
theorem seesB_at{s:Str}{k:Nat}{b:UInt8}(h:seesB s k b=true):k<s.length/\at_ s (k:Int)=b:=by
 unfold seesB at h;simp only [zay,decide_eq_true_eq,beq_iff_eq]at h;exact h
theorem valP_bd(s:Str)(hs:s.length<=4194304)(k:Nat)(hk:k<=s.length):(valP s k).1.length<=90000000/\((valP s k).2.2=0->(k:Int)+1<=(valP s k).2.1/\(valP s k).2.1<=(s.length:Int)+1):=by
 unfold valP;have h1:=afv aaz s k hk;have h2:=adg aaz s (k:Int);have hsp:=aqo (fun b=> !(b==93)) (s.drop k);rw [zao]at hsp;split
 ·rename_i h
  have:=unqP8_bd s k (seesB_at h).2 (seesB_at h).1
  exact⟨by omega,fun h=>⟨by have:=(this.2 h).1;omega,by have:=(this.2 h).2;omega⟩⟩
 ·split
  ·split
   ·have hh:=hostP_len (sub s (k:Int) (min ((k+afr (fun b=> !(b==93)) (s.drop k):Nat)+1:Int) (s.length:Int)));rw [aoj]at hh;exact⟨by simp only;omega,fun _=>⟨by simp only;omega,by simp only;omega⟩⟩
   ·exact⟨by simp,fun h=>absurd h (show¬((5:UInt8)=0)by decide)⟩
  ·split
   ·exact⟨by simp,fun h=>absurd h (show¬((5:UInt8)=0)by decide)⟩
   ·rename_i h;exact⟨by simp only [aoj];omega,fun _=>⟨by simp only;omega,by simp only;omega⟩⟩
theorem rfSees(s:Str)(k:Nat)(b:UInt8):(if(k:Int)<(s.length:Int)then(gd (0<=(k:Int)/\(k:Int)<(s.length:Int))<|some (decide ((at_ s (k:Int))=b)))else some false)=some (seesB s k b):=by
 unfold seesB;by_cases h:k<s.length
 ·rw [if_pos omg,aac omg,decide_eq_true h];rfl
 ·rw [if_neg omg,decide_eq_false h];rfl
theorem value_lp(s:Str)(hs:s.length<=4194304)(k:Nat)(hk:k<=s.length):ahj FU s FU (k:Int)=some ((k+afr (fun b=> !(b==93)) (s.drop k):Nat):Int):=by
 refine skip_gen (fun b=> !(b==93)) s (ahj FU s) ?_ ?_ ?_ (s.length-k) k FU omg (by rw [afu];omega)
 ·intro fk;rw [alh,aga,if_neg omg];rfl
 ·intro fk k hk h;have h':at_ s (k:Int)=93:=by simpa using h
  rw [alh,aga,if_pos omg,aac omg,zaa,decide_eq_true h',zav,cond_false]
 ·intro fk k hk h;have h':¬at_ s (k:Int)=93:=by simpa using h
  rw [alh,aga,if_pos omg,aac omg,zaa,decide_eq_false h',zaK,cond_true,gok]
theorem value_eq(s:Str)(hs:s.length<=4194304)(k:Nat)(hk:k<=s.length):apu FU s (k:Int)=some (valP s k):=by
 have h1:=afv aaz s k hk;have h2:=adg aaz s (k:Int);have hsp:=aqo (fun b=> !(b==93)) (s.drop k);rw [zao]at hsp;unfold apu valP;rw [rfSees,zaa,rfSees];cases h34:seesB s k 34 with
 |true=>rw [cond_true,if_pos rfl,rfUnquote_eq s hs];rfl
 |false=>
  rw [cond_false,zaa,if_neg (show¬(false=true)by decide)];cases h91:seesB s k 91 with
  |true=>
   rw [cond_true,value_lp s hs k hk,zaa,gok,aac omg,rfHost_eq _ (by rw [aoj];omega),zaa,if_pos rfl];cases hh:(ase (sub s (k:Int) (min ((k+afr (fun b=> !(b==93)) (s.drop k):Nat)+1:Int) (s.length:Int)))).2 with
   |false=>rfl
   |true=>rw [zav,cond_false,gok,zaa,zbi,if_pos rfl]
  |false=>
   rw [cond_false,zaa,zau,asv s omg,zaa,if_neg (show¬(false=true)by decide)];by_cases ht:aan aaz s (k:Int)=k
   ·rw [if_pos omg,if_pos ht]
   ·rw [if_neg omg,if_neg ht,aac omg]
theorem lower_nil(l:Str):aap l=[]↔l=[]:=by unfold aap;simp
theorem skip_add1(p:UInt8->Bool)(s:Str)(y:Nat):aan p s ((y:Int)+1)=aan p s ((y+1:Nat):Int):=rfl
def zPrm:Str×Str×Bool:=([],[],false)
def arn(s:Str)(b:Nat):PQ×Int×UInt8×(Str×Int):=
 if aan aaz s (b:Int)=b then(zPrm,(b:Int),5,(s,(b:Int)))
 else if seesB s (aan aaj s ((aan aaz s (b:Int):Nat):Int)) 61=false then((aap (sub s (b:Int) ((aan aaz s (b:Int):Nat):Int)),[],false),0,0,(s,((aan aaj s ((aan aaz s (b:Int):Nat):Int):Nat):Int)))
 else if(valP s (aan aaj s ((aan aaj s ((aan aaz s (b:Int):Nat):Int)+1:Nat):Int))).2.2=0 then((aap (sub s (b:Int) ((aan aaz s (b:Int):Nat):Int)),(valP s (aan aaj s ((aan aaj s ((aan aaz s (b:Int):Nat):Int)+1:Nat):Int))).1,true),0,0,(s,(valP s (aan aaj s ((aan aaj s ((aan aaz s (b:Int):Nat):Int)+1:Nat):Int))).2.1))
 else(zPrm,(valP s (aan aaj s ((aan aaj s ((aan aaz s (b:Int):Nat):Int)+1:Nat):Int))).2.1,(valP s (aan aaj s ((aan aaj s ((aan aaz s (b:Int):Nat):Int)+1:Nat):Int))).2.2,(s,((aan aaj s ((aan aaj s ((aan aaz s (b:Int):Nat):Int)+1:Nat):Int):Nat):Int)))
theorem listed_eq(s:Str)(hs:s.length<=4194304)(b:Nat)(hb:b<=s.length):aes FU (s,(b:Int))=some (arn s b):=by
 unfold aes arn;have ht1:=afv aaz s b hb;have ht2:=adg aaz s (b:Int);rw [token2_eq s hs b hb,zaa];simp only;generalize ht:aan aaz s (b:Int)=t at ht1 ht2⊢;have hy2:=adg aaj s (t:Int);have hy1:=afv aaj s t ht2;rw [atu _ (by rw [aoj];omega),zaa];by_cases hn:t=b
 ·have:aap (sub s (b:Int) (t:Int))=[]:=(lower_nil _).2 ((auf s b t ht2 ht1).2 hn)
  rw [if_pos this,if_pos hn,hn];rfl
 ·have:¬aap (sub s (b:Int) (t:Int))=[]:=fun h=>hn ((auf s b t ht2 ht1).1 ((lower_nil _).1 h))
  rw [if_neg this,if_neg hn,att s hs,zaa];generalize hy:aan aaj s (t:Int)=y at hy1 hy2⊢;rw [sees_eq,zaa];cases h61:seesB s y 61 with
  |false=>rw [zaK,cond_true,if_pos rfl]
  |true=>
   rw [zav,cond_false,if_neg (show¬(true=false)by decide),gok,att s hs,zaa,skip_add1];have hz2:=adg aaj s ((y+1:Nat):Int);generalize hz:aan aaj s ((y+1:Nat):Int)=z at hz2⊢;have hq1:=afv aaz s z hz2;have hq2:=adg aaz s (z:Int);have hsp:=aqo (fun b=> !(b==93)) (s.drop z);rw [zao]at hsp;rw [sees_eq,zaa];unfold valP;cases h34:seesB s z 34 with
   |true=>
    rw [cond_true,if_pos rfl,unquote_eq s hs,zaa];by_cases he:(unqP8 s (z:Int)).2.2=0
    ·rw [if_pos he,if_pos he]
    ·rw [if_neg he,if_neg he];rfl
   |false=>
    rw [cond_false,if_neg (show¬(false=true)by decide),sees_eq,zaa];cases h91:seesB s z 91 with
    |true=>
     rw [cond_true,if_pos rfl,until1_eq s hs z hz2 93 (by decide),zaa];simp only;rw [gok,aac omg,adHost_eq _ (by rw [aoj];omega),zaa];cases hh:(ase (sub s (z:Int) (min ((z+afr (fun b=> !(b==93)) (s.drop z):Nat)+1:Int) (s.length:Int)))).2 with
     |false=>rw [zaK,cond_true,if_neg (show¬(false=true)by decide),if_neg (show¬((5:UInt8)=0)by decide)];rfl
     |true=>rw [zav,cond_false,gok,if_pos rfl,if_pos rfl]
    |false=>
     rw [cond_false,if_neg (show¬(false=true)by decide),token2_eq s hs z hz2,zaa];simp only;by_cases hq:aan aaz s (z:Int)=z
     ·rw [if_pos ((auf s z _ hq2 hq1).2 hq),if_pos hq,if_neg (show¬((5:UInt8)=0)by decide),hq];rfl
     ·rw [if_neg (fun h=>hq ((auf s z _ hq2 hq1).1 h)),if_neg hq,if_pos rfl]
def consE(x:Str):(List Str⊕UInt8)->(List Str⊕UInt8)
 |.inl l=>.inl (x::l)
 |.inr e=>.inr e
def spS:Nat->Str->Str->List Str⊕UInt8
 |0,cur,[]=>.inl [alc cur]
 |_+1,_,[]=>.inr 6
 |0,cur,c::l=>if c=34 then spS 1 (cur++[c]) l else if c=60 then spS 3 (cur++[c]) l else if c=62 then .inr 5 else if c=44 then consE (alc cur) (spS 0 [] l)else spS 0 (cur++[c]) l
 |1,cur,c::l=>if c=34 then spS 0 (cur++[c]) l else if c=92 then spS 2 (cur++[c]) l else if ale c=true then .inr 5 else spS 1 (cur++[c]) l
 |2,cur,c::l=>if apj c=true then spS 1 (cur++[c]) l else .inr 5
 |_+3,cur,c::l=>if c=62 then spS 0 (cur++[c]) l else spS 3 (cur++[c]) l
theorem s0n(cur:Str):spS 0 cur []=.inl [alc cur]:=by rw [spS]
theorem s0c(cur:Str)(c:UInt8)(l:Str):spS 0 cur (c::l)=if c=34 then spS 1 (cur++[c]) l else if c=60 then spS 3 (cur++[c]) l else if c=62 then .inr 5 else if c=44 then consE (alc cur) (spS 0 [] l)else spS 0 (cur++[c]) l:=by rw [spS]
theorem s1c(cur:Str)(c:UInt8)(l:Str):spS 1 cur (c::l)=if c=34 then spS 0 (cur++[c]) l else if c=92 then spS 2 (cur++[c]) l else if ale c=true then .inr 5 else spS 1 (cur++[c]) l:=by rw [spS]
theorem s2c(cur:Str)(c:UInt8)(l:Str):spS 2 cur (c::l)=if apj c=true then spS 1 (cur++[c]) l else .inr 5:=by rw [spS]
theorem s3c(m:Nat)(cur:Str)(c:UInt8)(l:Str):spS (m+3) cur (c::l)=if c=62 then spS 0 (cur++[c]) l else spS 3 (cur++[c]) l:=by rw [spS]
theorem s3c'(cur:Str)(c:UInt8)(l:Str):spS 3 cur (c::l)=if c=62 then spS 0 (cur++[c]) l else spS 3 (cur++[c]) l:=s3c 0 cur c l
def lstP(v:Str):List Str×UInt8:=match spS 0 [] v with|.inr e=>([],e)|.inl l=>if l.any (fun x=>decide (x=[]))=true then([],5)else(l,0)
theorem consE_inl{x:Str}{r:List Str⊕UInt8}{l:List Str}(h:consE x r=.inl l):∃m,r=.inl m/\l=x::m:=by
 cases r with
 |inl m=>exact⟨m,rfl,(Sum.inl.inj h).symm⟩
 |inr e=>cases h
theorem sp_err:∀(l:Str) (m:Nat) (cur:Str) (e:UInt8),spS m cur l=.inr e->e≠0:=by
 intro l;induction l with
 |nil=>
  intro m cur e h;cases m with
  |zero=>cases h
  |succ m=>rw [<-Sum.inr.inj h];decide
 |cons c l ih=>
  intro m cur e h
  match m with
  |0=>
   rw [spS]at h;split at h
   ·exact ih _ _ _ h
   ·split at h
    ·exact ih _ _ _ h
    ·split at h
     ·rw [<-Sum.inr.inj h];decide
     ·split at h
      ·cases hr:spS 0 [] l with
       |inl q=>rw [hr]at h;cases h
       |inr e'=>rw [hr]at h;rw [<-Sum.inr.inj h];exact ih _ _ _ hr
      ·exact ih _ _ _ h
  |1=>
   rw [spS]at h;split at h
   ·exact ih _ _ _ h
   ·split at h
    ·exact ih _ _ _ h
    ·split at h
     ·rw [<-Sum.inr.inj h];decide
     ·exact ih _ _ _ h
  |2=>
   rw [spS]at h;split at h
   ·exact ih _ _ _ h
   ·rw [<-Sum.inr.inj h];decide
  |m+3=>
   rw [spS]at h;split at h
   ·exact ih _ _ _ h
   ·exact ih _ _ _ h
open Bool renaming false_or -> zbu
open Int renaming toNat -> zaf, toNat_natCast -> zaw
open List renaming append_assoc -> zbg, append_nil -> zaG, drop_drop -> zbr, drop_eq_nil_of_le -> zaN, eq_nil_of_length_eq_zero -> zaH, length -> zaT, length_append -> zae, length_cons -> zac, length_drop -> zao, length_map -> zaA, length_singleton -> zag, map_append -> zbe, map_cons -> zaC, take_succ_cons -> zbo
theorem trimR_eq(x:Str):Lib.trimRightS x [32,9]=rdw aaj x:=by
 unfold Lib.trimRightS rdw;rw [blank_set]
theorem span_take(p:UInt8->Bool):∀(l:Str) (n:Nat),afr p (l.take n)=min (afr p l) n
 |[],n=>by rw [List.take_nil];simp [afr]
 |c::l,0=>by rw [List.take_zero];simp [afr]
 |c::l,n+1=>by
  rw [zbo,afr,afr];split
  ·rw [span_take p l n];omega
  ·omega
theorem piece_eq2(s:Str)(hs:s.length<=4194304)(b e:Nat)(hbe:b<=e)(he:e<=s.length):∃k,anm FU s (b:Int) (e:Int)=some (k,alc (sub s (b:Int) (e:Int))):=by
 have hk:aan aaj s (b:Int)=b+afr aaj (s.drop b):=by unfold aan;rw [apl b s.length (by omega)]
 have hT:sub s (b:Int) (e:Int)=(s.drop b).take (e-b):=by unfold sub;rw [zaw,zaw]
 have hmin:min ((aan aaj s (b:Int):Nat):Int) (e:Int)=((b+afr aaj (sub s (b:Int) (e:Int)):Nat):Int):=by
  rw [hT,span_take,hk];omega
 have hsp:=aqo aaj (sub s (b:Int) (e:Int));have hl:(sub s (b:Int) (e:Int)).length=e-b:=by rw [aoj];omega
 have hsub:sub s ((b+afr aaj (sub s (b:Int) (e:Int)):Nat):Int) (e:Int)=(sub s (b:Int) (e:Int)).dropWhile aaj:=by
  rw [<-ate];generalize afr aaj (sub s (b:Int) (e:Int))=n;rw [hT];unfold sub;rw [zaw,zaw,List.drop_take,zbr];congr 1
  omega
 have hsl:=sub_le s ((b+afr aaj (sub s (b:Int) (e:Int)):Nat):Int) (e:Int);unfold anm;rw [blanks_eq s hs,zaa,hmin,aac (by omega),aac (by omega),aac (by decide),hsub,trimR_eq];exact⟨_,rfl⟩
theorem sub_ext3(s:Str)(b i m:Nat)(hb:b<=i):sub s (b:Int) ((i+m:Nat):Int)=sub s (b:Int) (i:Int)++(s.drop i).take m:=by
 unfold sub;rw [zaw,zaw,zaw,show i+m-b=(i-b)+m by omega,List.take_add,zbr,show b+(i-b)=i by omega]
theorem quote1(n:Nat):∀(l:Str) (k:Nat) (acc cur:Str),l.length<=n->
  ((unqL l k acc).2.2=0->spS 1 cur l=spS 0 (cur++l.take ((unqL l k acc).2.1.toNat-k)) (l.drop ((unqL l k acc).2.1.toNat-k)))/\(¬(unqL l k acc).2.2=0->spS 1 cur l=.inr (unqL l k acc).2.2):=by
 induction n with
 |zero=>
  intro l k acc cur h;obtain rfl:l=[]:=zaH (by omega);have e:unqL [] k acc=([],(k:Int),6):=by unfold unqL;rfl
  rw [e];exact⟨fun h=>absurd h (show¬(6:UInt8)=0 by decide),fun _=>rfl⟩
 |succ n ih=>
  intro l k acc cur h;cases l with
  |nil=>
   have e:unqL [] k acc=([],(k:Int),6):=by unfold unqL;rfl
   rw [e];exact⟨fun h=>absurd h (show¬(6:UInt8)=0 by decide),fun _=>rfl⟩
  |cons c l=>
   rw [zac]at h;rw [unqL_cons,s1c];by_cases h34:c=34
   ·rw [if_pos h34,if_pos h34];refine⟨fun _=> ?_,fun h=>absurd rfl h⟩
    dsimp only;rw [show zaf (((k+1:Nat):Int))-k=1 by omega];rfl
   ·rw [if_neg h34,if_neg h34];by_cases h92:c=92
    ·rw [if_pos h92,if_pos h92];cases l with
     |nil=>
      rw [if_pos rfl];exact⟨fun h=>absurd h (show¬(6:UInt8)=0 by decide),fun _=>rfl⟩
     |cons d r=>
      have ha:at_ (d::r) 0=d:=rfl;rw [if_neg (by simp),ha,s2c];cases he:apj d with
      |false=>
       rw [if_neg (by decide),if_neg (by decide)];exact⟨fun h=>absurd h (show¬(5:UInt8)=0 by decide),fun _=>rfl⟩
      |true=>
       rw [if_pos rfl,if_pos rfl,List.drop_one,List.tail_cons];rw [zac]at h;obtain⟨i1,i2⟩:=ih r (k+2) (acc++[d]) ((cur++[c])++[d]) (by omega);have hbd:=(unqL_bd r.length r (k+2) (acc++[d]) (zah _)).2;refine⟨fun h0=> ?_,i2⟩
       have hb:=hbd h0;rw [i1 h0];have e:(unqL r (k+2) (acc++[d])).2.1.toNat-k=((unqL r (k+2) (acc++[d])).2.1.toNat-(k+2))+2:=by omega
       rw [e,zbo,zbo,List.drop_succ_cons,List.drop_succ_cons];simp
    ·rw [if_neg h92,if_neg h92];cases hc:ale c with
     |true=>
      rw [if_pos rfl];exact⟨fun h=>absurd h (show¬(5:UInt8)=0 by decide),fun _=>rfl⟩
     |false=>
      obtain⟨i1,i2⟩:=ih l (k+1) (acc++[c]) (cur++[c]) (by omega);have hbd:=(unqL_bd l.length l (k+1) (acc++[c]) (zah _)).2;rw [if_neg (by decide)];refine⟨fun h0=> ?_,i2⟩
      have hb:=hbd h0;have e0:(if false=true then(.inr 5:List Str⊕UInt8)else spS 1 (cur++[c]) l)=spS 1 (cur++[c]) l:=if_neg (by decide);have e:(unqL l (k+1) (acc++[c])).2.1.toNat-k=((unqL l (k+1) (acc++[c])).2.1.toNat-(k+1))+1:=by omega
      rw [i1 h0,e,zbo,List.drop_succ_cons];simp
theorem ang1:∀(l cur:Str),(ixb (·==(62:UInt8)) l<0->spS 3 cur l=.inr 6)/\(¬ixb (·==(62:UInt8)) l<0->spS 3 cur l=spS 0 (cur++l.take ((ixb (·==(62:UInt8)) l).toNat+1)) (l.drop ((ixb (·==(62:UInt8)) l).toNat+1)))
 |[],cur=>⟨fun _=>rfl,fun h=>absurd (show(-1:Int)<0 by decide) h⟩
 |c::l,cur=>by
  obtain⟨i1,i2⟩:=ang1 l (cur++[c]);have hge:=ixb_ge (·==(62:UInt8)) l;rw [s3c'];by_cases h:c=62
  ·have e:ixb (·==(62:UInt8)) (c::l)=0:=by rw [ixb,h];rfl
   rw [e,if_pos h];exact⟨fun h=>absurd h (by decide),fun _=>rfl⟩
  ·have hb:(c==(62:UInt8))=false:=beq_eq_false_iff_ne.2 h;rw [if_neg h,ixb,hb,if_neg (by decide)];by_cases hn:ixb (·==(62:UInt8)) l= -1
   ·rw [if_pos hn];refine⟨fun _=>i1 (by omega),fun h=>absurd (show(-1:Int)<0 by decide) h⟩
   ·rw [if_neg hn];refine⟨fun h=>absurd h (by omega),fun _=> ?_⟩
    rw [i2 (by omega),show zaf (ixb (·==(62:UInt8)) l+1)+1=((ixb (·==(62:UInt8)) l).toNat+1)+1 by omega,zbo,List.drop_succ_cons];simp
theorem split_lp(s:Str)(hs:s.length<=4194303)(n:Nat):∀(i fk:Nat) (acc:List (Int×Str)) (b:Nat),s.length-i<=n->n<fk->b<=i->i<=s.length->acc.length<=i->
  ∃j,ahn FU s 44 fk acc (b:Int) (i:Int)=some j/\
   (match spS 0 (sub s (b:Int) (i:Int)) (s.drop i)with
   |.inl l=>∃(acc':List (Int×Str)) (b':Nat),j=.inl (acc',(b':Int))/\b'<=s.length/\acc'.length<=s.length/\acc'.map (·.2)++[alc (sub s (b':Int) (s.length:Int))]=acc.map (·.2)++l
   |.inr e=>∃q a,j=.inr (q,a,e)):=by
 induction n with
 |zero=>
  intro i fk acc b hi hf hb hil ha;obtain⟨fk,rfl⟩:=fkx fk;obtain rfl:i=s.length:=by omega
  rw [alm,agl,if_neg (by omega),zaN (zah _),s0n];exact⟨_,rfl,acc,b,rfl,by omega,ha,rfl⟩
 |succ n ih=>
  intro i fk acc b hi hf hb hil ha;obtain⟨fk,rfl⟩:=fkx fk;by_cases hlt:i<s.length
  ·have hd:=aok s i hlt;have hsn:sub s (b:Int) ((i+1:Nat):Int)=sub s (b:Int) (i:Int)++[at_ s (i:Int)]:=by
    rw [sub_ext3 s b i 1 hb,hd];rfl
   rw [alm,agl,if_pos (by omega),aac (by omega),hd,s0c];by_cases h34:at_ s (i:Int)=34
   ·rw [if_pos h34,if_pos h34,unquote_eq s (by omega),zaa];have hu:unqP8 s (i:Int)=unqL (s.drop (i+1)) (i+1) []:=by
     unfold unqP8;rw [if_neg (by omega),if_neg (by rintro(h|h);omega;exact h h34),zaw]
    have hq:=quote1 (s.drop (i+1)).length (s.drop (i+1)) (i+1) [] (sub s (b:Int) (i:Int)++[at_ s (i:Int)]) (zah _);have hbd:=(unqL_bd (s.drop (i+1)).length (s.drop (i+1)) (i+1) [] (zah _)).2;have hdl:(s.drop (i+1)).length=s.length-(i+1):=zao;rw [hu];generalize unqL (s.drop (i+1)) (i+1) []=U at hq hbd⊢;by_cases h0:U.2.2=0
    ·obtain⟨b1,b2⟩:=hbd h0;obtain⟨o,ho⟩:∃o:Nat,U.2.1=(o:Int):=⟨U.2.1.toNat,by omega⟩
     rw [ho]at b1 b2;have e1:=hq.1 h0;rw [ho,zaw,<-hsn,<-sub_ext3 s b (i+1) (o-(i+1)) (by omega),zbr,show i+1+(o-(i+1))=o by omega]at e1;rw [if_pos h0,ho,<-hsn,e1];exact ih o fk acc b (by omega) (by omega) (by omega) (by omega) (by omega)
    ·rw [if_neg h0,hq.2 h0];exact⟨_,rfl,_,_,rfl⟩
   ·rw [if_neg h34,if_neg h34];by_cases h60:at_ s (i:Int)=60
    ·have hx:spS 3 (sub s (b:Int) (i:Int)) (s.drop i)=spS 3 (sub s (b:Int) (i:Int)++[at_ s (i:Int)]) (s.drop (i+1)):=by
      rw [hd,s3c',if_neg (by rw [h60];decide)]
     obtain⟨a1,a2⟩:=ang1 (s.drop i) (sub s (b:Int) (i:Int));have hdl:(s.drop i).length=s.length-i:=zao;have hsp:=ixb_spec (·==(62:UInt8)) (s.drop i);rw [if_pos h60,if_pos h60,aac (by omega),zaw,<-hx];generalize ixb (·==(62:UInt8)) (s.drop i)=x at a1 a2 hsp⊢;by_cases hx0:x<0
     ·rw [if_pos hx0,a1 hx0];exact⟨_,rfl,_,_,rfl⟩
     ·rw [if_neg hx0,a2 hx0,<-sub_ext3 s b i (x.toNat+1) hb,zbr,aac (ado _ (by omega) (by omega)),aac (ado _ (by omega) (by omega)),show(i:Int)+(x+1)=((i+(x.toNat+1):Nat):Int)by omega];exact ih (i+(x.toNat+1)) fk acc b (by omega) (by omega) (by omega) (by omega) (by omega)
    ·rw [if_neg h60,if_neg h60];by_cases h62:at_ s (i:Int)=62
     ·rw [if_pos h62,if_pos h62];exact⟨_,rfl,_,_,rfl⟩
     ·rw [if_neg h62,if_neg h62];by_cases h44:at_ s (i:Int)=44
      ·obtain⟨k,hp⟩:=piece_eq2 s (by omega) b i hb hil;rw [if_pos h44,if_pos h44,hp,zaa,aac (by rw [zag];omega),aac (ado _ (by omega) (by omega)),afw];obtain⟨j,g1,g2⟩:=ih (i+1) fk (acc++[(k,alc (sub s (b:Int) (i:Int)))]) (i+1) (by omega) (by omega) (zah _) hlt (by rw [zae,zag];omega);refine⟨j,g1, ?_⟩
       rw [atn]at g2;cases hr:spS 0 [] (s.drop (i+1))with
       |inr e=>rw [hr]at g2;exact g2
       |inl l=>
        rw [hr]at g2;obtain⟨acc',b',q1,q2,q3,q4⟩:=g2;refine⟨acc',b',q1,q2,q3, ?_⟩
        rw [q4,zbe,List.map_singleton,zbg];rfl
      ·rw [if_neg h44,if_neg h44,aac (ado _ (by omega) (by omega)),afw,<-hsn];exact ih (i+1) fk acc b (by omega) (by omega) (by omega) hlt (by omega)
  ·obtain rfl:i=s.length:=by omega
   rw [alm,agl,if_neg (by omega),zaN (zah _),s0n];exact⟨_,rfl,acc,b,rfl,by omega,ha,rfl⟩
theorem split_eq2(s:Str)(hs:s.length<=4194303):∃q a,aqc FU s 44=some (q,a,(match spS 0 [] s with|.inl _=>0|.inr e=>e))/\(∀l,spS 0 [] s=.inl l->q.map (·.2)=l/\q.length<=s.length+1):=by
 obtain⟨j,h1,h2⟩:=split_lp s hs s.length 0 FU [] 0 (by omega) (by rw [afu];omega) (zah _) (Nat.zero_le _) (zah _);have h1':ahn FU s 44 FU [] (0:Int) (0:Int)=some j:=h1;rw [atn,List.drop_zero]at h2;unfold aqc;rw [char_blank,zaa];have e:(bif aaj 44 then some true else(if(44:UInt8)=(34:UInt8)then some true else(if(44:UInt8)=(60:UInt8)then some true else some (decide ((44:UInt8)=(62:UInt8))))))=some false:=by decide
 rw [e,zaa,cond_false,h1',zaa];cases hr:spS 0 [] s with
 |inr e=>
  rw [hr]at h2;obtain⟨q,a,rfl⟩:=h2;rw [zbi];exact⟨q,a,rfl,fun l h=>by cases h⟩
 |inl l=>
  rw [hr]at h2;obtain⟨acc',b',rfl,q2,q3,q4⟩:=h2;obtain⟨k,hp⟩:=piece_eq2 s (by omega) b' s.length q2 (zah _);rw [zau];dsimp only;rw [hp,zaa,aac (by rw [zag];omega)];refine⟨_,_,rfl,fun l' h=> ?_⟩
  have:=Sum.inl.inj h
  subst this;rw [zbe,List.map_singleton,q4];exact⟨rfl,by rw [zae,zag];omega⟩
theorem hlist_lp(y1:((List (Int×Str))×Int×UInt8))(hy:y1.1.length<=4194304)(q:List (Int×Str)):∀(p:List (Int×Str)) (fk:Nat),y1.1=p++q->q.length<fk->
  aho FU y1 fk (p.map (·.2)) (p.length:Int)=some (if(q.map (·.2)).any (fun x=>decide (x=[]))=true then .inr ([],5)else .inl (y1.1.map (·.2))):=by
 induction q with
 |nil=>
  intro p fk h hf;obtain⟨fk,rfl⟩:=fkx fk;rw [zaG]at h;rw [aot,ajc,if_neg (by rw [h];omega),h];rfl
 |cons a q ih=>
  intro p fk h hf;obtain⟨fk,rfl⟩:=fkx fk;have hl:=congrArg zaT h;simp only [zae,zac]at hl hf;have hb:(0:Int)<=(p.length:Int)/\(p.length:Int)<(y1.1.length:Int):=by omega
  have he:el y1.1 (p.length:Int)=a:=by rw [h];simp [el]
  rw [aot,ajc,if_pos hb.2,aac hb,aac hb,he,zaC,List.any_cons];by_cases h0:a.2=[]
  ·rw [if_pos h0,decide_eq_true h0,Bool.true_or,if_pos rfl]
  ·rw [if_neg h0,decide_eq_false h0,zbu,aac (by simp only [zaA,zag];omega),aac (ado _ (by omega) (by omega))]
   have:=ih (p++[a]) fk (by rw [h];simp) (by omega)
   rw [zbe,List.map_singleton]at this;rw [show((p.length:Int)+1)=((p++[a]).length:Int)by simp];exact this
theorem list_eq2(v:Str)(hv:v.length<=4194303):aqe FU v=some (lstP v):=by
 obtain⟨q,a,e1,e2⟩:=split_eq2 v hv;unfold aqe lstP;rw [e1,zaa];have hne:=sp_err v 0 [];cases hr:spS 0 [] v with
 |inr e=>
  dsimp only;rw [if_neg (hne e hr)]
 |inl l=>
  obtain⟨h1,h2⟩:=e2 l hr;dsimp only
  have:=hlist_lp (q,a,0) (by dsimp only;omega) q [] FU rfl (by rw [afu];omega)
  have this':aho FU (q,a,0) FU [] (0:Int)=_:=this;rw [if_pos rfl,this',zaa,h1];by_cases h0:l.any (fun x=>decide (x=[]))=true
  ·rw [if_pos h0,if_pos h0,zbi]
  ·rw [if_neg h0,if_neg h0,zau]
open Bool renaming false_and -> zbn, true_and -> zaz
open List renaming append_nil -> zaG, length -> zaT, length_append -> zae, length_cons -> zac, length_singleton -> zag, replicate -> zat
abbrev HH:=Str×Str
abbrev MM:=Str×Str×Int×Str×List HH×List UInt8
def hsz(l:List HH):Nat:=(l.map fun z=>z.1.length+z.2.length).sum
def Sm(l:List HH):Prop:=l.length<=4194304/\∀h∈l,h.1.length<=4194303/\h.2.length<=4194303
def pN(c:UInt8)(s:Str)(h:HH):Bool:=decide (c=0)&&decide ((adt h.1).2=0)&&decide ((adt h.1).1=s)
def nmP(name:Str):HH->Bool:=pN (adt name).2 (adt name).1
theorem named_eq(s:Str)(hs:s.length<=4194303):akp FU s=some ((adt s).2,(adt s).1):=by
 unfold akp;rw [canon_eq s (by omega),zaa]
theorem named1_eq(h:HH)(c:UInt8)(s:Str)(hs:h.1.length<=4194303):ahm FU h c s=some (pN c s h):=by
 unfold ahm pN;rw [canon_eq h.1 (by omega),zaa];by_cases h1:c=0
 ·rw [if_pos h1,decide_eq_true h1,zaz];by_cases h2:(adt h.1).2=0
  ·rw [if_pos h2,decide_eq_true h2,zaz,zaa]
  ·rw [if_neg h2,decide_eq_false h2,zbn,zaa]
 ·rw [if_neg h1,decide_eq_false h1,zbn,zbn,zaa]
def ixP(p:HH->Bool):List HH->Int
 |[]=> -1
 |h::l=>if p h=true then 0 else if ixP p l= -1 then-1 else ixP p l+1
theorem ixP_ge(p:HH->Bool):∀l,-1<=ixP p l
 |[]=>Int.le_refl _
 |h::l=>by have:=ixP_ge p l;unfold ixP;split<;>(try split)<;>omega
theorem ixP_lt(p:HH->Bool):∀l,ixP p l<(l.length:Int)
 |[]=>by unfold ixP;simp
 |h::l=>by have:=ixP_lt p l;rw [zac];unfold ixP;split<;>(try split)<;>omega
theorem ixP_some(p:HH->Bool):∀l,ixP p l≠-1->∃a x b,l=a++x::b/\(∀h∈a,p h=false)/\p x=true/\ixP p l=(a.length:Int)
 |[],h=>absurd rfl h
 |c::l,h=>by
  by_cases hc:p c=true
  ·exact⟨[],c,l,rfl,fun h hm=>(List.not_mem_nil hm).elim,hc,(show(if p c=true then(0:Int)else _)=_ from if_pos hc)⟩
  ·by_cases h1:ixP p l= -1
   ·exfalso;apply h;unfold ixP;rw [if_neg hc,if_pos h1]
   ·obtain⟨a,x,b,e1,e2,e3,e4⟩:=ixP_some p l h1;refine⟨c::a,x,b,by rw [e1];rfl,fun h hm=> ?_,e3, ?_⟩
    ·rcases List.mem_cons.1 hm with rfl|hm
     ·simpa using hc
     ·exact e2 h hm
    ·unfold ixP;rw [if_neg hc,if_neg h1,e4,zac];omega
theorem index_lp(c:UInt8)(s:Str)(l:List HH)(hl:Sm l)(q:List HH):∀(p:List HH) (fk:Nat),l=p++q->q.length<fk->
  aal FU l c s fk (p.length:Int)=some (if ixP (pN c s) q= -1 then .inl ()else .inr ((p.length:Int)+ixP (pN c s) q)):=by
 induction q with
 |nil=>
  intro p fk h hf;obtain⟨fk,rfl⟩:=fkx fk;rw [zaG]at h;rw [acf,aas,if_neg (by rw [h];omega)];rfl
 |cons a q ih=>
  intro p fk h hf;obtain⟨fk,rfl⟩:=fkx fk;have hll:=congrArg zaT h;simp only [zae,zac]at hll hf;have hln:=hl.1;have hb:(0:Int)<=(p.length:Int)/\(p.length:Int)<(l.length:Int):=by omega
  have he:el l (p.length:Int)=a:=by rw [h];simp [el]
  have ha:=(hl.2 a (by rw [h];simp)).1;rw [acf,aas,if_pos hb.2,aac hb,aac hb,he,named1_eq a c s ha,zaa,ixP];by_cases h0:pN c s a=true
  ·rw [h0,if_pos rfl,if_neg (by decide)];simp
  ·rw [if_neg h0,show pN c s a=false by simpa using h0,aac (ado _ (by omega) (by omega))]
   have:=ih (p++[a]) fk (by rw [h];simp) (by omega)
   rw [show((p.length:Int)+1)=((p++[a]).length:Int)by simp];rw [cond_false,this];have hg:=ixP_ge (pN c s) q;by_cases h1:ixP (pN c s) q= -1
   ·rw [if_pos h1,if_pos h1,if_pos rfl]
   ·rw [if_neg h1,if_neg h1,if_neg (by omega),zae,zag];congr 2
    omega
theorem index_eq(c:UInt8)(s:Str)(l:List HH)(hl:Sm l):aay FU l c s=some (ixP (pN c s) l):=by
 unfold aay
 have:=index_lp c s l hl l [] FU rfl (by have:=hl.1;rw [afu];omega)
 have this':aal FU l c s FU (0:Int)=_:=this;rw [this',zaa];by_cases h:ixP (pN c s) l= -1
 ·rw [if_pos h,zau,h]
 ·rw [if_neg h,zbi];simp
theorem copied_eq(m:MM)(h1:m.2.2.2.2.1.length<=4194304)(h2:m.2.2.2.2.2.length<=4194304):alx FU m=some m:=by
 unfold alx;have hg:(0:Int)<=(m.2.2.2.2.1.length:Int)/\(32:Int)*(m.2.2.2.2.1.length:Int)<=281474976710656:=by omega
 have e:= @aac MM (0<=(m.2.2.2.2.1.length:Int)/\(32:Int)*(m.2.2.2.2.1.length:Int)<=281474976710656) (dMk 32 (m.2.2.2.2.1.length:Int)) (gd ((0+m.2.2.2.2.2.length)*1<=140737488355328)<|some (m.1,m.2.1,m.2.2.1,m.2.2.2.1,cpy (zat (zaf (m.2.2.2.2.1.length:Int)) (([]:Str),([]:Str))) m.2.2.2.2.1,m.2.2.2.2.2)) hg;refine Eq.trans e ?_;rw [aac (by omega),cpy_full _ _ (by simp)]
def atr(v:Str):List Str:=if(lstP v).2=0 then(lstP v).1 else [v]
theorem elem_eq(v:Str)(hv:v.length<=4194303):agj FU v=some (atr v):=by
 unfold agj atr;rw [list_eq2 v hv,zaa];by_cases h:(lstP v).2=0
 ·rw [if_pos h,if_pos h]
 ·rw [if_neg h,if_neg h]
open Bool renaming not_false -> zaK, not_true -> zav
open Go.Lib renaming join -> zax
open List renaming append_assoc -> zbg, append_nil -> zaG, drop -> zak, flatMap_cons -> zaJ, length -> zaT, length_append -> zae, length_cons -> zac, length_nil -> zas, length_singleton -> zag, map_cons -> zaC, nil_append -> zaO
theorem trim_len3(x:Str):(alc x).length<=x.length:=by
 unfold alc rdw;rw [List.length_reverse];have h1:=(List.dropWhile_suffix (p:=aaj) (l:=(x.dropWhile aaj).reverse)).length_le;have h2:=(List.dropWhile_suffix (p:=aaj) (l:=x)).length_le;rw [List.length_reverse]at h1;omega
def szL(l:List Str):Nat:=(l.map zaT).sum+l.length
theorem sp_len:∀(s:Str) (m:Nat) (cur:Str) (l:List Str),spS m cur s=.inl l->szL l<=cur.length+s.length+1
 |[],0,cur,l,h=>by
  rw [spS]at h
  have:=Sum.inl.inj h
  subst this
  have:=trim_len3 cur
  simp [szL];omega
 |[],m+1,cur,l,h=>by cases h
 |c::s,0,cur,l,h=>by
  rw [spS]at h;split at h
  ·have:=sp_len s _ _ l h;simp at this⊢;omega
  ·split at h
   ·have:=sp_len s _ _ l h;simp at this⊢;omega
   ·split at h
    ·cases h
    ·split at h
     ·obtain⟨m,h1,rfl⟩:=consE_inl h
      have:=sp_len s _ _ m h1
      have:=trim_len3 cur
      simp [szL]at*;omega
     ·have:=sp_len s _ _ l h;simp at this⊢;omega
 |c::s,1,cur,l,h=>by
  rw [spS]at h;split at h
  ·have:=sp_len s _ _ l h;simp at this⊢;omega
  ·split at h
   ·have:=sp_len s _ _ l h;simp at this⊢;omega
   ·split at h
    ·cases h
    ·have:=sp_len s _ _ l h;simp at this⊢;omega
 |c::s,2,cur,l,h=>by
  rw [spS]at h;split at h
  ·have:=sp_len s _ _ l h;simp at this⊢;omega
  ·cases h
 |c::s,m+3,cur,l,h=>by
  rw [spS]at h;split at h
  ·have:=sp_len s _ _ l h;simp at this⊢;omega
  ·have:=sp_len s _ _ l h;simp at this⊢;omega
theorem lst_len(v:Str)(h:(lstP v).2=0):szL (lstP v).1<=v.length+1:=by
 unfold lstP at h⊢;cases hs:spS 0 [] v with
 |inr e=>
  rw [hs]at h;simp only at h;exact absurd h (sp_err v 0 [] e hs)
 |inl l=>
  rw [hs]at h;simp only at h⊢;by_cases ha:l.any (fun x=>decide (x=[]))=true
  ·rw [if_pos ha]at h;exact absurd h (show¬(5:UInt8)=0 by decide)
  ·rw [if_neg ha];simpa using sp_len v 0 [] l hs
theorem elemP_len(v:Str):szL (atr v)<=v.length+1:=by
 unfold atr;split
 ·exact lst_len v (by assumption)
 ·simp [szL]
theorem join_len3(s:Str):∀l:List Str,(zax l s).length<=(l.map zaT).sum+l.length*s.length
 |[]=>by simp [zax,List.intercalate]
 |[a]=>by simp [zax,List.intercalate]
 |a::b::l=>by
  have h:zax (a::b::l) s=a++(s++zax (b::l) s):=by simp [zax,List.intercalate,List.intersperse]
  have:=join_len3 s (b::l)
  rw [h];simp only [zae,zaC,List.sum_cons,zac,Nat.succ_mul]at this⊢;omega
theorem szL_drop(l:List Str):szL (l.drop 1)<=szL l:=by
 cases l with
 |nil=>exact zah _
 |cons a l=>simp [szL];omega
def mnyQ(name:Str):Bool:=if(adt name).2=0 then manyP (adt name).1 else false
def dfP(l:List HH)(name:Str):List HH:=
 if ixP (nmP name) l<0 then l
 else if mnyQ name=true/\1<(atr (el l (ixP (nmP name) l)).2).length then l.set (ixP (nmP name) l).toNat ((el l (ixP (nmP name) l)).1,zax ((atr (el l (ixP (nmP name) l)).2).drop 1) [44,32])
 else delL l (ixP (nmP name) l) (ixP (nmP name) l+1)
theorem mdf_eq(m:MM)(name:Str)(hl:Sm m.2.2.2.2.1)(hb:m.2.2.2.2.2.length<=4194304)(hn:name.length<=4194303):
  ahz FU m name=some (m.1,m.2.1,m.2.2.1,m.2.2.2.1,dfP m.2.2.2.2.1 name,m.2.2.2.2.2):=by
 unfold ahz dfP;have hg:=ixP_ge (nmP name) m.2.2.2.2.1;have hlt:=ixP_lt (nmP name) m.2.2.2.2.1;have hln:=hl.1;rw [copied_eq m hl.1 hb,zaa,named_eq name hn,zaa,index_eq _ _ _ hl,zaa];have e0:pN (adt name).2 (adt name).1=nmP name:=rfl;dsimp only;rw [e0];by_cases h:ixP (nmP name) m.2.2.2.2.1<0
 ·rw [if_pos h,if_pos h]
 ·rw [if_neg h,if_neg h,manyLaw_eq name (by omega),zaa];have hq:(if(adt name).2=0 then manyP (adt name).1 else false)=mnyQ name:=rfl;rw [hq];have hm:el m.2.2.2.2.1 (ixP (nmP name) m.2.2.2.2.1)∈m.2.2.2.2.1:=by
   obtain⟨k,hk⟩:=Int.eq_ofNat_of_zero_le (a:=ixP (nmP name) m.2.2.2.2.1) (by omega);rw [hk];exact el_mem' _ k (by omega)
  generalize ixP (nmP name) m.2.2.2.2.1=i at*;have hv:=(hl.2 _ hm).2;have hdel:(gd (acd (i+(1:Int)))<|(gd (0<=i/\i<=(i+(1:Int))/\(i+(1:Int))<=(m.2.2.2.2.1.length:Int))<|some (m.1,m.2.1,m.2.2.1,m.2.2.2.1,delL m.2.2.2.2.1 i (i+(1:Int)),m.2.2.2.2.2)))=some (m.1,m.2.1,m.2.2.1,m.2.2.2.1,delL m.2.2.2.2.1 i (i+(1:Int)),m.2.2.2.2.2):=by
   rw [aac (ado _ (by omega) (by omega)),aac (by omega)]
  cases hy:mnyQ name with
  |false=>
   rw [cond_false,zaa,zau,hdel,if_neg (fun h=>Bool.false_ne_true h.1)]
  |true=>
   have hz:=elemP_len (el m.2.2.2.2.1 i).2;have hz2:=szL_drop (atr (el m.2.2.2.2.1 i).2);have hj:=join_len3 [44,32] ((atr (el m.2.2.2.2.1 i).2).drop 1);rw [cond_true,aac (by omega),aac (by omega),elem_eq _ hv,zaa];by_cases h1:1<(atr (el m.2.2.2.2.1 i).2).length
   ·have hJ:(zak (zaf (1:Int)) (atr (el m.2.2.2.2.1 i).2)).length<=1000000000/\(zax (zak (zaf (1:Int)) (atr (el m.2.2.2.2.1 i).2)) ([44,32]:Str)).length<=100000000000:=by
     show((atr (el m.2.2.2.2.1 i).2).drop 1).length<=1000000000/\(zax ((atr (el m.2.2.2.2.1 i).2).drop 1) ([44,32]:Str)).length<=100000000000
     unfold szL at hz hz2;simp only [zac,zas]at hj;exact⟨by omega,by omega⟩
    rw [if_pos (by omega),aac (by omega),aac hJ,aac (by omega),aac (by omega),zaa,zbi,if_pos ⟨rfl,h1⟩];rfl
   ·rw [if_neg (by omega),zaa,zau,hdel,if_neg (fun h=>h1 h.2)]
def vlsP(name:Str)(h:HH):List Str:=if nmP name h=true then(if mnyQ name=true then atr h.2 else [h.2])else []
def asn(l:List HH)(name:Str):List Str:=l.flatMap (vlsP name)
theorem vls_len(name:Str)(h:HH):szL (vlsP name h)<=h.2.length+1:=by
 unfold vlsP;split
 ·split
  ·exact elemP_len _
  ·simp [szL]
 ·simp [szL]
theorem all_lp(m:MM)(name:Str)(hl:Sm m.2.2.2.2.1)(y:Bool)(hy:y=mnyQ name)(hz:hsz m.2.2.2.2.1<=4194303)(q:List HH):∀(p:List HH) (fk:Nat) (acc:List Str),m.2.2.2.2.1=p++q->q.length<fk->acc.length+hsz q+q.length<=100000000->
  afj FU m ((adt name).2,(adt name).1) y fk acc (p.length:Int)=some (acc++q.flatMap (vlsP name)):=by
 subst hy;induction q with
 |nil=>
  intro p fk acc h hf ha;obtain⟨fk,rfl⟩:=fkx fk;rw [zaG]at h;rw [aor,aix,if_neg (by rw [h];omega)];simp
 |cons a q ih=>
  intro p fk acc h hf ha;obtain⟨fk,rfl⟩:=fkx fk;have hll:=congrArg zaT h;simp only [zae,zac]at hll hf;have hln:=hl.1;have hb:(0:Int)<=(p.length:Int)/\(p.length:Int)<(m.2.2.2.2.1.length:Int):=by omega
  have he:el m.2.2.2.2.1 (p.length:Int)=a:=by rw [h];simp [el]
  have hsa:=hl.2 a (by rw [h];simp);have hq:hsz (a::q)=a.1.length+a.2.length+hsz q:=by unfold hsz;rw [zaC,List.sum_cons]
  rw [hq,zac]at ha;have hv:=vls_len name a;have hvl:(vlsP name a).length<=a.2.length+1:=by unfold szL at hv;omega
  have e0:pN (adt name).2 (adt name).1 a=nmP name a:=rfl;have nx:∀acc',acc'=acc++vlsP name a->(gd (acd ((p.length:Int)+(1:Int)))<|afj FU m ((adt name).2,(adt name).1) (mnyQ name) fk acc' ((p.length:Int)+1))=some (acc++(a::q).flatMap (vlsP name)):=by
   intro acc' e
   have:=ih (p++[a]) fk acc' (by rw [h];simp) (by omega) (by rw [e,zae];omega)
   rw [aac (ado _ (by omega) (by omega)),show((p.length:Int)+1)=((p++[a]).length:Int)by simp,this,e,zaJ,zbg]
  rw [aor,aix,if_pos hb.2,aac hb,aac hb,he,named1_eq a _ _ hsa.1,zaa,e0];by_cases h0:nmP name a=true
  ·rw [h0,zav,cond_false];cases hy:mnyQ name with
   |true=>
    have e1:vlsP name a=atr a.2:=by unfold vlsP;rw [if_pos h0,if_pos hy]
    rw [hy]at nx;rw [e1]at hvl;rw [cond_true,elem_eq _ hsa.2,zaa,aac (by omega)];exact nx _ (by rw [e1])
   |false=>
    have e1:vlsP name a=[a.2]:=by unfold vlsP;rw [if_pos h0,if_neg (by rw [hy];decide)]
    rw [hy]at nx;rw [cond_false,aac (by rw [zag];omega)];exact nx _ (by rw [e1])
  ·have h0':nmP name a=false:=by simpa using h0
   rw [h0',zaK,cond_true];exact nx acc (by unfold vlsP;rw [if_neg h0,zaG])
theorem all_eq(m:MM)(name:Str)(hl:Sm m.2.2.2.2.1)(hz:hsz m.2.2.2.2.1<=4194303)(hn:name.length<=4194303):anl FU m name=some (asn m.2.2.2.2.1 name):=by
 unfold anl asn;have hln:=hl.1
 have:=all_lp m name hl (mnyQ name) rfl hz m.2.2.2.2.1 [] FU [] rfl (by rw [afu];omega) (by simp;omega)
 have this':afj FU m ((adt name).2,(adt name).1) (mnyQ name) FU [] (0:Int)=_:=this;rw [named_eq name hn,zaa,manyLaw_eq name (by omega),zaa];have hq:(if(adt name).2=0 then manyP (adt name).1 else false)=mnyQ name:=rfl;rw [hq,this',zaa,zaO]
open Bool renaming and_eq_true -> zay
open Int renaming toNat_natCast -> zaw
open List renaming length_cons -> zac, length_nil -> zas, length_singleton -> zag, nil_append -> zaO
def rdf(i:Int)(g:HH->List HH):Int->List HH->List HH
 |_,[]=>[]
 |k,x::l=>(if k=i then g x else [x])++rdf i g (k+1) l
theorem rdf_past(i:Int)(g:HH->List HH):∀(l:List HH) (k:Int),i<k->rdf i g k l=l
 |[],_,_=>rfl
 |x::l,k,h=>by rw [rdf,if_neg (by omega),rdf_past i g l (k+1) (by omega)];rfl
theorem rdf_at(g:HH->List HH)(x:HH)(b:List HH):∀(a:List HH) (k:Int),rdf (k+(a.length:Int)) g k (a++x::b)=a++(g x++b)
 |[],k=>by
  rw [zaO,rdf,if_pos (by simp),rdf_past _ _ _ _ (by rw [zas];omega)];rfl
 |y::a,k=>by
  have:=rdf_at g x b a (k+1)
  rw [List.cons_append,rdf,if_neg (by rw [zac];omega),show k+((y::a).length:Int)=k+1+(a.length:Int)by rw [zac];omega,this];rfl
def elemR(h:HH):List Str:=if mnyQ h.1=true then atr h.2 else [h.2]
def dfG(x:HH):List HH:=if(elemR x).length<2 then []else [(x.1,zax ((elemR x).drop 1) [44,32])]
theorem nmP_spec{name:Str}{x:HH}(h:nmP name x=true):(adt name).2=0/\(adt x.1).2=0/\(adt x.1).1=(adt name).1:=by
 unfold nmP pN at h;simp only [zay,decide_eq_true_eq]at h;exact⟨h.1.1,h.1.2,h.2⟩
theorem mnyQ_eq{name:Str}{x:HH}(h:nmP name x=true):mnyQ x.1=mnyQ name:=by
 obtain⟨h1,h2,h3⟩:=nmP_spec h;unfold mnyQ;rw [if_pos h1,if_pos h2,h3]
theorem df_lists(l:List HH)(name:Str):rdf (ixP (nmP name) l) dfG 0 l=dfP l name:=by
 unfold dfP;by_cases hi:ixP (nmP name) l= -1
 ·rw [if_pos (by omega),rdf_past _ _ _ _ (by omega)]
 ·obtain⟨a,x,b,rfl,e2,e3,e4⟩:=ixP_some _ _ hi;have he:el (a++x::b) (a.length:Int)=x:=by simp [el]
  have hr:=rdf_at dfG x b a 0;rw [Int.zero_add]at hr;rw [e4,if_neg (by omega),hr,he,zaw];have hm:=mnyQ_eq e3;unfold dfG elemR;rw [hm];have hdel:delL (a++x::b) (a.length:Int) ((a.length:Int)+1)=a++b:=by
   unfold delL;rw [zaw,List.take_left,show((a.length:Int)+1).toNat=a.length+1 by omega,List.drop_append,List.drop_of_length_le (by omega),show a.length+1-a.length=1 by omega];rfl
  by_cases hy:mnyQ name=true
  ·rw [if_pos hy];by_cases h1:1<(atr x.2).length
   ·rw [if_neg (by omega),if_pos ⟨hy,h1⟩,List.set_append_right _ _ (zah _),Nat.sub_self];rfl
   ·rw [if_pos (by omega),if_neg (fun h=>h1 h.2),hdel];rfl
  ·rw [if_neg hy,if_pos (by rw [zag];decide),if_neg (fun h=>hy h.1),hdel];rfl
def jstep:Bool->List Str->Str
 |_,[]=>[]
 |f,x::l=>(if f=true then [44,32]else [])++(x++jstep true l)
theorem jstep_eq:∀l:List Str,jstep false l=zax l [44,32]:=by
 have go:∀(l:List Str) (x:Str),x++jstep true l=zax (x::l) [44,32]:=by
  intro l;induction l with
  |nil=>intro x;simp [jstep,zax,List.intercalate]
  |cons y l ih=>
   intro x;have h:zax (x::y::l) [44,32]=x++([44,32]++zax (y::l) [44,32]):=by simp [zax,List.intercalate,List.intersperse]
   rw [jstep,if_pos rfl,ih y,h]
 intro l;cases l with
 |nil=>simp [jstep,zax,List.intercalate]
 |cons x l=>rw [jstep,if_neg (by decide),zaO,go]
open Bool renaming false_or -> zbu, not_false -> zaK, not_true -> zav
open List renaming append_assoc -> zbg, append_nil -> zaG, drop_drop -> zbr, drop_eq_nil_of_le -> zaN, length -> zaT, length_append -> zae, length_cons -> zac, length_drop -> zao, length_map -> zaA, length_singleton -> zag, map_append -> zbe, map_cons -> zaC
theorem rpiece_eq(s:Str)(hs:s.length<=4194304)(b e:Nat)(hbe:b<=e)(he:e<=s.length):∃k,ank FU s (b:Int) (e:Int)=some (k,alc (sub s (b:Int) (e:Int))):=by
 have hl:=sub_le s (b:Int) (e:Int);have hk:aan aaj (sub s (b:Int) (e:Int)) 0<=(sub s (b:Int) (e:Int)).length:=by
  have:=aqo aaj ((sub s (b:Int) (e:Int)).drop 0)
  unfold aan;rw [show ajw 0 (sub s (b:Int) (e:Int)).length=0 from apl 0 _ (Nat.zero_le _)];simp only [List.drop_zero]at this⊢;omega
 unfold ank;rw [aac (by omega),aky _ (by omega),zaa,aac (ado _ (by omega) (by omega)),refTrim_eq _ (by omega)];exact⟨_,rfl⟩
theorem rang_lp(s:Str)(hs:s.length<=4194303)(n:Nat):∀(i fk:Nat),s.length-i<=n->n<fk->i<=s.length->
  ako FU s fk (i:Int)=some ((i+afr (fun c=> !(c==(62:UInt8))) (s.drop i):Nat):Int):=by
 induction n with
 |zero=>
  intro i fk hi hf hil;obtain⟨fk,rfl⟩:=fkx fk;obtain rfl:i=s.length:=by omega
  rw [alj,agf,if_neg (by omega),zaa,cond_false,zaN (zah _)];rfl
 |succ n ih=>
  intro i fk hi hf hil;obtain⟨fk,rfl⟩:=fkx fk;by_cases hlt:i<s.length
  ·rw [alj,agf,if_pos (by omega),aac (by omega),zaa,aok s i hlt,afr];by_cases h:at_ s (i:Int)=62
   ·rw [decide_eq_true h,zav,cond_false,h,if_neg (by decide)];rfl
   ·rw [decide_eq_false h,zaK,cond_true,aac (ado _ (by omega) (by omega)),afw,ih (i+1) fk (by omega) (by omega) hlt,if_pos (by simpa using h)];congr 2;omega
  ·obtain rfl:i=s.length:=by omega
   rw [alj,agf,if_neg (by omega),zaa,cond_false,zaN (zah _)];rfl
theorem rsplit_lp(s:Str)(hs:s.length<=4194303)(n:Nat):∀(i fk:Nat) (acc:List (Int×Str)) (b:Nat),s.length-i<=n->n<fk->b<=i->i<=s.length->acc.length<=i->
  ∃j,ahl FU s 44 fk acc (b:Int) (i:Int)=some j/\
   (match spS 0 (sub s (b:Int) (i:Int)) (s.drop i)with
   |.inl l=>∃(acc':List (Int×Str)) (b':Nat),j=.inl (acc',(b':Int))/\b'<=s.length/\acc'.length<=s.length/\acc'.map (·.2)++[alc (sub s (b':Int) (s.length:Int))]=acc.map (·.2)++l
   |.inr e=>∃q a,j=.inr (q,a,e)):=by
 induction n with
 |zero=>
  intro i fk acc b hi hf hb hil ha;obtain⟨fk,rfl⟩:=fkx fk;obtain rfl:i=s.length:=by omega
  rw [alk,agh,if_neg (by omega),zaN (zah _),s0n];exact⟨_,rfl,acc,b,rfl,by omega,ha,rfl⟩
 |succ n ih=>
  intro i fk acc b hi hf hb hil ha;obtain⟨fk,rfl⟩:=fkx fk;by_cases hlt:i<s.length
  ·have hd:=aok s i hlt;have hsn:sub s (b:Int) ((i+1:Nat):Int)=sub s (b:Int) (i:Int)++[at_ s (i:Int)]:=by
    rw [sub_ext3 s b i 1 hb,hd];rfl
   rw [alk,agh,if_pos (by omega),aac (by omega),hd,s0c];by_cases h44:at_ s (i:Int)=44
   ·obtain⟨k,hp⟩:=rpiece_eq s (by omega) b i hb hil;have h34:¬at_ s (i:Int)=34:=by rw [h44];decide
    have h60:¬at_ s (i:Int)=60:=by rw [h44];decide
    have h62:¬at_ s (i:Int)=62:=by rw [h44];decide
    rw [if_pos h44,if_neg h34,if_neg h60,if_neg h62,if_pos h44,hp,zaa,aac (by rw [zag];omega),aac (ado _ (by omega) (by omega)),aac (ado _ (by omega) (by omega)),afw];obtain⟨j,g1,g2⟩:=ih (i+1) fk (acc++[(k,alc (sub s (b:Int) (i:Int)))]) (i+1) (by omega) (by omega) (zah _) hlt (by rw [zae,zag];omega);refine⟨j,g1, ?_⟩
    rw [atn]at g2;cases hr:spS 0 [] (s.drop (i+1))with
    |inr e=>rw [hr]at g2;exact g2
    |inl l=>
     rw [hr]at g2;obtain⟨acc',b',q1,q2,q3,q4⟩:=g2;refine⟨acc',b',q1,q2,q3, ?_⟩
     rw [q4,zbe,List.map_singleton,zbg];rfl
   ·rw [if_neg h44];by_cases h34:at_ s (i:Int)=34
    ·rw [if_pos h34,if_pos h34,rfUnquote_eq s (by omega),zaa];have hu:unqP8 s (i:Int)=unqL (s.drop (i+1)) (i+1) []:=by
      unfold unqP8;rw [if_neg (by omega),if_neg (by rintro(h|h);omega;exact h h34),zaw]
     have hq:=quote1 (s.drop (i+1)).length (s.drop (i+1)) (i+1) [] (sub s (b:Int) (i:Int)++[at_ s (i:Int)]) (zah _);have hbd:=(unqL_bd (s.drop (i+1)).length (s.drop (i+1)) (i+1) [] (zah _)).2;have hdl:(s.drop (i+1)).length=s.length-(i+1):=zao;rw [hu];generalize unqL (s.drop (i+1)) (i+1) []=U at hq hbd⊢;by_cases h0:U.2.2=0
     ·obtain⟨b1,b2⟩:=hbd h0;obtain⟨o,ho⟩:∃o:Nat,U.2.1=(o:Int):=⟨U.2.1.toNat,by omega⟩
      rw [ho]at b1 b2;have e1:=hq.1 h0;rw [ho,zaw,<-hsn,<-sub_ext3 s b (i+1) (o-(i+1)) (by omega),zbr,show i+1+(o-(i+1))=o by omega]at e1;rw [if_pos h0,ho,<-hsn,e1];exact ih o fk acc b (by omega) (by omega) (by omega) (by omega) (by omega)
     ·rw [if_neg h0,hq.2 h0];exact⟨_,rfl,_,_,rfl⟩
    ·rw [if_neg h34,if_neg h34];by_cases h62:at_ s (i:Int)=62
     ·have h60:¬at_ s (i:Int)=60:=by rw [h62];decide
      rw [if_pos h62,if_neg h60,if_pos h62];exact⟨_,rfl,_,_,rfl⟩
     ·rw [if_neg h62];by_cases h60:at_ s (i:Int)=60
      ·have hx:spS 3 (sub s (b:Int) (i:Int)) (s.drop i)=spS 3 (sub s (b:Int) (i:Int)++[at_ s (i:Int)]) (s.drop (i+1)):=by
        rw [hd,s3c',if_neg (by rw [h60];decide)]
       obtain⟨a1,a2⟩:=ang1 (s.drop i) (sub s (b:Int) (i:Int));have hdl:(s.drop i).length=s.length-i:=zao;have hsp:=ixb_span (·==(62:UInt8)) (s.drop i);have hsl:=aqo (fun c=> !(c==(62:UInt8))) (s.drop i);rw [if_pos h60,if_pos h60,rang_lp s hs (s.length-i) i FU (zah _) (by rw [afu];omega) hil,zaa,<-hx];by_cases hx0:afr (fun c=> !(c==(62:UInt8))) (s.drop i)=(s.drop i).length
       ·rw [if_pos hx0]at hsp;rw [if_pos (by omega),a1 (by omega)];exact⟨_,rfl,_,_,rfl⟩
       ·rw [if_neg hx0]at hsp;have ht:(ixb (·==(62:UInt8)) (s.drop i)).toNat=afr (fun c=> !(c==(62:UInt8))) (s.drop i):=by rw [hsp];simp
        rw [if_neg (by omega),a2 (by omega),ht];generalize afr (fun c=> !(c==(62:UInt8))) (s.drop i)=x at*;rw [<-sub_ext3 s b i (x+1) hb,zbr,aac (ado _ (by omega) (by omega)),show((i+x:Nat):Int)+1=((i+(x+1):Nat):Int)by omega];exact ih (i+(x+1)) fk acc b (by omega) (by omega) (by omega) (by omega) (by omega)
      ·rw [if_neg h60,if_neg h60,if_neg h62,if_neg h44,aac (ado _ (by omega) (by omega)),afw,<-hsn];exact ih (i+1) fk acc b (by omega) (by omega) (by omega) hlt (by omega)
  ·obtain rfl:i=s.length:=by omega
   rw [alk,agh,if_neg (by omega),zaN (zah _),s0n];exact⟨_,rfl,acc,b,rfl,by omega,ha,rfl⟩
theorem rsplit_eq(s:Str)(hs:s.length<=4194303):∃q a,aqa FU s 44=some (q,a,(match spS 0 [] s with|.inl _=>0|.inr e=>e))/\(∀l,spS 0 [] s=.inl l->q.map (·.2)=l/\q.length<=s.length+1):=by
 obtain⟨j,h1,h2⟩:=rsplit_lp s hs s.length 0 FU [] 0 (by omega) (by rw [afu];omega) (zah _) (Nat.zero_le _) (zah _);have h1':ahl FU s 44 FU [] (0:Int) (0:Int)=some j:=h1;rw [atn,List.drop_zero]at h2;unfold aqa;have e:(((ahc FU 44).bind fun(y13:Bool)=>(bif y13 then some true else(if(44:UInt8)=(34:UInt8)then some true else(if(44:UInt8)=(60:UInt8)then some true else some (decide ((44:UInt8)=(62:UInt8))))))))=some false:=by kernel_rfl
 rw [e,zaa,cond_false,h1',zaa];cases hr:spS 0 [] s with
 |inr e=>
  rw [hr]at h2;obtain⟨q,a,rfl⟩:=h2;rw [zbi];exact⟨q,a,rfl,fun l h=>by cases h⟩
 |inl l=>
  rw [hr]at h2;obtain⟨acc',b',rfl,q2,q3,q4⟩:=h2;obtain⟨k,hp⟩:=rpiece_eq s (by omega) b' s.length q2 (zah _);rw [zau];dsimp only;rw [hp,zaa,aac (by rw [zag];omega)];refine⟨_,_,rfl,fun l' h=> ?_⟩
  have:=Sum.inl.inj h
  subst this;rw [zbe,List.map_singleton,q4];exact⟨rfl,by rw [zae,zag];omega⟩
theorem rlist_lp(y1:((List (Int×Str))×Int×UInt8))(hy:y1.1.length<=4194304)(q:List (Int×Str)):∀(p:List (Int×Str)) (fk:Nat),y1.1=p++q->q.length<fk->
  aim FU y1 fk (p.map (·.2)) (p.length:Int)=some (if(q.map (·.2)).any (fun x=>decide (x=[]))=true then .inr ([],5)else .inl (y1.1.map (·.2))):=by
 induction q with
 |nil=>
  intro p fk h hf;obtain⟨fk,rfl⟩:=fkx fk;rw [zaG]at h;rw [aps,akf,if_neg (by rw [h];omega),h];rfl
 |cons a q ih=>
  intro p fk h hf;obtain⟨fk,rfl⟩:=fkx fk;have hl:=congrArg zaT h;simp only [zae,zac]at hl hf;have hb:(0:Int)<=(p.length:Int)/\(p.length:Int)<(y1.1.length:Int):=by omega
  have he:el y1.1 (p.length:Int)=a:=by rw [h];simp [el]
  rw [aps,akf,if_pos hb.2,aac hb,aac hb,he,zaC,List.any_cons];by_cases h0:a.2=[]
  ·rw [if_pos h0,decide_eq_true h0,Bool.true_or,if_pos rfl]
  ·rw [if_neg h0,decide_eq_false h0,zbu,aac hb,aac hb,aac (by simp only [zaA,zag];omega),aac (ado _ (by omega) (by omega))]
   have:=ih (p++[a]) fk (by rw [h];simp) (by omega)
   rw [zbe,List.map_singleton]at this;rw [show((p.length:Int)+1)=((p++[a]).length:Int)by simp];exact this
theorem rlist_eq(v:Str)(hv:v.length<=4194303):ari FU v=some (lstP v):=by
 obtain⟨q,a,e1,e2⟩:=rsplit_eq v hv;unfold ari lstP;rw [e1,zaa];have hne:=sp_err v 0 [];cases hr:spS 0 [] v with
 |inr e=>
  dsimp only;rw [if_neg (hne e hr)]
 |inl l=>
  obtain⟨h1,h2⟩:=e2 l hr;dsimp only
  have:=rlist_lp (q,a,0) (by dsimp only;omega) q [] FU rfl (by rw [afu];omega)
  have this':aim FU (q,a,0) FU [] (0:Int)=_:=this;rw [if_pos rfl,this',zaa,h1];by_cases h0:l.any (fun x=>decide (x=[]))=true
  ·rw [if_pos h0,if_pos h0,zbi]
  ·rw [if_neg h0,if_neg h0,zau]
open Bool renaming false_and -> zbn, not_true -> zav, true_and -> zaz
open List renaming append_nil -> zaG, drop -> zak, length -> zaT, length_append -> zae, length_cons -> zac, length_nil -> zas, length_singleton -> zag, nil_append -> zaO
theorem is_eq(h:HH)(name:Str)(hh:h.1.length<=4194303)(hn:name.length<=4194303):asb FU h.1 name=some (nmP name h):=by
 unfold asb nmP pN;rw [refCanon_eq h.1 (by omega),zaa,refCanon_eq name (by omega),zaa];by_cases h1:(adt name).2=0
 ·by_cases h2:(adt h.1).2=0
  ·rw [if_pos h2,if_pos h1,decide_eq_true h1,decide_eq_true h2,zaz,zaz,zaa]
  ·rw [if_neg h2,decide_eq_false h2,Bool.and_false,zbn,zaa]
 ·rw [decide_eq_false h1,zbn,zbn];by_cases h2:(adt h.1).2=0
  ·rw [if_pos h2,if_neg h1,zaa]
  ·rw [if_neg h2,zaa]
theorem rfind_lp(name:Str)(hn:name.length<=4194303)(l:List HH)(hl:Sm l)(q:List HH):∀(p:List HH) (fk:Nat),l=p++q->q.length<fk->
  aii FU l name fk (p.length:Int)=some (if ixP (nmP name) q= -1 then .inl ()else .inr ((p.length:Int)+ixP (nmP name) q)):=by
 induction q with
 |nil=>
  intro p fk h hf;obtain⟨fk,rfl⟩:=fkx fk;rw [zaG]at h;rw [apn,ajy,if_neg (by rw [h];omega)];rfl
 |cons a q ih=>
  intro p fk h hf;obtain⟨fk,rfl⟩:=fkx fk;have hll:=congrArg zaT h;simp only [zae,zac]at hll hf;have hln:=hl.1;have hb:(0:Int)<=(p.length:Int)/\(p.length:Int)<(l.length:Int):=by omega
  have he:el l (p.length:Int)=a:=by rw [h];simp [el]
  have ha:=(hl.2 a (by rw [h];simp)).1;rw [apn,ajy,if_pos hb.2,aac hb,aac hb,he,is_eq a name ha hn,zaa,ixP];by_cases h0:nmP name a=true
  ·rw [h0,if_pos rfl,if_neg (by decide)];simp
  ·rw [if_neg h0,show nmP name a=false by simpa using h0,aac (ado _ (by omega) (by omega))]
   have:=ih (p++[a]) fk (by rw [h];simp) (by omega)
   rw [show((p.length:Int)+1)=((p++[a]).length:Int)by simp];rw [cond_false,this];have hg:=ixP_ge (nmP name) q;by_cases h1:ixP (nmP name) q= -1
   ·rw [if_pos h1,if_pos h1,if_pos rfl]
   ·rw [if_neg h1,if_neg h1,if_neg (by omega),zae,zag];congr 2
    omega
theorem rfind_eq(name:Str)(hn:name.length<=4194303)(l:List HH)(hl:Sm l):ard FU l name=some (ixP (nmP name) l):=by
 unfold ard
 have:=rfind_lp name hn l hl l [] FU rfl (by have:=hl.1;rw [afu];omega)
 have this':aii FU l name FU (0:Int)=_:=this;rw [this',zaa];by_cases h:ixP (nmP name) l= -1
 ·rw [if_pos h,zau,h]
 ·rw [if_neg h,zbi];simp
theorem relem_eq(h:HH)(h1:h.1.length<=4194303)(h2:h.2.length<=4194303):aij FU h=some (elemR h):=by
 unfold aij elemR;rw [refManyLaw_eq h.1 (by omega),zaa];have hq:(if(adt h.1).2=0 then manyP (adt h.1).1 else false)=mnyQ h.1:=rfl;rw [hq];cases hy:mnyQ h.1 with
 |false=>rw [cond_false,if_neg (by decide)]
 |true=>
  rw [cond_true,if_pos rfl,rlist_eq h.2 h2,zaa];unfold atr;by_cases h0:(lstP h.2).2=0
  ·rw [if_pos h0,if_pos h0]
  ·rw [if_neg h0,if_neg h0]
theorem elemR_len(h:HH):szL (elemR h)<=h.2.length+1:=by
 unfold elemR;split
 ·exact elemP_len _
 ·simp [szL]
theorem joined_lp(l:List Str)(hl:szL l<=8388608)(q:List Str):∀(p:List Str) (fk:Nat) (s:Str),l=p++q->q.length<fk->s.length<=100000000*(p.length+1)->
  afz FU l fk s (p.length:Int)=some (s++jstep (decide (0<p.length)) q):=by
 induction q with
 |nil=>
  intro p fk s h hf hs;obtain⟨fk,rfl⟩:=fkx fk;rw [zaG]at h;rw [ant,ahs,if_neg (by rw [h];omega)];simp [jstep]
 |cons a q ih=>
  intro p fk s h hf hs;obtain⟨fk,rfl⟩:=fkx fk;have hll:=congrArg zaT h;simp only [zae,zac]at hll hf;have hsz:szL l=szL p+(a.length+1+szL q):=by rw [h];simp [szL];omega
  have hpl:p.length<=szL p:=by unfold szL;omega
  have hqp:l.length<=szL l:=by unfold szL;omega
  have hb:(0:Int)<=(p.length:Int)/\(p.length:Int)<(l.length:Int):=by omega
  have he:el l (p.length:Int)=a:=by rw [h];simp [el]
  have hi:((p.length:Int)+1)=((p++[a]).length:Int):=by simp
  have hg:acd ((p.length:Int)+1):=ado _ (by omega) (by omega);have h1:decide (0<(p++[a]).length)=true:=by simp
  rw [ant,ahs,if_pos hb.2,he,jstep];by_cases h0:0<p.length
  ·rw [if_pos (by omega),aac (by simp only [zac,zas];omega),zaa,aac hb,aac hb,aac (by simp only [zae,zac,zas];omega),aac hg,hi,ih (p++[a]) fk _ (by rw [h];simp) (by omega) (by simp only [zae,zac,zas];omega),h1,decide_eq_true h0,if_pos rfl];simp
  ·rw [if_neg (by omega),zaa,aac hb,aac hb,aac (by omega),aac hg,hi,ih (p++[a]) fk _ (by rw [h];simp) (by omega) (by simp only [zae,zac,zas];omega),h1,decide_eq_false h0,if_neg (by decide)];simp
theorem joined_eq(l:List Str)(hl:szL l<=8388608):amd FU l=some (zax l [44,32]):=by
 unfold amd;have hq:l.length<=szL l:=by unfold szL;omega
 have:=joined_lp l hl l [] FU [] rfl (by rw [afu];omega) (by simp)
 have this':afz FU l FU [] (0:Int)=_:=this;rw [this',zaa,zaO];exact congrArg some (jstep_eq l)
theorem rdf_lp(m:MM)(i:Int)(hl:Sm m.2.2.2.2.1)(q:List HH):∀(p:List HH) (fk:Nat) (out:List HH),m.2.2.2.2.1=p++q->q.length<fk->out.length<=p.length->
  aea FU m i fk out (p.length:Int)=some (out++rdf i dfG (p.length:Int) q):=by
 induction q with
 |nil=>
  intro p fk out h hf ho;obtain⟨fk,rfl⟩:=fkx fk;rw [zaG]at h;rw [alf,afa,if_neg (by rw [h];omega)];simp [rdf]
 |cons a q ih=>
  intro p fk out h hf ho;obtain⟨fk,rfl⟩:=fkx fk;have hll:=congrArg zaT h;simp only [zae,zac]at hll hf;have hln:=hl.1;have hb:(0:Int)<=(p.length:Int)/\(p.length:Int)<(m.2.2.2.2.1.length:Int):=by omega
  have he:el m.2.2.2.2.1 (p.length:Int)=a:=by rw [h];simp [el]
  have hs:=hl.2 a (by rw [h];simp);have hi:((p.length:Int)+1)=((p++[a]).length:Int):=by simp
  have hg:acd ((p.length:Int)+1):=ado _ (by omega) (by omega);rw [alf,afa,if_pos hb.2,aac hb,aac hb,he,rdf];by_cases h0:(p.length:Int)=i
  ·rw [if_pos h0,if_pos h0,relem_eq a hs.1 hs.2,zaa];have hz:=elemR_len a;have hz2:=szL_drop (elemR a);have hG:dfG a=if(elemR a).length<2 then []else [(a.1,zax ((elemR a).drop 1) [44,32])]:=rfl
   rw [hG];by_cases h1:(elemR a).length<2
   ·rw [if_pos (by omega),if_pos h1,aac hg,hi,ih (p++[a]) fk out (by rw [h];simp) (by omega) (by rw [zae,zag];omega)];rfl
   ·have hj:amd FU (zak (zaf (1:Int)) (elemR a))=some (zax ((elemR a).drop 1) [44,32]):=joined_eq ((elemR a).drop 1) (by omega);rw [if_neg (by omega),if_neg h1,aac (by omega),hj,zaa,aac (by rw [zag];omega),aac hg,hi,ih (p++[a]) fk _ (by rw [h];simp) (by omega) (by rw [zae,zag,zae,zag];omega)];simp
  ·rw [if_neg h0,if_neg h0,aac (by rw [zag];omega),aac hg,hi,ih (p++[a]) fk _ (by rw [h];simp) (by omega) (by rw [zae,zag,zae,zag];omega)];simp
theorem rDF_eq(m:MM)(name:Str)(hl:Sm m.2.2.2.2.1)(hn:name.length<=4194303):
  aka FU m name=some (m.1,m.2.1,m.2.2.1,m.2.2.2.1,dfP m.2.2.2.2.1 name,m.2.2.2.2.2):=by
 unfold aka atc;have hln:=hl.1
 have:=rdf_lp m (ixP (nmP name) m.2.2.2.2.1) hl m.2.2.2.2.1 [] FU [] rfl (by rw [afu];omega) (zah _)
 have this':aea FU m (ixP (nmP name) m.2.2.2.2.1) FU [] (0:Int)=_:=this;rw [rfind_eq name hn _ hl,zaa,this',zaa,zaa,zaO];have h2:rdf (ixP (nmP name) m.2.2.2.2.1) dfG (([]:List HH).length:Int) m.2.2.2.2.1=dfP m.2.2.2.2.1 name:=df_lists m.2.2.2.2.1 name;rw [h2]
theorem same_lp(a:MM)(ha:a.2.2.2.2.1.length<=4194304)(q:List HH):∀(p:List HH) (fk:Nat),a.2.2.2.2.1=p++q->q.length<fk->aik FU a a fk (p.length:Int)=some (.inl ()):=by
 induction q with
 |nil=>
  intro p fk h hf;obtain⟨fk,rfl⟩:=fkx fk;rw [zaG]at h;rw [apo,ajz,if_neg (by rw [h];omega)]
 |cons x q ih=>
  intro p fk h hf;obtain⟨fk,rfl⟩:=fkx fk;have hll:=congrArg zaT h;simp only [zae,zac]at hll hf;have hb:(0:Int)<=(p.length:Int)/\(p.length:Int)<(a.2.2.2.2.1.length:Int):=by omega
  rw [apo,ajz,if_pos hb.2,aac hb,aac hb,aac hb,aac hb,if_pos rfl,aac (ado _ (by omega) (by omega)),show((p.length:Int)+1)=((p++[x]).length:Int)by simp];exact ih (p++[x]) fk (by rw [h];simp) (by omega)
theorem same_eq(a:MM)(ha:a.2.2.2.2.1.length<=4194304):are FU a a=some true:=by
 unfold are
 have:=same_lp a ha a.2.2.2.2.1 [] FU rfl (by rw [afu];omega)
 have this':aik FU a a FU (0:Int)=_:=this;rw [if_pos rfl,if_pos rfl,if_pos rfl,if_pos rfl,if_pos rfl,decide_eq_true rfl,zav,zaa,cond_false,this',zaa,zau]
open Bool renaming eq_iff_iff -> zaU, not_false -> zaK, not_true -> zav, true_and -> zaz
open List renaming drop_length -> zbf, length_append -> zae, length_cons -> zac, length_drop -> zao, length_map -> zaA, length_singleton -> zag, map_congr_left -> zbj
open Sum renaming elim -> zaE, elim_inl -> zau, elim_inr -> zbi
abbrev PP:=Str×Str×Bool
theorem find_gen{α:Type}[Inhabited α](p:α->Bool)(l:List α)(F:Nat->Int->Option (Unit⊕Int))
  (h0:∀fk,F (fk+1) (l.length:Int)=some (.inl ()))
  (h1:∀fk (k:Nat),k<l.length->p (el l k)=true->F (fk+1) (k:Int)=some (.inr (k:Int)))
  (h2:∀fk (k:Nat),k<l.length->p (el l k)=false->F (fk+1) (k:Int)=F fk ((k:Int)+1)) (n:Nat):
  ∀(k fk:Nat),k+n=l.length->n<fk->F fk (k:Int)=some (match(l.drop k).findIdx? p with|none=>.inl ()|some j=>.inr ((k+j:Nat):Int)):=by
 induction n with
 |zero=>
  intro k fk hk hf;obtain⟨fk,rfl⟩:=fkx fk;obtain rfl:k=l.length:=by omega
  rw [h0,zbf];rfl
 |succ n ih=>
  intro k fk hk hf;obtain⟨fk,rfl⟩:=fkx fk;have hlt:k<l.length:=by omega
  have hd:l.drop k=el l (k:Int)::l.drop (k+1):=by rw [el_nat _ _ hlt,List.drop_eq_getElem_cons hlt]
  rw [hd,List.findIdx?_cons];cases h:p (el l (k:Int))with
  |true=>rw [h1 fk k hlt h];rfl
  |false=>
   rw [h2 fk k hlt h,afw,ih (k+1) fk omg omg]
   cases(l.drop (k+1)).findIdx? p with
   |none=>rfl
   |some j=>
    show some (Sum.inr _)=some (Sum.inr _);congr 2
    show((k+1+j:Nat):Int)=((k+(j+1):Nat):Int)
    omega
theorem find_gen0{α:Type}[Inhabited α](p:α->Bool)(l:List α)(hl:l.length<=4194304)(F:Nat->Int->Option (Unit⊕Int))
  (h0:∀fk,F (fk+1) (l.length:Int)=some (.inl ()))
  (h1:∀fk (k:Nat),k<l.length->p (el l k)=true->F (fk+1) (k:Int)=some (.inr (k:Int)))
  (h2:∀fk (k:Nat),k<l.length->p (el l k)=false->F (fk+1) (k:Int)=F fk ((k:Int)+1)):F FU 0=some (match l.findIdx? p with|none=>.inl ()|some j=>.inr ((j:Nat):Int)):=by
 have:=find_gen p l F h0 h1 h2 l.length 0 FU omg (by rw [afu];omega)
 rw [List.drop_zero]at this;have this':F FU (0:Int)=_:=this;rw [this'];cases l.findIdx? p with
 |none=>rfl
 |some j=>
  show some (Sum.inr _)=some (Sum.inr _);congr 2
  show((0+j:Nat):Int)=_
  omega
def fIdx(o:Option Nat):Int:=match o with|none=> -1|some j=>(j:Int)
theorem fIdx_any{α:Type}(p:α->Bool)(l:List α):decide ((0:Int)<=fIdx (l.findIdx? p))=l.any p:=by
 rw [<-List.findIdx?_isSome];cases l.findIdx? p with
 |none=>rfl
 |some j=>show decide ((0:Int)<=(j:Int))=true;rw [decide_eq_true_eq];omega
theorem holds_eq(l:List PP)(hl:l.length<=4194304)(name:Str):anc FU l name=some (l.any fun p=>p.1==name):=by
 have h:=find_gen0 (fun p:PP=>p.1==name) l hl (aav FU l name)
  (fun fk=>by rw [abf,aak,if_neg omg])
  (fun fk k hk h=>by
   have h':(el l (k:Int)).1=name:=by simpa using h
   rw [abf,aak,if_pos omg,aac omg,aac omg];unfold akt;rw [zaa,decide_eq_true h',cond_true])
  (fun fk k hk h=>by
   have h':¬(el l (k:Int)).1=name:=by simpa using h
   rw [abf,aak,if_pos omg,aac omg,aac omg];unfold akt;rw [zaa,decide_eq_false h',cond_false,gok])
 unfold anc abm abx;rw [h,zaa];have e:zaE (fun(v38:Unit)=>some (-1:Int)) (fun q=>some q) (match l.findIdx? (fun p:PP=>p.1==name)with|none=>(Sum.inl ():Unit⊕Int)|some j=>Sum.inr ((j:Nat):Int))=some (fIdx (l.findIdx? (fun p:PP=>p.1==name))):=by
  cases l.findIdx? (fun p:PP=>p.1==name)<;>rfl
 rw [e,zaa,fIdx_any];rfl
def roomB(l:List PP)(name:Str):UInt8:=if(l.any fun p=>p.1==name)=true then 7 else if 16<=l.length then 4 else 0
theorem room_eq(l:List PP)(hl:l.length<=4194304)(name:Str):aoh FU l name=some (roomB l name):=by
 unfold aoh roomB;rw [holds_eq l hl,zaa];cases l.any fun p=>p.1==name with
 |true=>rfl
 |false=>
  rw [cond_false,if_neg (show¬(false=true)by decide)];by_cases h:16<=l.length
  ·rw [if_pos omg,if_pos h]
  ·rw [if_neg omg,if_neg h]
theorem el_mem2(l:List PP)(k:Nat)(h:k<l.length):el l (k:Int)∈l:=el_mem' l k h
theorem rfFind_eq(l:List PP)(hl:l.length<=4194304)(hn:∀p∈l,p.1.length<=4194304)(name:Str)(hm:name.length<=4194304):apa FU l name=some (fIdx (l.findIdx? fun p=>aap p.1==aap name)):=by
 have h:=find_gen0 (fun p:PP=>aap p.1==aap name) l hl (alv FU l name)
  (fun fk=>by rw [amq,ahk,if_neg omg])
  (fun fk k hk h=>by
   have h':aap (el l (k:Int)).1=aap name:=by simpa using h
   have:=hn _ (el_mem2 l k hk)
   rw [amq,ahk,if_pos omg,aac omg,aac omg,amv _ omg,zaa,amv _ omg,zaa,if_pos h'])
  (fun fk k hk h=>by
   have h':¬aap (el l (k:Int)).1=aap name:=by simpa using h
   have:=hn _ (el_mem2 l k hk)
   rw [amq,ahk,if_pos omg,aac omg,aac omg,amv _ omg,zaa,amv _ omg,zaa,if_neg h',gok])
 unfold apa;rw [h,zaa];cases l.findIdx? (fun p:PP=>aap p.1==aap name)<;>rfl
theorem rfRoom_eq(l:List PP)(hl:l.length<=4194304)(hn:∀p∈l,p.1.length<=4194304)(name:Str)(hm:name.length<=4194304)(h1:∀p∈l,aap p.1=p.1)(h2:aap name=name):aoz FU l name=some (roomB l name):=by
 unfold aoz roomB;have e:l.any (fun p=>p.1==name)=l.any (fun p=>aap p.1==aap name):=by
  rw [zaU,List.any_eq_true,List.any_eq_true];constructor
  ·rintro⟨p,hp,h⟩;exact⟨p,hp,by rw [h1 p hp,h2];exact h⟩
  ·rintro⟨p,hp,h⟩;exact⟨p,hp,by rw [h1 p hp,h2]at h;exact h⟩
 rw [rfFind_eq l hl hn name hm,zaa,e];have hf:=fIdx_any (fun p:PP=>aap p.1==aap name) l;cases ha:l.any (fun p=>aap p.1==aap name)with
 |true=>
  rw [ha,decide_eq_true_eq]at hf;rw [if_pos hf,if_pos rfl]
 |false=>
  rw [ha,decide_eq_false_iff_not]at hf;rw [if_neg hf,if_neg (show¬(false=true)by decide)];by_cases h:16<=l.length
  ·rw [if_pos omg,if_pos h]
  ·rw [if_neg omg,if_neg h]
def parM (s : Str) : Nat -> List PP -> Nat -> List PP × Int × UInt8
  | 0, _, _ => ([], 0, 0)
  | f + 1, l, i =>
    if s.length <= aan aaj s (i : Int) then (l, 0, 0)
    else if ¬ at_ s ((aan aaj s (i : Int) : Nat) : Int) = 59 then ([], ((aan aaj s (i : Int) : Nat) : Int), 5)
    else if (arn s (aan aaj s ((aan aaj s (i : Int) + 1 : Nat) : Int))).2.2.1 = 0 then
      (if roomB l (arn s (aan aaj s ((aan aaj s (i : Int) + 1 : Nat) : Int))).1.1 = 0 then parM s f (l ++ [(arn s (aan aaj s ((aan aaj s (i : Int) + 1 : Nat) : Int))).1]) (arn s (aan aaj s ((aan aaj s (i : Int) + 1 : Nat) : Int))).2.2.2.2.toNat
       else ([], ((aan aaj s ((aan aaj s (i : Int) + 1 : Nat) : Int) : Nat) : Int), roomB l (arn s (aan aaj s ((aan aaj s (i : Int) + 1 : Nat) : Int))).1.1))
    else ([], (arn s (aan aaj s ((aan aaj s (i : Int) + 1 : Nat) : Int))).2.1, (arn s (aan aaj s ((aan aaj s (i : Int) + 1 : Nat) : Int))).2.2.1)
theorem low2:∀c:UInt8,ace (ace c)=ace c:=acq _ (by decide+kernel)
theorem lowlowL(l:Str):aap (aap l)=aap l:=by
 unfold aap;rw [List.map_map];apply zbj
 intro c _;exact low2 c
theorem listP_bd(s:Str)(hs:s.length<=4194304)(b:Nat)(hb:b<=s.length)(h0:(arn s b).2.2.1=0):(arn s b).2.2.2.1=s/\(b:Int)+1<=(arn s b).2.2.2.2/\(arn s b).2.2.2.2<=(s.length:Int)+1/\aap (arn s b).1.1=(arn s b).1.1/\(arn s b).1.1.length<=s.length/\(arn s b).1.2.1.length<=90000000:=by
 have ht1:=afv aaz s b hb;have ht2:=adg aaz s (b:Int);unfold arn at h0⊢;generalize ht:aan aaz s (b:Int)=t at ht1 ht2 h0⊢;have hy2:=adg aaj s (t:Int);have hy1:=afv aaj s t ht2;have hlen:(aap (sub s (b:Int) (t:Int))).length<=s.length:=by
  unfold aap;rw [zaA,aoj];omega
 by_cases hn:t=b
 ·rw [if_pos hn]at h0;exact absurd h0 (show¬((5:UInt8)=0)by decide)
 ·rw [if_neg hn]at h0⊢;generalize hy:aan aaj s (t:Int)=y at hy1 hy2 h0⊢;cases h61:seesB s y 61 with
  |false=>
   rw [if_pos rfl];exact⟨rfl,by simp only;omega,by simp only;omega,lowlowL _,hlen,by simp⟩
  |true=>
   have hyl:=(seesB_at h61).1;rw [h61,if_neg (show¬(true=false)by decide)]at h0;rw [if_neg (show¬(true=false)by decide)];have hz1:=afv aaj s (y+1) omg;have hz2:=adg aaj s ((y+1:Nat):Int);generalize hz:aan aaj s ((y+1:Nat):Int)=z at hz1 hz2 h0⊢;by_cases hv:(valP s z).2.2=0
   ·have:=valP_bd s hs z hz2
    rw [if_pos hv];exact⟨rfl,by simp only;have:=(this.2 hv).1;omega,by simp only;exact(this.2 hv).2,lowlowL _,hlen,this.1⟩
   ·rw [if_neg hv]at h0;exact absurd h0 hv
theorem params_lp(s:Str)(hs:s.length<=4194304)(n:Nat):∀(k fk:Nat) (l:List PP),s.length-k<=n->n<fk->k<=4194305->l.length<=16->
  agx FU fk l s (k:Int)=some (parM s (n+1) l k):=by
 have ff:¬(false=true):=by decide
 induction n with
 |zero=>
  intro k fk l hn hf hk hl;obtain⟨fk,rfl⟩:=fkx fk;have h1:=adg aaj s (k:Int);have h2:s.length<=aan aaj s (k:Int):=by
   unfold aan ajw;omega
  rw [amk,aft,att s hs,zaa,ended_eq,zaa,decide_eq_true omg,cond_true,parM,if_pos h2]
 |succ n ih=>
  intro k fk l hn hf hk hl;obtain⟨fk,rfl⟩:=fkx fk;have h1:=adg aaj s (k:Int);have hge:k<=s.length->k<=aan aaj s (k:Int):=afv aaj s k;rw [parM,amk,aft,att s hs,zaa,ended_eq,zaa];generalize hj:aan aaj s (k:Int)=j at h1 hge⊢;by_cases he:s.length<=j
  ·rw [decide_eq_true omg,cond_true,if_pos he]
  ·have hkl:k<=s.length:=by
    rcases Nat.lt_or_ge s.length k with h|h
    ·exfalso
     have:aan aaj s (k:Int)=s.length:=by
      have a:=adg aaj s (k:Int);unfold aan ajw at a⊢;omega
     omega
    ·exact h
   rw [decide_eq_false omg,cond_false,if_neg he,sees_eq,zaa];have hjl:j<s.length:=by omega
   unfold seesB;rw [decide_eq_true hjl,zaz];by_cases h59:at_ s (j:Int)=59
   ·have e59:(at_ s (j:Int)==59)=true:=by simpa using h59
    rw [e59,zav,cond_false,if_neg (by simpa using h59)];simp only;rw [gok,att s hs,zaa,skip_add1];have hb2:=adg aaj s ((j+1:Nat):Int);have hb1:=afv aaj s (j+1) omg;generalize hb:aan aaj s ((j+1:Nat):Int)=b at hb1 hb2⊢;rw [listed_eq s hs b hb2,zaa];by_cases h0:(arn s b).2.2.1=0
    ·obtain⟨g1,g2,g3,g4,g5,g6⟩:=listP_bd s hs b hb2 h0;rw [if_pos h0,if_pos h0,room_eq l omg,zaa,zaa];by_cases hr:roomB l (arn s b).1.1=0
     ·have hl16:l.length<16:=by
       unfold roomB at hr;split at hr
       ·exact absurd hr (by decide)
       ·split at hr
        ·exact absurd hr (by decide)
        ·omega
      have ee:(arn s b).2.2.2.2=(((arn s b).2.2.2.2.toNat:Nat):Int):=by omega
      rw [if_pos hr]
      try simp only
      rw [if_pos hr,aac (by simp only [zag];omega),g1,ee]
      have:=ih (arn s b).2.2.2.2.toNat fk (l++[(arn s b).1]) omg omg omg (by simp only [zae,zag];omega)
      rw [this];congr 2
     ·rw [if_neg hr]
      try simp only
      rw [if_neg hr]
    ·rw [if_neg h0,if_neg h0,zaa];simp only;rw [if_neg h0]
   ·have e59:(at_ s (j:Int)==59)=false:=by simpa using h59
    rw [e59,zaK,cond_true,if_pos h59]
def parP(s:Str):List PP×Int×UInt8:=parM s (s.length+1) [] 0
theorem params_eq(s:Str)(hs:s.length<=4194304):aio FU s=some (parP s):=by
 unfold aio;exact params_lp s hs s.length 0 FU [] omg (by rw [afu];omega) omg (by simp)
theorem skip_idem(p:UInt8->Bool)(s:Str)(i:Int):aan p s ((aan p s i:Nat):Int)=aan p s i:=by
 have hle:=adg p s i;by_cases h:aan p s i<s.length
 ·refine skipL_stop p s _ h ?_;unfold aan at h⊢;generalize ajw i s.length=c at h⊢
  have:∀l:Str,afr p l<l.length->p (at_ l (afr p l:Int))=false:=by
   intro l;induction l with
   |nil=>intro h;simp [afr]at h
   |cons a l ih=>
    intro h;cases ha:p a with
    |false=>simp [afr,ha,at_]
    |true=>
     have e:afr p (a::l)=afr p l+1:=by simp [afr,ha]
     rw [e]at h⊢
     have:=ih (by simp only [zac]at h;omega)
     simpa [at_] using this
  have h2:=this (s.drop c) (by rw [zao];omega);have e:at_ (s.drop c) (afr p (s.drop c):Int)=at_ s ((c+afr p (s.drop c):Nat):Int):=by
   simp only [at_,List.getD_eq_getElem?_getD,List.getElem?_drop];congr 2
  rw [e]at h2;exact h2
 ·have:aan p s i=s.length:=by omega
  rw [this];exact skipL_end p s
def parFin(j:(List PP)⊕((List PP)×Int×UInt8)):Option ((List PP)×Int×UInt8):=zaE (fun(v376:List PP)=>some (v376,(0:Int),(0:UInt8))) (fun q=>some q) j
theorem rfParams_lp(s:Str)(hs:s.length<=4194304)(n:Nat):∀(k fk:Nat) (l:List PP),s.length-k<=n->n<fk->k<=4194305->l.length<=16->(∀p∈l,aap p.1=p.1/\p.1.length<=4194304)->
  ((age FU s fk l ((aan aaj s (k:Int):Nat):Int)).bind parFin)=some (parM s (n+1) l k):=by
 have ff:¬(false=true):=by decide
 induction n with
 |zero=>
  intro k fk l hn hf hk hl hp;obtain⟨fk,rfl⟩:=fkx fk;have h1:=adg aaj s (k:Int);have h2:s.length<=aan aaj s (k:Int):=by
   unfold aan ajw;omega
  rw [anx,ahx,if_neg omg,parM,if_pos h2];rfl
 |succ n ih=>
  intro k fk l hn hf hk hl hp;obtain⟨fk,rfl⟩:=fkx fk;have h1:=adg aaj s (k:Int);have hge:k<=s.length->k<=aan aaj s (k:Int):=afv aaj s k;rw [parM,anx,ahx];by_cases he:s.length<=aan aaj s (k:Int)
  ·rw [if_neg omg,if_pos he];rfl
  ·have hkl:k<=s.length:=by
    rcases Nat.lt_or_ge s.length k with h|h
    ·exfalso
     have:aan aaj s (k:Int)=s.length:=by
      have a:=adg aaj s (k:Int);unfold aan ajw at a⊢;omega
     omega
    ·exact h
   generalize hj:aan aaj s (k:Int)=j at h1 hge he⊢;rw [if_pos omg,if_neg he,aac omg];have hjl:j<s.length:=by omega
   by_cases h59:at_ s (j:Int)=59
   ·rw [if_pos h59,if_neg (by simpa using h59),gok,aky s hs,zaa,skip_add1];have hb2:=adg aaj s ((j+1:Nat):Int);have hb1:=afv aaj s (j+1) omg;generalize hb:aan aaj s ((j+1:Nat):Int)=b at hb1 hb2⊢;have ht1:=afv aaz s b hb2;have ht2:=adg aaz s (b:Int);rw [asv s omg,zaa];have app:∀(v:Str) (hs':Bool) (pos:Nat),(b:Int)+1<=(pos:Int)->(pos:Int)<=(s.length:Int)+1->∀nm:Str,aap nm=nm->nm.length<=4194304->
      (((aoz FU l nm).bind fun(y726:UInt8)=>(if y726=(0:UInt8)then(gd ((l.length+([(nm,v,hs')]:List PP).length)*40<=140737488355328)<|(age FU s fk (l++([(nm,v,hs')]:List PP)) ((aan aaj s (pos:Int):Nat):Int)))else some (.inr (([]:List PP),(b:Int),y726)))).bind parFin)=some (if roomB l nm=0 then parM s (n+1) (l++[(nm,v,hs')]) pos else([],(b:Int),roomB l nm)):=by
     intro v hs' pos hp1 hp2 nm hnm hnl;rw [rfRoom_eq l omg (fun p hp'=>(hp p hp').2) nm hnl (fun p hp'=>(hp p hp').1) hnm,zaa];by_cases hr:roomB l nm=0
     ·have hl16:l.length<16:=by
       unfold roomB at hr;split at hr
       ·exact absurd hr (by decide)
       ·split at hr
        ·exact absurd hr (by decide)
        ·omega
      rw [if_pos hr,if_pos hr,aac (by simp only [zag];omega)];exact ih pos fk (l++[(nm,v,hs')]) omg omg omg (by simp only [zae,zag];omega) (fun p hp'=>by
       rcases List.mem_append.1 hp' with h|h
       ·exact hp p h
       ·rw [List.mem_singleton.1 h];exact⟨hnm,hnl⟩)
     ·rw [if_neg hr,if_neg hr];rfl
    unfold arn;generalize ht:aan aaz s (b:Int)=t at ht1 ht2⊢;by_cases hn':t=b
    ·rw [if_pos omg,if_pos hn',if_neg (show¬((5:UInt8)=0)by decide)];rfl
    ·have hy2:=adg aaj s (t:Int);have hy1:=afv aaj s t ht2;have hlen:(aap (sub s (b:Int) (t:Int))).length<=4194304:=by
      unfold aap;rw [zaA,aoj];omega
     rw [if_neg omg,if_neg hn',aac omg,amv _ (by rw [aoj];omega),zaa,aky s hs,zaa];have hid:=skip_idem aaj s (t:Int);generalize hy:aan aaj s (t:Int)=y at hy1 hy2 hid⊢;rw [rfSees,zaa];cases h61:seesB s y 61 with
     |false=>
      rw [cond_false,zaa,zau,if_pos rfl,if_pos rfl]
      have:=app [] false y omg omg (aap (sub s (b:Int) (t:Int))) (lowlowL _) hlen
      rw [hid]at this;exact this
     |true=>
      have hyl:=(seesB_at h61).1;rw [cond_true,if_neg (show¬(true=false)by decide),gok,aky s hs,zaa,skip_add1];have hz1:=afv aaj s (y+1) omg;have hz2:=adg aaj s ((y+1:Nat):Int);generalize hz:aan aaj s ((y+1:Nat):Int)=z at hz1 hz2⊢;rw [value_eq s hs z hz2,zaa];by_cases hv:(valP s z).2.2=0
      ·have hbd:=(valP_bd s hs z hz2).2 hv;obtain⟨pos,hpos⟩:∃pos:Nat,(valP s z).2.1=(pos:Int):=⟨(valP s z).2.1.toNat,by omega⟩
       rw [if_pos hv,aky s hs,zaa,zaa,zau,if_pos hv,if_pos rfl,hpos]
       have:=app (valP s z).1 true pos omg omg (aap (sub s (b:Int) (t:Int))) (lowlowL _) hlen
       exact this
      ·rw [if_neg hv,zaa,zbi,if_neg hv,if_neg hv];rfl
   ·rw [if_neg h59,if_pos h59];rfl
theorem rfParams_eq(s:Str)(hs:s.length<=4194304):amf FU s=some (parP s):=by
 unfold amf;rw [aky s hs,zaa];exact rfParams_lp s hs s.length 0 FU [] omg (by rw [afu];omega) omg (by simp) (by simp)
theorem room0(pre:List PP)(nm:Str):(roomB pre nm=0)↔((pre.any fun q=>q.1==nm)=false/\pre.length<16):=by
 unfold roomB;cases pre.any fun q=>q.1==nm with
 |true=>simp
 |false=>
  rw [if_neg (show¬(false=true)by decide)];by_cases h:16<=pre.length
  ·rw [if_pos h];simp;omega
  ·rw [if_neg h];simp;omega
open List renaming length_append -> zae, length_cons -> zac, length_singleton -> zag
theorem idx47(c:UInt8):∀v:Str,(zar v [c]= -1/\∀b∈v,b≠c)\/(∃f s2,v=f++c::s2/\(∀b∈f,b≠c)/\zar v [c]=(f.length:Int))
 |[]=>.inl ⟨rfl,by simp⟩
 |b::l=>by
  rw [index_cons];have e:([c]:Str).isPrefixOf (b::l)=(c==b):=by simp [List.isPrefixOf]
  rw [e];by_cases h:b=c
  ·subst h;right
   exact⟨[],l,rfl,by simp,by rw [if_pos (by simp)];rfl⟩
  ·rw [if_neg (by simpa using fun x=>h x.symm)];rcases idx47 c l with⟨h1,h2⟩|⟨f,s2,h1,h2,h3⟩
   ·left
    rw [if_pos h1];exact⟨rfl,fun x hx=>by rcases List.mem_cons.1 hx with rfl|hx;exact h;exact h2 x hx⟩
   ·right
    refine⟨b::f,s2,by rw [h1];rfl,fun x hx=>by rcases List.mem_cons.1 hx with rfl|hx;exact h;exact h2 x hx, ?_⟩
    rw [if_neg omg,h3,zac];omega
theorem parM_len(s:Str):∀(f:Nat) (l:List PP) (i:Nat),l.length<=16->(parM s f l i).1.length<=16
 |0,_,_,_=>by simp [parM]
 |f+1,l,i,h=>by
  rw [parM];split
  ·exact h
  ·split
   ·simp
   ·split
    ·split
     ·rename_i hr;have hl16:=((room0 l _).1 hr).2;exact parM_len s f _ _ (by simp only [zae,zag];omega)
     ·simp
    ·simp
end Go.Wk
set_option maxRecDepth 20000
namespace Go.Wk
open Go.Px
open Bool renaming false_and -> zbn, true_and -> zaz
open List renaming all_cons -> zbk, append_nil -> zaG, length -> zaT, length_append -> zae, length_cons -> zac
open Option renaming bind_some -> zaa
open Sum renaming elim_inl -> zau, elim_inr -> zbi
theorem digB_no{c:UInt8}(h:aci c=false):c<48\/(57:UInt8)<c:=by
 by_cases h1:c<48
 ·exact .inl h1
 ·by_cases h2:(57:UInt8)<c
  ·exact .inr h2
  ·exfalso
   have:aci c=true:=by
    rw [digitB_iff];rw [UInt8.lt_iff_toNat_lt]at h1 h2;have e1:(48:UInt8).toNat=48:=rfl;have e2:(57:UInt8).toNat=57:=rfl;omega
   rw [this]at h;cases h
theorem digQ_sub{c:UInt8}(h:aci c=true):(c-48).toNat=c.toNat-48/\¬c<48/\¬(57:UInt8)<c/\c.toNat<=57:=by
 have hc:=(digitB_iff c).1 h;refine⟨?_, ?_, ?_,by omega⟩
 ·have h48:(48:UInt8)<=c:=by rw [UInt8.le_iff_toNat_le];show 48<=c.toNat;omega
  rw [UInt8.toNat_sub_of_le _ _ h48];rfl
 ·rw [UInt8.lt_iff_toNat_lt];show¬c.toNat<48;omega
 ·rw [UInt8.lt_iff_toNat_lt];show¬57<c.toNat;omega
def numQ(s:Str):Int×UInt8:=
 if s.length<1\/10<s.length\/s.all aci=false then(0,5)else if 2147483647<adv s then(0,3)else((adv s:Int),0)
theorem numberQ_lp(s:Str)(hs:s.length<=18)(l:Str):∀(p:Str) (fk:Nat),s=p++l->l.length<fk->p.all aci=true->
  agm FU s fk (adv p:Int) (p.length:Int)=some (if l.all aci=true then .inl (adv s:Int)else .inr ((0:Int),(5:UInt8))):=by
 induction l with
 |nil=>
  intro p fk h hf hp;obtain⟨fk,rfl⟩:=fkx fk;rw [zaG]at h;subst h;rw [ajq,afk,if_neg omg];rfl
 |cons c l ih=>
  intro p fk h hf hp;obtain⟨fk,rfl⟩:=fkx fk;have hb:(0:Int)<=(p.length:Int)/\(p.length:Int)<(s.length:Int):=by rw [h,zae,zac];omega
  have ha:at_ s (p.length:Int)=c:=by rw [h,ata]
  simp only [zac]at hf;cases hc:aci c with
  |false=>
   rw [ajq,afk,if_pos hb.2,aac hb,ha,zbk,hc,zbn,if_neg (show¬false=true by decide)];rcases digB_no hc with h1|h1
   ·rw [if_pos h1,zaa,cond_true]
   ·by_cases h2:c<48
    ·rw [if_pos h2,zaa,cond_true]
    ·rw [if_neg h2,aac hb,decide_eq_true h1,zaa,cond_true]
  |true=>
   obtain⟨hx,n1,n2,n3⟩:=digQ_sub hc;have hv:=decVal_lt 17 p (by have:=congrArg zaT h;rw [zae,zac]at this;omega) hp;rw [ajq,afk,if_pos hb.2,aac hb,ha,if_neg n1,aac hb,decide_eq_false n2,zaa,cond_false,hx,aac (ado _ omg omg),aac hb,aac (ado _ omg omg),aac (ado _ omg omg)];have e:(10:Int)*(adv p:Int)+((c.toNat-48:Nat):Int)=(adv (p++[c]):Int):=by rw [aqp];omega
   rw [e,agz p c,zbk,hc,zaz];exact ih (p++[c]) fk (by rw [h];simp) omg (by rw [List.all_append,hp];simpa using hc)
theorem number_eq(s:Str):aog FU s=some (numQ s):=by
 unfold aog numQ;by_cases h1:s.length<1
 ·rw [if_pos omg,zaa,cond_true,if_pos (.inl h1)]
 ·rw [if_neg omg,zaa];by_cases h2:10<s.length
  ·rw [decide_eq_true omg,cond_true,if_pos (.inr (.inl h2))]
  ·rw [decide_eq_false omg,cond_false]
   have:=numberQ_lp s omg s [] FU (by simp) (by rw [afu];omega) (by simp)
   change agm FU s FU (0:Int) (0:Int)=_ at this
   rw [this,zaa];cases h3:s.all aci with
   |false=>rw [if_neg (show¬false=true by decide),zbi,if_pos (.inr (.inr rfl))]
   |true=>
    rw [if_pos rfl,zau,if_neg (show¬(s.length<1\/10<s.length\/true=false)by rintro(h|h|h)<;>first|omega|cases h)];by_cases h4:2147483647<adv s
    ·rw [if_pos omg,if_pos h4]
    ·rw [if_neg omg,if_neg h4]
theorem refNumberQ_lp(s:Str)(hs:s.length<=4194304)(l:Str):∀(p:Str) (fk:Nat),s=p++l->l.length<fk->p.all aci=true->p.length<=10->
  agi FU s fk (adv p:Int) (p.length:Int)=some (if l.all aci=true/\s.length<=10 then .inl (adv s:Int)else .inr ((0:Int),(5:UInt8))):=by
 induction l with
 |nil=>
  intro p fk h hf hp hl;obtain⟨fk,rfl⟩:=fkx fk;rw [zaG]at h;subst h;rw [ajo,afh,if_neg omg,if_pos ⟨rfl,hl⟩]
 |cons c l ih=>
  intro p fk h hf hp hl;obtain⟨fk,rfl⟩:=fkx fk;have hlen:s.length=p.length+(l.length+1):=by rw [h,zae,zac]
  have hb:(0:Int)<=(p.length:Int)/\(p.length:Int)<(s.length:Int):=by omega
  have ha:at_ s (p.length:Int)=c:=by rw [h,ata]
  simp only [zac]at hf;cases hc:aci c with
  |false=>
   rw [ajo,afh,if_pos hb.2,aac hb,ha,zbk,hc,zbn,if_neg (show¬(false=true/\s.length<=10)by rintro⟨h,_⟩;cases h)];by_cases h2:c<48
   ·rw [if_pos h2,zaa,cond_true]
   ·rcases digB_no hc with h1|h1
    ·exact absurd h1 h2
    ·rw [if_neg h2,aac hb,if_pos h1,zaa,cond_true]
  |true=>
   obtain⟨hx,n1,n2,n3⟩:=digQ_sub hc;rw [ajo,afh,if_pos hb.2,aac hb,ha,if_neg n1,aac hb,if_neg n2,zaa];by_cases h10:10<=p.length
   ·rw [decide_eq_true omg,cond_true,if_neg (by rintro⟨_,h⟩;omega)]
   ·have hv:=decVal_lt 17 p omg hp;rw [decide_eq_false omg,cond_false,hx,aac (ado _ omg omg),aac hb,aac (ado _ omg omg),aac (ado _ omg omg)];have e:(10:Int)*(adv p:Int)+((c.toNat-48:Nat):Int)=(adv (p++[c]):Int):=by rw [aqp];omega
    rw [e,agz p c,zbk,hc,zaz];exact ih (p++[c]) fk (by rw [h];simp) omg (by rw [List.all_append,hp];simpa using hc) (by simp;omega)
theorem refNumber_eq(s:Str)(hs:s.length<=4194304):aof FU s=some (numQ s):=by
 unfold aof numQ
 have:=refNumberQ_lp s hs s [] FU (by simp) (by rw [afu];omega) (by simp) (by simp)
 change agi FU s FU (0:Int) (0:Int)=_ at this
 rw [this,zaa];by_cases h1:s=[]
 ·subst h1;rfl
 have h0:0<s.length:=List.length_pos_iff.2 h1;by_cases h2:s.all aci=true/\s.length<=10
 ·rw [if_pos h2,zau,if_neg h1,if_neg (show¬(s.length<1\/10<s.length\/s.all aci=false)by rintro(h|h|h)<;>first|omega|(rw [h2.1]at h;cases h))];by_cases h4:2147483647<adv s
  ·rw [if_pos omg,if_pos h4]
  ·rw [if_neg omg,if_neg h4]
 ·rw [if_neg h2,zbi,if_pos];by_cases h3:10<s.length
  ·exact .inr (.inl h3)
  ·cases h4:s.all aci with
   |false=>exact .inr (.inr rfl)
   |true=>exact absurd ⟨h4,by omega⟩ h2
def portQ(s:Str):Int×UInt8:=if(numQ s).2=0/\((numQ s).1<1\/65535<(numQ s).1)then(0,3)else numQ s
theorem refPort_eq(s:Str)(hs:s.length<=4194304):arf FU s=some (portQ s):=by
 unfold arf portQ;rw [refNumber_eq s hs,zaa];by_cases h1:(numQ s).2=0
 ·rw [if_pos h1];by_cases h2:(numQ s).1<1
  ·rw [if_pos h2,zaa,cond_true,if_pos ⟨h1,.inl h2⟩]
  ·rw [if_neg h2,zaa];by_cases h3:65535<(numQ s).1
   ·rw [decide_eq_true h3,cond_true,if_pos ⟨h1,.inr h3⟩]
   ·rw [decide_eq_false h3,cond_false,if_neg (by rintro⟨_,h|h⟩<;>contradiction)]
 ·rw [if_neg h1,zaa,cond_false,if_neg (fun h=>h1 h.1)]
end Go.Wk
set_option maxRecDepth 100000
namespace Go.Wk
open Go.Px
open Int renaming toNat_natCast -> zaw
open Option renaming bind_some -> zaa
open UInt8 renaming ofNat -> zaM
theorem dig_of:∀n:Fin 10,aci (zaM (48+n.val))=true/\(zaM (48+n.val)).toNat-48=n.val/\sub ([48,49,50,51,52,53,54,55,56,57]:Str) (n.val:Int) ((n.val:Int)+1)=[zaM (48+n.val)]:=by decide+kernel
theorem dig_at(n:Nat)(h:n<10):aci (zaM (48+n))=true/\(zaM (48+n)).toNat-48=n/\sub ([48,49,50,51,52,53,54,55,56,57]:Str) (n:Int) ((n:Int)+1)=[zaM (48+n)]:=dig_of ⟨n,h⟩
theorem dd_ok:∀(k n:Nat),n<10^(k+1)->(Lib.decDigits n).all aci=true/\adv (Lib.decDigits n)=n/\1<=(Lib.decDigits n).length/\(Lib.decDigits n).length<=k+1:=by
 intro k;induction k with
 |zero=>
  intro n h;have h:n<10:=by simpa using h
  have:=dig_at n h
  rw [Lib.decDigits,dif_pos h];refine⟨by simpa using this.1, ?_,by simp,by simp⟩
  show 10*0+_=n;omega
 |succ k ih=>
  intro n h;rw [Lib.decDigits];by_cases h1:n<10
  ·have:=dig_at n h1
   rw [dif_pos h1];refine⟨by simpa using this.1, ?_,by simp,by simp⟩
   show 10*0+_=n;omega
  ·have hd:=dig_at (n%10) (Nat.mod_lt _ (by decide))
   have:=ih (n/10) (by rw [Nat.pow_succ]at h;omega)
   rw [dif_neg h1];refine⟨by rw [List.all_append,this.1];simpa using hd.1, ?_,by simp,by simp;omega⟩
   rw [aqp,this.2.1,hd.2.1];omega
theorem itoa_nat(n:Nat):Lib.itoa (n:Int)=Lib.decDigits n:=by
 unfold Lib.itoa;rw [if_neg (by omega),zaw]
theorem itoa_port(n:Int)(h0:0<=n)(h:n<=65535):numQ (Lib.itoa n)=(n,0)/\1<=(Lib.itoa n).length/\(Lib.itoa n).length<=5/\(Lib.itoa n).all aci=true:=by
 obtain⟨m,rfl⟩:∃m:Nat,n=(m:Int):=⟨n.toNat,by omega⟩
 obtain⟨h1,h2,h3,h4⟩:=dd_ok 4 m (by omega);rw [itoa_nat];refine⟨?_,h3,h4,h1⟩
 unfold numQ;rw [h1,h2,if_neg (by rintro(h|h|h)<;>first|omega|cases h),if_neg (by omega)]
theorem rfDecimal_lp:∀(k n fk:Nat),n<10^(k+1)->k+1<fk->k<=15->aem fk (n:Int)=some (Lib.decDigits n):=by
 intro k;induction k with
 |zero=>
  intro n fk h hf h15;obtain⟨fk,rfl⟩:=fkx fk;have h:n<10:=by simpa using h
  rw [aem,if_pos (by omega),gok,aac (by simp;omega),(dig_at n h).2.2,Lib.decDigits,dif_pos h]
 |succ k ih=>
  intro n fk h hf h15;obtain⟨fk,rfl⟩:=fkx fk;have h16:10^(k+1+1)<=10^17:=Nat.pow_le_pow_right (by decide) (by omega);rw [aem,Lib.decDigits];by_cases h1:n<10
  ·rw [if_pos (by omega),dif_pos h1,gok,aac (by simp;omega),(dig_at n h1).2.2]
  ·have e1:(n:Int)/10=((n/10:Nat):Int):=by omega
   have e2:(n:Int)%10=((n%10:Nat):Int):=by omega
   have h2:n/10<10^(k+1):=by rw [Nat.pow_succ]at h;omega
   have hl:=(dd_ok k _ h2).2.2.2;have hg:0<=(n:Int)/\0<(10:Int)/\acd (n:Int):=⟨by omega,by omega,ado _ (by omega) (by omega)⟩
   have hd:=dig_at (n%10) (Nat.mod_lt _ (by decide));rw [if_neg (by omega),dif_neg h1,aac hg,e1,ih (n/10) fk h2 (by omega) (by omega),zaa,aac hg,aac hg,e2,aac (ado _ (by omega) (by omega)),aac (by simp;omega),hd.2.2,aac (by simp;omega)]
theorem rfDecimal_eq(n:Int)(h0:0<=n)(h:n<=9999999999999999):aem FU n=some (Lib.itoa n):=by
 obtain⟨m,rfl⟩:∃m:Nat,n=(m:Int):=⟨n.toNat,by omega⟩
 rw [itoa_nat];exact rfDecimal_lp 15 m FU (by omega) (by rw [afu];omega) (by decide)
open Bool renaming not_false -> zaK, not_true -> zav, true_and -> zaz
open Int renaming toNat -> zaf, toNat_natCast -> zaw
open List renaming drop -> zak, drop_length -> zbf, length_append -> zae, length_cons -> zac, length_drop -> zao, length_nil -> zas, length_singleton -> zag, length_take -> zab, nil_append -> zaO, take -> zaS
open Sum renaming elim_inl -> zau, elim_inr -> zbi
abbrev VV:=Str×Str×Int×Str×List PP
def zVia:VV:=([],[],0,[],[])
def VER:Str:=[83,73,80,47,50,46,48,47]
def BRN:Str:=[98,114,97,110,99,104]
def upperL(s:Str):Str:=s.map amt
theorem upper_lp(s:Str)(hs:s.length<=9223372036854775807)(l:Str):∀(p:Str) (fk:Nat),p.length+l.length=s.length->l.length<fk->
  abh FU s fk (p++l) (p.length:Int)=some (p++l.map amt):=by
 induction l with
 |nil=>
  intro p fk hk hf;obtain⟨fk,rfl⟩:=fkx fk;simp only [zas]at hk;rw [adc,abd,if_neg omg];rfl
 |cons c l ih=>
  intro p fk hk hf;obtain⟨fk,rfl⟩:=fkx fk;simp only [zac]at hk hf;have hb:=mid_lt p c l;rw [adc,abd,if_pos omg,aac hb,aac hb,ata,upperByte_eq];simp only [zaa];rw [aac hb,aac hb,aac (ado _ omg omg),set_mid,agz p (amt c),ih (p++[amt c]) fk (by rw [zae,zag];omega) omg];simp
theorem upper_eq(s:Str)(hs:s.length<=9223372036854775807):abb FU s=some (upperL s):=by
 unfold abb
 have:=upper_lp s hs s [] FU (by simp) (by rw [afu];omega)
 simp only [zaO,zas,Int.natCast_zero,Int.cast_ofNat_Int]at this;rw [this];rfl
theorem get_lp(l:List PP)(hl:l.length<=4194304)(hn:∀p∈l,p.1.length<=4194304)(y:Str)(n:Nat):∀(k fk:Nat),k+n=l.length->n<fk->
  ahp FU l y fk (k:Int)=some (match(l.drop k).find? (fun p=>aap p.1==y)with|none=>.inl ()|some p=>.inr (p.2.1,true)):=by
 induction n with
 |zero=>
  intro k fk hk hf;obtain⟨fk,rfl⟩:=fkx fk;obtain rfl:k=l.length:=by omega
  rw [aov,aje,if_neg omg,zbf];rfl
 |succ n ih=>
  intro k fk hk hf;obtain⟨fk,rfl⟩:=fkx fk;have hlt:k<l.length:=by omega
  have hin:(0:Int)<=(k:Int)/\(k:Int)<(l.length:Int):=by omega
  have hd:l.drop k=el l (k:Int)::l.drop (k+1):=by rw [el_nat _ _ hlt,List.drop_eq_getElem_cons hlt]
  rw [aov,aje,if_pos hin.2,aac hin,aac hin,atu _ (hn _ (el_mem2 l k hlt)),zaa,hd,List.find?_cons];by_cases h:aap (el l (k:Int)).1=y
  ·rw [if_pos h,show(aap (el l (k:Int)).1==y)=true by simpa using h]
  ·rw [if_neg h,show(aap (el l (k:Int)).1==y)=false by simpa using h,aac (ado _ omg omg),afw,ih (k+1) fk omg omg]
theorem get_eq(l:List PP)(hl:l.length<=4194304)(hn:∀p∈l,p.1.length<=4194304)(name:Str)(hm:name.length<=4194304):anp FU l name=some (getP l name):=by
 have:=get_lp l hl hn (aap name) l.length 0 FU omg (by rw [afu];omega)
 rw [List.drop_zero]at this;have this':ahp FU l (aap name) FU (0:Int)=_:=this;unfold anp;rw [atu _ hm,zaa,this',zaa];have e:getP l name=(match l.find? (fun p=>aap p.1==aap name)with|some p=>(p.2.1,true)|none=>([],false)):=rfl;rw [e];cases l.find? (fun p=>aap p.1==aap name)<;>rfl
theorem contains_any(v:Str)(c:UInt8):Lib.contains v [c]=v.any (·==c):=by
 unfold Lib.contains;rcases idx47 c v with⟨h1,h2⟩|⟨f,s2,h1,h2,h3⟩
 ·rw [h1,decide_eq_false omg]
  symm
  rw [List.any_eq_false];intro x hx;simpa using h2 x hx
 ·rw [h3,decide_eq_true omg,h1];simp
def cutP(P:Str):Str×Str×Bool:=
 if api (·==(58:UInt8)) P<0 then(P,[],false)
 else if((P.take (api (·==(58:UInt8)) P).toNat).any (·==91)&&(P.drop (api (·==(58:UInt8)) P).toNat).any (·==93))=true then(P,[],false)
 else(P.take (api (·==(58:UInt8)) P).toNat,P.drop (api (·==(58:UInt8)) P+1).toNat,true)
theorem cutPort_eq(P:Str)(hP:P.length<=4194304):aly FU P=some (cutP P):=by
 have hsp:=lixb_spec (·==(58:UInt8)) P;unfold aly cutP;rw [aac omg];generalize api (·==(58:UInt8)) P=a at hsp⊢;by_cases h:a<0
 ·rw [if_pos h,zaa,cond_true,if_pos h]
 ·have hr:0<=a/\a<(P.length:Int):=by omega
  rw [if_neg h,if_neg h,aac omg,aac (by rw [zab];omega),contains_any,contains_any];have fin:∀o:Option Bool,o=some ((P.take a.toNat).any (·==91)&&(P.drop a.toNat).any (·==93))->(o.bind fun(v:Bool)=>(bif v then some (P,([]:Str),false)else(gd (0<=a/\a<=(P.length:Int))<|(gd (acd (a+(1:Int)))<|(gd (0<=(a+(1:Int))/\(a+(1:Int))<=(P.length:Int))<|some (zaS (zaf a) P,zak (zaf (a+(1:Int))) P,true))))))=some (if((P.take a.toNat).any (·==91)&&(P.drop a.toNat).any (·==93))=true then(P,[],false)else(P.take a.toNat,P.drop (a+1).toNat,true)):=by
   intro o ho;rw [ho,zaa]
   cases((P.take a.toNat).any (·==91)&&(P.drop a.toNat).any (·==93))with
   |true=>rfl
   |false=>rw [cond_false,aac omg,aac (ado _ omg omg),aac omg,if_neg (show¬(false=true)by decide)]
  refine fin _ ?_
  cases(P.take a.toNat).any (·==91)with
  |false=>rfl
  |true=>rw [cond_true,aac omg,aac (by rw [zao];omega),zaz]
theorem cutP_len(P:Str):(cutP P).1.length<=P.length/\(cutP P).2.1.length<=P.length:=by
 unfold cutP;split
 ·simp
 ·split
  ·simp
  ·simp only [zab,zao];omega
def asu(c:UInt8):Bool:=c==59||aaj c
theorem sep_set:(fun c=>([59,32,9]:Str).contains c)=asu:=by
 funext c;revert c;exact acq _ (by decide+kernel)
def viaF(tr h:Str)(port:Int)(rest:Str):VV×UInt8:=if(parP rest).2.2=0 then((tr,h,port,(getP (parP rest).1 BRN).1,(parP rest).1),0)else(zVia,(parP rest).2.2)
def viaB(tr place rest:Str):VV×UInt8:=
 if(ase (cutP place).1).2=false then(zVia,5)
 else if(cutP place).2.2=true then(if(portQ (cutP place).2.1).2=0 then viaF tr (ase (cutP place).1).1 (portQ (cutP place).2.1).1 rest else(zVia,(portQ (cutP place).2.1).2))
 else viaF tr (ase (cutP place).1).1 0 rest
def viaP(v:Str):VV×UInt8:=
 if(alc v).length<8 then(zVia,5)
 else if¬upperL ((alc v).take 8)=VER then(zVia,5)
 else if aan aaz (alc v) 8=8 then(zVia,5)
 else if aan aaj (alc v) (aan aaz (alc v) 8:Int)=aan aaz (alc v) 8 then(zVia,5)
 else viaB (upperL (sub (alc v) 8 (aan aaz (alc v) 8:Int)))
  (((alc v).drop (aan aaj (alc v) (aan aaz (alc v) 8:Int))).take (afr (fun c=> !asu c) ((alc v).drop (aan aaj (alc v) (aan aaz (alc v) 8:Int)))))
  (((alc v).drop (aan aaj (alc v) (aan aaz (alc v) 8:Int))).drop (afr (fun c=> !asu c) ((alc v).drop (aan aaj (alc v) (aan aaz (alc v) 8:Int)))))
theorem parM_names(s:Str)(hs:s.length<=4194304):∀(f:Nat) (l:List PP) (i:Nat),(∀p∈l,aap p.1=p.1/\p.1.length<=s.length/\p.2.1.length<=90000000)->∀p∈(parM s f l i).1,aap p.1=p.1/\p.1.length<=s.length/\p.2.1.length<=90000000
 |0,_,_,_=>by simp [parM]
 |f+1,l,i,h=>by
  rw [parM];split
  ·exact h
  ·split
   ·simp
   ·split
    ·rename_i h0;have hb2:=adg aaj s ((aan aaj s (i:Int)+1:Nat):Int);have hbd:=listP_bd s hs _ hb2 h0;split
     ·refine parM_names s hs f _ _ fun p hp=> ?_
      rcases List.mem_append.1 hp with hp|hp
      ·exact h p hp
      ·rw [List.mem_singleton.1 hp];exact⟨hbd.2.2.2.1,hbd.2.2.2.2.1,hbd.2.2.2.2.2⟩
     ·simp
    ·simp
theorem parP_names(s:Str)(hs:s.length<=4194304):∀p∈(parP s).1,aap p.1=p.1/\p.1.length<=s.length/\p.2.1.length<=90000000:=parM_names s hs _ [] 0 (by simp)
theorem parP_len(s:Str):(parP s).1.length<=16:=parM_len s _ [] 0 (by simp)
theorem viaF_eq(tr h:Str)(port:Int)(rest:Str)(hr:rest.length<=4194304):((aio FU rest).bind fun(y:((List PP)×Int×UInt8))=>(if y.2.2=(0:UInt8)then((anp FU y.1 ([98,114,97,110,99,104]:Str)).bind fun(g:(Str×Bool))=>some ((tr,h,port,g.1,y.1),(0:UInt8)))else some ((([]:Str),([]:Str),(0:Int),([]:Str),([]:List PP)),y.2.2)))=some (viaF tr h port rest):=by
 have hl:=parP_len rest;have hn:=parP_names rest hr;unfold viaF;rw [params_eq rest hr,zaa];by_cases h0:(parP rest).2.2=0
 ·rw [if_pos h0,if_pos h0,get_eq _ omg (fun p hp=>by have:=(hn p hp).2.1;omega) _ (by decide),zaa];rfl
 ·rw [if_neg h0,if_neg h0];rfl
theorem port_ok(y:Int×UInt8):((if y.2=(0:UInt8)then(if y.1<(1:Int)then some true else some (decide ((65535:Int)<y.1)))else some false).bind fun(b:Bool)=>(bif b then some (3:UInt8)else some y.2))=some (if y.2=0/\(y.1<1\/65535<y.1)then 3 else y.2):=by
 by_cases h0:y.2=0
 ·rw [if_pos h0];by_cases h1:y.1<1
  ·rw [if_pos h1,if_pos ⟨h0,.inl h1⟩];rfl
  ·rw [if_neg h1];by_cases h2:65535<y.1
   ·rw [decide_eq_true h2,if_pos ⟨h0,.inr h2⟩];rfl
   ·rw [decide_eq_false h2,if_neg (by rintro⟨_,h|h⟩<;>contradiction)];rfl
 ·rw [if_neg h0,if_neg (fun h=>h0 h.1)];rfl
theorem via_eq(v:Str)(hv:v.length<=4194304):apd FU v=some (viaP v):=by
 have hl:=trimL_len v;unfold apd viaP;rw [trim_eq v hv,zaa];generalize alc v=s at hl⊢;by_cases h8:s.length<8
 ·rw [if_pos (show(s.length:Int)<8 by omega),if_pos h8];rfl
 rw [if_neg (show¬(s.length:Int)<8 by omega),if_neg h8,aac omg,upper_eq _ (by rw [zab];omega),zaa,zaa];by_cases hV:upperL (s.take 8)=VER
 ·have hV':upperL (zaS (zaf (8:Int)) s)=([83,73,80,47,50,46,48,47]:Str):=hV;have hk1:=afv aaz s 8 omg;have hk2:=adg aaz s 8;have hk1':8<=aan aaz s 8:=hk1;rw [decide_eq_true hV',zav,cond_false,if_neg (not_not_intro hV),tokEndP_eq s omg,zaa,blanks_eq s omg,zaa];generalize aan aaz s 8=k at hk1' hk2⊢;have hi1:=afv aaj s k hk2;have hi2:=adg aaj s (k:Int);generalize aan aaj s (k:Int)=i at hi1 hi2⊢;by_cases hk8:k=8
  ·rw [if_pos omg,zaa,cond_true,if_pos hk8];rfl
  rw [if_neg omg,zaa,if_neg hk8];by_cases hik:i=k
  ·rw [decide_eq_true omg,cond_true,if_pos hik];rfl
  rw [decide_eq_false omg,cond_false,if_neg hik,aac omg,upper_eq _ (by rw [show(8:Int)=((8:Nat):Int)from rfl,aoj];omega),zaa,aac omg,zaw];have hPl:(s.drop i).length<=4194304:=by rw [zao];omega
  generalize upperL (sub s (8:Int) (k:Int))=tr;generalize s.drop i=P at hPl⊢;have hsp:=ixb_spec asu P;have hspl:=aqo (fun c=> !asu c) P;have hpl:∀o:Option (Str×Str),o=some (P.take (afr (fun c=> !asu c) P),P.drop (afr (fun c=> !asu c) P))->∀f:Str×Str->Option (VV×UInt8),o.bind f=f (P.take (afr (fun c=> !asu c) P),P.drop (afr (fun c=> !asu c) P)):=fun o ho f=>by rw [ho];rfl
  rw [hpl _ (by
   rw [aac ⟨by omega,by decide,by decide⟩,asw,sep_set];by_cases hx:(0:Int)<=ixb asu P
   ·rcases hsp with h|h
    ·omega
    ·rw [if_pos hx,aac omg,aac omg,h.2.2,zaw]
   ·rcases hsp with h|h
    ·rw [if_neg hx,h.2,List.take_length,zbf]
    ·omega)]
  have hpt:(P.take (afr (fun c=> !asu c) P)).length<=4194304:=by rw [zab];omega
  have hpd:(P.drop (afr (fun c=> !asu c) P)).length<=4194304:=by rw [zao];omega
  generalize P.take (afr (fun c=> !asu c) P)=pl at hpt⊢;generalize P.drop (afr (fun c=> !asu c) P)=rest at hpd⊢;have hcl:=cutP_len pl;unfold viaB;simp only;rw [cutPort_eq pl hpt,zaa,adHost_eq _ omg,zaa];cases hh:(ase (cutP pl).1).2 with
  |false=>rfl
  |true=>
   rw [zav,cond_false,if_neg (show¬(true=false)by decide)];cases hc:(cutP pl).2.2 with
   |false=>
    rw [cond_false,zaa,zau,viaF_eq _ _ _ _ hpd,if_neg (show¬(false=true)by decide)]
   |true=>
    rw [cond_true,number_eq,zaa,port_ok,zaa,if_pos rfl];unfold portQ;by_cases hp:(numQ (cutP pl).2.1).2=0/\((numQ (cutP pl).2.1).1<1\/65535<(numQ (cutP pl).2.1).1)
    ·rw [if_pos hp,if_pos hp,if_neg (by decide),zaa,zbi,if_neg (by decide)];rfl
    ·rw [if_neg hp,if_neg hp];by_cases h0:(numQ (cutP pl).2.1).2=0
     ·rw [if_pos h0,if_pos h0,zaa,zau,viaF_eq _ _ _ _ hpd]
     ·rw [if_neg h0,if_neg h0,zaa,zbi];rfl
 ·have hV':¬upperL (zaS (zaf (8:Int)) s)=([83,73,80,47,50,46,48,47]:Str):=hV;rw [decide_eq_false hV',zaK,cond_true,if_pos hV];rfl
open Bool renaming and_eq_true -> zay, false_or -> zbu, not_false -> zaK, not_true -> zav
open List renaming drop -> zak, drop_drop -> zbr, length_append -> zae, length_cons -> zac, length_drop -> zao, length_nil -> zas, length_singleton -> zag, length_take -> zab, mem_cons_of_mem -> zaD, nil_append -> zaO, take -> zaS, take_succ_cons -> zbo
open Nat renaming le_refl -> zah, min_eq_left -> zbt, zero_add -> zbb
theorem rfUpper_lp(s:Str)(hs:s.length<=9223372036854775807)(l:Str):∀(p:Str) (fk:Nat),p.length+l.length=s.length->l.length<fk->
  akc FU s fk (p++l) (p.length:Int)=some (p++l.map amt):=by
 induction l with
 |nil=>
  intro p fk hk hf;obtain⟨fk,rfl⟩:=fkx fk;simp only [zas]at hk;rw [aol,aip,if_neg omg];rfl
 |cons c l ih0=>
  intro p fk hk hf;obtain⟨fk,rfl⟩:=fkx fk;simp only [zac]at hk hf;have hb:=mid_lt p c l;have ih:=ih0 (p++[amt c]) fk (by rw [zae,zag];omega) omg;have ok:acd ((p.length:Int)+1):=ado _ omg omg;rw [aol,aip,if_pos omg];simp only [aac hb,ata,aac ok,set_mid];by_cases h1:97<=c
  ·by_cases h2:c<=122
   ·simp only [if_pos h1,decide_eq_true h2,zaa,cond_true,upperB_up c h1 h2];rw [agz p (amt c),ih];simp
   ·simp only [if_pos h1,decide_eq_false h2,zaa,cond_false];rw [atm c (fun h=>h2 h.2)]at ih;rw [agz p c,show p++c::l=(p++[c])++l by simp,ih];simp [atm c (fun h=>h2 h.2)]
  ·simp only [if_neg h1,zaa,cond_false];rw [atm c (fun h=>h1 h.1)]at ih;rw [agz p c,show p++c::l=(p++[c])++l by simp,ih];simp [atm c (fun h=>h1 h.1)]
theorem rfUpper_eq(s:Str)(hs:s.length<=9223372036854775807):anh FU s=some (upperL s):=by
 unfold anh
 have:=rfUpper_lp s hs s [] FU (by simp) (by rw [afu];omega)
 simp only [zaO,zas,Int.natCast_zero,Int.cast_ofNat_Int]at this;rw [this];rfl
theorem find_idx{α:Type}[Inhabited α](p:α->Bool):∀l:List α,(l.find? p=none/\l.findIdx? p=none)\/∃j:Nat,j<l.length/\l.findIdx? p=some j/\l.find? p=some (el l (j:Int))
 |[]=>.inl ⟨rfl,rfl⟩
 |a::l=>by
  rw [List.find?_cons,List.findIdx?_cons];cases h:p a with
  |true=>exact .inr ⟨0,by simp,rfl,rfl⟩
  |false=>
   rcases find_idx p l with⟨h1,h2⟩|⟨j,h1,h2,h3⟩
   ·left;rw [h1,h2];exact⟨rfl,rfl⟩
   ·right
    refine⟨j+1,by simp only [zac];omega,by rw [h2];rfl, ?_⟩
    rw [h3];rw [el_nat _ _ h1,el_nat _ _ (by simp only [zac];omega)];rfl
theorem rfGet_eq(l:List PP)(hl:l.length<=4194304)(hn:∀p∈l,p.1.length<=4194304)(name:Str)(hm:name.length<=4194304):aqv FU l name=some (getP l name):=by
 unfold aqv;rw [rfFind_eq l hl hn name hm,zaa];have e:getP l name=(match l.find? (fun p=>aap p.1==aap name)with|some p=>(p.2.1,true)|none=>([],false)):=rfl;rw [e];rcases find_idx (fun p:PP=>aap p.1==aap name) l with⟨h1,h2⟩|⟨j,h1,h2,h3⟩
 ·rw [h1,h2];rfl
 ·rw [h2,h3];have hj:(0:Int)<=(j:Int)/\(j:Int)<(l.length:Int):=by omega
  have ef:fIdx (some j)=(j:Int):=rfl;rw [ef,if_neg omg,aac hj,aac hj]
theorem rfEnd_eq(s:Str)(hs:s.length<=4194304)(i:Nat)(hi:i<=s.length):ake FU s FU (i:Int)=some ((i+afr (fun c=> !asu c) (s.drop i):Nat):Int):=by
 refine skip_gen (fun c=> !asu c) s (ake FU s) ?_ ?_ ?_ (s.length-i) i FU omg (by rw [afu];omega)
 ·intro fk;rw [anj,ail,if_neg omg];rfl
 ·intro fk k hk h;have hsep:asu (at_ s (k:Int))=true:=by simpa using h
  rw [anj,ail,if_pos omg,aac omg];by_cases h59:at_ s (k:Int)=59
  ·rw [if_pos h59];rfl
  ·have hb:aaj (at_ s (k:Int))=true:=by
    unfold asu at hsep;rw [Bool.or_eq_true]at hsep;rcases hsep with h|h
    ·exact absurd (by simpa using h) h59
    ·exact h
   rw [if_neg h59,aac omg,ref_blank,zaa,hb];rfl
 ·intro fk k hk h;have hsep:asu (at_ s (k:Int))=false:=by simpa using h
  unfold asu at hsep;rw [Bool.or_eq_false_iff]at hsep;have h59:¬at_ s (k:Int)=59:=by simpa using hsep.1
  rw [anj,ail,if_pos omg,aac omg,if_neg h59,aac omg,ref_blank,zaa,hsep.2,zaK,zaa,cond_true,gok]
def colF(E:Nat):Str->Nat->Nat->Nat
 |[],_,c=>c
 |x::l,k,c=>colF E l (k+1) (if x=93 then E else if x=58 then k else c)
theorem rfCol_lp(s:Str)(hs:s.length<=4194304)(E:Nat)(hE:E<=s.length)(n:Nat):∀(k fk c:Nat),k+n=E->n<fk->
  amw FU s (E:Int) fk (c:Int) (k:Int)=some ((colF E ((s.drop k).take n) k c:Nat):Int):=by
 induction n with
 |zero=>
  intro k fk c hk hf;obtain⟨fk,rfl⟩:=fkx fk;rw [aqs,alt,if_neg omg,List.take_zero];rfl
 |succ n ih=>
  intro k fk c hk hf;obtain⟨fk,rfl⟩:=fkx fk;have hb:(0:Int)<=(k:Int)/\(k:Int)<(s.length:Int):=by omega
  have ok:acd ((k:Int)+1):=ado _ omg omg;rw [aqs,alt,if_pos omg,aok s k omg,zbo,colF];simp only [aac hb,aac ok];by_cases h93:at_ s (k:Int)=93
  ·have h58:¬at_ s (k:Int)=58:=by rw [h93];decide
   rw [if_neg h58,zaa,if_pos h93,if_pos h93];exact ih (k+1) fk E omg omg
  ·by_cases h58:at_ s (k:Int)=58
   ·rw [if_pos h58,zaa,if_neg h93,if_neg h93,if_pos h58];exact ih (k+1) fk k omg omg
   ·rw [if_neg h58,zaa,if_neg h93,if_neg h93,if_neg h58];exact ih (k+1) fk c omg omg
theorem colF_no(E:Nat):∀(B:Str) (k c:Nat),(∀b∈B,b≠58)->colF E B k c=if B.any (·==93)=true then E else c
 |[],_,_,_=>rfl
 |x::B,k,c,h=>by
  have hx:=h x (by simp);rw [colF,colF_no E B _ _ (fun b hb=>h b (zaD _ hb)),if_neg hx,List.any_cons];by_cases h93:x=93
  ·have:(x==93)=true:=by simpa using h93
   rw [if_pos h93,this,Bool.true_or,if_pos rfl];split<;>rfl
  ·have:(x==93)=false:=by simpa using h93
   rw [if_neg h93,this,zbu]
theorem colF_app(E:Nat):∀(A l:Str) (k c:Nat),colF E (A++l) k c=colF E l (k+A.length) (colF E A k c)
 |[],_,_,_=>rfl
 |x::A,l,k,c=>by
  rw [List.cons_append,colF,colF,colF_app E A l,zac];congr 1
  omega
theorem lixb_split(p:UInt8->Bool):∀l:Str,0<=api p l->∃A c B,l=A++c::B/\api p l=(A.length:Int)/\p c=true/\∀b∈B,p b=false
 |[],h=>by unfold api at h;omega
 |b::l,h=>by
  have hs:=lixb_spec p l;by_cases h1:api p l= -1
  ·have hany:l.any p=false:=by rcases hs with h|h;exact h.2;omega
   have hb:p b=true:=by
    cases hb:p b with
    |true=>rfl
    |false=>unfold api at h;rw [if_pos h1,hb]at h;simp at h
   refine⟨[],b,l,rfl, ?_,hb,fun x hx=>by have:=List.any_eq_false.1 hany x hx;simpa using this⟩
   unfold api;rw [if_pos h1,hb];rfl
  ·obtain⟨A,c,B,h2,h3,h4,h5⟩:=lixb_split p l omg;refine⟨b::A,c,B,by rw [h2];rfl, ?_,h4,h5⟩
   unfold api;rw [if_neg h1,h3,zac];omega
theorem host_58(P:Str)(h58:(58:UInt8)∈P)(h0:at_ P 0≠91):(ase P).2=false:=by
 have hb:brkB P=false:=by
  cases hx:brkB P with
  |false=>rfl
  |true=>
   unfold brkB at hx;simp only [zay,decide_eq_true_eq,beq_iff_eq]at hx;exact absurd hx.1.2 h0
 have hn:auk P=false:=by
  cases hx:auk P with
  |false=>rfl
  |true=>
   unfold auk at hx;simp only [zay]at hx;rcases spl_all 46 aci P (fun x hx'=>(num_parts x (by rw [<-oct_num];exact List.all_eq_true.1 hx.1.2 x hx')).2.2) 58 h58 with h|h
   ·exact absurd h (by decide)
   ·exact absurd h (by decide)
 have hm:namedP P=false:=by
  cases hx:namedP P with
  |false=>rfl
  |true=>
   unfold namedP at hx;simp only [zay]at hx;rcases spl_all 46 labB P (fun x hx'=>by
    have:=List.all_eq_true.1 hx.1.2 x hx'
    unfold atp at this;simp only [zay]at this;exact this.2) 58 h58 with h|h
   ·exact absurd h (by decide)
   ·exact absurd h (by decide)
 unfold ase;rw [hb,if_neg (by decide),hn,if_neg (by decide),hm,if_neg (by decide)]
def cutR(P:Str):Str×Str×Bool:=if colF P.length P 0 P.length=P.length then(P,[],false)else(P.take (colF P.length P 0 P.length),P.drop (colF P.length P 0 P.length+1),true)
theorem numQ_93(B:Str)(h:B.any (·==93)=true):numQ B=(0,5):=by
 have:B.all aci=false:=by
  cases hx:B.all aci with
  |false=>rfl
  |true=>
   obtain⟨c,hc,h93⟩:=List.any_eq_true.1 h;have hd:=List.all_eq_true.1 hx c hc
   have:c=93:=by simpa using h93
   rw [this]at hd;exact absurd hd (by decide)
 unfold numQ;rw [if_pos (.inr (.inr this))]
def viaC(tr place rest:Str):VV×UInt8:=
 if(ase (cutR place).1).2=false then(zVia,5)
 else if(cutR place).2.2=true then(if(portQ (cutR place).2.1).2=0 then viaF tr (ase (cutR place).1).1 (portQ (cutR place).2.1).1 rest else(zVia,(portQ (cutR place).2.1).2))
 else viaF tr (ase (cutR place).1).1 0 rest
theorem viaC_eq(tr P rest:Str):viaC tr P rest=viaB tr P rest:=by
 by_cases hx:api (·==(58:UInt8)) P<0
 ·have hno:∀b∈P,b≠58:=by
   rcases lixb_spec (·==(58:UInt8)) P with h|h
   ·intro b hb
    have:=List.any_eq_false.1 h.2 b hb
    simpa using this
   ·omega
  have e1:cutP P=(P,[],false):=by unfold cutP;rw [if_pos hx]
  have e2:cutR P=(P,[],false):=by
   unfold cutR
   have:colF P.length P 0 P.length=P.length:=by rw [colF_no _ _ _ _ hno];split<;>rfl
   rw [if_pos this]
  unfold viaC viaB;rw [e1,e2]
 ·obtain⟨A,c,B,hP,hA,hc,hB⟩:=lixb_split (·==(58:UInt8)) P omg;have hc58:c=58:=by simpa using hc
  subst hc58;have hB':∀b∈B,b≠58:=fun b hb=>by simpa using hB b hb
  have hcol:colF P.length P 0 P.length=if B.any (·==93)=true then P.length else A.length:=by
   conv=>lhs;rw [show colF P.length P 0 P.length=colF P.length (A++58::B) 0 P.length from by rw [<-hP]]
   rw [colF_app,colF,if_neg (by decide),if_pos rfl,colF_no _ _ _ _ hB',zbb]
  have hlen:P.length=A.length+(B.length+1):=by rw [hP,zae,zac]
  have hdr:((A.length:Int)+1).toNat=(A++[58]).length:=by simp
  have hcut:cutP P=if(A.any (·==91)&&B.any (·==93))=true then(P,[],false)else(A,B,true):=by
   unfold cutP;rw [if_neg hx,hA,zaw,hdr];have t1:P.take A.length=A:=by rw [hP,List.take_left]
   have t2:P.drop A.length=58::B:=by rw [hP,List.drop_left]
   have t3:P.drop (A++[58]).length=B:=by rw [hP,show A++58::B=(A++[58])++B by simp,List.drop_left]
   rw [t1,t2,t3,List.any_cons,show((58:UInt8)==93)=false by decide,zbu]
  cases h93:B.any (·==93)with
  |false=>
   have e2:cutR P=(A,B,true):=by
    have hcol':colF P.length P 0 P.length=A.length:=by rw [hcol,h93];exact if_neg (by decide)
    unfold cutR;rw [hcol',if_neg omg];have t1:P.take A.length=A:=by rw [hP,List.take_left]
    have t3:P.drop (A.length+1)=B:=by rw [hP,show A++58::B=(A++[58])++B by simp,show A.length+1=(A++[58]).length by simp,List.drop_left]
    rw [t1,t3]
   have e1:cutP P=(A,B,true):=by rw [hcut,h93,Bool.and_false,if_neg (by decide)]
   unfold viaC viaB;rw [e1,e2]
  |true=>
   have e2:cutR P=(P,[],false):=by
    have hcol':colF P.length P 0 P.length=P.length:=by rw [hcol,h93];exact if_pos rfl
    unfold cutR;rw [if_pos hcol']
   cases h91:A.any (·==91)with
   |true=>
    have e1:cutP P=(P,[],false):=by rw [hcut,h93,h91,if_pos (by decide)]
    unfold viaC viaB;rw [e1,e2]
   |false=>
    have e1:cutP P=(A,B,true):=by rw [hcut,h93,h91,if_neg (by decide)]
    have hq:portQ B=(0,5):=by
     unfold portQ;rw [numQ_93 B h93,if_neg (by rintro⟨h,_⟩;exact absurd h (by decide))]
    have hbad:(ase P).2=false:=by
     refine host_58 P (by rw [hP];simp) ?_;intro h0;cases A with
     |nil=>
      rw [hP]at h0;exact absurd (show(58:UInt8)=91 from h0) (by decide)
     |cons a A=>
      have ha:a=91:=by rw [hP]at h0;simpa [at_] using h0
      rw [ha]at h91;simp at h91
    unfold viaC viaB;rw [e1,e2];simp only;rw [hbad,if_pos rfl,hq];by_cases hA':(ase A).2=false
    ·rw [if_pos hA']
    ·rw [if_neg hA',if_pos trivial,if_neg (by decide)]
theorem colF_le(E:Nat):∀(P:Str) (k c:Nat),k+P.length<=E->c<=E->colF E P k c<=E
 |[],_,_,_,hc=>hc
 |x::P,k,c,h,hc=>by
  rw [zac]at h;rw [colF];refine colF_le E P (k+1) _ omg ?_;split
  ·omega
  ·split<;>omega
theorem colF_shift(d E:Nat):∀(P:Str) (k c:Nat),colF (d+E) P (d+k) (d+c)=d+colF E P k c
 |[],_,_=>rfl
 |x::P,k,c=>by
  rw [colF,colF,<-colF_shift d E P];congr 1
  split
  ·rfl
  ·split<;>rfl
theorem rfViaF_eq(tr h:Str)(port:Int)(rest:Str)(hr:rest.length<=4194304):((amf FU rest).bind fun(y:((List PP)×Int×UInt8))=>(if y.2.2=(0:UInt8)then((aqv FU y.1 ([98,114,97,110,99,104]:Str)).bind fun(g:(Str×Bool))=>some ((tr,h,port,g.1,y.1),(0:UInt8)))else some ((([]:Str),([]:Str),(0:Int),([]:Str),([]:List PP)),y.2.2)))=some (viaF tr h port rest):=by
 have hl:=parP_len rest;have hn:=parP_names rest hr;unfold viaF;rw [rfParams_eq rest hr,zaa];by_cases h0:(parP rest).2.2=0
 ·rw [if_pos h0,if_pos h0,rfGet_eq _ omg (fun p hp=>by have:=(hn p hp).2.1;omega) _ (by decide),zaa];rfl
 ·rw [if_neg h0,if_neg h0];rfl
theorem rfVia_eq(v:Str)(hv:v.length<=4194304):aqt FU v=some (viaP v):=by
 have hl:=trimL_len v;unfold aqt viaP;rw [refTrim_eq v hv,zaa];generalize alc v=s at hl⊢;have hk2:=adg aaz s 8;rw [asv s omg,zaa,aky s omg,zaa];by_cases h8:s.length<8
 ·rw [if_pos (show(s.length:Int)<8 by omega),if_pos h8];rfl
 have hk1:8<=aan aaz s 8:=afv aaz s 8 omg;rw [if_neg (show¬(s.length:Int)<8 by omega),if_neg h8,aac omg,rfUpper_eq _ (by rw [zab];omega),zaa];by_cases hV:upperL (s.take 8)=VER
 ·have hV':upperL (zaS (zaf (8:Int)) s)=([83,73,80,47,50,46,48,47]:Str):=hV;rw [if_pos hV',if_neg (not_not_intro hV)];generalize aan aaz s 8=k at hk1 hk2⊢;have hi1:=afv aaj s k hk2;have hi2:=adg aaj s (k:Int);generalize aan aaj s (k:Int)=i at hi1 hi2⊢;by_cases hk8:k=8
  ·rw [if_pos omg,if_pos hk8];rfl
  rw [if_neg omg,zaa,if_neg hk8];by_cases hik:i=k
  ·rw [decide_eq_true omg,if_pos hik];rfl
  rw [decide_eq_false omg,cond_false,if_neg hik,rfEnd_eq s omg i hi2,zaa];have hsp:=aqo (fun c=> !asu c) (s.drop i);rw [zao]at hsp;have hPl:((s.drop i).take (afr (fun c=> !asu c) (s.drop i))).length=afr (fun c=> !asu c) (s.drop i):=by rw [zab,zao];omega
  have hsplit:s=s.take i++((s.drop i).take (afr (fun c=> !asu c) (s.drop i))++(s.drop i).drop (afr (fun c=> !asu c) (s.drop i))):=by rw [List.take_append_drop,List.take_append_drop]
  have hdr:zak (i+afr (fun c=> !asu c) (s.drop i)) s=(s.drop i).drop (afr (fun c=> !asu c) (s.drop i)):=by rw [zbr]
  have hcol:=rfCol_lp s omg (i+afr (fun c=> !asu c) (s.drop i)) omg (afr (fun c=> !asu c) (s.drop i)) i FU (i+afr (fun c=> !asu c) (s.drop i)) rfl (by rw [afu];omega);have hsub:∀m:Nat,m<=afr (fun c=> !asu c) (s.drop i)->sub s (i:Int) ((i+m:Nat):Int)=((s.drop i).take (afr (fun c=> !asu c) (s.drop i))).take m:=by
   intro m hm;unfold sub;rw [zaw,zaw,Nat.add_sub_cancel_left,List.take_take,zbt hm]
  have hsub2:∀m:Nat,m<afr (fun c=> !asu c) (s.drop i)->sub s (((i+m:Nat):Int)+1) ((i+afr (fun c=> !asu c) (s.drop i):Nat):Int)=((s.drop i).take (afr (fun c=> !asu c) (s.drop i))).drop (m+1):=by
   intro m hm;unfold sub;have e1:(((i+m:Nat):Int)+1).toNat=i+(m+1):=by omega
   rw [zaw,e1,List.drop_take,zbr];congr 1
   omega
  have hshift:=colF_shift i (afr (fun c=> !asu c) (s.drop i)) ((s.drop i).take (afr (fun c=> !asu c) (s.drop i))) 0 (afr (fun c=> !asu c) (s.drop i));have hcle:=colF_le (afr (fun c=> !asu c) (s.drop i)) ((s.drop i).take (afr (fun c=> !asu c) (s.drop i))) 0 (afr (fun c=> !asu c) (s.drop i)) omg (zah _);rw [Nat.add_zero]at hshift;rw [hshift]at hcol;have hrl:((s.drop i).drop (afr (fun c=> !asu c) (s.drop i))).length<=4194304:=by rw [zao,zao];omega
  rw [hcol,zaa];rw [<-viaC_eq];unfold viaC cutR;rw [hPl]
  generalize(s.drop i).drop (afr (fun c=> !asu c) (s.drop i))=rest at hdr hrl⊢
  generalize hn:afr (fun c=> !asu c) (s.drop i)=n at hsp hPl hsub hsub2 hcle hdr⊢
  generalize(s.drop i).take n=pl at hPl hsub hsub2 hcle⊢
  generalize colF n pl 0 n=m at hcle⊢;have hend:((i+n:Nat):Int).toNat=i+n:=by omega
  rw [aac omg,hsub m hcle];by_cases hmn:m=n
  ·have e1:pl.take m=pl:=by rw [hmn,<-hPl,List.take_length]
   rw [if_pos hmn,e1,rfHost_eq _ omg,zaa];simp only;cases hh:(ase pl).2 with
   |false=>rfl
   |true=>
    rw [zav,cond_false,aac omg,rfUpper_eq _ (by rw [show(8:Int)=((8:Nat):Int)from rfl,aoj];omega),zaa,if_neg (show¬((i+m:Nat):Int)<((i+n:Nat):Int)by omega),zaa,zau,aac omg,hend,hdr,rfViaF_eq _ _ _ _ hrl,if_neg (by decide),if_neg (by decide)]
  ·have e1:(pl.take m).length<=4194304:=by rw [zab];omega
   rw [if_neg hmn,rfHost_eq _ e1,zaa];simp only;cases hh:(ase (pl.take m)).2 with
   |false=>rfl
   |true=>
    rw [zav,cond_false,aac omg,rfUpper_eq _ (by rw [show(8:Int)=((8:Nat):Int)from rfl,aoj];omega),zaa,if_pos (show((i+m:Nat):Int)<((i+n:Nat):Int)by omega),aac (ado _ omg omg),aac omg,hsub2 m omg,refPort_eq _ (by rw [zao];omega),zaa,if_neg (show¬(true=false)by decide),if_pos trivial];by_cases h0:(portQ (pl.drop (m+1))).2=0
    ·rw [if_pos h0,if_pos h0,zaa,zau,aac omg,hend,hdr,rfViaF_eq _ _ _ _ hrl]
    ·rw [if_neg h0,if_neg h0,zaa,zbi];rfl
 ·have hV':¬upperL (zaS (zaf (8:Int)) s)=([83,73,80,47,50,46,48,47]:Str):=hV;rw [if_neg hV',if_pos hV];rfl
open Bool renaming not_false -> zaK, not_true -> zav
open List renaming append_assoc -> zbg, append_nil -> zaG, flatMap_cons -> zaJ, length -> zaT, length_append -> zae, length_cons -> zac, length_drop -> zao, length_nil -> zas, length_take -> zab, map_cons -> zaC, mem_cons_of_mem -> zaD, mem_cons_self -> zaI, mem_of_mem_take -> zbh, nil_append -> zaO
open Nat renaming le_refl -> zah, le_trans -> zaF
theorem elemR_vls{name:Str}{a:HH}(h:nmP name a=true):vlsP name a=elemR a:=by
 unfold vlsP elemR;rw [if_pos h,mnyQ_eq h]
theorem rall_lp(m:MM)(name:Str)(hn:name.length<=4194303)(hl:Sm m.2.2.2.2.1)(q:List HH):∀(p:List HH) (fk:Nat) (acc:List Str),m.2.2.2.2.1=p++q->q.length<fk->acc.length+hsz q+q.length<=100000000->
  akb FU m name fk acc (p.length:Int)=some (acc++q.flatMap (vlsP name)):=by
 induction q with
 |nil=>
  intro p fk acc h hf ha;obtain⟨fk,rfl⟩:=fkx fk;rw [zaG]at h;rw [aqq,als,if_neg (by rw [h];omega)];simp
 |cons a q ih=>
  intro p fk acc h hf ha;obtain⟨fk,rfl⟩:=fkx fk;have hll:=congrArg zaT h;simp only [zae,zac]at hll hf;have hln:=hl.1;have hb:(0:Int)<=(p.length:Int)/\(p.length:Int)<(m.2.2.2.2.1.length:Int):=by omega
  have he:el m.2.2.2.2.1 (p.length:Int)=a:=by rw [h];simp [el]
  have hsa:=hl.2 a (by rw [h];simp);have hq:hsz (a::q)=a.1.length+a.2.length+hsz q:=by unfold hsz;rw [zaC,List.sum_cons]
  rw [hq,zac]at ha;have hv:=vls_len name a;have hvl:(vlsP name a).length<=a.2.length+1:=by unfold szL at hv;omega
  have hi:((p.length:Int)+1)=((p++[a]).length:Int):=by simp
  have hg:acd ((p.length:Int)+1):=ado _ (by omega) (by omega);rw [aqq,als,if_pos hb.2,aac hb,aac hb,he,is_eq a name hsa.1 hn,zaa];by_cases h0:nmP name a=true
  ·rw [h0,cond_true,aac hb,aac hb,relem_eq a hsa.1 hsa.2,zaa,<-elemR_vls h0,aac (by omega),aac hg,hi,
    ih (p++[a]) fk (acc++vlsP name a) (by rw [h];simp) (by omega) (by rw [zae];omega),zaJ,zbg]
  ·have h0':nmP name a=false:=by simpa using h0
   have hv0:vlsP name a=[]:=by unfold vlsP;rw [if_neg h0]
   rw [h0',cond_false,aac hg,hi,ih (p++[a]) fk acc (by rw [h];simp) (by omega) (by omega),zaJ,hv0,zaO]
theorem rall_eq(m:MM)(name:Str)(hl:Sm m.2.2.2.2.1)(hz:hsz m.2.2.2.2.1<=4194303)(hn:name.length<=4194303):aqr FU m name=some (asn m.2.2.2.2.1 name):=by
 unfold aqr asn;have hln:=hl.1
 have:=rall_lp m name hn hl m.2.2.2.2.1 [] FU [] rfl (by rw [afu];omega) (by simp;omega)
 have this':akb FU m name FU [] (0:Int)=_:=this;rw [this',zaa,zaO]
theorem portQ_bd(s:Str)(h:(portQ s).2=0):1<=(portQ s).1/\(portQ s).1<=65535:=by
 unfold portQ at h⊢;split at h
 ·exact absurd h (show¬(3:UInt8)=0 by decide)
 ·rename_i hc;rw [if_neg hc];constructor
  ·by_cases h1:(numQ s).1<1
   ·exact absurd ⟨h,.inl h1⟩ hc
   ·omega
  ·by_cases h1:65535<(numQ s).1
   ·exact absurd ⟨h,.inr h1⟩ hc
   ·omega
theorem viaP_port(v:Str):0<=(viaP v).1.2.2.1/\(viaP v).1.2.2.1<=65535:=by
 have hz:(0:Int)<=zVia.2.2.1/\zVia.2.2.1<=65535:=by decide
 have hF:∀tr h (port:Int) rest,0<=port->port<=65535->0<=(viaF tr h port rest).1.2.2.1/\(viaF tr h port rest).1.2.2.1<=65535:=by
  intro tr h port rest h1 h2;unfold viaF;split
  ·exact⟨h1,h2⟩
  ·exact hz
 have hB:∀tr place rest,0<=(viaB tr place rest).1.2.2.1/\(viaB tr place rest).1.2.2.1<=65535:=by
  intro tr place rest;unfold viaB;split
  ·exact hz
  ·split
   ·split
    ·rename_i h;obtain⟨h1,h2⟩:=portQ_bd _ h;exact hF _ _ _ _ (by omega) h2
    ·exact hz
   ·exact hF _ _ _ _ (by decide) (by decide)
 unfold viaP;split
 ·exact hz
 ·split
  ·exact hz
  ·split
   ·exact hz
   ·split
    ·exact hz
    ·exact hB _ _ _
theorem cutP_hlen(P:Str):(cutP P).1.length<=P.length:=by
 unfold cutP;split
 ·exact zah _
 ·split
  ·exact zah _
  ·simp only [zab];omega
theorem viaP_hlen(v:Str):(viaP v).1.2.1.length<=60000002+v.length:=by
 have hl:=trimL_len v;have hF:∀tr h (port:Int) rest,(viaF tr h port rest).1.2.1.length<=h.length:=by
  intro tr h port rest;unfold viaF;split
  ·exact zah _
  ·exact Nat.zero_le _
 have hB:∀tr place rest,(viaB tr place rest).1.2.1.length<=60000002+place.length:=by
  intro tr place rest;have h1:=hostP_len (cutP place).1;have h2:=cutP_hlen place;have h3:zVia.2.1.length=0:=rfl;unfold viaB;split
  ·dsimp only;omega
  ·split
   ·split
    ·exact zaF (hF _ _ _ _) (by omega)
    ·dsimp only;omega
   ·exact zaF (hF _ _ _ _) (by omega)
 have h3:zVia.2.1.length=0:=rfl;unfold viaP;split
 ·dsimp only;omega
 ·split
  ·dsimp only;omega
  ·split
   ·dsimp only;omega
   ·split
    ·dsimp only;omega
    ·exact zaF (hB _ _ _) (by rw [zab,zao];omega)
def plcP(u:VV×UInt8):Str:=u.1.2.1++[58]++Lib.itoa (if u.1.2.2.1=0 then 5060 else u.1.2.2.1)
theorem plc_eq(h:Str)(n:Int)(hh:h.length<=100000000)(h0:0<=n)(h1:n<=65535):ahi FU h n=some (h++[58]++Lib.itoa (if n=0 then 5060 else n)):=by
 unfold ahi;have h3:0<=(if n=0 then(5060:Int)else n)/\(if n=0 then(5060:Int)else n)<=65535:=by split<;>omega
 have h4:(if n=0 then some (5060:Int)else some n)=some (if n=0 then 5060 else n):=by split<;>rfl
 rw [h4,zaa]
 generalize(if n=0 then(5060:Int)else n)=k at h3⊢
 obtain⟨_,_,h5,_⟩:=itoa_port k h3.1 h3.2;rw [aac (by simp only [zac,zas];omega),aac (ado _ (by omega) (by omega)),aac (by simp only [zae,zac,zas];omega)]
theorem rport_eq(n:Int)(h0:0<=n)(h1:n<=65535):aox FU n=some (Lib.itoa (if n=0 then 5060 else n)):=by
 unfold aox;by_cases h:n=0
 ·rw [if_pos h,if_pos h,rfDecimal_eq _ (by decide) (by decide),zaa]
 ·rw [if_neg h,if_neg h,rfDecimal_eq _ h0 (by omega),zaa]
def aoa:Str:=[86,105,97]
def zMM:MM:=([],[],0,[],[],[])
def backP(m:MM)(place:Str):MM×Str×UInt8:=
 if m.2.2.1<100\/699<m.2.2.1 then(zMM,[],2)
 else if(asn m.2.2.2.2.1 aoa).length=0 then(zMM,[],8)
 else if(viaP (el (asn m.2.2.2.2.1 aoa) 0)).2=0/\plcP (viaP (el (asn m.2.2.2.2.1 aoa) 0))=place then
  (if(asn (dfP m.2.2.2.2.1 aoa) aoa).length=0 then((m.1,m.2.1,m.2.2.1,m.2.2.2.1,dfP m.2.2.2.2.1 aoa,m.2.2.2.2.2),[],0)
  else if(viaP (el (asn (dfP m.2.2.2.2.1 aoa) aoa) 0)).2=0 then((m.1,m.2.1,m.2.2.1,m.2.2.2.1,dfP m.2.2.2.2.1 aoa,m.2.2.2.2.2),plcP (viaP (el (asn (dfP m.2.2.2.2.1 aoa) aoa) 0)),0)
  else((m.1,m.2.1,m.2.2.1,m.2.2.2.1,dfP m.2.2.2.2.1 aoa,m.2.2.2.2.2),[],0))
 else(zMM,[],8)
structure Tiny (l:List HH):Prop where
 n:l.length<=40
 h:∀x∈l,x.1.length<=80/\x.2.length<=5000
theorem Tiny.sm{l:List HH}(h:Tiny l):Sm l:=⟨by have:=h.n;omega,fun x hx=>by have:=h.h x hx;omega⟩
theorem tiny_hsz:∀(l:List HH),(∀x∈l,x.1.length<=80/\x.2.length<=5000)->hsz l<=5080*l.length
 |[],_=>zah _
 |a::l,h=>by
  have h1:=h a zaI;have h2:=tiny_hsz l (fun x hx=>h x (zaD _ hx));unfold hsz at*;rw [zaC,List.sum_cons,zac];omega
theorem Tiny.hsz{l:List HH}(h:Tiny l):hsz l<=4194303:=by have:=tiny_hsz l h.h;have:=h.n;omega
theorem mem_szL{l:List Str}{x:Str}(h:x∈l):x.length+1<=szL l:=by
 induction l with
 |nil=>cases h
 |cons a l ih=>
  rcases List.mem_cons.1 h with rfl|h
  ·simp [szL];omega
  ·have:=ih h;simp [szL]at*;omega
theorem all_mem{l:List HH}{name x:Str}(h:∀y∈l,y.1.length<=80/\y.2.length<=5000)(hx:x∈asn l name):x.length<=5000:=by
 unfold asn at hx;obtain⟨a,ha,hxa⟩:=List.mem_flatMap.1 hx
 have:=mem_szL hxa
 have:=vls_len name a
 have:=(h a ha).2
 omega
theorem all_at{l:List HH}{name:Str}(h:∀y∈l,y.1.length<=80/\y.2.length<=5000)(hn:¬(asn l name).length=0):(el (asn l name) 0).length<=5000:=by
 refine all_mem h (name:=name) ?_;exact el_mem' _ 0 (by omega)
theorem df_tiny(l:List HH)(name:Str)(hn:l.length<=40)(h:∀x∈l,x.1.length<=80/\x.2.length<=400):Tiny (dfP l name):=by
 have h':∀x∈l,x.1.length<=80/\x.2.length<=5000:=fun x hx=>by have:=h x hx;omega
 unfold dfP;split
 ·exact⟨hn,h'⟩
 ·rename_i hi;have hlt:=ixP_lt (nmP name) l;have hm:el l (ixP (nmP name) l)∈l:=by
   obtain⟨k,hk⟩:=Int.eq_ofNat_of_zero_le (a:=ixP (nmP name) l) (by omega);rw [hk];exact el_mem' _ k (by omega)
  split
  ·refine⟨by rw [List.length_set];exact hn,fun x hx=> ?_⟩
   rcases List.mem_or_eq_of_mem_set hx with hx|rfl
   ·exact h' x hx
   ·have h1:=h _ hm;refine⟨h1.1, ?_⟩
    have hj:=join_len3 [44,32] ((atr (el l (ixP (nmP name) l)).2).drop 1);have hz:=elemP_len (el l (ixP (nmP name) l)).2;have hz2:=szL_drop (atr (el l (ixP (nmP name) l)).2);unfold szL at hz hz2;simp only [zac,zas]at hj;dsimp only;omega
  ·unfold delL;refine⟨by rw [zae,zab,zao];omega,fun x hx=> ?_⟩
   rcases List.mem_append.1 hx with hx|hx
   ·exact h' x (zbh hx)
   ·exact h' x (List.mem_of_mem_drop hx)
theorem back_eq(m:MM)(place:Str)(hn:m.2.2.2.2.1.length<=40)(h:∀x∈m.2.2.2.2.1,x.1.length<=80/\x.2.length<=400)(hb:m.2.2.2.2.2.length<=4194304):aoc FU m place=some (backP m place):=by
 have ht:Tiny m.2.2.2.2.1:=⟨hn,fun x hx=>by have:=h x hx;omega⟩
 have hd:=df_tiny m.2.2.2.2.1 aoa hn h;have hV:aoa.length<=4194303:=by decide
 unfold aoc backP;have hc:(if m.2.2.1<(100:Int)then some true else some (decide ((699:Int)<m.2.2.1)))=some (decide (m.2.2.1<100\/699<m.2.2.1)):=by
  by_cases h1:m.2.2.1<100
  ·rw [if_pos h1,decide_eq_true (Or.inl h1)]
  ·rw [if_neg h1];congr 1;simp [h1]
 rw [hc,zaa];by_cases h1:m.2.2.1<100\/699<m.2.2.1
 ·rw [decide_eq_true h1,cond_true,if_pos h1];rfl
 ·rw [decide_eq_false h1,cond_false,if_neg h1,show([86,105,97]:Str)=aoa from rfl,all_eq m aoa ht.sm ht.hsz hV,zaa];by_cases h2:(asn m.2.2.2.2.1 aoa).length=0
  ·rw [if_pos (by omega),if_pos h2];rfl
  ·have ha:=all_at ht.h h2;have hp:=viaP_port (el (asn m.2.2.2.2.1 aoa) 0);have hvl:=viaP_hlen (el (asn m.2.2.2.2.1 aoa) 0);rw [if_neg (by omega),if_neg h2,aac (by omega),aac (by omega),via_eq _ (by omega),zaa];by_cases h3:(viaP (el (asn m.2.2.2.2.1 aoa) 0)).2=0
   ·rw [if_pos h3,plc_eq _ _ (by omega) hp.1 hp.2,zaa,zaa];by_cases h4:plcP (viaP (el (asn m.2.2.2.2.1 aoa) 0))=place
    ·have h4':(viaP (el (asn m.2.2.2.2.1 aoa) 0)).1.2.1++[58]++Lib.itoa (if(viaP (el (asn m.2.2.2.2.1 aoa) 0)).1.2.2.1=0 then 5060 else(viaP (el (asn m.2.2.2.2.1 aoa) 0)).1.2.2.1)=place:=h4;rw [decide_eq_true h4',zav,cond_false,if_pos ⟨h3,h4⟩,mdf_eq m aoa ht.sm hb hV,zaa,all_eq _ aoa hd.sm hd.hsz hV,zaa];dsimp only;by_cases h5:(asn (dfP m.2.2.2.2.1 aoa) aoa).length=0
     ·rw [if_pos (by omega),if_pos h5]
     ·have ha2:=all_at hd.h h5;have hp2:=viaP_port (el (asn (dfP m.2.2.2.2.1 aoa) aoa) 0);have hvl2:=viaP_hlen (el (asn (dfP m.2.2.2.2.1 aoa) aoa) 0);rw [if_neg (by omega),if_neg h5,aac (by omega),aac (by omega),via_eq _ (by omega),zaa];by_cases h6:(viaP (el (asn (dfP m.2.2.2.2.1 aoa) aoa) 0)).2=0
      ·rw [if_pos h6,if_pos h6,plc_eq _ _ (by omega) hp2.1 hp2.2,zaa];rfl
      ·rw [if_neg h6,if_neg h6]
    ·have h4':¬(viaP (el (asn m.2.2.2.2.1 aoa) 0)).1.2.1++[58]++Lib.itoa (if(viaP (el (asn m.2.2.2.2.1 aoa) 0)).1.2.2.1=0 then 5060 else(viaP (el (asn m.2.2.2.2.1 aoa) 0)).1.2.2.1)=place:=h4;rw [decide_eq_false h4',zaK,cond_true,if_neg (fun h=>h4 h.2)];rfl
   ·rw [if_neg h3,zaa,cond_true,if_neg (fun h=>h3 h.1)];rfl
open List renaming append_nil -> zaG, length -> zaT, length_append -> zae, length_cons -> zac, length_nil -> zas
theorem rplc(h:Str)(n:Int)(hh:h.length<=100000000)(h0:0<=n)(h1:n<=65535):h.length+([58]:Str).length<=9223372036854775807/\(h++([58]:Str)).length+(Lib.itoa (if n=0 then 5060 else n)).length<=9223372036854775807:=by
 have h3:0<=(if n=0 then(5060:Int)else n)/\(if n=0 then(5060:Int)else n)<=65535:=by split<;>omega
 obtain⟨_,_,h5,_⟩:=itoa_port _ h3.1 h3.2;simp only [zae,zac,zas];omega
theorem rback_eq(m:MM)(place:Str)(hn:m.2.2.2.2.1.length<=40)(h:∀x∈m.2.2.2.2.1,x.1.length<=80/\x.2.length<=400):arc FU m place=some (backP m place):=by
 have ht:Tiny m.2.2.2.2.1:=⟨hn,fun x hx=>by have:=h x hx;omega⟩
 have hd:=df_tiny m.2.2.2.2.1 aoa hn h;have hV:aoa.length<=4194303:=by decide
 unfold arc backP;have hc:(if m.2.2.1<(100:Int)then some true else some (decide ((699:Int)<m.2.2.1)))=some (decide (m.2.2.1<100\/699<m.2.2.1)):=by
  by_cases h1:m.2.2.1<100
  ·rw [if_pos h1,decide_eq_true (Or.inl h1)]
  ·rw [if_neg h1];congr 1;simp [h1]
 rw [hc,zaa];by_cases h1:m.2.2.1<100\/699<m.2.2.1
 ·rw [decide_eq_true h1,cond_true,if_pos h1];rfl
 ·rw [decide_eq_false h1,cond_false,if_neg h1,show([86,105,97]:Str)=aoa from rfl,rall_eq m aoa ht.sm ht.hsz hV,zaa];by_cases h2:(asn m.2.2.2.2.1 aoa).length=0
  ·rw [if_pos omg,if_pos h2];rfl
  ·have ha:=all_at ht.h h2;have hp:=viaP_port (el (asn m.2.2.2.2.1 aoa) 0);have hvl:=viaP_hlen (el (asn m.2.2.2.2.1 aoa) 0);rw [if_neg omg,if_neg h2,aac omg,aac omg,rfVia_eq _ omg,zaa];by_cases h3:(viaP (el (asn m.2.2.2.2.1 aoa) 0)).2=0
   ·have hg:=rplc (viaP (el (asn m.2.2.2.2.1 aoa) 0)).1.2.1 _ omg hp.1 hp.2;rw [if_pos h3,aac hg.1,rport_eq _ hp.1 hp.2,zaa,aac hg.2,zaa];by_cases h4:plcP (viaP (el (asn m.2.2.2.2.1 aoa) 0))=place
    ·have h4':(viaP (el (asn m.2.2.2.2.1 aoa) 0)).1.2.1++[58]++Lib.itoa (if(viaP (el (asn m.2.2.2.2.1 aoa) 0)).1.2.2.1=0 then 5060 else(viaP (el (asn m.2.2.2.2.1 aoa) 0)).1.2.2.1)=place:=h4;rw [decide_eq_true h4',zav,cond_false,if_pos ⟨h3,h4⟩,rDF_eq m aoa ht.sm hV,zaa,rall_eq _ aoa hd.sm hd.hsz hV,zaa];dsimp only;by_cases h5:(asn (dfP m.2.2.2.2.1 aoa) aoa).length=0
     ·rw [if_pos omg,if_pos h5]
     ·have ha2:=all_at hd.h h5;have hp2:=viaP_port (el (asn (dfP m.2.2.2.2.1 aoa) aoa) 0);have hvl2:=viaP_hlen (el (asn (dfP m.2.2.2.2.1 aoa) aoa) 0);rw [if_neg omg,if_neg h5,aac omg,aac omg,rfVia_eq _ omg,zaa];by_cases h6:(viaP (el (asn (dfP m.2.2.2.2.1 aoa) aoa) 0)).2=0
      ·have hg2:=rplc (viaP (el (asn (dfP m.2.2.2.2.1 aoa) aoa) 0)).1.2.1 _ omg hp2.1 hp2.2;rw [if_pos h6,if_pos h6,aac hg2.1,rport_eq _ hp2.1 hp2.2,zaa,aac hg2.2];rfl
      ·rw [if_neg h6,if_neg h6]
    ·have h4':¬(viaP (el (asn m.2.2.2.2.1 aoa) 0)).1.2.1++[58]++Lib.itoa (if(viaP (el (asn m.2.2.2.2.1 aoa) 0)).1.2.2.1=0 then 5060 else(viaP (el (asn m.2.2.2.2.1 aoa) 0)).1.2.2.1)=place:=h4;rw [decide_eq_false h4',zaK,cond_true,if_neg (fun h=>h4 h.2)];rfl
   ·rw [if_neg h3,zaa,cond_true,if_neg (fun h=>h3 h.1)];rfl
theorem small_lp(m:MM)(hl:m.2.2.2.2.1.length<=40)(q:List HH):∀(p:List HH) (fk:Nat),m.2.2.2.2.1=p++q->q.length<fk->
  (aeb FU m fk (p.length:Int)=some (.inl ())/\∀x∈q,x.1.length<=80/\x.2.length<=400)\/aeb FU m fk (p.length:Int)=some (.inr false):=by
 induction q with
 |nil=>
  intro p fk h hf;obtain⟨fk,rfl⟩:=fkx fk;rw [zaG]at h;left
  rw [aos,aja,if_neg (by rw [h];omega)];simp
 |cons a q ih=>
  intro p fk h hf;obtain⟨fk,rfl⟩:=fkx fk;have hll:=congrArg zaT h;simp only [zae,zac]at hll hf;have hb:(0:Int)<=(p.length:Int)/\(p.length:Int)<(m.2.2.2.2.1.length:Int):=by omega
  have he:el m.2.2.2.2.1 (p.length:Int)=a:=by rw [h];simp [el]
  have hi:((p.length:Int)+1)=((p++[a]).length:Int):=by simp
  have hg:acd ((p.length:Int)+1):=ado _ omg omg;rw [aos,aja,if_pos hb.2,aac hb,aac hb,he];by_cases h1:(80:Int)<(a.1.length:Int)
  ·right
   rw [if_pos h1,zaa,cond_true]
  ·rw [if_neg h1,aac hb,aac hb,zaa];by_cases h2:(400:Int)<(a.2.length:Int)
   ·right
    rw [decide_eq_true h2,cond_true]
   ·rw [decide_eq_false h2,cond_false,aac hg,hi];rcases ih (p++[a]) fk (by rw [h];simp) omg with⟨h3,h4⟩|h3
    ·left
     refine⟨h3,fun x hx=> ?_⟩
     rcases List.mem_cons.1 hx with rfl|hx
     ·omega
     ·exact h4 x hx
    ·right;exact h3
theorem small_law(m:MM):ann FU m=some false\/(ann FU m=some true/\m.2.2.2.2.1.length<=40/\m.2.2.2.2.2.length<=300/\∀x∈m.2.2.2.2.1,x.1.length<=80/\x.2.length<=400):=by
 unfold ann;by_cases h1:(40:Int)<(m.2.2.2.2.1.length:Int)
 ·left;rw [if_pos h1,zaa,cond_true]
 ·rw [if_neg h1];by_cases h2:(300:Int)<(m.2.1.length:Int)
  ·left;rw [if_pos h2,zaa,cond_true]
  ·rw [if_neg h2,zaa];by_cases h3:(300:Int)<(m.2.2.2.2.2.length:Int)
   ·left;rw [decide_eq_true h3,cond_true]
   ·rw [decide_eq_false h3,cond_false];rcases small_lp m omg m.2.2.2.2.1 [] FU rfl (by rw [afu];omega)with⟨h4,h5⟩|h4
    ·right
     have h4':aeb FU m FU (0:Int)=_:=h4;rw [h4',zaa,zau];exact⟨rfl,by omega,by omega,h5⟩
    ·left
     have h4':aeb FU m FU (0:Int)=_:=h4;rw [h4',zaa,zbi]
theorem back_len(m:MM)(place:Str)(hn:m.2.2.2.2.1.length<=40)(h:∀x∈m.2.2.2.2.1,x.1.length<=80/\x.2.length<=400):(backP m place).1.2.2.2.2.1.length<=4194304:=by
 have hd:=(df_tiny m.2.2.2.2.1 aoa hn h).n;unfold backP;split
 ·decide
 ·split
  ·decide
  ·split
   ·split
    ·dsimp only;omega
    ·split<;>(dsimp only;omega)
   ·decide
theorem plain_RoutingBacks(m:Str×Str×Int×Str×List (Str×Str)×List UInt8)(place:Str):ajr FU m place=some true:=by
 unfold ajr;rcases small_law m with h0|⟨h0,h1,h2,h3⟩
 ·rw [h0,zaa,zaK,cond_true,zaa,cond_true]
 ·rw [h0,zaa,zav,cond_false,zaa];by_cases h4:(100:Int)<(place.length:Int)
  ·rw [decide_eq_true h4,cond_true]
  ·rw [decide_eq_false h4,cond_false,back_eq m place h1 h3 omg,zaa,rback_eq m place h1 h3,zaa,same_eq _ (back_len m place h1 h3),zaa,cond_true,if_pos rfl,if_pos rfl,zaa]
end Go.Wk
