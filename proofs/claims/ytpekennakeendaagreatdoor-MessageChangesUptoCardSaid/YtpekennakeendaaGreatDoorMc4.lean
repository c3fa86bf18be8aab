/-
  The law MessageChanges (second form) holds (part 4 of 8).
-/
import Derived.Test.YtpekennakeendaaGreatDoorMc3
set_option linter.unusedVariables false
set_option linter.unusedSimpArgs false
set_option maxRecDepth 100000
namespace Go.Wk
open Go.Px
open Go.Lib renaming join → zaL
open Int renaming toNat → zae
open List renaming drop → zaq, length → zbd, length_append → zad, length_cons → zai, length_nil → zaR, map_cons → zau
open Nat renaming le_refl → zac, succ_mul → zaW
open Option renaming bind_some → zaa
open Sum renaming elim_inl → zaY
theorem trim_len3(x:Str):(trimL x).length≤x.length:=by
 unfold trimL rdw;rw [List.length_reverse];have h1:=(List.dropWhile_suffix (p:=adv) (l:=(x.dropWhile adv).reverse)).length_le;have h2:=(List.dropWhile_suffix (p:=adv) (l:=x)).length_le;rw [List.length_reverse]at h1;omega
def szL(l:List Str):Nat:=(l.map zbd).sum+l.length
theorem sp_len:∀(s:Str) (m:Nat) (cur:Str) (l:List Str),spS m cur s=.inl l→szL l≤cur.length+s.length+1
 |[],0,cur,l,h=>by
  rw [spS]at h
  have:=Sum.inl.inj h
  subst this
  have:=trim_len3 cur
  simp [szL];omega
 |[],m+1,cur,l,h=>by cases h
 |c::s,0,cur,l,h=>by
  rw [spS]at h;split at h
  ·have:=sp_len s _ _ l h;simp at this⊢;omega
  ·split at h
   ·have:=sp_len s _ _ l h;simp at this⊢;omega
   ·split at h
    ·cases h
    ·split at h
     ·obtain⟨m,h1,rfl⟩:=consE_inl h
      have:=sp_len s _ _ m h1
      have:=trim_len3 cur
      simp [szL]at*;omega
     ·have:=sp_len s _ _ l h;simp at this⊢;omega
 |c::s,1,cur,l,h=>by
  rw [spS]at h;split at h
  ·have:=sp_len s _ _ l h;simp at this⊢;omega
  ·split at h
   ·have:=sp_len s _ _ l h;simp at this⊢;omega
   ·split at h
    ·cases h
    ·have:=sp_len s _ _ l h;simp at this⊢;omega
 |c::s,2,cur,l,h=>by
  rw [spS]at h;split at h
  ·have:=sp_len s _ _ l h;simp at this⊢;omega
  ·cases h
 |c::s,m+3,cur,l,h=>by
  rw [spS]at h;split at h
  ·have:=sp_len s _ _ l h;simp at this⊢;omega
  ·have:=sp_len s _ _ l h;simp at this⊢;omega
theorem lst_len(v:Str)(h:(lstP v).2=0):szL (lstP v).1≤v.length+1:=by
 unfold lstP at h⊢;cases hs:spS 0 [] v with
 |inr e=>
  rw [hs]at h;simp only at h;exact absurd h (sp_err v 0 [] e hs)
 |inl l=>
  rw [hs]at h;simp only at h⊢;by_cases ha:l.any (fun x=>decide (x=[]))=true
  ·rw [if_pos ha]at h;exact absurd h (show¬(5:UInt8)=0 by decide)
  ·rw [if_neg ha];simpa using sp_len v 0 [] l hs
theorem elemP_len(v:Str):szL (elemP v)≤v.length+1:=by
 unfold elemP;split
 ·exact lst_len v (by assumption)
 ·simp [szL]
theorem join_len3(s:Str):∀l:List Str,(zaL l s).length≤(l.map zbd).sum+l.length*s.length
 |[]=>by simp [zaL,List.intercalate]
 |[a]=>by simp [zaL,List.intercalate]
 |a::b::l=>by
  have h:zaL (a::b::l) s=a++(s++zaL (b::l) s):=by simp [zaL,List.intercalate,List.intersperse]
  have:=join_len3 s (b::l)
  rw [h];simp only [zad,zau,List.sum_cons,zai,zaW]at this⊢;omega
theorem szL_drop(l:List Str):szL (l.drop 1)≤szL l:=by
 cases l with
 |nil=>exact zac _
 |cons a l=>simp [szL];omega
def mnyQ(name:Str):Bool:=if(acg name).2=0 then manyP (acg name).1 else false
def dfP(l:List HH)(name:Str):List HH:=
 if ixP (nmP name) l<0 then l
 else if mnyQ name=true∧1<(elemP (el l (ixP (nmP name) l)).2).length then l.set (ixP (nmP name) l).toNat ((el l (ixP (nmP name) l)).1,zaL ((elemP (el l (ixP (nmP name) l)).2).drop 1) [44,32])
 else delL l (ixP (nmP name) l) (ixP (nmP name) l+1)
theorem mdf_eq(m:MM)(name:Str)(hl:Sm m.2.2.2.2.1)(hb:m.2.2.2.2.2.length≤4194304)(hn:name.length≤4194303):
  ady FU m name=some (m.1,m.2.1,m.2.2.1,m.2.2.2.1,dfP m.2.2.2.2.1 name,m.2.2.2.2.2):=by
 unfold ady dfP;have hg:=ixP_ge (nmP name) m.2.2.2.2.1;have hlt:=ixP_lt (nmP name) m.2.2.2.2.1;have hln:=hl.1;rw [copied_eq m hl.1 hb,zaa,named_eq name hn,zaa,index_eq _ _ _ hl,zaa];have e0:pN (acg name).2 (acg name).1=nmP name:=rfl;dsimp only;rw [e0];by_cases h:ixP (nmP name) m.2.2.2.2.1<0
 ·rw [if_pos h,if_pos h]
 ·rw [if_neg h,if_neg h,manyLaw_eq name (by omega),zaa];have hq:(if(acg name).2=0 then manyP (acg name).1 else false)=mnyQ name:=rfl;rw [hq];have hm:el m.2.2.2.2.1 (ixP (nmP name) m.2.2.2.2.1)∈m.2.2.2.2.1:=by
   obtain⟨k,hk⟩:=Int.eq_ofNat_of_zero_le (a:=ixP (nmP name) m.2.2.2.2.1) (by omega);rw [hk];exact el_mem' _ k (by omega)
  generalize ixP (nmP name) m.2.2.2.2.1=i at*;have hv:=(hl.2 _ hm).2;have hdel:(gd (afr (i+(1:Int)))<|(gd (0≤i∧i≤(i+(1:Int))∧(i+(1:Int))≤(m.2.2.2.2.1.length:Int))<|some (m.1,m.2.1,m.2.2.1,m.2.2.2.1,delL m.2.2.2.2.1 i (i+(1:Int)),m.2.2.2.2.2)))=some (m.1,m.2.1,m.2.2.1,m.2.2.2.1,delL m.2.2.2.2.1 i (i+(1:Int)),m.2.2.2.2.2):=by
   rw [aag (agq _ (by omega) (by omega)),aag (by omega)]
  cases hy:mnyQ name with
  |false=>
   rw [cond_false,zaa,zaY,hdel,if_neg (fun h=>Bool.false_ne_true h.1)]
  |true=>
   have hz:=elemP_len (el m.2.2.2.2.1 i).2;have hz2:=szL_drop (elemP (el m.2.2.2.2.1 i).2);have hj:=join_len3 [44,32] ((elemP (el m.2.2.2.2.1 i).2).drop 1);rw [cond_true,aag (by omega),aag (by omega),elem_eq _ hv,zaa];by_cases h1:1<(elemP (el m.2.2.2.2.1 i).2).length
   ·have hJ:(zaq (zae (1:Int)) (elemP (el m.2.2.2.2.1 i).2)).length≤1000000000∧(zaL (zaq (zae (1:Int)) (elemP (el m.2.2.2.2.1 i).2)) ([44,32]:Str)).length≤100000000000:=by
     show((elemP (el m.2.2.2.2.1 i).2).drop 1).length≤1000000000∧(zaL ((elemP (el m.2.2.2.2.1 i).2).drop 1) ([44,32]:Str)).length≤100000000000
     unfold szL at hz hz2;simp only [zai,zaR]at hj;exact⟨by omega,by omega⟩
    rw [if_pos (by omega),aag (by omega),aag hJ,aag (by omega),aag (by omega),zaa,Sum.elim_inr,if_pos ⟨rfl,h1⟩];rfl
   ·rw [if_neg (by omega),zaa,zaY,hdel,if_neg (fun h=>h1 h.2)]
open Bool renaming and_eq_true → zaQ
open Int renaming toNat_natCast → zar
open List renaming length_cons → zai, length_nil → zaR, length_singleton → zaf, mem_cons_of_mem → zav, mem_cons_self → zax, nil_append → zaJ, take_left → zbg
open Nat renaming le_refl → zac
def rset(p:HH→Bool)(h:HH):Bool→List HH→List HH×Bool
 |d,[]=>([],d)
 |d,x::l=>if p x=true then(if d=true then rset p h d l else(h::(rset p h true l).1,(rset p h true l).2))else(x::(rset p h d l).1,(rset p h d l).2)
theorem rset_done(p:HH→Bool)(h:HH):∀l,rset p h true l=(l.filter (fun x=> !p x),true)
 |[]=>rfl
 |x::l=>by
  rw [rset,rset_done p h l];by_cases hx:p x=true
  ·rw [if_pos hx,if_pos rfl,List.filter_cons_of_neg (by simp [hx])]
  ·rw [if_neg hx,List.filter_cons_of_pos (by simpa using hx)]
theorem rset_none(p:HH→Bool)(h:HH):∀l,(∀x∈l,p x=false)→rset p h false l=(l,false)
 |[],_=>rfl
 |x::l,hl=>by
  rw [rset,rset_none p h l (fun y hy=>hl y (zav _ hy)),if_neg (by rw [hl x zax];decide)]
theorem rset_some(p:HH→Bool)(h x:HH)(b:List HH)(hx:p x=true):∀a,(∀y∈a,p y=false)→rset p h false (a++x::b)=(a++h::b.filter (fun y=> !p y),true)
 |[],_=>by rw [zaJ,rset,if_pos hx,if_neg (by decide),rset_done];rfl
 |y::a,ha=>by
  rw [List.cons_append,rset,rset_some p h x b hx a (fun z hz=>ha z (zav _ hz)),if_neg (by rw [ha y zax];decide)];rfl
theorem filter_none{p:HH→Bool}{l:List HH}(h:∀x∈l,p x=false):l.filter (fun x=> !p x)=l:=List.filter_eq_self.2 fun x hx=>by rw [h x hx];rfl
theorem set_lists(l:List HH)(name:Str)(h:HH):(if(rset (nmP name) h false l).2=true then(rset (nmP name) h false l).1 else(rset (nmP name) h false l).1++[h])=akp (l.filter (fun x=> !nmP name x)) (setI l name) h:=by
 unfold setI;by_cases hi:ixP (nmP name) l= -1
 ·have hn:=ixP_none _ _ hi;rw [rset_none _ h l hn,filter_none hn,if_neg (by simp),if_pos (by omega)];unfold akp;rw [zar,List.take_length,List.drop_length]
 ·obtain⟨a,x,b,rfl,e2,e3,e4⟩:=ixP_some _ _ hi;rw [rset_some _ h x b e3 a e2,if_pos rfl,e4,if_neg (by omega),List.filter_append,filter_none e2,List.filter_cons_of_neg (by simp [e3])];unfold akp;rw [zar,zbg,List.drop_left]
def rdf(i:Int)(g:HH→List HH):Int→List HH→List HH
 |_,[]=>[]
 |k,x::l=>(if k=i then g x else [x])++rdf i g (k+1) l
theorem rdf_past(i:Int)(g:HH→List HH):∀(l:List HH) (k:Int),i<k→rdf i g k l=l
 |[],_,_=>rfl
 |x::l,k,h=>by rw [rdf,if_neg (by omega),rdf_past i g l (k+1) (by omega)];rfl
theorem rdf_at(g:HH→List HH)(x:HH)(b:List HH):∀(a:List HH) (k:Int),rdf (k+(a.length:Int)) g k (a++x::b)=a++(g x++b)
 |[],k=>by
  rw [zaJ,rdf,if_pos (by simp),rdf_past _ _ _ _ (by rw [zaR];omega)];rfl
 |y::a,k=>by
  have:=rdf_at g x b a (k+1)
  rw [List.cons_append,rdf,if_neg (by rw [zai];omega),show k+((y::a).length:Int)=k+1+(a.length:Int)by rw [zai];omega,this];rfl
def elemR(h:HH):List Str:=if mnyQ h.1=true then elemP h.2 else [h.2]
def dfG(x:HH):List HH:=if(elemR x).length<2 then []else [(x.1,zaL ((elemR x).drop 1) [44,32])]
theorem nmP_spec{name:Str}{x:HH}(h:nmP name x=true):(acg name).2=0∧(acg x.1).2=0∧(acg x.1).1=(acg name).1:=by
 unfold nmP pN at h;simp only [zaQ,decide_eq_true_eq]at h;exact⟨h.1.1,h.1.2,h.2⟩
theorem mnyQ_eq{name:Str}{x:HH}(h:nmP name x=true):mnyQ x.1=mnyQ name:=by
 obtain⟨h1,h2,h3⟩:=nmP_spec h;unfold mnyQ;rw [if_pos h1,if_pos h2,h3]
theorem df_lists(l:List HH)(name:Str):rdf (ixP (nmP name) l) dfG 0 l=dfP l name:=by
 unfold dfP;by_cases hi:ixP (nmP name) l= -1
 ·rw [if_pos (by omega),rdf_past _ _ _ _ (by omega)]
 ·obtain⟨a,x,b,rfl,e2,e3,e4⟩:=ixP_some _ _ hi;have he:el (a++x::b) (a.length:Int)=x:=by simp [el]
  have hr:=rdf_at dfG x b a 0;rw [Int.zero_add]at hr;rw [e4,if_neg (by omega),hr,he,zar];have hm:=mnyQ_eq e3;unfold dfG elemR;rw [hm];have hdel:delL (a++x::b) (a.length:Int) ((a.length:Int)+1)=a++b:=by
   unfold delL;rw [zar,zbg,show((a.length:Int)+1).toNat=a.length+1 by omega,List.drop_append,List.drop_of_length_le (by omega),show a.length+1-a.length=1 by omega];rfl
  by_cases hy:mnyQ name=true
  ·rw [if_pos hy];by_cases h1:1<(elemP x.2).length
   ·rw [if_neg (by omega),if_pos ⟨hy,h1⟩,List.set_append_right _ _ (zac _),Nat.sub_self];rfl
   ·rw [if_pos (by omega),if_neg (fun h=>h1 h.2),hdel];rfl
  ·rw [if_neg hy,if_pos (by rw [zaf];decide),if_neg (fun h=>hy h.1),hdel];rfl
def jstep:Bool→List Str→Str
 |_,[]=>[]
 |f,x::l=>(if f=true then [44,32]else [])++(x++jstep true l)
theorem jstep_eq:∀l:List Str,jstep false l=zaL l [44,32]:=by
 have go:∀(l:List Str) (x:Str),x++jstep true l=zaL (x::l) [44,32]:=by
  intro l;induction l with
  |nil=>intro x;simp [jstep,zaL,List.intercalate]
  |cons y l ih=>
   intro x;have h:zaL (x::y::l) [44,32]=x++([44,32]++zaL (y::l) [44,32]):=by simp [zaL,List.intercalate,List.intersperse]
   rw [jstep,if_pos rfl,ih y,h]
 intro l;cases l with
 |nil=>simp [jstep,zaL,List.intercalate]
 |cons x l=>rw [jstep,if_neg (by decide),zaJ,go]
open Bool renaming not_true → zbc
open List renaming append_assoc → zaz, append_nil → zaX, drop_eq_nil_of_le → zaO, length → zbd, length_append → zad, length_cons → zai, length_drop → zaB, length_map → zat, length_singleton → zaf, map_append → zaK, map_cons → zau
theorem rpiece_eq(s:Str)(hs:s.length≤4194304)(b e:Nat)(hbe:b≤e)(he:e≤s.length):∃k,ahb FU s (b:Int) (e:Int)=some (k,trimL (sub s (b:Int) (e:Int))):=by
 have hl:=sub_le s (b:Int) (e:Int);have hk:akk adv (sub s (b:Int) (e:Int)) 0≤(sub s (b:Int) (e:Int)).length:=by
  have:=span_le adv ((sub s (b:Int) (e:Int)).drop 0)
  unfold akk;rw [show ahe 0 (sub s (b:Int) (e:Int)).length=0 from clampN_of_nat 0 _ (Nat.zero_le _)];simp only [List.drop_zero]at this⊢;omega
 unfold ahb;rw [aag (by omega),refBlanks_eq _ (by omega),zaa,aag (agq _ (by omega) (by omega)),refTrim_eq _ (by omega)];exact⟨_,rfl⟩
theorem rang_lp(s:Str)(hs:s.length≤4194303)(n:Nat):∀(i fk:Nat),s.length-i≤n→n<fk→i≤s.length→
  afl FU s fk (i:Int)=some ((i+ajj (fun c=> !(c==(62:UInt8))) (s.drop i):Nat):Int):=by
 induction n with
 |zero=>
  intro i fk hi hf hil;obtain⟨fk,rfl⟩:=fkx fk;obtain rfl:i=s.length:=by omega
  rw [afw,acx,if_neg (by omega),zaa,cond_false,zaO (zac _)];rfl
 |succ n ih=>
  intro i fk hi hf hil;obtain⟨fk,rfl⟩:=fkx fk;by_cases hlt:i<s.length
  ·rw [afw,acx,if_pos (by omega),aag (by omega),zaa,drop_at s i hlt,ajj];by_cases h:at_ s (i:Int)=62
   ·rw [decide_eq_true h,zbc,cond_false,h,if_neg (by decide)];rfl
   ·rw [decide_eq_false h,Bool.not_false,cond_true,aag (agq _ (by omega) (by omega)),aia,ih (i+1) fk (by omega) (by omega) hlt,if_pos (by simpa using h)];congr 2;omega
  ·obtain rfl:i=s.length:=by omega
   rw [afw,acx,if_neg (by omega),zaa,cond_false,zaO (zac _)];rfl
theorem rsplit_lp(s:Str)(hs:s.length≤4194303)(n:Nat):∀(i fk:Nat) (acc:List (Int×Str)) (b:Nat),s.length-i≤n→n<fk→b≤i→i≤s.length→acc.length≤i→
  ∃j,adq FU s 44 fk acc (b:Int) (i:Int)=some j∧
   (match spS 0 (sub s (b:Int) (i:Int)) (s.drop i)with
   |.inl l=>∃(acc':List (Int×Str)) (b':Nat),j=.inl (acc',(b':Int))∧b'≤s.length∧acc'.length≤s.length∧acc'.map (·.2)++[trimL (sub s (b':Int) (s.length:Int))]=acc.map (·.2)++l
   |.inr e=>∃q a,j=.inr (q,a,e)):=by
 induction n with
 |zero=>
  intro i fk acc b hi hf hb hil ha;obtain⟨fk,rfl⟩:=fkx fk;obtain rfl:i=s.length:=by omega
  rw [afx,acy,if_neg (by omega),zaO (zac _),s0n];exact⟨_,rfl,acc,b,rfl,by omega,ha,rfl⟩
 |succ n ih=>
  intro i fk acc b hi hf hb hil ha;obtain⟨fk,rfl⟩:=fkx fk;by_cases hlt:i<s.length
  ·have hd:=drop_at s i hlt;have hsn:sub s (b:Int) ((i+1:Nat):Int)=sub s (b:Int) (i:Int)++[at_ s (i:Int)]:=by
    rw [sub_ext3 s b i 1 hb,hd];rfl
   rw [afx,acy,if_pos (by omega),aag (by omega),hd,s0c];by_cases h44:at_ s (i:Int)=44
   ·obtain⟨k,hp⟩:=rpiece_eq s (by omega) b i hb hil;have h34:¬at_ s (i:Int)=34:=by rw [h44];decide
    have h60:¬at_ s (i:Int)=60:=by rw [h44];decide
    have h62:¬at_ s (i:Int)=62:=by rw [h44];decide
    rw [if_pos h44,if_neg h34,if_neg h60,if_neg h62,if_pos h44,hp,zaa,aag (by rw [zaf];omega),aag (agq _ (by omega) (by omega)),aag (agq _ (by omega) (by omega)),aia];obtain⟨j,g1,g2⟩:=ih (i+1) fk (acc++[(k,trimL (sub s (b:Int) (i:Int)))]) (i+1) (by omega) (by omega) (zac _) hlt (by rw [zad,zaf];omega);refine⟨j,g1, ?_⟩
    rw [sub_self']at g2;cases hr:spS 0 [] (s.drop (i+1))with
    |inr e=>rw [hr]at g2;exact g2
    |inl l=>
     rw [hr]at g2;obtain⟨acc',b',q1,q2,q3,q4⟩:=g2;refine⟨acc',b',q1,q2,q3, ?_⟩
     rw [q4,zaK,List.map_singleton,zaz];rfl
   ·rw [if_neg h44];by_cases h34:at_ s (i:Int)=34
    ·rw [if_pos h34,if_pos h34,rfUnquote_eq s (by omega),zaa];have hu:unqP8 s (i:Int)=unqL (s.drop (i+1)) (i+1) []:=by
      unfold unqP8;rw [if_neg (by omega),if_neg (by rintro(h|h);omega;exact h h34),zar]
     have hq:=quote1 (s.drop (i+1)).length (s.drop (i+1)) (i+1) [] (sub s (b:Int) (i:Int)++[at_ s (i:Int)]) (zac _);have hbd:=(unqL_bd (s.drop (i+1)).length (s.drop (i+1)) (i+1) [] (zac _)).2;have hdl:(s.drop (i+1)).length=s.length-(i+1):=zaB;rw [hu];generalize unqL (s.drop (i+1)) (i+1) []=U at hq hbd⊢;by_cases h0:U.2.2=0
     ·obtain⟨b1,b2⟩:=hbd h0;obtain⟨o,ho⟩:∃o:Nat,U.2.1=(o:Int):=⟨U.2.1.toNat,by omega⟩
      rw [ho]at b1 b2;have e1:=hq.1 h0;rw [ho,zar,←hsn,←sub_ext3 s b (i+1) (o-(i+1)) (by omega),List.drop_drop,show i+1+(o-(i+1))=o by omega]at e1;rw [if_pos h0,ho,←hsn,e1];exact ih o fk acc b (by omega) (by omega) (by omega) (by omega) (by omega)
     ·rw [if_neg h0,hq.2 h0];exact⟨_,rfl,_,_,rfl⟩
    ·rw [if_neg h34,if_neg h34];by_cases h62:at_ s (i:Int)=62
     ·have h60:¬at_ s (i:Int)=60:=by rw [h62];decide
      rw [if_pos h62,if_neg h60,if_pos h62];exact⟨_,rfl,_,_,rfl⟩
     ·rw [if_neg h62];by_cases h60:at_ s (i:Int)=60
      ·have hx:spS 3 (sub s (b:Int) (i:Int)) (s.drop i)=spS 3 (sub s (b:Int) (i:Int)++[at_ s (i:Int)]) (s.drop (i+1)):=by
        rw [hd,s3c',if_neg (by rw [h60];decide)]
       obtain⟨a1,a2⟩:=ang1 (s.drop i) (sub s (b:Int) (i:Int));have hdl:(s.drop i).length=s.length-i:=zaB;have hsp:=ixb_span (·==(62:UInt8)) (s.drop i);have hsl:=span_le (fun c=> !(c==(62:UInt8))) (s.drop i);rw [if_pos h60,if_pos h60,rang_lp s hs (s.length-i) i FU (zac _) (by rw [ajs];omega) hil,zaa,←hx];by_cases hx0:ajj (fun c=> !(c==(62:UInt8))) (s.drop i)=(s.drop i).length
       ·rw [if_pos hx0]at hsp;rw [if_pos (by omega),a1 (by omega)];exact⟨_,rfl,_,_,rfl⟩
       ·rw [if_neg hx0]at hsp;have ht:(ixb (·==(62:UInt8)) (s.drop i)).toNat=ajj (fun c=> !(c==(62:UInt8))) (s.drop i):=by rw [hsp];simp
        rw [if_neg (by omega),a2 (by omega),ht];generalize ajj (fun c=> !(c==(62:UInt8))) (s.drop i)=x at*;rw [←sub_ext3 s b i (x+1) hb,List.drop_drop,aag (agq _ (by omega) (by omega)),show((i+x:Nat):Int)+1=((i+(x+1):Nat):Int)by omega];exact ih (i+(x+1)) fk acc b (by omega) (by omega) (by omega) (by omega) (by omega)
      ·rw [if_neg h60,if_neg h60,if_neg h62,if_neg h44,aag (agq _ (by omega) (by omega)),aia,←hsn];exact ih (i+1) fk acc b (by omega) (by omega) (by omega) hlt (by omega)
  ·obtain rfl:i=s.length:=by omega
   rw [afx,acy,if_neg (by omega),zaO (zac _),s0n];exact⟨_,rfl,acc,b,rfl,by omega,ha,rfl⟩
theorem rsplit_eq(s:Str)(hs:s.length≤4194303):∃q a,ain FU s 44=some (q,a,(match spS 0 [] s with|.inl _=>0|.inr e=>e))∧(∀l,spS 0 [] s=.inl l→q.map (·.2)=l∧q.length≤s.length+1):=by
 obtain⟨j,h1,h2⟩:=rsplit_lp s hs s.length 0 FU [] 0 (by omega) (by rw [ajs];omega) (zac _) (Nat.zero_le _) (zac _);have h1':adq FU s 44 FU [] (0:Int) (0:Int)=some j:=h1;rw [sub_self',List.drop_zero]at h2;unfold ain;have e:(((aen FU 44).bind fun(y13:Bool)=>(bif y13 then some true else(if(44:UInt8)=(34:UInt8)then some true else(if(44:UInt8)=(60:UInt8)then some true else some (decide ((44:UInt8)=(62:UInt8))))))))=some false:=by kernel_rfl
 rw [e,zaa,cond_false,h1',zaa];cases hr:spS 0 [] s with
 |inr e=>
  rw [hr]at h2;obtain⟨q,a,rfl⟩:=h2;rw [Sum.elim_inr];exact⟨q,a,rfl,fun l h=>by cases h⟩
 |inl l=>
  rw [hr]at h2;obtain⟨acc',b',rfl,q2,q3,q4⟩:=h2;obtain⟨k,hp⟩:=rpiece_eq s (by omega) b' s.length q2 (zac _);rw [zaY];dsimp only;rw [hp,zaa,aag (by rw [zaf];omega)];refine⟨_,_,rfl,fun l' h=> ?_⟩
  have:=Sum.inl.inj h
  subst this;rw [zaK,List.map_singleton,q4];exact⟨rfl,by rw [zad,zaf];omega⟩
theorem rlist_lp(y1:((List (Int×Str))×Int×UInt8))(hy:y1.1.length≤4194304)(q:List (Int×Str)):∀(p:List (Int×Str)) (fk:Nat),y1.1=p++q→q.length<fk→
  aef FU y1 fk (p.map (·.2)) (p.length:Int)=some (if(q.map (·.2)).any (fun x=>decide (x=[]))=true then .inr ([],5)else .inl (y1.1.map (·.2))):=by
 induction q with
 |nil=>
  intro p fk h hf;obtain⟨fk,rfl⟩:=fkx fk;rw [zaX]at h;rw [aij,afg,if_neg (by rw [h];omega),h];rfl
 |cons a q ih=>
  intro p fk h hf;obtain⟨fk,rfl⟩:=fkx fk;have hl:=congrArg zbd h;simp only [zad,zai]at hl hf;have hb:(0:Int)≤(p.length:Int)∧(p.length:Int)<(y1.1.length:Int):=by omega
  have he:el y1.1 (p.length:Int)=a:=by rw [h];simp [el]
  rw [aij,afg,if_pos hb.2,aag hb,aag hb,he,zau,List.any_cons];by_cases h0:a.2=[]
  ·rw [if_pos h0,decide_eq_true h0,Bool.true_or,if_pos rfl]
  ·rw [if_neg h0,decide_eq_false h0,Bool.false_or,aag hb,aag hb,aag (by simp only [zat,zaf];omega),aag (agq _ (by omega) (by omega))]
   have:=ih (p++[a]) fk (by rw [h];simp) (by omega)
   rw [zaK,List.map_singleton]at this;rw [show((p.length:Int)+1)=((p++[a]).length:Int)by simp];exact this
theorem rlist_eq(v:Str)(hv:v.length≤4194303):ajp FU v=some (lstP v):=by
 obtain⟨q,a,e1,e2⟩:=rsplit_eq v hv;unfold ajp lstP;rw [e1,zaa];have hne:=sp_err v 0 [];cases hr:spS 0 [] v with
 |inr e=>
  dsimp only;rw [if_neg (hne e hr)]
 |inl l=>
  obtain⟨h1,h2⟩:=e2 l hr;dsimp only
  have:=rlist_lp (q,a,0) (by dsimp only;omega) q [] FU rfl (by rw [ajs];omega)
  have this':aef FU (q,a,0) FU [] (0:Int)=_:=this;rw [if_pos rfl,this',zaa,h1];by_cases h0:l.any (fun x=>decide (x=[]))=true
  ·rw [if_pos h0,if_pos h0,Sum.elim_inr]
  ·rw [if_neg h0,if_neg h0,zaY]
open List renaming append_assoc → zaz, append_nil → zaX, drop → zaq, length → zbd, length_append → zad, length_cons → zai, length_drop → zaB, length_nil → zaR, length_singleton → zaf, length_take → zab, nil_append → zaJ, take → zaE
theorem is_eq(h:HH)(name:Str)(hh:h.1.length≤4194303)(hn:name.length≤4194303):ajd FU h.1 name=some (nmP name h):=by
 unfold ajd nmP pN;rw [als h.1 (by omega),zaa,als name (by omega),zaa];by_cases h1:(acg name).2=0
 ·by_cases h2:(acg h.1).2=0
  ·rw [if_pos h2,if_pos h1,decide_eq_true h1,decide_eq_true h2,Bool.true_and,Bool.true_and,zaa]
  ·rw [if_neg h2,decide_eq_false h2,Bool.and_false,Bool.false_and,zaa]
 ·rw [decide_eq_false h1,Bool.false_and,Bool.false_and];by_cases h2:(acg h.1).2=0
  ·rw [if_pos h2,if_neg h1,zaa]
  ·rw [if_neg h2,zaa]
theorem rnamed_eq(s:Str)(hs:s.length≤4194303):agy FU s=some (fullP s):=by
 unfold agy fullP;rw [als s (by omega),zaa];by_cases h:(acg s).2=0
 ·rw [if_pos h,if_pos h]
 ·rw [if_neg h,if_neg h]
theorem rfind_lp(name:Str)(hn:name.length≤4194303)(l:List HH)(hl:Sm l)(q:List HH):∀(p:List HH) (fk:Nat),l=p++q→q.length<fk→
  aec FU l name fk (p.length:Int)=some (if ixP (nmP name) q= -1 then .inl ()else .inr ((p.length:Int)+ixP (nmP name) q)):=by
 induction q with
 |nil=>
  intro p fk h hf;obtain⟨fk,rfl⟩:=fkx fk;rw [zaX]at h;rw [aie,afa,if_neg (by rw [h];omega)];rfl
 |cons a q ih=>
  intro p fk h hf;obtain⟨fk,rfl⟩:=fkx fk;have hll:=congrArg zbd h;simp only [zad,zai]at hll hf;have hln:=hl.1;have hb:(0:Int)≤(p.length:Int)∧(p.length:Int)<(l.length:Int):=by omega
  have he:el l (p.length:Int)=a:=by rw [h];simp [el]
  have ha:=(hl.2 a (by rw [h];simp)).1;rw [aie,afa,if_pos hb.2,aag hb,aag hb,he,is_eq a name ha hn,zaa,ixP];by_cases h0:nmP name a=true
  ·rw [h0,if_pos rfl,if_neg (by decide)];simp
  ·rw [if_neg h0,show nmP name a=false by simpa using h0,aag (agq _ (by omega) (by omega))]
   have:=ih (p++[a]) fk (by rw [h];simp) (by omega)
   rw [show((p.length:Int)+1)=((p++[a]).length:Int)by simp];rw [cond_false,this];have hg:=ixP_ge (nmP name) q;by_cases h1:ixP (nmP name) q= -1
   ·rw [if_pos h1,if_pos h1,if_pos rfl]
   ·rw [if_neg h1,if_neg h1,if_neg (by omega),zad,zaf];congr 2
    omega
theorem rfind_eq(name:Str)(hn:name.length≤4194303)(l:List HH)(hl:Sm l):aht FU l name=some (ixP (nmP name) l):=by
 unfold aht
 have:=rfind_lp name hn l hl l [] FU rfl (by have:=hl.1;rw [ajs];omega)
 have this':aec FU l name FU (0:Int)=_:=this;rw [this',zaa];by_cases h:ixP (nmP name) l= -1
 ·rw [if_pos h,zaY,h]
 ·rw [if_neg h,Sum.elim_inr];simp
theorem rset_lp(m:MM)(name value full:Str)(hn:name.length≤4194303)(hl:Sm m.2.2.2.2.1)(q:List HH):∀(p:List HH) (fk:Nat) (out:List HH) (d:Bool),m.2.2.2.2.1=p++q→q.length<fk→out.length≤p.length→
  afb FU m name value full fk out d (p.length:Int)=some (out++(rset (nmP name) (full,value) d q).1,(rset (nmP name) (full,value) d q).2):=by
 induction q with
 |nil=>
  intro p fk out d h hf ho;obtain⟨fk,rfl⟩:=fkx fk;rw [zaX]at h;rw [ajc,aga,if_neg (by rw [h];omega)];simp [rset]
 |cons a q ih=>
  intro p fk out d h hf ho;obtain⟨fk,rfl⟩:=fkx fk;have hll:=congrArg zbd h;simp only [zad,zai]at hll hf;have hln:=hl.1;have hb:(0:Int)≤(p.length:Int)∧(p.length:Int)<(m.2.2.2.2.1.length:Int):=by omega
  have he:el m.2.2.2.2.1 (p.length:Int)=a:=by rw [h];simp [el]
  have ha:=(hl.2 a (by rw [h];simp)).1;have hi:((p.length:Int)+1)=((p++[a]).length:Int):=by simp
  have hg:afr ((p.length:Int)+1):=agq _ (by omega) (by omega);rw [ajc,aga,if_pos hb.2,aag hb,aag hb,he,is_eq a name ha hn,zaa,rset];by_cases h0:nmP name a=true
  ·rw [if_pos h0,h0,zbc,cond_false];cases d with
   |true=>
    rw [zbc,cond_false,if_pos rfl,aag hg,hi];exact ih (p++[a]) fk out true (by rw [h];simp) (by omega) (by rw [zad,zaf];omega)
   |false=>
    rw [Bool.not_false,cond_true,if_neg (by decide),aag (by rw [zaf];omega),aag hg,hi];rw [ih (p++[a]) fk (out++[(full,value)]) true (by rw [h];simp) (by omega) (by rw [zad,zaf,zad,zaf];omega)];simp
  ·rw [if_neg h0,show nmP name a=false by simpa using h0,Bool.not_false,cond_true,aag hb,aag hb,aag (by rw [zaf];omega),aag hg,hi];rw [ih (p++[a]) fk (out++[a]) d (by rw [h];simp) (by omega) (by rw [zad,zaf,zad,zaf];omega)];simp
theorem rset_len(p:HH→Bool)(x:HH):∀(l:List HH) (d:Bool),(rset p x d l).1.length≤l.length
 |[],d=>zac _
 |a::l,d=>by
  have h1:=rset_len p x l d;have h2:=rset_len p x l true;rw [rset];split
  ·split
   ·rw [zai];omega
   ·simp only [zai];omega
  ·simp only [zai];omega
theorem rSet_eq(m:MM)(name value:Str)(hl:Sm m.2.2.2.2.1)(hn:name.length≤4194303):
  akf FU m name value=some (m.1,m.2.1,m.2.2.1,m.2.2.2.1,akp (m.2.2.2.2.1.filter (fun h=> !nmP name h)) (setI m.2.2.2.2.1 name) (fullP name,value),m.2.2.2.2.2):=by
 unfold akf adn;have hln:=hl.1;have hr:=rset_len (nmP name) (fullP name,value) m.2.2.2.2.1 false
 have:=rset_lp m name value (fullP name) hn hl m.2.2.2.2.1 [] FU [] false rfl (by rw [ajs];omega) (zac _)
 have this':afb FU m name value (fullP name) FU [] false (0:Int)=_:=this;have hs:=set_lists m.2.2.2.2.1 name (fullP name,value);rw [rnamed_eq name hn,zaa,this',zaa,zaJ];generalize rset (nmP name) (fullP name,value) false m.2.2.2.2.1=r at hs hr⊢;obtain⟨r1,r2⟩:=r;cases r2 with
 |true=>
  rw [if_pos rfl]at hs;dsimp only at hs⊢;rw [zbc,cond_false,zaa,zaa,hs]
 |false=>
  rw [if_neg (by simp)]at hs;dsimp only at hs hr⊢;rw [Bool.not_false,cond_true,aag (by rw [zaf];omega),zaa,zaa,hs]
theorem rPush_eq(m:MM)(name value:Str)(hl:Sm m.2.2.2.2.1)(hn:name.length≤4194303):
  ajm FU m name value=some (m.1,m.2.1,m.2.2.1,m.2.2.2.1,akp m.2.2.2.2.1 (max (ixP (nmP name) m.2.2.2.2.1) 0) (fullP name,value),m.2.2.2.2.2):=by
 unfold ajm adn;have hln:=hl.1;have hg:=ixP_ge (nmP name) m.2.2.2.2.1;have hlt:=ixP_lt (nmP name) m.2.2.2.2.1;rw [rfind_eq name hn _ hl,zaa,show max (0:Int) (ixP (nmP name) m.2.2.2.2.1)=max (ixP (nmP name) m.2.2.2.2.1) 0 by omega];generalize hi:max (ixP (nmP name) m.2.2.2.2.1) 0=i;have h1:(zaE (zae i) m.2.2.2.2.1).length≤m.2.2.2.2.1.length:=by rw [zab];omega
 have h2:(zaq (zae i) m.2.2.2.2.1).length≤m.2.2.2.2.1.length:=by rw [zaB];omega
 rw [aag (by omega),aag (by rw [zaR];omega),rnamed_eq name hn,zaa,aag (by rw [zaJ,zaf];omega),aag (by omega),aag (by rw [zaJ,zad,zaf];omega),zaa];unfold akp;rw [zaJ,zaz];rfl
theorem rdrop_lp(m:MM)(name:Str)(hn:name.length≤4194303)(hl:Sm m.2.2.2.2.1)(q:List HH):∀(p:List HH) (fk:Nat) (out:List HH),m.2.2.2.2.1=p++q→q.length<fk→out.length≤p.length→
  aee FU m name fk out (p.length:Int)=some (out++q.filter (fun h=> !nmP name h)):=by
 induction q with
 |nil=>
  intro p fk out h hf ho;obtain⟨fk,rfl⟩:=fkx fk;rw [zaX]at h;rw [aig,afd,if_neg (by rw [h];omega)];simp
 |cons a q ih=>
  intro p fk out h hf ho;obtain⟨fk,rfl⟩:=fkx fk;have hll:=congrArg zbd h;simp only [zad,zai]at hll hf;have hln:=hl.1;have hb:(0:Int)≤(p.length:Int)∧(p.length:Int)<(m.2.2.2.2.1.length:Int):=by omega
  have he:el m.2.2.2.2.1 (p.length:Int)=a:=by rw [h];simp [el]
  have ha:=(hl.2 a (by rw [h];simp)).1;have hi:((p.length:Int)+1)=((p++[a]).length:Int):=by simp
  have hg:afr ((p.length:Int)+1):=agq _ (by omega) (by omega);rw [aig,afd,if_pos hb.2,aag hb,aag hb,he,is_eq a name ha hn,zaa];by_cases h0:nmP name a=true
  ·rw [h0,zbc,cond_false,aag hg,hi,ih (p++[a]) fk out (by rw [h];simp) (by omega) (by rw [zad,zaf];omega),List.filter_cons_of_neg (by simp [h0])]
  ·have h0':nmP name a=false:=by simpa using h0
   rw [h0',Bool.not_false,cond_true,aag hb,aag hb,aag (by rw [zaf];omega),aag hg,hi,ih (p++[a]) fk (out++[a]) (by rw [h];simp) (by omega) (by rw [zad,zaf,zad,zaf];omega),List.filter_cons_of_pos (by simp [h0'])];simp
theorem rDrop_eq(m:MM)(name:Str)(hl:Sm m.2.2.2.2.1)(hn:name.length≤4194303):
  ajn FU m name=some (m.1,m.2.1,m.2.2.1,m.2.2.2.1,m.2.2.2.2.1.filter (fun h=> !nmP name h),m.2.2.2.2.2):=by
 unfold ajn adn;have hln:=hl.1
 have:=rdrop_lp m name hn hl m.2.2.2.2.1 [] FU [] rfl (by rw [ajs];omega) (zac _)
 have this':aee FU m name FU [] (0:Int)=_:=this;rw [this',zaa,zaa,zaJ]
theorem relem_eq(h:HH)(h1:h.1.length≤4194303)(h2:h.2.length≤4194303):afz FU h=some (elemR h):=by
 unfold afz elemR;rw [refManyLaw_eq h.1 (by omega),zaa];have hq:(if(acg h.1).2=0 then manyP (acg h.1).1 else false)=mnyQ h.1:=rfl;rw [hq];cases hy:mnyQ h.1 with
 |false=>rw [cond_false,if_neg (by decide)]
 |true=>
  rw [cond_true,if_pos rfl,rlist_eq h.2 h2,zaa];unfold elemP;by_cases h0:(lstP h.2).2=0
  ·rw [if_pos h0,if_pos h0]
  ·rw [if_neg h0,if_neg h0]
theorem elemR_len(h:HH):szL (elemR h)≤h.2.length+1:=by
 unfold elemR;split
 ·exact elemP_len _
 ·simp [szL]
theorem joined_lp(l:List Str)(hl:szL l≤8388608)(q:List Str):∀(p:List Str) (fk:Nat) (s:Str),l=p++q→q.length<fk→s.length≤100000000*(p.length+1)→
  acw FU l fk s (p.length:Int)=some (s++jstep (decide (0<p.length)) q):=by
 induction q with
 |nil=>
  intro p fk s h hf hs;obtain⟨fk,rfl⟩:=fkx fk;rw [zaX]at h;rw [ahf,adw,if_neg (by rw [h];omega)];simp [jstep]
 |cons a q ih=>
  intro p fk s h hf hs;obtain⟨fk,rfl⟩:=fkx fk;have hll:=congrArg zbd h;simp only [zad,zai]at hll hf;have hsz:szL l=szL p+(a.length+1+szL q):=by rw [h];simp [szL];omega
  have hpl:p.length≤szL p:=by unfold szL;omega
  have hqp:l.length≤szL l:=by unfold szL;omega
  have hb:(0:Int)≤(p.length:Int)∧(p.length:Int)<(l.length:Int):=by omega
  have he:el l (p.length:Int)=a:=by rw [h];simp [el]
  have hi:((p.length:Int)+1)=((p++[a]).length:Int):=by simp
  have hg:afr ((p.length:Int)+1):=agq _ (by omega) (by omega);have h1:decide (0<(p++[a]).length)=true:=by simp
  rw [ahf,adw,if_pos hb.2,he,jstep];by_cases h0:0<p.length
  ·rw [if_pos (by omega),aag (by simp only [zai,zaR];omega),zaa,aag hb,aag hb,aag (by simp only [zad,zai,zaR];omega),aag hg,hi,ih (p++[a]) fk _ (by rw [h];simp) (by omega) (by simp only [zad,zai,zaR];omega),h1,decide_eq_true h0,if_pos rfl];simp
  ·rw [if_neg (by omega),zaa,aag hb,aag hb,aag (by omega),aag hg,hi,ih (p++[a]) fk _ (by rw [h];simp) (by omega) (by simp only [zad,zai,zaR];omega),h1,decide_eq_false h0,if_neg (by decide)];simp
theorem joined_eq(l:List Str)(hl:szL l≤8388608):agf FU l=some (zaL l [44,32]):=by
 unfold agf;have hq:l.length≤szL l:=by unfold szL;omega
 have:=joined_lp l hl l [] FU [] rfl (by rw [ajs];omega) (by simp)
 have this':acw FU l FU [] (0:Int)=_:=this;rw [this',zaa,zaJ];exact congrArg some (jstep_eq l)
theorem rdf_lp(m:MM)(i:Int)(hl:Sm m.2.2.2.2.1)(q:List HH):∀(p:List HH) (fk:Nat) (out:List HH),m.2.2.2.2.1=p++q→q.length<fk→out.length≤p.length→
  ach FU m i fk out (p.length:Int)=some (out++rdf i dfG (p.length:Int) q):=by
 induction q with
 |nil=>
  intro p fk out h hf ho;obtain⟨fk,rfl⟩:=fkx fk;rw [zaX]at h;rw [afv,acp,if_neg (by rw [h];omega)];simp [rdf]
 |cons a q ih=>
  intro p fk out h hf ho;obtain⟨fk,rfl⟩:=fkx fk;have hll:=congrArg zbd h;simp only [zad,zai]at hll hf;have hln:=hl.1;have hb:(0:Int)≤(p.length:Int)∧(p.length:Int)<(m.2.2.2.2.1.length:Int):=by omega
  have he:el m.2.2.2.2.1 (p.length:Int)=a:=by rw [h];simp [el]
  have hs:=hl.2 a (by rw [h];simp);have hi:((p.length:Int)+1)=((p++[a]).length:Int):=by simp
  have hg:afr ((p.length:Int)+1):=agq _ (by omega) (by omega);rw [afv,acp,if_pos hb.2,aag hb,aag hb,he,rdf];by_cases h0:(p.length:Int)=i
  ·rw [if_pos h0,if_pos h0,relem_eq a hs.1 hs.2,zaa];have hz:=elemR_len a;have hz2:=szL_drop (elemR a);have hG:dfG a=if(elemR a).length<2 then []else [(a.1,zaL ((elemR a).drop 1) [44,32])]:=rfl
   rw [hG];by_cases h1:(elemR a).length<2
   ·rw [if_pos (by omega),if_pos h1,aag hg,hi,ih (p++[a]) fk out (by rw [h];simp) (by omega) (by rw [zad,zaf];omega)];rfl
   ·have hj:agf FU (zaq (zae (1:Int)) (elemR a))=some (zaL ((elemR a).drop 1) [44,32]):=joined_eq ((elemR a).drop 1) (by omega);rw [if_neg (by omega),if_neg h1,aag (by omega),hj,zaa,aag (by rw [zaf];omega),aag hg,hi,ih (p++[a]) fk _ (by rw [h];simp) (by omega) (by rw [zad,zaf,zad,zaf];omega)];simp
  ·rw [if_neg h0,if_neg h0,aag (by rw [zaf];omega),aag hg,hi,ih (p++[a]) fk _ (by rw [h];simp) (by omega) (by rw [zad,zaf,zad,zaf];omega)];simp
theorem rDF_eq(m:MM)(name:Str)(hl:Sm m.2.2.2.2.1)(hn:name.length≤4194303):
  afe FU m name=some (m.1,m.2.1,m.2.2.1,m.2.2.2.1,dfP m.2.2.2.2.1 name,m.2.2.2.2.2):=by
 unfold afe adn;have hln:=hl.1
 have:=rdf_lp m (ixP (nmP name) m.2.2.2.2.1) hl m.2.2.2.2.1 [] FU [] rfl (by rw [ajs];omega) (zac _)
 have this':ach FU m (ixP (nmP name) m.2.2.2.2.1) FU [] (0:Int)=_:=this;rw [rfind_eq name hn _ hl,zaa,this',zaa,zaa,zaJ];have h2:rdf (ixP (nmP name) m.2.2.2.2.1) dfG (([]:List HH).length:Int) m.2.2.2.2.1=dfP m.2.2.2.2.1 name:=df_lists m.2.2.2.2.1 name;rw [h2]
theorem same_lp(a:MM)(ha:a.2.2.2.2.1.length≤4194304)(q:List HH):∀(p:List HH) (fk:Nat),a.2.2.2.2.1=p++q→q.length<fk→aed FU a a fk (p.length:Int)=some (.inl ()):=by
 induction q with
 |nil=>
  intro p fk h hf;obtain⟨fk,rfl⟩:=fkx fk;rw [zaX]at h;rw [aif,afc,if_neg (by rw [h];omega)]
 |cons x q ih=>
  intro p fk h hf;obtain⟨fk,rfl⟩:=fkx fk;have hll:=congrArg zbd h;simp only [zad,zai]at hll hf;have hb:(0:Int)≤(p.length:Int)∧(p.length:Int)<(a.2.2.2.2.1.length:Int):=by omega
  rw [aif,afc,if_pos hb.2,aag hb,aag hb,aag hb,aag hb,if_pos rfl,aag (agq _ (by omega) (by omega)),show((p.length:Int)+1)=((p++[x]).length:Int)by simp];exact ih (p++[x]) fk (by rw [h];simp) (by omega)
theorem same_eq(a:MM)(ha:a.2.2.2.2.1.length≤4194304):afp FU a a=some true:=by
 unfold afp
 have:=same_lp a ha a.2.2.2.2.1 [] FU rfl (by rw [ajs];omega)
 have this':aed FU a a FU (0:Int)=_:=this;rw [if_pos rfl,if_pos rfl,if_pos rfl,if_pos rfl,if_pos rfl,decide_eq_true rfl,zbc,zaa,cond_false,this',zaa,zaY]
open List renaming length_append → zad, length_drop → zaB, length_take → zab
theorem plain_MessageChanges(m:Str×Str×Int×Str×List (Str×Str)×List UInt8)(name value:Str)(h:(m.2.2.2.2.1.map fun z=>z.1.length+z.2.length).sum+m.2.2.2.2.2.length+name.length≤1048576):aeb FU m name value=some true:=by
 have h':hsz m.2.2.2.2.1+m.2.2.2.2.2.length+name.length≤1048576:=h;unfold aeb;by_cases h0:(100:Int)<(m.2.2.2.2.1.length:Int)
 ·rw [if_pos h0]
 ·have hl:Sm m.2.2.2.2.1:=sm_of omg omg;have hn:name.length≤4194303:=by omega
  have hb:m.2.2.2.2.2.length≤4194304:=by omega
  have hln:=hl.1;have hf:(m.2.2.2.2.1.filter fun h=> !nmP name h).length≤m.2.2.2.2.1.length:=List.length_filter_le _ _;have hdf:(dfP m.2.2.2.2.1 name).length≤m.2.2.2.2.1.length:=by
   unfold dfP;split
   ·exact zac _
   ·split
    ·rw [List.length_set];exact zac _
    ·unfold delL;rw [zad,zab,zaB];omega
  rw [if_neg h0,mset_eq m name value hl hb hn,zaa,rSet_eq m name value hl hn,zaa,same_eq _ (by dsimp only;rw [ako];omega),zaa,cond_true,
   mpush_eq m name value hl hb hn,zaa,rPush_eq m name value hl hn,zaa,same_eq _ (by dsimp only;rw [ako];omega),zaa,cond_true,
   mdrop_eq m name hl hb hn,zaa,rDrop_eq m name hl hn,zaa,same_eq _ (by dsimp only;omega),zaa,cond_true,
   mdf_eq m name hl hb hn,zaa,rDF_eq m name hl hn,zaa,same_eq _ (by dsimp only;omega),zaa,cond_true,zaa]
end Go.Wk
