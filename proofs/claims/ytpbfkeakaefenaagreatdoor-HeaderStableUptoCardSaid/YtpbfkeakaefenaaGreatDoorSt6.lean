/-
  The law HeaderStable (part 6 of 8).
-/
import Derived.Test.YtpbfkeakaefenaaGreatDoorSt5
set_option linter.unusedVariables false
set_option linter.unusedSimpArgs false
set_option maxRecDepth 100000
namespace Go.Wk
open Go.Px
open Bool renaming or_false → zbz
open Go.Lib renaming join → zau
open List renaming any_cons → zbo, drop_left → zbi, length_append → zab, length_cons → zad, length_drop → zaq, length_nil → zaj, nil_append → zax
open Nat renaming le_trans → zaF, zero_add → zbc, zero_le → zah
abbrev AA:=Str×UU×List PP
def nilA:AA:=([],nilU,[])
def aph(s:Str):Nat→Nat→List Str→UInt8×Nat×List Str
 |0,_,_=>(5,0,[])
 |f+1,i,ws=>if aep s i 60=true then(0,i,ws)else if aap aaf s (i:Int)=i then(5,0,[])else aph s f (aap aac s ((aap aaf s (i:Int):Nat):Int)) (ws++[sub s (i:Int) ((aap aaf s (i:Int):Nat):Int)])
def ard(s:Str)(i:Nat):UInt8×Str×Nat:=
 if aep s i 34=true then
  (if(auc s (i:Int)).2.2=0 then(if aep s (aap aac s (auc s (i:Int)).2.1) 60=true then(0,(auc s (i:Int)).1,aap aac s (auc s (i:Int)).2.1)else(5,[],0))else((auc s (i:Int)).2.2,[],0))
 else if asq s 60=true then((aph s (s.length+1) i []).1,zau (aph s (s.length+1) i []).2.2 [32],(aph s (s.length+1) i []).2.1)
 else(0,[],i)
def tgtP(s:Str)(i:Nat):UInt8×UU×Nat:=
 if aep s i 60=true then(if utl [62] s (i+1)=s.length then(5,nilU,0)else((aqk (sub s ((i+1:Nat):Int) (utl [62] s (i+1):Int))).1,(aqk (sub s ((i+1:Nat):Int) (utl [62] s (i+1):Int))).2,utl [62] s (i+1)+1))
 else if utl [63,44] s i<utl [59,32,9] s i then(5,nilU,0)else((aqk (sub s (i:Int) (utl [59,32,9] s i:Int))).1,(aqk (sub s (i:Int) (utl [59,32,9] s i:Int))).2,utl [59,32,9] s i)
def adrP (s : Str) : UInt8 × AA :=
  if 1024 < s.length then (4, nilA) else
  if (ard s (aap aac s 0)).1 = 0 then
    (if (tgtP s (ard s (aap aac s 0)).2.2).1 = 0 then
      (if (parP (s.drop (tgtP s (ard s (aap aac s 0)).2.2).2.2)).2.2 = 0 then (0, ((ard s (aap aac s 0)).2.1, (tgtP s (ard s (aap aac s 0)).2.2).2.1, (parP (s.drop (tgtP s (ard s (aap aac s 0)).2.2).2.2)).1))
       else ((parP (s.drop (tgtP s (ard s (aap aac s 0)).2.2).2.2)).2.2, nilA))
     else ((tgtP s (ard s (aap aac s 0)).2.2).1, nilA))
  else ((ard s (aap aac s 0)).1, nilA)
def dsT(d:Str):Str:=if d=[]then []else quoT d++[32]
def prA(a:AA):Str×UInt8:=
 if a.1.any aax=false∧(ppM (acl a.2.2)).2=0 then(dsT a.1++(60::(prU a.2.1++(62::(ppM (acl a.2.2)).1))),0)else([],2)
theorem prU_n62(u:UU)(hg:Good u):∀c∈prU u,(!(c==62))=true:=by
 intro c hc
 have hpar:=pars_mem (fun c=> !(c==62)) (aae _ (by decide+kernel)) (by decide) (aae _ (by decide+kernel)) (by decide) (by decide) u.2.2.2.2.1
 have hhd:=hdsT_mem (fun c=> !(c==62)) (aae _ (by decide+kernel)) (by decide) (aae _ (by decide+kernel)) (by decide) (by decide) (by decide) u.2.2.2.2.2
 unfold prU at hc
 have hsch:∀c∈u.1,(!(c==62))=true:=by
  rcases hg.sch with⟨h|h,_⟩|⟨h,_⟩<;>rw [h]<;>decide
 have hport:∀c∈ptT u.2.2.2.1,(!(c==62))=true:=by
  intro c hc
  have hb:0≤u.2.2.2.1∧u.2.2.2.1≤65535:=by
   rcases hg.sch with⟨_,_,h0,h1,_⟩|⟨_,_,h0,_⟩
   ·exact⟨h0,h1⟩
   ·omega
  unfold ptT at hc
  split at hc
  ·cases hc
  ·rcases List.mem_cons.1 hc with h|h
   ·rw [h];decide
   ·have:=List.all_eq_true.1 (amd _ hb.1 hb.2).2.2.2 c h
    revert this
    exact aae (fun c=>adc c=true→(!(c==62))=true) (by decide+kernel) c
 have hus:∀c∈usT u,(!(c==62))=true:=by
  intro c hc
  unfold usT at hc
  split at hc
  ·rename_i ht
   rcases hg.sch with⟨h|h,_⟩|⟨_,_,_,_,hd⟩
   ·rw [ht]at h;exact absurd h (by decide)
   ·rw [ht]at h;exact absurd h (by decide)
   ·exact(dial_mem _ hd c hc).2
  ·split at hc
   ·cases hc
   ·rcases List.mem_append.1 hc with h|h
    ·exact esc_mem 0 (fun c=> !(c==62)) (aae _ (by decide+kernel)) (by decide) (aae _ (by decide+kernel)) _ c h
    ·rw [List.mem_singleton.1 h];decide
 have hho:∀c∈u.2.2.1,(!(c==62))=true:=by
  rcases hg.sch with⟨_,hh,_⟩|⟨_,hh,_⟩
  ·have:=hostP_q (fun c=> !(c==62)) (aae _ (by decide+kernel)) (by decide) (by decide) (by decide) (by decide) (by decide) (aae _ (by decide+kernel)) (aae _ (by decide+kernel)) u.2.2.1
   rw [hh]at this
   exact this
  ·rw [hh];intro c hc;cases hc
 rcases List.mem_append.1 hc with h|h
 ·exact hsch c h
 ·rcases List.mem_cons.1 h with h|h
  ·rw [h];decide
  ·rcases List.mem_append.1 h with h|h
   ·exact hus c h
   ·rcases List.mem_append.1 h with h|h
    ·exact hho c h
    ·rcases List.mem_append.1 h with h|h
     ·exact hport c h
     ·rcases List.mem_append.1 h with h|h
      ·exact hpar c h
      ·exact hhd c h
theorem tgtA(s A t:Str)(u:UU)(hg:Good u)(h:s=A++(60::(prU u++(62::t))))(hl:s.length≤1024):tgtP s A.length=(0,u,(A++(60::(prU u++[62]))).length):=by
 have h2:s=(A++[60])++(prU u++(62::t)):=by rw [h];simp
 have hu:utl [62] s (A.length+1)=(A++[60]).length+(prU u).length:=by
  rw [snoc1 A 60]
  refine utlA [62] s _ _ _ h2 (fun c hc=> ?_) (fun c hc=>by rw [←Option.some.inj hc];decide)
  have h2:¬c=62:=by simpa using prU_n62 u hg c hc
  unfold asq
  simp only [zbo,List.any_nil,zbz]
  exact beq_eq_false_iff_ne.2 (fun e=>h2 e.symm)
 have hsub:sub s ((A.length+1:Nat):Int) (utl [62] s (A.length+1):Int)=prU u:=by
  rw [hu,snoc1 A 60]
  exact subA s _ _ _ h2
 have hlen:s.length=(A++[60]).length+((prU u).length+(t.length+1)):=by rw [h2];simp only [zab,zad]
 have hlt:(prU u).length≤1024:=by omega
 have hsee:aep s A.length 60=true:=by rw [avu s A _ 60 h];exact decide_eq_true rfl
 unfold tgtP
 rw [hsee,if_pos rfl,hsub,parse_back u hg hlt,hu,if_neg (by omega)]
 simp only [zab,zad,zaj]
 congr 2
 omega
theorem addr_back(d:Str)(u:UU)(l:List PP)(hg:Good u)(h0:(prA (d,u,l)).2=0)(hl:(prA (d,u,l)).1.length≤1024):
  adrP (prA (d,u,l)).1=(0,(d,u,acl l))∧aat (prA (d,u,l)).1=(prA (d,u,l)).1∧ppL [] (acl l)=some (ppM (acl l)).1:=by
 have hc:d.any aax=false∧(ppM (acl l)).2=0:=by
  by_cases h:d.any aax=false∧(ppM (acl l)).2=0
  ·exact h
  ·unfold prA at h0
   dsimp only at h0
   rw [if_neg h]at h0
   exact absurd h0 (by decide)
 have he:(prA (d,u,l)).1=dsT d++(60::(prU u++(62::(ppM (acl l)).1))):=by unfold prA;dsimp only;rw [if_pos hc]
 obtain⟨b1,b2,b3,b4⟩:=par_back (acl l) (ppM (acl l)).1 (by rw [←hc.2])
 generalize hs:(prA (d,u,l)).1=s at hl he⊢
 generalize(ppM (acl l)).1=t at b1 b2 b3 he⊢
 have hhd:∀c,s.head? =some c→c=34∨c=60:=by
  intro c hcc
  rw [he]at hcc
  unfold dsT at hcc
  split at hcc
  ·right;exact(Option.some.inj hcc).symm
  ·left;exact(Option.some.inj hcc).symm
 have htr:aat s=s:=by
  refine trim_id s (fun c hcc=> ?_) ?_
  ·rcases hhd c hcc with h|h<;>subst h<;>decide
  ·have e2:s=(dsT d++(60::(prU u++[62])))++t:=by rw [he];simp
   rw [e2]
   refine ppL_last _ [] t _ b3 ?_
   have:dsT d++60::(prU u++[62])=(dsT d++60::prU u)++[62]:=by simp
   rw [this]
   exact awr _ 62 (by decide)
 refine⟨?_,htr,b3⟩
 have hb0:aap aac s 0=0:=by
  rw [skipL_zero]
  exact ank _ _ (fun c hcc=>by rcases hhd c hcc with h|h<;>subst h<;>decide)
 have hdisp:ard s 0=(0,d,(dsT d).length):=by
  unfold ard
  by_cases hd:d=[]
  ·have e0:dsT d=[]:=if_pos hd
   rw [e0,zax]at he
   have s34:aep s 0 34=false:=by
    have:=avu s [] s 34 rfl
    rw [zaj]at this
    rw [this,he,List.head?_cons];rfl
   have s60:aep s 0 60=true:=by
    have:=avu s [] s 60 rfl
    rw [zaj]at this
    rw [this,he,List.head?_cons];rfl
   have hh:asq s 60=true:=by rw [he];unfold asq;rw [zbo];rfl
   rw [s34,if_neg (by decide),if_pos hh,aph,if_pos s60,e0,hd];rfl
  ·have e0:dsT d=quoT d++[32]:=if_neg hd
   rw [e0]at he
   have s34:aep s 0 34=true:=by
    have:=avu s [] s 34 rfl
    rw [zaj]at this
    rw [this,he];exact decide_eq_true rfl
   have hu:=unqA s [] d (32::60::(prU u++62::t)) (by rw [he];simp) hc.1
   rw [zaj,zbc]at hu
   have hb:aap aac s ((quoT d).length:Int)=(quoT d).length+1:=by
    rw [skipA aac s (quoT d) (32::60::(prU u++62::t)) (by rw [he];simp)];rfl
   have s60:aep s ((quoT d).length+1) 60=true:=by
    have:=avu s (quoT d++[32]) (60::(prU u++62::t)) 60 (by rw [he])
    rw [←snoc1]at this
    rw [this];exact decide_eq_true rfl
   rw [s34,if_pos rfl]
   rw [show((0:Nat):Int)=0 from rfl]at hu⊢
   rw [hu]
   simp only
   rw [if_pos trivial,hb,s60,if_pos rfl,e0,←snoc1]
 have htgt:=tgtA s (dsT d) t u hg he hl
 have hdrop:s.drop (dsT d++(60::(prU u++[62]))).length=t:=by
  have e2:s=(dsT d++(60::(prU u++[62])))++t:=by rw [he];simp
  rw [e2,zbi]
 unfold adrP
 rw [if_neg (by omega),hb0,hdisp]
 simp only
 rw [if_pos trivial,htgt]
 simp only
 rw [if_pos trivial,hdrop,b1,if_pos rfl]
theorem nameL_le(s:Str):∀(f i:Nat) (ws:List Str),i≤s.length→(aph s f i ws).2.1≤s.length
 |0,_,_,_=>zah _
 |f+1,i,ws,h=>by
  rw [aph]
  split
  ·exact h
  ·split
   ·exact zah _
   ·exact nameL_le s f _ _ (ada _ _ _)
theorem dispP_le(s:Str)(i:Nat)(hi:i≤s.length):(ard s i).2.2≤s.length:=by
 unfold ard
 split
 ·split
  ·split
   ·exact ada _ _ _
   ·exact zah _
  ·exact zah _
 ·split
  ·exact nameL_le s _ i [] hi
  ·exact hi
theorem tgtP_good(s:Str)(i:Nat)(h:(tgtP s i).1=0):Good (tgtP s i).2.1:=by
 unfold tgtP at h⊢
 split
 ·rename_i h1
  rw [if_pos h1]at h
  split
  ·rename_i h2
   rw [if_pos h2]at h
   exact absurd h (by decide)
  ·rename_i h2
   rw [if_neg h2]at h
   exact parse_good _ h
 ·rename_i h1
  rw [if_neg h1]at h
  split
  ·rename_i h2
   rw [if_pos h2]at h
   exact absurd h (by decide)
  ·rename_i h2
   rw [if_neg h2]at h
   exact parse_good _ h
theorem adr_good(s:Str)(h:(adrP s).1=0):Good (adrP s).2.2.1∧(adrP s).2.2.2.length≤16∧∀p∈(adrP s).2.2.2,aau p.1=p.1∧p.1.length≤4194304:=by
 unfold adrP at h⊢
 split
 ·rename_i h1
  rw [if_pos h1]at h
  exact absurd h (by decide)
 ·rename_i h1
  rw [if_neg h1]at h
  split
  ·rename_i h2
   rw [if_pos h2]at h
   split
   ·rename_i h3
    rw [if_pos h3]at h
    split
    ·have hl:∀k,(s.drop k).length≤4194304:=fun k=>by rw [zaq];omega
     refine⟨tgtP_good s _ h3,parP_len _,fun p hp=> ?_⟩
     have:=aty _ (hl _) p hp
     exact⟨this.1,zaF this.2.1 (hl _)⟩
    ·rename_i h4
     rw [if_neg h4]at h
     exact absurd h h4
   ·rename_i h3
    rw [if_neg h3]at h
    exact absurd h h3
  ·rename_i h2
   rw [if_neg h2]at h
   exact absurd h h2
def setP:List PP→Str→Str→List PP
 |[],nm,v=>[(nm,v,true)]
 |p::l,nm,v=>if aau p.1=nm then(p.1,v,true)::l else p::setP l nm v
open Bool renaming and_eq_true → zai
open List renaming all_cons → zaR, any_cons → zbo, append_assoc → zal, append_nil → zam, cons_append → zay, flatMap_cons → zas, intercalate → zbw, mem_cons_of_mem → zaf, mem_cons_self → zak, nil_append → zax, singleton_append → zaM
def consE(x:Str):(List Str⊕UInt8)→(List Str⊕UInt8)
 |.inl l=>.inl (x::l)
 |.inr e=>.inr e
def spS:Nat→Str→Str→List Str⊕UInt8
 |0,cur,[]=>.inl [aat cur]
 |_+1,_,[]=>.inr 6
 |0,cur,c::l=>if c=34 then spS 1 (cur++[c]) l else if c=60 then spS 3 (cur++[c]) l else if c=62 then .inr 5 else if c=44 then consE (aat cur) (spS 0 [] l)else spS 0 (cur++[c]) l
 |1,cur,c::l=>if c=34 then spS 0 (cur++[c]) l else if c=92 then spS 2 (cur++[c]) l else if aax c=true then .inr 5 else spS 1 (cur++[c]) l
 |2,cur,c::l=>if asr c=true then spS 1 (cur++[c]) l else .inr 5
 |_+3,cur,c::l=>if c=62 then spS 0 (cur++[c]) l else spS 3 (cur++[c]) l
theorem s0n(cur:Str):spS 0 cur []=.inl [aat cur]:=by rw [spS]
theorem s0c(cur:Str)(c:UInt8)(l:Str):spS 0 cur (c::l)=if c=34 then spS 1 (cur++[c]) l else if c=60 then spS 3 (cur++[c]) l else if c=62 then .inr 5 else if c=44 then consE (aat cur) (spS 0 [] l)else spS 0 (cur++[c]) l:=by rw [spS]
theorem s1c(cur:Str)(c:UInt8)(l:Str):spS 1 cur (c::l)=if c=34 then spS 0 (cur++[c]) l else if c=92 then spS 2 (cur++[c]) l else if aax c=true then .inr 5 else spS 1 (cur++[c]) l:=by rw [spS]
theorem s2c(cur:Str)(c:UInt8)(l:Str):spS 2 cur (c::l)=if asr c=true then spS 1 (cur++[c]) l else .inr 5:=by rw [spS]
theorem s3c(m:Nat)(cur:Str)(c:UInt8)(l:Str):spS (m+3) cur (c::l)=if c=62 then spS 0 (cur++[c]) l else spS 3 (cur++[c]) l:=by rw [spS]
theorem s3c'(cur:Str)(c:UInt8)(l:Str):spS 3 cur (c::l)=if c=62 then spS 0 (cur++[c]) l else spS 3 (cur++[c]) l:=s3c 0 cur c l
def lstP(v:Str):List Str×UInt8:=match spS 0 [] v with|.inr e=>([],e)|.inl l=>if l.any (fun x=>decide (x=[]))=true then([],5)else(l,0)
theorem rdw_allB(p:UInt8→Bool)(l:Str):∀b:Str,b.all p=true→rdw p (l++b)=rdw p l:=by
 intro b
 induction b generalizing l with
 |nil=>intro _;rw [zam]
 |cons c b ih=>
  intro h
  rw [zaR,zai]at h
  have e:l++c::b=(l++[c])++b:=by simp
  rw [e,ih _ h.2,rdw_snoc,if_pos h.1]
theorem dw_all(p:UInt8→Bool):∀(a b:Str),a.all p=true→(a++b).dropWhile p=b.dropWhile p
 |[],b,_=>rfl
 |c::a,b,h=>by
  rw [zaR,zai]at h
  rw [zay,List.dropWhile_cons_of_pos h.1,dw_all p a b h.2]
theorem trim_pre(a x:Str)(h:a.all aac=true):aat (a++x)=aat x:=by
 unfold aat
 rw [dw_all aac a x h]
theorem trim_post(x b:Str)(h:b.all aac=true):aat (x++b)=aat x:=by
 unfold aat
 rw [←rdw_comm,←rdw_comm,rdw_allB aac x b h]
theorem trim_trim(x:Str):aat (aat x)=aat x:=by
 unfold aat
 rw [rdw_comm,dw_idem]
 unfold rdw
 rw [List.reverse_reverse,dw_idem]
theorem avi:∀(l:Str) (m:Nat) (a b:Str),(∀x,aat (a++x)=aat (b++x))→spS m a l=spS m b l
 |[],0,a,b,h=>by
  have:=h []
  rw [zam,zam]at this
  rw [s0n,s0n,this]
 |[],m+1,a,b,h=>rfl
 |c::l,0,a,b,h=>by
  have hs:∀x,aat ((a++[c])++x)=aat ((b++[c])++x):=fun x=>by rw [zal,zal];exact h _
  have h0:=h []
  rw [zam,zam]at h0
  rw [s0c,s0c,avi l 1 _ _ hs,avi l 3 _ _ hs,avi l 0 _ _ hs,h0]
 |c::l,1,a,b,h=>by
  have hs:∀x,aat ((a++[c])++x)=aat ((b++[c])++x):=fun x=>by rw [zal,zal];exact h _
  rw [s1c,s1c,avi l 0 _ _ hs,avi l 1 _ _ hs,avi l 2 _ _ hs]
 |c::l,2,a,b,h=>by
  have hs:∀x,aat ((a++[c])++x)=aat ((b++[c])++x):=fun x=>by rw [zal,zal];exact h _
  rw [s2c,s2c,avi l 1 _ _ hs]
 |c::l,m+3,a,b,h=>by
  have hs:∀x,aat ((a++[c])++x)=aat ((b++[c])++x):=fun x=>by rw [zal,zal];exact h _
  rw [s3c,s3c,avi l 0 _ _ hs,avi l 3 _ _ hs]
theorem sp_in:∀(b:Str) (m:Nat) (cur:Str),b.all (fun c=>c==32)=true→spS m cur b=spS m cur []
 |[],m,cur,_=>rfl
 |c::b,0,cur,h=>by
  rw [zaR,zai]at h
  obtain rfl:c=32:=eq_of_beq h.1
  rw [s0c,if_neg (by decide),if_neg (by decide),if_neg (by decide),if_neg (by decide),sp_in b 0 _ h.2,s0n,s0n,trim_post cur [32] rfl]
 |c::b,1,cur,h=>by
  rw [zaR,zai]at h
  obtain rfl:c=32:=eq_of_beq h.1
  rw [s1c,if_neg (by decide),if_neg (by decide),if_neg (by decide),sp_in b 1 _ h.2];rfl
 |c::b,2,cur,h=>by
  rw [zaR,zai]at h
  obtain rfl:c=32:=eq_of_beq h.1
  rw [s2c,if_pos (by decide),sp_in b 1 _ h.2];rfl
 |c::b,m+3,cur,h=>by
  rw [zaR,zai]at h
  obtain rfl:c=32:=eq_of_beq h.1
  rw [s3c,if_neg (by decide),sp_in b 3 _ h.2];rfl
theorem sp_end(b:Str)(hb:b.all (fun c=>c==32)=true):∀(l:Str) (m:Nat) (cur:Str),spS m cur (l++b)=spS m cur l
 |[],m,cur=>sp_in b m cur hb
 |c::l,0,cur=>by rw [zay,s0c,s0c,sp_end b hb l,sp_end b hb l,sp_end b hb l,sp_end b hb l]
 |c::l,1,cur=>by rw [zay,s1c,s1c,sp_end b hb l,sp_end b hb l,sp_end b hb l]
 |c::l,2,cur=>by rw [zay,s2c,s2c,sp_end b hb l]
 |c::l,m+3,cur=>by rw [zay,s3c,s3c,sp_end b hb l,sp_end b hb l]
theorem lstP_blanks(v:Str):lstP ([32,9]++(v++[32,32]))=lstP v:=by
 unfold lstP
 have e:spS 0 [] ([32,9]++(v++[32,32]))=spS 0 [32,9] (v++[32,32]):=rfl
 rw [e,sp_end [32,32] rfl,avi v 0 [32,9] [] (fun x=>trim_pre [32,9] x rfl)]
def Cl(e:Str):Prop:=∀cur rest,spS 0 cur (e++rest)=spS 0 (cur++e) rest
theorem Cl.nil:Cl []:=fun cur rest=>by rw [zam];rfl
theorem Cl.app{a b:Str}(ha:Cl a)(hb:Cl b):Cl (a++b):=fun cur rest=>by
 rw [zal,ha,hb,zal]
def freeB(c:UInt8):Bool:= !(c==34)&& !(c==60)&& !(c==62)&& !(c==44)
theorem Cl.one(c:UInt8)(h:freeB c=true):Cl [c]:=fun cur rest=>by
 unfold freeB at h
 simp only [zai,Bool.not_eq_true',beq_eq_false_iff_ne]at h
 obtain⟨⟨⟨h1,h2⟩,h3⟩,h4⟩:=h
 rw [zaM,s0c,if_neg h1,if_neg h2,if_neg h3,if_neg h4]
theorem Cl.all:∀(a:Str),(∀c∈a,freeB c=true)→Cl a
 |[],_=>Cl.nil
 |c::a,h=>by
  have:=(Cl.one c (h c zak)).app (Cl.all a (fun d hd=>h d (zaf _ hd)))
  exact this
theorem Cl.cons{c:UInt8}{a:Str}(h:freeB c=true)(ha:Cl a):Cl (c::a):=(Cl.one c h).app ha
theorem sp_ang:∀(x:Str) (cur rest:Str),(∀c∈x,(!(c==62))=true)→spS 3 cur (x++62::rest)=spS 0 (cur++(x++[62])) rest
 |[],cur,rest,_=>by rw [zax,s3c',if_pos rfl];rfl
 |c::x,cur,rest,h=>by
  have hc:¬c=62:=by simpa using h c zak
  rw [zay,s3c',if_neg hc,sp_ang x _ rest (fun d hd=>h d (zaf _ hd))]
  simp
theorem Cl.ang(x:Str)(h:∀c∈x,(!(c==62))=true):Cl (60::(x++[62])):=fun cur rest=>by
 rw [zay,s0c,if_neg (by decide),if_pos rfl,zal,zaM,sp_ang x _ rest h]
 simp
theorem sp_quo:∀(v:Str) (cur rest:Str),v.any aax=false→spS 1 cur (v.flatMap amy++34::rest)=spS 0 (cur++(v.flatMap amy++[34])) rest
 |[],cur,rest,_=>by rw [List.flatMap_nil,zax,s1c,if_pos rfl];rfl
 |c::v,cur,rest,h=>by
  rw [zbo,Bool.or_eq_false_iff]at h
  by_cases hq:c=34∨c=92
  ·have he:asr c=true:=by rcases hq with rfl|rfl<;>decide
   rw [zas,qs_yes c hq,zay,zay,zay,s1c,if_neg (by decide),if_pos rfl,zax,zay,s2c,if_pos he,sp_quo v _ rest h.2]
   simp
  ·rw [zas,qs_no c hq,zaM,zay,s1c,if_neg (fun e=>hq (.inl e)),if_neg (fun e=>hq (.inr e)),if_neg (by rw [h.1];decide),sp_quo v _ rest h.2]
   simp
theorem Cl.quo(v:Str)(h:v.any aax=false):Cl (quoT v):=fun cur rest=>by
 unfold quoT
 rw [zay,s0c,if_pos rfl,zal,zaM,sp_quo v _ rest h]
 simp
theorem jn2(a b:Str)(l:List Str)(s:Str):zau (a::b::l) s=a++(s++zau (b::l) s):=by simp [zau,zbw,List.intersperse]
theorem jn1(a s:Str):zau [a] s=a:=by simp [zau,zbw]
theorem joinSnoc(sep:Str):∀(ws:List Str) (x:Str),zau (ws++[x]) sep=if ws=[]then x else zau ws sep++(sep++x)
 |[],x=>by rw [zax,jn1,if_pos rfl]
 |[a],x=>by
  rw [if_neg (by simp),jn1]
  show zau [a,x] sep=_
  rw [jn2,jn1]
 |a::b::ws,x=>by
  rw [if_neg (by simp),jn2]
  show zau (a::b::(ws++[x])) sep=_
  rw [jn2]
  have:=joinSnoc sep (b::ws) x
  rw [if_neg (by simp)]at this
  have e:b::(ws++[x])=(b::ws)++[x]:=rfl
  rw [e,this]
  simp
theorem sp_join:∀(es:List Str) (e cur:Str),(∀x,aat (cur++x)=aat x)→(∀x∈e::es,Cl x∧aat x=x)→spS 0 cur (zau (e::es) [44,32])=.inl (e::es)
 |[],e,cur,hcur,h=>by
  obtain⟨h1,h2⟩:=h e zak
  have hj:zau [e] [44,32]=e++[]:=by rw [zam,jn1]
  rw [hj,h1,s0n,hcur,h2]
 |d::es,e,cur,hcur,h=>by
  obtain⟨h1,h2⟩:=h e zak
  have hj:zau (e::d::es) [44,32]=e++(44::32::zau (d::es) [44,32]):=by rw [jn2];rfl
  have hsp:spS 0 [] (32::zau (d::es) [44,32])=.inl (d::es):=by
   rw [s0c,if_neg (by decide),if_neg (by decide),if_neg (by decide),if_neg (by decide),zax]
   exact sp_join es d [32] (fun x=>trim_pre [32] x rfl) (fun x hx=>h x (zaf _ hx))
  rw [hj,h1,s0c,if_neg (by decide),if_neg (by decide),if_neg (by decide),if_pos rfl,hsp,hcur,h2];rfl
theorem join_back(es:List Str)(hne:es≠[])(h:∀x∈es,Cl x∧aat x=x∧x≠[]):lstP (zau es [44,32])=(es,0):=by
 cases es with
 |nil=>exact absurd rfl hne
 |cons e es=>
  unfold lstP
  rw [sp_join es e [] (fun x=>rfl) (fun x hx=>⟨(h x hx).1,(h x hx).2.1⟩)]
  simp only
  rw [if_neg]
  intro ha
  rw [List.any_eq_true]at ha
  obtain⟨x,hx,hd⟩:=ha
  exact(h x hx).2.2 (of_decide_eq_true hd)
theorem consE_inl{x:Str}{r:List Str⊕UInt8}{l:List Str}(h:consE x r=.inl l):∃m,r=.inl m∧l=x::m:=by
 cases r with
 |inl m=>exact⟨m,rfl,(Sum.inl.inj h).symm⟩
 |inr e=>cases h
theorem aug:∀(s:Str) (m:Nat) (cur:Str) (l:List Str),spS m cur s=.inl l→l≠[]∧∀x∈l,∃y,x=aat y
 |[],0,cur,l,h=>by
  rw [spS]at h
  have:=Sum.inl.inj h
  subst this
  exact⟨by simp,fun x hx=>⟨cur,List.mem_singleton.1 hx⟩⟩
 |[],m+1,cur,l,h=>by cases h
 |c::s,0,cur,l,h=>by
  rw [spS]at h
  split at h
  ·exact aug s _ _ l h
  ·split at h
   ·exact aug s _ _ l h
   ·split at h
    ·cases h
    ·split at h
     ·obtain⟨m,h1,rfl⟩:=consE_inl h
      obtain⟨_,h2⟩:=aug s _ _ m h1
      refine⟨by simp,fun x hx=> ?_⟩
      rcases List.mem_cons.1 hx with h|h
      ·exact⟨cur,h⟩
      ·exact h2 x h
     ·exact aug s _ _ l h
 |c::s,1,cur,l,h=>by
  rw [spS]at h
  split at h
  ·exact aug s _ _ l h
  ·split at h
   ·exact aug s _ _ l h
   ·split at h
    ·cases h
    ·exact aug s _ _ l h
 |c::s,2,cur,l,h=>by
  rw [spS]at h
  split at h
  ·exact aug s _ _ l h
  ·cases h
 |c::s,m+3,cur,l,h=>by
  rw [spS]at h
  split at h
  ·exact aug s _ _ l h
  ·exact aug s _ _ l h
theorem sp_err:∀(l:Str) (m:Nat) (cur:Str) (e:UInt8),spS m cur l=.inr e→e≠0:=by
 intro l
 induction l with
 |nil=>
  intro m cur e h
  cases m with
  |zero=>cases h
  |succ m=>rw [←Sum.inr.inj h];decide
 |cons c l ih=>
  intro m cur e h
  match m with
  |0=>
   rw [spS]at h
   split at h
   ·exact ih _ _ _ h
   ·split at h
    ·exact ih _ _ _ h
    ·split at h
     ·rw [←Sum.inr.inj h];decide
     ·split at h
      ·cases hr:spS 0 [] l with
       |inl q=>rw [hr]at h;cases h
       |inr e'=>rw [hr]at h;rw [←Sum.inr.inj h];exact ih _ _ _ hr
      ·exact ih _ _ _ h
  |1=>
   rw [spS]at h
   split at h
   ·exact ih _ _ _ h
   ·split at h
    ·exact ih _ _ _ h
    ·split at h
     ·rw [←Sum.inr.inj h];decide
     ·exact ih _ _ _ h
  |2=>
   rw [spS]at h
   split at h
   ·exact ih _ _ _ h
   ·rw [←Sum.inr.inj h];decide
  |m+3=>
   rw [spS]at h
   split at h
   ·exact ih _ _ _ h
   ·exact ih _ _ _ h
theorem lstP_mem(v:Str)(h:(lstP v).2=0):(lstP v).1≠[]∧∀x∈(lstP v).1,aat x=x∧x≠[]:=by
 unfold lstP at h⊢
 cases hs:spS 0 [] v with
 |inr e=>
  rw [hs]at h
  simp only at h
  exact absurd h (sp_err v 0 [] e hs)
 |inl l=>
  rw [hs]at h
  simp only at h⊢
  by_cases ha:l.any (fun x=>decide (x=[]))=true
  ·rw [if_pos ha]at h;exact absurd h (show¬(5:UInt8)=0 by decide)
  ·rw [if_neg ha]
   obtain⟨h1,h2⟩:=aug v 0 [] l hs
   refine⟨h1,fun x hx=>⟨?_,fun e=>ha (List.any_eq_true.2 ⟨x,hx,decide_eq_true e⟩)⟩⟩
   obtain⟨y,rfl⟩:=h2 x hx
   exact trim_trim y
open Go.Lib renaming cut → zaW, itoa → zat, join → zau
open Int renaming toNat_natCast → zar
open List renaming drop_left → zbi, eq_nil_of_length_eq_zero → zap, length_append → zab, length_cons → zad, length_nil → zaj, mem_cons_of_mem → zaf, mem_cons_self → zak, take_left → zbv
open Nat renaming add_zero → zaP, le_refl → zao, le_trans → zaF
open Option renaming map_eq_some_iff → zbb
theorem itoa_num(n:Int)(h0:0≤n)(h:n≤2147483647):numQ (zat n)=(n,0)∧1≤(zat n).length∧(zat n).length≤10∧(zat n).all adc=true:=by
 obtain⟨k,rfl⟩:∃k:Nat,n=(k:Int):=⟨n.toNat,by omega⟩
 obtain⟨h1,h2,h3,h4⟩:=dd_ok 9 k (by omega)
 rw [itoa_nat]
 refine⟨?_,h3,h4,h1⟩
 unfold numQ
 rw [h1,h2,if_neg (by rintro(h|h|h);omega;omega;cases h),if_neg (by omega)]
def apg(s:Str):Int×Str×UInt8:=((numQ (s.take (ahv (fun c=> !aac c) s))).1,s.drop (aap aac s (ahv (fun c=> !aac c) s:Int)),(numQ (s.take (ahv (fun c=> !aac c) s))).2)
theorem numQ_bd(s:Str):0≤(numQ s).1∧(numQ s).1≤2147483647:=by
 unfold numQ
 split
 ·exact⟨by decide,by decide⟩
 ·split
  ·exact⟨by decide,by decide⟩
  ·dsimp only;omega
theorem numd_bd(s:Str):0≤(apg s).1∧(apg s).1≤2147483647:=by unfold apg;exact numQ_bd _
def apo(v:Str):Int×Str×UInt8:=
 if(apg (aat v)).2.2=0 then(if ahi (apg (aat v)).2.1=true then((apg (aat v)).1,(apg (aat v)).2.1,0)else(0,[],5))else(0,[],(apg (aat v)).2.2)
def aqd(v:Str):Int×Int×Str×UInt8:=
 if(apg (aat v)).2.2=0 then(if(apo (apg (aat v)).2.1).2.2=0 then((apg (aat v)).1,(apo (apg (aat v)).2.1).1,(apo (apg (aat v)).2.1).2.1,0)else(0,0,[],(apo (apg (aat v)).2.1).2.2))else(0,0,[],(apg (aat v)).2.2)
theorem dig_nblank:∀c:UInt8,adc c=true→(!aac c)=true:=aae _ (by decide+kernel)
theorem numd_itoa(n:Int)(h0:0≤n)(h:n≤2147483647)(m:Str)(hm:∀c,m.head? =some c→aac c=false):apg (zat n++32::m)=(n,m,0):=by
 obtain⟨a1,a2,a3,a4⟩:=itoa_num n h0 h
 have hs:ahv (fun c=> !aac c) (zat n++32::m)=(zat n).length:=by
  rw [asm _ _ _ (List.all_eq_true.2 (fun c hc=>dig_nblank c (List.all_eq_true.1 a4 c hc))),awo _ _ _ (by decide),zaP]
 have hb:aap aac (zat n++32::m) ((zat n).length:Int)=(zat n++[32]).length:=by
  rw [skipA aac _ (zat n) (32::m) rfl,ahv,if_pos (by decide),ank aac m hm,zab];rfl
 have hd:(zat n++32::m).drop (zat n++[32]).length=m:=by
  have e:zat n++32::m=(zat n++[32])++m:=by simp
  rw [e,zbi]
 unfold apg
 rw [hs,zbv,a1,hb,hd]
theorem head_dig(n:Int)(h0:0≤n)(h:n≤2147483647)(m:Str):∀c,(zat n++m).head? =some c→aac c=false:=by
 intro c hc
 obtain⟨a1,a2,a3,a4⟩:=itoa_num n h0 h
 have hne:zat n≠[]:=fun e=>by rw [e]at a2;simp at a2
 rw [atr _ _ hne]at hc
 have:=dig_nblank c (head_all adc _ a4 c hc)
 simpa using this
theorem tok_last(m:Str)(hm:ahi m=true):lastOk m:=ase aaf aot m (aov hm).2
theorem cseq_back(n:Int)(h0:0≤n)(h:n≤2147483647)(m:Str)(hm:ahi m=true):aat (zat n++32::m)=zat n++32::m∧apo (zat n++32::m)=(n,m,0):=by
 have ht:aat (zat n++32::m)=zat n++32::m:=by
  refine trim_id _ (head_dig n h0 h _) ?_
  have e:zat n++32::m=(zat n++[32])++m:=by simp
  rw [e]
  exact asd _ _ (aov hm).1 (tok_last m hm)
 refine⟨ht, ?_⟩
 have hh:∀c,m.head? =some c→aac c=false:=fun c hc=>aot c (head_all aaf m (aov hm).2 c hc)
 unfold apo
 rw [ht,numd_itoa n h0 h m hh]
 dsimp only
 rw [if_pos rfl,if_pos hm]
theorem rack_back(a:Int)(a0:0≤a)(a1:a≤2147483647)(n:Int)(h0:0≤n)(h:n≤2147483647)(m:Str)(hm:ahi m=true):aat (zat a++32::(zat n++32::m))=zat a++32::(zat n++32::m)∧aqd (zat a++32::(zat n++32::m))=(a,n,m,0):=by
 have ht:aat (zat a++32::(zat n++32::m))=zat a++32::(zat n++32::m):=by
  refine trim_id _ (head_dig a a0 a1 _) ?_
  have e:zat a++32::(zat n++32::m)=(zat a++32::(zat n++[32]))++m:=by simp
  rw [e]
  exact asd _ _ (aov hm).1 (tok_last m hm)
 refine⟨ht, ?_⟩
 unfold aqd
 rw [ht,numd_itoa a a0 a1 _ (head_dig n h0 h _)]
 dsimp only
 rw [if_pos rfl,(cseq_back n h0 h m hm).2,if_pos rfl]
theorem cseqP_ok(v:Str)(h:(apo v).2.2=0):ahi (apo v).2.1=true∧0≤(apo v).1∧(apo v).1≤2147483647:=by
 have hb:=numd_bd (aat v)
 unfold apo at h⊢
 by_cases x1:(apg (aat v)).2.2=0
 ·rw [if_pos x1]at h⊢
  by_cases x2:ahi (apg (aat v)).2.1=true
  ·rw [if_pos x2];exact⟨x2,hb⟩
  ·rw [if_neg x2]at h;exact absurd h (by decide)
 ·rw [if_neg x1]at h;exact absurd h x1
theorem rackP_ok(v:Str)(h:(aqd v).2.2.2=0):ahi (aqd v).2.2.1=true∧(0≤(aqd v).1∧(aqd v).1≤2147483647)∧0≤(aqd v).2.1∧(aqd v).2.1≤2147483647:=by
 have hb:=numd_bd (aat v)
 have hc:=cseqP_ok (apg (aat v)).2.1
 unfold aqd at h⊢
 generalize apo (apg (aat v)).2.1=C at hc h⊢
 generalize apg (aat v)=D at hb h⊢
 by_cases x1:D.2.2=0
 ·rw [if_pos x1]at h⊢
  by_cases x2:C.2.2=0
  ·rw [if_pos x2]
   exact⟨(hc x2).1,hb,(hc x2).2⟩
  ·rw [if_neg x2]at h
   exact absurd h x2
 ·rw [if_neg x1]at h
  exact absurd h x1
def tdP(k:Int)(ct:Bool)(v:Str):Str×UInt8:=
 if k=1 then(if ct=true∧aat v=[42]then([42],0)else if(adrP (aat v)).1=0 then prA (adrP (aat v)).2 else([],(adrP (aat v)).1))
 else if k=2 then(if(viaP v).2=0 then aqs (viaP v).1 else([],(viaP v).2))
 else if k=3 then(if(apo v).2.2=0 then(zat (apo v).1++32::(apo v).2.1,0)else([],(apo v).2.2))
 else if k=4 then(if(aqd v).2.2.2=0 then(zat (aqd v).1++32::(zat (aqd v).2.1++32::(aqd v).2.2.1),0)else([],(aqd v).2.2.2))
 else if k=5 then(if(numQ (aat v)).2=0 then(zat (numQ (aat v)).1,0)else([],(numQ (aat v)).2))
 else if k=6∨k=7 then(if(aur v).2=0 then anl (aur v).1 else([],(aur v).2))
 else if(aat v).any aax=true then([],5)else(aat v,0)
theorem tdP_trim(k:Int)(ct:Bool)(v w:Str)(h:aat v=aat w):tdP k ct v=tdP k ct w:=by
 have h1:viaP v=viaP w:=by unfold viaP;rw [h]
 have h2:apo v=apo w:=by unfold apo;rw [h]
 have h3:aqd v=aqd w:=by unfold aqd;rw [h]
 have h4:aur v=aur w:=by unfold aur;rw [h]
 unfold tdP
 rw [h,h1,h2,h3,h4]
theorem tok_free:∀c:UInt8,aaf c=true→freeB c=true:=aae _ (by decide+kernel)
theorem Cl.tok{v:Str}(h:ahi v=true):Cl v:=Cl.all v (fun c hc=>tok_free c (List.all_eq_true.1 (aov h).2 c hc))
theorem host_free(s:Str):∀c∈(acq s).1,freeB c=true:=hostP_q _ (aae _ (by decide+kernel)) (by decide) (by decide) (by decide) (by decide) (by decide) (aae _ (by decide+kernel)) (aae _ (by decide+kernel)) s
theorem Cl.vtx(v:Str)(h:v.any aax=false):Cl (vtx v):=by
 unfold Go.Wk.vtx
 cases h1:ahi v with
 |true=>exact Cl.tok h1
 |false=>
  cases h2:brV v with
  |true=>
   have h3:=h2
   unfold brV at h3
   simp only [zai,decide_eq_true_eq]at h3
   have:=host_free v
   rw [h3.1.2]at this
   exact Cl.all v this
  |false=>exact Cl.quo v h
theorem Cl.txt(p:PP)(h:okV p=true):Cl (txt p):=by
 unfold okV at h
 cases hh:p.2.2 with
 |true=>
  rw [hh,cond_true]at h
  rw [txt_eq p hh]
  exact Cl.cons (by decide) (Cl.vtx _ (by simpa using h))
 |false=>rw [txt_no p hh];exact Cl.nil
theorem Cl.par:∀(r pre:List PP) (u:Str),ppL pre r=some u→Cl u
 |[],pre,u,h=>by
  rw [ppL,Option.some.injEq]at h
  subst h;exact Cl.nil
 |p::r,pre,u,h=>by
  rw [ppL]at h
  cases hk:okN pre p&&okV p with
  |false=>rw [hk]at h;cases h
  |true=>
   rw [hk,cond_true,zbb]at h
   obtain⟨t,ht,rfl⟩:=h
   rw [zai]at hk
   have hn:ahi p.1=true:=by
    have:=hk.1
    unfold okN at this
    simp only [zai]at this
    exact this.1.1
   exact Cl.cons (by decide) ((Cl.tok hn).app ((Cl.txt p hk.2).app (Cl.par r _ t ht)))
theorem isort2(l:List PP)(t:Str)(h:ppL [] (acl l)=some t):acl (acl l)=acl l:=
 isort_isort l (dst_perm (ajg l) (ppL_dst (acl l) [] t h).1)
theorem adr_tidy(d:Str)(u:UU)(l:List PP)(hg:Good u)(h0:(prA (d,u,l)).2=0)(hl:(prA (d,u,l)).1.length≤1024):
  (adrP (prA (d,u,l)).1).1=0∧prA (adrP (prA (d,u,l)).1).2=prA (d,u,l)∧aat (prA (d,u,l)).1=(prA (d,u,l)).1∧(prA (d,u,l)).1≠[]∧(prA (d,u,l)).1≠[42]∧Cl (prA (d,u,l)).1:=by
 obtain⟨b1,b2,b3⟩:=addr_back d u l hg h0 hl
 have hc:d.any aax=false∧(ppM (acl l)).2=0:=by
  by_cases h:d.any aax=false∧(ppM (acl l)).2=0
  ·exact h
  ·unfold prA at h0
   dsimp only at h0
   rw [if_neg h]at h0
   exact absurd h0 (by decide)
 have he:(prA (d,u,l)).1=dsT d++(60::(prU u++(62::(ppM (acl l)).1))):=by unfold prA;dsimp only;rw [if_pos hc]
 have hcd:Cl (dsT d):=by
  unfold dsT
  split
  ·exact Cl.nil
  ·exact(Cl.quo d hc.1).app (Cl.one 32 (by decide))
 have hcl:Cl (prA (d,u,l)).1:=by
  rw [he]
  have e2:dsT d++(60::(prU u++(62::(ppM (acl l)).1)))=dsT d++((60::(prU u++[62]))++(ppM (acl l)).1):=by simp
  rw [e2]
  exact hcd.app ((Cl.ang _ (prU_n62 u hg)).app (Cl.par _ _ _ b3))
 have hhd:∀c,(prA (d,u,l)).1.head? =some c→c=34∨c=60:=by
  intro c hcc
  rw [he]at hcc
  unfold dsT at hcc
  split at hcc
  ·right;exact(Option.some.inj hcc).symm
  ·left;exact(Option.some.inj hcc).symm
 refine⟨by rw [b1], ?_,b2, ?_, ?_,hcl⟩
 ·rw [b1]
  unfold prA
  dsimp only
  rw [isort2 l _ b3]
 ·intro e;rw [he]at e;simp at e
 ·intro e
  have:=hhd 42 (by rw [e];rfl)
  rcases this with h|h<;>exact absurd h (by decide)
theorem via_tidy(x:VV)(h:(aqs x).2=0):(viaP (aqs x).1).2=0∧aqs (viaP (aqs x).1).1=aqs x∧aat (aqs x).1=(aqs x).1∧(aqs x).1≠[]∧Cl (aqs x).1:=by
 have hb:=via_back x h
 have hag:=via_again x h
 refine⟨by rw [hb],by rw [hb];exact hag, ?_⟩
 have h':=h
 unfold aqs at h'
 by_cases hc:(acq x.2.1).2=true∧ahi x.1=true∧0≤x.2.2.1∧x.2.2.1≤65535∧(ppM (acl (ars x.2.2.2.2++aut x.2.2.2.1))).2=0
 ·have he:=congrArg Prod.fst (prVia_yes x hc)
  obtain⟨hH,hT,hp0,hp1,h0⟩:=hc
  obtain⟨b1,b2,b3,b4⟩:=par_back (acl (ars x.2.2.2.2++aut x.2.2.2.1)) (ppM (acl (ars x.2.2.2.2++aut x.2.2.2.1))).1 (by rw [←h0])
  have hall:=prHost_all x.2.1 x.2.2.1 hp0 hp1
  obtain⟨hpn,_⟩:=prHost_ne x.2.1 x.2.2.1 hH
  have hfr:∀c∈apk (acq x.2.1).1 x.2.2.1,freeB c=true:=by
   intro c hc
   unfold apk at hc
   split at hc
   ·exact host_free _ c hc
   ·rcases List.mem_append.1 hc with h|h
    ·exact host_free _ c h
    ·rcases List.mem_append.1 h with h|h
     ·rw [List.mem_singleton.1 h];decide
     ·exact(aae (fun c=>adc c=true→freeB c=true) (by decide+kernel)) c (List.all_eq_true.1 (amd _ hp0 hp1).2.2.2 c h)
  rw [he]
  dsimp only
  refine⟨?_,by unfold VER;simp, ?_⟩
  ·refine trim_id _ (fun c hc=> ?_) (ppL_last _ [] _ _ b3 (asd _ _ hpn (ase (fun c=> !sepB c) sep_blank _ hall)))
   have:c=83:=(Option.some.inj hc).symm
   rw [this];decide
  ·have hv:Cl VER:=Cl.all _ (by decide)
   exact(((hv.app (Cl.tok (upperL_tok x.1 hT))).app (Cl.one 32 (by decide))).app (Cl.all _ hfr)).app (Cl.par _ _ _ b3)
 ·rw [if_neg hc]at h';exact absurd h' (by decide)
theorem item_tidy(x:Str×List PP)(h:(anl x).2=0):(aur (anl x).1).2=0∧anl (aur (anl x).1).1=anl x∧aat (anl x).1=(anl x).1∧(anl x).1≠[]∧Cl (anl x).1:=by
 have hb:=item_back x h
 have h':=h
 unfold anl at h'
 by_cases hc:cutOk x.1=true∧(ppM (acl x.2)).2=0
 ·have he:(anl x).1=x.1++(ppM (acl x.2)).1:=by unfold anl;rw [if_pos hc]
  obtain⟨h1,h2⟩:=hc
  have hcut:=h1
  rw [item_cut,decide_eq_true_eq]at h1
  obtain⟨hne,hE⟩:=h1
  obtain⟨b1,b2,b3,b4⟩:=par_back (acl x.2) (ppM (acl x.2)).1 (by rw [←h2])
  refine⟨by rw [hb], ?_, ?_, ?_, ?_⟩
  ·rw [hb]
   unfold anl
   dsimp only
   rw [isort2 x.2 _ b3]
  ·rw [he]
   refine trim_id _ (fun c hc=> ?_) (ppL_last _ [] _ x.1 b3 (itemE_last x.1 hE hne))
   rw [atr x.1 _ hne]at hc
   exact aot c (itemE_head x.1 hE hne c hc)
  ·rw [he];simp [hne]
  ·rw [he]
   refine Cl.app ?_ (Cl.par _ _ _ b3)
   unfold cutOk at hcut
   simp only [zai,Bool.or_eq_true,Bool.not_eq_true']at hcut
   rcases idx47 47 x.1 with⟨hi,_⟩|⟨f,s2,e1,e2,hi⟩
   ·have e:zaW x.1 [47]=(x.1,[],false):=by rw [cut_eq,if_pos hi]
    rw [e]at hcut
    exact Cl.tok hcut.1
   ·have e:zaW x.1 [47]=(f,s2,true):=by
     rw [cut_eq,if_neg (by rw [hi];omega),hi,zar,e1,zbv]
     have:(f++47::s2).drop (f.length+([47]:Str).length)=s2:=by
      have e3:f++47::s2=(f++[47])++s2:=by simp
      have e4:f.length+([47]:Str).length=(f++[47]).length:=by simp
      rw [e3,e4,zbi]
     rw [this]
    rw [e]at hcut
    dsimp only at hcut
    rw [e1]
    refine(Cl.tok hcut.1).app (Cl.cons (by decide) (Cl.tok ?_))
    rcases hcut.2 with h|h
    ·cases h
    ·exact h
 ·rw [if_neg hc]at h';exact absurd h' (by decide)
def manyK(k:Int):Prop:=k=1∨k=2∨k=6∨k=7
theorem tdP_back(k:Int)(ct:Bool)(v:Str)(h:(tdP k ct v).2=0)(hl:(tdP k ct v).1.length≤1024):
  tdP k ct (tdP k ct v).1=tdP k ct v∧aat (tdP k ct v).1=(tdP k ct v).1∧(manyK k→(tdP k ct v).1≠[]∧Cl (tdP k ct v).1):=by
 by_cases k1:k=1
 ·subst k1
  by_cases hs:ct=true∧aat v=[42]
  ·have e:tdP 1 ct v=([42],0):=by unfold tdP;rw [if_pos rfl,if_pos hs]
   rw [e]
   have ht:aat [42]=[42]:=rfl
   refine⟨?_,ht,fun _=>⟨by simp,Cl.one 42 (by decide)⟩⟩
   unfold tdP
   rw [if_pos rfl,if_pos ⟨hs.1,ht⟩]
  ·by_cases ha:(adrP (aat v)).1=0
   ·have e:tdP 1 ct v=prA (adrP (aat v)).2:=by unfold tdP;rw [if_pos rfl,if_neg hs,if_pos ha]
    have hg:=(adr_good _ ha).1
    rw [e]at h hl⊢
    generalize(adrP (aat v)).2=a at hg h hl⊢
    obtain⟨d,u,l⟩:=a
    obtain⟨c1,c2,c3,c4,c5,c6⟩:=adr_tidy d u l hg h hl
    refine⟨?_,c3,fun _=>⟨c4,c6⟩⟩
    unfold tdP
    rw [if_pos rfl,c3,if_neg (fun h=>c5 h.2),if_pos c1,c2]
   ·have e:tdP 1 ct v=([],(adrP (aat v)).1):=by unfold tdP;rw [if_pos rfl,if_neg hs,if_neg ha]
    rw [e]at h
    exact absurd h ha
 ·by_cases k2:k=2
  ·subst k2
   by_cases ha:(viaP v).2=0
   ·have e:tdP 2 ct v=aqs (viaP v).1:=by unfold tdP;rw [if_neg (by decide),if_pos rfl,if_pos ha]
    rw [e]at h hl⊢
    obtain⟨c1,c2,c3,c4,c5⟩:=via_tidy _ h
    refine⟨?_,c3,fun _=>⟨c4,c5⟩⟩
    unfold tdP
    rw [if_neg (by decide),if_pos rfl,if_pos c1,c2]
   ·have e:tdP 2 ct v=([],(viaP v).2):=by unfold tdP;rw [if_neg (by decide),if_pos rfl,if_neg ha]
    rw [e]at h
    exact absurd h ha
  ·by_cases k3:k=3
   ·subst k3
    by_cases ha:(apo v).2.2=0
    ·have e:tdP 3 ct v=(zat (apo v).1++32::(apo v).2.1,0):=by unfold tdP;rw [if_neg (by decide),if_neg (by decide),if_pos rfl,if_pos ha]
     have hb:=cseqP_ok v ha
     rw [e]
     dsimp only
     obtain⟨c1,c2⟩:=cseq_back _ hb.2.1 hb.2.2 _ hb.1
     refine⟨?_,c1,fun h=>by rcases h with h|h|h|h<;>exact absurd h (by decide)⟩
     unfold tdP
     rw [if_neg (by decide),if_neg (by decide),if_pos rfl,c2,if_pos rfl]
    ·have e:tdP 3 ct v=([],(apo v).2.2):=by unfold tdP;rw [if_neg (by decide),if_neg (by decide),if_pos rfl,if_neg ha]
     rw [e]at h
     exact absurd h ha
   ·by_cases k4:k=4
    ·subst k4
     by_cases ha:(aqd v).2.2.2=0
     ·have e:tdP 4 ct v=(zat (aqd v).1++32::(zat (aqd v).2.1++32::(aqd v).2.2.1),0):=by unfold tdP;rw [if_neg (by decide),if_neg (by decide),if_neg (by decide),if_pos rfl,if_pos ha]
      have hb:=rackP_ok v ha
      rw [e]
      dsimp only
      obtain⟨c1,c2⟩:=rack_back _ hb.2.1.1 hb.2.1.2 _ hb.2.2.1 hb.2.2.2 _ hb.1
      refine⟨?_,c1,fun h=>by rcases h with h|h|h|h<;>exact absurd h (by decide)⟩
      unfold tdP
      rw [if_neg (by decide),if_neg (by decide),if_neg (by decide),if_pos rfl,c2,if_pos rfl]
     ·have e:tdP 4 ct v=([],(aqd v).2.2.2):=by unfold tdP;rw [if_neg (by decide),if_neg (by decide),if_neg (by decide),if_pos rfl,if_neg ha]
      rw [e]at h
      exact absurd h ha
    ·by_cases k5:k=5
     ·subst k5
      by_cases ha:(numQ (aat v)).2=0
      ·have e:tdP 5 ct v=(zat (numQ (aat v)).1,0):=by unfold tdP;rw [if_neg (by decide),if_neg (by decide),if_neg (by decide),if_neg (by decide),if_pos rfl,if_pos ha]
       rw [e]
       dsimp only
       obtain⟨q0,q1⟩:=numQ_bd (aat v)
       generalize(numQ (aat v)).1=n at q0 q1
       obtain⟨a1,a2,a3,a4⟩:=itoa_num n q0 q1
       have ht:aat (zat n)=zat n:=by
        refine trim_id _ (fun c hc=> ?_) (ase adc (fun c hc=>by have:=dig_nblank c hc;simpa using this) _ a4)
        have:=dig_nblank c (head_all adc _ a4 c hc)
        simpa using this
       refine⟨?_,ht,fun h=>by rcases h with h|h|h|h<;>exact absurd h (by decide)⟩
       unfold tdP
       rw [if_neg (by decide),if_neg (by decide),if_neg (by decide),if_neg (by decide),if_pos rfl,ht,a1,if_pos rfl]
      ·have e:tdP 5 ct v=([],(numQ (aat v)).2):=by unfold tdP;rw [if_neg (by decide),if_neg (by decide),if_neg (by decide),if_neg (by decide),if_pos rfl,if_neg ha]
       rw [e]at h
       exact absurd h ha
     ·by_cases k6:k=6∨k=7
      ·by_cases ha:(aur v).2=0
       ·have e:tdP k ct v=anl (aur v).1:=by unfold tdP;rw [if_neg k1,if_neg k2,if_neg k3,if_neg k4,if_neg k5,if_pos k6,if_pos ha]
        rw [e]at h hl⊢
        obtain⟨c1,c2,c3,c4,c5⟩:=item_tidy _ h
        refine⟨?_,c3,fun _=>⟨c4,c5⟩⟩
        unfold tdP
        rw [if_neg k1,if_neg k2,if_neg k3,if_neg k4,if_neg k5,if_pos k6,if_pos c1,c2]
       ·have e:tdP k ct v=([],(aur v).2):=by unfold tdP;rw [if_neg k1,if_neg k2,if_neg k3,if_neg k4,if_neg k5,if_pos k6,if_neg ha]
        rw [e]at h
        exact absurd h ha
      ·by_cases ha:(aat v).any aax=true
       ·have e:tdP k ct v=([],5):=by unfold tdP;rw [if_neg k1,if_neg k2,if_neg k3,if_neg k4,if_neg k5,if_neg k6,if_pos ha]
        rw [e]at h
        exact absurd h (show¬(5:UInt8)=0 by decide)
       ·have e:∀w,aat w=aat v→tdP k ct w=(aat v,0):=fun w hw=>by unfold tdP;rw [hw,if_neg k1,if_neg k2,if_neg k3,if_neg k4,if_neg k5,if_neg k6,if_neg ha]
        rw [e v rfl]
        refine⟨e _ (trim_trim v),trim_trim v,fun h=> ?_⟩
        rcases h with h|h|h|h
        ·exact absurd h k1
        ·exact absurd h k2
        ·exact absurd (.inl h) k6
        ·exact absurd (.inr h) k6
def tdL(k:Int)(ct:Bool):List Str→List Str×UInt8
 |[]=>([],0)
 |x::l=>if(tdP k ct x).2=0 then(if(tdL k ct l).2=0 then((tdP k ct x).1::(tdL k ct l).1,0)else([],(tdL k ct l).2))else([],(tdP k ct x).2)
theorem tdL_len(k:Int)(ct:Bool):∀l:List Str,(tdL k ct l).2=0→(tdL k ct l).1.length=l.length
 |[],_=>rfl
 |x::l,h=>by
  rw [tdL]at h⊢
  by_cases h1:(tdP k ct x).2=0
  ·rw [if_pos h1]at h⊢
   by_cases h2:(tdL k ct l).2=0
   ·rw [if_pos h2]
    simp only [zad,tdL_len k ct l h2]
   ·rw [if_neg h2]at h;exact absurd h h2
  ·rw [if_neg h1]at h;exact absurd h h1
theorem tdL_back(k:Int)(ct:Bool)(hk:manyK k):∀l:List Str,(tdL k ct l).2=0→(∀x∈(tdL k ct l).1,x.length≤1024)→tdL k ct (tdL k ct l).1=((tdL k ct l).1,0)∧∀x∈(tdL k ct l).1,Cl x∧aat x=x∧x≠[]
 |[],_,_=>⟨rfl,fun x hx=>by cases hx⟩
 |x::l,h,hl=>by
  rw [tdL]at h hl⊢
  by_cases h1:(tdP k ct x).2=0
  ·rw [if_pos h1]at h hl⊢
   by_cases h2:(tdL k ct l).2=0
   ·rw [if_pos h2]at hl⊢
    dsimp only at hl⊢
    obtain⟨a1,a2,a3⟩:=tdP_back k ct x h1 (hl _ zak)
    obtain⟨b1,b2⟩:=tdL_back k ct hk l h2 (fun y hy=>hl y (zaf _ hy))
    refine⟨?_,fun y hy=> ?_⟩
    ·rw [tdL,a1,b1,if_pos h1,if_pos rfl]
    ·rcases List.mem_cons.1 hy with e|e
     ·rw [e];exact⟨(a3 hk).2,a2,(a3 hk).1⟩
     ·exact b2 y e
   ·rw [if_neg h2]at h;exact absurd h h2
  ·rw [if_neg h1]at h;exact absurd h h1
theorem join_mem_len(sep:Str):∀(l:List Str),∀x∈l,x.length≤(zau l sep).length
 |[],x,hx=>by cases hx
 |[a],x,hx=>by
  rw [List.mem_singleton.1 hx,jn1]
  exact zao _
 |a::b::l,x,hx=>by
  have e:=jn2 a b l sep
  rw [e,zab,zab]
  rcases List.mem_cons.1 hx with h|h
  ·rw [h];omega
  ·have:=join_mem_len sep (b::l) x h
   omega
def awn(many:Bool)(k:Int)(ct:Bool)(v:Str):Str×UInt8:=
 if many=true then(if(lstP v).2=0 then(if(tdL k ct (lstP v).1).2=0 then(zau (tdL k ct (lstP v).1).1 [44,32],0)else([],(tdL k ct (lstP v).1).2))else([],(lstP v).2))else tdP k ct v
theorem tidyP_blanks(many:Bool)(k:Int)(ct:Bool)(v:Str):awn many k ct ([32,9]++(v++[32,32]))=awn many k ct v:=by
 have ht:aat ([32,9]++(v++[32,32]))=aat v:=by rw [trim_pre _ _ rfl,trim_post _ _ rfl]
 unfold awn
 rw [lstP_blanks,tdP_trim k ct _ v ht]
theorem tidyP_back(many:Bool)(k:Int)(ct:Bool)(hk:many=true→manyK k)(v:Str)(h:(awn many k ct v).2=0)(hl:(awn many k ct v).1.length≤1024):awn many k ct (awn many k ct v).1=((awn many k ct v).1,0):=by
 cases many with
 |false=>
  have e:∀w,awn false k ct w=tdP k ct w:=fun w=>if_neg (by decide)
  rw [e v]at h hl⊢
  rw [e,(tdP_back k ct v h hl).1,←h]
 |true=>
  by_cases h1:(lstP v).2=0
  ·by_cases h2:(tdL k ct (lstP v).1).2=0
   ·have e:awn true k ct v=(zau (tdL k ct (lstP v).1).1 [44,32],0):=by unfold awn;rw [if_pos rfl,if_pos h1,if_pos h2]
    rw [e]at hl⊢
    dsimp only at hl⊢
    obtain⟨b1,b2⟩:=tdL_back k ct (hk rfl) (lstP v).1 h2 (fun x hx=>zaF (join_mem_len _ _ x hx) hl)
    have hne:(tdL k ct (lstP v).1).1≠[]:=fun e=>by
     have:=tdL_len k ct _ h2
     rw [e,zaj]at this
     exact(lstP_mem v h1).1 (zap this.symm)
    have hj:=join_back _ hne b2
    unfold awn
    rw [if_pos rfl,hj]
    dsimp only
    rw [if_pos rfl,b1]
    dsimp only
    rw [if_pos rfl]
   ·have e:awn true k ct v=([],(tdL k ct (lstP v).1).2):=by unfold awn;rw [if_pos rfl,if_pos h1,if_neg h2]
    rw [e]at h
    exact absurd h h2
  ·have e:awn true k ct v=([],(lstP v).2):=by unfold awn;rw [if_pos rfl,if_neg h1]
   rw [e]at h
   exact absurd h h1
open Bool renaming not_false → zaH, not_true → zaz
open Int renaming toNat → zan, toNat_natCast → zar
open List renaming eq_nil_of_length_eq_zero → zap, length_append → zab, length_cons → zad, length_drop → zaq, length_map → zaK, length_singleton → zae, length_take → zaE
open Nat renaming le_refl → zao, le_trans → zaF, zero_le → zah
open Option renaming bind_some → zaa
open Sum renaming elim_inl → zaA, elim_inr → zbg
theorem valP_len2(s:Str)(k:Nat)(hk:k≤s.length):(valP s k).1.length≤s.length+252:=by
 unfold valP
 split
 ·rename_i h
  have:=unqP8_bd s k (ags h).2 (ags h).1
  omega
 ·split
  ·split
   ·have hh:=host_len2 (sub s (k:Int) (min ((k+ahv (fun b=> !(b==93)) (s.drop k):Nat)+1:Int) (s.length:Int)))
    rw [aqc]at hh
    dsimp only
    omega
   ·exact zah _
  ·split
   ·exact zah _
   ·dsimp only
    rw [aqc];omega
theorem listP_len2(s:Str)(b:Nat):(aqe s b).1.2.1.length≤s.length+252:=by
 unfold aqe
 split
 ·exact zah _
 ·split
  ·exact zah _
  ·split
   ·exact valP_len2 s _ (ada _ _ _)
   ·exact zah _
theorem parM_val(s:Str):∀(f:Nat) (l:List PP) (i:Nat),(∀p∈l,p.2.1.length≤s.length+252)→∀p∈(parM s f l i).1,p.2.1.length≤s.length+252
 |0,_,_,_=>by simp [parM]
 |f+1,l,i,h=>by
  rw [parM]
  split
  ·exact h
  ·split
   ·simp
   ·split
    ·split
     ·refine parM_val s f _ _ fun p hp=> ?_
      rcases List.mem_append.1 hp with hp|hp
      ·exact h p hp
      ·rw [List.mem_singleton.1 hp];exact listP_len2 s _
     ·simp
    ·simp
theorem parP_val(s:Str):∀p∈(parP s).1,p.2.1.length≤s.length+252:=parM_val s _ [] 0 (by simp)
theorem sub_le(s:Str)(i j:Int):(sub s i j).length≤s.length:=by rw [aqc];omega
theorem fld_len3(k:Int)(l:List PP)(T:Str):(fldP k l T).2.1.length≤T.length∧(fldP k l T).2.2.1.length≤T.length:=by
 have h1:=conP_len k (T.take (atj T))
 have h2:=conP_len k (T.drop (atj T+1))
 rw [zaE]at h1
 rw [zaq]at h2
 have h3:(aau (conP k (T.take (atj T)))).length=(conP k (T.take (atj T))).length:=by unfold aau;rw [zaK]
 unfold fldP
 split
 ·exact⟨zah _,zah _⟩
 ·split
  ·exact⟨zah _,zah _⟩
  ·split
   ·split
    ·exact⟨zah _,zah _⟩
    ·split
     ·exact⟨zah _,zah _⟩
     ·dsimp only;omega
   ·split
    ·exact⟨zah _,zah _⟩
    ·exact⟨by dsimp only;omega,zah _⟩
def lenQ(n:Nat)(l:List PP):Prop:=∀p∈l,p.1.length≤n∧p.2.1.length≤n
theorem lenQ.snoc{n:Nat}{l:List PP}(h:lenQ n l)(p:PP)(h1:p.1.length≤n)(h2:p.2.1.length≤n):lenQ n (l++[p]):=fun q hq=>by
 rcases List.mem_append.1 hq with h'|h'
 ·exact h q h'
 ·rw [List.mem_singleton.1 h'];exact⟨h1,h2⟩
theorem plL_sz(st s:Str):∀(f i:Nat) (l:List PP),lenQ s.length l→lenQ s.length (plL st s f i l).2.2
 |0,i,l,h=>h
 |f+1,i,l,h=>by
  rw [plL]
  split
  ·split
   ·have:=fld_len3 1 l (sub s ((i+1:Nat):Int) (utl st s (i+1):Int))
    have hs:=sub_le s ((i+1:Nat):Int) (utl st s (i+1):Int)
    exact plL_sz st s f _ _ (h.snoc _ (by omega) (by omega))
   ·intro p hp;cases hp
  ·exact h
theorem hdL_sz(s:Str):∀(f i:Nat) (l:List PP),lenQ s.length l→lenQ s.length (hdL s f i l).2
 |0,i,l,h=>h
 |f+1,i,l,h=>by
  rw [hdL]
  split
  ·split
   ·have:=fld_len3 2 l (sub s ((i+1:Nat):Int) (utl [38] s (i+1):Int))
    have hs:=sub_le s ((i+1:Nat):Int) (utl [38] s (i+1):Int)
    exact hdL_sz s f _ _ (h.snoc _ (by omega) (by omega))
   ·intro p hp;cases hp
  ·exact h
def smlN(n:Nat)(u:UU):Prop:=u.1.length≤n∧u.2.1.length≤n∧u.2.2.1.length≤n∧lenQ n u.2.2.2.2.1∧lenQ n u.2.2.2.2.2
theorem ant(n:Nat):smlN n nilU:=⟨zah _,zah _,zah _,(fun p hp=>by cases hp),(fun p hp=>by cases hp)⟩
theorem isort_lenQ{n:Nat}{l:List PP}(h:lenQ n l):lenQ n (acl l):=fun p hp=>h p (awe l p hp)
theorem rest_sml(n:Nat)(st s sch us h:Str)(port:Int)(i:Nat)(h1:sch.length≤n)(h2:us.length≤n)(h3:h.length≤n)(h4:s.length≤n):smlN n (restP st s sch us h port i).2:=by
 have hw:∀l,lenQ s.length l→lenQ n l:=fun l hl p hp=>⟨zaF (hl p hp).1 h4,zaF (hl p hp).2 h4⟩
 unfold restP
 split
 ·split
  ·exact⟨h1,h2,h3,isort_lenQ (hw _ (plL_sz st s _ i [] (fun p hp=>by cases hp))),isort_lenQ (hw _ (hdL_sz s _ _ [] (fun p hp=>by cases hp)))⟩
  ·exact ant n
 ·exact ant n
theorem hpP_len(s:Str)(i:Nat):(hpP s i).2.1.length≤s.length+252:=by
 have h1:=host_len2 (sub s (i:Int) (hEnd s i:Int))
 have h2:=sub_le s (i:Int) (hEnd s i:Int)
 unfold hpP
 split
 ·exact zah _
 ·split
  ·split
   ·dsimp only;omega
   ·exact zah _
  ·split
   ·exact zah _
   ·dsimp only;omega
theorem usrP_len(U:Str):(usrP U).2.length≤U.length:=by
 have:=conP_len 0 U
 unfold usrP
 split
 ·exact zah _
 ·split
  ·exact zah _
  ·exact this
theorem plP_len(s:Str)(i:Nat):(plP s i).2.1.length≤s.length∧(plP s i).2.2.1.length≤s.length+252:=by
 have h0:=hpP_len s i
 have h1:=hpP_len s (utl [64] s i+1)
 have h2:=usrP_len (sub s (i:Int) (utl [64] s i:Int))
 have h3:=sub_le s (i:Int) (utl [64] s i:Int)
 unfold plP
 split
 ·split
  ·exact⟨by dsimp only;omega,h1⟩
  ·exact⟨zah _,zah _⟩
 ·exact⟨zah _,h0⟩
theorem telP_len(s:Str)(i:Nat):(telP s i).2.length≤31:=by
 unfold telP
 split
 ·exact zah _
 ·split
  ·exact zah _
  ·split
   ·exact zah _
   ·dsimp only
    split
    ·rw [zad];omega
    ·omega
theorem parse_sml(s:Str):smlN 1300 (aqk s).2:=by
 unfold aqk
 split
 ·exact ant _
 ·have hl:(aau (s.take (utl [58] s 0))).length≤s.length:=by unfold aau;rw [zaK,zaE];omega
  have hp:=plP_len s (utl [58] s 0+1)
  have ht:=telP_len s (utl [58] s 0+1)
  split
  ·split
   ·split
    ·exact rest_sml 1300 _ s _ _ _ _ _ (by omega) (by omega) (by omega) (by omega)
    ·exact ant _
   ·split
    ·split
     ·exact rest_sml 1300 _ s _ _ _ _ _ (by omega) (by omega) (zah _) (by omega)
     ·exact ant _
    ·exact ant _
  ·exact ant _
theorem smlN.sml{n:Nat}{u:UU}(h:smlN n u)(hn:n≤4194304):Sml u:=
 ⟨zaF h.1 hn,zaF h.2.1 hn,zaF h.2.2.1 hn,fun p hp=>⟨zaF (h.2.2.2.1 p hp).1 hn,zaF (h.2.2.2.1 p hp).2 hn⟩,fun p hp=>⟨zaF (h.2.2.2.2 p hp).1 hn,zaF (h.2.2.2.2 p hp).2 hn⟩⟩
theorem prU_len(u:UU)(hg:Good u)(hs:Sml u):(prU u).length≤2000000000:=by
 obtain⟨s1,s2,s3,s4,s5⟩:=hs
 have l1:=parsT_len _ s4
 have l2:=hdsT_len _ s5
 have hpl:=hg.pl
 have hhl:=hg.hl
 have hus:=api 0 u.2.1
 have hpo:0≤u.2.2.2.1∧u.2.2.2.1≤65535:=by
  rcases hg.sch with⟨_,_,h1,h2,_⟩|⟨_,_,h,_⟩
  ·exact⟨h1,h2⟩
  ·omega
 have hit:=amd u.2.2.2.1 hpo.1 hpo.2
 have h1:(usT u).length≤12582913:=by
  unfold usT
  split
  ·omega
  ·split
   ·exact zah _
   ·rw [zab,zae];omega
 have h2:(ptT u.2.2.2.1).length≤6:=by
  unfold ptT
  split
  ·exact zah _
  ·rw [zad];omega
 unfold prU
 simp only [zab,zad]
 omega
theorem nameL_bd(s:Str):∀(f i:Nat) (ws:List Str),i≤s.length→ws.length≤i→(∀x∈ws,x.length≤s.length)→(aph s f i ws).2.2.length≤s.length∧∀x∈(aph s f i ws).2.2,x.length≤s.length
 |0,_,_,_,_,_=>⟨zah _,fun x hx=>by cases hx⟩
 |f+1,i,ws,hi,hw,hx=>by
  have h1:=aiv aaf s i hi
  have h2:=ada aaf s (i:Int)
  have h3:=aiv aac s (aap aaf s (i:Int)) h2
  rw [aph]
  split
  ·exact⟨zaF hw hi,hx⟩
  ·split
   ·exact⟨zah _,fun x hx=>by cases hx⟩
   ·rename_i hne
    refine nameL_bd s f _ _ (ada _ _ _) (by rw [zab,zae];omega) (fun x hxx=> ?_)
    rcases List.mem_append.1 hxx with h|h
    ·exact hx x h
    ·rw [List.mem_singleton.1 h];exact sub_le _ _ _
theorem disp_len(s:Str)(hs:s.length≤1024)(i:Nat)(hi:i≤s.length):(ard s i).2.1.length≤1100000:=by
 unfold ard
 split
 ·rename_i h
  have:=unqP8_bd s i (ags h).2 (ags h).1
  split
  ·split
   ·dsimp only;omega
   ·exact zah _
  ·exact zah _
 ·split
  ·obtain⟨a,b⟩:=nameL_bd s (s.length+1) i [] hi (zah _) (fun x hx=>by cases hx)
   have hj:=asp [32] s.length _ b
   rw [zae]at hj
   refine zaF hj ?_
   refine zaF (Nat.mul_le_mul (zaF a hs) (Nat.succ_le_succ hs)) (by decide)
  ·exact zah _
theorem adr_sml(s:Str):smlN 1300 (adrP s).2.2.1∧(adrP s).2.1.length≤1100000∧lenQ 1300 (adrP s).2.2.2:=by
 have hnil:smlN 1300 nilA.2.1∧nilA.1.length≤1100000∧lenQ 1300 nilA.2.2:=⟨ant _,zah _,fun p hp=>by cases hp⟩
 unfold adrP
 split
 ·exact hnil
 ·rename_i hl
  split
  ·split
   ·split
    ·refine⟨?_,disp_len s (by omega) _ (ada _ _ _), ?_⟩
     ·show smlN 1300 (tgtP s (ard s (aap aac s 0)).2.2).2.1
      generalize(ard s (aap aac s 0)).2.2=j
      unfold tgtP
      split
      ·split
       ·exact ant _
       ·exact parse_sml _
      ·split
       ·exact ant _
       ·exact parse_sml _
     ·intro p hp
      dsimp only at hp
      have hd:(s.drop (tgtP s (ard s (aap aac s 0)).2.2).2.2).length≤1024:=by rw [zaq];omega
      have h1:=aty _ (by omega) p hp
      have h2:=parP_val _ p hp
      exact⟨by omega,by omega⟩
    ·exact hnil
   ·exact hnil
  ·exact hnil
theorem unqL_at(n:Nat):∀(l:Str) (k:Nat) (acc:Str),l.length≤n→0≤(unqL l k acc).2.1∧(unqL l k acc).2.1≤((k+l.length:Nat):Int):=by
 induction n with
 |zero=>
  intro l k acc h
  have:l=[]:=zap (by omega)
  subst this
  unfold unqL
  exact⟨by dsimp only;omega,by dsimp only;omega⟩
 |succ n ih=>
  intro l k acc h
  cases l with
  |nil=>
   unfold unqL
   exact⟨by dsimp only;omega,by dsimp only;omega⟩
  |cons c l=>
   rw [zad]at h⊢
   rw [aud]
   split
   ·exact⟨by dsimp only;omega,by dsimp only;omega⟩
   ·split
    ·split
     ·exact⟨by dsimp only;omega,by dsimp only;omega⟩
     ·split
      ·have hd:(l.drop 1).length=l.length-1:=zaq
       have:=ih (l.drop 1) (k+2) (acc++[at_ l 0]) (by omega)
       have hl:l≠[]:=by assumption
       have:=List.length_pos_iff.2 hl
       omega
      ·exact⟨by dsimp only;omega,by dsimp only;omega⟩
    ·split
     ·exact⟨by dsimp only;omega,by dsimp only;omega⟩
     ·have:=ih l (k+1) (acc++[c]) (by omega)
      omega
theorem unqP8_at(s:Str)(k:Nat)(hk:k≤s.length):0≤(auc s (k:Int)).2.1∧(auc s (k:Int)).2.1≤(s.length:Int):=by
 unfold auc
 split
 ·exact⟨by dsimp only;omega,by dsimp only;omega⟩
 ·split
  ·exact⟨by dsimp only;omega,by dsimp only;omega⟩
  ·rename_i h
   have hne:¬(k:Int)=(s.length:Int):=fun e=>h (.inl e)
   have hd:(s.drop (zan (k:Int)+1)).length=s.length-(k+1):=by rw [zar,zaq]
   have:=unqL_at _ (s.drop (zan (k:Int)+1)) (zan (k:Int)+1) [] (zao _)
   rw [zar]at this hd⊢
   omega
theorem valP_at(s:Str)(k:Nat)(hk:k≤s.length):0≤(valP s k).2.1∧(valP s k).2.1≤(s.length:Int)+1:=by
 have h1:=ada aaf s (k:Int)
 have hsp:=ape (fun b=> !(b==93)) (s.drop k)
 rw [zaq]at hsp
 unfold valP
 split
 ·have:=unqP8_at s k hk
  omega
 ·split
  ·split
   ·exact⟨by dsimp only;omega,by dsimp only;omega⟩
   ·exact⟨by dsimp only;omega,by dsimp only;omega⟩
  ·split
   ·exact⟨by dsimp only;omega,by dsimp only;omega⟩
   ·exact⟨by dsimp only;omega,by dsimp only;omega⟩
theorem listP_at(s:Str)(b:Nat)(hb:b≤s.length):0≤(aqe s b).2.1∧(aqe s b).2.1≤(s.length:Int)+1:=by
 unfold aqe
 split
 ·exact⟨by dsimp only;omega,by dsimp only;omega⟩
 ·split
  ·exact⟨by dsimp only;omega,by dsimp only;omega⟩
  ·split
   ·exact⟨by dsimp only;omega,by dsimp only;omega⟩
   ·exact valP_at s _ (ada _ _ _)
theorem parM_at(s:Str):∀(f:Nat) (l:List PP) (i:Nat),0≤(parM s f l i).2.1∧(parM s f l i).2.1≤(s.length:Int)+1
 |0,_,_=>⟨by unfold parM;decide,by unfold parM;dsimp only;omega⟩
 |f+1,l,i=>by
  have h1:=ada aac s (i:Int)
  have h2:=ada aac s ((aap aac s (i:Int)+1:Nat):Int)
  rw [parM]
  split
  ·exact⟨by dsimp only;omega,by dsimp only;omega⟩
  ·split
   ·exact⟨by dsimp only;omega,by dsimp only;omega⟩
   ·split
    ·split
     ·exact parM_at s f _ _
     ·exact⟨by dsimp only;omega,by dsimp only;omega⟩
    ·exact listP_at s _ h2
theorem parP_at(s:Str)(hs:s.length≤4194304):0≤(parP s).2.1∧(parP s).2.1≤(s.length:Int)+1:=parM_at s _ _ _
theorem name_lp(s:Str)(hs:s.length≤1024)(A2:AA)(n:Nat):∀(i fk f:Nat) (ws:List Str),s.length-i≤n→n<fk→n<f→i≤s.length→ws.length≤i→
  ∃j,afo FU A2 fk ws s (i:Int)=some j∧
   ((aph s f i ws).1=0→j=.inl ((aph s f i ws).2.2,s,((aph s f i ws).2.1:Int)))∧(¬(aph s f i ws).1=0→∃a c w,j=.inr (a,(aph s f i ws).1,c,w)):=by
 induction n with
 |zero=>
  intro i fk f ws hi hf hff hil hw
  obtain⟨fk,rfl⟩:=fkx fk
  obtain⟨f,rfl⟩:∃m,f=m+1:=⟨f-1,by omega⟩
  obtain rfl:i=s.length:=by omega
  have hz:aep s s.length 60=false:=by unfold aep;rw [decide_eq_false (by omega)];rfl
  have ht:aap aaf s (s.length:Int)=s.length:=skipL_end _ _
  rw [alo,afk,apf,zaa,hz,zaH,cond_true,token2_eq s (by omega) _ (zao _),zaa,ht,sub_self',if_pos rfl]
  have hn:aph s (f+1) s.length ws=(5,0,[]):=by rw [aph,hz,if_neg (by decide),if_pos ht]
  rw [hn]
  exact⟨_,rfl,fun h=>absurd h (show¬(5:UInt8)=0 by decide),fun _=>⟨_,_,_,rfl⟩⟩
 |succ n ih=>
  intro i fk f ws hi hf hff hil hw
  obtain⟨fk,rfl⟩:=fkx fk
  obtain⟨f,rfl⟩:∃m,f=m+1:=⟨f-1,by omega⟩
  have h1:=aiv aaf s i hil
  have h2:=ada aaf s (i:Int)
  have h3:=aiv aac s (aap aaf s (i:Int)) h2
  rw [alo,afk,apf,zaa]
  cases hz:aep s i 60 with
  |true=>
   have hn:aph s (f+1) i ws=(0,i,ws):=by rw [aph,hz,if_pos rfl]
   rw [hn,zaz,cond_false]
   exact⟨_,rfl,fun _=>rfl,fun h=>absurd rfl h⟩
  |false=>
   rw [zaH,cond_true,token2_eq s (by omega) i hil,zaa]
   dsimp only
   by_cases ht:aap aaf s (i:Int)=i
   ·have hn:aph s (f+1) i ws=(5,0,[]):=by rw [aph,hz,if_neg (by decide),if_pos ht]
    rw [if_pos ((arz s i _ h2 h1).2 ht),hn]
    exact⟨_,rfl,fun h=>absurd h (show¬(5:UInt8)=0 by decide),fun _=>⟨_,_,_,rfl⟩⟩
   ·have hn:aph s (f+1) i ws=aph s f (aap aac s ((aap aaf s (i:Int):Nat):Int)) (ws++[sub s (i:Int) ((aap aaf s (i:Int):Nat):Int)]):=by rw [aph,hz,if_neg (by decide),if_neg ht]
    rw [if_neg (fun h=>ht ((arz s i _ h2 h1).1 h)),aaa (by rw [zae];omega),aqo s (by omega),zaa,hn]
    exact ih _ fk f _ (by omega) (by omega) (by omega) (ada _ _ _) (by rw [zab,zae];omega)
theorem plain_eq2(s:Str)(hs:s.length≤1024)(i:Nat)(hi:i≤s.length):∃a c w,aeh FU (s,(i:Int)) ([],nilU,[])=some (a,(aph s (s.length+1) i []).1,c,w)∧
  ((aph s (s.length+1) i []).1=0→c=(s,((aph s (s.length+1) i []).2.1:Int))∧w=(zau (aph s (s.length+1) i []).2.2 [32],nilU,[])):=by
 obtain⟨j,e,h1,h2⟩:=name_lp s hs ([],nilU,[]) s.length i FU (s.length+1) [] (by omega) (by rw [ahy];omega) (by omega) hi (zah _)
 unfold aeh
 rw [show(s,(i:Int)).1=s from rfl,show(s,(i:Int)).2=(i:Int)from rfl,e,zaa]
 by_cases h0:(aph s (s.length+1) i []).1=0
 ·rw [h1 h0,zaA]
  obtain⟨a,b⟩:=nameL_bd s (s.length+1) i [] hi (zah _) (fun x hx=>by cases hx)
  have hj:=asp [32] s.length _ b
  rw [zae]at hj
  have hj2:(aph s (s.length+1) i []).2.2.length*(s.length+1)≤1024*1025:=Nat.mul_le_mul (zaF a hs) (Nat.succ_le_succ hs)
  dsimp only
  rw [aaa (by constructor<;>omega),h0]
  exact⟨_,_,_,rfl,fun _=>⟨rfl,rfl⟩⟩
 ·obtain⟨a,c,w,e2⟩:=h2 h0
  rw [e2,zbg]
  exact⟨_,_,_,rfl,fun h=>absurd h h0⟩
theorem tgt_eq(s:Str)(hs:s.length≤1024)(i:Nat)(hi:i≤s.length)(d:Str):∃a c w,ahb FU (s,(i:Int)) (d,nilU,[])=some (a,(tgtP s i).1,c,w)∧((tgtP s i).1=0→c=(s,((tgtP s i).2.2:Int))∧w=(d,(tgtP s i).2.1,[])∧(tgtP s i).2.2≤s.length):=by
 have fin:∀(b e k:Nat),b≤e→e≤s.length→k≤s.length→k≤1025→∃a c w,(gd (0≤(b:Int)∧(b:Int)≤(e:Int)∧(e:Int)≤(s.length:Int))<|((aos FU (sub s (b:Int) (e:Int))).bind fun(y60:UU×Int×UInt8)=>(if y60.2.2=(0:UInt8)then some ((0:Int),(0:UInt8),(s,(k:Int)),(d,y60.1,([]:List PP)))else(gd (abt ((b:Int)+y60.2.1))<|some ((b:Int)+y60.2.1,y60.2.2,(s,(i:Int)),(d,nilU,([]:List PP)))))))=some (a,(aqk (sub s (b:Int) (e:Int))).1,c,w)∧((aqk (sub s (b:Int) (e:Int))).1=0→c=(s,(k:Int))∧w=(d,(aqk (sub s (b:Int) (e:Int))).2,[])∧k≤s.length):=by
  intro b e k hb he hk hk2
  obtain⟨a,ha0,ha1,ha⟩:=parse_eq (sub s (b:Int) (e:Int))
  have hsl:=sub_le s (b:Int) (e:Int)
  rw [aaa (by omega),ha,zaa]
  dsimp only
  by_cases h0:(aqk (sub s (b:Int) (e:Int))).1=0
  ·rw [if_pos h0,h0]
   exact⟨_,_,_,rfl,fun _=>⟨rfl,rfl,hk⟩⟩
  ·rw [if_neg h0,aaa (aef _ (by omega) (by omega))]
   exact⟨_,_,_,rfl,fun h=>absurd h h0⟩
 unfold ahb tgtP
 rw [apf,zaa]
 dsimp only
 cases hz:aep s i 60 with
 |true=>
  have hlt:=(ags hz).1
  have hu1:=utl_ge [62] s (i+1)
  have hu2:=ava [62] s (i+1) hlt
  rw [cond_true,if_pos rfl,aaa (aef _ (by omega) (by omega)),ahl,atn s (by omega) (i+1) hlt _ (by decide) (by decide),zaa]
  by_cases he:utl [62] s (i+1)=s.length
  ·rw [if_pos (by omega),if_pos he,zaa,zbg]
   exact⟨_,_,_,rfl,fun h=>absurd h (show¬(5:UInt8)=0 by decide)⟩
  ·rw [if_neg (by omega),if_neg he,aaa (aef _ (by omega) (by omega)),zaa,zaA]
   exact fin (i+1) (utl [62] s (i+1)) (utl [62] s (i+1)+1) hu1 hu2 (by omega) (by omega)
 |false=>
  have hu1:=utl_ge [59,32,9] s i
  have hu2:=ava [59,32,9] s i hi
  rw [cond_false,if_neg (by decide),atn s (by omega) i hi _ (by decide) (by decide),zaa,atn s (by omega) i hi _ (by decide) (by decide),zaa]
  by_cases he:utl [63,44] s i<utl [59,32,9] s i
  ·rw [if_pos (by omega),if_pos he,zaa,zbg]
   exact⟨_,_,_,rfl,fun h=>absurd h (show¬(5:UInt8)=0 by decide)⟩
  ·rw [if_neg (by omega),if_neg he,zaa,zaA]
   exact fin i (utl [59,32,9] s i) (utl [59,32,9] s i) hu1 hu2 hu2 (by omega)
theorem contains60(s:Str):Lib.contains s [60]=asq s 60:=contains_any s 60
theorem parseAddr_eq(s:Str):∃a,akg FU s=some ((adrP s).2,a,(adrP s).1):=by
 unfold akg adrP
 by_cases hl:1024<s.length
 ·rw [if_pos (by omega),if_pos hl]
  exact⟨_,rfl⟩
 ·rw [if_neg (by omega),if_neg hl,aqo s (by omega),zaa]
  have hb:=ada aac s 0
  generalize aap aac s 0=b at hb⊢
  have hdisp:∃a c w,((((aag FU (s,(b:Int)) (34:UInt8)).bind fun(y102:Bool)=>(bif y102 then((ahc FU (s,(b:Int)) (([]:Str),(([]:Str),([]:Str),([]:Str),(0:Int),([]:List PP),([]:List PP)),([]:List PP))).bind fun(y109:(Int×UInt8×(Str×Int)×AA))=>some (y109.1,y109.2.1,y109.2.2.1.1,y109.2.2.1.2,y109.2.2.2.1,y109.2.2.2.2.1.1,y109.2.2.2.2.1.2.1,y109.2.2.2.2.1.2.2.1,y109.2.2.2.2.1.2.2.2.1,y109.2.2.2.2.1.2.2.2.2.1,y109.2.2.2.2.1.2.2.2.2.2,y109.2.2.2.2.2))else(gd (s.length≤1000000000)<|(bif (Lib.contains s ([60]:Str))then((aeh FU (s,(b:Int)) (([]:Str),(([]:Str),([]:Str),([]:Str),(0:Int),([]:List PP),([]:List PP)),([]:List PP))).bind fun(y138:(Int×UInt8×(Str×Int)×AA))=>some (y138.1,y138.2.1,y138.2.2.1.1,y138.2.2.1.2,y138.2.2.2.1,y138.2.2.2.2.1.1,y138.2.2.2.2.1.2.1,y138.2.2.2.2.1.2.2.1,y138.2.2.2.2.1.2.2.2.1,y138.2.2.2.2.1.2.2.2.2.1,y138.2.2.2.2.1.2.2.2.2.2,y138.2.2.2.2.2))else some ((0:Int),(0:UInt8),s,(b:Int),([]:Str),([]:Str),([]:Str),([]:Str),(0:Int),([]:List PP),([]:List PP),([]:List PP))))))):Option (Int×UInt8×Str×Int×Str×Str×Str×Str×Int×(List PP)×(List PP)×(List PP)))
    =some (a,(ard s b).1,c,w)∧((ard s b).1=0→c=s∧w=(((ard s b).2.2:Int),(ard s b).2.1,[],[],[],0,[],[],[])):=by
   have hle:=dispP_le s b hb
   rw [apf,zaa]
   unfold ard at hle⊢
   cases hz:aep s b 34 with
   |true=>
    rw [hz,if_pos rfl]at hle
    rw [cond_true,if_pos rfl]
    unfold ahc
    dsimp only
    rw [unquote_eq s (by omega),zaa]
    by_cases h0:(auc s (b:Int)).2.2=0
    ·rw [if_pos h0]at hle
     rw [if_pos h0,if_pos h0,aqo s (by omega),zaa,apf,zaa]
     cases h60:aep s (aap aac s (auc s (b:Int)).2.1) 60 with
     |true=>
      rw [zaz,cond_false,zaa,if_pos rfl]
      exact⟨_,_,_,rfl,fun _=>⟨rfl,rfl⟩⟩
     |false=>
      rw [zaH,cond_true,zaa,if_neg (by decide)]
      exact⟨_,_,_,rfl,fun h=>absurd h (show¬(5:UInt8)=0 by decide)⟩
    ·rw [if_neg h0,if_neg h0,zaa]
     exact⟨_,_,_,rfl,fun h=>absurd h h0⟩
   |false=>
    rw [cond_false,if_neg (by decide),aaa (by omega),contains60]
    cases h60:asq s 60 with
    |true=>
     obtain⟨a,c,w,e,h⟩:=plain_eq2 s (by omega) b hb
     rw [cond_true,if_pos rfl]
     have e':aeh FU (s,(b:Int)) (([]:Str),(([]:Str),([]:Str),([]:Str),(0:Int),([]:List PP),([]:List PP)),([]:List PP))=some (a,(aph s (s.length+1) b []).1,c,w):=e
     rw [e',zaa]
     refine⟨_,_,_,rfl,fun h0=> ?_⟩
     obtain⟨rfl,rfl⟩:=h h0
     exact⟨rfl,rfl⟩
    |false=>
     rw [cond_false,if_neg (by decide)]
     exact⟨_,_,_,rfl,fun _=>⟨rfl,rfl⟩⟩
  obtain⟨a,c,w,e,h⟩:=hdisp
  have hle:=dispP_le s b hb
  dsimp only
  rw [e,zaa]
  dsimp only
  generalize ard s b=D at h hle⊢
  by_cases h0:D.1=0
  ·obtain⟨rfl,rfl⟩:=h h0
   rw [if_pos h0,if_pos h0]
   obtain⟨a2,c2,w2,e2,h2⟩:=tgt_eq c (by omega) D.2.2 hle D.2.1
   have e2':ahb FU (c,(D.2.2:Int)) (D.2.1,(([]:Str),([]:Str),([]:Str),(0:Int),([]:List PP),([]:List PP)),([]:List PP))=some (a2,(tgtP c D.2.2).1,c2,w2):=e2
   rw [e2',zaa,zaa]
   dsimp only
   generalize tgtP c D.2.2=G at h2⊢
   by_cases h1:G.1=0
   ·obtain⟨rfl,rfl,h3⟩:=h2 h1
    rw [if_pos h1,if_pos h1]
    dsimp only
    obtain⟨hpa,hpb⟩:=parP_at (c.drop G.2.2) (by rw [zaq];omega)
    rw [aaa (by omega),zar,params_eq _ (by rw [zaq];omega),zaa,aaa (aef _ (by omega) (by rw [zaq]at hpb;omega)),zaa]
    dsimp only
    by_cases h4:(parP (c.drop G.2.2)).2.2=0
    ·rw [if_pos h4,if_pos h4]
     exact⟨_,rfl⟩
    ·rw [if_neg h4,if_neg h4]
     exact⟨_,rfl⟩
   ·rw [if_neg h1,if_neg h1,zaa]
    dsimp only
    rw [if_neg h1]
    exact⟨_,rfl⟩
  ·rw [if_neg h0,if_neg h0,zaa]
   dsimp only
   rw [if_neg h0,zaa]
   dsimp only
   rw [if_neg h0]
   exact⟨_,rfl⟩
theorem printAddr_eq(a:AA)(hg:Good a.2.1)(hs:Sml a.2.1)(hd:a.1.length≤4194304)(hl:a.2.2.length<20)(hb:∀p∈a.2.2,p.1.length≤4194304∧p.2.1.length≤4194304):akf FU a=some (prA a):=by
 have hb2:∀p∈acl a.2.2,p.1.length≤4194304∧p.2.1.length≤4194304:=fun p hp=>hb p (awe _ p hp)
 have hul:=prU_len a.2.1 hg hs
 have hpl:=ppM_len (acl a.2.2) hb2
 have hql:=quoT_len a.1
 unfold akf prA
 rw [quote_eq _ hd,zaa]
 cases hc:a.1.any aax with
 |true=>
  have hq:quoM a.1=([],5):=by unfold quoM;rw [hc,if_pos rfl]
  rw [hq,if_neg (show¬(5:UInt8)=0 by decide),if_neg (show¬(true=false∧(ppM (acl a.2.2)).2=0)from fun h=>absurd h.1 (by decide))]
 |false=>
  have hq:quoM a.1=(quoT a.1,0):=by unfold quoM;rw [hc,if_neg (by decide)]
  rw [hq,if_pos rfl,print_eq _ hg hs,zaa,if_pos rfl,asorted_eq _ hl,zaa,avj _ hb2,zaa]
  dsimp only
  by_cases h0:(ppM (acl a.2.2)).2=0
  ·rw [if_pos h0,if_pos (show false=false∧(ppM (acl a.2.2)).2=0 from⟨rfl,h0⟩)]
   unfold dsT
   by_cases hd0:a.1=[]
   ·rw [if_pos hd0,if_pos hd0,aaa (by rw [zae];omega),aaa (by simp only [zab,zae];omega),aaa (by simp only [zab,zae];omega)]
    simp
   ·have h2:([32,60]:Str).length=2:=rfl
    rw [if_neg hd0,if_neg hd0,aaa (by omega),aaa (by rw [zab];omega),aaa (by simp only [zab,zae];omega),aaa (by simp only [zab,zae];omega)]
    simp
  ·rw [if_neg h0,if_neg (show¬(false=false∧(ppM (acl a.2.2)).2=0)from fun h=>h0 h.2)]
theorem hAddr_eq(v:Str)(hv:v.length≤4194304):apy FU v=some ((adrP (aat v)).2,(adrP (aat v)).1):=by
 obtain⟨a,e⟩:=parseAddr_eq (aat v)
 unfold apy
 rw [trim_eq v hv,zaa,e,zaa]
open Go.Lib renaming indexAny → zbf
open List renaming any_cons → zbo, append_assoc → zal, append_nil → zam, drop_drop → zbu, drop_eq_nil_of_le → zbj, drop_succ_cons → zbx, drop_zero → zbs, eq_nil_of_length_eq_zero → zap, length → zbl, length_append → zab, length_cons → zad, length_drop → zaq, length_map → zaK, length_singleton → zae, map_append → zaV, map_cons → zaI
open Nat renaming le_refl → zao, zero_le → zah
theorem trimR_eq(x:Str):Lib.trimRightS x [32,9]=rdw aac x:=by
 unfold Lib.trimRightS rdw
 rw [blank_set]
theorem span_take(p:UInt8→Bool):∀(l:Str) (n:Nat),ahv p (l.take n)=min (ahv p l) n
 |[],n=>by rw [List.take_nil];simp [ahv]
 |c::l,0=>by rw [List.take_zero];simp [ahv]
 |c::l,n+1=>by
  rw [List.take_succ_cons,ahv,ahv]
  split
  ·rw [span_take p l n];omega
  ·omega
theorem piece_eq2(s:Str)(hs:s.length≤4194304)(b e:Nat)(hbe:b≤e)(he:e≤s.length):∃k,arh FU s (b:Int) (e:Int)=some (k,aat (sub s (b:Int) (e:Int))):=by
 have hk:aap aac s (b:Int)=b+ahv aac (s.drop b):=by unfold aap;rw [aks b s.length (by omega)]
 have hT:sub s (b:Int) (e:Int)=(s.drop b).take (e-b):=by unfold sub;rw [zar,zar]
 have hmin:min ((aap aac s (b:Int):Nat):Int) (e:Int)=((b+ahv aac (sub s (b:Int) (e:Int)):Nat):Int):=by
  rw [hT,span_take,hk];omega
 have hsp:=ape aac (sub s (b:Int) (e:Int))
 have hl:(sub s (b:Int) (e:Int)).length=e-b:=by rw [aqc];omega
 have hsub:sub s ((b+ahv aac (sub s (b:Int) (e:Int)):Nat):Int) (e:Int)=(sub s (b:Int) (e:Int)).dropWhile aac:=by
  rw [←dropWhile_span]
  generalize ahv aac (sub s (b:Int) (e:Int))=n
  rw [hT]
  unfold sub
  rw [zar,zar,List.drop_take,zbu]
  congr 1
  omega
 have hsl:=sub_le s ((b+ahv aac (sub s (b:Int) (e:Int)):Nat):Int) (e:Int)
 unfold arh
 rw [blanks_eq s hs,zaa,hmin,aaa (by omega),aaa (by omega),aaa (by decide),hsub,trimR_eq]
 exact⟨_,rfl⟩
theorem sub_ext3(s:Str)(b i m:Nat)(hb:b≤i):sub s (b:Int) ((i+m:Nat):Int)=sub s (b:Int) (i:Int)++(s.drop i).take m:=by
 unfold sub
 rw [zar,zar,zar,show i+m-b=(i-b)+m by omega,List.take_add,zbu,show b+(i-b)=i by omega]
theorem quote1(n:Nat):∀(l:Str) (k:Nat) (acc cur:Str),l.length≤n→
  ((unqL l k acc).2.2=0→spS 1 cur l=spS 0 (cur++l.take ((unqL l k acc).2.1.toNat-k)) (l.drop ((unqL l k acc).2.1.toNat-k)))∧(¬(unqL l k acc).2.2=0→spS 1 cur l=.inr (unqL l k acc).2.2):=by
 induction n with
 |zero=>
  intro l k acc cur h
  obtain rfl:l=[]:=zap (by omega)
  have e:unqL [] k acc=([],(k:Int),6):=by unfold unqL;rfl
  rw [e]
  exact⟨fun h=>absurd h (show¬(6:UInt8)=0 by decide),fun _=>rfl⟩
 |succ n ih=>
  intro l k acc cur h
  cases l with
  |nil=>
   have e:unqL [] k acc=([],(k:Int),6):=by unfold unqL;rfl
   rw [e]
   exact⟨fun h=>absurd h (show¬(6:UInt8)=0 by decide),fun _=>rfl⟩
  |cons c l=>
   rw [zad]at h
   rw [aud,s1c]
   by_cases h34:c=34
   ·rw [if_pos h34,if_pos h34]
    refine⟨fun _=> ?_,fun h=>absurd rfl h⟩
    dsimp only
    rw [show zan (((k+1:Nat):Int))-k=1 by omega];rfl
   ·rw [if_neg h34,if_neg h34]
    by_cases h92:c=92
    ·rw [if_pos h92,if_pos h92]
     cases l with
     |nil=>
      rw [if_pos rfl]
      exact⟨fun h=>absurd h (show¬(6:UInt8)=0 by decide),fun _=>rfl⟩
     |cons d r=>
      have ha:at_ (d::r) 0=d:=rfl
      rw [if_neg (by simp),ha,s2c]
      cases he:asr d with
      |false=>
       rw [if_neg (by decide),if_neg (by decide)]
       exact⟨fun h=>absurd h (show¬(5:UInt8)=0 by decide),fun _=>rfl⟩
      |true=>
       rw [if_pos rfl,if_pos rfl,List.drop_one,List.tail_cons]
       rw [zad]at h
       obtain⟨i1,i2⟩:=ih r (k+2) (acc++[d]) ((cur++[c])++[d]) (by omega)
       have hbd:=(unqL_bd r.length r (k+2) (acc++[d]) (zao _)).2
       refine⟨fun h0=> ?_,i2⟩
       have hb:=hbd h0
       rw [i1 h0]
       have e:(unqL r (k+2) (acc++[d])).2.1.toNat-k=((unqL r (k+2) (acc++[d])).2.1.toNat-(k+2))+2:=by omega
       rw [e,List.take_succ_cons,List.take_succ_cons,zbx,zbx]
       simp
    ·rw [if_neg h92,if_neg h92]
     cases hc:aax c with
     |true=>
      rw [if_pos rfl]
      exact⟨fun h=>absurd h (show¬(5:UInt8)=0 by decide),fun _=>rfl⟩
     |false=>
      obtain⟨i1,i2⟩:=ih l (k+1) (acc++[c]) (cur++[c]) (by omega)
      have hbd:=(unqL_bd l.length l (k+1) (acc++[c]) (zao _)).2
      rw [if_neg (by decide)]
      refine⟨fun h0=> ?_,i2⟩
      have hb:=hbd h0
      have e0:(if false=true then(.inr 5:List Str⊕UInt8)else spS 1 (cur++[c]) l)=spS 1 (cur++[c]) l:=if_neg (by decide)
      have e:(unqL l (k+1) (acc++[c])).2.1.toNat-k=((unqL l (k+1) (acc++[c])).2.1.toNat-(k+1))+1:=by omega
      rw [i1 h0,e,List.take_succ_cons,zbx]
      simp
theorem ang1:∀(l cur:Str),(ixb (·==(62:UInt8)) l<0→spS 3 cur l=.inr 6)∧(¬ixb (·==(62:UInt8)) l<0→spS 3 cur l=spS 0 (cur++l.take ((ixb (·==(62:UInt8)) l).toNat+1)) (l.drop ((ixb (·==(62:UInt8)) l).toNat+1)))
 |[],cur=>⟨fun _=>rfl,fun h=>absurd (show(-1:Int)<0 by decide) h⟩
 |c::l,cur=>by
  obtain⟨i1,i2⟩:=ang1 l (cur++[c])
  have hge:=ixb_ge (·==(62:UInt8)) l
  rw [s3c']
  by_cases h:c=62
  ·have e:ixb (·==(62:UInt8)) (c::l)=0:=by rw [ixb,h];rfl
   rw [e,if_pos h]
   exact⟨fun h=>absurd h (by decide),fun _=>rfl⟩
  ·have hb:(c==(62:UInt8))=false:=beq_eq_false_iff_ne.2 h
   rw [if_neg h,ixb,hb,if_neg (by decide)]
   by_cases hn:ixb (·==(62:UInt8)) l= -1
   ·rw [if_pos hn]
    refine⟨fun _=>i1 (by omega),fun h=>absurd (show(-1:Int)<0 by decide) h⟩
   ·rw [if_neg hn]
    refine⟨fun h=>absurd h (by omega),fun _=> ?_⟩
    rw [i2 (by omega),show zan (ixb (·==(62:UInt8)) l+1)+1=((ixb (·==(62:UInt8)) l).toNat+1)+1 by omega,List.take_succ_cons,zbx]
    simp
theorem split_lp(s:Str)(hs:s.length≤4194303)(n:Nat):∀(i fk:Nat) (acc:List (Int×Str)) (b:Nat),s.length-i≤n→n<fk→b≤i→i≤s.length→acc.length≤i→
  ∃j,amh FU s 44 fk acc (b:Int) (i:Int)=some j∧
   (match spS 0 (sub s (b:Int) (i:Int)) (s.drop i)with
   |.inl l=>∃(acc':List (Int×Str)) (b':Nat),j=.inl (acc',(b':Int))∧b'≤s.length∧acc'.length≤s.length∧acc'.map (·.2)++[aat (sub s (b':Int) (s.length:Int))]=acc.map (·.2)++l
   |.inr e=>∃q a,j=.inr (q,a,e)):=by
 induction n with
 |zero=>
  intro i fk acc b hi hf hb hil ha
  obtain⟨fk,rfl⟩:=fkx fk
  obtain rfl:i=s.length:=by omega
  rw [aqj,aku,if_neg (by omega),zbj (zao _),s0n]
  exact⟨_,rfl,acc,b,rfl,by omega,ha,rfl⟩
 |succ n ih=>
  intro i fk acc b hi hf hb hil ha
  obtain⟨fk,rfl⟩:=fkx fk
  by_cases hlt:i<s.length
  ·have hd:=drop_at s i hlt
   have hsn:sub s (b:Int) ((i+1:Nat):Int)=sub s (b:Int) (i:Int)++[at_ s (i:Int)]:=by
    rw [sub_ext3 s b i 1 hb,hd];rfl
   rw [aqj,aku,if_pos (by omega),aaa (by omega),hd,s0c]
   by_cases h34:at_ s (i:Int)=34
   ·rw [if_pos h34,if_pos h34,unquote_eq s (by omega),zaa]
    have hu:auc s (i:Int)=unqL (s.drop (i+1)) (i+1) []:=by
     unfold auc
     rw [if_neg (by omega),if_neg (by rintro(h|h);omega;exact h h34),zar]
    have hq:=quote1 (s.drop (i+1)).length (s.drop (i+1)) (i+1) [] (sub s (b:Int) (i:Int)++[at_ s (i:Int)]) (zao _)
    have hbd:=(unqL_bd (s.drop (i+1)).length (s.drop (i+1)) (i+1) [] (zao _)).2
    have hdl:(s.drop (i+1)).length=s.length-(i+1):=zaq
    rw [hu]
    generalize unqL (s.drop (i+1)) (i+1) []=U at hq hbd⊢
    by_cases h0:U.2.2=0
    ·obtain⟨b1,b2⟩:=hbd h0
     obtain⟨o,ho⟩:∃o:Nat,U.2.1=(o:Int):=⟨U.2.1.toNat,by omega⟩
     rw [ho]at b1 b2
     have e1:=hq.1 h0
     rw [ho,zar,←hsn,←sub_ext3 s b (i+1) (o-(i+1)) (by omega),zbu,show i+1+(o-(i+1))=o by omega]at e1
     rw [if_pos h0,ho,←hsn,e1]
     exact ih o fk acc b (by omega) (by omega) (by omega) (by omega) (by omega)
    ·rw [if_neg h0,hq.2 h0]
     exact⟨_,rfl,_,_,rfl⟩
   ·rw [if_neg h34,if_neg h34]
    by_cases h60:at_ s (i:Int)=60
    ·have hx:spS 3 (sub s (b:Int) (i:Int)) (s.drop i)=spS 3 (sub s (b:Int) (i:Int)++[at_ s (i:Int)]) (s.drop (i+1)):=by
      rw [hd,s3c',if_neg (by rw [h60];decide)]
     obtain⟨a1,a2⟩:=ang1 (s.drop i) (sub s (b:Int) (i:Int))
     have hdl:(s.drop i).length=s.length-i:=zaq
     have hsp:=atq (·==(62:UInt8)) (s.drop i)
     rw [if_pos h60,if_pos h60,aaa (by omega),zar,←hx]
     generalize ixb (·==(62:UInt8)) (s.drop i)=x at a1 a2 hsp⊢
     by_cases hx0:x<0
     ·rw [if_pos hx0,a1 hx0]
      exact⟨_,rfl,_,_,rfl⟩
     ·rw [if_neg hx0,a2 hx0,←sub_ext3 s b i (x.toNat+1) hb,zbu,aaa (aef _ (by omega) (by omega)),aaa (aef _ (by omega) (by omega)),show(i:Int)+(x+1)=((i+(x.toNat+1):Nat):Int)by omega]
      exact ih (i+(x.toNat+1)) fk acc b (by omega) (by omega) (by omega) (by omega) (by omega)
    ·rw [if_neg h60,if_neg h60]
     by_cases h62:at_ s (i:Int)=62
     ·rw [if_pos h62,if_pos h62]
      exact⟨_,rfl,_,_,rfl⟩
     ·rw [if_neg h62,if_neg h62]
      by_cases h44:at_ s (i:Int)=44
      ·obtain⟨k,hp⟩:=piece_eq2 s (by omega) b i hb hil
       rw [if_pos h44,if_pos h44,hp,zaa,aaa (by rw [zae];omega),aaa (aef _ (by omega) (by omega)),ahl]
       obtain⟨j,g1,g2⟩:=ih (i+1) fk (acc++[(k,aat (sub s (b:Int) (i:Int)))]) (i+1) (by omega) (by omega) (zao _) hlt (by rw [zab,zae];omega)
       refine⟨j,g1, ?_⟩
       rw [sub_self']at g2
       cases hr:spS 0 [] (s.drop (i+1))with
       |inr e=>rw [hr]at g2;exact g2
       |inl l=>
        rw [hr]at g2
        obtain⟨acc',b',q1,q2,q3,q4⟩:=g2
        refine⟨acc',b',q1,q2,q3, ?_⟩
        rw [q4,zaV,List.map_singleton,zal];rfl
      ·rw [if_neg h44,if_neg h44,aaa (aef _ (by omega) (by omega)),ahl,←hsn]
       exact ih (i+1) fk acc b (by omega) (by omega) (by omega) hlt (by omega)
  ·obtain rfl:i=s.length:=by omega
   rw [aqj,aku,if_neg (by omega),zbj (zao _),s0n]
   exact⟨_,rfl,acc,b,rfl,by omega,ha,rfl⟩
theorem split_eq2(s:Str)(hs:s.length≤4194303):∃q a,att FU s 44=some (q,a,(match spS 0 [] s with|.inl _=>0|.inr e=>e))∧(∀l,spS 0 [] s=.inl l→q.map (·.2)=l∧q.length≤s.length+1):=by
 obtain⟨j,h1,h2⟩:=split_lp s hs s.length 0 FU [] 0 (by omega) (by rw [ahy];omega) (zao _) (zah _) (zao _)
 have h1':amh FU s 44 FU [] (0:Int) (0:Int)=some j:=h1
 rw [sub_self',zbs]at h2
 unfold att
 rw [char_blank,zaa]
 have e:(bif aac 44 then some true else(if(44:UInt8)=(34:UInt8)then some true else(if(44:UInt8)=(60:UInt8)then some true else some (decide ((44:UInt8)=(62:UInt8))))))=some false:=by decide
 rw [e,zaa,cond_false,h1',zaa]
 cases hr:spS 0 [] s with
 |inr e=>
  rw [hr]at h2
  obtain⟨q,a,rfl⟩:=h2
  rw [zbg]
  exact⟨q,a,rfl,fun l h=>by cases h⟩
 |inl l=>
  rw [hr]at h2
  obtain⟨acc',b',rfl,q2,q3,q4⟩:=h2
  obtain⟨k,hp⟩:=piece_eq2 s (by omega) b' s.length q2 (zao _)
  rw [zaA]
  dsimp only
  rw [hp,zaa,aaa (by rw [zae];omega)]
  refine⟨_,_,rfl,fun l' h=> ?_⟩
  have:=Sum.inl.inj h
  subst this
  rw [zaV,List.map_singleton,q4]
  exact⟨rfl,by rw [zab,zae];omega⟩
theorem hlist_lp(y1:((List (Int×Str))×Int×UInt8))(hy:y1.1.length≤4194304)(q:List (Int×Str)):∀(p:List (Int×Str)) (fk:Nat),y1.1=p++q→q.length<fk→
  amk FU y1 fk (p.map (·.2)) (p.length:Int)=some (if(q.map (·.2)).any (fun x=>decide (x=[]))=true then .inr ([],5)else .inl (y1.1.map (·.2))):=by
 induction q with
 |nil=>
  intro p fk h hf
  obtain⟨fk,rfl⟩:=fkx fk
  rw [zam]at h
  rw [aux,aog,if_neg (by rw [h];omega),h];rfl
 |cons a q ih=>
  intro p fk h hf
  obtain⟨fk,rfl⟩:=fkx fk
  have hl:=congrArg zbl h
  simp only [zab,zad]at hl hf
  have hb:(0:Int)≤(p.length:Int)∧(p.length:Int)<(y1.1.length:Int):=by omega
  have he:el y1.1 (p.length:Int)=a:=by rw [h];simp [el]
  rw [aux,aog,if_pos hb.2,aaa hb,aaa hb,he,zaI,zbo]
  by_cases h0:a.2=[]
  ·rw [if_pos h0,decide_eq_true h0,Bool.true_or,if_pos rfl]
  ·rw [if_neg h0,decide_eq_false h0,Bool.false_or,aaa (by simp only [zaK,zae];omega),aaa (aef _ (by omega) (by omega))]
   have:=ih (p++[a]) fk (by rw [h];simp) (by omega)
   rw [zaV,List.map_singleton]at this
   rw [show((p.length:Int)+1)=((p++[a]).length:Int)by simp]
   exact this
theorem list_eq2(v:Str)(hv:v.length≤4194303):atv FU v=some (lstP v):=by
 obtain⟨q,a,e1,e2⟩:=split_eq2 v hv
 unfold atv lstP
 rw [e1,zaa]
 have hne:=sp_err v 0 []
 cases hr:spS 0 [] v with
 |inr e=>
  dsimp only
  rw [if_neg (hne e hr)]
 |inl l=>
  obtain⟨h1,h2⟩:=e2 l hr
  dsimp only
  have:=hlist_lp (q,a,0) (by dsimp only;omega) q [] FU rfl (by rw [ahy];omega)
  have this':amk FU (q,a,0) FU [] (0:Int)=_:=this
  rw [if_pos rfl,this',zaa,h1]
  by_cases h0:l.any (fun x=>decide (x=[]))=true
  ·rw [if_pos h0,if_pos h0,zbg]
  ·rw [if_neg h0,if_neg h0,zaA]
theorem numbered_eq2(s:Str)(hs:s.length≤4194304):ami FU s=some (apg s):=by
 have hix:zbf s [32,9]=ixb aac s:=by rw [aql,blank_set]
 unfold ami apg
 rw [aaa ⟨by omega,by decide,by decide⟩,hix]
 have e:(if ixb aac s<(0:Int)then some (s.length:Int)else some (ixb aac s))=some ((ahv (fun c=> !aac c) s:Nat):Int):=by
  rcases atq aac s with⟨h1,h2⟩|⟨h1,h2,h3⟩
  ·rw [if_pos (by omega),h2]
  ·rw [if_neg (by omega),h3]
 have hsp:=ape (fun c=> !aac c) s
 have hbl:=ada aac s ((ahv (fun c=> !aac c) s:Nat):Int)
 rw [e,zaa,aaa (by omega),zar,number_eq,zaa,blanks_eq s hs,zaa,aaa (by omega),zar]
theorem numdP_len(s:Str):(apg s).2.1.length≤s.length:=by unfold apg;rw [zaq];omega
theorem cseq_eq2(v:Str)(hv:v.length≤4194304):aoz FU v=some (apo v):=by
 have ht:=anj v
 have hn:=numdP_len (aat v)
 unfold aoz apo
 rw [trim_eq v hv,zaa,numbered_eq2 _ (by omega),zaa]
 by_cases h:(apg (aat v)).2.2=0
 ·rw [if_pos h,if_pos h,awm _ (by omega),zaa]
  cases hk:ahi (apg (aat v)).2.1 with
  |true=>rw [zaz,cond_false,if_pos rfl]
  |false=>rw [zaH,cond_true,if_neg (by decide)]
 ·rw [if_neg h,if_neg h]
theorem rack_eq2(v:Str)(hv:v.length≤4194304):atu FU v=some (aqd v):=by
 have ht:=anj v
 have hn:=numdP_len (aat v)
 unfold atu aqd
 rw [trim_eq v hv,zaa,numbered_eq2 _ (by omega),zaa]
 by_cases h:(apg (aat v)).2.2=0
 ·rw [if_pos h,if_pos h,cseq_eq2 _ (by omega),zaa]
  by_cases h2:(apo (apg (aat v)).2.1).2.2=0
  ·rw [if_pos h2,if_pos h2]
  ·rw [if_neg h2,if_neg h2]
 ·rw [if_neg h,if_neg h]
theorem hnum_eq2(v:Str)(hv:v.length≤4194304):arl FU v=some (numQ (aat v)):=by
 unfold arl
 rw [trim_eq v hv,zaa,number_eq,zaa]
open Go.Lib renaming itoa → zat, join → zau
open List renaming append_assoc → zal, flatMap_cons → zas, length → zbl, length_append → zab, length_cons → zad, length_drop → zaq, length_map → zaK, length_nil → zaj, length_singleton → zae, length_take → zaE, mem_cons_of_mem → zaf, mem_cons_self → zak, nil_append → zax, set → zaJ
def auj(c:Str):Int:=(aic FU c).getD 0
theorem kind_in:∀x∈afu,aic FU x.1=some (auj x.1):=by decide+kernel
theorem kind_many:∀x∈afu,manyP x.1=true→auj x.1=1∨auj x.1=2∨auj x.1=6∨auj x.1=7:=by decide+kernel
theorem kind_eq(c:Str):aic FU c=some (auj c):=by
 by_cases h:∃x∈afu,x.1=c
 ·obtain⟨x,hx,rfl⟩:=h
  exact kind_in x hx
 ·have hn:∀x∈afu,x.1≠c:=fun x hx e=>h ⟨x,hx,e⟩
  have:=kind_not c hn
  unfold auj
  rw [this];rfl
theorem many_kind(c:Str)(h:manyP c=true):manyK (auj c):=by
 by_cases hx:∃x∈afu,x.1=c
 ·obtain⟨x,hx,rfl⟩:=hx
  exact kind_many x hx h
 ·have hn:∀x∈afu,x.1≠c:=fun x hx' e=>hx ⟨x,hx',e⟩
  have:=many_not c hn
  rw [many_eq,h]at this
  cases this
theorem szP_le(n:Nat):∀l:List PP,lenQ n l→szP l≤l.length*(2*n)
 |[],_=>zah _
 |p::l,h=>by
  have h1:=h p zak
  have h2:=szP_le n l (fun q hq=>h q (zaf _ hq))
  rw [szP_cons,zad,Nat.add_mul];omega
theorem pars_len2(n:Nat):∀l:List PP,lenQ n l→(amt l).length≤l.length*(6*n+2)
 |[],_=>zah _
 |p::l,h=>by
  have h1:=h p zak
  have h2:=pars_len2 n l (fun q hq=>h q (zaf _ hq))
  have e1:=api 1 p.1
  have e2:=api 1 p.2.1
  have he:amt (p::l)=59::(par1 p++amt l):=by unfold amt;rw [zas];rfl
  have hp:(par1 p).length≤6*n+1:=by
   unfold par1
   rw [zab]
   cases p.2.2 with
   |true=>rw [cond_true,zad];omega
   |false=>rw [cond_false,zaj];omega
  rw [he,zad,zab,zad,Nat.add_mul];omega
theorem hds_len2(n:Nat):∀l:List PP,lenQ n l→(hds2 l).length≤l.length*(6*n+2)
 |[],_=>zah _
 |p::l,h=>by
  have h1:=h p zak
  have h2:=hds_len2 n l (fun q hq=>h q (zaf _ hq))
  have e1:=api 2 p.1
  have e2:=api 2 p.2.1
  have he:hds2 (p::l)=38::(hd1T p++hds2 l):=by unfold hds2;rw [zas];rfl
  have hp:(hd1T p).length≤6*n+1:=by
   unfold hd1T
   rw [zab,zad];omega
  rw [he,zad,zab,zad,Nat.add_mul];omega
theorem hdsT_len2(n:Nat)(l:List PP)(h:lenQ n l):(hdsT l).length≤l.length*(6*n+2):=by
 have:=hds_len2 n l h
 cases l with
 |nil=>exact zah _
 |cons p l=>
  have he:hds2 (p::l)=38::(hd1T p++hds2 l):=by unfold hds2;rw [zas];rfl
  rw [he]at this
  unfold hdsT
  exact this
theorem prU_len2(n:Nat)(u:UU)(hg:Good u)(h:smlN n u):(prU u).length≤197*n+80:=by
 obtain⟨s1,s2,s3,s4,s5⟩:=h
 have l1:=pars_len2 n _ s4
 have l2:=hdsT_len2 n _ s5
 have hus:=api 0 u.2.1
 have hpo:0≤u.2.2.2.1∧u.2.2.2.1≤65535:=by
  rcases hg.sch with⟨_,_,h1,h2,_⟩|⟨_,_,h,_⟩
  ·exact⟨h1,h2⟩
  ·omega
 have hit:=amd u.2.2.2.1 hpo.1 hpo.2
 have m1:u.2.2.2.2.1.length*(6*n+2)≤16*(6*n+2):=Nat.mul_le_mul_right _ hg.pl
 have m2:u.2.2.2.2.2.length*(6*n+2)≤16*(6*n+2):=Nat.mul_le_mul_right _ hg.hl
 have h1:(usT u).length≤3*n+1:=by
  unfold usT
  split
  ·omega
  ·split
   ·exact zah _
   ·rw [zab,zae];omega
 have h2:(ptT u.2.2.2.1).length≤6:=by
  unfold ptT
  split
  ·exact zah _
  ·rw [zad];omega
 unfold prU
 simp only [zab,zad]
 omega
theorem parse_sml2(s:Str):smlN (s.length+252) (aqk s).2:=by
 unfold aqk
 split
 ·exact ant _
 ·have hl:(aau (s.take (utl [58] s 0))).length≤s.length:=by unfold aau;rw [zaK,zaE];omega
  have hp:=plP_len s (utl [58] s 0+1)
  have ht:=telP_len s (utl [58] s 0+1)
  split
  ·split
   ·split
    ·exact rest_sml _ _ s _ _ _ _ _ (by omega) (by omega) (by omega) (by omega)
    ·exact ant _
   ·split
    ·split
     ·exact rest_sml _ _ s _ _ _ _ _ (by omega) (by omega) (zah _) (by omega)
     ·exact ant _
    ·exact ant _
  ·exact ant _
theorem smlN.mono{n m:Nat}{u:UU}(h:smlN n u)(hnm:n≤m):smlN m u:=
 ⟨zaF h.1 hnm,zaF h.2.1 hnm,zaF h.2.2.1 hnm,fun p hp=>⟨zaF (h.2.2.2.1 p hp).1 hnm,zaF (h.2.2.2.1 p hp).2 hnm⟩,fun p hp=>⟨zaF (h.2.2.2.2 p hp).1 hnm,zaF (h.2.2.2.2 p hp).2 hnm⟩⟩
theorem nameL_join(s:Str):∀(f i:Nat) (ws:List Str),i≤s.length→(zau ws [32]).length≤2*i→(zau (aph s f i ws).2.2 [32]).length≤2*s.length
 |0,_,_,_,_=>zah _
 |f+1,i,ws,hi,hw=>by
  have h1:=aiv aaf s i hi
  have h2:=ada aaf s (i:Int)
  have h3:=aiv aac s (aap aaf s (i:Int)) h2
  rw [aph]
  split
  ·dsimp only;omega
  ·split
   ·exact zah _
   ·rename_i hne
    have hsl:(sub s (i:Int) ((aap aaf s (i:Int):Nat):Int)).length=aap aaf s (i:Int)-i:=by rw [aqc];omega
    refine nameL_join s f _ _ (ada _ _ _) ?_
    rw [joinSnoc]
    split
    ·omega
    ·rw [zab,zab,zae];omega
theorem disp_len2(s:Str)(i:Nat)(hi:i≤s.length):(ard s i).2.1.length≤2*s.length:=by
 unfold ard
 split
 ·rename_i h
  have:=unqP8_bd s i (ags h).2 (ags h).1
  split
  ·split
   ·dsimp only;omega
   ·exact zah _
  ·exact zah _
 ·split
  ·exact nameL_join s (s.length+1) i [] hi (zah _)
  ·exact zah _
theorem adr_sml2(s:Str):smlN (s.length+252) (adrP s).2.2.1∧(adrP s).2.1.length≤2*s.length∧lenQ (s.length+252) (adrP s).2.2.2:=by
 have hnil:smlN (s.length+252) nilA.2.1∧nilA.1.length≤2*s.length∧lenQ (s.length+252) nilA.2.2:=⟨ant _,zah _,fun p hp=>by cases hp⟩
 unfold adrP
 split
 ·exact hnil
 ·rename_i hl
  split
  ·split
   ·split
    ·refine⟨?_,disp_len2 s _ (ada _ _ _), ?_⟩
     ·show smlN (s.length+252) (tgtP s (ard s (aap aac s 0)).2.2).2.1
      generalize(ard s (aap aac s 0)).2.2=j
      unfold tgtP
      split
      ·split
       ·exact ant _
       ·exact(parse_sml2 _).mono (by have:=sub_le s ((j+1:Nat):Int) (utl [62] s (j+1):Int);omega)
      ·split
       ·exact ant _
       ·exact(parse_sml2 _).mono (by have:=sub_le s (j:Int) (utl [59,32,9] s j:Int);omega)
     ·intro p hp
      dsimp only at hp
      have hd:(s.drop (tgtP s (ard s (aap aac s 0)).2.2).2.2).length≤s.length:=by rw [zaq];omega
      have h1:=aty _ (by omega) p hp
      have h2:=parP_val _ p hp
      exact⟨by omega,by omega⟩
    ·exact hnil
   ·exact hnil
  ·exact hnil
theorem prA_len(n:Nat)(a:AA)(hg:Good a.2.1)(h1:smlN n a.2.1)(h2:a.1.length≤2*n)(h3:lenQ n a.2.2)(h4:a.2.2.length≤16):(prA a).1.length≤265*n+200:=by
 have e1:=prU_len2 n a.2.1 hg h1
 have e2:=quoT_len a.1
 have e3:=ppM_len2 (acl a.2.2)
 have e4:=szP_perm (ajg a.2.2)
 have e5:=szP_le n a.2.2 h3
 have e6:a.2.2.length*(2*n)≤16*(2*n):=Nat.mul_le_mul_right _ h4
 have e7:(dsT a.1).length≤4*n+3:=by
  unfold dsT
  split
  ·exact zah _
  ·rw [zab,zae];omega
 unfold prA
 split
 ·simp only [zab,zad]
  omega
 ·exact zah _
theorem via_sz(v:Str)(hv:v.length≤4194304):(viaP v).1.1.length≤v.length∧(viaP v).1.2.1.length≤v.length+252∧(viaP v).1.2.2.2.1.length≤v.length+252∧lenQ (v.length+252) (viaP v).1.2.2.2.2:=by
 have hz:zVia.1.length≤v.length∧zVia.2.1.length≤v.length+252∧zVia.2.2.2.1.length≤v.length+252∧lenQ (v.length+252) zVia.2.2.2.2:=⟨zah _,zah _,zah _,fun p hp=>by cases hp⟩
 have ht:=anj v
 have hF:∀(tr h:Str) (port:Int) (rest:Str),tr.length≤v.length→h.length≤v.length+252→rest.length≤v.length→(viaF tr h port rest).1.1.length≤v.length∧(viaF tr h port rest).1.2.1.length≤v.length+252∧(viaF tr h port rest).1.2.2.2.1.length≤v.length+252∧lenQ (v.length+252) (viaF tr h port rest).1.2.2.2.2:=by
  intro tr h port rest h1 h2 h3
  have hq:lenQ (v.length+252) (parP rest).1:=fun p hp=>by
   have a:=aty rest (by omega) p hp
   have b:=parP_val rest p hp
   exact⟨by omega,by omega⟩
  unfold viaF
  split
  ·refine⟨h1,h2, ?_,hq⟩
   dsimp only
   unfold getP
   split
   ·rename_i p hp
    exact(hq p (List.mem_of_find?_eq_some hp)).2
   ·exact zah _
  ·exact hz
 unfold viaP
 split
 ·exact hz
 ·split
  ·exact hz
  ·split
   ·exact hz
   ·split
    ·exact hz
    ·have hup:(adz (sub (aat v) 8 (aap aaf (aat v) 8:Int))).length≤v.length:=by
      have:=sub_le (aat v) 8 (aap aaf (aat v) 8:Int)
      rw [upperL_len];omega
     have hB:∀P rest:Str,P.length≤v.length→rest.length≤v.length→(viaB (adz (sub (aat v) 8 (aap aaf (aat v) 8:Int))) P rest).1.1.length≤v.length∧(viaB (adz (sub (aat v) 8 (aap aaf (aat v) 8:Int))) P rest).1.2.1.length≤v.length+252∧(viaB (adz (sub (aat v) 8 (aap aaf (aat v) 8:Int))) P rest).1.2.2.2.1.length≤v.length+252∧lenQ (v.length+252) (viaB (adz (sub (aat v) 8 (aap aaf (aat v) 8:Int))) P rest).1.2.2.2.2:=by
      intro P rest hP hR
      have hh:=host_len2 (cutP P).1
      have hc:=(cutP_len P).1
      unfold viaB
      split
      ·exact hz
      ·split
       ·split
        ·exact hF _ _ _ _ hup (by omega) hR
        ·exact hz
       ·exact hF _ _ _ _ hup (by omega) hR
     refine hB _ _ ?_ ?_
     ·rw [zaE,zaq];omega
     ·rw [zaq,zaq];omega
theorem item_sz(v:Str)(hv:v.length≤4194304):(aur v).1.1.length≤v.length∧lenQ (v.length+252) (aur v).1.2:=by
 have ht:=anj v
 unfold aur
 split
 ·exact⟨zah _,fun p hp=>by cases hp⟩
 ·split
  ·refine⟨by dsimp only;rw [zaE];omega,fun p hp=> ?_⟩
   have hd:((aat v).drop (itemE (aat v))).length≤v.length:=by rw [zaq];omega
   have a:=aty _ (by omega) p hp
   have b:=parP_val _ p hp
   exact⟨by omega,by omega⟩
  ·exact⟨zah _,fun p hp=>by cases hp⟩
theorem auq(n:Int)(h0:0≤n)(h:n≤2147483647):(zat n).length≤10:=(itoa_num n h0 h).2.2.1
theorem cseqP_sz(v:Str):0≤(apo v).1∧(apo v).1≤2147483647∧(apo v).2.1.length≤v.length:=by
 have hb:=numd_bd (aat v)
 have hn:=numdP_len (aat v)
 have ht:=anj v
 unfold apo
 split
 ·split
  ·exact⟨hb.1,hb.2,by dsimp only;omega⟩
  ·exact⟨Int.le_refl 0,(show(0:Int)≤2147483647 by decide),zah _⟩
 ·exact⟨Int.le_refl 0,(show(0:Int)≤2147483647 by decide),zah _⟩
theorem rackP_sz(v:Str):(0≤(aqd v).1∧(aqd v).1≤2147483647)∧(0≤(aqd v).2.1∧(aqd v).2.1≤2147483647)∧(aqd v).2.2.1.length≤v.length:=by
 have hb:=numd_bd (aat v)
 have hc:=cseqP_sz (apg (aat v)).2.1
 have hn:=numdP_len (aat v)
 have ht:=anj v
 unfold aqd
 generalize apo (apg (aat v)).2.1=C at hc⊢
 generalize apg (aat v)=D at hb hn hc⊢
 split
 ·split
  ·exact⟨hb,⟨hc.1,hc.2.1⟩,by dsimp only;omega⟩
  ·exact⟨⟨Int.le_refl 0,(show(0:Int)≤2147483647 by decide)⟩,⟨Int.le_refl 0,(show(0:Int)≤2147483647 by decide)⟩,zah _⟩
 ·exact⟨⟨Int.le_refl 0,(show(0:Int)≤2147483647 by decide)⟩,⟨Int.le_refl 0,(show(0:Int)≤2147483647 by decide)⟩,zah _⟩
theorem tdP_len(k:Int)(ct:Bool)(v:Str)(hv:v.length≤4194000):(tdP k ct v).1.length≤265*v.length+80000:=by
 have ht:=anj v
 have z:∀e:UInt8,(([]:Str),e).1.length≤265*v.length+80000:=fun e=>zah _
 unfold tdP
 split
 ·split
  ·show 1≤_;omega
  ·split
   ·rename_i h0
    obtain⟨g1,g2,_⟩:=adr_good _ h0
    obtain⟨a1,a2,a3⟩:=adr_sml2 (aat v)
    have:=prA_len ((aat v).length+252) _ g1 a1 (by omega) a3 g2
    omega
   ·exact z _
 ·split
  ·split
   ·obtain⟨v1,v2,v3,v4⟩:=via_sz v (by omega)
    have a:=prVia_len (viaP v).1
    have b:=szP_le _ _ v4
    have c:=viaP_len v
    have d:(viaP v).1.2.2.2.2.length*(2*(v.length+252))≤16*(2*(v.length+252)):=Nat.mul_le_mul_right _ c
    omega
   ·exact z _
  ·split
   ·split
    ·obtain⟨c1,c2,c3⟩:=cseqP_sz v
     have:=auq _ c1 c2
     simp only [zab,zad]
     omega
    ·exact z _
   ·split
    ·split
     ·obtain⟨⟨c1,c2⟩,⟨c3,c4⟩,c5⟩:=rackP_sz v
      have:=auq _ c1 c2
      have:=auq _ c3 c4
      simp only [zab,zad]
      omega
     ·exact z _
    ·split
     ·split
      ·obtain⟨c1,c2⟩:=numQ_bd (aat v)
       have:=auq _ c1 c2
       dsimp only
       omega
      ·exact z _
     ·split
      ·split
       ·obtain⟨v1,v2⟩:=item_sz v (by omega)
        have a:=prItem_len (aur v).1
        have b:=szP_le _ _ v2
        have c:=itemP_len v
        have d:(aur v).1.2.length*(2*(v.length+252))≤16*(2*(v.length+252)):=Nat.mul_le_mul_right _ c
        omega
       ·exact z _
      ·split
       ·exact z _
       ·dsimp only;omega
def sumL(l:List Str):Nat:=(l.map zbl).sum
theorem aue(x:Str)(l:List Str):sumL (x::l)=x.length+sumL l:=rfl
theorem join_sum:∀(l:List Str),(zau l [44,32]).length≤sumL l+2*l.length
 |[]=>zah _
 |[a]=>by rw [jn1,aue];omega
 |a::b::l=>by
  have:=join_sum (b::l)
  rw [jn2,aue]
  simp only [zab,zad,zaj]at this⊢
  omega
theorem tdL_sum(k:Int)(ct:Bool):∀l:List Str,(∀x∈l,x.length≤4194000)→sumL (tdL k ct l).1≤265*sumL l+80000*l.length
 |[],_=>zah _
 |x::l,h=>by
  have h1:=tdP_len k ct x (h x zak)
  have h2:=tdL_sum k ct l (fun y hy=>h y (zaf _ hy))
  rw [tdL,aue,zad]
  split
  ·split
   ·rw [aue];omega
   ·exact zah _
  ·exact zah _
theorem sp_sum:∀(s:Str) (m:Nat) (cur:Str) (l:List Str),spS m cur s=.inl l→sumL l≤cur.length+s.length∧l.length≤s.length+1
 |[],0,cur,l,h=>by
  rw [s0n]at h
  have:=Sum.inl.inj h
  subst this
  have:=anj cur
  exact⟨by rw [aue];show _+0≤_;omega,by simp⟩
 |[],m+1,cur,l,h=>by cases h
 |c::s,0,cur,l,h=>by
  have hl:(cur++[c]).length=cur.length+1:=by simp
  rw [s0c]at h
  rw [zad]
  split at h
  ·have:=sp_sum s _ _ l h;omega
  ·split at h
   ·have:=sp_sum s _ _ l h;omega
   ·split at h
    ·cases h
    ·split at h
     ·obtain⟨m,h1,rfl⟩:=consE_inl h
      have:=sp_sum s _ _ m h1
      have:=anj cur
      rw [aue,zad]
      simp only [zaj]at*
      omega
     ·have:=sp_sum s _ _ l h;omega
 |c::s,1,cur,l,h=>by
  have hl:(cur++[c]).length=cur.length+1:=by simp
  rw [s1c]at h
  rw [zad]
  split at h
  ·have:=sp_sum s _ _ l h;omega
  ·split at h
   ·have:=sp_sum s _ _ l h;omega
   ·split at h
    ·cases h
    ·have:=sp_sum s _ _ l h;omega
 |c::s,2,cur,l,h=>by
  have hl:(cur++[c]).length=cur.length+1:=by simp
  rw [s2c]at h
  rw [zad]
  split at h
  ·have:=sp_sum s _ _ l h;omega
  ·cases h
 |c::s,m+3,cur,l,h=>by
  have hl:(cur++[c]).length=cur.length+1:=by simp
  rw [s3c]at h
  rw [zad]
  split at h
  ·have:=sp_sum s _ _ l h;omega
  ·have:=sp_sum s _ _ l h;omega
theorem lstP_sum(v:Str):sumL (lstP v).1≤v.length∧(lstP v).1.length≤v.length+1:=by
 unfold lstP
 cases hs:spS 0 [] v with
 |inr e=>exact⟨zah _,zah _⟩
 |inl l=>
  have:=sp_sum v 0 [] l hs
  dsimp only
  split
  ·exact⟨zah _,zah _⟩
  ·dsimp only
   simp only [zaj]at this
   omega
theorem sumL_mem:∀(l:List Str),∀x∈l,x.length≤sumL l
 |[],x,hx=>by cases hx
 |a::l,x,hx=>by
  rw [aue]
  rcases List.mem_cons.1 hx with h|h
  ·rw [h];omega
  ·have:=sumL_mem l x h;omega
def CONT:Str:=[67,111,110,116,97,99,116]
def ctB(c:Str):Bool:=decide (c=CONT)
theorem tidy1_eq(c v:Str)(hv:v.length≤4190000):arj FU c v=some (tdP (auj c) (ctB c) v):=by
 unfold arj tdP
 rw [kind_eq,zaa]
 generalize auj c=k
 by_cases k1:k=1
 ·rw [if_pos k1,if_pos k1]
  have e:(if c=([67,111,110,116,97,99,116]:Str)then((afx FU v).bind fun(y159:Str)=>some (decide (y159=([42]:Str))))else some false)=some (decide (ctB c=true∧aat v=[42])):=by
   unfold ctB
   by_cases hc:c=CONT
   ·rw [if_pos (show c=([67,111,110,116,97,99,116]:Str)from hc),trim_eq v (by omega),zaa,decide_eq_true hc]
    congr 1
    rw [decide_eq_decide]
    exact⟨fun h=>⟨rfl,h⟩,fun h=>h.2⟩
   ·rw [if_neg (show¬c=([67,111,110,116,97,99,116]:Str)from hc),decide_eq_false hc,decide_eq_false (fun h=>absurd h.1 (by decide))]
  rw [e,zaa]
  by_cases hs:ctB c=true∧aat v=[42]
  ·rw [decide_eq_true hs,cond_true,if_pos hs]
  ·rw [decide_eq_false hs,cond_false,if_neg hs,hAddr_eq v (by omega),zaa]
   dsimp only
   by_cases h0:(adrP (aat v)).1=0
   ·obtain⟨g1,g2,g3⟩:=adr_good _ h0
    obtain⟨a1,a2,a3⟩:=adr_sml (aat v)
    rw [if_pos h0,if_pos h0,printAddr_eq _ g1 (a1.sml (by decide)) (by omega) (by omega) (fun p hp=>by have:=a3 p hp;omega),zaa]
   ·rw [if_neg h0,if_neg h0]
 ·rw [if_neg k1,if_neg k1]
  by_cases k2:k=2
  ·rw [if_pos k2,if_pos k2,via_eq v (by omega),zaa]
   by_cases h0:(viaP v).2=0
   ·obtain⟨v1,v2,v3,v4⟩:=via_sz v (by omega)
    have hl:=viaP_len v
    rw [if_pos h0,if_pos h0,printVia_eq _ (by omega) (by omega) (by omega) (fun p hp=>by have:=v4 p hp;omega) (by omega),zaa]
   ·rw [if_neg h0,if_neg h0]
  ·rw [if_neg k2,if_neg k2]
   by_cases k3:k=3
   ·obtain⟨c1,c2,c3⟩:=cseqP_sz v
    have hi:=auq _ c1 c2
    rw [if_pos k3,if_pos k3,cseq_eq2 v (by omega),zaa]
    by_cases h0:(apo v).2.2=0
    ·rw [if_pos h0,if_pos h0,aaa (aef _ (by omega) (by omega)),aaa (by rw [zae];omega),aaa (by rw [zab,zae];omega),zal];rfl
    ·rw [if_neg h0,if_neg h0]
   ·rw [if_neg k3,if_neg k3]
    by_cases k4:k=4
    ·obtain⟨⟨c1,c2⟩,⟨c3,c4⟩,c5⟩:=rackP_sz v
     have hi:=auq _ c1 c2
     have hj:=auq _ c3 c4
     rw [if_pos k4,if_pos k4,rack_eq2 v (by omega),zaa]
     by_cases h0:(aqd v).2.2.2=0
     ·rw [if_pos h0,if_pos h0,aaa (aef _ (by omega) (by omega)),aaa (by rw [zae];omega),aaa (aef _ (by omega) (by omega)),aaa (by rw [zab,zae];omega),aaa (by simp only [zab,zae];omega),aaa (by simp only [zab,zae];omega)]
      simp
     ·rw [if_neg h0,if_neg h0]
    ·rw [if_neg k4,if_neg k4]
     by_cases k5:k=5
     ·obtain⟨c1,c2⟩:=numQ_bd (aat v)
      rw [if_pos k5,if_pos k5,hnum_eq2 v (by omega),zaa]
      by_cases h0:(numQ (aat v)).2=0
      ·rw [if_pos h0,if_pos h0,aaa (aef _ (by omega) (by omega))]
      ·rw [if_neg h0,if_neg h0]
     ·rw [if_neg k5,if_neg k5]
      have e:(if k=(6:Int)then some (decide (k=(6:Int)))else some (decide (k=(7:Int))))=some (decide (k=6∨k=7)):=by
       by_cases k6:k=6
       ·rw [if_pos k6,decide_eq_true k6,decide_eq_true (.inl k6)]
       ·rw [if_neg k6]
        congr 1
        rw [decide_eq_decide]
        exact⟨.inr,fun h=>h.resolve_left k6⟩
      rw [e,zaa]
      by_cases k6:k=6∨k=7
      ·rw [decide_eq_true k6,cond_true,if_pos k6,item_eq v (by omega),zaa]
       by_cases h0:(aur v).2=0
       ·obtain⟨v1,v2⟩:=item_sz v (by omega)
        have hl:=itemP_len v
        rw [if_pos h0,if_pos h0,printItem_eq _ (by omega) (by omega) (fun p hp=>by have:=v2 p hp;omega),zaa]
       ·rw [if_neg h0,if_neg h0]
      ·have ht:=anj v
       rw [decide_eq_false k6,cond_false,if_neg k6,trim_eq v (by omega),zaa,quote_eq _ (by omega),zaa]
       unfold quoM
       by_cases h0:(aat v).any aax=true
       ·rw [if_pos h0,if_pos h0];rfl
       ·rw [if_neg h0,if_neg h0,if_pos rfl]
theorem tidy_lp(y1:Str×UInt8)(y18:List Str×UInt8)(hl:y18.1.length≤4194304)(r:List Str):∀(P:List Str) (fk:Nat),P.length+r.length=y18.1.length→r.length<fk→(∀x∈r,x.length≤4190000)→
  amj FU y1 y18 fk (P++r) (P.length:Int)=some (if(tdL (auj y1.1) (ctB y1.1) r).2=0 then .inl (P++(tdL (auj y1.1) (ctB y1.1) r).1)else .inr ([],(tdL (auj y1.1) (ctB y1.1) r).2)):=by
 induction r with
 |nil=>
  intro P fk h hf hx
  obtain⟨fk,rfl⟩:=fkx fk
  rw [zaj]at h
  rw [auw,aoe,if_neg (by omega)];rfl
 |cons x r ih=>
  intro P fk h hf hx
  obtain⟨fk,rfl⟩:=fkx fk
  rw [zad]at h hf
  have hlen:(P++x::r).length=P.length+(r.length+1):=by rw [zab,zad]
  have hin:0≤(P.length:Int)∧(P.length:Int)<((P++x::r).length:Int):=by omega
  have he:el (P++x::r) (P.length:Int)=x:=by simp [el]
  rw [auw,aoe,if_pos (by omega),aaa hin,aaa hin,he,tidy1_eq _ x (hx x zak),zaa,aaa hin,aaa hin,tdL]
  by_cases h0:(tdP (auj y1.1) (ctB y1.1) x).2=0
  ·have hs:zaJ (P++x::r) (zan (P.length:Int)) (tdP (auj y1.1) (ctB y1.1) x).1=(P++[(tdP (auj y1.1) (ctB y1.1) x).1])++r:=by
    rw [zar,List.set_append_right _ _ (zao _),Nat.sub_self,List.set_cons_zero]
    simp
   have:=ih (P++[(tdP (auj y1.1) (ctB y1.1) x).1]) fk (by rw [zab,zae];omega) (by omega) (fun y hy=>hx y (zaf _ hy))
   rw [show((P++[(tdP (auj y1.1) (ctB y1.1) x).1]).length:Int)=(P.length:Int)+1 by rw [zab,zae];rfl]at this
   rw [if_pos h0,if_pos h0,aaa (aef _ (by omega) (by omega)),hs,this]
   by_cases h1:(tdL (auj y1.1) (ctB y1.1) r).2=0
   ·rw [if_pos h1,if_pos h1,if_pos rfl,zal];rfl
   ·rw [if_neg h1,if_neg h1,if_neg h1]
  ·rw [if_neg h0,if_neg h0,if_neg h0]
def tidyH(nm v:Str):Str×UInt8:=if(asx nm).2=0 then awn (manyP (asx nm).1) (auj (asx nm).1) (ctB (asx nm).1) v else([],5)
theorem hTidy_eq(nm v:Str)(hn:nm.length≤4194304)(hv:v.length≤1100000):anf FU nm v=some (tidyH nm v):=by
 unfold anf tidyH
 rw [canon_eq nm (by omega),zaa]
 by_cases h0:(asx nm).2=0
 ·rw [if_pos h0,if_pos h0,many_eq,zaa]
  unfold awn
  cases hm:manyP (asx nm).1 with
  |false=>
   rw [zaH,cond_true,tidy1_eq _ v (by omega),zaa,if_neg (by decide)]
  |true=>
   obtain⟨q1,q2⟩:=lstP_sum v
   have hx:∀x∈(lstP v).1,x.length≤4190000:=fun x hx=>by have:=sumL_mem _ x hx;omega
   have:=tidy_lp (asx nm) (lstP v) (by omega) (lstP v).1 [] FU (by simp) (by rw [ahy];omega) hx
   have this':amj FU (asx nm) (lstP v) FU (lstP v).1 (0:Int)=_:=this
   have hs:=tdL_sum (auj (asx nm).1) (ctB (asx nm).1) (lstP v).1 (fun x h=>by have:=hx x h;omega)
   rw [zaz,cond_false,list_eq2 v (by omega),zaa,if_pos rfl]
   by_cases h1:(lstP v).2=0
   ·rw [if_pos h1,if_pos h1,this',zaa]
    by_cases h2:(tdL (auj (asx nm).1) (ctB (asx nm).1) (lstP v).1).2=0
    ·have hl:=tdL_len _ _ _ h2
     have hj:=join_sum (tdL (auj (asx nm).1) (ctB (asx nm).1) (lstP v).1).1
     rw [if_pos h2,if_pos h2,zaA,zax,aaa (by constructor<;>omega)]
    ·rw [if_neg h2,if_neg h2,zbg]
   ·rw [if_neg h1,if_neg h1]
 ·rw [if_neg h0,if_neg h0]
theorem tidyH_err(nm v:Str)(h:¬(tidyH nm v).2=0):(tidyH nm v).1=[]:=by
 have hA:∀a:AA,¬(prA a).2=0→(prA a).1=[]:=by
  intro a h
  unfold prA at h⊢
  split
  ·rename_i x;rw [if_pos x]at h;exact absurd rfl h
  ·rfl
 have hV:∀a:VV,¬(aqs a).2=0→(aqs a).1=[]:=by
  intro a h
  unfold aqs at h⊢
  split
  ·rename_i x;rw [if_pos x]at h;exact absurd rfl h
  ·rfl
 have hI:∀a:Str×List PP,¬(anl a).2=0→(anl a).1=[]:=by
  intro a h
  unfold anl at h⊢
  split
  ·rename_i x;rw [if_pos x]at h;exact absurd rfl h
  ·rfl
 have hT:∀(k:Int) (ct:Bool) (w:Str),¬(tdP k ct w).2=0→(tdP k ct w).1=[]:=by
  intro k ct w h
  unfold tdP at h⊢
  split
  ·rename_i x
   rw [if_pos x]at h
   split
   ·rename_i y;rw [if_pos y]at h;exact absurd rfl h
   ·rename_i y
    rw [if_neg y]at h
    split
    ·rename_i z;rw [if_pos z]at h;exact hA _ h
    ·rfl
  ·rename_i x
   rw [if_neg x]at h
   split
   ·rename_i y
    rw [if_pos y]at h
    split
    ·rename_i z;rw [if_pos z]at h;exact hV _ h
    ·rfl
   ·rename_i y
    rw [if_neg y]at h
    split
    ·rename_i z
     rw [if_pos z]at h
     split
     ·rename_i t;rw [if_pos t]at h;exact absurd rfl h
     ·rfl
    ·rename_i z
     rw [if_neg z]at h
     split
     ·rename_i t
      rw [if_pos t]at h
      split
      ·rename_i q;rw [if_pos q]at h;exact absurd rfl h
      ·rfl
     ·rename_i t
      rw [if_neg t]at h
      split
      ·rename_i q
       rw [if_pos q]at h
       split
       ·rename_i r;rw [if_pos r]at h;exact absurd rfl h
       ·rfl
      ·rename_i q
       rw [if_neg q]at h
       split
       ·rename_i r
        rw [if_pos r]at h
        split
        ·rename_i g;rw [if_pos g]at h;exact hI _ h
        ·rfl
       ·rename_i r
        rw [if_neg r]at h
        split
        ·rfl
        ·rename_i g;rw [if_neg g]at h;exact absurd rfl h
 unfold tidyH awn at h⊢
 split
 ·rename_i x
  rw [if_pos x]at h
  split
  ·rename_i y
   rw [if_pos y]at h
   split
   ·rename_i z
    rw [if_pos z]at h
    split
    ·rename_i t;rw [if_pos t]at h;exact absurd rfl h
    ·rfl
   ·rfl
  ·rename_i y
   rw [if_neg y]at h
   exact hT _ _ _ h
 ·rfl
open Bool renaming not_true → zaz
open List renaming append_assoc → zal, length_append → zab
theorem awake_true:ari FU=some true:=by kernel_rfl
theorem plain_HeaderStable(a b:Str)(h:a.length+b.length≤1048576):als FU a b=some true:=by
 have hb:tidyH a (([32,9]++b)++[32,32])=tidyH a b:=by
  unfold tidyH
  rw [zal,tidyP_blanks]
 have h2:([32,9]:Str).length=2:=rfl
 have h3:([32,32]:Str).length=2:=rfl
 unfold als
 rw [hTidy_eq a b omg omg,zaa,aaa omg,aaa (by rw [zab];omega),hTidy_eq a _ omg (by rw [zab,zab];omega),zaa,hb,if_pos rfl,decide_eq_true rfl,zaz,zaa,cond_false]
 by_cases h0:(tidyH a b).2=0
 ·rw [if_pos h0]
  by_cases hl:1024<(tidyH a b).1.length
  ·rw [if_pos omg,awake_true];rfl
  ·have hback:tidyH a (tidyH a b).1=((tidyH a b).1,0):=by
    unfold tidyH at h0 hl⊢
    by_cases hc:(asx a).2=0
    ·rw [if_pos hc]at h0 hl⊢
     rw [if_pos hc]
     exact tidyP_back _ _ _ (fun hm=>many_kind _ hm) b h0 omg
    ·rw [if_neg hc]at h0
     exact absurd h0 (show¬(5:UInt8)=0 by decide)
   rw [if_neg omg,hTidy_eq a _ omg omg,zaa,hback]
   dsimp only
   rw [if_pos rfl,if_pos rfl,awake_true]
   rfl
 ·rw [if_neg h0,tidyH_err a b h0,if_pos rfl,awake_true]
  rfl
end Go.Wk
