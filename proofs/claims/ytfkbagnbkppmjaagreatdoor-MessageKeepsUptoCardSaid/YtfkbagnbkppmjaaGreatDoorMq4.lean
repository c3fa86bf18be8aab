/-
  The law MessageKeeps holds for a message and texts of at most 1048576 letters together (part 4 of 8).
-/
import Derived.Test.YtfkbagnbkppmjaaGreatDoorMq3
set_option linter.unusedVariables false
set_option linter.unusedSimpArgs false
set_option maxRecDepth 100000
namespace Go.Wk
open Go.Px
open Bool renaming not_true -> zbe
open Int renaming toNat -> zah, toNat_natCast -> zaq
open List renaming append_assoc -> zaC, append_nil -> zaS, drop -> zaE, drop_of_length_le -> zba, drop_succ_cons -> zbg, filter_cons -> zaH, flatMap_cons -> zar, length_append -> zae, length_cons -> zaf, length_drop -> zaI, length_nil -> zbd, length_take -> zac, map_append -> zbc, map_cons -> zao, mem_of_mem_take -> zaL, nil_append -> zaM, take_left -> zaW
open Nat renaming le_refl -> zab, le_trans -> zau
open Option renaming bind_some -> zaa
open Sum renaming elim_inl -> zaZ
theorem canon_short(s:Str)(h:(aap s).2=0):(aap s).1.length<=64:=by
 have e:=canonP_canon s h;by_cases h6:64<(aap s).1.length
 ·have e2:aap (aap s).1=([],5):=by rw [aap,if_pos (Or.inr h6)]
  rw [e2]at e;exact absurd (congrArg Prod.snd e) (show¬((5:UInt8)=0)by decide)
 ·omega
theorem full_len(name:Str):(fullP name).length<=name.length+64:=by
 unfold fullP;split
 ·have:=canon_short name (by assumption);omega
 ·omega
theorem others_lp(l:List HH)(name:Str)(hn:name.length<=4194303)(hl:Sm l)(q:List HH):∀(p:List HH) (fk:Nat) (acc:List HH),l=p++q->q.length<fk->acc.length+q.length<=4194304->
  acz FU l name fk acc (p.length:Int)=some (acc++q.filter (fun h=> !nmP name h)):=by
 induction q with
 |nil=>
  intro p fk acc h hf ha;obtain⟨fk,rfl⟩:=fkx fk;rw [zaS]at h;rw [agh,adt,if_neg (by rw [h];omega)];simp
 |cons a q ih=>
  intro p fk acc h hf ha;obtain⟨fk,rfl⟩:=fkx fk;have hll:=congrArg List.length h;simp only [zae,zaf]at hll hf ha;have hln:=hl.1;have hb:(0:Int)<=(p.length:Int)/\(p.length:Int)<(l.length:Int):=by omega
  have he:el l (p.length:Int)=a:=by rw [h];simp [el]
  have hsa:=hl.2 a (by rw [h];simp);have hi:((p.length:Int)+1)=((p++[a]).length:Int):=by simp
  have hg:afr ((p.length:Int)+1):=aht _ omg omg;rw [agh,adt,if_pos hb.2,aaf hb,aaf hb,he,is_eq a name hsa.1 hn,zaa];by_cases h0:nmP name a=true
  ·rw [h0,zbe,cond_false,aaf hg,hi,ih (p++[a]) fk acc (by rw [h];simp) omg omg,List.filter_cons_of_neg (by simp [h0])]
  ·have h0':nmP name a=false:=by simpa using h0
   rw [h0',Bool.not_false,cond_true,aaf hb,aaf hb,aaf (by simp only [zaf,zbd];omega),aaf hg,hi,
    ih (p++[a]) fk (acc++[a]) (by rw [h];simp) omg (by simp only [zae,zaf,zbd];omega),List.filter_cons_of_pos (by simp [h0']),zaC];rfl
theorem others_eq(l:List HH)(name:Str)(hn:name.length<=4194303)(hl:Sm l):abl FU l name=some (l.filter (fun h=> !nmP name h)):=by
 have hln:=hl.1
 have:=others_lp l name hn hl l [] FU [] rfl (by rw [FU_eq];omega) (by simp;omega)
 have this':acz FU l name FU [] (0:Int)=_:=this;unfold abl;rw [this',zaa,zaM]
theorem texts_lp(a:List Str)(ha:a.length<=4194304)(q:List Str):∀(p:List Str) (fk:Nat),a=p++q->q.length<fk->acf FU a a fk (p.length:Int)=some (.inl ()):=by
 induction q with
 |nil=>
  intro p fk h hf;obtain⟨fk,rfl⟩:=fkx fk;rw [zaS]at h;rw [afb,aco,if_neg (by rw [h];omega)]
 |cons x q ih=>
  intro p fk h hf;obtain⟨fk,rfl⟩:=fkx fk;have hll:=congrArg List.length h;simp only [zae,zaf]at hll hf;have hb:(0:Int)<=(p.length:Int)/\(p.length:Int)<(a.length:Int):=by omega
  have hi:((p.length:Int)+1)=((p++[x]).length:Int):=by simp
  rw [afb,aco,if_pos hb.2,aaf hb,aaf hb,aaf hb,aaf hb,if_pos rfl,aaf (aht _ omg omg),hi,ih (p++[x]) fk (by rw [h];simp) omg]
theorem texts_eq(a:List Str)(ha:a.length<=4194304):adm FU a a=some true:=by
 have:=texts_lp a ha a [] FU rfl (by rw [FU_eq];omega)
 have this':acf FU a a FU (0:Int)=_:=this;unfold adm;rw [if_pos rfl,this',zaa,zaZ]
structure Kp (m:MM) (name:Str) (i:Int) (L:List HH):Prop where
 sm:Sm L
 same:(aap name).2=0->L.filter (fun h=> !nmP name h)=m.2.2.2.2.1.filter (fun h=> !nmP name h)
 bad:¬(aap name).2=0->2<=i->L=m.2.2.2.2.1
theorem one_kp(m:MM)(name:Str)(hn:name.length<=4194303)(hm:Sm m.2.2.2.2.1)(i:Int)(h0:0<=i)(h4:i<4)(L:List HH)(k:Kp m name i L)(r:Option (Unit⊕Bool)):
  (if(aap name).2=(0:UInt8)then((abl FU L name).bind fun(y:List (Str×Str))=>((abl FU m.2.2.2.2.1 name).bind fun(z:List (Str×Str))=>((abx FU (m.1,m.2.1,m.2.2.1,m.2.2.2.1,y,m.2.2.2.2.2) (m.1,m.2.1,m.2.2.1,m.2.2.2.1,z,m.2.2.2.2.2)).bind fun(t:Bool)=>(bif (!t)then some (.inr false)else(gd (afr (i+(1:Int)))<|r)))))
   else(if i<(2:Int)then(gd (afr (i+(1:Int)))<|r)else((abx FU (m.1,m.2.1,m.2.2.1,m.2.2.2.1,L,m.2.2.2.2.2) m).bind fun(t:Bool)=>(bif (!t)then some (.inr false)else(gd (afr (i+(1:Int)))<|r)))))=r:=by
 have hg:afr (i+1):=aht _ omg omg;have hln:=hm.1;have hfl:(m.2.2.2.2.1.filter fun h=> !nmP name h).length<=m.2.2.2.2.1.length:=List.length_filter_le _ _;by_cases hc:(aap name).2=0
 ·rw [if_pos hc,others_eq L name hn k.sm,zaa,others_eq _ name hn hm,zaa,k.same hc,same_eq _ (by dsimp only;omega),zaa,zbe,cond_false,aaf hg]
 ·rw [if_neg hc];by_cases h2:i<2
  ·rw [if_pos h2,aaf hg]
  ·rw [if_neg h2,k.bad hc omg];have e:abx FU (m.1,m.2.1,m.2.2.1,m.2.2.2.1,m.2.2.2.2.1,m.2.2.2.2.2) m=some true:=same_eq m omg;rw [e,zaa,zbe,cond_false,aaf hg]
theorem step_kp(m:MM)(name:Str)(hn:name.length<=4194303)(hm:Sm m.2.2.2.2.1)(A B C D:List HH)(hA:Kp m name 0 A)(hB:Kp m name 1 B)(hC:Kp m name 2 C)(hD:Kp m name 3 D)(fk:Nat)(i:Int)(h0:0<=i)(h4:i<4):
  aan FU m name (m.1,m.2.1,m.2.2.1,m.2.2.2.1,A,m.2.2.2.2.2) (m.1,m.2.1,m.2.2.1,m.2.2.2.1,B,m.2.2.2.2.2) (m.1,m.2.1,m.2.2.1,m.2.2.2.1,C,m.2.2.2.2.2) (m.1,m.2.1,m.2.2.1,m.2.2.2.1,D,m.2.2.2.2.2) (aap name) (fk+1) i=
  aan FU m name (m.1,m.2.1,m.2.2.1,m.2.2.2.1,A,m.2.2.2.2.2) (m.1,m.2.1,m.2.2.1,m.2.2.2.1,B,m.2.2.2.2.2) (m.1,m.2.1,m.2.2.1,m.2.2.2.1,C,m.2.2.2.2.2) (m.1,m.2.1,m.2.2.1,m.2.2.2.1,D,m.2.2.2.2.2) (aap name) fk (i+1):=by
 rw [adx,acb,if_pos h4,aaf ⟨h0,h4⟩];by_cases e0:i=0
 ·subst e0;rw [if_pos rfl];exact one_kp m name hn hm 0 omg omg A hA _
 ·rw [if_neg e0];by_cases e1:i=1
  ·subst e1;rw [if_pos rfl];exact one_kp m name hn hm 1 omg omg B hB _
  ·rw [if_neg e1];by_cases e2:i=2
   ·subst e2;rw [if_pos rfl];exact one_kp m name hn hm 2 omg omg C hC _
   ·obtain rfl:i=3:=by omega
    rw [if_neg e2];exact one_kp m name hn hm 3 omg omg D hD _
theorem loop_kp(m:MM)(name:Str)(hn:name.length<=4194303)(hm:Sm m.2.2.2.2.1)(A B C D:List HH)(hA:Kp m name 0 A)(hB:Kp m name 1 B)(hC:Kp m name 2 C)(hD:Kp m name 3 D):
  aan FU m name (m.1,m.2.1,m.2.2.1,m.2.2.2.1,A,m.2.2.2.2.2) (m.1,m.2.1,m.2.2.1,m.2.2.2.1,B,m.2.2.2.2.2) (m.1,m.2.1,m.2.2.1,m.2.2.2.1,C,m.2.2.2.2.2) (m.1,m.2.1,m.2.2.1,m.2.2.2.1,D,m.2.2.2.2.2) (aap name) FU (0:Int)=some (.inl ()):=by
 obtain⟨f,hf⟩:∃f,FU=f+5:=⟨FU-5,by rw [FU_eq]⟩
 have st:=step_kp m name hn hm A B C D hA hB hC hD;have s0:=st (f+4) 0 omg omg;have s1:=st (f+3) 1 omg omg;have s2:=st (f+2) 2 omg omg;have s3:=st (f+1) 3 omg omg;have e:∀x,aan FU m name (m.1,m.2.1,m.2.2.1,m.2.2.2.1,A,m.2.2.2.2.2) (m.1,m.2.1,m.2.2.1,m.2.2.2.1,B,m.2.2.2.2.2) (m.1,m.2.1,m.2.2.1,m.2.2.2.1,C,m.2.2.2.2.2) (m.1,m.2.1,m.2.2.1,m.2.2.2.1,D,m.2.2.2.2.2) (aap name) x (0:Int)=
  aan FU m name (m.1,m.2.1,m.2.2.1,m.2.2.2.1,A,m.2.2.2.2.2) (m.1,m.2.1,m.2.2.1,m.2.2.2.1,B,m.2.2.2.2.2) (m.1,m.2.1,m.2.2.1,m.2.2.2.1,C,m.2.2.2.2.2) (m.1,m.2.1,m.2.2.1,m.2.2.2.1,D,m.2.2.2.2.2) (aap name) x (0:Int):=fun _=>rfl
 refine(show _=aan FU m name (m.1,m.2.1,m.2.2.1,m.2.2.2.1,A,m.2.2.2.2.2) (m.1,m.2.1,m.2.2.1,m.2.2.2.1,B,m.2.2.2.2.2) (m.1,m.2.1,m.2.2.1,m.2.2.2.1,C,m.2.2.2.2.2) (m.1,m.2.1,m.2.2.1,m.2.2.2.1,D,m.2.2.2.2.2) (aap name) (f+5) (0:Int)from congrArg (fun x=>aan FU m name (m.1,m.2.1,m.2.2.1,m.2.2.2.1,A,m.2.2.2.2.2) (m.1,m.2.1,m.2.2.1,m.2.2.2.1,B,m.2.2.2.2.2) (m.1,m.2.1,m.2.2.1,m.2.2.2.1,C,m.2.2.2.2.2) (m.1,m.2.1,m.2.2.1,m.2.2.2.1,D,m.2.2.2.2.2) (aap name) x (0:Int)) hf).trans ?_
 refine s0.trans (s1.trans (s2.trans (s3.trans ?_)));rw [adx,acb,if_neg (by decide)]
theorem ix_out(p:HH->Bool)(l:List HH)(h:∀y∈l,p y=false):ixP p l= -1:=by
 by_cases hi:ixP p l= -1
 ·exact hi
 ·obtain⟨a,x,b,rfl,e2,e3,e4⟩:=aiy _ _ hi
  have:=h x (by simp)
  rw [this]at e3;cases e3
theorem ins_found(p:HH->Bool)(l:List HH)(i:Int)(x:HH)(hx:p x=true)(h:∀y∈l.take i.toNat,p y=false):0<=ixP p (aig l i x)/\el (aig l i x) (ixP p (aig l i x))=x:=by
 have e:ixP p (aig l i x)=((l.take i.toNat).length:Int):=ixP_app p _ x _ h hx;rw [e];exact⟨by omega,by unfold aig;simp [el]⟩
theorem out_of(p:HH->Bool)(l:List HH):∀y∈l.filter (fun h=> !p h),p y=false:=by
 intro y hy
 have:=(List.mem_filter.1 hy).2
 simpa using this
theorem push_out(p:HH->Bool)(l:List HH):∀y∈l.take (max (ixP p l) 0).toNat,p y=false:=by
 by_cases hi:ixP p l= -1
 ·intro y hy;rw [hi,show(max (-1:Int) 0).toNat=0 by decide,List.take_zero]at hy;cases hy
 ·obtain⟨a,x,b,rfl,e2,e3,e4⟩:=aiy _ _ hi;rw [e4,show(max (a.length:Int) 0).toNat=a.length by omega,zaW];exact e2
theorem df_hsz(l:List HH)(name:Str):hsz (dfP l name)<=3*hsz l+2:=by
 unfold dfP;by_cases hi:ixP (nmP name) l= -1
 ·rw [if_pos omg];omega
 ·obtain⟨a,x,b,rfl,e2,e3,e4⟩:=aiy _ _ hi;have he:el (a++x::b) (a.length:Int)=x:=by simp [el]
  rw [e4,if_neg omg,he,zaq];split
  ·rw [List.set_append_right _ _ (zab _),Nat.sub_self,List.set_cons_zero];have hj:=join_len3 [44,32] ((afs x.2).drop 1);have hz:=elemP_len x.2;have hz2:=szL_drop (afs x.2);unfold szL at hz hz2;unfold hsz;simp only [zbc,zao,List.sum_append,List.sum_cons,zaf,zbd]at*;omega
  ·unfold delL hsz;rw [zaq,zaW,show((a.length:Int)+1).toNat=a.length+1 by omega,List.drop_append,zba omg,show a.length+1-a.length=1 by omega,zaM,zbg,List.drop_zero];simp only [zbc,zao,List.sum_append,List.sum_cons];omega
theorem df_len(l:List HH)(name:Str):(dfP l name).length<=l.length:=by
 unfold dfP;split
 ·exact zab _
 ·split
  ·rw [List.length_set];exact zab _
  ·unfold delL
   have:=ixP_lt (nmP name) l
   rw [zae,zac,zaI];omega
theorem sm_ins{l:List HH}(i:Int)(x:HH)(h:Sm l)(hl:l.length<=100)(h1:x.1.length<=4194303)(h2:x.2.length<=4194303):Sm (aig l i x):=by
 refine⟨by rw [ail];omega,fun y hy=> ?_⟩
 unfold aig at hy;rcases List.mem_append.1 hy with hy|hy
 ·exact h.2 y (zaL hy)
 ·rcases List.mem_cons.1 hy with rfl|hy
  ·exact⟨h1,h2⟩
  ·exact h.2 y (List.mem_of_mem_drop hy)
theorem allP_len(name:Str):∀l:List HH,(allP l name).length<=hsz l+l.length
 |[]=>by simp [allP,hsz]
 |a::l=>by
  have h1:=vls_len name a;have h2:=allP_len name l;unfold szL at h1;unfold allP hsz at*;rw [zar,zae,zao,List.sum_cons,zaf];omega
theorem hsz_filter(p:HH->Bool):∀l:List HH,hsz (l.filter p)<=hsz l
 |[]=>zab _
 |a::l=>by
  have h2:=hsz_filter p l;unfold hsz at*;rw [zaH,zao,List.sum_cons];split
  ·rw [zao,List.sum_cons];omega
  ·omega
theorem get_yes(m:MM)(name value:Str)(hl:Sm m.2.2.2.2.1)(hn:name.length<=4194303)(h1:0<=ixP (nmP name) m.2.2.2.2.1)(h2:(el m.2.2.2.2.1 (ixP (nmP name) m.2.2.2.2.1)).2=value):adj FU m name=some (value,true):=by
 rw [mget_eq m name hl hn,if_neg omg,h2]
theorem get_no(m:MM)(name:Str)(hl:Sm m.2.2.2.2.1)(hn:name.length<=4194303)(h1:ixP (nmP name) m.2.2.2.2.1= -1):adj FU m name=some ([],false):=by
 rw [mget_eq m name hl hn,if_pos omg]
theorem all_is(m:MM)(name:Str)(l:List Str)(hl:Sm m.2.2.2.2.1)(hz:hsz m.2.2.2.2.1<=4194303)(hn:name.length<=4194303)(h:allP m.2.2.2.2.1 name=l):aee FU m name=some l:=by
 rw [all_eq m name hl hz hn,h]
theorem filter_bad(name:Str)(hc:¬(aap name).2=0)(l:List HH):l.filter (fun h=> !nmP name h)=l:=List.filter_eq_self.2 fun y _=>by rw [bad_none name hc y];rfl
theorem plain_MessageKeeps(m:Str×Str×Int×Str×List (Str×Str)×List UInt8)(name value:Str)(h:(m.2.2.2.2.1.map fun z=>z.1.length+z.2.length).sum+m.2.2.2.2.2.length+name.length+value.length<=1048576):aen FU m name value=some true:=by
 have h':hsz m.2.2.2.2.1+m.2.2.2.2.2.length+name.length+value.length<=1048576:=h;unfold aen;by_cases h0:(100:Int)<(m.2.2.2.2.1.length:Int)
 ·rw [if_pos h0]
 ·have hl:Sm m.2.2.2.2.1:=sm_of omg omg;have hn:name.length<=4194303:=by omega
  have hb:m.2.2.2.2.2.length<=4194304:=by omega
  have hln:=hl.1;have hf:(m.2.2.2.2.1.filter fun h=> !nmP name h).length<=m.2.2.2.2.1.length:=List.length_filter_le _ _;have hfu:=full_len name;have hF:Sm (m.2.2.2.2.1.filter fun h=> !nmP name h):=⟨by omega,fun y hy=>hl.2 y (List.mem_filter.1 hy).1⟩
  have hdz:=df_hsz m.2.2.2.2.1 name;have hdl:=df_len m.2.2.2.2.1 name;have hD:Sm (dfP m.2.2.2.2.1 name):=sm_of omg omg;have sA:=sm_ins (setI m.2.2.2.2.1 name) (fullP name,value) hF omg (by dsimp only;omega) (by dsimp only;omega);have sB:=sm_ins (max (ixP (nmP name) m.2.2.2.2.1) 0) (fullP name,value) hl omg (by dsimp only;omega) (by dsimp only;omega);have kA:Kp m name 0 (aig (m.2.2.2.2.1.filter fun h=> !nmP name h) (setI m.2.2.2.2.1 name) (fullP name,value)):=⟨sA,fun hc=>by rw [filter_ins _ _ _ _ (full_same name value hc),filter_idem],fun _ h=>by omega⟩
  have kB:Kp m name 1 (aig m.2.2.2.2.1 (max (ixP (nmP name) m.2.2.2.2.1) 0) (fullP name,value)):=⟨sB,fun hc=>filter_ins _ _ _ _ (full_same name value hc),fun _ h=>by omega⟩
  have kC:Kp m name 2 (m.2.2.2.2.1.filter fun h=> !nmP name h):=⟨hF,fun _=>filter_idem _ _,fun hc _=>filter_bad name hc _⟩
  have kD:Kp m name 3 (dfP m.2.2.2.2.1 name):=⟨hD,fun _=>df_filter _ _,fun hc _=>by
   unfold dfP;rw [if_pos (by rw [ix_out _ _ (fun y _=>bad_none name hc y)];omega)]⟩
  rw [if_neg h0,mset_eq m name value hl hb hn,zaa,mpush_eq m name value hl hb hn,zaa,mdrop_eq m name hl hb hn,zaa,mdf_eq m name hl hb hn,zaa,
   canon_eq name omg,zaa,loop_kp m name hn hl _ _ _ _ kA kB kC kD,zaa,zaZ]
  by_cases hc:(aap name).2=0
  ·have fA:=ins_found (nmP name) (m.2.2.2.2.1.filter fun h=> !nmP name h) (setI m.2.2.2.2.1 name) (fullP name,value) (full_same name value hc) (fun y hy=>out_of _ _ y (zaL hy));have fB:=ins_found (nmP name) m.2.2.2.2.1 (max (ixP (nmP name) m.2.2.2.2.1) 0) (fullP name,value) (full_same name value hc) (push_out _ _);have fC:=ix_out (nmP name) _ (out_of (nmP name) m.2.2.2.2.1);have aC:=all_none _ name (out_of (nmP name) m.2.2.2.2.1);have hzF:=hsz_filter (fun h=> !nmP name h) m.2.2.2.2.1;have zF:hsz (m.2.2.2.2.1.filter fun h=> !nmP name h)<=4194303:=zau hzF omg;have zD:hsz (dfP m.2.2.2.2.1 name)<=4194303:=zau hdz omg;have gA:=get_yes (m.1,m.2.1,m.2.2.1,m.2.2.2.1,aig (m.2.2.2.2.1.filter fun h=> !nmP name h) (setI m.2.2.2.2.1 name) (fullP name,value),m.2.2.2.2.2) name value sA hn fA.1 (congrArg Prod.snd fA.2);have gB:=get_yes (m.1,m.2.1,m.2.2.1,m.2.2.2.1,aig m.2.2.2.2.1 (max (ixP (nmP name) m.2.2.2.2.1) 0) (fullP name,value),m.2.2.2.2.2) name value sB hn fB.1 (congrArg Prod.snd fB.2);have gC:=get_no (m.1,m.2.1,m.2.2.1,m.2.2.2.1,m.2.2.2.2.1.filter (fun h=> !nmP name h),m.2.2.2.2.2) name hF hn fC;have gD:=all_is (m.1,m.2.1,m.2.2.1,m.2.2.2.1,m.2.2.2.2.1.filter (fun h=> !nmP name h),m.2.2.2.2.2) name [] hF zF hn aC;have gE:=all_is (m.1,m.2.1,m.2.2.1,m.2.2.2.1,dfP m.2.2.2.2.1 name,m.2.2.2.2.2) name _ hD zD hn (all_less _ _);rw [if_pos hc,gA,zaa,gB,zaa,gC,zaa,all_eq m name hl omg hn,zaa,gE,zaa];dsimp only;rw [zbe,cond_false,if_pos rfl,cond_false,if_pos rfl,cond_false,gD,zaa];rw [decide_eq_true (show(([]:List Str).length:Int)=0 from rfl),zbe,zaa,cond_false];have hal:(allP m.2.2.2.2.1 name).length<=4194304:=zau (allP_len name m.2.2.2.2.1) omg
   revert hal
   generalize allP m.2.2.2.2.1 name=al;intro hal;have hg:afr ((al.length:Int)-1):=⟨by omega,by omega⟩
   have hdr:(al.drop 1).length=al.length-1:=zaI;rw [aaf hg,hdr,if_pos omg];by_cases hz:((al.length-1:Nat):Int)=0
   ·rw [if_pos hz,zaa]
   ·rw [if_neg hz,aaf omg];have e:adm FU (zaE 1 al) (zaE (zah (1:Int)) al)=some true:=texts_eq _ (by rw [hdr];omega);rw [e,zaa,cond_true,zaa]
  ·rw [if_neg hc,aaf (aht _ omg omg)];dsimp only;rw [ail,ail,filter_bad name hc,if_pos omg,aaf (aht _ omg omg),if_pos omg,zaa]
end Go.Wk
