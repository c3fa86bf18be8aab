/-
  The law HeaderTagged (part 6 of 8).
-/
import Derived.Test.YtpbfkeakaefenaaGreatDoorTg5
set_option linter.unusedVariables false
set_option linter.unusedSimpArgs false
set_option maxRecDepth 100000
namespace Go.Wk
open Go.Px
open Bool renaming and_eq_true → zak, or_false → zbx
open Go.Lib renaming hasPrefix → zba, itoa → zaZ, trimPrefix → zas
open List renaming all_cons → zbh, any_cons → zbs, append_assoc → zaq, append_nil → zam, cons_append → zaY, eq_nil_of_length_eq_zero → zao, flatMap_cons → zar, length_append → zac, length_cons → zad, length_nil → zal, mem_cons_self → zah, nil_append → zaB, singleton_append → zbt
open Nat renaming add_zero → zaM, le_refl → zap
theorem utlA(st s A X Y:Str)(h:s=A++(X++Y))(hX:∀c∈X,apy st c=false)(hY:∀c,Y.head? =some c→apy st c=true):utl st s A.length=A.length+X.length:=by
 subst h
 unfold utl
 rw [List.drop_left,span_app _ _ _ (by rw [List.all_eq_true];intro c hc;rw [hX c hc];rfl),aqa _ _ (fun c hc=>by rw [hY c hc];rfl),zaM]
theorem len2(A X:Str):A.length+X.length=(A++X).length:=List.length_append.symm
theorem snoc1(A:Str)(c:UInt8):A.length+1=(A++[c]).length:=by rw [zac];rfl
theorem fldNA(X Y:Str)(hX:∀c∈X,(!(c==61))=true)(hY:∀c,Y.head? =some c→c=61):aqr (X++Y)=X.length:=by
 unfold aqr
 rw [span_app _ _ _ (List.all_eq_true.2 hX),aqa _ _ (fun c hc=>by rw [hY c hc];rfl),zaM]
theorem e61(k:Int)(hk:k=1∨k=2)(s:Str):∀c∈aoc k s,(!(c==61))=true:=by
 rcases hk with rfl|rfl
 ·exact esc_mem 1 _ (aae _ (by decide+kernel)) (by decide) (aae _ (by decide+kernel)) s
 ·exact esc_mem 2 _ (aae _ (by decide+kernel)) (by decide) (aae _ (by decide+kernel)) s
theorem esc_nil(k:Int)(hk:k=0∨k=1∨k=2)(s:Str)(hc:aoe s=true):aoc k s=[]↔s=[]:=by
 have:=conP_nil k (aoc k s) (esc_ok k hk s hc).1
 rw [(esc_ok k hk s hc).2]at this
 exact this.symm
theorem fld_txt(k:Int)(hk:k=1∨k=2)(l:List PP)(p:PP)(hp:okQ k p)(hh:p.2.2=true):fldP k l (aoc k p.1++61::aoc k p.2.1)=(apm l p.1,p):=by
 have hk3:k=0∨k=1∨k=2:=.inr hk
 obtain⟨q1,q2,q3,q4,q5,q6⟩:=hp
 obtain⟨a1,a2⟩:=esc_ok k hk3 p.1 q3
 obtain⟨b1,b2⟩:=esc_ok k hk3 p.2.1 q4
 have hn:aqr (aoc k p.1++61::aoc k p.2.1)=(aoc k p.1).length:=fldNA _ _ (e61 k hk p.1) (fun c hc=>by simpa using hc.symm)
 have hne:¬(aoc k p.1).length=0:=fun e=>q1 ((esc_nil k hk3 p.1 q3).1 (zao e))
 have hd:(aoc k p.1++61::aoc k p.2.1).drop ((aoc k p.1).length+1)=aoc k p.2.1:=by
  rw [←List.drop_drop,List.drop_left];rfl
 have hx:¬(aoc k p.2.1=[]∧k=1):=by
  rintro⟨h1,h2⟩
  have h3:=(esc_nil k hk3 p.2.1 q4).1 h1
  have:=q5 h2
  rw [hh,h3]at this
  exact absurd this (by decide)
 unfold fldP
 rw [hn,List.take_left,a1]
 simp only
 rw [if_neg hne,if_pos (by rw [zac,zad];omega),hd,b1]
 simp only
 rw [if_neg hx,a2,b2,q2]
 have:p=(p.1,p.2.1,true):=by rw [←hh]
 rw [←this]
theorem fld_txt0(l:List PP)(p:PP)(hp:okQ 1 p)(hh:p.2.2=false):fldP 1 l (aoc 1 p.1)=(apm l p.1,p):=by
 have hk3:(1:Int)=0∨(1:Int)=1∨(1:Int)=2:=.inr (.inl rfl)
 obtain⟨q1,q2,q3,q4,q5,q6⟩:=hp
 obtain⟨a1,a2⟩:=esc_ok 1 hk3 p.1 q3
 have hn:aqr (aoc 1 p.1)=(aoc 1 p.1).length:=by
  have:=fldNA (aoc 1 p.1) [] (e61 1 (.inl rfl) p.1) (fun c hc=>by simp at hc)
  rw [zam]at this
  exact this
 have hne:¬(aoc 1 p.1).length=0:=fun e=>q1 ((esc_nil 1 hk3 p.1 q3).1 (zao e))
 have hv:p.2.1=[]:=by
  have:=q5 rfl
  rw [hh]at this
  simpa using this.symm
 unfold fldP
 rw [hn,List.take_length,a1]
 simp only
 rw [if_neg hne,if_neg (Nat.lt_irrefl _),if_neg (by decide),a2,q2]
 have:p=(p.1,[],false):=by rw [←hh,←hv]
 rw [←this]
theorem fld_par1(l:List PP)(p:PP)(hp:okQ 1 p):fldP 1 l (par1 p)=(apm l p.1,p):=by
 unfold par1
 cases hh:p.2.2 with
 |true=>rw [cond_true];exact fld_txt 1 (.inl rfl) l p hp hh
 |false=>rw [cond_false,zam];exact fld_txt0 l p hp hh
theorem fld_hd1(l:List PP)(p:PP)(hp:okQ 2 p):fldP 2 l (hd1T p)=(apm l p.1,p):=fld_txt 2 (.inr rfl) l p hp (hp.2.2.2.2.2 rfl)
theorem par1_mem(q:UInt8→Bool)(h1:∀c,inC c 1=true→q c=true)(h2:q 37=true)(h3:∀c:UInt8,q (aty (c.toNat/16))=true∧q (aty (c.toNat%16))=true)(h4:q 61=true)(p:PP):∀c∈par1 p,q c=true:=by
 intro c hc
 unfold par1 at hc
 rcases List.mem_append.1 hc with h|h
 ·exact esc_mem 1 q h1 h2 h3 _ c h
 ·cases hh:p.2.2 with
  |true=>
   rw [hh,cond_true]at h
   rcases List.mem_cons.1 h with h|h
   ·rw [h];exact h4
   ·exact esc_mem 1 q h1 h2 h3 _ c h
  |false=>rw [hh,cond_false]at h;cases h
theorem hd1_mem(q:UInt8→Bool)(h1:∀c,inC c 2=true→q c=true)(h2:q 37=true)(h3:∀c:UInt8,q (aty (c.toNat/16))=true∧q (aty (c.toNat%16))=true)(h4:q 61=true)(p:PP):∀c∈hd1T p,q c=true:=by
 intro c hc
 unfold hd1T at hc
 rcases List.mem_append.1 hc with h|h
 ·exact esc_mem 2 q h1 h2 h3 _ c h
 ·rcases List.mem_cons.1 h with h|h
  ·rw [h];exact h4
  ·exact esc_mem 2 q h1 h2 h3 _ c h
theorem pars_mem(q:UInt8→Bool)(h1:∀c,inC c 1=true→q c=true)(h2:q 37=true)(h3:∀c:UInt8,q (aty (c.toNat/16))=true∧q (aty (c.toNat%16))=true)(h4:q 61=true)(h5:q 59=true)(l:List PP):∀c∈amf l,q c=true:=by
 intro c hc
 unfold amf at hc
 obtain⟨p,_,hp⟩:=List.mem_flatMap.1 hc
 rcases List.mem_cons.1 hp with h|h
 ·rw [h];exact h5
 ·exact par1_mem q h1 h2 h3 h4 p c h
theorem hds2_mem(q:UInt8→Bool)(h1:∀c,inC c 2=true→q c=true)(h2:q 37=true)(h3:∀c:UInt8,q (aty (c.toNat/16))=true∧q (aty (c.toNat%16))=true)(h4:q 61=true)(h5:q 38=true)(l:List PP):∀c∈hds2 l,q c=true:=by
 intro c hc
 unfold hds2 at hc
 obtain⟨p,_,hp⟩:=List.mem_flatMap.1 hc
 rcases List.mem_cons.1 hp with h|h
 ·rw [h];exact h5
 ·exact hd1_mem q h1 h2 h3 h4 p c h
theorem hdsT_mem(q:UInt8→Bool)(h1:∀c,inC c 2=true→q c=true)(h2:q 37=true)(h3:∀c:UInt8,q (aty (c.toNat/16))=true∧q (aty (c.toNat%16))=true)(h4:q 61=true)(h5:q 38=true)(h6:q 63=true)(l:List PP):∀c∈hdsT l,q c=true:=by
 intro c hc
 cases l with
 |nil=>cases hc
 |cons p l=>
  unfold hdsT at hc
  rcases List.mem_cons.1 hc with h|h
  ·rw [h];exact h6
  ·rcases List.mem_append.1 h with h|h
   ·exact hd1_mem q h1 h2 h3 h4 p c h
   ·exact hds2_mem q h1 h2 h3 h4 h5 l c h
theorem pars_head(l:List PP)(Z:Str)(hZ:∀c,Z.head? =some c→c=63):∀c,(amf l++Z).head? =some c→c=59∨c=63:=by
 intro c hc
 cases l with
 |nil=>exact .inr (hZ c hc)
 |cons p l=>
  unfold amf at hc
  rw [zar,zaY,zaY,List.head?_cons]at hc
  exact .inl (Option.some.inj hc).symm
theorem hds_head(l:List PP):∀c,(hdsT l).head? =some c→c=63:=by
 intro c hc
 cases l with
 |nil=>cases hc
 |cons p l=>unfold hdsT at hc;rw [List.head?_cons]at hc;exact(Option.some.inj hc).symm
theorem hds2_head(l:List PP):∀c,(hds2 l).head? =some c→c=38:=by
 intro c hc
 cases l with
 |nil=>cases hc
 |cons p l=>unfold hds2 at hc;rw [zar,zaY,List.head?_cons]at hc;exact(Option.some.inj hc).symm
theorem room_dst(pre r:List PP)(p:PP)(hd:dstN (pre++p::r))(hl:pre.length+(r.length+1)≤16):apm pre p.1=0:=by
 unfold apm
 unfold dstN at hd
 rw [List.pairwise_append]at hd
 rw [if_neg,if_neg (by omega)]
 intro h
 rw [List.any_eq_true]at h
 obtain⟨q,hq,he⟩:=h
 exact hd.2.2 q hq p zah (eq_of_beq he)
theorem plLA(st s:Str)(hst:∀p:PP,∀c∈par1 p,apy st c=false)(h59:apy st 59=true)(Z:Str)(hZ:∀c,Z.head? =some c→c≠59∧apy st c=true):∀(r pre:List PP) (A:Str) (f:Nat),s=A++(amf r++Z)→LS 1 (pre++r)→pre.length+r.length≤16→r.length<f→
  plL st s f A.length pre=(0,A.length+(amf r).length,pre++r)
 |[],pre,A,f,h,hL,hl,hf=>by
  obtain⟨f,rfl⟩:∃m,f=m+1:=⟨f-1,by omega⟩
  have h0:amf []=[]:=rfl
  rw [h0,zaB]at h
  have hs:aea s A.length 59=false:=by
   rw [seesA s A Z 59 h]
   exact decide_eq_false (fun e=>(hZ 59 e).1 rfl)
  rw [plL,hs,if_neg (by decide),h0,zam];rfl
 |p::r,pre,A,f,h,hL,hl,hf=>by
  obtain⟨f,rfl⟩:∃m,f=m+1:=⟨f-1,by omega⟩
  have he:amf (p::r)=59::(par1 p++amf r):=by unfold amf;rw [zar];rfl
  rw [he]at h⊢
  have h1:s=A++(59::(par1 p++(amf r++Z))):=by rw [h];simp
  have h2:s=(A++[59])++(par1 p++(amf r++Z)):=by rw [h];simp
  have h3:s=((A++[59])++par1 p)++(amf r++Z):=by rw [h];simp
  have hs:aea s A.length 59=true:=by rw [seesA s A _ 59 h1];exact decide_eq_true rfl
  have hp:okQ 1 p:=hL.2 p (by simp)
  have hu:utl st s (A.length+1)=(A++[59]).length+(par1 p).length:=by
   rw [snoc1 A 59]
   refine utlA st s (A++[59]) (par1 p) (amf r++Z) h2 (hst p) (fun c hc=> ?_)
   cases r with
   |nil=>exact(hZ c hc).2
   |cons q r=>unfold amf at hc;rw [zar,zaY,zaY,List.head?_cons]at hc;rw [←Option.some.inj hc];exact h59
  have hsub:sub s ((A.length+1:Nat):Int) (utl st s (A.length+1):Int)=par1 p:=by
   rw [hu,snoc1 A 59]
   exact subA s (A++[59]) (par1 p) _ h2
  have hr:=room_dst pre r p hL.1 (by simp only [zad]at hl;omega)
  have hF:fldP 1 pre (par1 p)=(0,p):=by rw [fld_par1 pre p hp,hr]
  rw [plL,hs,if_pos rfl,hsub,hF,if_pos rfl,hu,len2]
  have:=plLA st s hst h59 Z hZ r (pre++[p]) ((A++[59])++par1 p) f h3 (by rw [zaq];exact hL) (by simp only [zac,zad,zal]at hl⊢;omega) (by simp only [zad]at hf;omega)
  rw [this]
  simp only [zac,zad,zal,zaq,zbt]
  congr 2
  omega
theorem hdStep(s:Str)(p:PP)(c0:UInt8)(Z:Str)(hZ:∀c,Z.head? =some c→c=38)(A:Str)(pre:List PP)(f:Nat)(h:s=A++(c0::(hd1T p++Z)))(hp:okQ 2 p)(hr:apm pre p.1=0):
  hdL s (f+1) A.length pre=hdL s f ((A++[c0])++hd1T p).length (pre++[p]):=by
 have h2:s=(A++[c0])++(hd1T p++Z):=by rw [h];simp
 have h38:∀c∈hd1T p,apy [38] c=false:=by
  intro c hc
  have:=hd1_mem (fun c=> !(apy [38] c)) (aae _ (by decide+kernel)) (by decide) (aae _ (by decide+kernel)) (by decide) p c hc
  simpa using this
 have hu:utl [38] s (A.length+1)=(A++[c0]).length+(hd1T p).length:=by
  rw [snoc1 A c0]
  exact utlA [38] s (A++[c0]) (hd1T p) Z h2 h38 (fun c hc=>by rw [hZ c hc];decide)
 have hsub:sub s ((A.length+1:Nat):Int) (utl [38] s (A.length+1):Int)=hd1T p:=by
  rw [hu,snoc1 A c0]
  exact subA s (A++[c0]) (hd1T p) _ h2
 have hF:fldP 2 pre (hd1T p)=(0,p):=by rw [fld_hd1 pre p hp,hr]
 rw [hdL,if_pos (by rw [h,zac,zad];omega),hsub,hF,if_pos rfl,hu,len2]
theorem hdLA2(s:Str):∀(r pre:List PP) (A:Str) (f:Nat),s=A++hds2 r→LS 2 (pre++r)→pre.length+r.length≤16→r.length<f→
  hdL s f A.length pre=(0,pre++r)
 |[],pre,A,f,h,hL,hl,hf=>by
  obtain⟨f,rfl⟩:∃m,f=m+1:=⟨f-1,by omega⟩
  have h0:hds2 []=[]:=rfl
  rw [h0,zam]at h
  rw [hdL,if_neg (by rw [h];omega),zam]
 |p::r,pre,A,f,h,hL,hl,hf=>by
  obtain⟨f,rfl⟩:∃m,f=m+1:=⟨f-1,by omega⟩
  have he:hds2 (p::r)=38::(hd1T p++hds2 r):=by unfold hds2;rw [zar];rfl
  rw [he]at h
  rw [hdStep s p 38 (hds2 r) (hds2_head r) A pre f h (hL.2 p (by simp)) (room_dst pre r p hL.1 (by simp only [zad]at hl;omega)),
   hdLA2 s r (pre++[p]) ((A++[38])++hd1T p) f (by rw [h];simp) (by rw [zaq];exact hL) (by simp only [zac,zad,zal]at hl⊢;omega) (by simp only [zad]at hf;omega),zaq];rfl
theorem hdLA(s:Str)(r:List PP)(A:Str)(f:Nat)(h:s=A++hdsT r)(hL:LS 2 r)(hl:r.length≤16)(hf:r.length<f):hdL s f A.length []=(0,r):=by
 cases r with
 |nil=>
  obtain⟨f,rfl⟩:∃m,f=m+1:=⟨f-1,by omega⟩
  have h0:hdsT []=[]:=rfl
  rw [h0,zam]at h
  rw [hdL,if_neg (by rw [h];omega)]
 |cons p r=>
  obtain⟨f,rfl⟩:∃m,f=m+1:=⟨f-1,by omega⟩
  unfold hdsT at h
  rw [hdStep s p 63 (hds2 r) (hds2_head r) A [] f h (hL.2 p (by simp)) (room_dst [] r p hL.1 (by simp only [zal,zad]at hl⊢;omega)),
   hdLA2 s r ([]++[p]) ((A++[63])++hd1T p) f (by rw [h];simp) hL (by simp only [zac,zad,zal]at hl⊢;omega) (by simp only [zad]at hf;omega)];rfl
theorem parsT_ge:∀l:List PP,l.length≤(amf l).length
 |[]=>zap _
 |p::l=>by
  have:=parsT_ge l
  have he:amf (p::l)=59::(par1 p++amf l):=by unfold amf;rw [zar];rfl
  rw [he,zad,zad,zac];omega
theorem hds2_ge:∀l:List PP,l.length≤(hds2 l).length
 |[]=>zap _
 |p::l=>by
  have:=hds2_ge l
  have he:hds2 (p::l)=38::(hd1T p++hds2 l):=by unfold hds2;rw [zar];rfl
  rw [he,zad,zad,zac];omega
theorem hdsT_ge(l:List PP):l.length≤(hdsT l).length:=by
 have:=hds2_ge l
 cases l with
 |nil=>exact zap _
 |cons p l=>
  have he:hds2 (p::l)=38::(hd1T p++hds2 l):=by unfold hds2;rw [zar];rfl
  rw [he]at this
  unfold hdsT
  exact this
theorem restA(st s:Str)(hst:∀p:PP,∀c∈par1 p,apy st c=false)(h59:apy st 59=true)(A sch us h:Str)(port:Int)(P H:List PP)(hs:s=A++(amf P++hdsT H))(h63:H=[]∨apy st 63=true)(hP:LS 1 P)(hH:LS 2 H)(pl:P.length≤16)(hl:H.length≤16)(pi:agl P=P)(hi:agl H=H):
  restP st s sch us h port A.length=(0,(sch,us,h,port,P,H)):=by
 have g1:=parsT_ge P
 have g2:=hdsT_ge H
 have hlen:s.length=A.length+((amf P).length+(hdsT H).length):=by rw [hs,zac,zac]
 have e1:=plLA st s hst h59 (hdsT H) (fun c hc=>by
  have:=hds_head H c hc
  subst this
  refine⟨by decide, ?_⟩
  rcases h63 with h|h
  ·rw [h]at hc;cases hc
  ·exact h) P [] A (s.length+1) hs hP (by simpa using pl) (by omega)
 have e2:=hdLA s H (A++amf P) (s.length+1) (by rw [hs,zaq]) hH hl (by omega)
 rw [zac]at e2
 unfold restP
 rw [e1]
 dsimp only
 rw [e2]
 dsimp only
 rw [if_pos rfl,if_pos rfl,zaB,pi,hi]
theorem host63(s:Str):∀c∈(afi s).1,(!(c==63))=true:=hostP_q _ (aae _ (by decide+kernel)) (by decide) (by decide) (by decide) (by decide) (by decide) (aae _ (by decide+kernel)) (aae _ (by decide+kernel)) s
theorem host64(s:Str):∀c∈(afi s).1,(!(c==64))=true:=hostP_q _ (aae _ (by decide+kernel)) (by decide) (by decide) (by decide) (by decide) (by decide) (aae _ (by decide+kernel)) (aae _ (by decide+kernel)) s
theorem hEndA(s A H Z:Str)(h:s=A++(H++Z))(hH:afi H=(H,true))(hZ:∀c,Z.head? =some c→c=58∨c=59∨c=63):hEnd s A.length=A.length+H.length:=by
 have hne:H≠[]:=by have:=host_ne' H (by rw [hH]);rw [hH]at this;exact this
 have hsees:=seesA s A (H++Z) 91 h
 rw [head_app _ _ hne]at hsees
 unfold hEnd
 by_cases h91:H.head? =some 91
 ·rw [hsees,decide_eq_true h91,if_pos rfl]
  have hat:at_ H 0=91:=by
   cases H with
   |nil=>cases h91
   |cons c H=>rw [List.head?_cons]at h91;exact Option.some.inj h91
  have hb:brV H=true:=by unfold brV;rw [hH,hat];simp
  obtain⟨g,e,hg⟩:=brV_form H hb
  have hu:utl [93] s A.length=A.length+(91::g).length:=by
   refine utlA [93] s A (91::g) (93::Z) (by rw [h,e];simp) (fun c hc=> ?_) (fun c hc=>by rw [List.head?_cons]at hc;rw [←Option.some.inj hc];decide)
   rcases List.mem_cons.1 hc with h|h
   ·rw [h];decide
   ·have:=hg c h
    unfold apy
    simp only [zbs,List.any_nil,zbx]
    have h2:¬c=93:=by simpa using this
    exact beq_eq_false_iff_ne.2 (fun e=>h2 e.symm)
  have hHl:H.length=(91::g).length+1:=by rw [e];simp
  have hs:s.length=A.length+(H.length+Z.length):=by rw [h,zac,zac]
  rw [hu];omega
 ·rw [hsees,decide_eq_false h91,if_neg (by decide)]
  refine utlA [58,59,63] s A H Z h (fun c hc=> ?_) (fun c hc=>by rcases hZ c hc with h|h|h<;>subst h<;>decide)
  have hf:=host_form H (by rw [hH])
  have h1:=host_sep H
  have h2:=host63 H
  rw [hH]at hf h1 h2
  have h3:c≠58:=by
   rcases hf with⟨g,e⟩|hf
   ·exfalso
    apply h91
    have e':H=[91]++g++[93]:=e
    rw [e'];rfl
   ·exact(hf c hc).1
  have h1c:=h1 c hc
  have h2c:=h2 c hc
  revert h1c h2c h3
  revert c
  exact fun c _=>aae (fun c=>c≠58→(!sepB c)=true→(!(c==63))=true→apy [58,59,63] c=false) (by decide+kernel) c
theorem portQA(n:Int)(h0:0≤n)(h:n≤65535)(hn:¬n=0):portQ (zaZ n)=(n,0):=by
 obtain⟨e,_,_,_⟩:=atg n h0 h
 unfold portQ
 rw [e,if_neg (by rintro⟨_,h|h⟩<;>dsimp only at h<;>omega)]
theorem hpA(s A H R:Str)(n:Int)(h:s=A++(H++(ptT n++R)))(hH:afi H=(H,true))(h0:0≤n)(h1:n≤65535)(hR:∀c,R.head? =some c→c=59∨c=63):hpP s A.length=(0,H,n,A.length+H.length+(ptT n).length):=by
 have hE:=hEndA s A H (ptT n++R) h hH (by
  intro c hc
  unfold ptT at hc
  split at hc
  ·exact .inr (hR c hc)
  ·exact .inl (Option.some.inj hc).symm)
 have hsub:sub s (A.length:Int) ((A.length+H.length:Nat):Int)=H:=subA s A H _ h
 have h2:s=(A++H)++(ptT n++R):=by rw [h,zaq]
 have hsl:s.length=A.length+(H.length+((ptT n).length+R.length)):=by rw [h];simp only [zac]
 unfold hpP
 rw [hE,hsub,hH]
 simp only
 rw [if_neg (by decide)]
 by_cases hn:n=0
 ·have hp:ptT n=[]:=if_pos hn
  rw [hp,zaB]at h2
  have s58:aea s (A.length+H.length) 58=false:=by
   rw [len2,seesA s (A++H) R 58 h2]
   exact decide_eq_false (fun e=>by rcases hR 58 e with h|h<;>exact absurd h (by decide))
  rw [s58,if_neg (by decide),hp,hn,if_neg]
  ·rfl
  ·rintro⟨a,b,c⟩
   rw [len2,seesA s (A++H) R 59 h2]at b
   rw [len2,seesA s (A++H) R 63 h2]at c
   rw [hp,zal]at hsl
   cases R with
   |nil=>rw [zal]at hsl;omega
   |cons d R=>
    rcases hR d rfl with h|h
    ·subst h;exact absurd b (by simp)
    ·subst h;exact absurd c (by simp)
 ·have hp:ptT n=58::zaZ n:=if_neg hn
  obtain⟨_,_,_,hd⟩:=atg n h0 h1
  rw [hp]at h2
  have s58:aea s (A.length+H.length) 58=true:=by
   rw [len2,seesA s (A++H) _ 58 h2]
   exact decide_eq_true rfl
  have h3:s=((A++H)++[58])++(zaZ n++R):=by rw [h2];simp
  have hu:utl [59,63] s (A.length+H.length+1)=((A++H)++[58]).length+(zaZ n).length:=by
   rw [len2,snoc1 (A++H) 58]
   refine utlA [59,63] s _ (zaZ n) R h3 (fun c hc=> ?_) (fun c hc=>by rcases hR c hc with h|h<;>subst h<;>decide)
   have:=List.all_eq_true.1 hd c hc
   revert this
   revert c
   exact fun c _=>aae (fun c=>acf c=true→apy [59,63] c=false) (by decide+kernel) c
  have hsub2:sub s ((A.length+H.length+1:Nat):Int) (utl [59,63] s (A.length+H.length+1):Int)=zaZ n:=by
   rw [hu,len2,snoc1 (A++H) 58]
   exact subA s _ (zaZ n) R h3
  rw [s58,if_pos rfl,hsub2,portQA n h0 h1 hn,if_pos rfl,hu,hp]
  simp only [zac,zad,zal]
  congr 3
  omega
theorem plA(s A us H R:Str)(n:Int)(h:s=A++((if us=[]then []else aoc 0 us++[64])++(H++(ptT n++R))))(hH:afi H=(H,true))(h0:0≤n)(h1:n≤65535)(hR:∀c,R.head? =some c→c=59∨c=63)(hR2:∀c∈R,(!(c==64))=true)(hc:aoe us=true):
  plP s A.length=(0,us,H,n,A.length+(if us=[]then []else aoc 0 us++[64]:Str).length+H.length+(ptT n).length):=by
 unfold plP
 by_cases hu:us=[]
 ·rw [if_pos hu]at h⊢
  rw [zaB]at h
  have h2:s=A++((H++(ptT n++R))++[]):=by rw [h,zam]
  have hut:utl [64] s A.length=A.length+(H++(ptT n++R)).length:=by
   refine utlA [64] s A _ [] h2 (fun c hc=> ?_) (fun c hc=>by cases hc)
   have hh:=host64 H
   rw [hH]at hh
   have hq:(!(c==64))=true:=by
    rcases List.mem_append.1 hc with h|h
    ·exact hh c h
    ·rcases List.mem_append.1 h with h|h
     ·unfold ptT at h
      split at h
      ·cases h
      ·rcases List.mem_cons.1 h with h|h
       ·rw [h];decide
       ·have:=List.all_eq_true.1 (atg n h0 h1).2.2.2 c h
        revert this
        exact aae (fun c=>acf c=true→(!(c==64))=true) (by decide+kernel) c
     ·exact hR2 c h
   have h2:¬c=64:=by simpa using hq
   unfold apy
   simp only [zbs,List.any_nil,zbx]
   exact beq_eq_false_iff_ne.2 (fun e=>h2 e.symm)
  have hlen:s.length=A.length+(H++(ptT n++R)).length:=by rw [h,zac]
  rw [if_neg (by rw [hut,hlen];exact Nat.lt_irrefl _),hpA s A H R n h hH h0 h1 hR,hu];rfl
 ·rw [if_neg hu]at h⊢
  have h2:s=A++(aoc 0 us++(64::(H++(ptT n++R)))):=by rw [h];simp
  have h3:s=(A++aoc 0 us++[64])++(H++(ptT n++R)):=by rw [h];simp
  have hut:utl [64] s A.length=A.length+(aoc 0 us).length:=by
   refine utlA [64] s A _ _ h2 (fun c hc=> ?_) (fun c hc=>by rw [←Option.some.inj hc];decide)
   have:=esc_mem 0 (fun c=> !(apy [64] c)) (aae _ (by decide+kernel)) (by decide) (aae _ (by decide+kernel)) us c hc
   simpa using this
  have hsub:sub s (A.length:Int) ((A.length+(aoc 0 us).length:Nat):Int)=aoc 0 us:=subA s A _ _ h2
  obtain⟨a1,a2⟩:=esc_ok 0 (.inl rfl) us hc
  have hus:usrP (aoc 0 us)=(0,us):=by
   unfold usrP
   rw [a1]
   simp only
   rw [if_neg (fun e=>hu ((esc_nil 0 (.inl rfl) us hc).1 e)),a2]
  have hlt:A.length+(aoc 0 us).length<s.length:=by rw [h2,zac,zac,zad];omega
  have hoff:A.length+(aoc 0 us).length+1=(A++aoc 0 us++[64]).length:=by simp only [zac,zad,zal]
  rw [hut,if_pos hlt,hsub,hus,if_pos rfl,hoff,hpA s _ H R n h3 hH h0 h1 hR]
  simp only
  congr 4
  simp only [zac,zad,zal];omega
theorem keepN_id(sg:Bool):∀d:Str,d.all (dialB sg)=true→asq sg d=some d
 |[],_=>rfl
 |c::d,h=>by
  rw [zbh,zak]at h
  rw [asq,if_pos h.1,keepN_id sg d h.2];rfl
theorem dial_mem(u:Str)(h:dialL u=true):∀c∈u,(!(c==59))=true∧(!(c==62))=true:=by
 unfold dialL at h
 simp only [zak]at h
 have ha:=h.2
 intro c hc
 have hd:∀sg c,dialB sg c=true→(!(c==59))=true∧(!(c==62))=true:=by intro sg;cases sg<;>exact aae _ (by decide+kernel)
 cases u with
 |nil=>cases hc
 |cons a u=>
  by_cases h43:a=43
  ·subst h43
   have e1:zas (43::u) [43]=u:=by unfold zas zba;simp
   rw [e1]at ha
   rcases List.mem_cons.1 hc with h|h
   ·rw [h];decide
   ·exact hd _ c (List.all_eq_true.1 ha c h)
  ·have h2:¬(43:UInt8)=a:=fun e=>h43 e.symm
   have e1:zas (a::u) [43]=a::u:=by unfold zas zba;simp [h2]
   rw [e1]at ha
   exact hd _ c (List.all_eq_true.1 ha c hc)
theorem dial_ne(u:Str)(h:dialL u=true):u≠[]:=fun e=>by rw [e]at h;exact absurd h (by decide)
theorem telA(s A us Z:Str)(h:s=A++(us++Z))(hZ:∀c,Z.head? =some c→c=59)(hd:dialL us=true):telP s A.length=(0,us)∧utl [59] s A.length=A.length+us.length:=by
 have hne:=dial_ne us hd
 have hut:utl [59] s A.length=A.length+us.length:=by
  refine utlA [59] s A us Z h (fun c hc=> ?_) (fun c hc=>by rw [hZ c hc];decide)
  have h2:¬c=59:=by simpa using (dial_mem us hd c hc).1
  unfold apy
  simp only [zbs,List.any_nil,zbx]
  exact beq_eq_false_iff_ne.2 (fun e=>h2 e.symm)
 refine⟨?_,hut⟩
 unfold telP
 rw [hut]
 have hsees:=seesA s A (us++Z) 43 h
 rw [head_app _ _ hne]at hsees
 unfold dialL at hd
 simp only [zak,Bool.not_eq_true',decide_eq_false_iff_not,decide_eq_true_eq]at hd
 obtain⟨⟨d1,d2⟩,d3⟩:=hd
 cases us with
 |nil=>exact absurd rfl hne
 |cons a u=>
  by_cases h43:a=43
  ·subst h43
   have e1:zas (43::u) [43]=u:=by unfold zas zba;simp
   have e2:zba (43::u) [43]=true:=by unfold zba;simp
   rw [e1]at d1 d2 d3
   rw [e2]at d3
   have h3:s=(A++[43])++(u++Z):=by rw [h];simp
   have hsub:sub s ((A.length+1:Nat):Int) ((A.length+(43::u).length:Nat):Int)=u:=by
    have:=subA s (A++[43]) u Z h3
    rw [←snoc1,show A.length+1+u.length=A.length+(43::u).length by rw [zad];omega]at this
    exact this
   rw [hsees,List.head?_cons,decide_eq_true rfl,if_pos rfl,hsub,keepN_id true u d3]
   dsimp only
   rw [if_neg d1,if_neg (by omega),if_pos rfl]
  ·have h2:¬(43:UInt8)=a:=fun e=>h43 e.symm
   have e1:zas (a::u) [43]=a::u:=by unfold zas zba;simp [h2]
   have e2:zba (a::u) [43]=false:=by
    show((43:UInt8)==a&&([]:Str).isPrefixOf u)=false
    rw [beq_eq_false_iff_ne.2 h2];rfl
   rw [e1]at d1 d2 d3
   rw [e2]at d3
   have hsub:sub s (A.length:Int) ((A.length+(a::u).length:Nat):Int)=a::u:=subA s A (a::u) Z h
   rw [hsees,List.head?_cons,decide_eq_false (fun e=>h43 (Option.some.inj e)),if_neg (by decide),hsub,keepN_id false _ d3]
   dsimp only
   rw [if_neg d1,if_neg (by omega),if_neg (by decide)]
theorem par59(st:Str)(hst:st=[59]∨st=[59,63])(p:PP):∀c∈par1 p,apy st c=false:=by
 intro c hc
 have:(!(apy st c))=true:=by
  rcases hst with rfl|rfl
  ·exact par1_mem (fun c=> !(apy [59] c)) (aae _ (by decide+kernel)) (by decide) (aae _ (by decide+kernel)) (by decide) p c hc
  ·exact par1_mem (fun c=> !(apy [59,63] c)) (aae _ (by decide+kernel)) (by decide) (aae _ (by decide+kernel)) (by decide) p c hc
 simpa using this
theorem sch_form(u:UU)(hg:Good u)(R:Str):utl [58] (u.1++(58::R)) 0=u.1.length∧aaj ((u.1++(58::R)).take u.1.length)=u.1:=by
 have h:u.1=SIP∨u.1=SIPS∨u.1=TEL:=by
  rcases hg.sch with⟨h|h,_⟩|⟨h,_⟩
  ·exact .inl h
  ·exact .inr (.inl h)
  ·exact .inr (.inr h)
 rw [List.take_left]
 rcases h with h|h|h<;>rw [h]<;>exact⟨rfl,rfl⟩
theorem parse_back(u:UU)(hg:Good u)(hl:(prU u).length≤1024):ape (prU u)=(0,u):=by
 obtain⟨sch,us,H,n,P,Q⟩:=u
 have hs:=hg.sch
 obtain⟨c1,c2⟩:=sch_form _ hg (usT (sch,us,H,n,P,Q)++(H++(ptT n++(amf P++hdsT Q))))
 have hp:prU (sch,us,H,n,P,Q)=sch++(58::(usT (sch,us,H,n,P,Q)++(H++(ptT n++(amf P++hdsT Q))))):=rfl
 have hp2:prU (sch,us,H,n,P,Q)=(sch++[58])++(usT (sch,us,H,n,P,Q)++(H++(ptT n++(amf P++hdsT Q)))):=by rw [hp];simp
 rw [←hp]at c1 c2
 dsimp only at c1 c2
 have hcl:utl [58] (prU (sch,us,H,n,P,Q)) 0<(prU (sch,us,H,n,P,Q)).length:=by rw [c1,hp,zac,zad];omega
 unfold ape
 rw [if_neg (by omega),if_pos hcl,c1,c2,snoc1 sch 58]
 rcases hs with⟨a1,a2,a3,a4,a5⟩|⟨a1,a2,a3,a4,a5⟩
 ·dsimp only at a1 a2 a3 a4 a5
  have hnt:¬sch=TEL:=by rcases a1 with h|h<;>rw [h]<;>decide
  have eu:usT (sch,us,H,n,P,Q)=if us=[]then []else aoc 0 us++[64]:=if_neg hnt
  rw [eu]at hp2
  have hP:=plA _ (sch++[58]) us H (amf P++hdsT Q) n hp2 a2 a3 a4 (pars_head P _ (hds_head Q)) (fun c hc=>by
   rcases List.mem_append.1 hc with h|h
   ·exact pars_mem (fun c=> !(c==64)) (aae _ (by decide+kernel)) (by decide) (aae _ (by decide+kernel)) (by decide) (by decide) P c h
   ·exact hdsT_mem (fun c=> !(c==64)) (aae _ (by decide+kernel)) (by decide) (aae _ (by decide+kernel)) (by decide) (by decide) (by decide) Q c h) a5
  rw [if_pos a1,hP,if_pos rfl]
  simp only
  rw [len2,len2,len2]
  exact restA [59,63] _ (par59 _ (.inr rfl)) (by decide) _ sch us H n P Q (by rw [hp2];simp only [zaq]) (.inr (by decide)) hg.ps hg.hs hg.pl hg.hl hg.pi hg.hi
 ·dsimp only at a1 a2 a3 a4 a5
  subst a2
  subst a3
  subst a4
  have hns:¬(sch=SIP∨sch=SIPS):=by rw [a1];decide
  have eu:usT (sch,us,[],0,P,[])=us:=if_pos a1
  have ept:ptT 0=[]:=rfl
  rw [eu,ept,zaB,zaB]at hp2
  obtain⟨t1,t2⟩:=telA _ (sch++[58]) us (amf P++hdsT []) hp2 (fun c hc=>by
   have hz:hdsT []=[]:=rfl
   rw [hz]at hc
   rcases pars_head P [] (fun c hc=>by cases hc) c hc with h|h
   ·exact h
   ·cases P with
    |nil=>cases hc
    |cons p P=>unfold amf at hc;rw [zar,zaY,zaY,List.head?_cons]at hc;exact(Option.some.inj hc).symm) a5
  rw [if_neg hns,if_pos a1,t1,if_pos rfl]
  dsimp only
  rw [t2,len2]
  exact restA [59] _ (par59 _ (.inl rfl)) (by decide) ((sch++[58])++us) sch us [] 0 P [] (by rw [hp2];simp only [zaq]) (.inl rfl) hg.ps hg.hs hg.pl hg.hl hg.pi hg.hi
open Go.Lib renaming cut → zbg, join → zau
open List renaming length_append → zac, length_cons → zad, length_nil → zal, length_singleton → zae
theorem grps_len2(s:Str):(aor s).1.length≤250:=by
 unfold aor
 by_cases h39:39<s.length
 ·rw [if_pos h39];simp
 ·rw [if_neg h39]
  have hb:∀x:Str,x.length≤39→(zau (aet x).1 [58]).length≤40*5:=fun x hx=>by
   have h1:=ati x
   have h2:=apx [58] 4 (aet x).1 h1.2
   simp only [zae]at h2
   omega
  split
  ·have:=hb s (by omega);simp only;omega
  ·split
   ·simp
   ·rename_i hn
    simp only [Bool.or_eq_true,Bool.not_eq_true',decide_eq_true_eq,not_or]at hn
    have lA:=apx [58] 4 (alk (zbg s [58,58]).1).1 (gdG_len (grpL0_gd _))
    have lB:=apx [58] 4 (alk (zbg s [58,58]).2.1).1 (gdG_len (grpL0_gd _))
    simp only [zae,zac,zad,zal]at lA lB⊢
    omega
theorem host_len2(s:Str):(afi s).1.length≤s.length+252:=by
 have:=grps_len2 (sub s 1 ((s.length:Int)-1))
 unfold afi
 split
 ·split
  ·simp only [zac,zae];omega
  ·simp
 ·split
  ·simp
  ·split
   ·unfold aaj;simp
   ·simp
open Bool renaming or_false → zbx
open Go.Lib renaming join → zau
open List renaming any_cons → zbs, length_append → zac, length_cons → zad, length_drop → zat, length_nil → zal, mem_cons_of_mem → zaf, mem_cons_self → zah, nil_append → zaB
open Nat renaming le_refl → zap, le_trans → zaO, zero_add → zbb, zero_le → zan
abbrev AA:=Str×UU×List PP
def nilA:AA:=([],nilU,[])
def anv(s:Str):Nat→Nat→List Str→UInt8×Nat×List Str
 |0,_,_=>(5,0,[])
 |f+1,i,ws=>if aea s i 60=true then(0,i,ws)else if aax aba s (i:Int)=i then(5,0,[])else anv s f (aax aah s ((aax aba s (i:Int):Nat):Int)) (ws++[sub s (i:Int) ((aax aba s (i:Int):Nat):Int)])
def aqx(s:Str)(i:Nat):UInt8×Str×Nat:=
 if aea s i 34=true then
  (if(asi s (i:Int)).2.2=0 then(if aea s (aax aah s (asi s (i:Int)).2.1) 60=true then(0,(asi s (i:Int)).1,aax aah s (asi s (i:Int)).2.1)else(5,[],0))else((asi s (i:Int)).2.2,[],0))
 else if apy s 60=true then((anv s (s.length+1) i []).1,zau (anv s (s.length+1) i []).2.2 [32],(anv s (s.length+1) i []).2.1)
 else(0,[],i)
def tgtP(s:Str)(i:Nat):UInt8×UU×Nat:=
 if aea s i 60=true then(if utl [62] s (i+1)=s.length then(5,nilU,0)else((ape (sub s ((i+1:Nat):Int) (utl [62] s (i+1):Int))).1,(ape (sub s ((i+1:Nat):Int) (utl [62] s (i+1):Int))).2,utl [62] s (i+1)+1))
 else if utl [63,44] s i<utl [59,32,9] s i then(5,nilU,0)else((ape (sub s (i:Int) (utl [59,32,9] s i:Int))).1,(ape (sub s (i:Int) (utl [59,32,9] s i:Int))).2,utl [59,32,9] s i)
def adrP (s : Str) : UInt8 × AA :=
  if 1024 < s.length then (4, nilA) else
  if (aqx s (aax aah s 0)).1 = 0 then
    (if (tgtP s (aqx s (aax aah s 0)).2.2).1 = 0 then
      (if (parP (s.drop (tgtP s (aqx s (aax aah s 0)).2.2).2.2)).2.2 = 0 then (0, ((aqx s (aax aah s 0)).2.1, (tgtP s (aqx s (aax aah s 0)).2.2).2.1, (parP (s.drop (tgtP s (aqx s (aax aah s 0)).2.2).2.2)).1))
       else ((parP (s.drop (tgtP s (aqx s (aax aah s 0)).2.2).2.2)).2.2, nilA))
     else ((tgtP s (aqx s (aax aah s 0)).2.2).1, nilA))
  else ((aqx s (aax aah s 0)).1, nilA)
def dsT(d:Str):Str:=if d=[]then []else quoT d++[32]
def prA(a:AA):Str×UInt8:=
 if a.1.any aas=false∧(ppM (agl a.2.2)).2=0 then(dsT a.1++(60::(prU a.2.1++(62::(ppM (agl a.2.2)).1))),0)else([],2)
theorem prU_n62(u:UU)(hg:Good u):∀c∈prU u,(!(c==62))=true:=by
 intro c hc
 have hpar:=pars_mem (fun c=> !(c==62)) (aae _ (by decide+kernel)) (by decide) (aae _ (by decide+kernel)) (by decide) (by decide) u.2.2.2.2.1
 have hhd:=hdsT_mem (fun c=> !(c==62)) (aae _ (by decide+kernel)) (by decide) (aae _ (by decide+kernel)) (by decide) (by decide) (by decide) u.2.2.2.2.2
 unfold prU at hc
 have hsch:∀c∈u.1,(!(c==62))=true:=by
  rcases hg.sch with⟨h|h,_⟩|⟨h,_⟩<;>rw [h]<;>decide
 have hport:∀c∈ptT u.2.2.2.1,(!(c==62))=true:=by
  intro c hc
  have hb:0≤u.2.2.2.1∧u.2.2.2.1≤65535:=by
   rcases hg.sch with⟨_,_,h0,h1,_⟩|⟨_,_,h0,_⟩
   ·exact⟨h0,h1⟩
   ·omega
  unfold ptT at hc
  split at hc
  ·cases hc
  ·rcases List.mem_cons.1 hc with h|h
   ·rw [h];decide
   ·have:=List.all_eq_true.1 (atg _ hb.1 hb.2).2.2.2 c h
    revert this
    exact aae (fun c=>acf c=true→(!(c==62))=true) (by decide+kernel) c
 have hus:∀c∈usT u,(!(c==62))=true:=by
  intro c hc
  unfold usT at hc
  split at hc
  ·rename_i ht
   rcases hg.sch with⟨h|h,_⟩|⟨_,_,_,_,hd⟩
   ·rw [ht]at h;exact absurd h (by decide)
   ·rw [ht]at h;exact absurd h (by decide)
   ·exact(dial_mem _ hd c hc).2
  ·split at hc
   ·cases hc
   ·rcases List.mem_append.1 hc with h|h
    ·exact esc_mem 0 (fun c=> !(c==62)) (aae _ (by decide+kernel)) (by decide) (aae _ (by decide+kernel)) _ c h
    ·rw [List.mem_singleton.1 h];decide
 have hho:∀c∈u.2.2.1,(!(c==62))=true:=by
  rcases hg.sch with⟨_,hh,_⟩|⟨_,hh,_⟩
  ·have:=hostP_q (fun c=> !(c==62)) (aae _ (by decide+kernel)) (by decide) (by decide) (by decide) (by decide) (by decide) (aae _ (by decide+kernel)) (aae _ (by decide+kernel)) u.2.2.1
   rw [hh]at this
   exact this
  ·rw [hh];intro c hc;cases hc
 rcases List.mem_append.1 hc with h|h
 ·exact hsch c h
 ·rcases List.mem_cons.1 h with h|h
  ·rw [h];decide
  ·rcases List.mem_append.1 h with h|h
   ·exact hus c h
   ·rcases List.mem_append.1 h with h|h
    ·exact hho c h
    ·rcases List.mem_append.1 h with h|h
     ·exact hport c h
     ·rcases List.mem_append.1 h with h|h
      ·exact hpar c h
      ·exact hhd c h
theorem tgtA(s A t:Str)(u:UU)(hg:Good u)(h:s=A++(60::(prU u++(62::t))))(hl:s.length≤1024):tgtP s A.length=(0,u,(A++(60::(prU u++[62]))).length):=by
 have h2:s=(A++[60])++(prU u++(62::t)):=by rw [h];simp
 have hu:utl [62] s (A.length+1)=(A++[60]).length+(prU u).length:=by
  rw [snoc1 A 60]
  refine utlA [62] s _ _ _ h2 (fun c hc=> ?_) (fun c hc=>by rw [←Option.some.inj hc];decide)
  have h2:¬c=62:=by simpa using prU_n62 u hg c hc
  unfold apy
  simp only [zbs,List.any_nil,zbx]
  exact beq_eq_false_iff_ne.2 (fun e=>h2 e.symm)
 have hsub:sub s ((A.length+1:Nat):Int) (utl [62] s (A.length+1):Int)=prU u:=by
  rw [hu,snoc1 A 60]
  exact subA s _ _ _ h2
 have hlen:s.length=(A++[60]).length+((prU u).length+(t.length+1)):=by rw [h2];simp only [zac,zad]
 have hlt:(prU u).length≤1024:=by omega
 have hsee:aea s A.length 60=true:=by rw [seesA s A _ 60 h];exact decide_eq_true rfl
 unfold tgtP
 rw [hsee,if_pos rfl,hsub,parse_back u hg hlt,hu,if_neg (by omega)]
 simp only [zac,zad,zal]
 congr 2
 omega
theorem addr_back(d:Str)(u:UU)(l:List PP)(hg:Good u)(h0:(prA (d,u,l)).2=0)(hl:(prA (d,u,l)).1.length≤1024):
  adrP (prA (d,u,l)).1=(0,(d,u,agl l))∧apj (prA (d,u,l)).1=(prA (d,u,l)).1∧ppL [] (agl l)=some (ppM (agl l)).1:=by
 have hc:d.any aas=false∧(ppM (agl l)).2=0:=by
  by_cases h:d.any aas=false∧(ppM (agl l)).2=0
  ·exact h
  ·unfold prA at h0
   dsimp only at h0
   rw [if_neg h]at h0
   exact absurd h0 (by decide)
 have he:(prA (d,u,l)).1=dsT d++(60::(prU u++(62::(ppM (agl l)).1))):=by unfold prA;dsimp only;rw [if_pos hc]
 obtain⟨b1,b2,b3,b4⟩:=par_back (agl l) (ppM (agl l)).1 (by rw [←hc.2])
 generalize hs:(prA (d,u,l)).1=s at hl he⊢
 generalize(ppM (agl l)).1=t at b1 b2 b3 he⊢
 have hhd:∀c,s.head? =some c→c=34∨c=60:=by
  intro c hcc
  rw [he]at hcc
  unfold dsT at hcc
  split at hcc
  ·right;exact(Option.some.inj hcc).symm
  ·left;exact(Option.some.inj hcc).symm
 have htr:apj s=s:=by
  refine trim_id s (fun c hcc=> ?_) ?_
  ·rcases hhd c hcc with h|h<;>subst h<;>decide
  ·have e2:s=(dsT d++(60::(prU u++[62])))++t:=by rw [he];simp
   rw [e2]
   refine ppL_last _ [] t _ b3 ?_
   have:dsT d++60::(prU u++[62])=(dsT d++60::prU u)++[62]:=by simp
   rw [this]
   exact att _ 62 (by decide)
 refine⟨?_,htr,b3⟩
 have hb0:aax aah s 0=0:=by
  rw [skipL_zero]
  exact aqa _ _ (fun c hcc=>by rcases hhd c hcc with h|h<;>subst h<;>decide)
 have hdisp:aqx s 0=(0,d,(dsT d).length):=by
  unfold aqx
  by_cases hd:d=[]
  ·have e0:dsT d=[]:=if_pos hd
   rw [e0,zaB]at he
   have s34:aea s 0 34=false:=by
    have:=seesA s [] s 34 rfl
    rw [zal]at this
    rw [this,he,List.head?_cons];rfl
   have s60:aea s 0 60=true:=by
    have:=seesA s [] s 60 rfl
    rw [zal]at this
    rw [this,he,List.head?_cons];rfl
   have hh:apy s 60=true:=by rw [he];unfold apy;rw [zbs];rfl
   rw [s34,if_neg (by decide),if_pos hh,anv,if_pos s60,e0,hd];rfl
  ·have e0:dsT d=quoT d++[32]:=if_neg hd
   rw [e0]at he
   have s34:aea s 0 34=true:=by
    have:=seesA s [] s 34 rfl
    rw [zal]at this
    rw [this,he];exact decide_eq_true rfl
   have hu:=unqA s [] d (32::60::(prU u++62::t)) (by rw [he];simp) hc.1
   rw [zal,zbb]at hu
   have hb:aax aah s ((quoT d).length:Int)=(quoT d).length+1:=by
    rw [skipA aah s (quoT d) (32::60::(prU u++62::t)) (by rw [he];simp)];rfl
   have s60:aea s ((quoT d).length+1) 60=true:=by
    have:=seesA s (quoT d++[32]) (60::(prU u++62::t)) 60 (by rw [he])
    rw [←snoc1]at this
    rw [this];exact decide_eq_true rfl
   rw [s34,if_pos rfl]
   rw [show((0:Nat):Int)=0 from rfl]at hu⊢
   rw [hu]
   simp only
   rw [if_pos trivial,hb,s60,if_pos rfl,e0,←snoc1]
 have htgt:=tgtA s (dsT d) t u hg he hl
 have hdrop:s.drop (dsT d++(60::(prU u++[62]))).length=t:=by
  have e2:s=(dsT d++(60::(prU u++[62])))++t:=by rw [he];simp
  rw [e2,List.drop_left]
 unfold adrP
 rw [if_neg (by omega),hb0,hdisp]
 simp only
 rw [if_pos trivial,htgt]
 simp only
 rw [if_pos trivial,hdrop,b1,if_pos rfl]
theorem nameL_le(s:Str):∀(f i:Nat) (ws:List Str),i≤s.length→(anv s f i ws).2.1≤s.length
 |0,_,_,_=>zan _
 |f+1,i,ws,h=>by
  rw [anv]
  split
  ·exact h
  ·split
   ·exact zan _
   ·exact nameL_le s f _ _ (ada _ _ _)
theorem dispP_le(s:Str)(i:Nat)(hi:i≤s.length):(aqx s i).2.2≤s.length:=by
 unfold aqx
 split
 ·split
  ·split
   ·exact ada _ _ _
   ·exact zan _
  ·exact zan _
 ·split
  ·exact nameL_le s _ i [] hi
  ·exact hi
theorem tgtP_good(s:Str)(i:Nat)(h:(tgtP s i).1=0):Good (tgtP s i).2.1:=by
 unfold tgtP at h⊢
 split
 ·rename_i h1
  rw [if_pos h1]at h
  split
  ·rename_i h2
   rw [if_pos h2]at h
   exact absurd h (by decide)
  ·rename_i h2
   rw [if_neg h2]at h
   exact parse_good _ h
 ·rename_i h1
  rw [if_neg h1]at h
  split
  ·rename_i h2
   rw [if_pos h2]at h
   exact absurd h (by decide)
  ·rename_i h2
   rw [if_neg h2]at h
   exact parse_good _ h
theorem adr_good(s:Str)(h:(adrP s).1=0):Good (adrP s).2.2.1∧(adrP s).2.2.2.length≤16∧∀p∈(adrP s).2.2.2,aaj p.1=p.1∧p.1.length≤4194304:=by
 unfold adrP at h⊢
 split
 ·rename_i h1
  rw [if_pos h1]at h
  exact absurd h (by decide)
 ·rename_i h1
  rw [if_neg h1]at h
  split
  ·rename_i h2
   rw [if_pos h2]at h
   split
   ·rename_i h3
    rw [if_pos h3]at h
    split
    ·have hl:∀k,(s.drop k).length≤4194304:=fun k=>by rw [zat];omega
     refine⟨tgtP_good s _ h3,parP_len _,fun p hp=> ?_⟩
     have:=parP_names _ (hl _) p hp
     exact⟨this.1,zaO this.2.1 (hl _)⟩
    ·rename_i h4
     rw [if_neg h4]at h
     exact absurd h h4
   ·rename_i h3
    rw [if_neg h3]at h
    exact absurd h h3
  ·rename_i h2
   rw [if_neg h2]at h
   exact absurd h h2
def setP:List PP→Str→Str→List PP
 |[],nm,v=>[(nm,v,true)]
 |p::l,nm,v=>if aaj p.1=nm then(p.1,v,true)::l else p::setP l nm v
theorem setP_len:∀(l:List PP) (nm v:Str),(setP l nm v).length≤l.length+1
 |[],_,_=>zap _
 |p::l,nm,v=>by
  unfold setP
  split
  ·simp only [zad];omega
  ·have:=setP_len l nm v
   simp only [zad];omega
theorem setP_mem:∀(l:List PP) (nm v:Str),(∀p∈l,aaj p.1=p.1)→(nm,v,true)∈setP l nm v
 |[],nm,v,_=>List.mem_singleton.2 rfl
 |p::l,nm,v,h=>by
  unfold setP
  split
  ·rename_i e
   rw [h p zah]at e
   rw [e];exact zah
  ·exact zaf _ (setP_mem l nm v (fun q hq=>h q (zaf _ hq)))
theorem setP_all:∀(l:List PP) (nm v:Str),∀p∈setP l nm v,p∈l∨(p.2.1=v∧(p.1=nm∨∃q∈l,q.1=p.1))
 |[],nm,v,p,hp=>by
  rw [List.mem_singleton.1 hp];exact .inr ⟨rfl,.inl rfl⟩
 |a::l,nm,v,p,hp=>by
  unfold setP at hp
  split at hp
  ·rcases List.mem_cons.1 hp with h|h
   ·rw [h];exact .inr ⟨rfl,.inr ⟨a,zah,rfl⟩⟩
   ·exact .inl (zaf _ h)
  ·rcases List.mem_cons.1 hp with h|h
   ·rw [h];exact .inl zah
   ·rcases setP_all l nm v p h with h|⟨h1,h2|⟨q,hq,he⟩⟩
    ·exact .inl (zaf _ h)
    ·exact .inr ⟨h1,.inl h2⟩
    ·exact .inr ⟨h1,.inr ⟨q,zaf _ hq,he⟩⟩
open Bool renaming not_false → zaN, not_true → zaC
open Int renaming toNat → zaj, toNat_natCast → zaw
open List renaming any_cons → zbs, append_assoc → zaq, append_nil → zam, cons_append → zaY, eq_nil_of_length_eq_zero → zao, length_append → zac, length_cons → zad, length_drop → zat, length_map → zaL, length_singleton → zae, length_take → zaP, mem_cons_of_mem → zaf, mem_cons_self → zah, set → zaE
open Nat renaming le_refl → zap, le_trans → zaO, zero_le → zan
open Option renaming bind_some → zaa
open Sum renaming elim_inl → zaI
theorem valP_len2(s:Str)(k:Nat)(hk:k≤s.length):(valP s k).1.length≤s.length+252:=by
 unfold valP
 split
 ·rename_i h
  have:=unqP8_bd s k (akc h).2 (akc h).1
  omega
 ·split
  ·split
   ·have hh:=host_len2 (sub s (k:Int) (min ((k+apv (fun b=> !(b==93)) (s.drop k):Nat)+1:Int) (s.length:Int)))
    rw [aql]at hh
    dsimp only
    omega
   ·exact zan _
  ·split
   ·exact zan _
   ·dsimp only
    rw [aql];omega
theorem listP_len2(s:Str)(b:Nat):(anw s b).1.2.1.length≤s.length+252:=by
 unfold anw
 split
 ·exact zan _
 ·split
  ·exact zan _
  ·split
   ·exact valP_len2 s _ (ada _ _ _)
   ·exact zan _
theorem parM_val(s:Str):∀(f:Nat) (l:List PP) (i:Nat),(∀p∈l,p.2.1.length≤s.length+252)→∀p∈(parM s f l i).1,p.2.1.length≤s.length+252
 |0,_,_,_=>by simp [parM]
 |f+1,l,i,h=>by
  rw [parM]
  split
  ·exact h
  ·split
   ·simp
   ·split
    ·split
     ·refine parM_val s f _ _ fun p hp=> ?_
      rcases List.mem_append.1 hp with hp|hp
      ·exact h p hp
      ·rw [List.mem_singleton.1 hp];exact listP_len2 s _
     ·simp
    ·simp
theorem parP_val(s:Str):∀p∈(parP s).1,p.2.1.length≤s.length+252:=parM_val s _ [] 0 (by simp)
theorem sub_le(s:Str)(i j:Int):(sub s i j).length≤s.length:=by rw [aql];omega
theorem fld_len3(k:Int)(l:List PP)(T:Str):(fldP k l T).2.1.length≤T.length∧(fldP k l T).2.2.1.length≤T.length:=by
 have h1:=conP_len k (T.take (aqr T))
 have h2:=conP_len k (T.drop (aqr T+1))
 rw [zaP]at h1
 rw [zat]at h2
 have h3:(aaj (conP k (T.take (aqr T)))).length=(conP k (T.take (aqr T))).length:=by unfold aaj;rw [zaL]
 unfold fldP
 split
 ·exact⟨zan _,zan _⟩
 ·split
  ·exact⟨zan _,zan _⟩
  ·split
   ·split
    ·exact⟨zan _,zan _⟩
    ·split
     ·exact⟨zan _,zan _⟩
     ·dsimp only;omega
   ·split
    ·exact⟨zan _,zan _⟩
    ·exact⟨by dsimp only;omega,zan _⟩
def lenQ(n:Nat)(l:List PP):Prop:=∀p∈l,p.1.length≤n∧p.2.1.length≤n
theorem lenQ.snoc{n:Nat}{l:List PP}(h:lenQ n l)(p:PP)(h1:p.1.length≤n)(h2:p.2.1.length≤n):lenQ n (l++[p]):=fun q hq=>by
 rcases List.mem_append.1 hq with h'|h'
 ·exact h q h'
 ·rw [List.mem_singleton.1 h'];exact⟨h1,h2⟩
theorem plL_sz(st s:Str):∀(f i:Nat) (l:List PP),lenQ s.length l→lenQ s.length (plL st s f i l).2.2
 |0,i,l,h=>h
 |f+1,i,l,h=>by
  rw [plL]
  split
  ·split
   ·have:=fld_len3 1 l (sub s ((i+1:Nat):Int) (utl st s (i+1):Int))
    have hs:=sub_le s ((i+1:Nat):Int) (utl st s (i+1):Int)
    exact plL_sz st s f _ _ (h.snoc _ (by omega) (by omega))
   ·intro p hp;cases hp
  ·exact h
theorem hdL_sz(s:Str):∀(f i:Nat) (l:List PP),lenQ s.length l→lenQ s.length (hdL s f i l).2
 |0,i,l,h=>h
 |f+1,i,l,h=>by
  rw [hdL]
  split
  ·split
   ·have:=fld_len3 2 l (sub s ((i+1:Nat):Int) (utl [38] s (i+1):Int))
    have hs:=sub_le s ((i+1:Nat):Int) (utl [38] s (i+1):Int)
    exact hdL_sz s f _ _ (h.snoc _ (by omega) (by omega))
   ·intro p hp;cases hp
  ·exact h
def smlN(n:Nat)(u:UU):Prop:=u.1.length≤n∧u.2.1.length≤n∧u.2.2.1.length≤n∧lenQ n u.2.2.2.2.1∧lenQ n u.2.2.2.2.2
theorem asj(n:Nat):smlN n nilU:=⟨zan _,zan _,zan _,(fun p hp=>by cases hp),(fun p hp=>by cases hp)⟩
theorem isort_lenQ{n:Nat}{l:List PP}(h:lenQ n l):lenQ n (agl l):=fun p hp=>h p (isort_mem l p hp)
theorem rest_sml(n:Nat)(st s sch us h:Str)(port:Int)(i:Nat)(h1:sch.length≤n)(h2:us.length≤n)(h3:h.length≤n)(h4:s.length≤n):smlN n (restP st s sch us h port i).2:=by
 have hw:∀l,lenQ s.length l→lenQ n l:=fun l hl p hp=>⟨zaO (hl p hp).1 h4,zaO (hl p hp).2 h4⟩
 unfold restP
 split
 ·split
  ·exact⟨h1,h2,h3,isort_lenQ (hw _ (plL_sz st s _ i [] (fun p hp=>by cases hp))),isort_lenQ (hw _ (hdL_sz s _ _ [] (fun p hp=>by cases hp)))⟩
  ·exact asj n
 ·exact asj n
theorem hpP_len(s:Str)(i:Nat):(hpP s i).2.1.length≤s.length+252:=by
 have h1:=host_len2 (sub s (i:Int) (hEnd s i:Int))
 have h2:=sub_le s (i:Int) (hEnd s i:Int)
 unfold hpP
 split
 ·exact zan _
 ·split
  ·split
   ·dsimp only;omega
   ·exact zan _
  ·split
   ·exact zan _
   ·dsimp only;omega
theorem usrP_len(U:Str):(usrP U).2.length≤U.length:=by
 have:=conP_len 0 U
 unfold usrP
 split
 ·exact zan _
 ·split
  ·exact zan _
  ·exact this
theorem plP_len(s:Str)(i:Nat):(plP s i).2.1.length≤s.length∧(plP s i).2.2.1.length≤s.length+252:=by
 have h0:=hpP_len s i
 have h1:=hpP_len s (utl [64] s i+1)
 have h2:=usrP_len (sub s (i:Int) (utl [64] s i:Int))
 have h3:=sub_le s (i:Int) (utl [64] s i:Int)
 unfold plP
 split
 ·split
  ·exact⟨by dsimp only;omega,h1⟩
  ·exact⟨zan _,zan _⟩
 ·exact⟨zan _,h0⟩
theorem telP_len(s:Str)(i:Nat):(telP s i).2.length≤31:=by
 unfold telP
 split
 ·exact zan _
 ·split
  ·exact zan _
  ·split
   ·exact zan _
   ·dsimp only
    split
    ·rw [zad];omega
    ·omega
theorem parse_sml(s:Str):smlN 1300 (ape s).2:=by
 unfold ape
 split
 ·exact asj _
 ·have hl:(aaj (s.take (utl [58] s 0))).length≤s.length:=by unfold aaj;rw [zaL,zaP];omega
  have hp:=plP_len s (utl [58] s 0+1)
  have ht:=telP_len s (utl [58] s 0+1)
  split
  ·split
   ·split
    ·exact rest_sml 1300 _ s _ _ _ _ _ (by omega) (by omega) (by omega) (by omega)
    ·exact asj _
   ·split
    ·split
     ·exact rest_sml 1300 _ s _ _ _ _ _ (by omega) (by omega) (zan _) (by omega)
     ·exact asj _
    ·exact asj _
  ·exact asj _
theorem smlN.sml{n:Nat}{u:UU}(h:smlN n u)(hn:n≤4194304):Sml u:=
 ⟨zaO h.1 hn,zaO h.2.1 hn,zaO h.2.2.1 hn,fun p hp=>⟨zaO (h.2.2.2.1 p hp).1 hn,zaO (h.2.2.2.1 p hp).2 hn⟩,fun p hp=>⟨zaO (h.2.2.2.2 p hp).1 hn,zaO (h.2.2.2.2 p hp).2 hn⟩⟩
theorem prU_len(u:UU)(hg:Good u)(hs:Sml u):(prU u).length≤2000000000:=by
 obtain⟨s1,s2,s3,s4,s5⟩:=hs
 have l1:=parsT_len _ s4
 have l2:=hdsT_len _ s5
 have hpl:=hg.pl
 have hhl:=hg.hl
 have hus:=aro 0 u.2.1
 have hpo:0≤u.2.2.2.1∧u.2.2.2.1≤65535:=by
  rcases hg.sch with⟨_,_,h1,h2,_⟩|⟨_,_,h,_⟩
  ·exact⟨h1,h2⟩
  ·omega
 have hit:=atg u.2.2.2.1 hpo.1 hpo.2
 have h1:(usT u).length≤12582913:=by
  unfold usT
  split
  ·omega
  ·split
   ·exact zan _
   ·rw [zac,zae];omega
 have h2:(ptT u.2.2.2.1).length≤6:=by
  unfold ptT
  split
  ·exact zan _
  ·rw [zad];omega
 unfold prU
 simp only [zac,zad]
 omega
theorem nameL_bd(s:Str):∀(f i:Nat) (ws:List Str),i≤s.length→ws.length≤i→(∀x∈ws,x.length≤s.length)→(anv s f i ws).2.2.length≤s.length∧∀x∈(anv s f i ws).2.2,x.length≤s.length
 |0,_,_,_,_,_=>⟨zan _,fun x hx=>by cases hx⟩
 |f+1,i,ws,hi,hw,hx=>by
  have h1:=alu aba s i hi
  have h2:=ada aba s (i:Int)
  have h3:=alu aah s (aax aba s (i:Int)) h2
  rw [anv]
  split
  ·exact⟨zaO hw hi,hx⟩
  ·split
   ·exact⟨zan _,fun x hx=>by cases hx⟩
   ·rename_i hne
    refine nameL_bd s f _ _ (ada _ _ _) (by rw [zac,zae];omega) (fun x hxx=> ?_)
    rcases List.mem_append.1 hxx with h|h
    ·exact hx x h
    ·rw [List.mem_singleton.1 h];exact sub_le _ _ _
theorem disp_len(s:Str)(hs:s.length≤1024)(i:Nat)(hi:i≤s.length):(aqx s i).2.1.length≤1100000:=by
 unfold aqx
 split
 ·rename_i h
  have:=unqP8_bd s i (akc h).2 (akc h).1
  split
  ·split
   ·dsimp only;omega
   ·exact zan _
  ·exact zan _
 ·split
  ·obtain⟨a,b⟩:=nameL_bd s (s.length+1) i [] hi (zan _) (fun x hx=>by cases hx)
   have hj:=apx [32] s.length _ b
   rw [zae]at hj
   refine zaO hj ?_
   refine zaO (Nat.mul_le_mul (zaO a hs) (Nat.succ_le_succ hs)) (by decide)
  ·exact zan _
theorem adr_sml(s:Str):smlN 1300 (adrP s).2.2.1∧(adrP s).2.1.length≤1100000∧lenQ 1300 (adrP s).2.2.2:=by
 have hnil:smlN 1300 nilA.2.1∧nilA.1.length≤1100000∧lenQ 1300 nilA.2.2:=⟨asj _,zan _,fun p hp=>by cases hp⟩
 unfold adrP
 split
 ·exact hnil
 ·rename_i hl
  split
  ·split
   ·split
    ·refine⟨?_,disp_len s (by omega) _ (ada _ _ _), ?_⟩
     ·show smlN 1300 (tgtP s (aqx s (aax aah s 0)).2.2).2.1
      generalize(aqx s (aax aah s 0)).2.2=j
      unfold tgtP
      split
      ·split
       ·exact asj _
       ·exact parse_sml _
      ·split
       ·exact asj _
       ·exact parse_sml _
     ·intro p hp
      dsimp only at hp
      have hd:(s.drop (tgtP s (aqx s (aax aah s 0)).2.2).2.2).length≤1024:=by rw [zat];omega
      have h1:=parP_names _ (by omega) p hp
      have h2:=parP_val _ p hp
      exact⟨by omega,by omega⟩
    ·exact hnil
   ·exact hnil
  ·exact hnil
theorem unqL_at(n:Nat):∀(l:Str) (k:Nat) (acc:Str),l.length≤n→0≤(unqL l k acc).2.1∧(unqL l k acc).2.1≤((k+l.length:Nat):Int):=by
 induction n with
 |zero=>
  intro l k acc h
  have:l=[]:=zao (by omega)
  subst this
  unfold unqL
  exact⟨by dsimp only;omega,by dsimp only;omega⟩
 |succ n ih=>
  intro l k acc h
  cases l with
  |nil=>
   unfold unqL
   exact⟨by dsimp only;omega,by dsimp only;omega⟩
  |cons c l=>
   rw [zad]at h⊢
   rw [asw]
   split
   ·exact⟨by dsimp only;omega,by dsimp only;omega⟩
   ·split
    ·split
     ·exact⟨by dsimp only;omega,by dsimp only;omega⟩
     ·split
      ·have hd:(l.drop 1).length=l.length-1:=zat
       have:=ih (l.drop 1) (k+2) (acc++[at_ l 0]) (by omega)
       have hl:l≠[]:=by assumption
       have:=List.length_pos_iff.2 hl
       omega
      ·exact⟨by dsimp only;omega,by dsimp only;omega⟩
    ·split
     ·exact⟨by dsimp only;omega,by dsimp only;omega⟩
     ·have:=ih l (k+1) (acc++[c]) (by omega)
      omega
theorem unqP8_at(s:Str)(k:Nat)(hk:k≤s.length):0≤(asi s (k:Int)).2.1∧(asi s (k:Int)).2.1≤(s.length:Int):=by
 unfold asi
 split
 ·exact⟨by dsimp only;omega,by dsimp only;omega⟩
 ·split
  ·exact⟨by dsimp only;omega,by dsimp only;omega⟩
  ·rename_i h
   have hne:¬(k:Int)=(s.length:Int):=fun e=>h (.inl e)
   have hd:(s.drop (zaj (k:Int)+1)).length=s.length-(k+1):=by rw [zaw,zat]
   have:=unqL_at _ (s.drop (zaj (k:Int)+1)) (zaj (k:Int)+1) [] (zap _)
   rw [zaw]at this hd⊢
   omega
theorem valP_at(s:Str)(k:Nat)(hk:k≤s.length):0≤(valP s k).2.1∧(valP s k).2.1≤(s.length:Int)+1:=by
 have h1:=ada aba s (k:Int)
 have hsp:=are (fun b=> !(b==93)) (s.drop k)
 rw [zat]at hsp
 unfold valP
 split
 ·have:=unqP8_at s k hk
  omega
 ·split
  ·split
   ·exact⟨by dsimp only;omega,by dsimp only;omega⟩
   ·exact⟨by dsimp only;omega,by dsimp only;omega⟩
  ·split
   ·exact⟨by dsimp only;omega,by dsimp only;omega⟩
   ·exact⟨by dsimp only;omega,by dsimp only;omega⟩
theorem listP_at(s:Str)(b:Nat)(hb:b≤s.length):0≤(anw s b).2.1∧(anw s b).2.1≤(s.length:Int)+1:=by
 unfold anw
 split
 ·exact⟨by dsimp only;omega,by dsimp only;omega⟩
 ·split
  ·exact⟨by dsimp only;omega,by dsimp only;omega⟩
  ·split
   ·exact⟨by dsimp only;omega,by dsimp only;omega⟩
   ·exact valP_at s _ (ada _ _ _)
theorem parM_at(s:Str):∀(f:Nat) (l:List PP) (i:Nat),0≤(parM s f l i).2.1∧(parM s f l i).2.1≤(s.length:Int)+1
 |0,_,_=>⟨by unfold parM;decide,by unfold parM;dsimp only;omega⟩
 |f+1,l,i=>by
  have h1:=ada aah s (i:Int)
  have h2:=ada aah s ((aax aah s (i:Int)+1:Nat):Int)
  rw [parM]
  split
  ·exact⟨by dsimp only;omega,by dsimp only;omega⟩
  ·split
   ·exact⟨by dsimp only;omega,by dsimp only;omega⟩
   ·split
    ·split
     ·exact parM_at s f _ _
     ·exact⟨by dsimp only;omega,by dsimp only;omega⟩
    ·exact listP_at s _ h2
theorem parP_at(s:Str)(hs:s.length≤4194304):0≤(parP s).2.1∧(parP s).2.1≤(s.length:Int)+1:=parM_at s _ _ _
theorem name_lp(s:Str)(hs:s.length≤1024)(A2:AA)(n:Nat):∀(i fk f:Nat) (ws:List Str),s.length-i≤n→n<fk→n<f→i≤s.length→ws.length≤i→
  ∃j,adi FU A2 fk ws s (i:Int)=some j∧
   ((anv s f i ws).1=0→j=.inl ((anv s f i ws).2.2,s,((anv s f i ws).2.1:Int)))∧(¬(anv s f i ws).1=0→∃a c w,j=.inr (a,(anv s f i ws).1,c,w)):=by
 induction n with
 |zero=>
  intro i fk f ws hi hf hff hil hw
  obtain⟨fk,rfl⟩:=fkx fk
  obtain⟨f,rfl⟩:∃m,f=m+1:=⟨f-1,by omega⟩
  obtain rfl:i=s.length:=by omega
  have hz:aea s s.length 60=false:=by unfold aea;rw [decide_eq_false (by omega)];rfl
  have ht:aax aba s (s.length:Int)=s.length:=skipL_end _ _
  rw [aka,ade,anf,zaa,hz,zaN,cond_true,token2_eq s (by omega) _ (zap _),zaa,ht,sub_self',if_pos rfl]
  have hn:anv s (f+1) s.length ws=(5,0,[]):=by rw [anv,hz,if_neg (by decide),if_pos ht]
  rw [hn]
  exact⟨_,rfl,fun h=>absurd h (show¬(5:UInt8)=0 by decide),fun _=>⟨_,_,_,rfl⟩⟩
 |succ n ih=>
  intro i fk f ws hi hf hff hil hw
  obtain⟨fk,rfl⟩:=fkx fk
  obtain⟨f,rfl⟩:∃m,f=m+1:=⟨f-1,by omega⟩
  have h1:=alu aba s i hil
  have h2:=ada aba s (i:Int)
  have h3:=alu aah s (aax aba s (i:Int)) h2
  rw [aka,ade,anf,zaa]
  cases hz:aea s i 60 with
  |true=>
   have hn:anv s (f+1) i ws=(0,i,ws):=by rw [anv,hz,if_pos rfl]
   rw [hn,zaC,cond_false]
   exact⟨_,rfl,fun _=>rfl,fun h=>absurd rfl h⟩
  |false=>
   rw [zaN,cond_true,token2_eq s (by omega) i hil,zaa]
   dsimp only
   by_cases ht:aax aba s (i:Int)=i
   ·have hn:anv s (f+1) i ws=(5,0,[]):=by rw [anv,hz,if_neg (by decide),if_pos ht]
    rw [if_pos ((apk s i _ h2 h1).2 ht),hn]
    exact⟨_,rfl,fun h=>absurd h (show¬(5:UInt8)=0 by decide),fun _=>⟨_,_,_,rfl⟩⟩
   ·have hn:anv s (f+1) i ws=anv s f (aax aah s ((aax aba s (i:Int):Nat):Int)) (ws++[sub s (i:Int) ((aax aba s (i:Int):Nat):Int)]):=by rw [anv,hz,if_neg (by decide),if_neg ht]
    rw [if_neg (fun h=>ht ((apk s i _ h2 h1).1 h)),aab (by rw [zae];omega),aof s (by omega),zaa,hn]
    exact ih _ fk f _ (by omega) (by omega) (by omega) (ada _ _ _) (by rw [zac,zae];omega)
theorem plain_eq2(s:Str)(hs:s.length≤1024)(i:Nat)(hi:i≤s.length):∃a c w,acg FU (s,(i:Int)) ([],nilU,[])=some (a,(anv s (s.length+1) i []).1,c,w)∧
  ((anv s (s.length+1) i []).1=0→c=(s,((anv s (s.length+1) i []).2.1:Int))∧w=(zau (anv s (s.length+1) i []).2.2 [32],nilU,[])):=by
 obtain⟨j,e,h1,h2⟩:=name_lp s hs ([],nilU,[]) s.length i FU (s.length+1) [] (by omega) (by rw [amu];omega) (by omega) hi (zan _)
 unfold acg
 rw [show(s,(i:Int)).1=s from rfl,show(s,(i:Int)).2=(i:Int)from rfl,e,zaa]
 by_cases h0:(anv s (s.length+1) i []).1=0
 ·rw [h1 h0,zaI]
  obtain⟨a,b⟩:=nameL_bd s (s.length+1) i [] hi (zan _) (fun x hx=>by cases hx)
  have hj:=apx [32] s.length _ b
  rw [zae]at hj
  have hj2:(anv s (s.length+1) i []).2.2.length*(s.length+1)≤1024*1025:=Nat.mul_le_mul (zaO a hs) (Nat.succ_le_succ hs)
  dsimp only
  rw [aab (by constructor<;>omega),h0]
  exact⟨_,_,_,rfl,fun _=>⟨rfl,rfl⟩⟩
 ·obtain⟨a,c,w,e2⟩:=h2 h0
  rw [e2,Sum.elim_inr]
  exact⟨_,_,_,rfl,fun h=>absurd h h0⟩
theorem tgt_eq(s:Str)(hs:s.length≤1024)(i:Nat)(hi:i≤s.length)(d:Str):∃a c w,afa FU (s,(i:Int)) (d,nilU,[])=some (a,(tgtP s i).1,c,w)∧((tgtP s i).1=0→c=(s,((tgtP s i).2.2:Int))∧w=(d,(tgtP s i).2.1,[])∧(tgtP s i).2.2≤s.length):=by
 have fin:∀(b e k:Nat),b≤e→e≤s.length→k≤s.length→k≤1025→∃a c w,(gd (0≤(b:Int)∧(b:Int)≤(e:Int)∧(e:Int)≤(s.length:Int))<|((amt FU (sub s (b:Int) (e:Int))).bind fun(y60:UU×Int×UInt8)=>(if y60.2.2=(0:UInt8)then some ((0:Int),(0:UInt8),(s,(k:Int)),(d,y60.1,([]:List PP)))else(gd (aay ((b:Int)+y60.2.1))<|some ((b:Int)+y60.2.1,y60.2.2,(s,(i:Int)),(d,nilU,([]:List PP)))))))=some (a,(ape (sub s (b:Int) (e:Int))).1,c,w)∧((ape (sub s (b:Int) (e:Int))).1=0→c=(s,(k:Int))∧w=(d,(ape (sub s (b:Int) (e:Int))).2,[])∧k≤s.length):=by
  intro b e k hb he hk hk2
  obtain⟨a,ha0,ha1,ha⟩:=parse_eq (sub s (b:Int) (e:Int))
  have hsl:=sub_le s (b:Int) (e:Int)
  rw [aab (by omega),ha,zaa]
  dsimp only
  by_cases h0:(ape (sub s (b:Int) (e:Int))).1=0
  ·rw [if_pos h0,h0]
   exact⟨_,_,_,rfl,fun _=>⟨rfl,rfl,hk⟩⟩
  ·rw [if_neg h0,aab (aen _ (by omega) (by omega))]
   exact⟨_,_,_,rfl,fun h=>absurd h h0⟩
 unfold afa tgtP
 rw [anf,zaa]
 dsimp only
 cases hz:aea s i 60 with
 |true=>
  have hlt:=(akc hz).1
  have hu1:=utl_ge [62] s (i+1)
  have hu2:=arv [62] s (i+1) hlt
  rw [cond_true,if_pos rfl,aab (aen _ (by omega) (by omega)),agc,aqu s (by omega) (i+1) hlt _ (by decide) (by decide),zaa]
  by_cases he:utl [62] s (i+1)=s.length
  ·rw [if_pos (by omega),if_pos he,zaa,Sum.elim_inr]
   exact⟨_,_,_,rfl,fun h=>absurd h (show¬(5:UInt8)=0 by decide)⟩
  ·rw [if_neg (by omega),if_neg he,aab (aen _ (by omega) (by omega)),zaa,zaI]
   exact fin (i+1) (utl [62] s (i+1)) (utl [62] s (i+1)+1) hu1 hu2 (by omega) (by omega)
 |false=>
  have hu1:=utl_ge [59,32,9] s i
  have hu2:=arv [59,32,9] s i hi
  rw [cond_false,if_neg (by decide),aqu s (by omega) i hi _ (by decide) (by decide),zaa,aqu s (by omega) i hi _ (by decide) (by decide),zaa]
  by_cases he:utl [63,44] s i<utl [59,32,9] s i
  ·rw [if_pos (by omega),if_pos he,zaa,Sum.elim_inr]
   exact⟨_,_,_,rfl,fun h=>absurd h (show¬(5:UInt8)=0 by decide)⟩
  ·rw [if_neg (by omega),if_neg he,zaa,zaI]
   exact fin i (utl [59,32,9] s i) (utl [59,32,9] s i) hu1 hu2 hu2 (by omega)
theorem contains60(s:Str):Lib.contains s [60]=apy s 60:=contains_any s 60
theorem parseAddr_eq(s:Str):∃a,aig FU s=some ((adrP s).2,a,(adrP s).1):=by
 unfold aig adrP
 by_cases hl:1024<s.length
 ·rw [if_pos (by omega),if_pos hl]
  exact⟨_,rfl⟩
 ·rw [if_neg (by omega),if_neg hl,aof s (by omega),zaa]
  have hb:=ada aah s 0
  generalize aax aah s 0=b at hb⊢
  have hdisp:∃a c w,((((aad FU (s,(b:Int)) (34:UInt8)).bind fun(y102:Bool)=>(bif y102 then((afb FU (s,(b:Int)) (([]:Str),(([]:Str),([]:Str),([]:Str),(0:Int),([]:List PP),([]:List PP)),([]:List PP))).bind fun(y109:(Int×UInt8×(Str×Int)×AA))=>some (y109.1,y109.2.1,y109.2.2.1.1,y109.2.2.1.2,y109.2.2.2.1,y109.2.2.2.2.1.1,y109.2.2.2.2.1.2.1,y109.2.2.2.2.1.2.2.1,y109.2.2.2.2.1.2.2.2.1,y109.2.2.2.2.1.2.2.2.2.1,y109.2.2.2.2.1.2.2.2.2.2,y109.2.2.2.2.2))else(gd (s.length≤1000000000)<|(bif (Lib.contains s ([60]:Str))then((acg FU (s,(b:Int)) (([]:Str),(([]:Str),([]:Str),([]:Str),(0:Int),([]:List PP),([]:List PP)),([]:List PP))).bind fun(y138:(Int×UInt8×(Str×Int)×AA))=>some (y138.1,y138.2.1,y138.2.2.1.1,y138.2.2.1.2,y138.2.2.2.1,y138.2.2.2.2.1.1,y138.2.2.2.2.1.2.1,y138.2.2.2.2.1.2.2.1,y138.2.2.2.2.1.2.2.2.1,y138.2.2.2.2.1.2.2.2.2.1,y138.2.2.2.2.1.2.2.2.2.2,y138.2.2.2.2.2))else some ((0:Int),(0:UInt8),s,(b:Int),([]:Str),([]:Str),([]:Str),([]:Str),(0:Int),([]:List PP),([]:List PP),([]:List PP))))))):Option (Int×UInt8×Str×Int×Str×Str×Str×Str×Int×(List PP)×(List PP)×(List PP)))
    =some (a,(aqx s b).1,c,w)∧((aqx s b).1=0→c=s∧w=(((aqx s b).2.2:Int),(aqx s b).2.1,[],[],[],0,[],[],[])):=by
   have hle:=dispP_le s b hb
   rw [anf,zaa]
   unfold aqx at hle⊢
   cases hz:aea s b 34 with
   |true=>
    rw [hz,if_pos rfl]at hle
    rw [cond_true,if_pos rfl]
    unfold afb
    dsimp only
    rw [unquote_eq s (by omega),zaa]
    by_cases h0:(asi s (b:Int)).2.2=0
    ·rw [if_pos h0]at hle
     rw [if_pos h0,if_pos h0,aof s (by omega),zaa,anf,zaa]
     cases h60:aea s (aax aah s (asi s (b:Int)).2.1) 60 with
     |true=>
      rw [zaC,cond_false,zaa,if_pos rfl]
      exact⟨_,_,_,rfl,fun _=>⟨rfl,rfl⟩⟩
     |false=>
      rw [zaN,cond_true,zaa,if_neg (by decide)]
      exact⟨_,_,_,rfl,fun h=>absurd h (show¬(5:UInt8)=0 by decide)⟩
    ·rw [if_neg h0,if_neg h0,zaa]
     exact⟨_,_,_,rfl,fun h=>absurd h h0⟩
   |false=>
    rw [cond_false,if_neg (by decide),aab (by omega),contains60]
    cases h60:apy s 60 with
    |true=>
     obtain⟨a,c,w,e,h⟩:=plain_eq2 s (by omega) b hb
     rw [cond_true,if_pos rfl]
     have e':acg FU (s,(b:Int)) (([]:Str),(([]:Str),([]:Str),([]:Str),(0:Int),([]:List PP),([]:List PP)),([]:List PP))=some (a,(anv s (s.length+1) b []).1,c,w):=e
     rw [e',zaa]
     refine⟨_,_,_,rfl,fun h0=> ?_⟩
     obtain⟨rfl,rfl⟩:=h h0
     exact⟨rfl,rfl⟩
    |false=>
     rw [cond_false,if_neg (by decide)]
     exact⟨_,_,_,rfl,fun _=>⟨rfl,rfl⟩⟩
  obtain⟨a,c,w,e,h⟩:=hdisp
  have hle:=dispP_le s b hb
  dsimp only
  rw [e,zaa]
  dsimp only
  generalize aqx s b=D at h hle⊢
  by_cases h0:D.1=0
  ·obtain⟨rfl,rfl⟩:=h h0
   rw [if_pos h0,if_pos h0]
   obtain⟨a2,c2,w2,e2,h2⟩:=tgt_eq c (by omega) D.2.2 hle D.2.1
   have e2':afa FU (c,(D.2.2:Int)) (D.2.1,(([]:Str),([]:Str),([]:Str),(0:Int),([]:List PP),([]:List PP)),([]:List PP))=some (a2,(tgtP c D.2.2).1,c2,w2):=e2
   rw [e2',zaa,zaa]
   dsimp only
   generalize tgtP c D.2.2=G at h2⊢
   by_cases h1:G.1=0
   ·obtain⟨rfl,rfl,h3⟩:=h2 h1
    rw [if_pos h1,if_pos h1]
    dsimp only
    obtain⟨hpa,hpb⟩:=parP_at (c.drop G.2.2) (by rw [zat];omega)
    rw [aab (by omega),zaw,params_eq _ (by rw [zat];omega),zaa,aab (aen _ (by omega) (by rw [zat]at hpb;omega)),zaa]
    dsimp only
    by_cases h4:(parP (c.drop G.2.2)).2.2=0
    ·rw [if_pos h4,if_pos h4]
     exact⟨_,rfl⟩
    ·rw [if_neg h4,if_neg h4]
     exact⟨_,rfl⟩
   ·rw [if_neg h1,if_neg h1,zaa]
    dsimp only
    rw [if_neg h1]
    exact⟨_,rfl⟩
  ·rw [if_neg h0,if_neg h0,zaa]
   dsimp only
   rw [if_neg h0,zaa]
   dsimp only
   rw [if_neg h0]
   exact⟨_,rfl⟩
theorem setP_app:∀(pre r:List PP) (nm v:Str),(∀p∈pre,¬aaj p.1=nm)→setP (pre++r) nm v=pre++setP r nm v
 |[],r,nm,v,_=>rfl
 |p::pre,r,nm,v,h=>by
  rw [zaY,setP,if_neg (h p zah),setP_app pre r nm v (fun q hq=>h q (zaf _ hq))];rfl
theorem set_at(P S:List PP)(x y:PP):zaE (P++x::S) (zaj (P.length:Int)) y=P++y::S:=by
 rw [zaw,List.set_append_right _ _ (zap _),Nat.sub_self];rfl
theorem set_lp(l:List PP)(hl:l.length≤1000)(hn:∀p∈l,p.1.length≤4194304)(nm v:Str):∀(r pre:List PP) (fk:Nat),l=pre++r→(∀p∈pre,¬aaj p.1=nm)→r.length<fk→
  anc FU l v nm fk (pre.length:Int)=some (if r.any (fun p=>decide (aaj p.1=nm))=true then .inr (pre++setP r nm v)else .inl ())
 |[],pre,fk,h,hp,hf=>by
  obtain⟨fk,rfl⟩:=fkx fk
  rw [zam]at h
  rw [ars,amd,if_neg (by rw [h];omega)];rfl
 |p::r,pre,fk,h,hp,hf=>by
  obtain⟨fk,rfl⟩:=fkx fk
  have hlen:l.length=pre.length+(r.length+1):=by rw [h,zac,zad]
  have hel:el l (pre.length:Int)=p:=by rw [h];exact el_at pre r p
  have hin:0≤(pre.length:Int)∧(pre.length:Int)<(l.length:Int):=by omega
  rw [ars,amd,if_pos hin.2,aab hin,aab hin,hel,aix _ (hn p (by rw [h];simp)),zaa,zbs]
  by_cases he:aaj p.1=nm
  ·have hs1:∀y,zaE l (zaj (pre.length:Int)) y=pre++y::r:=fun y=>by rw [h];exact set_at pre r p y
   have hl2:∀y:PP,0≤(pre.length:Int)∧(pre.length:Int)<((pre++y::r).length:Int):=fun y=>by rw [zac,zad];omega
   rw [if_pos he,aab hin,aab hin,hs1,aab (hl2 _),aab (hl2 _),el_at,set_at,decide_eq_true he,Bool.true_or,if_pos rfl,setP,if_pos he]
  ·rw [if_neg he,aab (aen _ (by omega) (by omega)),decide_eq_false he,Bool.false_or]
   have:=set_lp l hl hn nm v r (pre++[p]) fk (by rw [h];simp) (fun q hq=>by
    rcases List.mem_append.1 hq with h|h
    ·exact hp q h
    ·rw [List.mem_singleton.1 h];exact he) (by simp only [zad]at hf;omega)
   rw [show((pre++[p]).length:Int)=(pre.length:Int)+1 by rw [zac,zae];rfl]at this
   rw [this,setP,if_neg he,zaq];rfl
theorem setP_no(l:List PP)(nm v:Str)(h:l.any (fun p=>decide (aaj p.1=nm))=false):setP l nm v=l++[(nm,v,true)]:=by
 have:=setP_app l [] nm v (fun p hp e=>by
  rw [List.any_eq_false]at h
  exact h p hp (decide_eq_true e))
 rw [zam]at this
 exact this
theorem set_eq(l:List PP)(hl:l.length≤1000)(hn:∀p∈l,p.1.length≤4194304)(name v:Str)(hm:name.length≤4194304):aqz FU l name v=some (setP l (aaj name) v):=by
 have h:=set_lp l hl hn (aaj name) v l [] FU rfl (fun p hp=>by cases hp) (by rw [amu];omega)
 unfold aqz
 rw [aix _ hm,zaa,aab (by omega)]
 rw [show(0:Int)=(([]:List PP).length:Int)from rfl,h,zaa]
 cases ha:l.any (fun p=>decide (aaj p.1=aaj name))with
 |true=>rw [if_pos rfl,Sum.elim_inr];rfl
 |false=>rw [if_neg (by decide),zaI,aab (by rw [zae];omega),setP_no l _ v ha]
theorem printAddr_eq(a:AA)(hg:Good a.2.1)(hs:Sml a.2.1)(hd:a.1.length≤4194304)(hl:a.2.2.length<20)(hb:∀p∈a.2.2,p.1.length≤4194304∧p.2.1.length≤4194304):afp FU a=some (prA a):=by
 have hb2:∀p∈agl a.2.2,p.1.length≤4194304∧p.2.1.length≤4194304:=fun p hp=>hb p (isort_mem _ p hp)
 have hul:=prU_len a.2.1 hg hs
 have hpl:=ppM_len (agl a.2.2) hb2
 have hql:=quoT_len a.1
 unfold afp prA
 rw [quote_eq _ hd,zaa]
 cases hc:a.1.any aas with
 |true=>
  have hq:quoM a.1=([],5):=by unfold quoM;rw [hc,if_pos rfl]
  rw [hq,if_neg (show¬(5:UInt8)=0 by decide),if_neg (show¬(true=false∧(ppM (agl a.2.2)).2=0)from fun h=>absurd h.1 (by decide))]
 |false=>
  have hq:quoM a.1=(quoT a.1,0):=by unfold quoM;rw [hc,if_neg (by decide)]
  rw [hq,if_pos rfl,print_eq _ hg hs,zaa,if_pos rfl,asorted_eq _ hl,zaa,printParams_eq _ hb2,zaa]
  dsimp only
  by_cases h0:(ppM (agl a.2.2)).2=0
  ·rw [if_pos h0,if_pos (show false=false∧(ppM (agl a.2.2)).2=0 from⟨rfl,h0⟩)]
   unfold dsT
   by_cases hd0:a.1=[]
   ·rw [if_pos hd0,if_pos hd0,aab (by rw [zae];omega),aab (by simp only [zac,zae];omega),aab (by simp only [zac,zae];omega)]
    simp
   ·have h2:([32,60]:Str).length=2:=rfl
    rw [if_neg hd0,if_neg hd0,aab (by omega),aab (by rw [zac];omega),aab (by simp only [zac,zae];omega),aab (by simp only [zac,zae];omega)]
    simp
  ·rw [if_neg h0,if_neg (show¬(false=false∧(ppM (agl a.2.2)).2=0)from fun h=>h0 h.2)]
theorem hAddr_eq(v:Str)(hv:v.length≤4194304):afh FU v=some ((adrP (apj v)).2,(adrP (apj v)).1):=by
 obtain⟨a,e⟩:=parseAddr_eq (apj v)
 unfold afh
 rw [trim_eq v hv,zaa,e,zaa]
def uriH(v:Str):Str×UInt8:=if(adrP (apj v)).1=0 then(prU (adrP (apj v)).2.2.1,0)else([],(adrP (apj v)).1)
theorem hUri_eq(v:Str)(hv:v.length≤4194304):aqf FU v=some (uriH v):=by
 unfold aqf uriH
 rw [hAddr_eq v hv,zaa]
 dsimp only
 by_cases h:(adrP (apj v)).1=0
 ·rw [if_pos h,if_pos h,print_eq _ (adr_good _ h).1 ((adr_sml _).1.sml (by decide)),zaa]
 ·rw [if_neg h,if_neg h]
theorem hGet_eq(v:Str)(h:(adrP (apj v)).1=0)(name:Str)(hn:name.length≤4194304):ajo FU (adrP (apj v)).2.2.2 name=some (getP (adrP (apj v)).2.2.2 name):=by
 obtain⟨_,h2,h3⟩:=adr_good _ h
 exact get_eq _ (by omega) (fun p hp=>(h3 p hp).2) name hn
def TAGN:Str:=[116,97,103]
def tagH(v:Str):Str:=if(adrP (apj v)).1=0 then(getP (adrP (apj v)).2.2.2 TAGN).1 else []
theorem hTag_eq(v:Str)(hv:v.length≤4194304):aqg FU v=some (tagH v):=by
 unfold aqg tagH
 rw [hAddr_eq v hv,zaa]
 dsimp only
 by_cases h:(adrP (apj v)).1=0
 ·rw [if_pos h,if_pos h,show([116,97,103]:Str)=TAGN from rfl,hGet_eq v h TAGN (by decide),zaa]
 ·rw [if_neg h,if_neg h]
theorem awake_true:aow FU=some true:=by kernel_rfl
theorem hParam_eq(v:Str)(hv:v.length≤4194304)(h:(adrP (apj v)).1=0)(name:Str)(hn:name.length≤4194304):ann FU v name=some (getP (adrP (apj v)).2.2.2 name):=by
 unfold ann
 rw [hAddr_eq v hv,zaa]
 dsimp only
 rw [if_pos h,hGet_eq v h name hn,zaa]
theorem plain_HeaderTagged(a b:Str)(h:a.length+b.length≤1048576):akf FU a b=some true:=by
 unfold akf
 rw [hAddr_eq a omg,zaa,hUri_eq a omg,zaa]
 dsimp only
 by_cases h0:(adrP (apj a)).1=0
 ·have hu:uriH a=(prU (adrP (apj a)).2.2.1,0):=if_pos h0
  obtain⟨hg,hl,hn⟩:=adr_good _ h0
  obtain⟨hs,hd,hz⟩:=adr_sml (apj a)
  rw [if_pos h0,hu,if_pos rfl]
  generalize(adrP (apj a)).2=A at hg hl hn hs hd hz⊢
  obtain⟨d,u,l⟩:=A
  dsimp only at hg hl hn hs hd hz⊢
  have htg:aaj TAGN=TAGN:=rfl
  rw [show([116,97,103]:Str)=TAGN from rfl,set_eq l omg (fun p hp=>(hn p hp).2) TAGN b (by decide),zaa,htg]
  have hsl:=setP_len l TAGN b
  have hsb:∀p∈setP l TAGN b,p.1.length≤4194304∧p.2.1.length≤4194304:=by
   intro p hp
   have h3:TAGN.length=3:=rfl
   rcases setP_all l TAGN b p hp with h1|⟨h1,h2|⟨q,hq,h2⟩⟩
   ·have:=hz p h1
    omega
   ·rw [h1,h2];omega
   ·rw [h1,←h2]
    have:=hz q hq
    omega
  have hmem:=setP_mem l TAGN b (fun p hp=>(hn p hp).1)
  generalize setP l TAGN b=S at hsl hsb hmem⊢
  rw [printAddr_eq (d,u,S) hg (hs.sml (by decide)) (show d.length≤4194304 by omega) (show S.length<20 by omega) hsb,zaa]
  by_cases h1:(prA (d,u,S)).2=0
  ·rw [if_pos h1,zaa]
   by_cases h2:1024<(prA (d,u,S)).1.length
   ·rw [decide_eq_true omg,cond_true,awake_true];rfl
   ·obtain⟨b1,b2,b3⟩:=addr_back d u S hg h1 omg
    obtain⟨c1,c2⟩:=ppL_dst _ _ _ b3
    have hget:=get_mem (agl S) c1 (fun p hp=>(c2 p hp).2) (TAGN,b,true) ((apr S).mem_iff.2 hmem)
    have hget2:getP (agl S) [84,65,71]=(b,true):=hget
    generalize prA (d,u,S)=t at b1 b2 h2⊢
    have hp:ann FU t.1 [84,65,71]=some (b,true):=by rw [hParam_eq t.1 omg (by rw [b2,b1]) _ (by decide),b2,b1,hget2]
    have hu2:uriH t.1=(prU u,0):=by unfold uriH;rw [b2,b1];exact if_pos rfl
    have ht2:tagH t.1=b:=by unfold tagH;rw [b2,b1];exact(if_pos rfl).trans (by rw [hget])
    rw [decide_eq_false omg,cond_false,hUri_eq t.1 omg,hu2,zaa,hp,zaa]
    dsimp only
    rw [if_pos rfl,if_pos rfl,hTag_eq t.1 omg,ht2,zaa,if_pos rfl,if_pos rfl,cond_true,awake_true]
    rfl
  ·rw [if_neg h1,zaa,cond_true,awake_true];rfl
 ·have hu:uriH a=([],(adrP (apj a)).1):=if_neg h0
  have ht:tagH a=[]:=if_neg h0
  rw [if_neg h0,hu]
  dsimp only
  rw [if_pos rfl,if_pos rfl,hTag_eq a omg,ht,zaa,if_pos rfl,awake_true]
  rfl
end Go.Wk
