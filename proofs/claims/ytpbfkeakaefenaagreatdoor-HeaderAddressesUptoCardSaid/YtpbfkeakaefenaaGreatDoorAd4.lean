/-
  The law HeaderAddresses (part 4 of 8).
-/
import Derived.Test.YtpbfkeakaefenaaGreatDoorAd3
import Derived.Orders
import GoSem.Core.Utf8
set_option linter.unusedVariables false
set_option linter.unusedSimpArgs false
namespace Go.Oe
open Go.Wk
open Go.Ce (Tr)
open Go.Value renaming ownBlock → zaQ
open List renaming length → zaZ, length_map → zaF, length_nil → zal, mem_append_left → zbb, mem_append_right → zaY, mem_cons_of_mem → zag, mem_cons_self → zah, nil_append → zaH
open Nat renaming le_refl → zam, zero_add → zba, zero_le → zak
open Option renaming map_some → zaP
theorem map_some{α β:Type}{f:α→β}{l:List α}{j:Nat}{r:β}(h:(l.map f)[j]? =some r):∃x,l[j]? =some x∧f x=r:=by
 rw [List.getElem?_map]at h
 cases hs:l[j]? with
 |none=>rw [hs]at h;cases h
 |some x=>rw [hs]at h;exact⟨x,rfl,Option.some.inj h⟩
theorem own_uniq{w0 w:World}{S0:List Nat}{L:List Res}(hH:Hp w0 S0 L w){i j b:Nat}{r r2:Res}(h:L[i]? =some r)(h2:L[j]? =some r2)(hr:r.own=some b)(hr2:r2.own=some b):i=j:=by
 obtain⟨hl1,e1⟩:=List.getElem?_eq_some_iff.1 h
 obtain⟨hl2,e2⟩:=List.getElem?_eq_some_iff.1 h2
 have hs:=List.pairwise_iff_getElem.1 hH.sep
 rcases Nat.lt_trichotomy i j with hlt|he|hgt
 ·exact absurd (by rw [e2];exact hr2) (hs i j hl1 hl2 hlt b (by rw [e1];exact hr))
 ·exact he
 ·exact absurd (by rw [e1];exact hr) (hs j i hl2 hl1 hgt b (by rw [e2];exact hr2))
theorem sok_f{ρ ρ2:Nat→Ad}{H:List Ob}{s:Src}{o:Ob}(h:SOk true ρ H ρ2 s o)(hn:∀(t:Ty) (l:List t.T),o≠.ro t l):SOk false ρ H ρ2 s o:=by
 cases o with
 |ro t l=>exact absurd rfl (hn t l)
 |_=>exact h
theorem sokC_len{ρ ρ2:Nat→Ad}{H:List Ob}(hl:Lns ρ H)(hb:Brk H){s:Src}{o:Ob}(h:SOk true ρ H ρ2 s o):o.len=(s.ad ρ).ln:=by
 cases o with
 |ro t l=>
  rcases h with⟨id,rfl,h1⟩|⟨rfl,rfl⟩|⟨_,id,m,e,cs,rfl,h1,h2⟩
  ·obtain⟨ob,h2,h3⟩:=anyOf_len (fun m x hx=>hb id m x hx) (show anyOf t H[id]? =some l from h1)
   have:=hl id ob h2
   show l.length=(ρ id).ln
   rw [←h3];exact this
  ·rfl
  ·exact(atr h2).1
 |_=>exact sok_len hl hb (sok_f h (fun t l e=>by cases e))
theorem ro_any{w0 w1:World}{S0 S1:List Nat}{ρ:Nat→Ad}{id:Nat}{o:Ob}{r:Res}(h:RO w0 S0 ρ id o r)(hn:∀(t:Ty) (l:List t.T),o≠.ro t l):RO w1 S1 ρ id o r:=by
 cases o with
 |ro t l=>exact absurd rfl (hn t l)
 |_=>exact h
theorem sokC_ro{w0 w:World}{S0 S1:List Nat}{ρ ρ2:Nat→Ad}{H:List Ob}{L:List Res}(hH:Hp w0 S0 L w)(hM:Mt w0 S0 ρ H L)(hX:∀b∈S1,w0.heap.size≤b∨b∈S0){s:Src}{o:Ob}{k:Nat}(hB:∀id∈s.bor,∀(r:Res) (b:Nat),L[id]? =some r→r.own=some b→b∉S1)(h:SOk true ρ H ρ2 s o)(hk:ρ2 k=s.ad ρ):
  ∃r,RO w S1 ρ2 k o r∧r.holds w∧∀b,r.own=some b→∃i ri,s.ow=some i∧L[i]? =some ri∧ri.own=some b:=by
 cases o with
 |ro t l=>
  refine⟨nores,⟨rfl, ?_⟩,trivial,fun b hb=>by cases hb⟩
  rw [hk]
  rcases h with⟨id,rfl,h1⟩|⟨rfl,rfl⟩|⟨_,id,m,e,cs,rfl,h1,h2⟩
  ·have h1:anyOf t H[id]? =some l:=h1
   have hB:=hB id (by simp [Src.bor])
   show ROk w S1 (ρ id) t l
   unfold anyOf at h1
   split at h1
   ·rename_i e b t2 l2 hb
    split at h1
    ·rename_i hq
     obtain rfl:=Ty.eqb_eq hq
     cases h1
     obtain⟨_,r,hr,he⟩:=hM.2 id _ hb
     have he:r=rwt t2.enc e t2.sz (ρ id).o (ρ id).a (ρ id).cap l2:=he
     subst he
     refine⟨hH.rdrw id hr,fun hne p hp=> ?_,hH.rwcap id hr⟩
     have hl2:l2≠[]:=fun e=>by rw [e]at hne;exact hne rfl
     obtain⟨h6,_⟩:=hH.res _ (List.mem_of_getElem? hr)
     rcases h6 with⟨_,h8,_⟩|⟨g,cur,h7,h8,_⟩
     ·exact absurd h8 hl2
     ·rw [hp]at h8
      cases h8
      exact hB _ _ hr h7
    ·cases h1
   ·rename_i t2 l2 hb
    split at h1
    ·rename_i hq
     obtain rfl:=Ty.eqb_eq hq
     cases h1
     obtain⟨_,r,hr,_,hro,hne,hcap⟩:=hM.2 id _ hb
     refine⟨hro.hpN hH hne,fun hn p hp hS1=> ?_,hcap⟩
     have hpS:=hne hn p hp
     rcases hX _ hS1 with h3|h3
     ·obtain⟨v,hv⟩:∃v,(l2.flatMap t2.enc)[0]? =some v:=by
       cases hq:l2.flatMap t2.enc with
       |nil=>exact absurd hq hn
       |cons v vs=>exact⟨v,rfl⟩
      obtain⟨p2,h4,h5⟩:=hro 0 v hv
      rw [hp]at h4
      cases h4
      have:=cell_lt h5
      rw [add_block]at this
      omega
     ·exact hpS h3
    ·cases h1
   ·rename_i m l2 hb
    unfold strOf at h1
    split at h1
    ·rename_i hq
     obtain rfl:=Ty.eqb_eq hq
     cases h1
     obtain⟨_,r,hr,he⟩:=hM.2 id _ hb
     have he:r=brow (.slice (ρ id).a m (ρ id).cap) m l2:=he
     subst he
     obtain⟨⟨h5,g,cap,cur,e,fz,h6,h7,h8,_⟩,_⟩:=hH.res _ (List.mem_of_getElem? hr)
     simp only [Value.slice.injEq]at h6
     refine⟨Rd.ofbytes (hH.rdbrow id hr),fun hn p hp=> ?_, ?_⟩
     ·rw [h6.1]at hp
      cases hp
      exact hB _ g hr (by simp [brow,zaQ,h6.1])
     ·show l2.length≤(ρ id).cap
      rw [h5,h6.2.2];exact h8
    ·cases h1
   ·cases h1
  ·exact⟨Rd.nil _ _,fun h=>absurd rfl h,zak _⟩
  ·obtain⟨_,r,hr,vs,rfl,hm⟩:=hM.2 id _ h1
   obtain⟨h3,_,h4⟩:=atr h2
   have h5:=hm.all (rdAll_kn h2)
   refine⟨?_,fun hn p hp=> ?_,by rw [h3];exact zam _⟩
   ·rw [←h4 ρ,←h5];exact hH.rdblk id hr
   ·cases hp
    exact hB id (by simp [Src.bor]) _ _ hr rfl
 |_=>
  obtain⟨r,h1,h2,h3⟩:=sok_ro hH hM (sok_f h (fun t l e=>by cases e)) hk
  exact⟨r,ro_any h1 (fun t l e=>by cases e),h2,h3⟩
theorem sok_own{ρ ρ2:Nat→Ad}{H:List Ob}{s:Src}{o:Ob}{id:Nat}(h:SOk true ρ H ρ2 s o)(ho:s.ow=some id):
  (s=.o' id true∧((∃e cs cs1,o=.bl e cs∧H[id]? =some (.bl e cs1)∧cs1.map (SC.v ρ)=cs.map (SC.v ρ2)∧(∀c∈cs1,c.kn=true)∧∀c∈cs,c.kn=true)∨(∃e b t l,o=.rw e b t l∧H[id]? =some (.rw e b t l))∨∃n l m,o=.br n l∧n=l.length∧H[id]? =some (.br m l)))∨
  ∃m e b t l cs,s=.k' id m true∧o=.rw e b t l∧H[id]? =some (.bl e cs):=by
 cases o with
 |bl e cs=>
  obtain⟨i,cs1,rfl,h1⟩:=h
  cases ho
  exact .inl ⟨rfl,.inl ⟨e,cs,cs1,rfl,h1⟩⟩
 |rw e b t l=>
  rcases h with⟨i,rfl,h1⟩|⟨rfl,_⟩|⟨i,m,cs,rfl,h1,_⟩
  ·cases ho;exact .inl ⟨rfl,.inr (.inl ⟨e,b,t,l,rfl,h1⟩)⟩
  ·cases ho
  ·cases ho;exact .inr ⟨m,e,b,t,l,cs,rfl,rfl,h1⟩
 |ro t l=>rcases h with⟨i,rfl,_⟩|⟨rfl,_⟩|⟨_,i,m,e,cs,rfl,_⟩<;>cases ho
 |br n l=>
  obtain⟨h1,i,m,rfl,h2⟩:=h
  cases ho
  exact .inl ⟨rfl,.inr (.inr ⟨n,l,m,rfl,h1,h2⟩)⟩
 |dd n=>rcases h with⟨_,⟨t,rfl⟩|⟨fl,rfl,_⟩⟩<;>cases ho
theorem eqv_ro{w w0:World}{S S0:List Nat}{ρ2 ρ3:Nat→Ad}{j id:Nat}{o o3:Ob}{r:Res}(h:Eqv ρ2 ρ3 o o3)(hk:ρ3 id=ρ2 j)(hn:∀(t:Ty) (l:List t.T),o≠.ro t l)(hr:RO w S ρ2 j o r):RO w0 S0 ρ3 id o3 r:=by
 cases o with
 |bl e cs=>
  obtain⟨cs2,rfl,h1,h2⟩:=h
  obtain⟨vs,rfl,h3,h4⟩:=hr
  have hl:cs.length=cs2.length:=by simpa using congrArg zaZ h1
  refine⟨vs,by rw [hk],by rw [h3,hl],fun i c2 hi hkn=> ?_⟩
  have hlt:=(List.getElem?_eq_some_iff.1 hi).1
  have hc:cs[i]? =some (cs[i]'(by omega)):=List.getElem?_eq_getElem (by omega)
  rw [h4 i _ hc (by rw [h2 i _ c2 hc hi];exact hkn)]
  have h5:=congrArg (fun l=>l[i]?) h1
  simp only [List.getElem?_map,hc,hi,zaP]at h5
  exact h5
 |rw e b t l=>
  have h:o3=Ob.rw e b t l:=h
  subst h
  show r=_
  rw [hk];exact hr
 |ro t l=>exact absurd rfl (hn t l)
 |br n l=>
  have h:o3=Ob.br n l:=h
  subst h
  show r=_
  rw [hk];exact hr
 |dd n=>
  have h:o3=Ob.dd n:=h
  subst h
  trivial
theorem borS_mem{ss:List Src}{j id:Nat}{s:Src}(h:ss[j]? =some s)(hb:id∈s.bor):id∈borS ss:=by
 induction ss generalizing j with
 |nil=>simp at h
 |cons x ss ih=>
  show id∈x.bor++borS ss
  cases j with
  |zero=>
   have e:x=s:=by simpa using h
   subst e;exact zbb _ hb
  |succ j=>exact zaY _ (ih (by simpa using h))
def rOf(L:List Res):Option Nat→Res
 |some id=>(L[id]?).getD nores
 |none=>nores
theorem resV_rel{ρ ρ2:Nat→Ad}{l l2:List SA}{v:Value}(h:l.map (SA.v ρ)=l2.map (SA.v ρ2))(hv:(resV l).v ρ=some v):(resV l2).v ρ2=some v:=by
 match l,l2,h with
 |[],[],_=>exact hv
 |[x],[y],h=>
  have h:x.v ρ=y.v ρ2:=by simpa using h
  show y.sv.v ρ2=some v
  rw [SA.sv_v,←h,←SA.sv_v];exact hv
 |x::y::l,u::z::l2,h=>
  show some (Value.tuple ((u::z::l2).map (SA.v ρ2)).toArray)=some v
  rw [←h];exact hv
 |[],_::_,h=>simp at h
 |_::_,[],h=>simp at h
 |[_],_::_::_,h=>simp at h
 |_::_::_,[_],h=>simp at h
theorem resV_ok{l:List SA}{n:Nat}(h:∀v∈l,v.ok n):(resV l).ok n:=by
 match l,h with
 |[],_=>exact fun x hx=>by cases hx
 |[x],h=>exact SA.sv_ok (h x zah)
 |x::y::l,h=>exact fun z hz=>h z hz
section
variable {C : Cx} {md : Md} {w0 w : World} {S0 : List Nat} {ρ : Nat → Ad} {S : St} {F : Nat → Value} {GS : Glo}
theorem gw_now{L:List Res}{S1:List Nat}(hG:Gw GS w0 S0)(hH:Hp w0 S0 L w)(hX:∀b∈S1,w0.heap.size≤b∨b∈S0):Gw GS w S1:=GS.st hH hG hX
theorem call_ok(hS:Rel C w0 S0 ρ S F w)(hG:Gw GS w0 S0){c:Con}{k:Nat}(hF:FOk C.P GS k c){vs:List SV}{a:(tupT c.a).T}{ss:List Src}{y:(resT c.r).T}(h:rdA S.H c.a vs=some (a,ss))(hok:callOk c S a ss=true)(hy:(c.f a).ok y):
  ∃us,vs.map (SV.v ρ)=us.map some∧CR C.P k us w fun v w2=>∃ρ3,∀d:Option Nat,Rel C w0 S0 ρ3 (callS c S d a ss y) (match d with
   |some d=>upd F d v
   |none=>F) w2∧Nx S ρ (callS c S d a ss y) ρ3:=by
 obtain⟨L,hH,hM⟩:=hS.mem
 have hln:=rel_lns hS
 have hbr:=rel_brk hS
 unfold callOk at hok
 have hok:=aex hok
 have hnod:=nodN_iff.1 hok.1
 have hok:=aex hok.2
 have hdis:=disN_iff.1 hok.1
 have hok:=aex hok.2
 have hrk:=hok.1
 have hoks:=hok.2
 obtain⟨obs,h1,h2,h3,h4,h5⟩:=rdA_ok hbr c.a vs a ss [] h
 rw [zaH]at h1
 let ρc:Nat→Ad:=fun j=>match ss[j]? with
  |some s=>s.ad ρ
  |none=>⟨none,none,0,false,0⟩
 have hρc:∀(j:Nat) (s:Src),ss[j]? =some s→ρc j=s.ad ρ:=fun j s hj=>by simp only [ρc,hj]
 obtain⟨⟨us,h6,h7⟩,h8⟩:=h5 ρ ρc (fun j s hj=>by
  rw [zal,zba];exact hρc j s hj)
 refine⟨us,h6, ?_⟩
 have hlenL:=hM.1
 let L1:List Res:=ss.map fun s=>rOf L s.ow
 let Lr:List Res:=(List.range S.H.length).map fun id=>bif aws id (ownS ss)then nores else(L[id]?).getD nores
 have hL1:L1.length=ss.length:=by simp [L1]
 have hLr:Lr.length=S.H.length:=by simp [Lr]
 have own1:∀(j:Nat) (r:Res) (b:Nat),L1[j]? =some r→r.own=some b→∃s id ri,ss[j]? =some s∧s.ow=some id∧L[id]? =some ri∧ri.own=some b∧r=ri:=by
  intro j r b hj hb
  obtain⟨s,h9,h10⟩:=map_some hj
  subst h10
  cases ho:s.ow with
  |none=>rw [ho]at hb;cases hb
  |some id=>
   cases hl:L[id]? with
   |none=>
    have e:rOf L s.ow=nores:=by rw [ho];show(L[id]?).getD nores=_;rw [hl];rfl
    rw [e]at hb;cases hb
   |some ri=>
    have e:rOf L (some id)=ri:=by show(L[id]?).getD nores=_;rw [hl];rfl
    rw [ho]at hb
    exact⟨s,id,ri,h9,ho,hl,by rw [←e];exact hb,e⟩
 have hp1:Hp w0 S0 (L1++Lr) w:=by
  refine Go.Oe.Hp.pick (ss.map Src.ow++(List.range S.H.length).map fun id=>bif aws id (ownS ss)then none else some id) hH (fun j r hj=> ?_) (fun j k i hj hk=> ?_)
  ·by_cases hlt:j<ss.length
   ·rw [List.getElem?_append_left (by omega)]at hj
    refine⟨?_,fun b hb=> ?_⟩
    ·obtain⟨s,h9,h10⟩:=map_some hj
     subst h10
     cases ho:s.ow with
     |none=>trivial
     |some id=>
      show Res.holds ((L[id]?).getD nores) w
      cases hl:L[id]? with
      |none=>trivial
      |some ri=>exact(hH.res _ (List.mem_of_getElem? hl)).1
    ·obtain⟨s,id,ri,h9,h10,h11,h12,rfl⟩:=own1 j r b hj hb
     refine⟨id,r, ?_,h11,h12⟩
     rw [List.getElem?_append_left (by simpa using hlt),List.getElem?_map,h9]
     exact congrArg some h10
   ·rw [List.getElem?_append_right (by omega),hL1]at hj
    have hj:((List.range S.H.length).map _)[j-ss.length]? =some r:=hj
    rw [List.getElem?_map]at hj
    by_cases hlt2:j-ss.length<S.H.length
    ·rw [List.getElem?_range hlt2]at hj
     have hj:(bif aws (j-ss.length) (ownS ss)then nores else(L[j-ss.length]?).getD nores)=r:=Option.some.inj hj
     have hlL:L[j-ss.length]? =some (L[j-ss.length]'(by omega)):=List.getElem?_eq_getElem (by omega)
     cases hm:aws (j-ss.length) (ownS ss)with
     |true=>rw [hm]at hj;rw [←hj];exact⟨trivial,fun b hb=>by cases hb⟩
     |false=>
      rw [hm,hlL]at hj
      have hj:L[j-ss.length]=r:=hj
      rw [←hj]
      refine⟨(hH.res _ (List.mem_of_getElem? hlL)).1,fun b hb=>⟨j-ss.length,_, ?_,hlL,hb⟩⟩
      rw [List.getElem?_append_right (by simp;omega),zaF,List.getElem?_map,List.getElem?_range hlt2]
      simp only [zaP,hm,cond_false]
    ·rw [List.getElem?_eq_none (by simpa using Nat.le_of_not_lt hlt2)]at hj;cases hj
  ·have key:∀j,(ss.map Src.ow++(List.range S.H.length).map fun id=>bif aws id (ownS ss)then none else some id)[j]? =some (some i)→(j<ss.length∧∃s,ss[j]? =some s∧s.ow=some i)∨(ss.length≤j∧j-ss.length=i∧i∉ownS ss):=by
    intro j hj
    by_cases hlt:j<ss.length
    ·rw [List.getElem?_append_left (by simpa using hlt),List.getElem?_map]at hj
     cases hs:ss[j]? with
     |none=>rw [hs]at hj;cases hj
     |some s=>rw [hs]at hj;exact .inl ⟨hlt,s,rfl,Option.some.inj hj⟩
    ·rw [List.getElem?_append_right (by simpa using Nat.le_of_not_lt hlt),zaF,List.getElem?_map]at hj
     by_cases hlt2:j-ss.length<S.H.length
     ·rw [List.getElem?_range hlt2]at hj
      have hj:(bif aws (j-ss.length) (ownS ss)then none else some (j-ss.length))=some i:=Option.some.inj hj
      cases hm:aws (j-ss.length) (ownS ss)with
      |true=>rw [hm]at hj;cases hj
      |false=>
       rw [hm]at hj
       have hj:j-ss.length=i:=Option.some.inj hj
       refine .inr ⟨by omega,hj,fun hc=> ?_⟩
       rw [←hj]at hc
       rw [ago.2 hc]at hm;cases hm
     ·rw [List.getElem?_eq_none (by simpa using Nat.le_of_not_lt hlt2)]at hj;cases hj
   rcases key j hj with⟨h9,s,h10,h11⟩|⟨h9,h10,h11⟩<;>rcases key k hk with⟨h12,s2,h13,h14⟩|⟨h12,h13,h14⟩
   ·exact ow_inj hnod h10 h11 h13 h14
   ·exact absurd (ow_mem h10 h11) h14
   ·exact absurd (ow_mem h13 h14) h11
   ·omega
 have hX:∀b∈axy L1,w0.heap.size≤b∨b∈S0:=by
  intro b hb
  obtain⟨r,hr,e⟩:=mem_owns hb
  exact((hp1.res r (List.mem_append.2 (.inl hr))).2 b e).2
 have hB:∀id∈borS ss,∀(r:Res) (b:Nat),L[id]? =some r→r.own=some b→b∉axy L1:=by
  intro id hid r b hr hb hm
  obtain⟨r2,hr2,e⟩:=mem_owns hm
  obtain⟨j,hj⟩:=List.mem_iff_getElem?.1 hr2
  obtain⟨s,id2,ri,h9,h10,h11,h12,_⟩:=own1 j r2 b hj e
  have:=own_uniq hH hr h11 hb h12
  subst this
  exact hdis id hid (ow_mem h9 h10)
 have hand:=hp1.hand
 have hAo:argH c a=obs:=h1
 have hp:∀j,j<obs.length→∃r,(∀o,obs[j]? =some o→RO w (axy L1) ρc j o r)∧r.holds w∧∀b,r.own=some b→∃ri,L1[j]? =some ri∧ri.own=some b:=by
  intro j hj
  have ho:=List.getElem?_eq_getElem hj
  have hs:ss[j]? =some (ss[j]'(by omega)):=List.getElem?_eq_getElem (by omega)
  obtain⟨r,h9,h10,h11⟩:=sokC_ro (S1:=axy L1) hH hM hX (fun id hid=>hB id (borS_mem hs hid)) (h8 j _ _ hs ho) (hρc j _ hs)
  refine⟨r,fun o h12=>by rw [ho]at h12;cases h12;exact h9,h10,fun b hb=> ?_⟩
  obtain⟨i,ri,h12,h13,h14⟩:=h11 b hb
  refine⟨ri, ?_,h14⟩
  show(ss.map _)[j]? =_
  rw [List.getElem?_map,hs,zaP,h12]
  show some ((L[i]?).getD nores)=_
  rw [h13];rfl
 obtain⟨Lc,hlc,hrc⟩:=list_of obs.length hp
 have hpc:Hp w (axy L1) Lc w:=by
  refine Go.Oe.Hp.pick ((List.range obs.length).map some) hand (fun j r hj=> ?_) (fun j k i hj hk=> ?_)
  ·obtain⟨_,h9,h10⟩:=hrc j r hj
   refine⟨h9,fun b hb=> ?_⟩
   obtain⟨ri,h11,h12⟩:=h10 b hb
   have hlt:=(List.getElem?_eq_some_iff.1 hj).1
   exact⟨j,ri,by rw [List.getElem?_map,List.getElem?_range (by omega)];rfl,h11,h12⟩
  ·have key:∀j,((List.range obs.length).map some)[j]? =some (some i)→j=i:=by
    intro j hj
    rw [List.getElem?_map]at hj
    by_cases hlt:j<obs.length
    ·rw [List.getElem?_range hlt]at hj
     simpa using hj
    ·rw [List.getElem?_eq_none (by simpa using Nat.le_of_not_lt hlt)]at hj;cases hj
   rw [key j hj,key k hk]
 have hmc:Mt w (axy L1) ρc (argH c a) Lc:=by
  rw [hAo]
  refine⟨hlc,fun j o ho=> ?_⟩
  have hlt:=(List.getElem?_eq_some_iff.1 ho).1
  have hs:ss[j]? =some (ss[j]'(by omega)):=List.getElem?_eq_getElem (by omega)
  have hl:Lc[j]? =some (Lc[j]'(by omega)):=List.getElem?_eq_getElem (by omega)
  refine⟨?_,_,hl,(hrc j _ hl).1 o ho⟩
  rw [hρc j _ hs]
  exact sokC_len hln hbr (h8 j _ _ hs ho)
 refine(hF w (axy L1) ρc Lc us a y (gw_now hG hH hX) hpc hmc h7 hy).mono fun v w2=> ?_
 rintro⟨ρ2,L2,hup,hp2,hm2,hv⟩
 have hcall:=hp1.callK hp2
 have hncs:ss.length=obs.length:=h2.symm
 let ρ3:Nat→Ad:=fun id=>if id<S.H.length then ρ id else ρ2 (obs.length+(id-S.H.length))
 have hup3:Up S.H.length ρ ρ3:=fun id hi=>by simp only [ρ3,hi,if_true]
 have hd3:∀i,ρ3 (S.H.length+i)=ρ2 (obs.length+i):=fun i=>by
  have e1:¬S.H.length+i<S.H.length:=by omega
  have e2:S.H.length+i-S.H.length=i:=by omega
  simp only [ρ3,e1,if_false,e2]
 have hidn:∀(j:Nat) (s:Src) (i:Nat),ss[j]? =some s→s.ow=some i→i<S.H.length:=by
  intro j s i hj hi
  have hjl:=(List.getElem?_eq_some_iff.1 hj).1
  have hso:=h8 j s _ hj (List.getElem?_eq_getElem (by omega))
  rcases sok_own hso hi with⟨_,⟨e,cs,cs1,_,h9,_⟩|⟨e,b,t,l,_,h9⟩|⟨n,l,m,_,_,h9⟩⟩|⟨m,e,b,t,l,cs,_,_,h9⟩<;>exact(List.getElem?_eq_some_iff.1 h9).1
 have hdo:∀(j id:Nat),ss[j]? =some (.o' id true)→ρ3 id=ρ2 j:=by
  intro j id hj
  have hjl:=(List.getElem?_eq_some_iff.1 hj).1
  have hi:=hidn j _ id hj rfl
  rw [hup3 id hi,hup j (by rw [hAo];omega),hρc j _ hj];rfl
 let EC:=eatJ (Rk.ids c.r) (argH c a) 0
 let EK:=azo (Rk.ids c.r) (ata [] c.a a).2 0 ss
 have hEK:EK=azo (Rk.ids c.r) obs 0 ss:=by show azo _ (argH c a) 0 ss=_;rw [hAo]
 have hEC:EC=eatJ (Rk.ids c.r) obs 0:=by show eatJ _ (argH c a) 0=_;rw [hAo]
 have eatEq:∀(j id:Nat) (s:Src),ss[j]? =some s→s.ow=some id→(id∈EK↔j∈EC):=by
  intro j id s hj hs
  have hjl:=(List.getElem?_eq_some_iff.1 hj).1
  rw [hEK,hEC,eaten_mem,eatJ_mem]
  constructor
  ·rintro⟨j2,o,s2,_,h9,h10,h11,h12,h13⟩
   rw [Nat.sub_zero]at h9 h10
   have hs2:s2.ow=some id:=by
    rw [ow_own]at h13
    cases ho:s2.ow with
    |none=>rw [ho]at h13;simp at h13
    |some i=>rw [ho]at h13;simp at h13;rw [h13]
   have:=ow_inj hnod hj hs h10 hs2
   subst this
   exact⟨o,zak _,by rw [Nat.sub_zero];exact h9,h11,h12⟩
  ·rintro⟨o,_,h9,h10,h11⟩
   rw [Nat.sub_zero]at h9
   exact⟨j,o,s,zak _,by rw [Nat.sub_zero];exact h9,by rw [Nat.sub_zero];exact hj,h10,h11,by rw [ow_own,hs];simp⟩
 let rg:List Rg:=callM c S a ss
 have covE:∀{id j:Nat},cov id j (aod S.H EK)=true→cov id j rg=true:=fun h=>agi.2 (.inl h)
 have eatSome:∀id,id∈EK→(aqf S.H[id]? =true∨∃e cs,S.H[id]? =some (.bl e cs))∧id∈ownS ss:=by
  intro id hid
  rw [hEK,eaten_mem]at hid
  obtain⟨j,o,s,_,h9,h10,h11,h12,h13⟩:=hid
  rw [Nat.sub_zero]at h9 h10
  have hs2:s.ow=some id:=by
   rw [ow_own]at h13
   cases ho:s.ow with
   |none=>rw [ho]at h13;simp at h13
   |some i=>rw [ho]at h13;simp at h13;rw [h13]
  refine⟨?_,ow_mem h10 hs2⟩
  rcases sok_own (h8 j s o h10 h9) hs2 with⟨_,⟨e,cs,cs1,rfl,_⟩|⟨e,b,t,l,_,h14⟩|⟨n,l,m,_,_,h14⟩⟩|⟨m,e,b,t,l,cs,_,_,h14⟩
  ·cases h11
  ·left;rw [h14];rfl
  ·left;rw [h14];rfl
  ·exact .inr ⟨_,_,h14⟩
 have h0:PR S.H.length obs.length S.H ρ ρ2 ρ3 ss rg (kill (argH c a) EC) (kill S.H EK) [] [] 0:=by
  refine⟨by rw [azf,hAo];rfl,by rw [azf];rfl,fun i o hi=>by omega,fun j id o hj ho=> ?_,fun j id m hj=> ?_,fun id hi hn=> ?_,fun id e cs ho cc hc=> ?_,fun id o ho=> ?_,rfl,fun v hv=>by cases hv⟩
  ·have hjl:=(List.getElem?_eq_some_iff.1 hj).1
   have hi:=hidn j _ id hj rfl
   have hoj:obs[j]? =some (obs[j]'(by omega)):=List.getElem?_eq_getElem (by omega)
   have hso:=h8 j _ _ hj hoj
   have hid:=List.getElem?_eq_getElem hi
   have hlen:S.H[id].len=(obs[j]'(by omega)).len:=by
    rw [hln id _ hid,sokC_len hln hbr hso];rfl
   rw [anh,hAo,hoj]at ho
   rw [anh,hid]
   by_cases hE:j∈EC
   ·rw [if_pos hE]at ho
    rw [if_pos ((eatEq j id _ hj rfl).2 hE)]
    cases ho
    refine⟨⟨_,rfl, ?_⟩,fun t l e=>by cases e⟩
    show Ob.dd _=Ob.dd _
    rw [hlen]
   ·rw [if_neg hE]at ho
    rw [if_neg (fun hh=>hE ((eatEq j id _ hj rfl).1 hh))]
    have ho:=Option.some.inj ho
    rw [ho]at hso hoj
    rcases sok_own hso rfl with⟨_,⟨e,cs,cs1,rfl,h9,h10,h11,h12⟩|⟨e,b,t,l,rfl,h9⟩|⟨n,l,m,rfl,h9,h10⟩⟩|⟨m,e,b,t,l,cs,he,_⟩
    ·refine⟨⟨_,rfl,cs1,by rw [hid]at h9;exact Option.some.inj h9, ?_,fun jj c1 c2 h13 h14=>by rw [h12 c1 (List.mem_of_getElem? h13),h11 c2 (List.mem_of_getElem? h14)]⟩,fun t l e=>by cases e⟩
     rw [scs_up hup3 (fun x hx=>hS.ho id e cs1 h9 x hx),h10]
     refine scs_up hup fun x hx=> ?_
     have:=h4 j e cs hoj x hx
     rw [hAo]
     simpa using this
    ·refine⟨⟨_,rfl, ?_⟩,fun t l e=>by cases e⟩
     rw [hid]at h9;exact Option.some.inj h9
    ·refine⟨⟨_,rfl, ?_⟩,fun t l e=>by cases e⟩
     have h11:=hbr id m l h10
     rw [hid]at h10
     show S.H[id]=Ob.br n l
     rw [Option.some.inj h10,h9,h11]
    ·cases he
  ·have hjl:=(List.getElem?_eq_some_iff.1 hj).1
   have hi:=hidn j _ id hj rfl
   have hoj:obs[j]? =some (obs[j]'(by omega)):=List.getElem?_eq_getElem (by omega)
   have hso:=h8 j _ _ hj hoj
   obtain⟨hrow,e0,cs0,hbl⟩:aqf (some (obs[j]'(by omega)))=true∧∃e cs,S.H[id]? =some (.bl e cs):=by
    rcases sok_own hso rfl with⟨he,_⟩|⟨m,e,b,t,l,cs,_,he,h9⟩
    ·cases he
    ·rw [he];exact⟨rfl,e,cs,h9⟩
   have hout:j∉Rk.ids c.r:=by
    intro hm
    have key:∀r:List Rk,rkOk S.H ss r=true→j∈Rk.ids r→False:=by
     intro r
     induction r with
     |nil=>intro _ h;cases h
     |cons q r ih=>
      intro hq hj2
      have hq:=aex (show(bif _ then rkOk S.H ss r else false)=true from hq)
      cases q with
      |r' x=>exact ih hq.2 hj2
      |o' i e x=>
       rcases List.mem_cons.1 (show j∈i::Rk.ids r from hj2)with rfl|hj2
       ·have h9:=(aex hq.1).2
        rw [aau,hj]at h9;cases h9
       ·exact ih hq.2 hj2
      |w' i x=>
       rcases List.mem_cons.1 (show j∈i::Rk.ids r from hj2)with rfl|hj2
       ·have h9:=hq.1
        simp only [aau,hj]at h9
        cases h9
       ·exact ih hq.2 hj2
    exact key c.r hrk hm
   have hE:j∈EC:=by
    rw [hEC,eatJ_mem]
    exact⟨_,zak _,by rw [Nat.sub_zero];exact hoj,hrow,hout⟩
   rw [anh,if_pos ((eatEq j id _ hj rfl).2 hE),hbl];rfl
  ·rw [anh,if_neg (fun hE=>hn (eatSome id hE).2)]
  ·rw [anh]at ho
   split at ho
   ·cases hg:S.H[id]? with
    |none=>rw [hg]at ho;cases ho
    |some o=>rw [hg]at ho;cases ho
   ·exact hS.ho id e cs ho cc hc
  ·rw [anh]
   by_cases hE:id∈EK
   ·rw [if_pos hE,ho]
    have:=(eatSome id hE).1
    cases o with
    |bl e cs=>exact .inl fun j hj=>covE (wholeO_cov ho hE hj)
    |rw e b t l=>exact .inl (covE (atg hE))
    |br m l=>exact .inl (covE (atg hE))
    |ro t l=>rcases this with h9|⟨_,_,h9⟩<;>rw [ho]at h9<;>cases h9
    |dd n=>rcases this with h9|⟨_,_,h9⟩<;>rw [ho]at h9<;>cases h9
   ·rw [if_neg hE,ho]
    cases o with
    |bl e cs=>exact .inr ⟨cs,rfl,rfl,fun j cc hj=>.inr ⟨cc,hj,fun hk=>⟨hk,SC.up hup3 (hS.ho id e cs ho cc (List.mem_of_getElem? hj))⟩⟩⟩
    |rw e b t l=>exact .inr rfl
    |br m l=>exact .inr rfl
    |ro t l=>rfl
    |dd n=>rfl
 obtain⟨k2,hP⟩:=PR.steps hnod (by omega) hidn rfl hncs hd3 hdo c.r y _ _ [] [] 0 h0 hrk (fun id hid q hq j hj=>by
  subst hq
  refine agi.2 (.inr ?_)
  have key:∀l:List Nat,id∈l→cov id j (cellsL S.H l)=true:=by
   intro l
   induction l with
   |nil=>intro h;cases h
   |cons x l ih=>
    intro h
    rcases List.mem_cons.1 h with rfl|h
    ·exact adz.2 ⟨_,zah,rfl,zak _,hj⟩
    ·obtain⟨q,h9,h10⟩:=adz.1 (ih h)
     exact adz.2 ⟨q,zag _ h9,h10⟩
  exact key _ hid)
 let Hk:=(putR (ixS ss) ([],kill S.H EK) c.r y).2
 let Hc:=(retS c a y).2
 have hHc:Hc.length=obs.length+k2:=hP.ec
 have hHk:Hk.length=S.H.length+k2:=hP.ek
 have hL2:L2.length=obs.length+k2:=by rw [hm2.1];exact hHc
 let jOf:Nat→Option Nat:=fun id=>(List.range ss.length).find? fun j=>decide ((ss[j]?).bind Src.ow=some id)
 have hjOf:∀id j,jOf id=some j→∃s,ss[j]? =some s∧s.ow=some id:=by
  intro id j hj
  have:=List.find?_some hj
  have h9:(ss[j]?).bind Src.ow=some id:=of_decide_eq_true this
  cases hs:ss[j]? with
  |none=>rw [hs]at h9;cases h9
  |some s=>rw [hs]at h9;exact⟨s,rfl,h9⟩
 have hjNo:∀id,jOf id=none→id∉ownS ss:=by
  intro id hj hm
  have key:∀l:List Src,id∈ownS l→∃(j:Nat) (s:Src),l[j]? =some s∧s.ow=some id:=by
   intro l
   induction l with
   |nil=>intro h;cases h
   |cons x l ih=>
    intro h
    rcases List.mem_append.1 (show id∈x.own++ownS l from h)with h|h
    ·refine⟨0,x,rfl, ?_⟩
     rw [ow_own]at h
     cases ho:x.ow with
     |none=>rw [ho]at h;simp at h
     |some i=>rw [ho]at h;simp at h;rw [h]
    ·obtain⟨j,s,h1,h2⟩:=ih h
     exact⟨j+1,s,by simpa using h1,h2⟩
  obtain⟨j,s,h9,h10⟩:=key ss hm
  have hlt:=(List.getElem?_eq_some_iff.1 h9).1
  have:=List.find?_eq_none.1 hj j (by simpa using hlt)
  rw [h9]at this
  simp [h10]at this
 let src:Nat→Option Nat:=fun id=>if id<S.H.length then(match jOf id with
  |some j=>(match Hk[id]? with
   |some o=>bif isDd o then none else some j
   |none=>none)
  |none=>some (L2.length+id))else some (obs.length+(id-S.H.length))
 have hpk:∀id,id<Hk.length→∃r,(∀o,Hk[id]? =some o→o.len=(ρ3 id).ln∧RO w0 S0 ρ3 id o r)∧r.holds w2∧∀b,r.own=some b→∃i ri,src id=some i∧(L2++Lr)[i]? =some ri∧ri.own=some b:=by
  intro id hid
  have ho:=List.getElem?_eq_getElem hid
  by_cases hlt:id<S.H.length
  ·cases hj:jOf id with
   |some j=>
    obtain⟨s,h9,h10⟩:=hjOf id j hj
    have hjl:=(List.getElem?_eq_some_iff.1 h9).1
    cases hd:isDd Hk[id]with
    |true=>
     refine⟨nores,fun o h11=>⟨?_, ?_⟩,trivial,fun b hb=>by cases hb⟩
     ·rw [ho]at h11
      cases h11
      rcases own_o h10 with rfl|⟨m,rfl⟩
      ·have hcj:Hc[j]? =some (Hc[j]'(by omega)):=List.getElem?_eq_getElem (by omega)
       obtain⟨⟨o3,h12,h13⟩,_⟩:=hP.ow j id _ h9 hcj
       have h12:Hk[id]? =some o3:=h12
       rw [ho]at h12
       have h12:=Option.some.inj h12
       rw [h12,h13.len,hm2.lns j _ hcj,hdo j id h9]
      ·have h12:Hk[id]? =some (.dd 0):=hP.ok j id m h9
       have hoj:obs[j]? =some (obs[j]'(by omega)):=List.getElem?_eq_getElem (by omega)
       rcases sok_own (h8 j _ _ h9 hoj) rfl with⟨he,_⟩|⟨m,e,b,t,l,cs,_,_,h13⟩
       ·cases he
       ·rw [ho]at h12
        rw [Option.some.inj h12,hup3 id hlt]
        have h14:=hln id _ h13
        exact h14
     ·rw [ho]at h11
      cases h11
      cases hx:Hk[id]<;>rw [hx]at hd<;>first|trivial|cases hd
    |false=>
     rcases own_o h10 with rfl|⟨m,rfl⟩
     ·have hcj:Hc[j]? =some (Hc[j]'(by omega)):=List.getElem?_eq_getElem (by omega)
      obtain⟨⟨o3,h12,h13⟩,hnr⟩:=hP.ow j id _ h9 hcj
      have h12:Hk[id]? =some o3:=h12
      obtain⟨h14,r,h15,h16⟩:=hm2.2 j _ hcj
      have he:Hk[id]=o3:=by rw [ho]at h12;exact Option.some.inj h12
      refine⟨r,fun o h17=> ?_, ?_,fun b hb=>⟨j,r, ?_, ?_,hb⟩⟩
      ·rw [h12]at h17
       cases h17
       exact⟨by rw [h13.len,h14,hdo j id h9],eqv_ro h13 (hdo j id h9) hnr h16⟩
      ·exact(hp2.res r (List.mem_of_getElem? h15)).1
      ·simp only [src,hlt,if_true,hj,ho,hd,cond_false]
      ·rw [List.getElem?_append_left (List.getElem?_eq_some_iff.1 h15).1];exact h15
     ·have h11:Hk[id]? =some (.dd 0):=hP.ok j id m h9
      rw [ho]at h11
      rw [Option.some.inj h11]at hd;cases hd
   |none=>
    have hno:=hjNo id hj
    have hsame:Hk[id]? =S.H[id]? :=hP.ot id hlt hno
    obtain⟨h14,r,h15,h16⟩:=hM.2 id _ (List.getElem?_eq_getElem hlt)
    have hlr:Lr[id]? =some r:=by
     show((List.range S.H.length).map _)[id]? =_
     rw [List.getElem?_map,List.getElem?_range hlt]
     have hm:aws id (ownS ss)=false:=by
      cases hm:aws id (ownS ss)with
      |false=>rfl
      |true=>exact absurd (ago.1 hm) hno
     simp only [zaP,hm,cond_false,h15,Option.getD_some]
    have hlr2:(L2++Lr)[L2.length+id]? =some r:=by
     rw [List.getElem?_append_right (by omega),Nat.add_sub_cancel_left];exact hlr
    refine⟨r,fun o h17=> ?_,(hcall.res r (List.mem_of_getElem? hlr2)).1,fun b hb=>⟨L2.length+id,r, ?_,hlr2,hb⟩⟩
    ·rw [hsame,List.getElem?_eq_getElem hlt]at h17
     cases h17
     exact⟨by rw [hup3 id hlt];exact h14,h16.up hup3 hlt fun e cs he=>hS.ho id e cs (by rw [List.getElem?_eq_getElem hlt,he])⟩
    ·simp only [src,hlt,if_true,hj]
  ·have hi:id-S.H.length<k2:=by omega
   have hcj:Hc[obs.length+(id-S.H.length)]? =some (Hc[obs.length+(id-S.H.length)]'(by omega)):=List.getElem?_eq_getElem (by omega)
   obtain⟨⟨o3,h12,h13⟩,hnr⟩:=hP.nw (id-S.H.length) _ hi hcj
   have h12:Hk[S.H.length+(id-S.H.length)]? =some o3:=h12
   rw [show S.H.length+(id-S.H.length)=id by omega]at h12
   have hρ:ρ3 id=ρ2 (obs.length+(id-S.H.length)):=by simp only [ρ3,hlt,if_false]
   obtain⟨h14,r,h15,h16⟩:=hm2.2 _ _ hcj
   refine⟨r,fun o h17=> ?_,(hp2.res r (List.mem_of_getElem? h15)).1,fun b hb=>⟨obs.length+(id-S.H.length),r, ?_, ?_,hb⟩⟩
   ·rw [h12]at h17
    cases h17
    exact⟨by rw [h13.len,h14,hρ],eqv_ro h13 hρ hnr h16⟩
   ·simp only [src,hlt,if_false]
   ·rw [List.getElem?_append_left (List.getElem?_eq_some_iff.1 h15).1];exact h15
 obtain⟨L3,hl3,hr3⟩:=list_of Hk.length hpk
 have hH3:Hp w0 S0 L3 w2:=by
  refine Go.Oe.Hp.pick ((List.range Hk.length).map src) hcall (fun id r hj=> ?_) (fun x z i hx hz=> ?_)
  ·obtain⟨_,h9,h10⟩:=hr3 id r hj
   refine⟨h9,fun b hb=> ?_⟩
   obtain⟨i,ri,h11,h12⟩:=h10 b hb
   have hlt:=(List.getElem?_eq_some_iff.1 hj).1
   exact⟨i,ri,by rw [List.getElem?_map,List.getElem?_range (by omega)];exact congrArg some h11,h12⟩
  ·have key:∀x,((List.range Hk.length).map src)[x]? =some (some i)→x<Hk.length∧src x=some i:=by
    intro x hx
    obtain⟨q,h9,h10⟩:=map_some hx
    have hlt:=(List.getElem?_eq_some_iff.1 h9).1
    rw [List.length_range]at hlt
    rw [List.getElem?_range hlt]at h9
    have e:=Option.some.inj h9
    subst e
    exact⟨hlt,h10⟩
   have cl:∀x,x<Hk.length→src x=some i→(∃s:Src,i<ss.length∧ss[i]? =some s∧s.ow=some x)∨i=L2.length+x∨(¬x<S.H.length∧i=obs.length+(x-S.H.length)):=by
    intro x hx hs
    by_cases hlt:x<S.H.length
    ·simp only [src,hlt,if_true]at hs
     cases hj:jOf x with
     |none=>rw [hj]at hs;exact .inr (.inl (Option.some.inj hs).symm)
     |some j=>
      rw [hj]at hs
      obtain⟨s,h9,h10⟩:=hjOf x j hj
      have hjl:=(List.getElem?_eq_some_iff.1 h9).1
      rw [List.getElem?_eq_getElem hx]at hs
      simp only at hs
      cases hd:isDd Hk[x]with
      |true=>rw [hd]at hs;cases hs
      |false=>
       rw [hd]at hs
       have e:j=i:=Option.some.inj hs
       subst e
       exact .inl ⟨s,hjl,h9,h10⟩
    ·simp only [src,hlt,if_false]at hs
     exact .inr (.inr ⟨hlt,(Option.some.inj hs).symm⟩)
   obtain⟨hx1,hx2⟩:=key x hx
   obtain⟨hz1,hz2⟩:=key z hz
   rcases cl x hx1 hx2 with⟨s,h9,h10,h11⟩|h9|⟨h9,h10⟩<;>rcases cl z hz1 hz2 with⟨s2,h12,h13,h14⟩|h12|⟨h12,h13⟩
   ·rw [h10]at h13
    cases h13
    rw [h11]at h14
    exact Option.some.inj h14
   all_goals omega
 have hM3:Mt w0 S0 ρ3 Hk L3:=by
  refine⟨hl3,fun id o ho=> ?_⟩
  have hlt:=(List.getElem?_eq_some_iff.1 ho).1
  have hl:L3[id]? =some (L3[id]'(by omega)):=List.getElem?_eq_getElem (by omega)
  have:=(hr3 id _ hl).1 o ho
  exact⟨this.1,_,hl,this.2⟩
 let B:St:=⟨S.F,Hk,S.nb,S.al,rg++S.m⟩
 have hBR:Rel C w0 S0 ρ3 B F w2:=by
  refine⟨fun g id hg=> ?_,fun t u hu=> ?_,fun t=> ?_,fun id e cs ho c hc=> ?_,⟨L3,hH3,hM3⟩⟩
  ·obtain⟨h9,h10⟩:=hS.gl g id hg
   exact⟨by show id<Hk.length;omega,by rw [hup3 id h9];exact h10⟩
  ·have hu:(S.at t).v ρ3=some u:=hu
   rw [SV.up hup3 (hS.fo t)]at hu
   exact hS.fr t u hu
  ·exact SV.ok_mono (hS.fo t) (by show S.H.length≤Hk.length;omega)
  ·show c.ok Hk.length
   rw [hHk]
   exact hP.ho id e cs ho c hc
 have hBN:Nx S ρ B ρ3:=by
  have hle:∀nb al,(∀id j,id<nb→cov id j rg=true→cov id j al=true)→Le nb al ρ S.H ρ3 B.H:=fun nb al hal=>
   ⟨by show S.H.length≤Hk.length;omega,hup3,fun id o hi ho=>(hP.kp id o ho).mono fun j hc=>hal id j hi hc⟩
  exact⟨⟨rfl,rfl,hle _ _ fun id j hi hc=>oks_cov hoks hi hc⟩,hle _ _ fun id j _ hc=>agi.2 (.inl hc),fun id j hc=>agi.2 (.inr hc)⟩
 refine⟨ρ3,fun d=> ?_⟩
 have hcs:callS c S d a ss y=B.setO d (resV (putR (ixS ss) ([],kill S.H EK) c.r y).1):=rfl
 rw [hcs]
 cases d with
 |none=>exact⟨hBR,hBN⟩
 |some d=>
  refine⟨ayx hBR (resV_rel hP.vl hv) (resV_ok fun v hv=> ?_),⟨⟨hBN.nb,hBN.al,hBN.le⟩,hBN.lg,hBN.mm⟩⟩
  show v.ok Hk.length
  rw [hHk];exact hP.vo v hv
end
open Go.Wk
open Go.Ce (Tr)
open List renaming cons_append → zaU, map_append → zbg, map_cons → zaE, mem_cons_of_mem → zag, mem_cons_self → zah
open Nat renaming blt → zbf, succ → zbh, zero_le → zak
structure Env (C:Cx) (md:Md) (w0:World) (S0:List Nat) (GS:Glo):Prop where
 e:EOk C
 n:C.nn=md.n
 g:Gw GS w0 S0
 x:∀k,∀c∈C.X k,Enters C.P k∧FOk C.P GS k c
inductive Grd (C:Cx) (ops:List Oper) (S:St) (o:Oper):Bool→Prop
 |none (h:o.guard=none):Grd C ops S o true
 |yes (q:Nat×Bool) (dg:Nat) (h:o.guard=some q) (h1:gdst ops q.1=some dg) (h2:zbf dg C.nn=true) (h3:S.at dg=.c' (.b' q.2)):Grd C ops S o true
 |no (q:Nat×Bool) (dg:Nat) (h:o.guard=some q) (h1:gdst ops q.1=some dg) (h2:zbf dg C.nn=true) (h3:S.at dg=.c' (.b' (!q.2))):Grd C ops S o false
 |un (q:Nat×Bool) (dg:Nat) (h:o.guard=some q) (h1:gdst ops q.1=some dg) (h2:zbf dg C.nn=true) (h3:S.at dg=.n'):Grd C ops S o false
inductive Tv:SV→Bool→Prop
 |b (x:Bool):Tv (.c' (.b' x)) x
 |d (p:Prop) (h:Decidable p):Tv (.c' (.d' p h)) (@decide p h)
 |e (p:Prop) (h:Decidable p):Tv (.c' (.e' p h)) (!@decide p h)
theorem tv_v{v:SV}{b:Bool}(h:Tv v b)(ρ:Nat→Ad):v.v ρ=some (.bool b):=by cases h<;>rfl
theorem brB_tv{T:Type}{v:SV}{y n:Option T}{r:T}(h:brB v y n=some r):∃b,Tv v b∧(b=true→y=some r)∧(b=false→n=some r):=by
 unfold brB at h
 split at h
 ·rename_i x
  exact⟨x,.b x,fun e=>by subst e;exact h,fun e=>by subst e;exact h⟩
 ·rename_i p hp
  refine⟨_,.d p hp,fun e=> ?_,fun e=> ?_⟩
  ·rw [if_pos (of_decide_eq_true e)]at h;exact h
  ·rw [if_neg (of_decide_eq_false e)]at h;exact h
 ·rename_i p hp
  refine⟨_,.e p hp,fun e=> ?_,fun e=> ?_⟩
  ·have:¬p:=by simpa using e
   rw [if_neg this]at h;exact h
  ·have:p:=by simpa using e
   rw [if_pos this]at h;exact h
 ·cases h
structure CallT (C:Cx) (S:St) (o:Oper) (S2:St):Prop where
 ex:∃(cal:Call) (f:Operand) (k:Nat) (ids:List Nat) (c:Con) (a:(tupT c.a).T) (ss:List Src) (y:(resT c.r).T),o.op=.call cal∧cal.callee=.value f∧S.ev C f=.c' (.f' k ids)∧c∈C.X k∧
  rdA S.H c.a (cal.args.toList.map (S.ev C)++capV ids)=some (a,ss)∧callOk c S a ss=true∧(c.f a).ok y∧S2=callS c S o.dst a ss y
inductive Adv (C:Cx) (ops:List Oper) (S:St) (o:Oper):St→Prop
 |op (hg:Grd C ops S o true) (ro:Ro) (h:opM C (S.ev C) S.H o.op=some ro) (ha:All ro.g) (hd:dstOk o.dst ro.v=true) (hm:S.oks ro.m=true):Adv C ops S o (St.setO ⟨S.F,ro.H,S.nb,S.al,ro.m++S.m⟩ o.dst ro.v)
 |mv (hg:Grd C ops S o true) (x:Operand) (d:Nat) (b:Bool) (hx:isMove o.op=some x) (hd:o.dst=some d) (hb:Tv (S.ev C x) b):Adv C ops S o (S.set d (.c' (.b' b)))
 |skip (hg:Grd C ops S o false) (d:Nat) (hd:o.dst=some d):Adv C ops S o (S.set d .n')
 |call (hg:Grd C ops S o true) (S2:St) (h:CallT C S o S2):Adv C ops S o S2
section
variable {C : Cx} {ρ' : Ty}
theorem callL_some{S:St}{d:Option Nat}{vs:List SV}{κ:St→Option ρ'.T}{r:ρ'.T}:∀{l:List Con},callL S d vs κ l=some r→∃c∈l,∃a ss y,rdA S.H c.a vs=some (a,ss)∧callOk c S a ss=true∧(c.f a).ok y∧κ (callS c S d a ss y)=some r
 |[],h=>by cases h
 |c::l,h=>by
  simp only [callL]at h
  split at h
  ·rename_i a ss hr
   have h:=aaj h
   obtain⟨y,h1,h2⟩:=Gv.bd_some h.2
   exact⟨c,zah,a,ss,y,hr,h.1,h1,h2⟩
  ·obtain⟨c2,h1,h2⟩:=callL_some h
   exact⟨c2,zag _ h1,h2⟩
theorem fnV_some{v:SV}{q:Nat×List Nat}(h:fnV v=some q):v=.c' (.f' q.1 q.2):=by
 unfold fnV at h
 split at h
 ·cases h;rfl
 ·cases h
theorem run1_adv{ops:List Oper}{S:St}{o:Oper}{κ:St→Option ρ'.T}{r:ρ'.T}(hg:Grd C ops S o true)(h:run1 C S o.dst o.op κ=some r):∃S2,Adv C ops S o S2∧κ S2=some r:=by
 unfold run1 at h
 split at h
 ·rename_i g v H m hop
  split at h
  ·rename_i S2 hr
   unfold St.run at hr
   have hr:=aaj hr
   have hr2:=aaj hr.2
   cases hr2.2
   obtain⟨h1,h2⟩:=gdL_some h
   exact⟨_,.op hg _ hop h1 hr.1 hr2.1,h2⟩
  ·cases h
 ·split at h
  ·rename_i cal hop
   split at h
   ·rename_i f hf
    split at h
    ·rename_i k ids hk
     obtain⟨c,h1,a,ss,y,h2,h3,h4,h5⟩:=callL_some h
     exact⟨_,.call hg _ ⟨cal,f,k,ids,c,a,ss,y,hop,hf,fnV_some hk,h1,h2,h3,h4,rfl⟩,h5⟩
    ·cases h
   ·cases h
  ·cases h
theorem run2_adv{ops:List Oper}{i:Nat}{S:St}{o:Oper}{κ:St→Option ρ'.T}{r:ρ'.T}(hg:Grd C ops S o true)(h:run2 C ops i S o κ=some r):∃S2,Adv C ops S o S2∧κ S2=some r:=by
 unfold run2 at h
 cases hi:isG ops i with
 |false=>rw [hi]at h;exact run1_adv hg h
 |true=>
  rw [hi]at h
  simp only [cond_true]at h
  split at h
  ·rename_i x hx
   split at h
   ·rename_i d hd
    obtain⟨b,h1,h2,h3⟩:=brB_tv h
    refine⟨_,.mv hg x d b hx hd h1, ?_⟩
    cases b with
    |true=>exact h2 rfl
    |false=>exact h3 rfl
   ·cases h
  ·exact run1_adv hg h
theorem run3_adv{ops:List Oper}{i:Nat}{S:St}{o:Oper}{κ:St→Option ρ'.T}{r:ρ'.T}(h:run3 C ops i S o κ=some r):∃S2,Adv C ops S o S2∧κ S2=some r:=by
 unfold run3 at h
 split at h
 ·rename_i hg;exact run2_adv (.none hg) h
 ·rename_i q hq
  split at h
  ·rename_i dg hdg
   have h:=aaj h
   have h2:=h.2
   split at h2
   ·rename_i x hx
    cases hb:beqB x q.2 with
    |true=>
     rw [hb]at h2
     have e:x=q.2:=by
      unfold beqB at hb
      cases x<;>cases hq2:q.2<;>rw [hq2]at hb<;>first|rfl|cases hb
     rw [e]at hx
     exact run2_adv (.yes q dg hq hdg h.1 hx) h2
    |false=>
     rw [hb]at h2
     have e:x= !q.2:=by
      unfold beqB at hb
      cases x<;>cases hq2:q.2<;>rw [hq2]at hb<;>first|rfl|cases hb
     rw [e]at hx
     simp only [cond_false]at h2
     split at h2
     ·rename_i d hd;exact⟨_,.skip (.no q dg hq hdg h.1 hx) d hd,h2⟩
     ·cases h2
   ·rename_i hx
    split at h2
    ·rename_i d hd;exact⟨_,.skip (.un q dg hq hdg h.1 hx) d hd,h2⟩
    ·cases h2
   ·cases h2
  ·cases h
end
section
variable {C : Cx} {md : Md} {w0 w : World} {S0 : List Nat} {ρ : Nat → Ad} {S : St} {F : Nat → Value} {GS : Glo}
theorem gdst_arr{ops:Array Oper}{g:Nat}{dg:Nat}(h:gdst ops.toList g=some dg):(ops[g]?).bind (·.dst)=some dg:=by
 unfold gdst at h
 rw [aau]at h
 cases hg:ops[g]? with
 |none=>rw [show ops.toList[g]? =none by simpa using hg]at h;cases h
 |some o=>rw [show ops.toList[g]? =some o by simpa using hg]at h;exact h
theorem vals_of(hn:C.nn=md.n)(hS:Rel C w0 S0 ρ S F w):∀{l:List Operand} {r:List (Option Value)} {us:List Value},(l.map (S.ev C)).map (SV.v ρ)++r=us.map some→∃u2,us=l.map (evn md F)++u2∧r=u2.map some
 |[],r,us,h=>⟨us,rfl,h⟩
 |x::l,r,us,h=>by
  cases us with
  |nil=>cases h
  |cons u us=>
   simp only [zaE,zaU,List.cons.injEq]at h
   obtain⟨u2,h1,h2⟩:=vals_of hn hS (l:=l) h.2
   refine⟨u2, ?_,h2⟩
   rw [h1,zaE,zaU,(azn hS hn x).2 u h.1]
theorem capV_v:∀(ids:List Nat),(capV ids).map (SV.v ρ)=(ids.map fun id=>bptr (ρ id).b 0).map some
 |[]=>rfl
 |id::ids=>by
  show some (bptr (ρ id).b 0)::(capV ids).map (SV.v ρ)=_
  rw [capV_v ids];rfl
theorem map_some_inj{α:Type}:∀{a b:List α},a.map some=b.map some→a=b
 |[],[],_=>rfl
 |[],_::_,h=>by cases h
 |_::_,[],h=>by cases h
 |x::a,y::b,h=>by
  simp only [zaE,List.cons.injEq,Option.some.injEq]at h
  rw [h.1,map_some_inj h.2]
theorem adv_step(hE:Env C md w0 S0 GS){ops:Array Oper}{o:Oper}{S2:St}(h:Adv C ops.toList S o S2)(hS:Rel C w0 S0 ρ S F w)(Q:Exit→Act→World→Prop)(rest:List Oper)
  (hk:∀ρ2 F2 w2,Rel C w0 S0 ρ2 S2 F2 w2→Nx S ρ S2 ρ2→(∀t,o.dst≠some t→F2 t=F t)→(∀d,o.guard=none→o.dst=some d→isPure o.op=true→∃w3,(execOp (evn md F) o).run C.P w=.ok (.value (F2 d)) w3)→W C.P md ops Q rest F2 w2):W C.P md ops Q (o::rest) F w:=by
 have hn:=hE.n
 obtain⟨dst,op,ty,pos,after,gd⟩:=o
 have grd:Grd C ops.toList S ⟨dst,op,ty,pos,after,gd⟩ true→W C.P md ops Q (⟨dst,op,ty,pos,after,none⟩::rest) F w→W C.P md ops Q (⟨dst,op,ty,pos,after,gd⟩::rest) F w:=by
  intro hg hW
  cases hg with
  |none h=>
   have h:gd=none:=h
   subst h
   exact hW
  |yes q dg h h1 h2 h3=>
   have h:gd=some q:=h
   subst h
   obtain⟨g,b⟩:=q
   exact w_gyes dg (gdst_arr h1) (by rw [←hn];exact h2) (hS.fr dg (.bool b) (by rw [h3];rfl)) hW
 cases h with
 |op hg ro h ha hd hm=>
  refine grd hg (step_op hE.e hn hS h ha hm hd ops Q rest fun ρ2 F2 w2 h1 h2 h3 h4=>hk ρ2 F2 w2 h1 h2 h3 fun d hgn hdd hp=> ?_)
  have hgn:gd=none:=hgn
  subst hgn
  exact h4 d hdd hp
 |mv hg x d b hx hd hb=>
  have hd:dst=some d:=hd
  subst hd
  obtain⟨h1,h2⟩:=azn hS hn x
  have hxb:evn md F x=.bool b:=h2 _ (tv_v hb ρ)
  refine grd hg ?_
  have hrel:Rel C w0 S0 ρ (S.set d (.c' (.b' b))) (upd F d (.bool b)) w:=ayx hS rfl (fun i hi=>by cases hi)
  have hrun:(execOp (evn md F) (⟨some d,op,ty,pos,after,none⟩:Oper)).run C.P w=.ok (.value (.bool b)) w:=by
   cases op<;>first|cases hx|skip
   ·rw [←hxb];rfl
   ·rw [←hxb];rfl
  refine aht rfl rfl hrun (hk ρ _ w hrel ⟨⟨rfl,rfl,Le.refl⟩,Le.refl,fun _ _ h=>h⟩ arv fun d2 hgn hdd _=>⟨w, ?_⟩)
  have hgn:gd=none:=hgn
  subst hgn
  cases hdd
  rw [avb];exact hrun
 |skip hg d hd=>
  have hd:dst=some d:=hd
  subst hd
  have hrel:Rel C w0 S0 ρ (S.set d .n') (upd F d undef) w:=ayx hS rfl trivial
  have hW:=hk ρ _ w hrel ⟨⟨rfl,rfl,Le.refl⟩,Le.refl,fun _ _ h=>h⟩ arv (fun d2 hgn _ _=>by cases hg<;>(rename_i h _ _ _;rw [h]at hgn;cases hgn))
  cases hg with
  |no q dg h h1 h2 h3=>
   have h:gd=some q:=h
   subst h
   obtain⟨g,b⟩:=q
   exact w_gno dg (gdst_arr h1) (by rw [←hn];exact h2) (hS.fr dg (.bool (!b)) (by rw [h3];rfl)) hW
  |un q dg h h1 h2 h3=>
   have h:gd=some q:=h
   subst h
   obtain⟨g,b⟩:=q
   exact w_gun dg (gdst_arr h1) (by rw [←hn];exact h2) (hS.fr dg undef (by rw [h3];rfl)) hW
 |call hg _ h=>
  obtain⟨cal,f,k,ids,c,a,ss,y,hop,hf,hfv,hc,hr,hok,hy,rfl⟩:=h
  have hop:op=.call cal:=hop
  subst hop
  obtain⟨callee,azq,ts⟩:=cal
  have hf:callee=.value f:=hf
  subst hf
  refine grd hg ?_
  obtain⟨hEn,hF⟩:=hE.x k c hc
  obtain⟨us,h1,h2⟩:=call_ok hS hE.g hF hr hok hy
  rw [zbg,capV_v]at h1
  obtain⟨u2,h3,h4⟩:=vals_of hn hS h1
  have h5:=map_some_inj h4
  have hfn:evn md F f=.func (.func k) #[] (ids.map fun id=>bptr (ρ id).b 0).toArray:=(aem hS hn hfv).2
  have ha: #[]++azq.map (evn md F)++(ids.map fun id=>bptr (ρ id).b 0).toArray=us.toArray:=by
   rw [h3,←h5]
   apply Array.toList_inj.1
   simp
  cases dst with
  |none=>
   refine w_call0 k _ us _ hEn hfn ha h2 fun v w2 hv=> ?_
   obtain⟨ρ3,hv⟩:=hv
   obtain⟨h6,h7⟩:=hv none
   exact hk ρ3 F w2 h6 h7 (fun _ _=>rfl) (fun d _ hd=>by cases hd)
  |some d=>
   refine w_call k _ us _ hEn hfn ha h2 fun v w2 hv=> ?_
   obtain⟨ρ3,hv⟩:=hv
   obtain⟨h6,h7⟩:=hv (some d)
   exact hk ρ3 _ w2 h6 h7 arv (fun d2 _ _ hp=>by cases hp)
theorem wrO_cons{o:Oper}{l:List Oper}{t:Nat}:t∈wrO (o::l)↔o.dst=some t∨t∈wrO l:=by
 simp only [wrO]
 cases hd:o.dst with
 |none=>simp
 |some d=>
  simp only [List.mem_cons,Option.some.injEq]
  exact or_congr_left ⟨fun h=>h.symm,fun h=>h.symm⟩
theorem opndS_mem{t:Nat}:∀{l:List Operand},t∈opndS l↔Operand.tmp t∈l
 |[]=>by simp [opndS]
 |x::l=>by
  cases x<;>simp [opndS,opndS_mem (l:=l)]
def RanL(C:Cx)(md:Md)(ops:List Oper)(lo:Nat)(F:Nat→Value):Prop:=∀(i d:Nat) (o:Oper),lo≤i→okR1 ops i=true→ops[i]? =some o→o.dst=some d→∃w1 w2,(execOp (evn md F) o).run C.P w1=.ok (.value (F d)) w2
theorem pure_sel{op:Op}(h:isPure op=true):∀cs b,op≠.select cs b:=fun cs b e=>by subst e;cases h
theorem evn_same{F2:Nat→Value}{x:Operand}(h:∀t,x=.tmp t→F2 t=F t):evn md F2 x=evn md F x:=by
 cases x with
 |tmp t=>simp only [evn,h t rfl]
 |_=>rfl
theorem opsD_ok(hE:Env C md w0 S0 GS){ops:Array Oper}{ρ':Ty}{κ:St→Option ρ'.T}{r:ρ'.T}{Q:Exit→Act→World→Prop}:∀(l:List Oper) (i:Nat) (S:St) (ρ:Nat→Ad) (F:Nat→Value) (w:World),l=ops.toList.drop i→opsD C ops.toList l i S κ=some r→Rel C w0 S0 ρ S F w→
  (∀S2 ρ2 F2 w2,κ S2=some r→Rel C w0 S0 ρ2 S2 F2 w2→Nx S ρ S2 ρ2→(∀t,t∉wrO l→F2 t=F t)→RanL C md ops.toList i F2→Q .normal (fr md F2) w2)→W C.P md ops Q l F w
 |[],i,S,ρ,F,w,hl,h,hS,hk=>w_nil (hk S ρ F w h hS Nx.refl (fun _ _=>rfl) (fun j d o hj _ ho _=>by
   have:ops.toList.drop i=[]:=hl.symm
   rw [List.drop_eq_nil_iff]at this
   have:=(List.getElem?_eq_some_iff.1 ho).1
   omega))
 |o::l,i,S,ρ,F,w,hl,h,hS,hk=>by
  obtain⟨S2,h1,h2⟩:=run3_adv (show run3 C ops.toList i S o (fun S2=>opsD C ops.toList l (zbh i) S2 κ)=some r from h)
  have hoi:ops.toList[i]? =some o:=by
   have:=congrArg (fun l=>l[0]?) hl
   simpa using this.symm
  have hl2:l=ops.toList.drop (i+1):=by
   have:=congrArg List.tail hl
   simpa using this
  refine adv_step hE h1 hS Q l fun ρ2 F2 w2 hS2 hN hf hp=>opsD_ok hE l (i+1) S2 ρ2 F2 w2 hl2 h2 hS2 fun S3 ρ3 F3 w3 h3 hS3 hN3 hf3 hran=> ?_
  refine hk S3 ρ3 F3 w3 h3 hS3 (hN.trans hN3) (fun t ht=> ?_) (fun j d o2 hj hok ho hd=> ?_)
  ·rw [wrO_cons]at ht
   rw [hf3 t (fun hh=>ht (.inr hh)),hf t (fun hh=>ht (.inl hh))]
  ·by_cases hij:j=i
   ·subst hij
    rw [hoi]at ho
    cases ho
    unfold okR1 at hok
    rw [aau,hoi]at hok
    simp only [hd]at hok
    have h4:=aex hok
    have h5:=aex h4.2
    have h6:=h5.2
    have hgn:o.guard=none:=by
     cases hg:o.guard with
     |none=>rfl
     |some q=>rw [hg]at h4;cases h4.1
    rw [ldrop_eq,←hl2]at h6
    cases hm:aws d (wrO l)with
    |true=>rw [hm]at h6;cases h6
    |false=>
     rw [hm]at h6
     simp only [cond_false]at h6
     have h7:=disN_iff.1 h6
     obtain⟨w4,h8⟩:=hp d hgn hd h5.1
     have hd3:F3 d=F2 d:=hf3 d fun hh=>by rw [ago.2 hh]at hm;cases hm
     refine⟨w,w4, ?_⟩
     rw [hd3,execOp_congr o (pure_sel h5.1) (ρ':=evn md F) fun x hx=> ?_]
     ·exact h8
     ·refine evn_same fun t ht=> ?_
      subst ht
      have h9:=h7 t (opndS_mem.2 (by simpa using hx))
      rw [hf3 t (fun hh=>h9 (zag _ hh)),hf t (fun hh=>h9 (by rw [hd]at hh;cases hh;exact zah))]
   ·exact hran j d o2 (by omega) hok ho hd
theorem region_ok(hE:Env C md w0 S0 GS){id:Nat}{ops:Array Oper}:RegOk C md w0 S0 id ops false:=by
 intro ρ' S κ r ρ F w Q h hS hk
 have e:ops=ops.toList.toArray:=rfl
 have h:opsD C ops.toList ops.toList 0 S κ=some r:=h
 have hW:=opsD_ok hE (Q:=Q) ops.toList 0 S ρ F w (by simp) h hS fun S2 ρ2 F2 w2 h1 h2 h3 h4 h5=>hk S2 ρ2 F2 w2 h1 h2 h3 h4 fun i d o hok ho hd=>h5 i d o (zak _) hok ho hd
 exact asm (l:=ops.toList) hW
end
open Go.Wk
open Go.Ce (Tr)
open Go.Op renaming operands → zaC
open List renaming map_congr_left → zbq, mem_append_left → zbb, mem_append_right → zaY, mem_cons_of_mem → zag, mem_cons_self → zah
open Nat renaming beq → zau
section
variable {C : Cx} {ev ev2 : Operand → SV}
theorem fillP_congr{sz:Nat→Option (Nat×Nat)}:∀{ps:List (Nat×Operand)} {l:List SC},(∀p∈ps,ev p.2=ev2 p.2)→fillP sz ev ps l=fillP sz ev2 ps l
 |[],l,h=>rfl
 |p::ps,l,h=>by
  simp only [fillP]
  rw [h p zah]
  split
  ·split
   ·rw [fillP_congr fun q hq=>h q (zag _ hq)]
   ·rfl
  ·rfl
theorem map_congr{l:List Operand}(h:∀x∈l,ev x=ev2 x):l.map ev=l.map ev2:=zbq h
theorem bi_congr{H:List Ob}{b:Builtin}{azq:List Operand}{ts:List Nat}(h:∀x∈azq,ev x=ev2 x):aid C ev H b azq ts=aid C ev2 H b azq ts:=by
 match azq with
 |[]=>cases b<;>rfl
 |[x]=>
  have e:=h x (by simp)
  cases b<;>simp only [aid]
  ·match ts with
   |[]=>rfl
   |[t]=>simp only [e]
   |_::_::_=>rfl
 |[x,y]=>
  have e:=h x (by simp)
  have e2:=h y (by simp)
  cases b<;>first|(rcases ts with _|⟨t,_|⟨t2,_|⟨t3,ts⟩⟩⟩<;>simp only [aid,e,e2];done)|simp only [aid,e,e2]
 |_::_::_::_=>cases b<;>rfl
theorem opM_congr{H:List Ob}{op:Op}(h:∀x∈op.operands,ev x=ev2 x):opM C ev H op=opM C ev2 H op:=by
 cases op<;>first|rfl|skip
 case move x=>simp only [opM,h x (by simp [zaC])]
 case assign x=>simp only [opM,h x (by simp [zaC])]
 case pick c a b=>simp only [opM,h c (by simp [zaC]),h a (by simp [zaC]),h b (by simp [zaC])]
 case binOp b t x y t'=>simp only [opM,h x (by simp [zaC]),h y (by simp [zaC])]
 case unOp u t x=>cases u<;>first|rfl|simp only [opM,h x (by simp [zaC])]
 case convert s t x=>simp only [opM,h x (by simp [zaC])]
 case index t x ix=>simp only [opM,h x (by simp [zaC]),h ix (by simp [zaC])]
 case slice t x lo hi mx=>
  cases mx with
  |some m=>rfl
  |none=>
   have e:=h x (by simp [zaC])
   cases lo with
   |none=>cases hi with
    |none=>simp only [opM,onO,e]
    |some j=>simp only [opM,onO,e,h j (by simp [zaC])]
   |some i=>cases hi with
    |none=>simp only [opM,onO,e,h i (by simp [zaC])]
    |some j=>simp only [opM,onO,e,h i (by simp [zaC]),h j (by simp [zaC])]
 case extract x i=>simp only [opM,h x (by simp [zaC])]
 case field t x f=>simp only [opM,h x (by simp [zaC])]
 case box e x=>simp only [opM,h x (by simp [zaC])]
 case load t x=>simp only [opM,h x (by simp [zaC])]
 case store t x y=>simp only [opM,h x (by simp [zaC]),h y (by simp [zaC])]
 case fieldAddr t x f=>simp only [opM,h x (by simp [zaC])]
 case indexAddr t x ix=>simp only [opM,h x (by simp [zaC]),h ix (by simp [zaC])]
 case nilCheck x=>simp only [opM,h x (by simp [zaC])]
 case makeSlice t x y=>simp only [opM,h x (by simp [zaC]),h y (by simp [zaC])]
 case build t ps=>
  have e:∀p∈ps.toList,ev p.2=ev2 p.2:=fun p hp=>h p.2 (by
   simp only [zaC,List.mem_toArray,List.mem_map]
   exact⟨p,hp,rfl⟩)
  simp only [opM,opBuild]
  split
  ·rw [fillP_congr e]
  ·rfl
 case buildSlice t n ps=>
  have e:∀p∈ps.toList,ev p.2=ev2 p.2:=fun p hp=>h p.2 (by
   simp only [zaC,List.mem_toArray,List.mem_map]
   exact⟨p,hp,rfl⟩)
  simp only [opM,aoh]
  split
  ·split
   ·rw [fillP_congr e]
   ·rfl
  ·rfl
 case makeFunc f a b=>
  have e:b.toList.map ev=b.toList.map ev2:=map_congr fun x hx=>h x (by
   simp only [zaC,Array.mem_append]
   exact .inr (by simpa using hx))
  simp only [opM,opFunc,e]
 case call c=>
  obtain⟨callee,azq,ts⟩:=c
  cases callee<;>first|rfl|skip
  rename_i b
  show aid C ev H b azq.toList ts.toList=aid C ev2 H b azq.toList ts.toList
  exact bi_congr fun x hx=>h x (by
   simp only [zaC,Call.operands,Array.mem_append]
   exact .inr (by simpa using hx))
end
def Agr(H H2:List Ob)(ids:List Nat):Prop:=∀id∈ids,∀o,amb H id=some o→amb H2 id=some o
section
variable {C : Cx} {ev : Operand → SV} {H H2 : List Ob}
theorem pur_H{r:Rv}{ro:Ro}(h:pur H r=some ro):ro.H=H∧ro.m=[]∧pur H2 r=some ⟨ro.g,ro.v,H2,[]⟩:=by
 obtain⟨g,v,h1,rfl⟩:=aky h
 rw [h1];exact⟨rfl,rfl,rfl⟩
theorem val1_H{r:Option SV}{ro:Ro}(h:val1 H r=some ro):ro.H=H∧ro.m=[]∧val1 H2 r=some ⟨ro.g,ro.v,H2,[]⟩:=by
 obtain⟨v,h1,rfl⟩:=aoe h
 rw [h1];exact⟨rfl,rfl,rfl⟩
theorem partE_H{t:Ty}{l:List t.T}{j:Int}{sz off n:Nat}{a:Bool}{ro:Ro}(h:partE H t l j sz off n a=some ro):ro.H=H∧ro.m=[]∧partE H2 t l j sz off n a=some ⟨ro.g,ro.v,H2,[]⟩:=by
 unfold partE at h⊢
 split at h
 ·rename_i v hv
  have h:=aaj h
  cases h.2
  simp only [h.1,cond_true,and_self]
 ·cases h
theorem load_H{t:Nat}{c:SC}{ro:Ro}(h:opLoad C H t c=some ro)(hf:Agr H H2 (axt (.c' c))):ro.H=H∧ro.m=[]∧opLoad C H2 t c=some ⟨ro.g,ro.v,H2,[]⟩:=by
 unfold opLoad at h⊢
 split at h
 ·rename_i n a hn ha
  cases hz:zau n 0 with
  |true=>rw [hz]at h;cases h
  |false=>
   rw [hz]at h
   simp only [cond_false]at h⊢
   split at h
   ·rename_i id off
    split at h
    ·rename_i e cs hb
     rw [hf id (by simp [axt]) _ hb]
     exact val1_H h
    ·cases h
   ·rename_i id j sz off
    have key:∀o,amb H id=some o→amb H2 id=some o:=hf id (by simp [axt])
    split at h
    ·rename_i e b t' l hb;rw [key _ hb];exact partE_H h
    ·rename_i t' l hb
     rw [key _ hb]
     simp only
     cases hp:partE H t' l j sz off n a with
     |some r=>
      rw [hp]at h
      cases h
      obtain⟨h1,h2,h3⟩:=partE_H (H2:=H2) hp
      rw [h3];exact⟨h1,h2,rfl⟩
     |none=>
      rw [hp]at h
      have e:partE H2 t' l j sz off n a=none:=by
       unfold partE at hp⊢
       split
       ·rename_i v hv
        rw [hv]at hp
        cases hb2:(bif szOk sz j t' then t'.flat else false)with
        |true=>rw [hb2]at hp;cases hp
        |false=>rfl
       ·rfl
      rw [e]
      have h:wholeE H t' l j off n a=some ro:=h
      show ro.H=H∧ro.m=[]∧wholeE H2 t' l j off n a=some ⟨ro.g,ro.v,H2,[]⟩
      unfold wholeE at h⊢
      split at h
      ·have h:=aaj h
       simp only [h.1,cond_true]
       exact val1_H h.2
      ·cases h
    ·rename_i m l hb;rw [key _ hb];exact partE_H h
    ·cases h
   ·cases h
 ·cases h
theorem lenX_H{id m:Nat}(h:lenX H id=some m)(hf:∀o,amb H id=some o→amb H2 id=some o):lenX H2 id=some m:=by
 unfold lenX at h⊢
 split at h
 ·rename_i hb;rw [hf _ hb];exact h
 ·rename_i hb;rw [hf _ hb];exact h
 ·rename_i hb;rw [hf _ hb];exact h
 ·cases h
theorem ixa_H{t:Nat}{x ix:SC}{ro:Ro}(h:aog C H t x ix=some ro)(hf:Agr H H2 (axt (.c' x))):ro.H=H∧ro.m=[]∧aog C H2 t x ix=some ⟨ro.g,ro.v,H2,[]⟩:=by
 unfold aog at h⊢
 split at h
 ·rename_i j hj
  split at h
  ·rename_i e he
   split at h
   ·rename_i sz hsz
    split at h
    ·rename_i id
     split at h
     ·rename_i m hm
      cases h
      rw [lenX_H hm (hf id (by simp [axt]))]
      exact⟨rfl,rfl,rfl⟩
     ·cases h
    ·cases h;exact⟨rfl,rfl,rfl⟩
    ·cases h
   ·cases h
  ·rename_i he
   split at h
   ·rename_i q hq
    split at h
    ·rename_i sz hsz
     split at h
     ·have h:=aaj h
      cases h.2
      simp only [h.1,cond_true,and_self]
     ·have h:=aaj h
      have h2:=aaj h.2
      have h3:=aaj h2.2
      cases h3.2
      simp only [h.1,h2.1,h3.1,cond_true,and_self]
     ·cases h
    ·cases h
   ·cases h
 ·cases h
theorem cont_H{t:Ty}{x:SC}{l:List t.T}(h:contE H t x=some l)(hf:Agr H H2 (axt (.c' x))):contE H2 t x=some l:=by
 unfold contE at h⊢
 split at h
 ·exact h
 ·rename_i id
  have key:∀o,amb H id=some o→amb H2 id=some o:=hf id (by simp [axt])
  cases hb:amb H id with
  |none=>rw [hb]at h;cases h
  |some o=>rw [hb]at h;rw [key o hb];exact h
 ·rename_i id m
  have key:∀o,amb H id=some o→amb H2 id=some o:=hf id (by simp [axt])
  split at h
  ·rename_i e cs hb
   rw [key _ hb];exact h
  ·cases h
 ·cases h
theorem isSl_f{t:Nat}(h:(!isSl C t)=true):slE C t=none:=by
 unfold isSl at h
 unfold slE
 split at h
 ·cases h
 ·rfl
theorem conS_H{s t:Nat}{x:SC}{ro:Ro}(hq:(!isSl C t)=true)(h:conS C H s t x=some ro)(hf:Agr H H2 (axt (.c' x))):ro.H=H∧ro.m=[]∧conS C H2 s t x=some ⟨ro.g,ro.v,H2,[]⟩:=by
 have hsl:=isSl_f hq
 unfold conS at h⊢
 split at h
 ·rename_i e he
  have h:=aaj h
  have h2:=aaj h.2
  have h3:=h2.2
  simp only [h.1,h2.1,cond_true]
  split at h3
  ·rename_i l hl
   cases h3
   rw [cont_H hl hf]
   exact⟨rfl,rfl,rfl⟩
  ·cases h3
 ·cases x with
  |s' l=>
   simp only [hsl]at h⊢
   exact pur_H h
  |_=>exact pur_H h
theorem lenC_H{t:Nat}{x:SC}{r:List PD×SV}(h:lenC C H t x=some r)(hf:Agr H H2 (axt (.c' x))):lenC C H2 t x=some r:=by
 unfold lenC at h⊢
 split at h
 ·exact h
 ·split at h
  ·rename_i e he
   split at h
   ·rename_i id _
    cases hb:amb H id with
    |none=>rw [hb]at h;cases h
    |some o=>rw [hb]at h;rw [hf id (by simp [axt]) o hb];exact h
   ·exact h
   ·exact h
   ·cases h
  ·cases h
theorem footL_mem{x:Operand}{id:Nat}(hid:id∈axt (ev x)):∀{l:List Operand},x∈l→id∈footL ev l
 |y::l,h=>by
  rcases List.mem_cons.1 h with rfl|h
  ·exact zbb _ hid
  ·exact zaY _ (footL_mem hid h)
theorem quiet_H{op:Op}{ro:Ro}(hq:quietO C op=true)(h:opM C ev H op=some ro)(hf:Agr H H2 (footO ev op)):ro.H=H∧ro.m=[]∧opM C ev H2 op=some ⟨ro.g,ro.v,H2,[]⟩:=by
 cases op<;>first|cases hq|skip
 case move x=>exact val1_H h
 case assign x=>exact val1_H h
 case pick c a b=>
  obtain⟨x,h1,h2⟩:=abe (show on1 (ev c) (fun x=>match x with
   |.b' t=>val1 H (match(bif t then ev a else ev b)with
    |.u'=>none
    |v=>some v)
   |_=>none)=some ro from h)
  split at h2
  ·rename_i t
   have:=val1_H (H2:=H2) h2
   simp only [opM,h1,on1]
   exact this
  ·cases h2
 case binOp b t x y t'=>exact pur_H h
 case unOp u t x=>cases u<;>first|cases h|exact pur_H h
 case convert s t x=>
  obtain⟨c,h1,h2⟩:=abe (show on1 (ev x) (conS C H s t)=some ro from h)
  have:=conS_H (H2:=H2) hq h2 (by rw [←h1];exact hf)
  simp only [opM,h1,on1]
  exact this
 case index t x ix=>
  simp only [opM]at h⊢
  cases hb:aqe C t with
  |true=>
   rw [hb]at h
   exact pur_H h
  |false=>
   rw [hb]at h
   simp only [cond_false]at h⊢
   split at h
   ·exact pur_H h
   ·cases h
 case slice t x lo hi mx=>
  cases mx with
  |some m=>cases h
  |none=>
   have hq:aqe C t=true:=hq
   simp only [opM,hq,cond_true]at h⊢
   exact pur_H h
 case extract x i=>
  simp only [opM]at h⊢
  split at h
  ·split at h
   ·cases h;exact⟨rfl,rfl,rfl⟩
   ·cases h
  ·cases h
 case field t x f=>
  simp only [opM]at h⊢
  split at h
  ·split at h
   ·exact val1_H h
   ·cases h
  ·cases h
 case build t ps=>exact val1_H h
 case fieldAddr t x f=>
  obtain⟨c,h1,h2⟩:=abe (show on1 (ev x) (fun a=>val1 H (avv C t f a))=some ro from h)
  have:=val1_H (H2:=H2) h2
  simp only [opM,h1,on1]
  exact this
 case load t x=>
  obtain⟨c,h1,h2⟩:=abe (show on1 (ev x) (fun a=>opLoad C H t a)=some ro from h)
  have:=load_H (H2:=H2) h2 (by rw [←h1];exact hf)
  simp only [opM,h1,on1]
  exact this
 case indexAddr t x ix=>
  obtain⟨c,h1,h2⟩:=abe (show on1 (ev x) (fun a=>on1 (ev ix) fun i=>aog C H t a i)=some ro from h)
  obtain⟨d,h3,h4⟩:=abe h2
  have:=ixa_H (H2:=H2) h4 (by rw [←h1];exact hf)
  simp only [opM,h1,h3,on1]
  exact this
 case makeFunc f a b=>exact val1_H h
 case nilCheck x=>
  obtain⟨c,h1,h2⟩:=abe (show on1 (ev x) (fun a=>val1 H (opNil a))=some ro from h)
  have:=val1_H (H2:=H2) h2
  simp only [opM,h1,on1]
  exact this
 case call c=>
  obtain⟨callee,azq,ts⟩:=c
  cases callee<;>first|cases hq|skip
  rename_i b
  have key:∀(azq:List Operand) (ts:List Nat),Agr H H2 (footL ev azq)→aid C ev H b azq ts=some ro→ro.H=H∧ro.m=[]∧aid C ev H2 b azq ts=some ⟨ro.g,ro.v,H2,[]⟩:=by
   clear h hf
   intro azq ts hf h
   have mm:∀x y,b≠.append→azq=[x,y]→ro.H=H∧ro.m=[]∧aid C ev H2 b azq ts=some ⟨ro.g,ro.v,H2,[]⟩:=by
    intro x y hb e
    subst e
    cases b<;>first|exact absurd rfl hb|exact pur_H h
   rcases azq with _|⟨x,_|⟨y,_|⟨z,azq⟩⟩⟩
   ·cases b<;>cases h
   ·cases b<;>first|cases hq|skip
    ·rcases ts with _|⟨t,_|⟨t2,ts⟩⟩
     ·cases h
     ·obtain⟨g,v,h1,rfl⟩:=aky (show pur H (on1 (ev x) (lenC C H t))=some ro from h)
      obtain⟨c,h2,h3⟩:=abe h1
      refine⟨rfl,rfl, ?_⟩
      show pur H2 (on1 (ev x) (lenC C H2 t))=_
      rw [h2]
      show pur H2 (lenC C H2 t c)=_
      rw [lenC_H h3 (fun id hid=>hf id (footL_mem (x:=x) (by rw [h2];exact hid) zah))]
      rfl
     ·cases h
    ·cases h
    ·cases h
   ·exact mm x y (fun e=>by subst e;cases hq) rfl
   ·cases b<;>cases h
  exact key _ _ hf h
end
open Go.Wk
open Go.Ce (Tr)
open Go.Op renaming operands → zaC
open List renaming append_nil → zan, eq_nil_of_length_eq_zero → zao, mem_append_left → zbb, mem_append_right → zaY, mem_cons_of_mem → zag, mem_cons_self → zah
open Nat renaming beq → zau, blt → zbf, eq_of_beq_eq_true → zaf
section
variable {C : Cx} {ev : Operand → SV} {H : List Ob}
theorem awk{o2 x:Ob}{id:Nat}(h:H[id]? =some o2):(H++[x])[id]? =some o2:=by
 rw [List.getElem?_append_left (List.getElem?_eq_some_iff.1 h).1];exact h
theorem axo{α:Type}{l:List α}{k j:Nat}{y:α}(h:k≠j):(asx l k y)[j]? =l[j]? :=by
 rw [acp,if_neg (fun hh=>h hh.1.symm)]
theorem opM_chg{op:Op}{ro:Ro}(h:opM C ev H op=some ro){id:Nat}{o2:Ob}(hm:∀q∈ro.m,q.1≠id)(hid:H[id]? =some o2):ro.H[id]? =some o2:=by
 cases hq:quietO C op with
 |true=>
  have:=(quiet_H (H2:=H) hq h (fun _ _ _ h=>h)).1
  rw [this];exact hid
 |false=>
  cases op<;>first|exact absurd (show true=false from hq) (by simp)|cases h|skip
  case convert s t x=>
   obtain⟨c,h1,h2⟩:=abe (show on1 (ev x) (conS C H s t)=some ro from h)
   unfold conS at h2
   split at h2
   ·have h3:=(aaj (aaj h2).2).2
    split at h3
    ·cases h3;exact hid
    ·cases h3
   ·split at h2
    ·split at h2
     ·have h3:=(aaj (aaj h2).2).2
      cases h3;exact awk hid
     ·obtain⟨g,v,_,rfl⟩:=aky h2;exact hid
    ·obtain⟨g,v,_,rfl⟩:=aky h2;exact hid
  case slice t x lo hi mx=>
   have hstr:aqe C t=false:=hq
   cases mx with
   |some m=>cases h
   |none=>
    have h:(bif aqe C t then pur H (on1 (ev x) fun a=>onO ev lo fun i=>onO ev hi fun j=>cutC a i j)else on1 (ev x) fun a=>onO ev lo fun i=>onO ev hi fun j=>opSl C H t a i j)=some ro:=h
    rw [hstr]at h
    obtain⟨c,h1,h2⟩:=abe (show on1 (ev x) (fun a=>onO ev lo fun i=>onO ev hi fun j=>opSl C H t a i j)=some ro from h)
    have key:∀i j,opSl C H t c i j=some ro→ro.H[id]? =some o2:=fun i j hop=>by
     obtain⟨id2,e2,τ,l,_,_,_,_,_,hc⟩:=opSl_some hop
     rcases hc with⟨b,k,_,_,_,rfl⟩|⟨b,k,_,_,_,rfl⟩<;>exact awk hid
    rcases aqo h2 with⟨h4,h5⟩|⟨o,b,h4,h5,h6⟩
    ·rcases aqo h5 with⟨h7,h8⟩|⟨o2,b2,h7,h8,h9⟩
     ·exact key _ _ h8
     ·exact key _ _ h9
    ·rcases aqo h6 with⟨h7,h8⟩|⟨o2,b2,h7,h8,h9⟩
     ·exact key _ _ h8
     ·exact key _ _ h9
  case alloc e=>
   simp only [opM]at h
   split at h
   ·cases h;exact awk hid
   ·cases h
  case box e x=>
   simp only [opM]at h
   split at h
   ·cases h;exact awk hid
   ·cases h
  case buildSlice t n ps=>
   simp only [opM,aoh]at h
   split at h
   ·split at h
    ·have h3:=(aaj (aaj h).2).2
     split at h3
     ·cases h3;exact awk hid
     ·cases h3
    ·cases h
   ·cases h
  case store t x y=>
   obtain⟨c,h1,h2⟩:=abe (show on1 (ev x) (fun a=>opStore C H t a (ev y))=some ro from h)
   unfold opStore at h2
   split at h2
   ·rename_i n vs _ _
    have h2:=(aaj h2).2
    split at h2
    ·split at h2
     ·split at h2
      ·cases h2
       rw [axo (hm _ zah)];exact hid
      ·cases h2
     ·cases h2
    ·rename_i id2 j sz off
     cases hz:zau n 0 with
     |true=>rw [hz]at h2;cases h2
     |false=>
      rw [hz]at h2
      simp only [cond_false]at h2
      split at h2
      ·split at h2
       ·have h3:=(aaj h2).2
        cases h3
        rw [axo (hm _ zah)];exact hid
       ·cases h2
      ·split at h2
       ·split at h2
        ·have h3:=(aaj h2).2
         cases h3
         rw [axo (hm _ zah)];exact hid
        ·cases h2
       ·cases h2
      ·cases h2
    ·cases h2
   ·cases h2
  case makeSlice t x y=>
   obtain⟨a,h1,h2⟩:=abe (show on1 (ev x) (fun a=>on1 (ev y) fun i=>opMake C H t (isZ x) a i)=some ro from h)
   obtain⟨c,h3,h4⟩:=abe h2
   unfold opMake at h4
   split at h4
   ·have h5:=(aaj h4).2
    split at h5
    ·cases h5;exact awk hid
    ·cases h5
   ·cases h4
  case call c=>
   obtain⟨callee,azq,ts⟩:=c
   cases callee<;>first|cases h|skip
   rename_i b
   have h:aid C ev H b azq.toList ts.toList=some ro:=h
   unfold aid at h
   split at h
   ·obtain⟨g,v,_,rfl⟩:=aky h;exact hid
   ·rename_i x y t t2 e1 e2 e3
    cases hbt:zau t t2 with
    |true=>
     rw [hbt]at h
     obtain⟨a,h1,h2⟩:=abe h
     obtain⟨c,h3,h4⟩:=abe h2
     unfold opAppend at h4
     split at h4
     ·split at h4
      ·split at h4
       ·cases h4;exact awk hid
       ·cases h4
      ·split at h4
       ·cases h4
        exact awk (by rw [axo (hm _ zah)];exact hid)
       ·cases h4
      ·split at h4
       ·cases h4
        exact awk (by rw [axo (hm _ zah)];exact hid)
       ·cases h4
      ·cases h4
     ·cases h4
    |false=>
     rw [hbt]at h
     obtain⟨a,h1,h2⟩:=abe h
     obtain⟨c,h3,h4⟩:=abe h2
     obtain⟨l2,e2,_,_,_,_,hc⟩:=appS_some h4
     rcases hc with⟨_,rfl⟩|⟨id2,l,_,_,rfl⟩
     ·exact awk hid
     ·exact awk (by rw [axo (hm _ zah)];exact hid)
   ·obtain⟨g,v,_,rfl⟩:=aky h;exact hid
   ·cases h
end
theorem appL_get{H obs:List Ob}{o2:Ob}{id:Nat}(h:H[id]? =some o2):(H++obs)[id]? =some o2:=by
 rw [List.getElem?_append_left (List.getElem?_eq_some_iff.1 h).1];exact h
theorem putR_chg{ss:List Src}{id:Nat}{o:Ob}:∀{r:List Rk} {y:(resT r).T} {l:List SA} {H:List Ob},id∉outIds ss (Rk.ids r)→H[id]? =some o→(putR (ixS ss) (l,H) r y).2[id]? =some o:=by
 have one:∀(q:Rk) (v:q.ty.T) (l:List SA) (H:List Ob),id∉outIds ss (Rk.ids [q])→H[id]? =some o→(q.put (ixS ss) (l,H) v).2[id]? =some o:=by
  intro q v l H hn ho
  cases q with
  |r' x=>exact appL_get ho
  |o' j e x=>exact appL_get (by rw [axo (fun e=>hn (by show id∈[ixS ss j];rw [e];exact List.mem_singleton.2 rfl))];exact ho)
  |w' j x=>
   show(putW H (ixS ss j) x v)[id]? =some o
   unfold putW
   split
   ·rw [axo (fun e=>hn (by show id∈[ixS ss j];rw [e];exact List.mem_singleton.2 rfl))];exact ho
   ·exact ho
 intro r
 induction r with
 |nil=>intro y l H _ ho;exact ho
 |cons q r ih=>
  intro y l H hn ho
  cases r with
  |nil=>exact one q y l H hn ho
  |cons q2 r=>
   have hs:id∉outIds ss (Rk.ids [q])∧id∉outIds ss (Rk.ids (q2::r)):=by
    cases q with
    |r' x=>exact⟨(fun h=>by cases h),hn⟩
    |o' i e x=>exact⟨fun h=>hn (List.mem_cons.2 (.inl (List.mem_singleton.1 h))),fun h=>hn (zag _ h)⟩
    |w' i x=>exact⟨fun h=>hn (List.mem_cons.2 (.inl (List.mem_singleton.1 h))),fun h=>hn (zag _ h)⟩
   exact ih hs.2 (one q y.1 l H hs.1 ho)
theorem wholeL_fst{H:List Ob}{l:List Nat}{id:Nat}(h:id∈l):∃q∈aod H l,q.1=id:=⟨_,aya h,rfl⟩
theorem cellsL_fst{H:List Ob}:∀{l:List Nat} {id:Nat},id∈l→∃q∈cellsL H l,q.1=id
 |x::l,id,h=>by
  rcases List.mem_cons.1 h with rfl|h
  ·exact⟨_,zah,rfl⟩
  ·obtain⟨q,h1,h2⟩:=cellsL_fst (H:=H) h
   exact⟨q,zag _ h1,h2⟩
section
variable {C : Cx} {ops : List Oper} {S S1 : St} {o : Oper}
theorem lay_flat1:∀(t:Ty) (s n n2:Nat) (x:t.T),t.no=0→(t.lay s n x).1=(t.lay s n2 x).1:=by
 intro t
 induction t with
 |w' t ih=>intro s n n2 x h;exact ih s n n2 x h
 |pr a b iha ihb=>
  intro s n n2 x h
  have h1:a.no=0:=by have:a.no+b.no=0:=h;omega
  have h2:b.no=0:=by have:a.no+b.no=0:=h;omega
  show(a.lay s n x.1).1++(b.lay s (n+a.no) x.2).1=(a.lay s n2 x.1).1++(b.lay s (n2+a.no) x.2).1
  rw [iha s n n2 x.1 h1,ihb s (n+a.no) (n2+a.no) x.2 h2]
 |f' k t ih=>
  intro s n n2 x h
  show [SC.f' k (ptrL (t.lay s n x).1)]=[SC.f' k (ptrL (t.lay s n2 x).1)]
  rw [ih s n n2 x h]
 |l' e b t ih=>intro s n n2 x h;cases h
 |y'=>intro s n n2 x h;cases h
 |r' t ih=>intro s n n2 x h;cases h
 |p' e t ih=>intro s n n2 x h;cases h
 |z'=>intro s n n2 x h;cases h
 |_=>intro s n n2 x h;rfl
theorem rd_flat{any:Bool}{H H2:List Ob}:∀(t:Ty) (s:Nat) (l:List SC),t.no=0→t.rd any H2 s l=t.rd any H s l∧∀x r ss,t.rd any H s l=some (x,r,ss)→ss=[]:=by
 intro t
 induction t with
 |w' t ih=>intro s l h;exact ih s l h
 |pr a b iha ihb=>
  intro s l h
  have h1:a.no=0:=by have:a.no+b.no=0:=h;omega
  have h2:b.no=0:=by have:a.no+b.no=0:=h;omega
  obtain⟨e1,e2⟩:=iha s l h1
  simp only [Ty.rd]
  rw [e1]
  cases hp:a.rd any H s l with
  |none=>exact⟨rfl,fun x r ss h=>by cases h⟩
  |some q=>
   obtain⟨x,l1,s1⟩:=q
   obtain⟨e3,e4⟩:=ihb s l1 h2
   simp only
   rw [e3]
   cases hq:b.rd any H s l1 with
   |none=>exact⟨rfl,fun x r ss h=>by cases h⟩
   |some q2=>
    obtain⟨y,l2,s2⟩:=q2
    refine⟨rfl,fun x r ss h=> ?_⟩
    cases h
    rw [e2 _ _ _ hp,e4 _ _ _ hq];rfl
 |sm a b _ _=>intro s l h;exact⟨rfl,fun x r ss h=>by cases h⟩
 |l' e b t ih=>intro s l h;cases h
 |y'=>intro s l h;cases h
 |r' t ih=>intro s l h;cases h
 |p' e t ih=>intro s l h;cases h
 |z'=>intro s l h;cases h
 |u'=>intro s l h;exact⟨rfl,fun x r ss h=>by cases h;rfl⟩
 |o' j=>
  intro s l h
  refine⟨rfl,fun x r ss h=> ?_⟩
  simp only [Ty.rd]at h
  split at h
  ·have:=aaj h;cases this.2;rfl
  ·cases h
 |f' k t ih=>
  intro s l h
  have h:t.no=0:=h
  simp only [Ty.rd]
  split
  ·rename_i k' ids l1
   obtain⟨e1,e2⟩:=ih s (ids.map fun id=>.p' id 0) h
   rw [e1]
   refine⟨rfl,fun x r ss h=> ?_⟩
   have h:=(aaj h).2
   split at h
   ·rename_i x2 s2 hq
    cases h
    have:=aaj hq
    exact e2 _ _ _ this.2
   ·cases h
  ·exact⟨rfl,fun x r ss h=>by cases h⟩
 |_=>
  intro s l h
  refine⟨rfl,fun x r ss h=> ?_⟩
  obtain⟨c,_,_,h3⟩:=hd1_some h
  exact h3
theorem rdV_flat{any:Bool}{H H2:List Ob}{x:Ty}{v:SV}(h:x.no=0):rdV any H2 x v=rdV any H x v∧∀y ss,rdV any H x v=some (y,ss)→ss=[]:=by
 have key:∀l,fulL (x.rd any H2 0 l)=fulL (x.rd any H 0 l)∧∀y ss,fulL (x.rd any H 0 l)=some (y,ss)→ss=[]:=by
  intro l
  obtain⟨e1,e2⟩:=rd_flat (any:=any) (H:=H) (H2:=H2) x 0 l h
  rw [e1]
  refine⟨rfl,fun y ss h=> ?_⟩
  unfold fulL at h
  split at h
  ·rename_i hq;cases h;exact e2 _ _ _ hq
  ·cases h
 cases v with
 |c' c=>
  simp only [rdV]
  cases x.tz<;>cases x.agg<;>simp only [cond_true,cond_false]<;>first|exact key _|exact⟨rfl,fun y ss h=>by cases h⟩|exact⟨trivial,fun y ss h=>by cases h⟩
 |a' l=>
  simp only [rdV]
  cases x.tz<;>cases x.agg<;>simp only [cond_true,cond_false]<;>first|exact key _|exact⟨rfl,fun y ss h=>by cases h⟩|exact⟨trivial,fun y ss h=>by cases h⟩
 |_=>exact⟨rfl,fun y ss h=>by cases h⟩
theorem rdA_flat{H H2:List Ob}:∀(l:List Ty) (vs:List SV),flatA l=true→rdA H2 l vs=rdA H l vs∧∀y ss,rdA H l vs=some (y,ss)→ss=[]
 |[],vs,h=>by
  cases vs with
  |nil=>exact⟨rfl,fun y ss h=>by cases h;rfl⟩
  |cons v vs=>exact⟨rfl,fun y ss h=>by cases h⟩
 |[x],vs,h=>by
  have h:=aex (show(bif zau x.no 0 then flatA []else false)=true from h)
  have hx:=zaf h.1
  match vs with
  |[]=>exact⟨rfl,fun y ss h=>by cases h⟩
  |[v]=>exact rdV_flat hx
  |_::_::_=>exact⟨rfl,fun y ss h=>by cases h⟩
 |x::y::l,vs,h=>by
  have h:=aex (show(bif zau x.no 0 then flatA (y::l)else false)=true from h)
  have hx:=zaf h.1
  match vs with
  |[]=>exact⟨rfl,fun y ss h=>by cases h⟩
  |v::vs=>
   obtain⟨e1,e2⟩:=rdV_flat (any:=true) (H:=H) (H2:=H2) (v:=v) hx
   obtain⟨e3,e4⟩:=rdA_flat (H:=H) (H2:=H2) (y::l) vs h.2
   simp only [rdA]
   rw [e1]
   cases hp:rdV true H x v with
   |none=>exact⟨rfl,fun y ss h=>by cases h⟩
   |some q=>
    obtain⟨a,s1⟩:=q
    simp only
    rw [e3]
    cases hq:rdA H (y::l) vs with
    |none=>exact⟨rfl,fun y ss h=>by cases h⟩
    |some q2=>
     obtain⟨b,s2⟩:=q2
     refine⟨rfl,fun y ss h=> ?_⟩
     cases h
     rw [e2 _ _ hp,e4 _ _ hq];rfl
theorem layA_flat:∀(l:List Ty) (H:List Ob) (x:(tupT l).T),flatA l=true→(ata H l x).2=H
 |[],H,x,h=>rfl
 |[t],H,x,h=>by
  have h:=aex (show(bif zau t.no 0 then flatA []else false)=true from h)
  show H++(t.lay 0 H.length x).2=H
  rw [zao ((Ty.lay_no t 0 H.length x).trans (zaf h.1)),zan]
 |t::y::l,H,x,h=>by
  have h:=aex (show(bif zau t.no 0 then flatA (y::l)else false)=true from h)
  show(ata (H++(t.lay 0 H.length x.1).2) (y::l) x.2).2=H
  rw [zao ((Ty.lay_no t 0 H.length x.1).trans (zaf h.1)),zan]
  exact layA_flat (y::l) H x.2 h.2
theorem flatR_cons{k:Rk}{l:List Rk}(h:flatR (k::l)=true):∃x,k=.r' x∧x.no=0∧flatR l=true:=by
 cases k with
 |r' x=>
  have h:=aex (show(bif zau x.no 0 then flatR l else false)=true from h)
  exact⟨x,rfl,zaf h.1,h.2⟩
 |_=>cases h
theorem putR_flat{ix:Nat→Nat}:∀(r:List Rk) (y:(resT r).T) (l:List SA) (H:List Ob),flatR r=true→(putR ix (l,H) r y).2=H∧∀H2,(putR ix (l,H2) r y).1=(putR ix (l,H) r y).1
 |[],y,l,H,h=>⟨rfl,fun _=>rfl⟩
 |[k],y,l,H,h=>by
  obtain⟨x,rfl,hx,_⟩:=flatR_cons h
  have e:∀n,(x.lay 0 n y).2=[]:=fun n=>zao ((Ty.lay_no x 0 n y).trans hx)
  refine⟨?_,fun H2=> ?_⟩
  ·show H++(x.lay 0 H.length y).2=H
   rw [e,zan]
  ·show l++[x.sa (x.lay 0 H2.length y).1]=l++[x.sa (x.lay 0 H.length y).1]
   rw [lay_flat1 x 0 H2.length H.length y hx]
 |k::k2::r,y,l,H,h=>by
  obtain⟨x,rfl,hx,hr⟩:=flatR_cons h
  have e:∀n,(x.lay 0 n y.1).2=[]:=fun n=>zao ((Ty.lay_no x 0 n y.1).trans hx)
  have e2:∀H,putR ix (l,H) (.r' x::k2::r) y=putR ix (l++[x.sa (x.lay 0 0 y.1).1],H) (k2::r) y.2:=fun H=>by
   show putR ix (l++[x.sa (x.lay 0 H.length y.1).1],H++(x.lay 0 H.length y.1).2) (k2::r) y.2=_
   rw [e,zan,lay_flat1 x 0 H.length 0 y.1 hx]
  rw [e2]
  obtain⟨h1,h2⟩:=putR_flat (k2::r) y.2 (l++[x.sa (x.lay 0 0 y.1).1]) H hr
  refine⟨h1,fun H2=> ?_⟩
  rw [e2];exact h2 H2
theorem ids_flat:∀(r:List Rk),flatR r=true→Rk.ids r=[]
 |[],h=>rfl
 |k::r,h=>by
  obtain⟨x,rfl,_,hr⟩:=flatR_cons h
  exact ids_flat r hr
theorem rkOk_flat{H H2:List Ob}{ss:List Src}:∀(r:List Rk),flatR r=true→rkOk H2 ss r=rkOk H ss r
 |[],h=>rfl
 |k::r,h=>by
  obtain⟨x,rfl,_,hr⟩:=flatR_cons h
  simp only [rkOk]
  rw [rkOk_flat r hr]
theorem flatX_mem:∀{l:List Con} {c:Con},c∈l→flatX l=true→flatA c.a=true∧flatR c.r=true
 |x::l,c,hc,h=>by
  have h:=aex (show(bif flatA x.a then(bif flatR x.r then flatX l else false)else false)=true from h)
  have h2:=aex h.2
  rcases List.mem_cons.1 hc with rfl|hc
  ·exact⟨h.1,h2.1⟩
  ·exact flatX_mem hc h2.2
theorem callS_at{c:Con}{d:Option Nat}{a:(tupT c.a).T}{ss:List Src}{y:(resT c.r).T}{t:Nat}:(callS c S d a ss y).at t=if d=some t then resV (putR (ixS ss) ([],kill S.H (azo (Rk.ids c.r) (ata [] c.a a).2 0 ss)) c.r y).1 else S.at t:=by
 have e:callS c S d a ss y=St.setO ⟨S.F,(putR (ixS ss) ([],kill S.H (azo (Rk.ids c.r) (ata [] c.a a).2 0 ss)) c.r y).2,S.nb,S.al,callM c S a ss++S.m⟩ d (resV (putR (ixS ss) ([],kill S.H (azo (Rk.ids c.r) (ata [] c.a a).2 0 ss)) c.r y).1):=rfl
 rw [e,at_setO]
 rfl
theorem arx{S:St}{d:Option Nat}{v:SV}:(S.setO d v).H=S.H∧(S.setO d v).m=S.m∧(S.setO d v).nb=S.nb∧(S.setO d v).al=S.al:=by cases d<;>exact⟨rfl,rfl,rfl,rfl⟩
theorem atp{c:Con}{d:Option Nat}{a:(tupT c.a).T}{ss:List Src}{y:(resT c.r).T}:(callS c S d a ss y).H=(putR (ixS ss) ([],kill S.H (azo (Rk.ids c.r) (ata [] c.a a).2 0 ss)) c.r y).2∧(callS c S d a ss y).m=callM c S a ss++S.m∧(callS c S d a ss y).nb=S.nb∧(callS c S d a ss y).al=S.al:=by
 have e:callS c S d a ss y=St.setO ⟨S.F,(putR (ixS ss) ([],kill S.H (azo (Rk.ids c.r) (ata [] c.a a).2 0 ss)) c.r y).2,S.nb,S.al,callM c S a ss++S.m⟩ d (resV (putR (ixS ss) ([],kill S.H (azo (Rk.ids c.r) (ata [] c.a a).2 0 ss)) c.r y).1):=rfl
 rw [e]
 exact⟨arx.1,arx.2.1,arx.2.2.1,arx.2.2.2⟩
theorem avo{c:Con}{d:Option Nat}{a:(tupT c.a).T}{y:(resT c.r).T}(ha:flatA c.a=true)(hr:flatR c.r=true):(callS c S d a [] y).H=S.H∧(callS c S d a [] y).m=S.m∧callM c S a []=[]∧∀S2:St,resV (putR (ixS []) ([],kill S2.H (azo (Rk.ids c.r) (ata [] c.a a).2 0 [])) c.r y).1=resV (putR (ixS []) ([],kill S.H (azo (Rk.ids c.r) (ata [] c.a a).2 0 [])) c.r y).1:=by
 have e1:azo (Rk.ids c.r) (ata [] c.a a).2 0 []=[]:=by rw [layA_flat c.a [] a ha];rfl
 have e2:callM c S a []=[]:=by
  unfold callM
  rw [e1,ids_flat c.r hr];rfl
 refine⟨?_, ?_,e2,fun S2=> ?_⟩
 ·rw [atp.1,e1]
  exact(putR_flat c.r y [] S.H hr).1
 ·rw [atp.2.1,e2];rfl
 ·rw [e1]
  show resV (putR (ixS []) ([],S2.H) c.r y).1=resV (putR (ixS []) ([],S.H) c.r y).1
  rw [(putR_flat c.r y [] S.H hr).2 S2.H]
theorem opM_qt{ev:Operand→SV}{H:List Ob}{op:Op}{ro:Ro}(h:opM C ev H op=some ro)(hq:qt C op=true):quietO C op=true:=by
 unfold qt at hq
 cases hqq:quietO C op with
 |true=>rfl
 |false=>
  rw [hqq]at hq
  simp only [cond_false]at hq
  split at hq
  ·rename_i c
   split at hq
   ·rename_i k hc
    simp only [opM,hc]at h
    cases h
   ·cases hq
  ·cases hq
theorem callT_flat(h:CallT C S o S1)(hq:qt C o.op=true):∃cal f k ids c a y,o.op=.call cal∧cal.callee=.value f∧S.ev C f=.c' (.f' k ids)∧c∈C.X k∧rdA S.H c.a (cal.args.toList.map (S.ev C)++capV ids)=some (a,[])∧callOk c S a []=true∧(c.f a).ok y∧S1=callS c S o.dst a [] y∧flatA c.a=true∧flatR c.r=true:=by
 obtain⟨cal,f,k,ids,c,a,ss,y,hop,hf,hfv,hc,hr,hok,hy,hS1⟩:=h.ex
 unfold qt at hq
 rw [hop]at hq
 have hq1:quietO C (.call cal)=false:=by
  show(match cal.callee with
   |.builtin .len=>true
   |.builtin .min=>true
   |.builtin .max=>true
   |_=>false)=false
  rw [hf]
 rw [hq1]at hq
 simp only [cond_false,hf]at hq
 split at hq
 ·rename_i k2 hk2
  cases hk2
  have hfv2:S.ev C (.func k2)=.c' (.f' k2 []):=rfl
  rw [hfv2]at hfv
  cases hfv
  obtain⟨h1,h2⟩:=flatX_mem hc hq
  obtain rfl:=(rdA_flat (H:=S.H) (H2:=S.H) c.a _ h1).2 a ss hr
  exact⟨cal,_,_,_,c,a,y,hop,hf,hfv2,hc,hr,hok,hy,hS1,h1,h2⟩
 ·cases hq
theorem adv_fr(h:Adv C ops S o S1):(∀t,o.dst≠some t→S1.at t=S.at t)∧S1.nb=S.nb∧S1.al=S.al:=by
 cases h with
 |op hg ro h ha hd hm=>
  refine⟨fun t ht=> ?_,arx.2.2.1,arx.2.2.2⟩
  rw [at_setO,if_neg ht];rfl
 |mv hg x d b hx hd hb=>exact⟨fun t ht=>by rw [at_set,if_neg (fun e=>ht (by rw [hd,e]))],rfl,rfl⟩
 |skip hg d hd=>exact⟨fun t ht=>by rw [at_set,if_neg (fun e=>ht (by rw [hd,e]))],rfl,rfl⟩
 |call hg _ h=>
  obtain⟨cal,f,k,ids,c,a,ss,y,_,_,_,_,_,_,_,rfl⟩:=h
  exact⟨fun t ht=>by rw [callS_at,if_neg ht],atp.2.2.1,atp.2.2.2⟩
theorem adv_quiet(h:Adv C ops S o S1)(hq:qt C o.op=true):S1.H=S.H∧S1.m=S.m:=by
 cases h with
 |op hg ro h ha hd hm=>
  have:=quiet_H (H2:=S.H) (opM_qt h hq) h (fun _ _ _ h=>h)
  refine⟨arx.1.trans this.1,arx.2.1.trans ?_⟩
  show ro.m++S.m=S.m
  rw [this.2.1];rfl
 |mv hg x d b hx hd hb=>exact⟨rfl,rfl⟩
 |skip hg d hd=>exact⟨rfl,rfl⟩
 |call hg _ h=>
  obtain⟨cal,f,k,ids,c,a,y,_,_,_,_,_,_,_,rfl,h1,h2⟩:=callT_flat h hq
  exact⟨(avo h1 h2).1,(avo h1 h2).2.1⟩
theorem adv_chg(h:Adv C ops S o S1):∃mn,S1.m=mn++S.m∧∀(id:Nat) (o2:Ob),(∀q∈mn,q.1≠id)→amb S.H id=some o2→amb S1.H id=some o2:=by
 cases h with
 |op hg ro h ha hd hm=>
  refine⟨ro.m,arx.2.1,fun id o2 hq hid=> ?_⟩
  rw [aau]at hid⊢
  rw [arx.1]
  exact opM_chg h hq hid
 |mv hg x d b hx hd hb=>exact⟨[],rfl,fun id o2 _ h=>h⟩
 |skip hg d hd=>exact⟨[],rfl,fun id o2 _ h=>h⟩
 |call hg _ h=>
  obtain⟨cal,f,k,ids,c,a,ss,y,_,_,_,_,_,_,_,rfl⟩:=h
  refine⟨callM c S a ss,atp.2.1,fun id o2 hq hid=> ?_⟩
  rw [aau]at hid⊢
  rw [atp.1]
  refine putR_chg (fun hh=> ?_) ?_
  ·obtain⟨q,h1,h2⟩:=cellsL_fst (H:=S.H) hh
   exact hq q (zaY _ h1) h2
  ·rw [anh,if_neg (fun hh=> ?_)]
   ·exact hid
   ·obtain⟨q,h1,h2⟩:=wholeL_fst (H:=S.H) hh
    exact hq q (zbb _ h1) h2
theorem oks_congr{S S2:St}(hnb:S2.nb=S.nb)(hal:S2.al=S.al):∀l,S2.oks l=S.oks l
 |[]=>rfl
 |x::l=>by
  show(bif S2.ok x then S2.oks l else false)=(bif S.ok x then S.oks l else false)
  rw [oks_congr hnb hal l]
  unfold St.ok
  rw [hnb,hal]
theorem adv_move(h:Adv C ops S o S1){S2:St}(ho:∀t,Operand.tmp t∈o.op.operands→S2.at t=S.at t)(hg2:∀t∈gslot ops o,S2.at t=S.at t)(hnb:S2.nb=S.nb)(hal:S2.al=S.al)
  (hq:qt C o.op=true→Agr S.H S2.H (footO (S.ev C) o.op)) (hh:qt C o.op=false→S2.H=S.H):
  ∃S3,Adv C ops S2 o S3∧(∀t,S3.at t=if o.dst=some t then S1.at t else S2.at t)∧S3.nb=S.nb∧S3.al=S.al∧(qt C o.op=true→S3.H=S2.H∧S3.m=S2.m)∧(qt C o.op=false→S3.H=S1.H∧∀mn,S1.m=mn++S.m→S3.m=mn++S2.m):=by
 have hev:∀x∈o.op.operands,S2.ev C x=S.ev C x:=by
  intro x hx
  cases x with
  |tmp t=>show(bif zbf t C.nn then S2.at t else .u')=(bif zbf t C.nn then S.at t else .u');rw [ho t hx]
  |_=>rfl
 have hgr:∀b,Grd C ops S o b→Grd C ops S2 o b:=by
  intro b hg
  have gs:∀(q:Nat×Bool) (dg:Nat),o.guard=some q→gdst ops q.1=some dg→S2.at dg=S.at dg:=by
   intro q dg h1 h2
   refine hg2 dg ?_
   unfold gslot
   rw [h1]
   simp only [h2,List.mem_singleton]
  cases hg with
  |none h=>exact .none h
  |yes q dg h h1 h2 h3=>exact .yes q dg h h1 h2 (by rw [gs q dg h h1];exact h3)
  |no q dg h h1 h2 h3=>exact .no q dg h h1 h2 (by rw [gs q dg h h1];exact h3)
  |un q dg h h1 h2 h3=>exact .un q dg h h1 h2 (by rw [gs q dg h h1];exact h3)
 have hsame:= @quiet_H C
 cases h with
 |op hg ro h ha hd hm=>
  cases hqq:qt C o.op with
  |true=>
   have h1:=quiet_H (H2:=S2.H) (opM_qt h hqq) h (hq hqq)
   have h2:opM C (S2.ev C) S2.H o.op=some ⟨ro.g,ro.v,S2.H,[]⟩:=by rw [opM_congr hev];exact h1.2.2
   refine⟨_,.op (hgr _ hg) ⟨ro.g,ro.v,S2.H,[]⟩ h2 ha hd rfl,fun t=> ?_,arx.2.2.1.trans hnb,arx.2.2.2.trans hal,fun _=>⟨arx.1,arx.2.1⟩,fun e=>by cases e⟩
   rw [at_setO,at_setO]
   split<;>rfl
  |false=>
   have hH:=hh hqq
   have h2:opM C (S2.ev C) S2.H o.op=some ro:=by rw [opM_congr hev,hH];exact h
   refine⟨_,.op (hgr _ hg) ro h2 ha hd (by rw [oks_congr hnb hal];exact hm),fun t=> ?_,arx.2.2.1.trans hnb,arx.2.2.2.trans hal,(fun e=>by cases e),fun _=>⟨by rw [arx.1,arx.1],fun mn hmn=> ?_⟩⟩
   ·rw [at_setO,at_setO]
    split<;>rfl
   ·rw [arx.2.1]at hmn⊢
    have:=List.append_cancel_right hmn
    show ro.m++S2.m=_
    rw [this]
 |mv hg x d b hx hd hb=>
  have hxo:x∈o.op.operands:=by
   obtain⟨dst,op,ty,pos,after,gd⟩:=o
   cases op<;>first|cases hx|skip
   ·simp [zaC]
   ·simp [zaC]
  have hqq:qt C o.op=true:=by
   obtain⟨dst,op,ty,pos,after,gd⟩:=o
   cases op<;>first|cases hx|skip
   ·rfl
   ·rfl
  refine⟨_,.mv (hgr _ hg) x d b hx hd (by rw [hev x hxo];exact hb),fun t=> ?_,hnb,hal,fun _=>⟨rfl,rfl⟩,fun e=>by rw [hqq]at e;cases e⟩
  rw [at_set,at_set,hd]
  by_cases e:t=d
  ·subst e;simp
  ·have e2:¬(some d:Option Nat)=some t:=fun hh=>e (Option.some.inj hh).symm
   rw [if_neg e,if_neg e2]
 |skip hg d hd=>
  have fin:∀t,(S2.set d .n').at t=if o.dst=some t then(S.set d .n').at t else S2.at t:=by
   intro t
   rw [at_set,at_set,hd]
   by_cases e:t=d
   ·subst e;simp
   ·have e2:¬(some d:Option Nat)=some t:=fun hh=>e (Option.some.inj hh).symm
    rw [if_neg e,if_neg e2]
  exact⟨_,.skip (hgr _ hg) d hd,fin,hnb,hal,fun _=>⟨rfl,rfl⟩,fun hqq=>⟨hh hqq,fun mn hmn=>by
   have hmn:S.m=mn++S.m:=hmn
   have:mn=[]:=List.append_left_eq_self.1 hmn.symm
   rw [this];rfl⟩⟩
 |call hg _ h=>
  cases hqq:qt C o.op with
  |true=>
   obtain⟨cal,f,k,ids,c,a,y,hop,hf,hfv,hc,hr,hok,hy,rfl,hfa,hfr⟩:=callT_flat h hqq
   have hfo:f∈o.op.operands:=by rw [hop];simp [zaC,Call.operands,hf]
   have has:cal.args.toList.map (S2.ev C)=cal.args.toList.map (S.ev C):=map_congr fun x hx=>hev x (by
    rw [hop]
    simp only [zaC,Call.operands,Array.mem_append]
    exact .inr (by simpa using hx))
   have e0:∀Z:St,callM c Z a []=[]:=fun Z=>(avo (S:=Z) (d:=none) (y:=y) hfa hfr).2.2.1
   have hok2:callOk c S2 a []=true:=by
    unfold callOk at hok⊢
    rw [e0,rkOk_flat (H:=S.H) c.r hfr]
    rw [e0]at hok
    exact hok
   refine⟨_,.call (hgr _ hg) _ ⟨cal,f,k,ids,c,a,[],y,hop,hf,by rw [hev f hfo];exact hfv,hc,by rw [has,(rdA_flat (H:=S.H) (H2:=S2.H) c.a _ hfa).1];exact hr,hok2,hy,rfl⟩,fun t=> ?_,atp.2.2.1.trans hnb,atp.2.2.2.trans hal,fun _=>⟨(avo hfa hfr).1,(avo hfa hfr).2.1⟩,(fun e=>by cases e)⟩
   rw [callS_at,callS_at]
   by_cases e:o.dst=some t
   ·rw [if_pos e,if_pos e,if_pos e];exact(avo (S:=S) (d:=none) hfa hfr).2.2.2 S2
   ·rw [if_neg e,if_neg e]
  |false=>
  have hH:=hh hqq
  obtain⟨cal,f,k,ids,c,a,ss,y,hop,hf,hfv,hc,hr,hok,hy,rfl⟩:=h
  have hfo:f∈o.op.operands:=by rw [hop];simp [zaC,Call.operands,hf]
  have has:cal.args.toList.map (S2.ev C)=cal.args.toList.map (S.ev C):=map_congr fun x hx=>hev x (by
   rw [hop]
   simp only [zaC,Call.operands,Array.mem_append]
   exact .inr (by simpa using hx))
  have hok2:callOk c S2 a ss=true:=by
   unfold callOk at hok⊢
   rw [oks_congr hnb hal,hH]
   have e:callM c S2 a ss=callM c S a ss:=by unfold callM;rw [hH]
   rw [e];exact hok
  refine⟨_,.call (hgr _ hg) _ ⟨cal,f,k,ids,c,a,ss,y,hop,hf,by rw [hev f hfo];exact hfv,hc,by rw [has,hH];exact hr,hok2,hy,rfl⟩,fun t=> ?_,atp.2.2.1.trans hnb,atp.2.2.2.trans hal,(fun e=>by cases e),fun _=>⟨?_,fun mn hmn=> ?_⟩⟩
  ·rw [callS_at,callS_at,hH]
   split<;>rfl
  ·rw [atp.1,atp.1,hH]
  ·rw [atp.2.1]at hmn⊢
   have:=List.append_cancel_right hmn
   have e:callM c S2 a ss=callM c S a ss:=by unfold callM;rw [hH]
   rw [e,this]
end
open Go.Wk
open Go.Ce (Tr)
open Go.Op renaming operands → zaC
open List renaming append_assoc → zav, append_nil → zan, length_append → zab, length_nil → zal, length_singleton → zad, mem_cons_of_mem → zag, mem_cons_self → zah
open Nat renaming add_assoc → zaN, add_comm → zaV, add_zero → zaK, beq → zau, eq_of_beq_eq_true → zaf, le_refl → zam, le_trans → zaM, succ → zbh, zero_add → zba
theorem ancs_get:∀(l:List Oper) (A:List (List Nat)),(∃B,ancs l A=A++B)∧∀(i:Nat) (o:Oper),l[i]? =some o→(ancs l A)[A.length+i]? =some (ancO ((ancs l A).take (A.length+i)) o.after.toList)
 |[],A=>⟨⟨[],by simp [ancs]⟩,fun i o h=>by simp at h⟩
 |o::l,A=>by
  obtain⟨⟨B,h1⟩,h2⟩:=ancs_get l (A++[ancO A o.after.toList])
  have e:ancs (o::l) A=ancs l (A++[ancO A o.after.toList]):=rfl
  refine⟨⟨[ancO A o.after.toList]++B,by rw [e,h1,zav]⟩,fun i o2 h=> ?_⟩
  cases i with
  |zero=>
   have h:o=o2:=by simpa using h
   subst h
   rw [e,h1,zaK,zav,List.getElem?_append_right (zam _),List.take_left]
   simp
  |succ i=>
   have:=h2 i o2 (by simpa using h)
   rw [zab,zad,zaN,zaV 1 i]at this
   rw [e];exact this
theorem uniN_mem{j:Nat}:∀{l r:List Nat},j∈uniN l r↔j∈l∨j∈r
 |[],r=>by simp [uniN]
 |x::l,r=>by
  unfold uniN
  cases h:aws x r with
  |true=>
   have hx:=ago.1 h
   rw [cond_true,uniN_mem,List.mem_cons]
   exact⟨fun h=>h.elim (fun h=>.inl (.inr h)) .inr,fun h=>h.elim (fun h=>h.elim (fun e=>.inr (e▸hx)) .inl) .inr⟩
  |false=>
   rw [cond_false,uniN_mem,List.mem_cons,List.mem_cons]
   exact⟨fun h=>h.elim (fun h=>.inl (.inr h)) (fun h=>h.elim (fun e=>.inl (.inl e)) .inr),fun h=>h.elim (fun h=>h.elim (fun e=>.inr (.inl e)) .inl) (fun h=>.inr (.inr h))⟩
theorem ancO_mem{A:List (List Nat)}{j:Nat}:∀{l:List Edge},j∈ancO A l↔∃e∈l,Region.binds .any e=true∧(j=e.on∨j∈asz A e.on)
 |[]=>by simp [ancO]
 |e::l=>by
  have ih:=ancO_mem (A:=A) (j:=j) (l:=l)
  have hA:(match amb A e.on with
   |some a=>a
   |none=>[])=asz A e.on:=rfl
  simp only [ancO,hA]
  cases hb:Region.binds .any e with
  |true=>
   simp only [cond_true,uniN_mem,List.mem_cons,ih,exists_eq_or_imp,hb,true_and]
   exact Iff.rfl
  |false=>
   simp only [cond_false,ih,List.mem_cons,exists_eq_or_imp,hb,Bool.false_eq_true,false_and,false_or]
theorem backE_of:∀{l:List Oper} {i:Nat},backE l i=true→∀(j:Nat) (o:Oper),l[j]? =some o→∀e∈o.after,Region.binds .any e=true→e.on<i+j
 |[],i,_,j,o,hj=>by simp at hj
 |x::l,i,h,j,o,hj=>by
  have h:=aex (show(bif _ then backE l (zbh i)else false)=true from h)
  intro e he hb
  cases j with
  |zero=>
   have hj:x=o:=by simpa using hj
   subst hj
   have:=List.all_eq_true.1 h.1 e (by simpa using he)
   rw [hb]at this
   simpa [Nat.blt_eq] using this
  |succ j=>
   have:=backE_of h.2 j o (by simpa using hj) e he hb
   omega
theorem ancAt_take{A:List (List Nat)}{k i:Nat}(h:i<k):asz (A.take k) i=asz A i:=by
 unfold asz
 rw [aau,aau,List.getElem?_take,if_pos h]
section
variable {l : List Oper}
theorem anc_iff(hb:backE l 0=true){i:Nat}{o:Oper}(ho:l[i]? =some o){j:Nat}:j∈asz (ancs l []) i↔∃e∈o.after,Region.binds .any e=true∧(j=e.on∨j∈asz (ancs l []) e.on):=by
 have h:=(ancs_get l []).2 i o ho
 rw [zal,zba]at h
 have e:asz (ancs l []) i=ancO ((ancs l []).take i) o.after.toList:=by
  unfold asz
  rw [aau,h]
 rw [e,ancO_mem]
 constructor
 ·rintro⟨e,he,h1,h2⟩
  have he2:e∈o.after:=by simpa using he
  have:=backE_of hb i o ho e he2 h1
  rw [ancAt_take (by omega)]at h2
  exact⟨e,he2,h1,h2⟩
 ·rintro⟨e,he,h1,h2⟩
  have:=backE_of hb i o ho e he h1
  refine⟨e,by simpa using he,h1, ?_⟩
  rw [ancAt_take (by omega)];exact h2
theorem ancAt_none{i:Nat}(h:l[i]? =none):asz (ancs l []) i=[]:=by
 have key:∀(l:List Oper) (A:List (List Nat)),(ancs l A).length=A.length+l.length:=by
  intro l
  induction l with
  |nil=>intro A;rfl
  |cons o l ih=>intro A;rw [show ancs (o::l) A=ancs l (A++[ancO A o.after.toList])from rfl,ih];simp;omega
 unfold asz
 have h2:=List.getElem?_eq_none_iff.1 h
 have h3:=key l []
 rw [aau,List.getElem?_eq_none (by simp at h3;omega)]
theorem anc_lt(hb:backE l 0=true):∀(i j:Nat),j∈asz (ancs l []) i→j<i:=by
 intro i
 induction i using Nat.strongRecOn with
 |_ i ih=>
  intro j hj
  cases ho:l[i]? with
  |none=>rw [ancAt_none ho]at hj;cases hj
  |some o=>
   obtain⟨e,he,h1,h2⟩:=(anc_iff hb ho).1 hj
   have h3:=backE_of hb i o ho e he h1
   rcases h2 with rfl|h2
   ·omega
   ·have:=ih e.on (by omega) j h2
    omega
theorem anc_listed{ops:Array Oper}{k:Nat}{listed:Array Bool}(hl:l=ops.toList.take k)(hb:backE l 0=true)(inv:HeadInv .any ops k listed):∀(i:Nat) (o:Oper),l[i]? =some o→(∀e∈o.after,Region.binds .any e=true→listed.getD e.on false=true)→∀j∈asz (ancs l []) i,listed.getD j false=true:=by
 intro i
 induction i using Nat.strongRecOn with
 |_ i ih=>
  intro o ho hall j hj
  obtain⟨e,he,h1,h2⟩:=(anc_iff hb ho).1 hj
  have h3:=backE_of hb i o ho e he h1
  have h4:=hall e he h1
  rcases h2 with rfl|h2
  ·exact h4
  ·have hi:=(List.getElem?_eq_some_iff.1 ho).1
   have hlen:e.on<l.length:=by omega
   obtain⟨o2,ho2⟩:∃o2,l[e.on]? =some o2:=⟨_,List.getElem?_eq_getElem hlen⟩
   have ho3:ops[e.on]? =some o2:=by
    have ho4:=ho2
    rw [hl,List.getElem?_take]at ho4
    split at ho4
    ·simpa using ho4
    ·cases ho4
   exact ih e.on (by omega) _ ho2 (fun e2 he2 hb2=>inv.closed e.on _ ho3 h4 e2 he2 hb2) j h2
end
theorem opndOk_of{A:List (List Nat)}{i:Nat}{rd:List Nat}:∀{l:List Oper} {j0:Nat},opndOk A i rd l j0=true→∀(j:Nat) (o:Oper) (d:Nat),l[j]? =some o→o.dst=some d→d∈rd→i=j0+j∨ordd A i (j0+j)=true
 |[],j0,_,j,o,d,hj=>by simp at hj
 |x::l,j0,h,j,o,d,hj=>by
  have h:=aex (show(bif _ then opndOk A i rd l (zbh j0)else false)=true from h)
  intro hd hm
  cases j with
  |zero=>
   have hj:x=o:=by simpa using hj
   subst hj
   have h1:=h.1
   rw [hd]at h1
   simp only [ago.2 hm,cond_true]at h1
   cases hb:zau i j0 with
   |true=>exact .inl (zaf hb)
   |false=>rw [hb]at h1;exact .inr h1
  |succ j=>
   have:=opndOk_of h.2 j o d (by simpa using hj) hd hm
   rw [show zbh j0+j=j0+(j+1)by omega]at this
   exact this
theorem opndsOk_of{ops:List Oper}{A:List (List Nat)}{all:List Oper}:∀{l:List Oper} {i0:Nat},opndsOk ops A all l i0=true→∀(i:Nat) (o:Oper),l[i]? =some o→opndOk A (i0+i) (opndS o.op.operands.toList++gslot ops o) all 0=true
 |[],i0,_,i,o,hi=>by simp at hi
 |x::l,i0,h,i,o,hi=>by
  have h:=aex (show(bif _ then opndsOk ops A all l (zbh i0)else false)=true from h)
  cases i with
  |zero=>
   have hi:x=o:=by simpa using hi
   subst hi
   exact h.1
  |succ i=>
   have:=opndsOk_of h.2 i o (by simpa using hi)
   rw [show zbh i0+i=i0+(i+1)by omega]at this
   exact this
theorem memOk1_of{A:List (List Nat)}{i:Nat}{q:Bool×List Nat}:∀{l:List (Bool×List Nat)} {j0:Nat},memOk1 A i q l j0=true→∀(j:Nat) (p:Bool×List Nat),l[j]? =some p→i≠j0+j→ordd A i (j0+j)=false→p.1=true→q.1=false∧∀x∈q.2,x∉p.2
 |[],j0,_,j,p,hj=>by simp at hj
 |x::l,j0,h,j,p,hj=>by
  have h:=aex (show(bif _ then memOk1 A i q l (zbh j0)else false)=true from h)
  intro hne ho hp
  cases j with
  |zero=>
   have hj:x=p:=by simpa using hj
   subst hj
   have h1:=h.1
   have hb:zau i j0=false:=by rw [beqN];simp;omega
   rw [zaK]at ho
   rw [hb,ho,hp]at h1
   simp only [cond_false,cond_true]at h1
   cases hq:q.1 with
   |true=>rw [hq]at h1;cases h1
   |false=>rw [hq]at h1;exact⟨rfl,disN_iff.1 h1⟩
  |succ j=>
   refine memOk1_of h.2 j p (by simpa using hj) (by omega) ?_ hp
   rw [show zbh j0+j=j0+(j+1)by omega];exact ho
theorem memOk_of{A:List (List Nat)}{all:List (Bool×List Nat)}:∀{l:List (Bool×List Nat)} {i0:Nat},memOk A all l i0=true→∀(i:Nat) (q:Bool×List Nat),l[i]? =some q→memOk1 A (i0+i) q all 0=true
 |[],i0,_,i,q,hi=>by simp at hi
 |x::l,i0,h,i,q,hi=>by
  have h:=aex (show(bif _ then memOk A all l (zbh i0)else false)=true from h)
  cases i with
  |zero=>
   have hi:x=q:=by simpa using hi
   subst hi
   exact h.1
  |succ i=>
   have:=memOk_of h.2 i q (by simpa using hi)
   rw [show zbh i0+i=i0+(i+1)by omega]at this
   exact this
theorem opsT_path{C:Cx}{ops:List Oper}{ρ':Ty}{κ:St→List (Bool×List Nat)→Option ρ'.T}{r:ρ'.T}:∀(l:List Oper) (i:Nat) (S:St) (tr:List (Bool×List Nat)),opsT C ops l i S tr κ=some r→
  ∃(T:Nat→St) (es:List (Bool×List Nat)),T 0=S∧(∀(j:Nat) (o:Oper),l[j]? =some o→Adv C ops (T j) o (T (j+1))∧es[j]? =some (entry C (T j) (T (j+1)) o))∧κ (T l.length) (tr++es)=some r
 |[],i,S,tr,h=>⟨fun _=>S,[],rfl,fun j o hj=>by simp at hj,by rw [zan];exact h⟩
 |o::l,i,S,tr,h=>by
  obtain⟨S2,h1,h2⟩:=run3_adv (show run3 C ops i S o (fun S2=>opsT C ops l (zbh i) S2 (tr++[entry C S S2 o]) κ)=some r from h)
  obtain⟨T,es,h3,h4,h5⟩:=opsT_path l (zbh i) S2 _ h2
  refine⟨fun j=>match j with
   |0=>S
   |j+1=>T j,entry C S S2 o::es,rfl,fun j o2 hj=> ?_,by rw [zav]at h5;exact h5⟩
  cases j with
  |zero=>
   have hj:o=o2:=by simpa using hj
   subst hj
   show Adv C ops S o (T 0)∧some (entry C S S2 o)=some (entry C S (T 0) o)
   rw [h3]
   exact⟨h1,rfl⟩
  |succ j=>exact h4 j o2 (by simpa using hj)
theorem lenR_eq:∀l:List Rg,lenR l=l.length
 |[]=>rfl
 |_::l=>by show zbh (lenR l)=_;rw [lenR_eq l];rfl
theorem fsts_mem:∀{mn m:List Rg} {q:Rg},q∈mn→q.1∈fsts mn.length (mn++m)
 |x::mn,m,q,h=>by
  show q.1∈x.1::fsts mn.length (mn++m)
  rcases List.mem_cons.1 h with rfl|h
  ·exact zah
  ·exact zag _ (fsts_mem h)
section
variable {C : Cx} {md : Md} {w0 : World} {S0 : List Nat} {GS : Glo}
structure Way (C:Cx) (ops:List Oper) (l:List Oper) (T:Nat→St) (es:List (Bool×List Nat)):Prop where
 st:∀(j:Nat) (o:Oper),l[j]? =some o→Adv C ops (T j) o (T (j+1))∧es[j]? =some (entry C (T j) (T (j+1)) o)
 nd:∀(i j:Nat) (o o2:Oper) (t:Nat),l[i]? =some o→l[j]? =some o2→o.dst=some t→o2.dst=some t→i=j
variable {ops l : List Oper} {T : Nat → St} {es : List (Bool × List Nat)}
theorem Way.at(h:Way C ops l T es)(t:Nat):∀i,i≤l.length→(∀(j:Nat) (o:Oper),l[j]? =some o→o.dst=some t→(T i).at t=if j<i then(T (j+1)).at t else(T 0).at t)∧((∀(j:Nat) (o:Oper),l[j]? =some o→o.dst≠some t)→(T i).at t=(T 0).at t)
 |0,_=>⟨fun j o _ _=>by simp,fun _=>rfl⟩
 |i+1,hi=>by
  obtain⟨h1,h2⟩:=h.at t i (by omega)
  have hoi:l[i]? =some (l[i]'(by omega)):=List.getElem?_eq_getElem (by omega)
  have hst:=(adv_fr (h.st i _ hoi).1).1
  refine⟨fun j o hj hd=> ?_,fun hn=> ?_⟩
  ·by_cases hij:j=i
   ·subst hij;rw [if_pos (by omega)]
   ·have hne:(l[i]'(by omega)).dst≠some t:=fun e=>hij (h.nd j i _ _ t hj hoi hd e)
    rw [hst t hne,h1 j o hj hd]
    by_cases hlt:j<i
    ·rw [if_pos hlt,if_pos (by omega)]
    ·rw [if_neg hlt,if_neg (by omega)]
  ·rw [hst t (hn i _ hoi)];exact h2 hn
theorem Way.nb(h:Way C ops l T es):∀i,i≤l.length→(T i).nb=(T 0).nb∧(T i).al=(T 0).al
 |0,_=>⟨rfl,rfl⟩
 |i+1,hi=>by
  have hoi:l[i]? =some (l[i]'(by omega)):=List.getElem?_eq_getElem (by omega)
  obtain⟨_,h1,h2⟩:=adv_fr (h.st i _ hoi).1
  obtain⟨h3,h4⟩:=h.nb i (by omega)
  exact⟨h1.trans h3,h2.trans h4⟩
theorem Way.still(h:Way C ops l T es):∀(d i:Nat),i+d≤l.length→(∀(j:Nat) (o:Oper),i≤j→j<i+d→l[j]? =some o→qt C o.op=true)→(T (i+d)).H=(T i).H∧(T (i+d)).m=(T i).m
 |0,i,_,_=>⟨rfl,rfl⟩
 |d+1,i,hi,hq=>by
  obtain⟨h1,h2⟩:=h.still d i (by omega) (fun j o h1 h2=>hq j o h1 (by omega))
  have hoi:l[i+d]? =some (l[i+d]'(by omega)):=List.getElem?_eq_getElem (by omega)
  obtain⟨h3,h4⟩:=adv_quiet (h.st (i+d) _ hoi).1 (hq _ _ (by omega) (by omega) hoi)
  exact⟨h3.trans h1,h4.trans h2⟩
theorem Way.keep(h:Way C ops l T es){id:Nat}{o2:Ob}:∀(d i:Nat),i+d≤l.length→(∀(j:Nat) (o:Oper) (p:Bool×List Nat),i≤j→j<i+d→l[j]? =some o→es[j]? =some p→p.1=true→id∉p.2)→amb (T i).H id=some o2→amb (T (i+d)).H id=some o2
 |0,i,_,_,hg=>hg
 |d+1,i,hi,hq,hg=>by
  have h1:=h.keep d i (by omega) (fun j o p h1 h2=>hq j o p h1 (by omega)) hg
  have hoi:l[i+d]? =some (l[i+d]'(by omega)):=List.getElem?_eq_getElem (by omega)
  obtain⟨h2,h3⟩:=h.st (i+d) _ hoi
  have hp:=hq (i+d) _ _ (by omega) (by omega) hoi h3
  unfold entry at hp
  cases hqq:qt C (l[i+d]'(by omega)).op with
  |true=>
   show amb (T (i+d+1)).H id=_
   rw [(adv_quiet h2 hqq).1];exact h1
  |false=>
   rw [hqq]at hp
   have hp:=hp rfl
   obtain⟨mn,h4,h5⟩:=adv_chg h2
   refine h5 id o2 (fun q hq e=>hp ?_) h1
   rw [lenR_eq,lenR_eq,h4,zab]
   show id∈fsts (Nat.sub (mn.length+(T (i+d)).m.length) (T (i+d)).m.length) (mn++(T (i+d)).m)
   rw [show Nat.sub (mn.length+(T (i+d)).m.length) (T (i+d)).m.length=mn.length from Nat.add_sub_cancel _ _,←e]
   exact fsts_mem hq
theorem rel_at{ρ:Nat→Ad}{S S2:St}{F:Nat→Value}{w:World}(h:Rel C w0 S0 ρ S F w)(ha:∀t,S2.at t=S.at t)(hH:S2.H=S.H):Rel C w0 S0 ρ S2 F w:=by
 refine⟨?_,fun t v hv=>h.fr t v (by rw [←ha];exact hv),fun t=>by rw [ha,hH];exact h.fo t, ?_, ?_⟩
 ·rw [hH];exact h.gl
 ·rw [hH];exact h.ho
 ·rw [hH];exact h.mem
theorem footV_lt{v:SV}{n id:Nat}(h:v.ok n)(hid:id∈axt v):id<n:=by
 unfold axt at hid
 split at hid
 all_goals first|(cases hid;done)|(have e:=List.mem_singleton.1 hid;subst e;exact h _ (List.mem_singleton.2 rfl))
theorem footO_mem{ev:Operand→SV}{op:Op}{id:Nat}(h:id∈footO ev op):∃x∈op.operands,id∈axt (ev x):=by
 have key:∀l:List Operand,id∈footL ev l→∃x∈l,id∈axt (ev x):=by
  intro l
  induction l with
  |nil=>intro h;cases h
  |cons x l ih=>
   intro h
   rcases List.mem_append.1 (show id∈axt (ev x)++footL ev l from h)with h|h
   ·exact⟨x,zah,h⟩
   ·obtain⟨y,h1,h2⟩:=ih h
    exact⟨y,zag _ h1,h2⟩
 cases op<;>first|(cases h;done)|skip
 case load t x=>exact⟨x,by simp [zaC],h⟩
 case indexAddr t x ix=>exact⟨x,by simp [zaC],h⟩
 case convert s t x=>exact⟨x,by simp [zaC],h⟩
 case call c=>
  obtain⟨x,h1,h2⟩:=key _ h
  refine⟨x, ?_,h2⟩
  simp only [zaC,Call.operands,Array.mem_append]
  exact .inr (by simpa using h1)
theorem min_mem:∀{U:List Nat},U≠[]→∃i∈U,∀j∈U,i≤j
 |[x],_=>⟨x,zah,fun j hj=>by rw [List.mem_singleton.1 hj];exact zam _⟩
 |x::y::U,_=>by
  obtain⟨i,h1,h2⟩:=min_mem (U:=y::U) (by simp)
  by_cases h:x≤i
  ·exact⟨x,zah,fun j hj=>(List.mem_cons.1 hj).elim (fun e=>by rw [e];exact zam _) fun hj=>zaM h (h2 j hj)⟩
  ·exact⟨i,zag _ h1,fun j hj=>(List.mem_cons.1 hj).elim (fun e=>by rw [e];omega) (h2 j)⟩
theorem ltakeN_eq{α:Type}:∀(l:List α) (k:Nat),atz l k=l.take k
 |[],k=>by simp [atz]
 |x::l,0=>rfl
 |x::l,k+1=>by simp [atz,ltakeN_eq l k]
theorem drawK_shape{ops:Array Oper}:∀{k j:Nat},drawK ops k=some j→auv ops j=true
 |0,j,h=>by
  unfold drawK at h
  have h:=aaj h
  cases h.2;exact h.1
 |k+1,j,h=>by
  unfold drawK at h
  have h:=aaj h
  have h2:=h.2
  split at h2
  ·rename_i i hi;cases h2;exact drawK_shape hi
  ·cases h2;exact h.1
theorem wrO_nd:∀{l:List Oper},(wrO l).Nodup→∀(i j:Nat) (o o2:Oper) (t:Nat),l[i]? =some o→l[j]? =some o2→o.dst=some t→o2.dst=some t→i=j
 |[],_,i,j,o,o2,t,hi=>by simp at hi
 |x::l,h,i,j,o,o2,t,hi=>by
  intro hj hd hd2
  have hw:∀(i:Nat) (o:Oper),l[i]? =some o→o.dst=some t→t∈wrO l:=by
   intro i o hi hd
   have hm:∀{l:List Oper},o∈l→t∈wrO l:=by
    intro l
    induction l with
    |nil=>intro h;cases h
    |cons y l ih=>
     intro h
     rw [wrO_cons]
     rcases List.mem_cons.1 h with rfl|h
     ·exact .inl hd
     ·exact .inr (ih h)
   exact hm (List.mem_of_getElem? hi)
  have h2:(wrO l).Nodup∧(x.dst=some t→t∉wrO l):=by
   simp only [wrO]at h
   cases hx:x.dst with
   |none=>rw [hx]at h;exact⟨h,fun e=>by cases e⟩
   |some d=>
    rw [hx]at h
    simp only [List.nodup_cons]at h
    exact⟨h.2,fun e=>by cases e;exact h.1⟩
  cases i with
  |zero=>
   have hi:x=o:=by simpa using hi
   subst hi
   cases j with
   |zero=>rfl
   |succ j=>exact absurd (hw j o2 (by simpa using hj) hd2) (h2.2 hd)
  |succ i=>
   cases j with
   |zero=>
    have hj:x=o2:=by simpa using hj
    subst hj
    exact absurd (hw i o (by simpa using hi) hd) (h2.2 hd2)
   |succ j=>
    have:=wrO_nd h2.1 i j o o2 t (by simpa using hi) (by simpa using hj) hd hd2
    omega
end
open Go.Wk
open Go.Ce (Tr)
open Bool renaming and_eq_true → zas
open List renaming eq_nil_of_length_eq_zero → zao, length_take → zaw, mem_append_left → zbb, mem_append_right → zaY, nil_append → zaH, take_append_drop → zbs
open Nat renaming blt → zbf, le_refl → zam, lt_of_lt_of_le → zbn, zero_add → zba, zero_le → zak
section
variable {C : Cx} {md : Md} {w0 : World} {S0 : List Nat} {GS : Glo}
variable {ops : Array Oper} {l : List Oper} {T : Nat → St} {es : List (Bool × List Nat)} {k : Nat}
structure Mid (C:Cx) (l:List Oper) (T:Nat→St) (listed:Array Bool) (X:St):Prop where
 at1:∀(t j:Nat) (o:Oper),l[j]? =some o→o.dst=some t→X.at t=if listed.getD j false=true then(T (j+1)).at t else(T 0).at t
 at2:∀t,(∀(j:Nat) (o:Oper),l[j]? =some o→o.dst≠some t)→X.at t=(T 0).at t
 nb:X.nb=(T 0).nb
 al:X.al=(T 0).al
 hv:∃h,h≤l.length∧X.H=(T h).H∧X.m=(T h).m∧∀(j:Nat) (o:Oper),l[j]? =some o→qt C o.op=false→(listed.getD j false=true↔j<h)
theorem drawn_mid(hE:Env C md w0 S0 GS)(hmd:md=⟨md.n,[],none⟩)(hl:l=ops.toList.take k)(hk:k≤ops.size)(hsh:auv ops k=true)(hseq:Region.seqB .any ops (ops.size-k) k (List.replicate k true++List.replicate (ops.size-k) false).toArray=true)
  (hb:backE l 0=true) (hop:opndsOk ops.toList (ancs l []) l l 0=true) (hW:Way C ops.toList l T es) (hmem:memOk (ancs l []) es es 0=true) {Q:Exit→Act→World→Prop} {ρ0:Nat→Ad} {F0:Nat→Value}
  (hend:∀X ρ F w,Rel C w0 S0 ρ X F w→Nx (T 0) ρ0 X ρ→(∀t,X.at t=(T l.length).at t)→X.H=(T l.length).H→X.nb=(T l.length).nb→X.al=(T l.length).al→X.m=(T l.length).m→(∀t,t∉wrO l→F t=F0 t)→W C.P md ops Q (ops.toList.drop k) F w):
  ∀(f:Nat) (U:List Nat) (listed:Array Bool) (X:St) (ρ:Nat→Ad) (F:Nat→Value) (w:World),U.length=f→U.Nodup→(∀i,i∈U↔i<k∧listed.getD i false=false)→HeadInv .any ops k listed→Mid C l T listed X→Rel C w0 S0 ρ X F w→Nx (T 0) ρ0 X ρ→(∀t,t∉wrO l→F t=F0 t)→
   wpPre C.P .any ops Q (fun _ _ _=>True) k (fun a w=>wpList C.P ops Q (ops.toList.drop k) a w) f listed (fr md F) w:=by
 have hlen:l.length=k:=by rw [hl,zaw,Array.length_toList];exact Nat.min_eq_left hk
 have hget:∀i,i<k→∃o,l[i]? =some o∧ops[i]? =some o:=by
  intro i hi
  have hio:i<ops.size:=zbn hi hk
  refine⟨ops[i], ?_,Array.getElem?_eq_getElem hio⟩
  have e:l[i]? =ops.toList[i]? :=by rw [hl,List.getElem?_take,if_pos hi]
  rw [e,Array.getElem?_toList]
  exact Array.getElem?_eq_getElem hio
 have hWn:∀{F:Nat→Value} {w:World},W C.P md ops Q (ops.toList.drop k) F w→wpList C.P ops Q (ops.toList.drop k) (fr md F) w:=by
  intro F w h
  unfold W WR at h
  rw [hmd]at h
  rw [hmd];exact h
 intro f
 induction f with
 |zero=>
  intro U listed X ρ F w hU hnd hmU inv hM hR hN hF
  have hU0:U=[]:=zao hU
  have hall:∀i,i<k→listed.getD i false=true:=by
   intro i hi
   cases hg:listed.getD i false with
   |true=>rfl
   |false=>have:=(hmU i).2 ⟨hi,hg⟩;rw [hU0]at this;cases this
  have hlist:listed=(List.replicate k true++List.replicate (ops.size-k) false).toArray:=by
   apply Array.ext
   ·rw [inv.size];simp;omega
   ·intro i h1 h2
    rw [inv.size]at h1
    by_cases hik:i<k
    ·have:=hall i hik
     have e:listed.getD i false=listed[i]:=by simp [Array.getD,inv.size,h1]
     rw [e]at this
     rw [this]
     simp [List.getElem_append,hik]
    ·have:=inv.tail i (by omega) h1
     have e:listed.getD i true=listed[i]:=by simp [Array.getD,inv.size,h1]
     rw [e]at this
     rw [this]
     simp [List.getElem_append,hik]
  refine⟨by rw [hlist];exact hseq,hWn ?_⟩
  obtain⟨h,h1,h2,h3,h4⟩:=hM.hv
  have hst:=hW.still (l.length-h) h (by omega) (fun j o hj1 hj2 hj=>by
   cases hq:qt C o.op with
   |true=>rfl
   |false=>
    have hjl:=(List.getElem?_eq_some_iff.1 hj).1
    have:=(h4 j o hj hq).1 (hall j (by omega))
    omega)
  rw [show h+(l.length-h)=l.length by omega]at hst
  have hnb:=hW.nb l.length (zam _)
  refine hend X ρ F w hR hN (fun t=> ?_) (h2.trans hst.1.symm) (hM.nb.trans hnb.1.symm) (hM.al.trans hnb.2.symm) (h3.trans hst.2.symm) hF
  obtain⟨h5,h6⟩:=hW.at t l.length (zam _)
  by_cases hw:∃(j:Nat) (o:Oper),l[j]? =some o∧o.dst=some t
  ·obtain⟨j,o,hj,hd⟩:=hw
   have hjl:=(List.getElem?_eq_some_iff.1 hj).1
   rw [hM.at1 t j o hj hd,h5 j o hj hd,if_pos (hall j (by omega)),if_pos hjl]
  ·have hn:∀(j:Nat) (o:Oper),l[j]? =some o→o.dst≠some t:=fun j o hj hd=>hw ⟨j,o,hj,hd⟩
   rw [hM.at2 t hn,h6 hn]
 |succ f ih=>
  intro U listed X ρ F w hU hnd hmU inv hM hR hN hF
  have hUne:U≠[]:=fun e=>by rw [e]at hU;cases hU
  obtain⟨i0,hi0,hmin⟩:=min_mem hUne
  have hi0k:=(hmU i0).1 hi0
  refine⟨fun he=> ?_,fun i hi=> ?_⟩
  ·
   obtain⟨o,ho,ho2⟩:=hget i0 hi0k.1
   have:i0∈Region.ready .any ops listed:=by
    refine mem_ready.2 ⟨getD_in (by rw [inv.size];omega) hi0k.2,o,ho2,fun e he2 hbd=> ?_⟩
    have h1:=backE_of hb i0 o ho e he2 hbd
    cases hg:listed.getD e.on false with
    |true=>rfl
    |false=>
     have h2:=(hmU e.on).2 ⟨by omega,hg⟩
     have:=hmin e.on h2
     omega
   rw [he]at this;cases this
  ·obtain⟨hun,o,ho2,hall⟩:=mem_ready.1 hi
   have hunf:listed.getD i false=false:=getD_both hun
   have hik:i<k:=by
    by_cases hik:i<k
    ·exact hik
    ·exact absurd hi (shape_ready hsh hi0k.1 listed inv (getD_in (by rw [inv.size];omega) hi0k.2) i (by omega))
   refine⟨hik, ?_⟩
   obtain⟨o',ho,ho3⟩:=hget i hik
   rw [ho2]at ho3
   cases ho3
   have hiu:i∈U:=(hmU i).2 ⟨hik,hunf⟩
   obtain⟨hadv,hent⟩:=hW.st i o ho
   have hup:∀j∈asz (ancs l []) i,listed.getD j false=true:=anc_listed hl hb inv i o ho hall
   have hdn:∀(j:Nat),j<k→listed.getD j false=true→i∉asz (ancs l []) j:=by
    intro j hj hlj hm
    obtain⟨oj,hoj,hoj2⟩:=hget j hj
    have:=anc_listed hl hb inv j oj hoj (fun e he hbd=>inv.closed j oj hoj2 hlj e he hbd) i hm
    rw [hunf]at this;cases this
   have hlt:∀j∈asz (ancs l []) i,j<i:=fun j hj=>anc_lt hb i j hj
   have hslot:∀t,t∈opndS o.op.operands.toList++gslot ops.toList o→X.at t=(T i).at t:=by
    intro t ht
    obtain⟨h5,h6⟩:=hW.at t i (by omega)
    by_cases hw:∃(j:Nat) (o:Oper),l[j]? =some o∧o.dst=some t
    ·obtain⟨j,oj,hj,hd⟩:=hw
     have hjl:=(List.getElem?_eq_some_iff.1 hj).1
     rw [hM.at1 t j oj hj hd,h5 j oj hj hd]
     have h7:=opndsOk_of hop i o ho
     rw [zba]at h7
     have h8:=opndOk_of h7 j oj t hj hd ht
     rw [zba]at h8
     rcases h8 with rfl|h8
     ·rw [hunf,if_neg (by simp),if_neg (by omega)]
     ·unfold ordd at h8
      cases hm:aws i (asz (ancs l []) j)with
      |true=>
       have hm:=ago.1 hm
       have hij:=anc_lt hb j i hm
       have:listed.getD j false=false:=by
        cases hg:listed.getD j false with
        |false=>rfl
        |true=>exact absurd hm (hdn j (by omega) hg)
       rw [this,if_neg (by simp),if_neg (by omega)]
      |false=>
       rw [hm]at h8
       have hm2:=ago.1 (show aws j (asz (ancs l []) i)=true from h8)
       rw [hup j hm2,if_pos rfl,if_pos (hlt j hm2)]
    ·have hn:∀(j:Nat) (o:Oper),l[j]? =some o→o.dst≠some t:=fun j o hj hd=>hw ⟨j,o,hj,hd⟩
     rw [hM.at2 t hn,h6 hn]
   have hopd:∀t,Operand.tmp t∈o.op.operands→X.at t=(T i).at t:=fun t ht=>hslot t (zbb _ (opndS_mem.2 (by simpa using ht)))
   have hgs:∀t∈gslot ops.toList o,X.at t=(T i).at t:=fun t ht=>hslot t (zaY _ ht)
   obtain⟨h,hh1,hh2,hh3,hh4⟩:=hM.hv
   have hnbi:=hW.nb i (by omega)
   have hbet:∀(j:Nat) (oj:Oper),l[j]? =some oj→qt C oj.op=false→((h≤j∧j<i)∨(i≤j∧j<h))→j≠i→ordd (ancs l []) i j=false:=by
    intro j oj hj hq hcase hji
    have hjl:=(List.getElem?_eq_some_iff.1 hj).1
    unfold ordd
    rcases hcase with⟨h1,h2⟩|⟨h1,h2⟩
    ·have hnl:listed.getD j false=false:=by
      cases hg:listed.getD j false with
      |false=>rfl
      |true=>have:=(hh4 j oj hj hq).1 hg;omega
     have e1:aws i (asz (ancs l []) j)=false:=by
      cases hm:aws i (asz (ancs l []) j)with
      |false=>rfl
      |true=>have:=anc_lt hb j i (ago.1 hm);omega
     have e2:aws j (asz (ancs l []) i)=false:=by
      cases hm:aws j (asz (ancs l []) i)with
      |false=>rfl
      |true=>have:=hup j (ago.1 hm);rw [hnl]at this;cases this
     rw [e1,e2];rfl
    ·have hlj:listed.getD j false=true:=(hh4 j oj hj hq).2 h2
     have e1:aws i (asz (ancs l []) j)=false:=by
      cases hm:aws i (asz (ancs l []) j)with
      |false=>rfl
      |true=>exact absurd (ago.1 hm) (hdn j (by omega) hlj)
     have e2:aws j (asz (ancs l []) i)=false:=by
      cases hm:aws j (asz (ancs l []) i)with
      |false=>rfl
      |true=>have:=hlt j (ago.1 hm);omega
     rw [e1,e2];rfl
   have hmo:∀(j:Nat) (oj:Oper) (p:Bool×List Nat),l[j]? =some oj→es[j]? =some p→p.1=true→j≠i→ordd (ancs l []) i j=false→(entry C (T i) (T (i+1)) o).1=false∧∀x∈(entry C (T i) (T (i+1)) o).2,x∉p.2:=by
    intro j oj p hj hp hp1 hji hord
    have h1:=memOk_of hmem i _ hent
    rw [zba]at h1
    have h2:=memOk1_of h1 j p hp (by omega) (by rw [zba];exact hord) hp1
    exact h2
   have hpq:∀(j:Nat) (oj:Oper) (p:Bool×List Nat),l[j]? =some oj→es[j]? =some p→p.1= !(qt C oj.op):=by
    intro j oj p hj hp
    obtain⟨_,h1⟩:=hW.st j oj hj
    rw [hp]at h1
    cases h1
    unfold entry
    cases qt C oj.op<;>rfl
   have hheavy:qt C o.op=false→X.H=(T i).H∧X.m=(T i).m:=by
    intro hq
    have he1:(entry C (T i) (T (i+1)) o).1=true:=by unfold entry;rw [hq];rfl
    have none:∀(j:Nat) (oj:Oper),l[j]? =some oj→((h≤j∧j<i)∨(i<j∧j<h))→qt C oj.op=true:=by
     intro j oj hj hc
     cases hqj:qt C oj.op with
     |true=>rfl
     |false=>
      exfalso
      have hjl:=(List.getElem?_eq_some_iff.1 hj).1
      obtain⟨p,hp⟩:∃p,es[j]? =some p:=⟨_,(hW.st j oj hj).2⟩
      have hji:j≠i:=by omega
      have hord:=hbet j oj hj hqj (by omega) hji
      have:=(hmo j oj p hj hp (by rw [hpq j oj p hj hp,hqj];rfl) hji hord).1
      rw [he1]at this;cases this
    have hih:¬i<h:=fun hlt2=>by
     have:=(hh4 i o ho hq).2 hlt2
     rw [hunf]at this;cases this
    have:=hW.still (i-h) h (by omega) (fun j oj h1 h2 hj=>none j oj hj (.inl ⟨h1,by omega⟩))
    rw [show h+(i-h)=i by omega]at this
    exact⟨hh2.trans this.1.symm,hh3.trans this.2.symm⟩
   have hquiet:qt C o.op=true→Agr (T i).H X.H (footO ((T i).ev C) o.op):=by
    intro hq id hid o2 hg
    have he2:(entry C (T i) (T (i+1)) o).2=footO ((T i).ev C) o.op:=by unfold entry;rw [hq];rfl
    rw [hh2]
    have far:∀(j:Nat) (oj:Oper) (p:Bool×List Nat),((h≤j∧j<i)∨(i≤j∧j<h))→l[j]? =some oj→es[j]? =some p→p.1=true→id∉p.2:=by
     intro j oj p hc hj hp hp1
     have hqj:qt C oj.op=false:=by
      have:=hpq j oj p hj hp
      rw [hp1]at this
      cases hqj:qt C oj.op with
      |false=>rfl
      |true=>rw [hqj]at this;cases this
     have hji:j≠i:=fun e=>by
      subst e
      rw [ho]at hj
      cases hj
      rw [hq]at hqj;cases hqj
     have hord:=hbet j oj hj hqj hc hji
     exact(hmo j oj p hj hp hp1 hji hord).2 id (by rw [he2];exact hid)
    by_cases hhi:h≤i
    ·
     have hlt2:id<(T h).H.length:=by
      obtain⟨x,hx,hfx⟩:=footO_mem hid
      have hev:X.ev C x=(T i).ev C x:=by
       cases x with
       |tmp t=>show(bif zbf t C.nn then X.at t else .u')=(bif zbf t C.nn then(T i).at t else .u');rw [hopd t hx]
       |_=>rfl
      have hok:=(azn hR hE.n x).1
      rw [hev,hh2]at hok
      exact footV_lt hok hfx
     obtain⟨o3,ho3⟩:∃o3,amb (T h).H id=some o3:=by rw [aau];exact⟨_,List.getElem?_eq_getElem hlt2⟩
     have:=hW.keep (i-h) h (by omega) (fun j oj p h1 h2 hj hp hp1=>far j oj p (.inl ⟨h1,by omega⟩) hj hp hp1) ho3
     rw [show h+(i-h)=i by omega,hg]at this
     rw [ho3,this]
    ·have:=hW.keep (h-i) i (by omega) (fun j oj p h1 h2 hj hp hp1=>far j oj p (.inr ⟨h1,by omega⟩) hj hp hp1) hg
     rw [show i+(h-i)=h by omega]at this
     exact this
   obtain⟨X3,hadv3,hat3,hnb3,hal3,hq3,hh3'⟩:=adv_move hadv hopd hgs (hM.nb.trans hnbi.1.symm) (hM.al.trans hnbi.2.symm) hquiet (fun hq=>(hheavy hq).1)
   have inv':=inv.set hi hik
   have hsize:i<listed.size:=by rw [inv.size];omega
   have hget1:∀j,(listed.setIfInBounds i true).getD j false=if j=i then true else listed.getD j false:=by
    intro j
    simp only [Array.getD_eq_getD_getElem?,Array.getElem?_setIfInBounds]
    by_cases e:i=j
    ·subst e;simp [hsize]
    ·rw [if_neg e,if_neg (fun h=>e h.symm)]
   have hW1:W C.P md ops (Exit.then (fun a' w'=>True∧wpPre C.P .any ops Q (fun _ _ _=>True) k (fun a w=>wpList C.P ops Q (ops.toList.drop k) a w) f (listed.setIfInBounds i true) a' w') Q) [o] F w:=by
    refine adv_step hE hadv3 hR _ [] fun ρ2 F2 w2 hR2 hN2 hf2 _=>w_nil ⟨trivial, ?_⟩
    refine ih (U.erase i) (listed.setIfInBounds i true) X3 ρ2 F2 w2 (by rw [List.length_erase_of_mem hiu,hU];rfl) (hnd.erase i) (fun j=> ?_) inv' ?_ hR2 (hN.trans hN2) (fun t ht=> ?_)
    ·rw [hnd.mem_erase_iff,hmU,hget1]
     constructor
     ·rintro⟨h1,h2,h3⟩;rw [if_neg h1];exact⟨h2,h3⟩
     ·rintro⟨h1,h2⟩
      by_cases e:j=i
      ·rw [if_pos e]at h2;cases h2
      ·rw [if_neg e]at h2;exact⟨e,h1,h2⟩
    ·refine⟨fun t j oj hj hd=> ?_,fun t hn=> ?_,hnb3.trans hnbi.1,hal3.trans hnbi.2, ?_⟩
     ·rw [hat3 t,hget1]
      by_cases e:j=i
      ·subst e
       rw [ho]at hj
       cases hj
       rw [if_pos hd,if_pos rfl,if_pos rfl]
      ·have hne:¬o.dst=some t:=fun e2=>e (hW.nd j i oj o t hj ho hd e2)
       rw [if_neg hne,if_neg e]
       exact hM.at1 t j oj hj hd
     ·rw [hat3 t,if_neg (hn i o ho)];exact hM.at2 t hn
     ·cases hq:qt C o.op with
      |true=>
       obtain⟨h1,h2⟩:=hq3 hq
       refine⟨h,hh1,h1.trans hh2,h2.trans hh3,fun j oj hj hqj=> ?_⟩
       rw [hget1]
       have hji:j≠i:=fun e=>by
        subst e
        rw [ho]at hj
        cases hj
        rw [hq]at hqj;cases hqj
       rw [if_neg hji]
       exact hh4 j oj hj hqj
      |false=>
       obtain⟨h1,h2⟩:=hh3' hq
       obtain⟨mn,h3,_⟩:=adv_chg hadv
       refine⟨i+1,by omega,h1, ?_,fun j oj hj hqj=> ?_⟩
       ·rw [h2 mn h3,(hheavy hq).2,h3]
       ·rw [hget1]
        have hjl:=(List.getElem?_eq_some_iff.1 hj).1
        by_cases hji:j=i
        ·subst hji;simp
        ·rw [if_neg hji,hh4 j oj hj hqj]
         have hih:¬i<h:=fun hlt2=>by
          have:=(hh4 i o ho hq).2 hlt2
          rw [hunf]at this;cases this
         constructor
         ·intro h4;omega
         ·intro h4
          by_cases hjh:j<h
          ·exact hjh
          ·exfalso
           obtain⟨p,hp⟩:∃p,es[j]? =some p:=⟨_,(hW.st j oj hj).2⟩
           have hord:=hbet j oj hj hqj (.inl ⟨by omega,by omega⟩) hji
           have:=(hmo j oj p hj hp (by rw [hpq j oj p hj hp,hqj];rfl) hji hord).1
           unfold entry at this
           rw [hq]at this
           cases this
    ·have hti:o.dst≠some t:=fun e=>ht (by
      have hm:∀{l:List Oper},o∈l→t∈wrO l:=by
       intro l
       induction l with
       |nil=>intro h;cases h
       |cons y l ih=>
        intro h
        rw [wrO_cons]
        rcases List.mem_cons.1 h with rfl|h
        ·exact .inl e
        ·exact .inr (ih h)
      exact hm (List.mem_of_getElem? ho))
     rw [hf2 t hti,hF t ht]
   unfold W WR at hW1
   rw [hmd]at hW1⊢
   refine wpOp_mono ?_ (op_of_list ho2 hW1)
   rintro a' w' ⟨_,h2⟩
   exact⟨trivial,h2⟩
theorem wrO_mem{t:Nat}:∀{l:List Oper},t∈wrO l↔∃o∈l,o.dst=some t
 |[]=>by simp [wrO]
 |x::l=>by rw [wrO_cons,wrO_mem (l:=l)];simp
theorem nx_as{S X Y:St}{ρ ρ2:Nat→Ad}(h:Nx S ρ X ρ2)(hH:Y.H=X.H)(hnb:Y.nb=X.nb)(hal:Y.al=X.al)(hm:Y.m=X.m):Nx S ρ Y ρ2:=
 ⟨⟨hnb.trans h.nb,hal.trans h.al,by rw [hH];exact h.le⟩,by rw [hH,hm];exact h.lg,fun id j hc=>by rw [hm];exact h.mm id j hc⟩
theorem drawn_ok(hE:Env C md w0 S0 GS)(hmd:md=⟨md.n,[],none⟩){id:Nat}{ops:Array Oper}:RegOk C md w0 S0 id ops true:=by
 intro ρ' S κ r ρ F w Q h hS hk
 have h:drawnD C ops S κ=some r:=h
 unfold drawnD at h
 have h:=aaj h
 have hm:=h.1
 have h:=h.2
 split at h
 ·rename_i k hkk
  have hsh:=drawK_shape hkk
  have hks:k≤ops.size:=by
   simp only [auv,zas,decide_eq_true_eq]at hsh
   exact hsh.1.2
  have h:=aaj h
  have hseq:=h.1
  have h:=aaj h.2
  have hb:=h.1
  have h:=aaj h.2
  have hnd:=nodN_iff.1 h.1
  have h:=aaj h.2
  have hop:=h.1
  obtain⟨T,es,hT0,hst,hfin⟩:=opsT_path _ _ _ _ h.2
  rw [zaH]at hfin
  have hfin:=aaj hfin
  have hmem:=hfin.1
  have hfin:=hfin.2
  have hl:atz ops.toList k=ops.toList.take k:=ltakeN_eq _ _
  have hW:Way C ops.toList (atz ops.toList k) T es:=⟨hst,wrO_nd hnd⟩
  have hend:∀X ρ2 F2 w2,Rel C w0 S0 ρ2 X F2 w2→Nx (T 0) ρ X ρ2→(∀t,X.at t=(T (atz ops.toList k).length).at t)→X.H=(T (atz ops.toList k).length).H→X.nb=(T (atz ops.toList k).length).nb→X.al=(T (atz ops.toList k).length).al→X.m=(T (atz ops.toList k).length).m→(∀t,t∉wrO (atz ops.toList k)→F2 t=F t)→W C.P md ops Q (ops.toList.drop k) F2 w2:=by
   intro X ρ2 F2 w2 hR hN hat hH hnb hal hm2 hF
   rw [ldrop_eq]at hfin
   refine opsD_ok hE (ops.toList.drop k) k _ ρ2 F2 w2 rfl hfin (rel_at hR (fun t=>(hat t).symm) hH.symm) fun S2 ρ3 F3 w3 h1 h2 h3 h4 h5=> ?_
   rw [hT0]at hN
   refine hk S2 ρ3 F3 w3 h1 h2 ((nx_as hN hH.symm hnb.symm hal.symm hm2.symm).trans h3) (fun t ht=> ?_) (ary rfl)
   have e:ops.toList=atz ops.toList k++ops.toList.drop k:=by rw [hl,zbs]
   have hn1:t∉wrO (atz ops.toList k):=fun hh=>ht (by
    obtain⟨o,ho,hd⟩:=wrO_mem.1 hh
    exact wrO_mem.2 ⟨o,by rw [e];exact zbb _ ho,hd⟩)
   have hn2:t∉wrO (ops.toList.drop k):=fun hh=>ht (by
    obtain⟨o,ho,hd⟩:=wrO_mem.1 hh
    exact wrO_mem.2 ⟨o,List.mem_of_mem_drop ho,hd⟩)
   rw [h4 t hn2,hF t hn1]
  have inv0:HeadInv .any ops k (Array.replicate ops.size false):=
   ⟨by simp,fun j oj _ hl=>(by rw [getD_replicate_false]at hl;cases hl),fun t _ ht=>getD_in (by simpa using ht) (getD_replicate_false _ _)⟩
  have hM0:Mid C (atz ops.toList k) T (Array.replicate ops.size false) (T 0):=by
   refine⟨fun t j o _ _=> ?_,fun t _=>rfl,rfl,rfl,0,zak _,rfl,rfl,fun j o _ _=> ?_⟩
   ·rw [getD_replicate_false,if_neg (by simp)]
   ·rw [getD_replicate_false];simp
  have hlen:(atz ops.toList k).length=k:=by rw [hl,zaw,Array.length_toList];exact Nat.min_eq_left hks
  have hpre:∀w',Rel C w0 S0 ρ (T 0) F w'→wpPre C.P .any ops Q (fun _ _ _=>True) k (fun a w=>wpList C.P ops Q (ops.toList.drop k) a w) k (Array.replicate ops.size false) (fr md F) w':=fun w' hR=>
   drawn_mid hE hmd hl hks hsh hseq hb hop hW hmem hend k (List.range k) _ _ _ _ _ List.length_range List.nodup_range (fun i=>by rw [List.mem_range,getD_replicate_false];simp) inv0 hM0 hR Nx.refl (fun _ _=>rfl)
  unfold Go.Wk.C CC
  rw [hmd]
  refine wp_region_any hm ?_
  have hR1:Rel C w0 S0 ρ (T 0) F {w with drawn:=w.drawn+1}:=by
   rw [hT0]
   refine⟨hS.gl,hS.fr,hS.fo,hS.ho, ?_⟩
   obtain⟨L,hH,hM⟩:=hS.mem
   exact⟨L,hH.drewn,hM⟩
  have h1:=hpre _ hR1
  have h2:=pre_any (S:=fun _ _ _=>True) hks (fun a w h=>h) k _ _ _ h1
  rw [show k+(ops.size-k)=ops.size by omega,hmd]at h2
  exact h2
 ·cases h
end
open Go.Wk
open Go.Ce (Tr)
open List renaming append_assoc → zav, append_nil → zan, drop_zero → zbt, length_append → zab, length_cons → zac, length_nil → zal, map_append → zbg, map_cons → zaE, mem_append_left → zbb, mem_append_right → zaY, mem_cons_of_mem → zag, mem_cons_self → zah
open Nat renaming add_comm → zaV, add_zero → zaK, eq_of_beq_eq_true → zaf, zero_add → zba
theorem regs_ok{C:Cx}{md:Md}{w0:World}{S0:List Nat}{GS:Glo}(hE:Env C md w0 S0 GS)(hmd:md=⟨md.n,[],none⟩):∀c:Code,RegsOk C md w0 S0 c:=by
 intro c
 induction c with
 |region id ops d=>cases d with
  |false=>exact region_ok hE
  |true=>exact drawn_ok hE hmd
 |seq a b iha ihb=>exact⟨iha,ihb⟩
 |cond c a b iha ihb=>exact⟨iha,ihb⟩
 |block id a ih=>exact ih
 |loop a ih=>exact ih
 |scope a ih=>exact ih
 |_=>trivial
theorem hd1_cn{α:Type}{f:SC→Option α}{l r:List SC}{x:α}{ss:List Src}(h:hd1 f l=some (x,r,ss)):l.length=1+r.length:=by
 obtain⟨c,rfl,_,_⟩:=hd1_some h
 rw [zac,zaV]
theorem rd_cn(any:Bool)(H:List Ob):∀(t:Ty) (s:Nat) (l:List SC) (x:t.T) (r:List SC) (ss:List Src),t.rd any H s l=some (x,r,ss)→l.length=t.cn+r.length:=by
 intro t
 induction t with
 |w' t ih=>intro s l x r ss h;exact ih s l x r ss h
 |pr a b iha ihb=>
  intro s l x r ss h
  simp only [Ty.rd]at h
  split at h
  ·rename_i y1 l1 s1 hp
   split at h
   ·rename_i y2 l2 s2 hq
    cases h
    have h1:=iha s l y1 l1 s1 hp
    have h2:=ihb s l1 y2 _ s2 hq
    show l.length=a.cn+b.cn+r.length
    omega
   ·cases h
  ·cases h
 |i' k=>intro s l x r ss h;exact hd1_cn h
 |c'=>intro s l x r ss h;exact hd1_cn h
 |s'=>intro s l x r ss h;exact hd1_cn h
 |b'=>intro s l x r ss h;exact hd1_cn h
 |u'=>intro s l x r ss h;cases h;exact(zba _).symm
 |sm a b _ _=>intro s l x r ss h;cases h
 |l' e b t ih=>
  intro s l x r ss h
  simp only [Ty.rd]at h
  split at h
  ·cases h;rw [zac,zaV];rfl
  ·split at h
   ·have h:=(aaj (aaj h).2).2
    split at h
    ·cases h;rw [zac,zaV];rfl
    ·cases h
   ·cases h
  ·split at h
   ·have h:=(aaj (aaj (aaj h).2).2).2
    split at h
    ·cases h;rw [zac,zaV];rfl
    ·cases h
   ·cases h
  ·cases h
 |y'=>
  intro s l x r ss h
  simp only [Ty.rd]at h
  split at h
  ·split at h
   ·cases h;rw [zac,zaV];rfl
   ·cases h
  ·cases h
 |r' t ih=>
  intro s l x r ss h
  simp only [Ty.rd]at h
  split at h
  ·cases h;rw [zac,zaV];rfl
  ·split at h
   ·cases h;rw [zac,zaV];rfl
   ·cases h
  ·split at h
   ·split at h
    ·cases h;rw [zac,zaV];rfl
    ·cases h
   ·cases h
  ·cases h
 |p' e t ih=>
  intro s l x r ss h
  simp only [Ty.rd]at h
  split at h
  ·split at h
   ·have h:=(aaj (aaj h).2).2
    split at h
    ·cases h;rw [zac,zaV];rfl
    ·cases h
   ·cases h
  ·cases h
 |z'=>
  intro s l x r ss h
  simp only [Ty.rd]at h
  split at h
  ·have h:=(aaj h).2
   cases h;rw [zac,zaV];rfl
  ·have h:=(aaj (aaj h).2).2
   cases h;rw [zac,zaV];rfl
  ·have h:=(aaj h).2
   split at h
   ·cases h;rw [zac,zaV];rfl
   ·cases h
  ·cases h
 |o' j=>
  intro s l x r ss h
  simp only [Ty.rd]at h
  split at h
  ·have h:=(aaj h).2
   cases h;rw [zac,zaV];rfl
  ·cases h
 |f' k t ih=>
  intro s l x r ss h
  simp only [Ty.rd]at h
  split at h
  ·have h:=(aaj h).2
   split at h
   ·cases h;rw [zac,zaV];rfl
   ·cases h
  ·cases h
theorem putC_full:∀{l vs:List SC},vs.length=l.length→putC l 0 vs=some vs
 |[],[],_=>rfl
 |[],_::_,h=>by cases h
 |_::_,[],h=>by cases h
 |x::l,v::vs,h=>by
  simp only [putC,putC_full (l:=l) (vs:=vs) (by simpa using h)]
theorem ltake_all{α:Type}:∀(l:List α),ltake l l.length=some l
 |[]=>rfl
 |x::l=>by simp only [zac,ltake,ltake_all l]
def KR(n0:Nat)(H0 H1:List Ob)(E:List Nat)(al:List Rg):Rk→Prop
 |.r' _=>True
 |.o' id _ x=>id<n0∧(∀j,j<x.cn→cov id j al=true)∧∃e1 cs1,H1[id]? =some (.bl e1 cs1)
 |.w' id _=>id<n0∧cov id 0 al=true∧id∉E∧aqf H0[id]? =true
section
variable {n0 : Nat} {H2 H0 H1 : List Ob} {ρ ρ2 ρ3 : Nat → Ad} {F2 : Nat → Value} {E : List Nat} {al : List Rg} {Fm : Tr SV} {done : List Src}
theorem PI.stepR(h:PI n0 H2 ρ ρ2 ρ3 F2 E H0 al Fm H1 done)(hln:Lns ρ2 H2)(hbr:Brk H2)(hn0:H0.length≤n0)(hup:Up n0 ρ2 ρ3){q:Rk}{v:q.ty.T}{vs vs2:List SV}{sk:List Src}(hr:q.rd H2 vs=some (v,sk,vs2))(hk:KR n0 H0 H1 E al q)
  (had:∀(j:Nat) (s:Src),sk[j]? =some s→ρ3 (H1.length+j)=s.ad ρ2) (l:List SA):PI n0 H2 ρ ρ2 ρ3 F2 E H0 al Fm (q.put (fun j=>j) (l,H1) v).2 (done++sk)∧
   ∃us:List Value,vs.map (SV.v ρ2)=us.map some++vs2.map (SV.v ρ2)∧(q.put (fun j=>j) (l,H1) v).1.map (SA.v ρ3)=l.map (SA.v ρ3)++us:=by
 cases q with
 |r' x=>
  cases vs with
  |nil=>cases hr
  |cons v0 vs=>
   simp only [Rk.rd]at hr
   split at hr
   ·rename_i y ss hy
    cases hr
    have hv:=rdV_ok hbr hy
    obtain⟨⟨u,h1,_,h2⟩,h3⟩:=hv.to ρ2 ρ3 H1.length had
    have hl:sk.length=(x.lay 0 H1.length v).2.length:=by rw [hv.no];exact(Ty.lay_no x 0 H1.length v).symm
    refine⟨h.app hln hbr hn0 hl had h3 (aze x 0 H1.length v),[u],by rw [zaE,h1];rfl, ?_⟩
    show(l++[x.sa (x.lay 0 H1.length v).1]).map _=_
    rw [zbg,List.map_singleton,h2]
   ·cases hr
 |o' id e x=>
  simp only [Rk.rd]at hr
  split at hr
  ·rename_i y ss hy
   cases hr
   obtain⟨h1,h2,e1,cs1,h3⟩:=hk
   unfold rdO at hy
   split at hy
   ·rename_i ee cs hb
    have hy:=aaj hy
    have hee:=zaf hy.1
    subst hee
    have hcn:=rd_cn false H2 x id cs _ _ _ (fulL_some hy.2)
    rw [zal,zaK]at hcn
    have hrb:rdB H2 id 0 x=some (v,sk):=by
     unfold rdB
     rw [hb]
     simp only [ldrop_eq,zbt]
     rw [←hcn,ltake_all]
     exact hy.2
    have hP:=h.stepO hln hbr hn0 hup hrb h1 (fun j _ hj=>h2 j (by omega)) had
    rw [aau]at hb
    obtain⟨cs2,h4,h5,_⟩:=h.ba id _ h1 h3
    rw [hb]at h4
    cases h4
    have hpb:putB H1 id 0 x v=asx H1 id (.bl e1 (x.lay id H1.length v).1)++(x.lay id H1.length v).2:=by
     unfold putB
     rw [aau,h3]
     simp only [putD]
     rw [putC_full ((Ty.lay_len x id H1.length v).trans (by omega))]
    rw [hpb]at hP
    exact⟨hP,[],rfl,by rw [zan];rfl⟩
   ·cases hy
  ·cases hr
 |w' id x=>
  simp only [Rk.rd]at hr
  split at hr
  ·rename_i y ss hy
   cases hr
   exact⟨h.stepW hln hbr hn0 hup hy hk.1 hk.2.1 hk.2.2.1 hk.2.2.2,[],rfl,by rw [zan];rfl⟩
  ·cases hr
theorem put_get{q:Rk}{v:q.ty.T}{l:List SA}{H1:List Ob}{id:Nat}{o:Ob}(h:id∉Rk.ids [q])(ho:H1[id]? =some o):(q.put (fun j=>j) (l,H1) v).2[id]? =some o:=by
 cases q with
 |r' x=>exact appL_get ho
 |o' j e x=>exact appL_get (by rw [axo (fun e=>h (by rw [←e];exact List.mem_singleton.2 rfl))];exact ho)
 |w' j x=>
  show(putW H1 j x v)[id]? =some o
  unfold putW
  split
  ·rw [axo (fun e=>h (by rw [←e];exact List.mem_singleton.2 rfl))];exact ho
  ·exact ho
theorem ids_cons{q:Rk}{r:List Rk}:Rk.ids (q::r)=Rk.ids [q]++Rk.ids r:=by cases q<;>rfl
theorem ids_mem{r:List Rk}{q:Rk}(h:q∈r){id:Nat}(hid:id∈Rk.ids [q]):id∈Rk.ids r:=by
 induction r with
 |nil=>cases h
 |cons x r ih=>
  rw [ids_cons]
  rcases List.mem_cons.1 h with rfl|h
  ·exact zbb _ hid
  ·exact zaY _ (ih h)
theorem PI.stepsR(hln:Lns ρ2 H2)(hbr:Brk H2)(hn0:H0.length≤n0)(hup:Up n0 ρ2 ρ3):∀(r:List Rk) (H1:List Ob) (done:List Src) (y:(resT r).T) (ss:List Src) (vs:List SV) (l:List SA),PI n0 H2 ρ ρ2 ρ3 F2 E H0 al Fm H1 done→rdR H2 r vs=some (y,ss)→(Rk.ids r).Nodup→
  (∀q∈r,KR n0 H0 H1 E al q)→(∀(j:Nat) (s:Src),ss[j]? =some s→ρ3 (H1.length+j)=s.ad ρ2)→PI n0 H2 ρ ρ2 ρ3 F2 E H0 al Fm (putR (fun j=>j) (l,H1) r y).2 (done++ss)∧
   ∃us:List Value,vs.map (SV.v ρ2)=us.map some∧(putR (fun j=>j) (l,H1) r y).1.map (SA.v ρ3)=l.map (SA.v ρ3)++us
 |[],H1,done,y,ss,vs,l,h,hr,_,_,_=>by
  cases vs with
  |nil=>cases hr;exact⟨by rw [zan];exact h,[],rfl,by rw [zan];rfl⟩
  |cons _ _=>cases hr
 |[q],H1,done,y,ss,vs,l,h,hr,_,hk,had=>by
  simp only [rdR]at hr
  split at hr
  ·rename_i x s1 hx
   cases hr
   obtain⟨h1,us,h2,h3⟩:=h.stepR hln hbr hn0 hup hx (hk q zah) had l
   exact⟨h1,us,by rw [h2,List.map_nil,zan],h3⟩
  ·cases hr
 |q::q2::r,H1,done,y,ss,vs,l,h,hr,hnd,hk,had=>by
  simp only [rdR]at hr
  split at hr
  ·rename_i x s1 vs2 hx
   split at hr
   ·rename_i z s2 hz
    cases hr
    obtain⟨h1,us,h2,h3⟩:=h.stepR hln hbr hn0 hup hx (hk q zah) (fun j s hj=>had j s (by rw [List.getElem?_append_left (List.getElem?_eq_some_iff.1 hj).1];exact hj)) l
    have e1:=h1.len
    have e2:=h.len
    rw [zab]at e1
    rw [ids_cons]at hnd
    obtain⟨hnd1,hnd2,hnd3⟩:=List.nodup_append.1 hnd
    obtain⟨h4,us2,h5,h6⟩:=PI.stepsR hln hbr hn0 hup (q2::r) _ _ z s2 vs2 (q.put (fun j=>j) (l,H1) x).1 h1 hz hnd2 (fun q3 hq3=>by
     have h7:=hk q3 (zag _ hq3)
     cases q3 with
     |r' x=>trivial
     |o' id e x=>
      obtain⟨h8,h9,e3,cs3,h10⟩:=h7
      refine⟨h8,h9,e3,cs3,put_get (fun hh=> ?_) h10⟩
      exact hnd3 _ hh _ (ids_mem hq3 (List.mem_singleton.2 rfl)) rfl
     |w' id x=>exact h7) (fun j s hj=>by
     rw [show(q.put (fun j=>j) (l,H1) x).2.length+j=H1.length+(s1.length+j)by omega]
     exact had _ s (by rw [List.getElem?_append_right (by omega),←hj];congr 1;omega))
    rw [zav]at h4
    exact⟨h4,us++us2,by rw [h2,h5,zbg],by
     show(putR (fun j=>j) (q.put (fun j=>j) (l,H1) x) (q2::r) z).1.map _=_
     rw [h6,h3,zav]⟩
   ·cases hr
  ·cases hr
end
theorem wPut_row{m:Nat}:∀{x:Ty} {v:x.T},isRowT x=true→∃o,wPut m x v=some o:=by
 intro x
 cases x<;>intro v h<;>first|exact⟨_,rfl⟩|cases h
theorem putR_same:∀(r:List Rk) (y:(resT r).T) (l:List SA) (Hx Hy:List Ob),Hx.length=Hy.length→(∀id,lenH Hx id=lenH Hy id)→(∀id,id∉Rk.ids r→Hx[id]? =Hy[id]?)→(∀q∈r,∀id x,q=.w' id x→isRowT x=true)→
  putR (fun j=>j) (l,Hx) r y=putR (fun j=>j) (l,Hy) r y:=by
 have lenE:∀{Hx Hy:List Ob} {id:Nat} {o:Ob},Hx.length=Hy.length→(∀id,lenH Hx id=lenH Hy id)→∀k,lenH (asx Hx id o) k=lenH (asx Hy id o) k:=by
  intro Hx Hy id o hl hn k
  rw [aun,aun,acp,acp,hl]
  split
  ·rfl
  ·rw [←aun,←aun];exact hn k
 have appE:∀{Hx Hy B:List Ob},Hx.length=Hy.length→(∀id,lenH Hx id=lenH Hy id)→∀k,lenH (Hx++B) k=lenH (Hy++B) k:=by
  intro Hx Hy B hl hn k
  rw [aun,aun]
  by_cases hk:k<Hx.length
  ·rw [List.getElem?_append_left hk,List.getElem?_append_left (by omega),←aun,←aun];exact hn k
  ·rw [List.getElem?_append_right (by omega),List.getElem?_append_right (by omega),hl]
 have getE:∀{Hx Hy B:List Ob} {k:Nat},Hx.length=Hy.length→Hx[k]? =Hy[k]? →(Hx++B)[k]? =(Hy++B)[k]? :=by
  intro Hx Hy B k hl hg
  by_cases hk:k<Hx.length
  ·rw [List.getElem?_append_left hk,List.getElem?_append_left (by omega)];exact hg
  ·rw [List.getElem?_append_right (by omega),List.getElem?_append_right (by omega),hl]
 have one:∀(q:Rk) (v:q.ty.T) (l:List SA) (Hx Hy:List Ob) (N:List Nat),Hx.length=Hy.length→(∀id,lenH Hx id=lenH Hy id)→(∀id,id∉Rk.ids [q]→id∉N→Hx[id]? =Hy[id]?)→(∀id x,q=.w' id x→isRowT x=true)→
   (q.put (fun j=>j) (l,Hx) v).1=(q.put (fun j=>j) (l,Hy) v).1∧(q.put (fun j=>j) (l,Hx) v).2.length=(q.put (fun j=>j) (l,Hy) v).2.length∧(∀id,lenH (q.put (fun j=>j) (l,Hx) v).2 id=lenH (q.put (fun j=>j) (l,Hy) v).2 id)∧∀id,id∉N→(q.put (fun j=>j) (l,Hx) v).2[id]? =(q.put (fun j=>j) (l,Hy) v).2[id]? :=by
  intro q v l Hx Hy N hl hn hg hw
  cases q with
  |r' x=>
   show l++[x.sa (x.lay 0 Hx.length v).1]=l++[x.sa (x.lay 0 Hy.length v).1]∧(Hx++(x.lay 0 Hx.length v).2).length=(Hy++(x.lay 0 Hy.length v).2).length∧(∀id,lenH (Hx++(x.lay 0 Hx.length v).2) id=lenH (Hy++(x.lay 0 Hy.length v).2) id)∧∀id,id∉N→(Hx++(x.lay 0 Hx.length v).2)[id]? =(Hy++(x.lay 0 Hy.length v).2)[id]?
   rw [hl]
   exact⟨rfl,by simp [hl],appE hl hn,fun id hid=>getE hl (hg id (fun h=>by cases h) hid)⟩
  |o' i e x=>
   show l=l∧(asx Hx i (.bl e (x.lay i Hx.length v).1)++(x.lay i Hx.length v).2).length=(asx Hy i (.bl e (x.lay i Hy.length v).1)++(x.lay i Hy.length v).2).length∧(∀id,lenH (asx Hx i (.bl e (x.lay i Hx.length v).1)++(x.lay i Hx.length v).2) id=lenH (asx Hy i (.bl e (x.lay i Hy.length v).1)++(x.lay i Hy.length v).2) id)∧∀id,id∉N→(asx Hx i (.bl e (x.lay i Hx.length v).1)++(x.lay i Hx.length v).2)[id]? =(asx Hy i (.bl e (x.lay i Hy.length v).1)++(x.lay i Hy.length v).2)[id]?
   rw [hl]
   have hl2:∀o:Ob,(asx Hx i o).length=(asx Hy i o).length:=fun o=>by rw [amh,amh,hl]
   refine⟨rfl,by simp [hl2],appE (hl2 _) (lenE hl hn),fun id hid=>getE (hl2 _) ?_⟩
   rw [acp,acp,hl]
   by_cases hi:id=i
   ·subst hi
    by_cases hlt:id<Hy.length
    ·rw [if_pos ⟨rfl,hlt⟩,if_pos ⟨rfl,hlt⟩]
    ·rw [if_neg (fun h=>hlt h.2),if_neg (fun h=>hlt h.2),List.getElem?_eq_none (by omega),List.getElem?_eq_none (by omega)]
   ·rw [if_neg (fun h=>hi h.1),if_neg (fun h=>hi h.1)]
    exact hg id (fun h=>hi (List.mem_singleton.1 h)) hid
  |w' i x=>
   show l=l∧(putW Hx i x v).length=(putW Hy i x v).length∧(∀id,lenH (putW Hx i x v) id=lenH (putW Hy i x v) id)∧∀id,id∉N→(putW Hx i x v)[id]? =(putW Hy i x v)[id]?
   have hx:=hw i x rfl
   unfold putW
   rw [hn i]
   split
   ·rename_i o ho
    refine⟨rfl,by rw [amh,amh,hl],lenE hl hn,fun id hid=> ?_⟩
    rw [acp,acp,hl]
    by_cases hi:id=i
    ·subst hi
     by_cases hlt:id<Hy.length
     ·rw [if_pos ⟨rfl,hlt⟩,if_pos ⟨rfl,hlt⟩]
     ·rw [if_neg (fun h=>hlt h.2),if_neg (fun h=>hlt h.2),List.getElem?_eq_none (by omega),List.getElem?_eq_none (by omega)]
    ·rw [if_neg (fun h=>hi h.1),if_neg (fun h=>hi h.1)]
     exact hg id (fun h=>hi (List.mem_singleton.1 h)) hid
   ·rename_i hno
    exfalso
    obtain⟨o,ho⟩:=wPut_row (m:=lenH Hy i) (x:=x) (v:=v) hx
    have hno2:=hno.symm.trans ho
    cases hno2
 intro r
 induction r with
 |nil=>
  intro y l Hx Hy hl hn hg _
  have e:Hx=Hy:=List.ext_getElem? fun k=>hg k (fun h=>by cases h)
  rw [e]
 |cons q r ih=>
  intro y l Hx Hy hl hn hg hw
  cases r with
  |nil=>
   obtain⟨h1,h2,h3,h4⟩:=one q y l Hx Hy [] hl hn (fun id h _=>hg id h) (hw q zah)
   have e:(q.put (fun j=>j) (l,Hx) y).2=(q.put (fun j=>j) (l,Hy) y).2:=List.ext_getElem? fun k=>h4 k (fun h=>by cases h)
   exact Prod.ext h1 e
  |cons q2 r=>
   obtain⟨h1,h2,h3,h4⟩:=one q y.1 l Hx Hy (Rk.ids (q2::r)) hl hn (fun id h h2=>hg id (by rw [ids_cons];exact fun hh=>(List.mem_append.1 hh).elim h h2)) (hw q zah)
   have:=ih y.2 (q.put (fun j=>j) (l,Hx) y.1).1 (q.put (fun j=>j) (l,Hx) y.1).2 (q.put (fun j=>j) (l,Hy) y.1).2 h2 h3 h4 (fun q3 h5=>hw q3 (zag _ h5))
   show putR (fun j=>j) (q.put (fun j=>j) (l,Hx) y.1) (q2::r) y.2=putR (fun j=>j) (q.put (fun j=>j) (l,Hy) y.1) (q2::r) y.2
   have e1:q.put (fun j=>j) (l,Hx) y.1=((q.put (fun j=>j) (l,Hx) y.1).1,(q.put (fun j=>j) (l,Hx) y.1).2):=rfl
   have e2:q.put (fun j=>j) (l,Hy) y.1=((q.put (fun j=>j) (l,Hx) y.1).1,(q.put (fun j=>j) (l,Hy) y.1).2):=by rw [h1]
   rw [e1,e2];exact this
open Go.Wk
open Go.Ce (Tr)
open List renaming append_assoc → zav, length_append → zab, length_cons → zac, mem_cons_of_mem → zag, mem_cons_self → zah, nil_append → zaH
open Nat renaming add_assoc → zaN, eq_of_beq_eq_true → zaf, le_refl → zam, one_pos → zbr, zero_le → zak
theorem layA_ok:∀(a:List Ty) (H0:List Ob) (x:(tupT a).T),noTz a=true→∃obs,(ata H0 a x).2=H0++obs∧(ata H0 a x).1.length=a.length∧(∀v∈(ata H0 a x).1,v.ok (H0.length+obs.length))∧∀(j e:Nat) (cs:List SC),obs[j]? =some (.bl e cs)→∀c∈cs,c.ok (H0.length+obs.length)
 |[],H0,x,h=>⟨[],by simp [ata],rfl,fun v hv=>by simp [ata]at hv,fun j e cs hj=>by simp at hj⟩
 |[t],H0,x,h=>by
  have ht:t.tz=false:=by
   simp only [noTz]at h
   cases hz:t.tz with
   |true=>rw [hz]at h;cases h
   |false=>rfl
  refine⟨(t.lay 0 H0.length x).2,rfl,rfl,fun v hm=> ?_,aze t 0 H0.length x⟩
  rw [List.mem_singleton.1 (show v∈[t.sv (t.lay 0 H0.length x).1]from hm)]
  exact Ty.sv_ok (aye t 0 H0.length x ht)
 |t::t2::a,H0,x,h=>by
  have ht:t.tz=false∧noTz (t2::a)=true:=by
   have h:(bif t.tz then false else noTz (t2::a))=true:=h
   cases hz:t.tz with
   |true=>rw [hz]at h;cases h
   |false=>rw [hz]at h;exact⟨rfl,h⟩
  obtain⟨obs,h1,h2,h3,h4⟩:=layA_ok (t2::a) (H0++(t.lay 0 H0.length x.1).2) x.2 ht.2
  have hl2:(H0++(t.lay 0 H0.length x.1).2).length=H0.length+(t.lay 0 H0.length x.1).2.length:=zab
  refine⟨(t.lay 0 H0.length x.1).2++obs,by rw [←zav];exact h1,by
   show(_::(ata (H0++(t.lay 0 H0.length x.1).2) (t2::a) x.2).1).length=_
   rw [zac,h2];rfl,fun v hm=> ?_,fun j e cs hj c hc=> ?_⟩
  ·rw [zab,←zaN,←hl2]
   rcases List.mem_cons.1 (show v∈t.sv (t.lay 0 H0.length x.1).1::(ata (H0++(t.lay 0 H0.length x.1).2) (t2::a) x.2).1 from hm)with rfl|hm
   ·exact SV.ok_mono (Ty.sv_ok (aye t 0 H0.length x.1 ht.1)) (by omega)
   ·exact h3 v hm
  ·rw [zab,←zaN,←hl2]
   by_cases hlt:j<(t.lay 0 H0.length x.1).2.length
   ·rw [List.getElem?_append_left hlt]at hj
    exact SC.ok_mono (aze t 0 H0.length x.1 j e cs hj c hc) (by omega)
   ·rw [List.getElem?_append_right (by omega)]at hj
    exact h4 _ e cs hj c hc
def noA:List Ty→Nat
 |[]=>0
 |t::a=>t.no+noA a
theorem layA_no:∀(a:List Ty) (H0:List Ob) (x:(tupT a).T),(ata H0 a x).2.length=H0.length+noA a
 |[],H0,x=>rfl
 |[t],H0,x=>by
  show(H0++(t.lay 0 H0.length x).2).length=_
  rw [zab]
  have:=Ty.lay_no t 0 H0.length x
  show _=H0.length+(t.no+0)
  omega
 |t::t2::a,H0,x=>by
  show(ata (H0++(t.lay 0 H0.length x.1).2) (t2::a) x.2).2.length=_
  rw [layA_no (t2::a),zab,Ty.lay_no]
  show _=H0.length+(t.no+noA (t2::a))
  omega
theorem setL_get:∀(vs:List SV) (F:Tr SV) (i t:Nat),gtF (setL F i vs) t=if i≤t∧t<i+vs.length then vs.getD (t-i) .u' else gtF F t
 |[],F,i,t=>by
  rw [if_neg (by simp)];rfl
 |v::vs,F,i,t=>by
  show gtF (setL (F.set i v) (i+1) vs) t=_
  rw [setL_get vs,gtF_set,zac]
  by_cases h1:t=i
  ·subst h1
   rw [if_neg (by omega),if_pos rfl,if_pos (by omega),Nat.sub_self];rfl
  ·by_cases h2:i+1≤t∧t<i+1+vs.length
   ·rw [if_pos h2,if_pos (by omega),show t-i=(t-(i+1))+1 by omega];rfl
   ·rw [if_neg h2,if_neg h1,if_neg (by omega)]
theorem alOf_cov{r:List Rk}{H0:List Ob}{id j:Nat}:∀{l:List Ob} {i:Nat},cov id j (alOf r H0 l i)=true→∃o,i≤id∧l[id-i]? =some o∧((aqf (some o)=true∧j=0)∨(aqf (some o)=false∧id∈Rk.ids r∧j<(cellsO H0 id).2.2))
 |[],i,h=>by simp [alOf,cov]at h
 |o::l,i,h=>by
  simp only [alOf]at h
  rcases agi.1 h with h|h
  ·cases hr:aqf (some o)with
   |true=>
    rw [hr]at h
    obtain⟨q,hq,h1,h2,h3⟩:=adz.1 h
    have hq:=List.mem_singleton.1 hq
    subst hq
    have h1:i=id:=h1
    subst h1
    exact⟨o,zam _,by simp,.inl ⟨hr,by have h3:j<1:=h3;omega⟩⟩
   |false=>
    rw [hr]at h
    cases hm:aws i (Rk.ids r)with
    |false=>rw [hm]at h;simp [cov]at h
    |true=>
     rw [hm]at h
     obtain⟨q,hq,h1,h2,h3⟩:=adz.1 h
     have hq:=List.mem_singleton.1 hq
     subst hq
     have h1:i=id:=h1
     subst h1
     exact⟨o,zam _,by simp,.inr ⟨hr,ago.1 hm,h3⟩⟩
  ·obtain⟨o2,h1,h2,h3⟩:=alOf_cov h
   refine⟨o2,by omega, ?_,h3⟩
   rw [show id-i=(id-(i+1))+1 by omega,List.getElem?_cons_succ];exact h2
theorem aww{H:List Ob}:∀{r:List Rk},outsK H r=true→∀q∈r,match q with
  |.r' _=>True
  |.o' id e x=>∃cs,H[id]? =some (.bl e cs)∧cs.length=x.cn
  |.w' id x=>aqf H[id]? =true∧isRowT x=true
 |q0::r,h,q,hq=>by
  have h:=aex (show(bif _ then outsK H r else false)=true from h)
  rcases List.mem_cons.1 hq with rfl|hq
  ·cases q with
   |r' x=>trivial
   |o' id e x=>
    have h1:=h.1
    simp only [aau]at h1
    split at h1
    ·rename_i e2 cs hb
     have h1:=aex h1
     rw [zaf h1.1]at hb
     exact⟨cs,hb,zaf h1.2⟩
    ·cases h1
   |w' id x=>
    have h1:=aex h.1
    rw [aau]at h1
    exact h1
  ·exact aww h.2 q hq
def rgO:List Rk→List Rg
 |[]=>[]
 |k::l=>match k with
  |.r' _=>rgO l
  |.o' id _ x=>(id,0,x.cn)::rgO l
  |.w' id _=>(id,0,1)::rgO l
theorem rgO_of:∀{r:List Rk} {q:Rg},q∈rgO r→(∃id e x,Rk.o' id e x∈r∧q=(id,0,x.cn))∨∃id x,Rk.w' id x∈r∧q=(id,0,1)
 |k::r,q,h=>by
  cases k with
  |r' x=>
   rcases rgO_of (show q∈rgO r from h)with⟨id,e,x,h1,h2⟩|⟨id,x,h1,h2⟩
   ·exact .inl ⟨id,e,x,zag _ h1,h2⟩
   ·exact .inr ⟨id,x,zag _ h1,h2⟩
  |o' i e x=>
   rcases List.mem_cons.1 (show q∈(i,0,x.cn)::rgO r from h)with rfl|h
   ·exact .inl ⟨i,e,x,zah,rfl⟩
   ·rcases rgO_of h with⟨id,e,x,h1,h2⟩|⟨id,x,h1,h2⟩
    ·exact .inl ⟨id,e,x,zag _ h1,h2⟩
    ·exact .inr ⟨id,x,zag _ h1,h2⟩
  |w' i x=>
   rcases List.mem_cons.1 (show q∈(i,0,1)::rgO r from h)with rfl|h
   ·exact .inr ⟨i,x,zah,rfl⟩
   ·rcases rgO_of h with⟨id,e,x,h1,h2⟩|⟨id,x,h1,h2⟩
    ·exact .inl ⟨id,e,x,zag _ h1,h2⟩
    ·exact .inr ⟨id,x,zag _ h1,h2⟩
theorem rgO_o{id e:Nat}{x:Ty}:∀{r:List Rk},Rk.o' id e x∈r→(id,0,x.cn)∈rgO r
 |k::r,h=>by
  rcases List.mem_cons.1 h with rfl|h2
  ·exact zah
  ·cases k with
   |r' _=>exact(show _∈rgO r from rgO_o h2)
   |o' _ _ _=>exact zag _ (rgO_o h2)
   |w' _ _=>exact zag _ (rgO_o h2)
theorem rgO_w{id:Nat}{x:Ty}:∀{r:List Rk},Rk.w' id x∈r→(id,0,1)∈rgO r
 |k::r,h=>by
  rcases List.mem_cons.1 h with rfl|h2
  ·exact zah
  ·cases k with
   |r' _=>exact(show _∈rgO r from rgO_w h2)
   |o' _ _ _=>exact zag _ (rgO_w h2)
   |w' _ _=>exact zag _ (rgO_w h2)
theorem ids_of{id:Nat}:∀{r:List Rk},id∈Rk.ids r→(∃e x,Rk.o' id e x∈r)∨∃x,Rk.w' id x∈r
 |k::r,h=>by
  cases k with
  |r' x=>
   rcases ids_of (show id∈Rk.ids r from h)with⟨e,x,h1⟩|⟨x,h1⟩
   ·exact .inl ⟨e,x,zag _ h1⟩
   ·exact .inr ⟨x,zag _ h1⟩
  |o' i e x=>
   rcases List.mem_cons.1 (show id∈i::Rk.ids r from h)with rfl|h
   ·exact .inl ⟨e,x,zah⟩
   ·rcases ids_of h with⟨e,x,h1⟩|⟨x,h1⟩
    ·exact .inl ⟨e,x,zag _ h1⟩
    ·exact .inr ⟨x,zag _ h1⟩
  |w' i x=>
   rcases List.mem_cons.1 (show id∈i::Rk.ids r from h)with rfl|h
   ·exact .inr ⟨x,zah⟩
   ·rcases ids_of h with⟨e,x,h1⟩|⟨x,h1⟩
    ·exact .inl ⟨e,x,zag _ h1⟩
    ·exact .inr ⟨x,zag _ h1⟩
section
variable {C : Cx} {md : Md} {w0 w : World} {S0 : List Nat} {GS : Glo} {ρ ρe : Nat → Ad} {Se : St} {Fe : Nat → Value} {a : List Ty} {r : List Rk} {H gs : List Ob}
theorem end_ok(hmd:md=⟨md.n,[],none⟩)(hn:C.nn=md.n)(hS:Rel C w0 S0 ρe Se Fe w)(hlnH:Lns ρ H)(hho:∀(id e:Nat) (cs:List SC),H[id]? =some (.bl e cs)→∀c∈cs,c.ok H.length)(hnd:(Rk.ids r).Nodup)(hout:outsK H r=true)
  (hle:Le (H++gs).length (alOf r H H 0) ρ (H++gs) ρe Se.H) {rs:List ResultVar} {y:(resT r).T} (h:resD C (H++gs).length (alOf r H H 0) rs r Se=some y):
  ∃(ρ2:Nat→Ad) (L2:List Res) (us:List Value),Up H.length ρ ρ2∧Hp w0 S0 L2 w∧Mt w0 S0 ρ2 (putR (fun j=>j) ([],kill H (eatJ (Rk.ids r) H 0)) r y).2 L2∧(putR (fun j=>j) ([],kill H (eatJ (Rk.ids r) H 0)) r y).1.map (SA.v ρ2)=us∧
   (rs.map (Go.Oe.resOf C Se)).map (SV.v ρe)=us.map some:=by
 unfold resD at h
 split at h
 ·rename_i x ss hr
  have h:=aaj h
  have htk:=aex (show(bif nodN (ownS ss)then St.oks ⟨Se.F,Se.H,(H++gs).length,alOf r H H 0,[]⟩ (aod Se.H (ownS ss))else false)=true from h.1)
  have h2:=aaj h.2
  have hdis:=disN_iff.1 h2.1
  cases h2.2
  let E:=eatJ (Rk.ids r) H 0
  let R:=rgO r
  let ρ3:Nat→Ad:=fun id=>if id<H.length then ρe id else match ss[id-H.length]? with
   |some s=>s.ad ρe
   |none=>ρe id
  have hup2:Up H.length ρe ρ3:=fun id hi=>by simp only [ρ3,hi,if_true]
  have hup0:Up H.length ρ ρe:=fun id hi=>hle.up id (by rw [zab];omega)
  have hup:Up H.length ρ ρ3:=hup0.trans hup2 (zam _)
  have had:∀(j:Nat) (s:Src),ss[j]? =some s→ρ3 (H.length+j)=s.ad ρe:=by
   intro j s hj
   have h1:¬H.length+j<H.length:=by omega
   have h2:H.length+j-H.length=j:=by omega
   simp only [ρ3,h1,if_false,h2,hj]
  have hEmem:∀id,id∈E↔∃o,H[id]? =some o∧aqf (some o)=true∧id∉Rk.ids r:=by
   intro id
   show id∈eatJ (Rk.ids r) H 0↔_
   rw [eatJ_mem]
   simp
  have keyQ:∀q∈R,(∃e cs,H[q.1]? =some (.bl e cs)∧q.2.2≤cs.length)∨(aqf H[q.1]? =true∧q.2=(0,1)):=by
   intro q hq
   rcases rgO_of hq with⟨id,e,x,h1,rfl⟩|⟨id,x,h1,rfl⟩
   ·obtain⟨cs,h3,h4⟩:=aww hout _ h1
    exact .inl ⟨e,cs,h3,by rw [h4];exact zam _⟩
   ·exact .inr ⟨(aww hout _ h1).1,rfl⟩
  have eatQ:∀id∈E,aqf H[id]? =true∨∃e cs,H[id]? =some (.bl e cs):=by
   intro id hid
   obtain⟨o,h1,h2,_⟩:=(hEmem id).1 hid
   exact .inl (by rw [h1];exact h2)
  have hcov:∀id j,cov id j (alOf r H H 0)=true→cov id j (R++aod H E)=true:=by
   intro id j hc
   obtain⟨o,_,h1,h2⟩:=alOf_cov hc
   rw [Nat.sub_zero]at h1
   rcases h2 with⟨h2,rfl⟩|⟨h2,h3,h4⟩
   ·by_cases ho:id∈Rk.ids r
    ·rcases ids_of ho with⟨e,x,h5⟩|⟨x,h5⟩
     ·obtain⟨cs,h6,_⟩:=aww hout _ h5
      rw [h1]at h6
      cases h6
      cases h2
     ·exact agi.2 (.inl (adz.2 ⟨_,rgO_w h5,rfl,zam _,zbr⟩))
    ·exact agi.2 (.inr (atg ((hEmem id).2 ⟨o,h1,h2,ho⟩)))
   ·rcases ids_of h3 with⟨e,x,h5⟩|⟨x,h5⟩
    ·obtain⟨cs,h6,h7⟩:=aww hout _ h5
     refine agi.2 (.inl (adz.2 ⟨_,rgO_o h5,rfl,zak _, ?_⟩))
     unfold cellsO at h4
     rw [aau,h6]at h4
     show j<x.cn
     rw [←h7];exact h4
    ·have:=(aww hout _ h5).1
     rw [h1,h2]at this
     cases this
  have hle2:Le H.length (R++aod H E) ρ H ρe Se.H:=by
   refine⟨by have:=hle.len;rw [zab]at this;omega,hup0,fun id o hi ho=> ?_⟩
   have:=hle.kp id o (by rw [zab];omega) (by rw [List.getElem?_append_left hi];exact ho)
   exact this.mono fun j hc=>hcov id j hc
  have h0:=PI.baseG (F2:=Fe) (Fm:=(Tr.e:Tr SV)) (ρ3:=ρ3) hlnH hho keyQ eatQ hle2 hup (fun t u hu=>by
   have e:gtF (Tr.e:Tr SV) t=.u':=by unfold gtF;rw [Go.Ce.Tr.get_e]
   rw [e]at hu;cases hu) (fun t=>by
   have e:gtF (Tr.e:Tr SV) t=.u':=by unfold gtF;rw [Go.Ce.Tr.get_e]
   rw [e];trivial)
  have hlenB:(kill (arp H R) E).length=H.length:=by rw [azf,ayo]
  have hKR:∀q∈r,KR H.length H (kill (arp H R) E) E (R++aod H E) q:=by
   intro q hq
   have ho:=aww hout q hq
   cases q with
   |r' x=>trivial
   |o' id e x=>
    obtain⟨cs,h3,h4⟩:=ho
    refine⟨(List.getElem?_eq_some_iff.1 h3).1,fun j hj=>agi.2 (.inl (adz.2 ⟨_,rgO_o hq,rfl,zak _,hj⟩)), ?_⟩
    obtain⟨o2,h5,cs2,rfl,_⟩:=atn (rs:=R) h3
    have hnE:id∉E:=fun hE=>by
     obtain⟨o,h6,h7,_⟩:=(hEmem id).1 hE
     rw [h3]at h6
     cases h6
     cases h7
    exact⟨e,cs2,by rw [anh,if_neg hnE];exact h5⟩
   |w' id x=>
    have ho:aqf H[id]? =true∧isRowT x=true:=ho
    have hlt:id<H.length:=by
     cases h3:H[id]? with
     |none=>rw [h3]at ho;cases ho.1
     |some _=>exact(List.getElem?_eq_some_iff.1 h3).1
    refine⟨hlt,agi.2 (.inl (adz.2 ⟨_,rgO_w hq,rfl,zam _,zbr⟩)),fun hE=> ?_,ho.1⟩
    obtain⟨o,_,_,h6⟩:=(hEmem id).1 hE
    exact h6 (ids_mem hq (List.mem_singleton.2 rfl))
  obtain⟨hP,us,hu1,hu2⟩:=PI.stepsR (rel_lns hS) (rel_brk hS) (zam _) hup2 r _ [] y ss _ [] h0 hr hnd hKR (by rw [hlenB];exact had)
  rw [zaH]at hP
  obtain⟨L,hH,hM⟩:=hS.mem
  obtain⟨L3,hH3,hM3⟩:=hP.mem hH hM hup2 had (nodN_iff.1 htk.1) (fun id hid hlt=>by
   have hc:cov id 0 (alOf r H H 0)=true:=oks_cov htk.2 (by show id<(H++gs).length;rw [zab];omega) (atg hid)
   obtain⟨o,_,h1,h2⟩:=alOf_cov hc
   rw [Nat.sub_zero]at h1
   have hno:=hdis id hid
   rcases h2 with⟨h2,_⟩|⟨_,h3,_⟩
   ·exact(hEmem id).2 ⟨o,h1,h2,hno⟩
   ·exact absurd h3 hno)
  have hsame:putR (fun j=>j) (([]:List SA),kill (arp H R) E) r y=putR (fun j=>j) ([],kill H E) r y:=by
   have hlk:∀id,lenH (kill (arp H R) E) id=lenH (kill H E) id:=by
    intro id
    rw [aun,aun,anh,anh]
    cases hg:H[id]? with
    |none=>rw [forget_none hg]
    |some o=>
     obtain⟨o2,h1,h2⟩:=atn (rs:=R) hg
     rw [h1]
     split
     ·exact h2.len
     ·exact h2.len
   refine putR_same r y [] _ _ (by rw [azf,ayo,azf]) hlk (fun id hid=> ?_) (fun q hq id x e=> ?_)
   ·rw [anh,anh]
    cases hg:H[id]? with
    |none=>rw [forget_none hg]
    |some o=>
     have hnc:∀j,cov id j R=false:=by
      intro j
      cases hc:cov id j R with
      |false=>rfl
      |true=>
       exfalso
       obtain⟨q,hq,h1,_⟩:=adz.1 hc
       rcases rgO_of hq with⟨i,e,x,h3,rfl⟩|⟨i,x,h3,rfl⟩
       ·have h1:i=id:=h1
        subst h1
        exact hid (ids_mem h3 (List.mem_singleton.2 rfl))
       ·have h1:i=id:=h1
        subst h1
        exact hid (ids_mem h3 (List.mem_singleton.2 rfl))
     have hnq:∀q∈R,q.1≠id:=by
      intro q hq e
      rcases rgO_of hq with⟨i,e2,x,h3,rfl⟩|⟨i,x,h3,rfl⟩
      ·have e:i=id:=e
       subst e
       exact hid (ids_mem h3 (List.mem_singleton.2 rfl))
      ·have e:i=id:=e
       subst e
       exact hid (ids_mem h3 (List.mem_singleton.2 rfl))
     obtain⟨o2,h1,h2⟩:=atn (rs:=R) hg
     have e:o2=o:=by
      cases o with
      |bl e cs=>
       obtain⟨cs2,rfl,h3,h4⟩:=h2
       have:cs2=cs:=List.ext_getElem? fun j=>by rw [h4,hnc j,if_neg (by simp)]
       rw [this]
      |_=>
       rcases h2 with⟨h2,_⟩|⟨_,q,hq,h3⟩
       ·exact h2
       ·exact absurd h3 (hnq q hq)
     rw [h1,e]
   ·have:=aww hout q hq
    rw [e]at this
    exact this.2
  rw [hsame]at hM3 hu2
  refine⟨ρ3,L3,us,hup,hH3,hM3,by rw [hu2];rfl,hu1⟩
 ·cases h
end
open Go.Wk
open Go.Ce (Tr)
open List renaming append_assoc → zav, append_nil → zan, length → zaZ, length_append → zab, length_map → zaF, length_nil → zal, map_congr_left → zbq, nil_append → zaH
open Nat renaming beq → zau, blt → zbf, le_refl → zam, zero_add → zba
open Option renaming map_some → zaP
section
variable {C : Cx} {md : Md} {w0 w : World} {S0 : List Nat} {GS : Glo} {ρ : Nat → Ad} {S : St} {F : Nat → Value}
theorem loadVar_of{t : TypeId}{a : Operand}{p : Addr}{u : Value}(hx : evn md F a = .pointer (some p))(h : (execOp (evn md F) (⟨some 0, .load t a, 0, "", #[], none⟩ : Oper)).run C.P w = .ok (.value u) w) : (loadVar t p).run C.P w = .ok u w := by
 simp only [execOp,hx,Instr.loadAt,Instr.sureAddr,Sem.run_bind,Sem.run_pure,Result.andThen_ok]at h
 cases hl:(loadVar t p).run C.P w with
 |ok v w'=>
  rw [hl]at h
  simp only [Result.andThen_ok,Result.ok.injEq,Next.value.injEq]at h
  rw [h.1,h.2]
 |halt x w'=>rw [hl]at h;cases h
theorem resOf_run(hn:C.nn=md.n)(hS:Rel C w0 S0 ρ S F w){rv:ResultVar}{u:Value}(h:(Go.Oe.resOf C S rv).v ρ=some u):(Go.Wk.resOf (fr md F).tmps rv).run C.P w=.ok u w:=by
 cases rv with
 |tmp t=>
  have h:(S.ev C (.tmp t)).v ρ=some u:=h
  have:=(azn hS hn (.tmp t)).2 u h
  have e:(bif zbf t md.n then F t else undef)=u:=this
  unfold Go.Wk.resOf
  simp only [fr_get,e,Sem.run_pure]
 |cell a t=>
  have h:((match S.ev C (.tmp a)with
   |.c' x=>match opLoad C S.H t x with
    |some ⟨[],v,_,_⟩=>v
    |_=>.u'
   |_=>.u'):SV).v ρ=some u:=h
  split at h
  ·rename_i x hx
   have hx2:S.ev C (.tmp a)=.c' x:=hx
   obtain⟨h1,h2⟩:=aem hS hn hx2
   split at h
   ·rename_i v H m hl
    obtain⟨⟨_,u2,h3,h4⟩,_⟩:=load_ok hS (md:=md) (x:=.tmp a) h2 hl trivial
    have h3:v.v ρ=some u2:=h3
    rw [h]at h3
    cases h3
    have h5 := h4 0 0 "" #[]
    have hp:∃p,x.v ρ=.pointer (some p):=by
     unfold opLoad at hl
     split at hl
     ·rename_i n ag _ _
      cases hz:zau n 0 with
      |true=>rw [hz]at hl;cases hl
      |false=>
       rw [hz]at hl
       cases x<;>first|exact⟨_,rfl⟩|cases hl
     ·cases hl
    obtain⟨p,hp⟩:=hp
    rw [hp]at h2
    have h6:=loadVar_of h2 h5
    have e:(bif zbf a md.n then F a else undef)=.pointer (some p):=h2
    unfold Go.Wk.resOf
    simp only [fr_get,e,asAddr,Sem.run_bind,Sem.run_pure,Result.andThen_ok]
    exact h6
   ·cases h
  ·cases h
end
def oneV:List Value→Value
 |[u]=>u
 |us=>.tuple us.toArray
theorem results_go{P:Program}{kk:Nat}{F:Nat→Value}{w:World}{fn:Func}(l:List ResultVar)(vs:List Value)(hr:fn.results=l.toArray)(hl:l.length=vs.length)
  (hv:∀(i:Nat) (x:ResultVar) (v:Value),l[i]? =some x→vs[i]? =some v→(Go.Wk.resOf (fr ⟨kk,[],none⟩ F).tmps x).run P w=.ok v w) (v:Value) (hone:oneV vs=v):
  (results fn (fr ⟨kk,[],none⟩ F).tmps).run P w=.ok v w:=by
 have hm:=run_mapM (P:=P) (w:=w) (Go.Wk.resOf (fr ⟨kk,[],none⟩ F).tmps) l vs hl hv
 unfold results
 rw [hr]
 change Sem.run P (do let vs←l.toArray.mapM (Go.Wk.resOf (fr ⟨kk,[],none⟩ F).tmps);pure (if h:vs.size=1 then vs[0]else .tuple vs)) w=_
 simp only [List.mapM_toArray,Sem.run_bind,Sem.run_map]
 rw [hm]
 simp only [Result.andThen_ok,Sem.run_pure]
 subst hone
 congr 1
 cases vs with
 |nil=>simp [oneV]
 |cons u us=>cases us with
  |nil=>simp [oneV]
  |cons u' us=>simp [oneV]
theorem resV_one{ρ:Nat→Ad}:∀(l:List SA),(resV l).v ρ=some (oneV (l.map (SA.v ρ)))
 |[]=>rfl
 |[x]=>SA.sv_v ρ x
 |_::_::_=>rfl
theorem fun_ok{C:Cx}{k:Nat}{fn:Func}{code:Code}{GS:Glo}{gl:List (Nat×Ob)}{rs:List ResultVar}{sc:Sc}{a:List Ty}{r:List Rk}{f:(tupT a).T→Gv (resT r).T}(hf:C.P.funcs[k]? =some fn)(hb:fn.body=some code)(hn:fn.ntmps=C.nn)(hr:fn.results=rs.toArray)
  (hden:∀x y,(f x).ok y→denF C (gl.map (·.2)) code rs sc a r x=some y) (hal:a.length≤C.nn) (hE:EOk C) (hX:∀k,∀c∈C.X k,Enters C.P k∧FOk C.P GS k c) (hgl:∀q∈gl,q∈GS.gs∧∃t l,q.2=.ro t l)
  (hG:∀g id,C.G g=some id→∃i q,id=noA a+i∧gl[i]? =some q∧q.1=g):FOk C.P GS k ⟨a,r,f⟩:=by
 intro w S ρ L us x y hGw hHp hMt hus hy
 let H:List Ob:=(ata [] a x).2
 have hAH:argH ⟨a,r,f⟩ x=H:=rfl
 let gs:List Ob:=gl.map (·.2)
 have hd:=hden x y hy
 have hd:(bif (bif noTz a then(bif nodN (Rk.ids r)then outsK H r else false)else false)then den C (resT r) (resD C (H++gs).length (alOf r H H 0) rs r) code sc ⟨setL Tr.e 0 (ata [] a x).1,H++gs,(H++gs).length,alOf r H H 0,[]⟩ (resT r) some (endK (resD C (H++gs).length (alOf r H H 0) rs r))else none)=some y:=hd
 have hd:=aaj hd
 have hc:=aex hd.1
 have hc2:=aex hc.2
 have hnt:=hc.1
 have hnd:=nodN_iff.1 hc2.1
 have hout:=hc2.2
 have hden:=hd.2
 obtain⟨obs,ho1,ho2,ho3,ho4⟩:=layA_ok a [] x hnt
 rw [zaH]at ho1
 have hHo:H=obs:=ho1
 have hlenH:H.length=noA a:=by
  have:=layA_no a [] x
  rw [zal,zba]at this
  exact this
 have hHlen:([]:List Ob).length+obs.length=H.length:=by rw [hHo];simp
 rw [hHlen]at ho3 ho4
 have hm:Mt w S ρ H L:=hMt
 have hgl2:∀(i:Nat) (q:Nat×Ob),gl[i]? =some q→∃t l,q.2=.ro t l∧Rd w (some ⟨q.1,0,none⟩) (l.flatMap t.enc)∧q.1∉S:=by
  intro i q hq
  obtain⟨g,o⟩:=q
  obtain⟨h1,t,l,h2⟩:=hgl _ (List.mem_of_getElem? hq)
  have h2:o=.ro t l:=h2
  subst h2
  have:=GS.rd hGw h1
  exact⟨t,l,rfl,this.1,this.2⟩
 let ρ1:Nat→Ad:=fun id=>if id<H.length then ρ id else match gl[id-H.length]? with
  |some q=>⟨none,some ⟨q.1,0,none⟩,q.2.len,false,q.2.len⟩
  |none=>ρ id
 have hup1:Up H.length ρ ρ1:=fun id hi=>by simp only [ρ1,hi,if_true]
 have hg1:∀(i:Nat) (q:Nat×Ob),gl[i]? =some q→ρ1 (H.length+i)=⟨none,some ⟨q.1,0,none⟩,q.2.len,false,q.2.len⟩:=by
  intro i q hq
  have e1:¬H.length+i<H.length:=by omega
  have e2:H.length+i-H.length=i:=by omega
  simp only [ρ1,e1,if_false,e2,hq]
 have hvs:(ata [] a x).1.map (SV.v ρ1)=us.map some:=by
  have hus:(ata [] a x).1.map (SV.v ρ)=us.map some:=hus
  rw [←hus]
  refine zbq fun v hv=>SV.up hup1 (ho3 v hv)
 have hlus:us.length=a.length:=by
  have:=congrArg zaZ hus
  simp only [zaF]at this
  rw [←this];exact ho2
 let S1:St:=⟨setL Tr.e 0 (ata [] a x).1,H++gs,(H++gs).length,alOf r H H 0,[]⟩
 have hlnS:(H++gs).length=H.length+gl.length:=by simp [gs]
 have hrel:Rel C w S ρ1 S1 (argF us) w:=by
  have hat:∀t,S1.at t=if t<a.length then(ata [] a x).1.getD t .u' else .u':=by
   intro t
   rw [St.at_eq]
   show gtF (setL Tr.e 0 (ata [] a x).1) t=_
   rw [setL_get,ho2,zba,Nat.sub_zero]
   have e:gtF (Tr.e:Tr SV) t=.u':=by unfold gtF;rw [Go.Ce.Tr.get_e]
   rw [e]
   simp
  refine⟨fun g id hg=> ?_,fun t u hu=> ?_,fun t=> ?_,fun id e cs ho c hcm=> ?_,⟨L++List.replicate gl.length nores, ?_, ?_, ?_⟩⟩
  ·obtain⟨i,q,h1,h2,rfl⟩:=hG g id hg
   have hi:=(List.getElem?_eq_some_iff.1 h2).1
   rw [←hlenH]at h1
   subst h1
   exact⟨by show H.length+i<(H++gs).length;omega,by rw [hg1 i q h2]⟩
  ·rw [hat]at hu
   split at hu
   ·rename_i ht
    have h1:(ata [] a x).1[t]? =some ((ata [] a x).1[t]'(by rw [ho2];exact ht)):=List.getElem?_eq_getElem (by rw [ho2];exact ht)
    have h2:=congrArg (fun l=>l[t]?) hvs
    simp only [List.getElem?_map,h1,zaP]at h2
    have h3:us[t]? =some (us[t]'(by omega)):=List.getElem?_eq_getElem (by omega)
    rw [h3]at h2
    rw [List.getD_eq_getElem?_getD,h1]at hu
    have h4:=Option.some.inj h2
    rw [show((some ((ata [] a x).1[t]'(by rw [ho2];exact ht))).getD SV.u')=(ata [] a x).1[t]'(by rw [ho2];exact ht)from rfl,h4]at hu
    unfold argF
    rw [List.getD_eq_getElem?_getD,h3]
    exact Option.some.inj hu
   ·cases hu
  ·rw [hat]
   split
   ·rename_i ht
    have h1:(ata [] a x).1[t]? =some ((ata [] a x).1[t]'(by rw [ho2];exact ht)):=List.getElem?_eq_getElem (by rw [ho2];exact ht)
    rw [List.getD_eq_getElem?_getD,h1]
    exact SV.ok_mono (ho3 _ (List.mem_of_getElem? h1)) (by show H.length≤(H++gs).length;omega)
   ·trivial
  ·have ho:(H++gs)[id]? =some (.bl e cs):=ho
   by_cases hi:id<H.length
   ·rw [List.getElem?_append_left hi,hHo]at ho
    exact SC.ok_mono (ho4 id e cs ho c hcm) (by show H.length≤(H++gs).length;omega)
   ·rw [List.getElem?_append_right (by omega)]at ho
    exfalso
    obtain⟨q,h1,h2⟩:=map_some ho
    obtain⟨t,l,h3,_⟩:=hgl2 _ q h1
    rw [h3]at h2;cases h2
  ·have key:∀n,Hp w S (L++List.replicate n nores) w:=by
    intro n
    induction n with
    |zero=>rw [List.replicate_zero,zan];exact hHp
    |succ n ih=>
     have:=Go.Oe.Hp.rot (hp_idle ih)
     rw [zav]at this
     rw [List.replicate_succ']
     exact this
   exact key _
  ·show(L++_).length=(H++gs).length
   rw [zab,List.length_replicate,hlnS,hm.1]
  ·intro id o ho
   have ho:(H++gs)[id]? =some o:=ho
   by_cases hi:id<H.length
   ·rw [List.getElem?_append_left hi]at ho
    obtain⟨h1,r1,h2,h3⟩:=hm.2 id o ho
    refine⟨by rw [hup1 id hi];exact h1,r1,by rw [List.getElem?_append_left (by rw [hm.1];exact hi)];exact h2,h3.up hup1 hi fun e cs he=> ?_⟩
    rw [he,hHo]at ho
    exact ho4 id e cs ho
   ·rw [List.getElem?_append_right (by omega)]at ho
    obtain⟨q,h1,h2⟩:=map_some ho
    obtain⟨t,l,h3,h4,h5⟩:=hgl2 _ q h1
    have hgi:=hg1 _ q h1
    rw [show H.length+(id-H.length)=id by omega]at hgi
    rw [h3]at h2
    subst h2
    have hilt:=(List.getElem?_eq_some_iff.1 h1).1
    refine⟨by rw [hgi,h3],nores, ?_,rfl, ?_⟩
    ·rw [List.getElem?_append_right (by rw [hm.1];omega),List.getElem?_replicate,if_pos (by rw [hm.1];exact hilt)]
    ·rw [hgi]
     exact⟨h4,fun _ p hp=>by cases hp;exact h5,by rw [h3];exact zam _⟩
 let md:Md:=⟨C.nn,[],none⟩
 have hEnv:Env C md w S GS:=⟨hE,rfl,hGw,hX⟩
 have hsnd:=den_sound (τ:=resT r) (res:=resD C (H++gs).length (alOf r H H 0) rs r) (md:=md) (w0:=w) (S0:=S) (C:=C) rfl ⟨_,rfl⟩ (pureOk rfl) code (regs_ok hEnv rfl code)
 have fin:∀S2 ρ2 F2 w2,resD C (H++gs).length (alOf r H H 0) rs r S2=some y→Rel C w S ρ2 S2 F2 w2→Le S1.nb S1.al ρ1 S1.H ρ2 S2.H→
   ∃vs v,rs.length=vs.length∧(∀(i:Nat) (x:ResultVar) (u:Value),rs[i]? =some x→vs[i]? =some u→(Go.Wk.resOf (fr md F2).tmps x).run C.P w2=.ok u w2)∧oneV vs=v∧
    ∃ρ3 L3,Up H.length ρ ρ3∧Hp w S L3 w2∧Mt w S ρ3 (retS ⟨a,r,f⟩ x y).2 L3∧(resV (retS ⟨a,r,f⟩ x y).1).v ρ3=some v:=by
  intro S2 ρ2 F2 w2 h1 h2 h3
  obtain⟨ρ3,L3,vs,h4,h5,h6,h7,h8⟩:=end_ok (md:=md) (H:=H) (gs:=gs) (ρ:=ρ1) rfl rfl h2 (fun id o ho=>by
   have hi:=(List.getElem?_eq_some_iff.1 ho).1
   rw [hup1 id hi];exact hm.lns id o ho) (fun id e cs ho=>by rw [hHo]at ho;exact ho4 id e cs ho) hnd hout h3 h1
  refine⟨vs,_,by simpa using congrArg zaZ h8,fun i rv u hi hu=> ?_,rfl,ρ3,L3,hup1.trans h4 (zam _),h5,h6, ?_⟩
  ·have h9:=congrArg (fun l=>l[i]?) h8
   simp only [List.getElem?_map,hi,hu,zaP]at h9
   exact resOf_run (md:=md) rfl h2 (Option.some.inj h9)
  ·rw [←h7];exact resV_one _
 refine enter (k:=C.nn) hf hb hn (by rw [hlus];exact hal) ?_
 refine hsnd sc S1 (resT r) some (endK (resD C (H++gs).length (alOf r H H 0) rs r)) y ρ1 (argF us) w _ hden hrel (fun e S2 ρ2 F2 w2 he hS2 hN hf2 hran=> ?_) (fun z S2 ρ2 F2 w2 hz hps hS2 hL=> ?_)
 ·cases e with
  |nm=>
   obtain⟨vs,v,h1,h2,h3,ρ3,L3,h4⟩:=fin S2 ρ2 F2 w2 he hS2 hN.le
   exact⟨rfl,v,results_go rs vs hr h1 h2 v h3,v,rfl,ρ3,L3,h4⟩
  |xt i=>cases he
 ·cases hps
  obtain⟨vs,v,h1,h2,h3,ρ3,L3,h4⟩:=fin S2 ρ2 F2 w2 hz hS2 hL.le
  exact⟨rfl,v,results_go rs vs hr h1 h2 v h3,v,rfl,ρ3,L3,h4⟩
open Go.Wk
open Go.Ce (Tr)
open List renaming eq_nil_of_length_eq_zero → zao
open Nat renaming beq → zau, eq_of_beq_eq_true → zaf, le_of_ble_eq_true → zaG, succ → zbh
structure KF (P:Program) (GS:Glo) where
 k:Nat
 c:Con
 en:Enters P k
 ok:FOk P GS k c
def lookX{P:Program}{GS:Glo}:List (KF P GS)→Nat→List Con
 |[],_=>[]
 |q::l,k=>bif zau k q.k then q.c::lookX l k else lookX l k
theorem lookX_ok{P:Program}{GS:Glo}:∀(l:List (KF P GS)) (k:Nat),∀c∈lookX l k,Enters P k∧FOk P GS k c
 |[],k,c,h=>by cases h
 |q::l,k,c,h=>by
  unfold lookX at h
  cases hq:zau k q.k with
  |false=>rw [hq]at h;exact lookX_ok l k c h
  |true=>
   rw [hq]at h
   rcases List.mem_cons.1 (show c∈q.c::lookX l k from h)with rfl|h
   ·rw [zaf hq];exact⟨q.en,q.ok⟩
   ·exact lookX_ok l k c h
def gIdx:List (Nat×Ob)→Nat→Nat→Option Nat
 |[],_,_=>none
 |q::l,n,g=>bif zau g q.1 then some n else gIdx l (zbh n) g
theorem gIdx_ok:∀(l:List (Nat×Ob)) (n g id:Nat),gIdx l n g=some id→∃i q,id=n+i∧l[i]? =some q∧q.1=g
 |[],n,g,id,h=>by cases h
 |q::l,n,g,id,h=>by
  unfold gIdx at h
  cases hq:zau g q.1 with
  |false=>
   rw [hq]at h
   obtain⟨i,q2,h1,h2,h3⟩:=gIdx_ok l (zbh n) g id h
   exact⟨i+1,q2,by omega,h2,h3⟩
  |true=>
   rw [hq]at h
   cases h
   exact⟨0,q,rfl,rfl,(zaf hq).symm⟩
structure Sea where
 P:Program
 GS:Glo
 E:Nat→Option (Nat×Nat×Ty)
 hE:∀t e b τ,E t=some (e,b,τ)→P.underlying t=some (.slice e)∧TI P e τ.sz b∧τ.flat=true∧0<b
 gt:∀q∈GS.gs,∃t l,q.2=.ro t l
abbrev Sea.K(T:Sea):Type:=KF T.P T.GS
abbrev Sea.cx(T:Sea)(fu n:Nat)(l:List T.K)(a:List Ty):Cx:=⟨T.P,lookX l,T.E,gIdx T.GS.gs (noA a),n,fu⟩
def Sea.fn(T : Sea)(fu k : Nat){fn : Func}(hf : T.P.funcs[k]? = some fn){code : Code}(hb : fn.body = some code)(nm : (fn.name == "runtime.NumGoroutine") = false)(l : List T.K)(a : List Ty)(r : List Rk)(g : (tupT a).T → Option (resT r).T)(sc : Sc)
  (hal:Nat.ble a.length fn.ntmps=true) (hden:∀x,denF (T.cx fu fn.ntmps l a) (T.GS.gs.map (·.2)) code fn.results.toList sc a r x=g x):T.K:=
 ⟨k,⟨a,r,fun x=>.one (g x)⟩,⟨fn,code,hf,hb,nm⟩,
  fun_ok (C:=T.cx fu fn.ntmps l a) (gl:=T.GS.gs) hf hb rfl (rs:=fn.results.toList) (by simp) (sc:=sc) (fun x y hy=>(hden x).trans hy) (zaG hal) T.hE (lookX_ok l) (fun q hq=>⟨hq,T.gt q hq⟩) (fun g id h=>gIdx_ok _ _ _ _ h)⟩
theorem aqr{P:Program}{GS:Glo}{k:Nat}{c:Con}(V:(tupT c.a).T→List Value)(R:(resT c.r).T→Value)(hH:∀x,argH c x=[])(hV:∀ρ x,(ata [] c.a x).1.map (SV.v ρ)=(V x).map some)
  (hr:∀x y,(retS c x y).2=[]) (hR:∀ρ x y,(resV (retS c x y).1).v ρ=some (R y)) (h:∀w S x y,GS.p w S→(c.f x).ok y→CR P k (V x) w fun v w2=>v=R y∧Hp w [] [] w2):FOk P GS k c:=by
 intro w S ρ L us x y hG hHp hMt hus hy
 rw [hV]at hus
 have e:V x=us:=(List.map_inj_right (fun a b h=>Option.some.inj h)).1 hus
 subst e
 have hL:L=[]:=zao (by rw [hMt.1,hH];rfl)
 subst hL
 refine Calls.mono (h w S x y hG hy) ?_
 rintro ev w2 ⟨v,he,rfl,hw⟩
 refine⟨_,he,ρ,[],fun _ _=>rfl,hHp.call hw, ?_,hR ρ x y⟩
 rw [hr]
 exact⟨rfl,fun id o ho=>by simp at ho⟩
theorem fok_read{P:Program}{GS:Glo}{k:Nat}{c:Con}{t:Ty}(X:(tupT c.a).T→List t.T)(V:(tupT c.a).T→List Value)(R:(resT c.r).T→Value)(hH:∀x,argH c x=[.ro t (X x)])(hV:∀(ρ:Nat→Ad) x,(ata [] c.a x).1.map (SV.v ρ)=(Value.slice (ρ 0).a (ρ 0).ln (ρ 0).cap::V x).map some)
  (hr:∀x y,(retS c x y).2=[.ro t (X x)]) (hR:∀ρ x y,(resV (retS c x y).1).v ρ=some (R y))
  (h:∀w S x y a n cap,GS.p w S→(c.f x).ok y→n=(X x).length→Rd w a ((X x).flatMap t.enc)→n≤cap→CR P k (Value.slice a n cap::V x) w fun v w2=>v=R y∧Hp w [] [] w2):FOk P GS k c:=by
 intro w S ρ L us x y hG hHp hMt hus hy
 rw [hV]at hus
 have e:=(List.map_inj_right (fun a b h=>Option.some.inj h)).1 hus
 subst e
 rw [hH]at hMt
 obtain⟨h1,r,h2,h3,h4⟩:=hMt.2 0 _ rfl
 have hln:(ρ 0).ln=(X x).length:=h1.symm
 refine Calls.mono (h w S x y _ _ _ hG hy hln h4.1 (by rw [hln];exact h4.2.2)) ?_
 rintro ev w2 ⟨v,he,rfl,hw⟩
 refine⟨_,he,ρ,L,fun _ _=>rfl,hHp.call hw, ?_,hR ρ x y⟩
 rw [hr]
 exact hMt
theorem fok_row{P:Program}{GS:Glo}{k:Nat}{c:Con}{e b:Nat}{t:Ty}(Y:(resT c.r).T→List t.T)(V:(tupT c.a).T→List Value)(hH:∀x,argH c x=[])(hV:∀(ρ:Nat→Ad) x,(ata [] c.a x).1.map (SV.v ρ)=(V x).map some)
  (hr:∀x y,(retS c x y).2=[.rw e b t (Y y)]) (hR:∀(ρ:Nat→Ad) x y,(resV (retS c x y).1).v ρ=some (.slice (ρ 0).a (ρ 0).ln (ρ 0).cap))
  (h:∀w S x y,GS.p w S→(c.f x).ok y→CR P k (V x) w fun v w2=>∃o a cap,v=.slice a (Y y).length cap∧Hp w [] [rwt t.enc e t.sz o a cap (Y y)] w2):FOk P GS k c:=by
 intro w S ρ L us x y hG hHp hMt hus hy
 rw [hV]at hus
 have e:=(List.map_inj_right (fun a b h=>Option.some.inj h)).1 hus
 subst e
 have hL:L=[]:=zao (by rw [hMt.1,hH];rfl)
 subst hL
 refine Calls.mono (h w S x y hG hy) ?_
 rintro ev w2 ⟨v,he,o,a,cap,rfl,hw⟩
 refine⟨_,he,fun id=>⟨o,a,cap,false,(Y y).length⟩,_,(fun i hi=>by rw [hH]at hi;cases hi),hHp.callL hw, ?_,hR _ x y⟩
 rw [hr]
 refine⟨rfl,fun id ob ho=> ?_⟩
 cases id with
 |zero=>cases ho;exact⟨rfl,_,rfl,rfl⟩
 |succ id=>simp at ho
theorem fok_clone{P:Program}{GS:Glo}{k:Nat}{c:Con}{e b:Nat}{t:Ty}(X:(tupT c.a).T→List t.T)(Y:(resT c.r).T→List t.T)(hH:∀x,argH c x=[.ro t (X x)])(hV:∀(ρ:Nat→Ad) x,(ata [] c.a x).1.map (SV.v ρ)=[Value.slice (ρ 0).a (ρ 0).ln (ρ 0).cap].map some)
  (hr:∀x y,(retS c x y).2=[.ro t (X x),.rw e b t (Y y)]) (hR:∀(ρ:Nat→Ad) x y,(resV (retS c x y).1).v ρ=some (.slice (ρ 1).a (ρ 1).ln (ρ 1).cap))
  (h:∀w S x y a n cap,GS.p w S→(c.f x).ok y→n=(X x).length→Rd w a ((X x).flatMap t.enc)→n≤cap→CR P k [Value.slice a n cap] w fun v w2=>∃o a cap,v=.slice a (Y y).length cap∧Hp w [] [rwt t.enc e t.sz o a cap (Y y)] w2):FOk P GS k c:=by
 intro w S ρ L us x y hG hHp hMt hus hy
 rw [hV]at hus
 have e:=(List.map_inj_right (fun a b h=>Option.some.inj h)).1 hus
 subst e
 rw [hH]at hMt
 obtain⟨h1,r,h2,h3,h4⟩:=hMt.2 0 _ rfl
 have hln:(ρ 0).ln=(X x).length:=h1.symm
 refine Calls.mono (h w S x y _ _ _ hG hy hln h4.1 (by rw [hln];exact h4.2.2)) ?_
 rintro ev w2 ⟨v,he,o,a,cap,rfl,hw⟩
 have hp:=(hHp.callL hw).perm (List.perm_append_comm (l₁:=[_]) (l₂:=L))
 have hL1:L.length=1:=hMt.1
 refine⟨_,he,fun id=>if id=0 then ρ 0 else⟨o,a,cap,false,(Y y).length⟩,_,fun i hi=> ?_,hp, ?_,hR _ x y⟩
 ·rw [hH]at hi
  have:i=0:=Nat.lt_one_iff.1 hi
  subst this;rfl
 rw [hr]
 refine⟨by simp [hL1],fun id ob ho=> ?_⟩
 match id,ho with
 |0,ho=>
  cases ho
  exact⟨h1,r,by rw [List.getElem?_append_left (by omega)];exact h2,h3,h4⟩
 |1,ho=>
  cases ho
  exact⟨rfl,_,by rw [List.getElem?_append_right (by omega),hL1];rfl,rfl⟩
 |id+2,ho=>simp at ho
theorem fok_read2{P:Program}{GS:Glo}{k:Nat}{c:Con}{t t2:Ty}(X:(tupT c.a).T→List t.T)(X2:(tupT c.a).T→List t2.T)(R:(resT c.r).T→Value)(hH:∀x,argH c x=[.ro t (X x),.ro t2 (X2 x)])(hV:∀(ρ:Nat→Ad) x,(ata [] c.a x).1.map (SV.v ρ)=[Value.slice (ρ 0).a (ρ 0).ln (ρ 0).cap,Value.slice (ρ 1).a (ρ 1).ln (ρ 1).cap].map some)
  (hr:∀x y,(retS c x y).2=[.ro t (X x),.ro t2 (X2 x)]) (hR:∀ρ x y,(resV (retS c x y).1).v ρ=some (R y))
  (h:∀w S x y a n cap a2 n2 cap2,GS.p w S→(c.f x).ok y→n=(X x).length→Rd w a ((X x).flatMap t.enc)→n≤cap→n2=(X2 x).length→Rd w a2 ((X2 x).flatMap t2.enc)→n2≤cap2→CR P k [Value.slice a n cap,Value.slice a2 n2 cap2] w fun v w2=>v=R y∧Hp w [] [] w2):FOk P GS k c:=by
 intro w S ρ L us x y hG hHp hMt hus hy
 rw [hV]at hus
 have e:=(List.map_inj_right (fun a b h=>Option.some.inj h)).1 hus
 subst e
 rw [hH]at hMt
 obtain⟨h1,r,h2,h3,h4⟩:=hMt.2 0 _ rfl
 obtain⟨g1,r2,g2,g3,g4⟩:=hMt.2 1 _ rfl
 have hln:(ρ 0).ln=(X x).length:=h1.symm
 have gln:(ρ 1).ln=(X2 x).length:=g1.symm
 refine Calls.mono (h w S x y _ _ _ _ _ _ hG hy hln h4.1 (by rw [hln];exact h4.2.2) gln g4.1 (by rw [gln];exact g4.2.2)) ?_
 rintro ev w2 ⟨v,he,rfl,hw⟩
 refine⟨_,he,ρ,L,fun _ _=>rfl,hHp.call hw, ?_,hR ρ x y⟩
 rw [hr]
 exact hMt
theorem fok_use{P:Program}{GS:Glo}{k:Nat}{c:Con}(h:FOk P GS k c)(V:(tupT c.a).T→List Value)(R:(resT c.r).T→Value)(hH:∀x,argH c x=[])(hV:∀ρ x,(ata [] c.a x).1.map (SV.v ρ)=(V x).map some)
  (hR:∀ρ x y,(resV (retS c x y).1).v ρ=some (R y)) {w:World} {x:(tupT c.a).T} {y:(resT c.r).T} (hG:GS.p w []) (hy:(c.f x).ok y):CR P k (V x) w fun v w2=>v=R y∧Hp w [] [] w2:=by
 refine Calls.mono (h w [] (fun _=>⟨none,none,0,false,0⟩) [] (V x) x y hG (Hp.refl w) ?_ (hV _ x) hy) ?_
 ·rw [hH];exact⟨rfl,fun id o ho=>by simp at ho⟩
 ·rintro e w2 ⟨v,he,ρ2,L2,_,h2,_,h4⟩
  rw [hR]at h4
  exact⟨v,he,(Option.some.inj h4).symm,h2.nil⟩
end Go.Oe
set_option maxRecDepth 20000
set_option maxHeartbeats 1000000
namespace Go.Wk
open Go.Px
open Int renaming toNat → zai
open List renaming drop → zaA
open Sum renaming elim → zaD
def aen(fu:Nat)(a0:Int):Option Bool:=
 (((if(0:Int)≤a0 then some (decide (a0<(55296:Int)))else some false)).bind fun(v5:Bool)=>(bif v5 then some true else(((if(57343:Int)<a0 then some (decide (a0≤(1114111:Int)))else some false)).bind fun(a1:Bool)=>(bif a1 then some true else some false))))
def aeo(fu:Nat)(a1:Str)(a2:Nat→Option (Unit⊕Int))(a0:Nat):Option (Unit⊕Int):=
 (if a0<a1.length then(if((Utf8.decode ⟨List.toArray a1⟩ a0).1:Int)=(65533:Int)then some (.inr (a0:Int))else(a2 (a0+(Utf8.decode ⟨List.toArray a1⟩ a0).2)))else some (.inl ()))
def afb(fu:Nat)(a1:Str):Nat→Nat→Option (Unit⊕Int):=fun k_ a0=>loopF (fun(g:Nat→Option (Unit⊕Int)) v=>aeo fu a1 (fun a0=>g a0) v) k_ a0
theorem akk{fu:Nat}{a0:Str}{k_:Nat}{a1:Nat}:afb fu a0 (k_+1) a1=aeo fu a0 (afb fu a0 k_) a1:=rfl
def alo(fu:Nat)(a3:Str)(a1:Int)(a2:Int)(a4:Int→Option Int)(a0:Int):Option Int:=
 (if a0<(((Utf8.encode a1).data.toList).length:Int)then(gd (aap (a2-a0))<|(gd (0≤(a2-a0)∧(a2-a0)<(a3.length:Int))<|(gd (aap (((((Utf8.encode a1).data.toList).length:Int)-(1:Int))-a0))<|(gd (0≤(((((Utf8.encode a1).data.toList).length:Int)-(1:Int))-a0)∧(((((Utf8.encode a1).data.toList).length:Int)-(1:Int))-a0)<(((Utf8.encode a1).data.toList).length:Int))<|(if(at_ a3 (a2-a0))=(at_ ((Utf8.encode a1).data.toList) (((((Utf8.encode a1).data.toList).length:Int)-(1:Int))-a0))then(gd (aap (a0+(1:Int)))<|(a4 (a0+(1:Int))))else none)))))else(gd (aap (a2-((((Utf8.encode a1).data.toList).length:Int)-(1:Int))))<|some (a2-((((Utf8.encode a1).data.toList).length:Int)-(1:Int)))))
def ahl(fu:Nat)(a1:Str)(a2:Int)(a3:Int):Nat→Int→Option Int:=fun k_ a0=>loopF (fun(g:Int→Option Int) v=>alo fu a1 a2 a3 (fun a0=>g a0) v) k_ a0
theorem axu{fu:Nat}{a0:Str}{a1:Int}{a2:Int}{k_:Nat}{a3:Int}:ahl fu a0 a1 a2 (k_+1) a3=alo fu a0 a1 a2 (ahl fu a0 a1 a2 k_) a3:=rfl
def agp(fu:Nat)(a1:Str)(a0:Int)(a4:Option Int):Option Int:=
 (if((((Utf8.encode a0).data.toList).length:Int)-(1:Int))<(a1.length:Int)then(((gd (0≤((((Utf8.encode a0).data.toList).length:Int)-(1:Int))∧((((Utf8.encode a0).data.toList).length:Int)-(1:Int))<(a1.length:Int))<|(gd (0≤((((Utf8.encode a0).data.toList).length:Int)-(1:Int))∧((((Utf8.encode a0).data.toList).length:Int)-(1:Int))<(((Utf8.encode a0).data.toList).length:Int))<|(if(at_ a1 ((((Utf8.encode a0).data.toList).length:Int)-(1:Int)))=(at_ ((Utf8.encode a0).data.toList) ((((Utf8.encode a0).data.toList).length:Int)-(1:Int)))then some (.inl ((((Utf8.encode a0).data.toList).length:Int)-(1:Int)))else(gd (aap (((((Utf8.encode a0).data.toList).length:Int)-(1:Int))+(1:Int)))<|(gd (0≤(((((Utf8.encode a0).data.toList).length:Int)-(1:Int))+(1:Int))∧(((((Utf8.encode a0).data.toList).length:Int)-(1:Int))+(1:Int))≤(a1.length:Int))<|(gd (0≤((((Utf8.encode a0).data.toList).length:Int)-(1:Int))∧((((Utf8.encode a0).data.toList).length:Int)-(1:Int))<(((Utf8.encode a0).data.toList).length:Int))<|(if(ixb (·==(at_ ((Utf8.encode a0).data.toList) ((((Utf8.encode a0).data.toList).length:Int)-(1:Int)))) (zaA (zai (((((Utf8.encode a0).data.toList).length:Int)-(1:Int))+(1:Int))) a1))<(0:Int)then some (.inr (-1:Int))else(gd (aap ((ixb (·==(at_ ((Utf8.encode a0).data.toList) ((((Utf8.encode a0).data.toList).length:Int)-(1:Int)))) (zaA (zai (((((Utf8.encode a0).data.toList).length:Int)-(1:Int))+(1:Int))) a1))+(1:Int)))<|(gd (aap (((((Utf8.encode a0).data.toList).length:Int)-(1:Int))+((ixb (·==(at_ ((Utf8.encode a0).data.toList) ((((Utf8.encode a0).data.toList).length:Int)-(1:Int)))) (zaA (zai (((((Utf8.encode a0).data.toList).length:Int)-(1:Int))+(1:Int))) a1))+(1:Int))))<|some (.inl (((((Utf8.encode a0).data.toList).length:Int)-(1:Int))+((ixb (·==(at_ ((Utf8.encode a0).data.toList) ((((Utf8.encode a0).data.toList).length:Int)-(1:Int)))) (zaA (zai (((((Utf8.encode a0).data.toList).length:Int)-(1:Int))+(1:Int))) a1))+(1:Int)))))))))))))).bind fun(a2:(Int⊕Int))=>zaD (fun(a3:Int)=>(ahl fu a1 a0 a3 fu (1:Int))) (fun q=>some q) a2)else some (-1:Int))
def afa(fu:Nat)(a0:Str)(a1:Int):Nat→Option Int:=fun k_=>loopF (fun(g:Unit→Option Int) v=>agp fu a0 a1 (g ())) k_ ()
theorem aqg{fu:Nat}{a0:Str}{a1:Int}{k_:Nat}:afa fu a0 a1 (k_+1)=agp fu a0 a1 (afa fu a0 a1 k_):=rfl
def adg(fu:Nat)(a1:Str)(a0:Int):Option Int:=
 (((if(0:Int)≤a0 then some (decide (a0<(128:Int)))else some false)).bind fun(v5:Bool)=>(bif v5 then some (ixb (·==(u8i a0)) a1)else(if a0=(65533:Int)then(((afb fu a1 fu 0)).bind fun(a2:(Unit⊕Int))=>zaD (fun(a4:Unit)=>some (-1:Int)) (fun q=>some q) a2)else((aen fu a0).bind fun(a3:Bool)=>(bif (!a3)then some (-1:Int)else(gd (aap ((((Utf8.encode a0).data.toList).length:Int)-(1:Int)))<|(afa fu a1 a0 fu)))))))
def aez(fu:Nat)(a0:Int):Option Bool:=
 some (decide ((8:Int)<a0))
def adm(fu:Nat)(a1:Str)(a2:Str)(a3:Nat→Option (Unit⊕Int))(a0:Nat):Option (Unit⊕Int):=
 (if a0<a1.length then((adg fu a2 ((Utf8.decode ⟨List.toArray a1⟩ a0).1:Int)).bind fun(a4:Int)=>(if(0:Int)≤a4 then some (.inr (a0:Int))else(a3 (a0+(Utf8.decode ⟨List.toArray a1⟩ a0).2))))else some (.inl ()))
def afu(fu:Nat)(a1:Str)(a2:Str):Nat→Nat→Option (Unit⊕Int):=fun k_ a0=>loopF (fun(g:Nat→Option (Unit⊕Int)) v=>adm fu a1 a2 (fun a0=>g a0) v) k_ a0
theorem agq{fu:Nat}{a0:Str}{a1:Str}{k_:Nat}{a2:Nat}:afu fu a0 a1 (k_+1) a2=adm fu a0 a1 (afu fu a0 a1 k_) a2:=rfl
def anm(fu:Nat)(a1:Str)(a0:Str):Option Int:=
 (if a0=([]:Str)then some (-1:Int)else(if(a0.length:Int)=(1:Int)then(gd (0≤(0:Int)∧(0:Int)<(a0.length:Int))<|(((if(128:Int)≤((at_ a0 (0:Int)).toNat:Int)then some (65533:Int)else some ((at_ a0 (0:Int)).toNat:Int))).bind fun(v8:Int)=>((adg fu a1 v8).bind fun(a2:Int)=>some a2)))else((((aez fu (a1.length:Int)).bind fun(a3:Bool)=>(bif a3 then none else some ()))).bind fun(a5:Unit)=>(((afu fu a1 a0 fu 0)).bind fun(a4:(Unit⊕Int))=>zaD (fun(a6:Unit)=>some (-1:Int)) (fun q=>some q) a4))))
end Go.Wk
namespace Go.Px
open Go.Wk
theorem get_at(l:List UInt8)(k:Nat)(h:k<l.length):(⟨l.toArray⟩:ByteArray).get! k=at_ l (k:Int):=by
 show l.toArray[k]! =_
 simp [at_,h]
theorem dec_ascii(l:List UInt8)(k:Nat)(h:k<l.length)(h1:(at_ l (k:Int)).toNat<128):Utf8.decode ⟨l.toArray⟩ k=((at_ l (k:Int)).toNat,1):=by
 unfold Utf8.decode
 simp only [Nat.add_zero,get_at l k h]
 rw [if_pos (by omega)]
theorem dec_high(l:List UInt8)(k:Nat)(h:k<l.length)(h1:¬(at_ l (k:Int)).toNat<128):
  128≤(Utf8.decode ⟨l.toArray⟩ k).1∧1≤(Utf8.decode ⟨l.toArray⟩ k).2∧k+(Utf8.decode ⟨l.toArray⟩ k).2≤l.length∧
  ∀j:Nat,k≤j→j<k+(Utf8.decode ⟨l.toArray⟩ k).2→128≤(at_ l (j:Int)).toNat:=by
 have hsz:(⟨l.toArray⟩:ByteArray).size=l.length:=rfl
 have hone:∀c:Nat,128≤c→128≤((c,1):Nat×Nat).1∧1≤((c,1):Nat×Nat).2∧k+((c,1):Nat×Nat).2≤l.length∧∀j:Nat,k≤j→j<k+((c,1):Nat×Nat).2→128≤(at_ l (j:Int)).toNat:=
  fun c hc=>⟨hc,Nat.le_refl _,by simp;omega,fun j h2 h3=>by
   have:j=k:=by simp at h3;omega
   subst this;omega⟩
 have cont:∀i:Nat,(decide (k+i<l.length)&&((⟨l.toArray⟩:ByteArray).get! (k+i)).toNat/64==2)=true→k+i<l.length∧128≤(at_ l ((k+i:Nat):Int)).toNat:=by
  intro i hi
  simp only [Bool.and_eq_true,decide_eq_true_eq,beq_iff_eq]at hi
  rw [get_at l (k+i) hi.1]at hi
  omega
 have hre:128≤Utf8.runeError:=by decide
 have hk0:128≤(at_ l (k:Int)).toNat:=by omega
 unfold Utf8.decode
 simp only [Nat.add_zero,get_at l k h,hsz]
 rw [if_neg (by omega)]
 split
 ·rename_i h2
  simp only [Bool.and_eq_true]at h2
  have c1:=cont 1 (by simpa using h2.2)
  split
  ·rename_i h3
   refine⟨by simpa using h3,by simp,by simp;omega,fun j h4 h5=> ?_⟩
   have:j=k∨j=k+1:=by simp at h5;omega
   rcases this with rfl|rfl
   ·exact hk0
   ·exact c1.2
  ·exact hone _ hre
 split
 ·rename_i h2
  simp only [Bool.and_eq_true]at h2
  have c1:=cont 1 (by simpa using h2.1.2)
  have c2:=cont 2 (by simpa using h2.2)
  split
  ·rename_i h3
   simp only [Bool.and_eq_true,decide_eq_true_eq]at h3
   refine⟨by have:=h3.1;simp only [ge_iff_le]at this⊢;omega,by simp,by simp;omega,fun j h4 h5=> ?_⟩
   have:j=k∨j=k+1∨j=k+2:=by simp at h5;omega
   rcases this with rfl|rfl|rfl
   ·exact hk0
   ·exact c1.2
   ·exact c2.2
  ·exact hone _ hre
 split
 ·rename_i h2
  simp only [Bool.and_eq_true]at h2
  have c1:=cont 1 (by simpa using h2.1.1.2)
  have c2:=cont 2 (by simpa using h2.1.2)
  have c3:=cont 3 (by simpa using h2.2)
  split
  ·rename_i h3
   simp only [Bool.and_eq_true,decide_eq_true_eq]at h3
   refine⟨by have:=h3.1;simp only [ge_iff_le]at this⊢;omega,by simp,by simp;omega,fun j h4 h5=> ?_⟩
   have:j=k∨j=k+1∨j=k+2∨j=k+3:=by simp at h5;omega
   rcases this with rfl|rfl|rfl|rfl
   ·exact hk0
   ·exact c1.2
   ·exact c2.2
   ·exact c3.2
  ·exact hone _ hre
 ·exact hone _ hre
def encL(r:Int):List UInt8:=(Utf8.encode r).data.toList
theorem encL_high(r:Int)(h:128≤r):2≤(encL r).length∧(encL r).length≤4∧128≤(at_ (encL r) ((encL r).length-1:Int)).toNat:=by
 have hv:∀n:Nat,128≤(UInt8.ofNat (128+n%64)).toNat:=by
  intro n
  rw [UInt8.toNat_ofNat']
  omega
 unfold encL Utf8.encode
 have hc:128≤(if Utf8.valid r=true then r.toNat else Utf8.runeError):=by
  split
  ·omega
  ·decide
 generalize(if Utf8.valid r=true then r.toNat else Utf8.runeError)=c at hc
 simp only
 rw [if_neg (by omega)]
 split
 ·exact⟨by simp,by simp,hv c⟩
 split
 ·exact⟨by simp,by simp,hv c⟩
 ·exact⟨by simp,by simp,hv c⟩
end Go.Px
set_option maxRecDepth 100000
namespace Go.Wk
open Go.Px
open Int renaming toNat → zai
open List renaming drop_eq_nil_of_le → zaI, length_append → zab, length_cons → zac, length_nil → zal, length_singleton → zad, nil_append → zaH, set → zbj
open Nat renaming add_assoc → zaN, add_comm → zaV
open Option renaming bind_some → zaa
def FU:Nat:=18446744073709551616
theorem adq:FU=18446744073709551616:=rfl
theorem ayp(p:Str)(c:UInt8)(l:Str):at_ (p++c::l) (p.length:Int)=c:=by simp [at_]
theorem set_mid(p:Str)(c x:UInt8)(l:Str):zbj (p++c::l) (zai (p.length:Int)) x=(p++[x])++l:=by simp
theorem aqp(p:Str)(x:UInt8):((p.length:Int)+1)=((p++[x]).length:Int):=by simp
theorem abb(a:Int)(h0:0≤a)(h:a≤9223372036854775807):aap a:=⟨by omega,by omega⟩
theorem char_token(fu:Nat)(c:UInt8):anv fu c=some (aaq c):=by
 show anv 0 c=_
 revert c;exact aaz _ (by decide+kernel)
theorem ref_char_token:∀c:UInt8,apj FU c=some (aaq c):=aaz _ (by decide+kernel)
theorem tokEnd_lp{fu:Nat}(s:Str)(hs:s.length≤9223372036854775807)(n:Nat):∀(k fk:Nat),k+n=s.length→n<fk→
  ada fu s fk (k:Int)=some ((k+alj aaq (s.drop k):Nat):Int):=by
 induction n with
 |zero=>
  intro k fk hk hf
  obtain⟨fk,rfl⟩:=fkx fk
  rw [aiu,acy,if_neg omg,zaI omg]
  simp [alj]
 |succ n ih=>
  intro k fk hk hf
  obtain⟨fk,rfl⟩:=fkx fk
  rw [aiu,acy,if_pos omg,aaa omg,char_token,aln s k omg]
  simp only [zaa]
  cases h:aaq (at_ s k)
  ·simp [alj,h]
  ·rw [cond_true]
   rw [aaa (abb _ omg omg)]
   have e:((k:Int)+1)=((k+1:Nat):Int):=rfl
   rw [e,ih (k+1) fk omg omg]
   have e2:alj aaq (at_ s k::s.drop (k+1))=1+alj aaq (s.drop (k+1)):=by simp [alj,h,zaV]
   rw [e2,zaN]
theorem refTokEnd_lp{fu:Nat}(hc:∀c,apj fu c=some (aaq c))(s:Str)(hs:s.length≤9223372036854775807)(n:Nat):∀(k fk:Nat),k+n=s.length→n<fk→
  alc fu s fk (k:Int)=some ((k+alj aaq (s.drop k):Nat):Int):=by
 induction n with
 |zero=>
  intro k fk hk hf
  obtain⟨fk,rfl⟩:=fkx fk
  rw [atb,ajx,if_neg omg,zaI omg]
  simp [alj]
 |succ n ih=>
  intro k fk hk hf
  obtain⟨fk,rfl⟩:=fkx fk
  rw [atb,ajx,if_pos omg,aaa omg,hc,aln s k omg]
  simp only [zaa]
  cases h:aaq (at_ s k)
  ·simp [alj,h]
  ·rw [cond_true]
   rw [aaa (abb _ omg omg)]
   have e:((k:Int)+1)=((k+1:Nat):Int):=rfl
   rw [e,ih (k+1) fk omg omg]
   have e2:alj aaq (at_ s k::s.drop (k+1))=1+alj aaq (s.drop (k+1)):=by simp [alj,h,zaV]
   rw [e2,zaN]
theorem skipTok_eq(s:Str)(hs:s.length≤9223372036854775807)(i:Int):aed FU s i=some ((aai aaq s i:Nat):Int):=by
 unfold aed aai
 have h:min (max i 0) (s.length:Int)=((anj i s.length:Nat):Int):=by unfold anj;omega
 have:=clampN_le i s.length
 rw [h,tokEnd_lp s hs (s.length-anj i s.length) _ FU omg (by rw [adq];omega)]
 rfl
theorem aty(s:Str)(hs:s.length≤9223372036854775807)(i:Int):afn FU s i=some ((aai aaq s i:Nat):Int):=by
 unfold afn aai
 have h:min (max i 0) (s.length:Int)=((anj i s.length:Nat):Int):=by unfold anj;omega
 have:=clampN_le i s.length
 rw [h,refTokEnd_lp ref_char_token s hs (s.length-anj i s.length) _ FU omg (by rw [adq];omega)]
 rfl
theorem mid_lt(p:Str)(c:UInt8)(l:Str):(0:Int)≤(p.length:Int)∧(p.length:Int)<((p++c::l).length:Int):=by
 rw [zab,zac];omega
theorem lowerB_up(c:UInt8)(h1:65≤c)(h2:c≤90):c+32=aft c:=by simp [aft,h1,h2]
theorem aua(c:UInt8)(h:¬(65≤c∧c≤90)):aft c=c:=by simp only [aft,if_neg h]
theorem refLower_lp{fu:Nat}(s:Str)(hs:s.length≤9223372036854775807)(l:Str):∀(p:Str) (fk:Nat),p.length+l.length=s.length→l.length<fk→
  apg fu s fk (p++l) (p.length:Int)=some (p++l.map aft):=by
 induction l with
 |nil=>
  intro p fk hk hf
  obtain⟨fk,rfl⟩:=fkx fk
  simp only [zal]at hk
  rw [awq,ant,if_neg omg];rfl
 |cons c l ih0=>
  intro p fk hk hf
  obtain⟨fk,rfl⟩:=fkx fk
  simp only [zac]at hk hf
  have hb:=mid_lt p c l
  have ih:=ih0 (p++[aft c]) fk (by rw [zab,zad];omega) omg
  have ok:aap ((p.length:Int)+1):=abb _ omg omg
  rw [awq,ant,if_pos omg]
  simp only [aaa hb,ayp,aaa ok,set_mid]
  by_cases h1:65≤c
  ·by_cases h2:c≤90
   ·simp only [if_pos h1,decide_eq_true h2,zaa,cond_true,lowerB_up c h1 h2]
    rw [aqp p (aft c),ih];simp
   ·simp only [if_pos h1,decide_eq_false h2,zaa,cond_false]
    rw [aua c (fun h=>h2 h.2)]at ih
    rw [aqp p c,show p++c::l=(p++[c])++l by simp,ih];simp [aua c (fun h=>h2 h.2)]
  ·simp only [if_neg h1,zaa,cond_false]
   rw [aua c (fun h=>h1 h.1)]at ih
   rw [aqp p c,show p++c::l=(p++[c])++l by simp,ih];simp [aua c (fun h=>h1 h.1)]
theorem afy(s:Str)(hs:s.length≤9223372036854775807):aec FU s=some (aab s):=by
 unfold aec
 have:=refLower_lp (fu:=FU) s hs s [] FU (by simp) (by rw [adq];omega)
 simp only [zaH,zal,Int.natCast_zero,Int.cast_ofNat_Int]at this
 rw [this];rfl
open Bool renaming and_eq_true → zas, not_true → zap
open Go.Lib renaming trimLeftS → zaS
open List renaming all_cons → zaT, cons_append → zaU, drop_drop → zbo, drop_length → zbl, length_cons → zac, length_drop → zaj
open Nat renaming add_assoc → zaN, add_comm → zaV, le_refl → zam, le_trans → zaM
open Sum renaming elim → zaD, elim_inl → zaz, elim_inr → zaR
theorem gok{α:Type}{p:Prop}[Decidable p]{k:Option α}(h:p:=by first|omega|exact abb _ omg omg|(simp only [List.length_append,List.length_cons,List.length_nil,List.length_singleton];omega)):gd p k=k:=aaa h
theorem abl(k:Nat):(k:Int)+1=((k+1:Nat):Int):=rfl
theorem skip_gen(p:UInt8→Bool)(s:Str)(F:Nat→Int→Option Int)
  (h0:∀fk,F (fk+1) (s.length:Int)=some (s.length:Int))
  (h1:∀fk (k:Nat),k<s.length→p (at_ s k)=false→F (fk+1) (k:Int)=some (k:Int))
  (h2:∀fk (k:Nat),k<s.length→p (at_ s k)=true→F (fk+1) (k:Int)=F fk ((k:Int)+1)) (n:Nat):
  ∀(k fk:Nat),k+n=s.length→n<fk→F fk (k:Int)=some ((k+alj p (s.drop k):Nat):Int):=by
 induction n with
 |zero=>
  intro k fk hk hf
  obtain⟨fk,rfl⟩:=fkx fk
  obtain rfl:k=s.length:=by omega
  rw [h0,zbl];rfl
 |succ n ih=>
  intro k fk hk hf
  obtain⟨fk,rfl⟩:=fkx fk
  rw [aln s k omg]
  cases h:p (at_ s k)
  ·rw [h1 fk k omg h];simp [alj,h]
  ·rw [h2 fk k omg h,abl,ih (k+1) fk omg omg]
   have e2:alj p (at_ s k::s.drop (k+1))=1+alj p (s.drop (k+1)):=by simp [alj,h,zaV]
   rw [e2,zaN]
theorem clamp_int(i:Int)(n:Nat):min (max i 0) (n:Int)=((anj i n:Nat):Int):=by unfold anj;omega
theorem span_app(p:UInt8→Bool):∀(a b:Str),a.all p=true→alj p (a++b)=a.length+alj p b
 |[],b,_=>by simp
 |c::a,b,h=>by
  rw [zaT,zas]at h
  rw [zaU,alj,if_pos h.1,span_app p a b h.2,zac];omega
theorem span_no(p:UInt8→Bool)(c:UInt8)(l:Str)(h:p c=false):alj p (c::l)=0:=by rw [alj,if_neg (by simp [h])]
theorem char_blank(fu:Nat)(c:UInt8):ajz fu c=some (aae c):=by
 show ajz 0 c=_
 revert c;exact aaz _ (by decide+kernel)
theorem ref_blank(fu:Nat)(c:UInt8):amq fu c=some (aae c):=by
 show amq 0 c=_
 revert c;exact aaz _ (by decide+kernel)
theorem char_control(fu:Nat)(c:UInt8):ahd fu c=some (abf c):=by
 show ahd 0 c=_
 revert c;exact aaz _ (by decide+kernel)
theorem azb(fu:Nat)(c:UInt8):alu fu c=some (abf c):=by
 show alu 0 c=_
 revert c;exact aaz _ (by decide+kernel)
theorem char_escaped(fu:Nat)(c:UInt8):ald fu c=some (asi c):=by
 show ald 0 c=_
 revert c;exact aaz _ (by decide+kernel)
theorem blanks_eq(s:Str)(hs:s.length≤4194304)(i:Int):akp FU s i=some ((aai aae s i:Nat):Int):=by
 unfold akp agy
 have hc:=clampN_le i s.length
 rw [clamp_int,skip_gen aae s (adb FU s) ?_ ?_ ?_ (s.length-anj i s.length) _ FU omg (by rw [adq];omega)]
 ·rfl
 ·intro fk;rw [aeh,abz,if_neg omg];rfl
 ·intro fk k hk h;rw [aeh,abz,if_pos omg,gok,char_blank,h];rfl
 ·intro fk k hk h;rw [aeh,abz,if_pos omg,gok,char_blank,h,zaa,zaa,cond_true,gok]
theorem ajj(s:Str)(hs:s.length≤4194304)(i:Int):adk FU s i=some ((aai aae s i:Nat):Int):=by
 unfold adk
 have hc:=clampN_le i s.length
 rw [clamp_int,skip_gen aae s (anu FU s) ?_ ?_ ?_ (s.length-anj i s.length) _ FU omg (by rw [adq];omega)]
 ·rfl
 ·intro fk;rw [apw,ait,if_neg omg];rfl
 ·intro fk k hk h;rw [apw,ait,if_pos omg,gok,ref_blank,h];rfl
 ·intro fk k hk h;rw [apw,ait,if_pos omg,gok,ref_blank,h,zaa,zaa,cond_true,gok]
def rdw(p:UInt8→Bool)(l:Str):Str:=(l.reverse.dropWhile p).reverse
theorem rdw_cons(p:UInt8→Bool)(c:UInt8)(l:Str):rdw p (c::l)=if rdw p l=[]then(if p c then []else [c])else c::rdw p l:=by
 unfold rdw
 rw [List.reverse_cons,List.dropWhile_append]
 cases h:l.reverse.dropWhile p with
 |nil=>cases hp:p c<;>simp [hp]
 |cons a t=>simp
theorem rdw_snoc(p:UInt8→Bool)(l:Str)(c:UInt8):rdw p (l++[c])=if p c then rdw p l else l++[c]:=by
 unfold rdw
 rw [List.reverse_append,List.reverse_singleton,List.singleton_append,List.dropWhile_cons]
 split<;>simp
theorem rdw_comm(p:UInt8→Bool):∀l:Str,(rdw p l).dropWhile p=rdw p (l.dropWhile p)
 |[]=>rfl
 |c::l=>by
  have ih:=rdw_comm p l
  cases hp:p c
  ·have e:List.dropWhile p (c::l)=c::l:=by simp [hp]
   rw [e,rdw_cons]
   split<;>simp [hp]
  ·have e:List.dropWhile p (c::l)=l.dropWhile p:=by simp [hp]
   rw [e,←ih,rdw_cons]
   split
   ·rename_i h;simp [h,hp]
   ·simp [hp]
def ahu(s:Str):Str:=rdw aae (s.dropWhile aae)
theorem blank_set:(fun c=>([32,9]:Str).contains c)=aae:=by
 funext c;revert c;exact aaz _ (by decide+kernel)
theorem trimS_eq(s:Str):Lib.trimS s [32,9]=ahu s:=by
 unfold Lib.trimS zaS Lib.trimRightS ahu
 rw [blank_set];exact rdw_comm aae s
theorem trim_eq(s:Str)(hs:s.length≤4194304):akb FU s=some (ahu s):=by
 unfold akb
 rw [gok,aaa (by decide),trimS_eq]
theorem dropWhile_span(p:UInt8→Bool):∀l:Str,l.drop (alj p l)=l.dropWhile p
 |[]=>rfl
 |c::l=>by
  have ih:=dropWhile_span p l
  cases hp:p c
  ·simp [alj,hp]
  ·simp [alj,hp,ih]
theorem skipL_zero(p:UInt8→Bool)(s:Str):aai p s 0=alj p s:=by
 have h0:anj 0 s.length=0:=by unfold anj;omega
 unfold aai;rw [h0];simp
theorem refTrim_lp(s:Str)(y:Int)(hs:(s.drop y.toNat).length≤4194304)(n:Nat):∀fk,n≤(s.drop y.toNat).length→n<fk→
  ∃m:Nat,m≤n∧aqw FU s y fk (n:Int)=some (m:Int)∧(s.drop y.toNat).take m=rdw aae ((s.drop y.toNat).take n):=by
 induction n with
 |zero=>
  intro fk hn hf
  obtain⟨fk,rfl⟩:=fkx fk
  exact⟨0,zam _,by rw [axk,api,if_neg omg];rfl,rfl⟩
 |succ n ih=>
  intro fk hn hf
  obtain⟨fk,rfl⟩:=fkx fk
  have e:(((n+1:Nat):Int)-1)=(n:Int):=by omega
  rw [axk,api,if_pos omg,e,gok,gok,ref_blank,gok,take_snoc _ n omg,rdw_snoc]
  cases h:aae (at_ (s.drop y.toNat) (n:Int))
  ·exact⟨n+1,zam _,rfl,by simp [take_snoc _ n (show n<(s.drop y.toNat).length by omega)]⟩
  ·obtain⟨m,h1,h2,h3⟩:=ih fk omg omg
   exact⟨m,by omega,h2,by simpa using h3⟩
theorem refTrim_eq(s:Str)(hs:s.length≤4194304):aug FU s=some (ahu s):=by
 unfold aug
 have hl:=abg aae s 0
 have hd:(s.drop (((aai aae s 0:Nat):Int)).toNat).length≤4194304:=by rw [zaj];omega
 obtain⟨m,h1,h2,h3⟩:=refTrim_lp s _ hd _ FU (zam _) (by rw [adq];omega)
 rw [ajj s hs,zaa,gok,h2,zaa,gok]
 have e:((m:Nat):Int).toNat=m:=by omega
 rw [e,h3,List.take_length]
 have e2:(((aai aae s 0:Nat):Int)).toNat=alj aae s:=by rw [skipL_zero];omega
 rw [e2,dropWhile_span];rfl
theorem rdw_len(p:UInt8→Bool)(l:Str):(rdw p l).length≤l.length:=by
 unfold rdw;have:=azp p l.reverse;simpa using this
theorem trimL_len(s:Str):(ahu s).length≤s.length:=zaM (rdw_len _ _) (azp _ _)
def unqL:Str→Nat→Str→Str×Int×UInt8
 |[],k,_=>([],(k:Int),6)
 |[c],k,acc=>if c=34 then(acc,((k+1:Nat):Int),0)else if c=92 then([],((k+1:Nat):Int),6)else if abf c then([],(k:Int),5)else([],((k+1:Nat):Int),6)
 |c::d::r,k,acc=>
  if c=34 then(acc,((k+1:Nat):Int),0)
  else if c=92 then(if asi d then unqL r (k+2) (acc++[d])else([],(k:Int),5))
  else if abf c then([],(k:Int),5)else unqL (d::r) (k+1) (acc++[c])
theorem unqL_cons(c:UInt8)(l:Str)(k:Nat)(acc:Str):unqL (c::l) k acc=
  if c=34 then(acc,((k+1:Nat):Int),0)
  else if c=92 then(if l=[]then([],((k+1:Nat):Int),6)else if asi (at_ l 0)then unqL (l.drop 1) (k+2) (acc++[at_ l 0])else([],(k:Int),5))
  else if abf c then([],(k:Int),5)else unqL l (k+1) (acc++[c]):=by
 cases l with
 |nil=>simp [unqL]
 |cons d r=>simp [unqL,at_]
def ara(s:Str)(i:Int):Str×Int×UInt8:=
 if i<0∨(s.length:Int)<i then([],0,2)
 else if i=(s.length:Int)∨at_ s i≠34 then([],i,5)
 else unqL (s.drop (i.toNat+1)) (i.toNat+1) []
theorem at_drop1(s:Str)(k:Nat):at_ (s.drop k) 0=at_ s (k:Int):=by simp [at_]
theorem axd(s:Str)(k:Nat):s.drop k=[]↔s.length≤k:=by rw [List.drop_eq_nil_iff]
def unqFin(s:Str)(j:((Str×Int)⊕(Str×Int×UInt8))):Option (Str×Int×UInt8):=
 zaD (fun(v:(Str×Int))=>(if(s.length:Int)≤v.2 then some (([]:Str),(s.length:Int),(6:UInt8))else(gd (aap (v.2+(1:Int)))<|some (v.1,v.2+(1:Int),(0:UInt8))))) (fun q=>some q) j
theorem unq_lp(s:Str)(hs:s.length≤4194304)(n:Nat):∀(k fk:Nat) (acc:Str),s.length-k≤n→n<fk→k≤s.length→acc.length≤k→
  ((amr FU s fk acc (k:Int)).bind (unqFin s))=some (unqL (s.drop k) k acc):=by
 induction n with
 |zero=>
  intro k fk acc hn hf hk ha
  obtain⟨fk,rfl⟩:=fkx fk
  obtain rfl:k=s.length:=by omega
  rw [aoo,ahe,if_neg omg,zbl,zaa]
  unfold unqFin
  rw [zaz,if_pos (by simp)];rfl
 |succ n ih=>
  intro k fk acc hn hf hk ha
  obtain⟨fk,rfl⟩:=fkx fk
  by_cases hl:k<s.length
  ·rw [aln s k hl,unqL_cons,aoo,ahe,if_pos omg,gok]
   by_cases h1:at_ s (k:Int)=34
   ·rw [if_pos h1,if_pos h1,zaa]
    unfold unqFin
    rw [zaz,if_neg (by simp;omega),aaa (abb _ (by simp;omega) (by simp;omega))];rfl
   ·rw [if_neg h1,if_neg h1]
    by_cases h2:at_ s (k:Int)=92
    ·rw [if_pos h2,if_pos h2,gok]
     by_cases h3:k+1=s.length
     ·rw [if_pos omg,if_pos ((axd s (k+1)).2 omg),zaa]
      unfold unqFin
      rw [zaR,h3]
     ·rw [if_neg omg,if_neg (fun h=>h3 (by have:=(axd s (k+1)).1 h;omega)),gok,gok,char_escaped,zaa,at_drop1,abl]
      cases h4:asi (at_ s ((k+1:Nat):Int))
      ·rfl
      ·rw [zap,cond_false,if_pos rfl,gok,gok,gok,gok,zbo,abl,
        ih (k+1+1) fk _ omg omg omg (by simp;omega)]
    ·rw [if_neg h2,if_neg h2,char_control,zaa]
     cases h4:abf (at_ s (k:Int))
     ·rw [cond_false,if_neg (by decide),gok,gok,gok,abl,ih (k+1) fk _ omg omg omg (by simp;omega)]
     ·rfl
  ·obtain rfl:k=s.length:=by omega
   rw [aoo,ahe,if_neg omg,zbl,zaa]
   unfold unqFin
   rw [zaz,if_pos (by simp)];rfl
theorem unquote_eq(s:Str)(hs:s.length≤4194304)(i:Int):aop FU s i=some (ara s i):=by
 unfold aop ara
 by_cases h1:i<0
 ·rw [if_pos h1,if_pos (show i<0∨(s.length:Int)<i from .inl h1)];rfl
 ·rw [if_neg h1,zaa]
  by_cases h2:(s.length:Int)<i
  ·rw [decide_eq_true h2,if_pos (show i<0∨(s.length:Int)<i from .inr h2)];rfl
  ·rw [decide_eq_false h2,cond_false,if_neg (show¬(i<0∨(s.length:Int)<i)by omega)]
   by_cases h3:i=(s.length:Int)
   ·rw [if_pos h3,if_pos (show i=(s.length:Int)∨at_ s i≠34 from .inl h3)];rfl
   ·rw [if_neg h3,gok,zaa]
    by_cases h4:at_ s i=34
    ·rw [decide_eq_true h4,zap,cond_false,if_neg (by simp [h3,h4]),gok]
     obtain⟨k,rfl⟩:∃k:Nat,i=(k:Int):=⟨i.toNat,by omega⟩
     exact unq_lp s hs s.length (k+1) FU [] omg (by rw [adq];omega) omg (by simp)
    ·rw [decide_eq_false h4,if_pos (show i=(s.length:Int)∨at_ s i≠34 from .inr h4)];rfl
open Bool renaming not_true → zap
open Go.Lib renaming join → zar, trimLeftS → zaS
open List renaming all_cons → zaT, append_nil → zan, cons_append → zaU, drop_length → zbl, drop_zero → zbt, eq_nil_of_length_eq_zero → zao, length → zaZ, length_append → zab, length_cons → zac, length_drop → zaj, length_map → zaF, length_nil → zal, length_singleton → zad, map_append → zbg, map_cons → zaE, nil_append → zaH
open Nat renaming le_refl → zam, le_trans → zaM
open Sum renaming elim_inl → zaz
theorem all_gen{β:Type}(p:UInt8→Bool)(s:Str)(r:β)(F:Nat→Int→Option (Unit⊕β))
  (h0:∀fk,F (fk+1) (s.length:Int)=some (.inl ()))
  (h1:∀fk (k:Nat),k<s.length→p (at_ s k)=false→F (fk+1) (k:Int)=some (.inr r))
  (h2:∀fk (k:Nat),k<s.length→p (at_ s k)=true→F (fk+1) (k:Int)=F fk ((k:Int)+1)) (n:Nat):
  ∀(k fk:Nat),k+n=s.length→n<fk→F fk (k:Int)=some (if(s.drop k).all p=true then .inl ()else .inr r):=by
 induction n with
 |zero=>
  intro k fk hk hf
  obtain⟨fk,rfl⟩:=fkx fk
  obtain rfl:k=s.length:=by omega
  rw [h0,zbl];rfl
 |succ n ih=>
  intro k fk hk hf
  obtain⟨fk,rfl⟩:=fkx fk
  rw [aln s k omg,zaT]
  cases h:p (at_ s k)
  ·rw [h1 fk k omg h];rfl
  ·rw [h2 fk k omg h,abl,ih (k+1) fk omg omg];simp
theorem all_gen0{β:Type}(p:UInt8→Bool)(s:Str)(hs:s.length≤4194304)(r:β)(F:Nat→Int→Option (Unit⊕β))
  (h0:∀fk,F (fk+1) (s.length:Int)=some (.inl ()))
  (h1:∀fk (k:Nat),k<s.length→p (at_ s k)=false→F (fk+1) (k:Int)=some (.inr r))
  (h2:∀fk (k:Nat),k<s.length→p (at_ s k)=true→F (fk+1) (k:Int)=F fk ((k:Int)+1)):F FU 0=some (if s.all p=true then .inl ()else .inr r):=by
 have:=all_gen p s r F h0 h1 h2 s.length 0 FU omg (by rw [adq];omega)
 rw [zbt]at this
 exact this
theorem adLower_lp(s:Str)(hs:s.length≤4194304)(l:Str):∀(p:Str) (fk:Nat),p.length+l.length=s.length→l.length<fk→
  ams FU s fk (p++l) (p.length:Int)=some (p++l.map aft):=by
 induction l with
 |nil=>
  intro p fk hk hf
  obtain⟨fk,rfl⟩:=fkx fk
  simp only [zal]at hk
  rw [auh,ale,if_neg omg];rfl
 |cons c l ih0=>
  intro p fk hk hf
  obtain⟨fk,rfl⟩:=fkx fk
  simp only [zac]at hk hf
  have hb:=mid_lt p c l
  have ih:=ih0 (p++[aft c]) fk (by rw [zab,zad];omega) omg
  have ok:aap ((p.length:Int)+1):=abb _ omg omg
  rw [auh,ale,if_pos omg]
  simp only [aaa hb,ayp,aaa ok,set_mid]
  by_cases h1:65≤c
  ·by_cases h2:c≤90
   ·simp only [if_pos h1,decide_eq_true h2,zaa,cond_true,lowerB_up c h1 h2]
    rw [aqp p (aft c),ih];simp
   ·simp only [if_pos h1,decide_eq_false h2,zaa,cond_false]
    rw [aua c (fun h=>h2 h.2)]at ih
    rw [aqp p c,show p++c::l=(p++[c])++l by simp,ih];simp [aua c (fun h=>h2 h.2)]
  ·simp only [if_neg h1,zaa,cond_false]
   rw [aua c (fun h=>h1 h.1)]at ih
   rw [aqp p c,show p++c::l=(p++[c])++l by simp,ih];simp [aua c (fun h=>h1 h.1)]
theorem aox(s:Str)(hs:s.length≤4194304):ack FU s=some (aab s):=by
 unfold ack
 have:=adLower_lp s hs s [] FU (by simp) (by rw [adq];omega)
 simp only [zaH,zal,Int.natCast_zero,Int.cast_ofNat_Int]at this
 rw [this];rfl
theorem ad_letter(c:UInt8):aji FU c=some (azd c):=by revert c;exact aaz _ (by decide+kernel)
theorem ad_digit(c:UInt8):acw FU c=some (aby c):=by revert c;exact aaz _ (by decide+kernel)
theorem rf_letter(c:UInt8):aqk FU c=some (azd c):=by revert c;exact aaz _ (by decide+kernel)
theorem rf_digit(c:UInt8):adn FU c=some (aby c):=by revert c;exact aaz _ (by decide+kernel)
theorem ad_hex':∀c:UInt8,(adu FU c).map (·.2)=some (hexB c):=aaz _ (by decide+kernel)
theorem ad_hex(c:UInt8):∃v,adu FU c=some (v,hexB c):=by
 obtain⟨⟨v,b⟩,h1,h2⟩:=Option.map_eq_some_iff.1 (ad_hex' c)
 exact⟨v,by rw [h1,←h2]⟩
theorem rf_hex':∀c:UInt8,(akl FU c).map (fun n=>decide (n<0))=some (!hexB c):=aaz _ (by decide+kernel)
theorem rf_hex(c:UInt8):∃n,akl FU c=some n∧decide (n<0)= !hexB c:=by
 obtain⟨n,h1,h2⟩:=Option.map_eq_some_iff.1 (rf_hex' c)
 exact⟨n,h1,h2⟩
def psp(y:Str)(l:List Str):List Str:=match l with|x::r=>(y++x)::r|[]=>[y]
theorem psp_nil(l:List Str)(h:l≠[]):psp [] l=l:=by cases l with|nil=>exact absurd rfl h|cons _ _=>rfl
theorem arb(c:UInt8)(l:Str):spl c (c::l)=[]::spl c l:=by rw [spl,if_pos rfl]
theorem aof(c b:UInt8)(l:Str)(h:b≠c):spl c (b::l)=psp [b] (spl c l):=by
 rw [spl,if_neg h]
 cases spl c l<;>rfl
theorem psp_psp(y z:Str)(l:List Str)(h:l≠[]):psp y (psp z l)=psp (y++z) l:=by
 cases l with|nil=>exact absurd rfl h|cons _ _=>simp [psp]
theorem spl_lens(c:UInt8):∀s:Str,((spl c s).map zaZ).sum+(spl c s).length=s.length+1
 |[]=>rfl
 |b::l=>by
  have ih:=spl_lens c l
  by_cases h:b=c
  ·subst h
   rw [arb]
   simp only [zaE,List.sum_cons,zal,zac]
   omega
  ·rw [aof c b l h]
   cases hx:spl c l with
   |nil=>exact absurd hx (spl_ne c l)
   |cons x r=>
    rw [hx]at ih
    simp only [psp,zaE,List.sum_cons,zac,zab,zal]at ih⊢
    omega
theorem sub_snoc(s:Str)(f k:Nat)(hf:f≤k)(h:k<s.length):sub s (f:Int) ((k+1:Nat):Int)=sub s (f:Int) (k:Int)++[at_ s (k:Int)]:=by
 unfold sub
 have e1:((k+1:Nat):Int).toNat-((f:Nat):Int).toNat=(k-f)+1:=by omega
 have e2:((k:Nat):Int).toNat-((f:Nat):Int).toNat=k-f:=by omega
 have e3:((f:Nat):Int).toNat=f:=by omega
 rw [e1,e2,e3,take_snoc _ (k-f) (by rw [zaj];omega)]
 congr 2
 simp only [at_,List.getD_eq_getElem?_getD,List.getElem?_drop]
 congr 2
 omega
theorem avs(s:Str)(k:Nat):sub s (k:Int) (k:Int)=[]:=by unfold sub;simp
theorem pieces_lp(s:Str)(c:UInt8)(hs:s.length≤4194304)(n:Nat):∀(k f fk:Nat) (out:List Str),k+n=s.length→n<fk→f≤k→out.length≤k→
  ∃out' f':_,ajr FU s c fk out (f:Int) (k:Int)=some (out',((f':Nat):Int))∧f'≤s.length∧out'.length≤s.length∧out'++[s.drop f']=out++psp (sub s (f:Int) (k:Int)) (spl c (s.drop k)):=by
 induction n with
 |zero=>
  intro k f fk out hk hn hf ho
  obtain⟨fk,rfl⟩:=fkx fk
  obtain rfl:k=s.length:=by omega
  refine⟨out,f,by rw [auw,ami,if_neg omg],by omega,by omega, ?_⟩
  rw [zbl]
  simp only [spl,psp,zan]
  congr 2
  unfold sub
  rw [List.take_of_length_le (by rw [zaj];omega)]
  simp
 |succ n ih=>
  intro k f fk out hk hn hf ho
  obtain⟨fk,rfl⟩:=fkx fk
  have hlt:k<s.length:=by omega
  rw [auw,ami,if_pos omg,gok,aln s k hlt]
  by_cases hc:at_ s (k:Int)=c
  ·rw [if_pos hc,aaa omg,aaa (by simp only [zad];omega),gok,gok,abl]
   obtain⟨o',f',h1,h2,h3,h4⟩:=ih (k+1) (k+1) fk (out++[sub s (f:Int) (k:Int)]) omg omg omg (by simp only [zab,zad];omega)
   refine⟨o',f',h1,h2,h3, ?_⟩
   rw [h4,hc,arb,avs,psp_nil _ (spl_ne c _)]
   simp [psp]
  ·rw [if_neg hc,gok,abl]
   obtain⟨o',f',h1,h2,h3,h4⟩:=ih (k+1) f fk out omg omg omg omg
   refine⟨o',f',h1,h2,h3, ?_⟩
   rw [h4,aof c _ _ hc,psp_psp _ _ _ (spl_ne c _),sub_snoc s f k hf hlt]
theorem pieces_eq(s:Str)(c:UInt8)(hs:s.length≤4194304):aqj FU s c=some (spl c s):=by
 obtain⟨o',f',h1,h2,h3,h4⟩:=pieces_lp s c hs s.length 0 0 FU [] omg (by rw [adq];omega) omg (by simp)
 unfold aqj
 have h1':ajr FU s c FU [] (0:Int) (0:Int)=some (o',((f':Nat):Int)):=h1
 rw [h1',zaa,aaa (by simp only;omega),aaa (by simp only [zad];omega)]
 have e:((f':Nat):Int).toNat=f':=by omega
 simp only [e]
 rw [h4,zbt,zaH]
 have e2:sub s ((0:Nat):Int) ((0:Nat):Int)=[]:=avs s 0
 rw [e2,psp_nil _ (spl_ne c s)]
def stripZ:Str→Str
 |[]=>[]
 |[c]=>[c]
 |c::d::l=>if c=48 then stripZ (d::l)else c::d::l
theorem low48:∀c:UInt8,(aft c==48)=(c==48):=aaz _ (by decide+kernel)
theorem trim48(c:UInt8)(l:Str):zaS (aab (c::l)) [48]=if c=48 then zaS (aab l) [48]else aab (c::l):=by
 unfold zaS aab
 rw [zaE,List.dropWhile_cons]
 have h:([48]:Str).contains (aft c)=(c==48):=by rw [←low48 c];simp [List.contains_cons];rfl
 rw [h]
 by_cases hc:c=48
 ·rw [if_pos hc,if_pos (by simpa using hc)]
 ·rw [if_neg hc,if_neg (by simpa using hc)]
theorem strip_grpN:∀g:Str,g≠[]→aab (stripZ g)=aum g
 |[],h=>absurd rfl h
 |[c],_=>by
  have e:aum [c]=if zaS (aab [c]) [48]=[]then [48]else zaS (aab [c]) [48]:=rfl
  rw [e,trim48]
  by_cases hc:c=48
  ·subst hc;rfl
  ·rw [if_neg hc,if_neg (by simp [aab])];rfl
 |c::d::l,_=>by
  have ih:=strip_grpN (d::l) (by simp)
  have e:aum (c::d::l)=if zaS (aab (c::d::l)) [48]=[]then [48]else zaS (aab (c::d::l)) [48]:=rfl
  rw [e,trim48,stripZ]
  by_cases hc:c=48
  ·simp only [if_pos hc];rw [ih];rfl
  ·simp only [if_neg hc];rw [if_neg (by simp [aab])]
theorem group_lp1(n:Nat):∀(g:Str) (fk:Nat),g.length≤n→n<fk→apc FU fk g=some (stripZ g):=by
 induction n with
 |zero=>
  intro g fk hg hf
  obtain⟨fk,rfl⟩:=fkx fk
  obtain rfl:g=[]:=zao omg
  rw [awp,ans,if_neg (by simp)];rfl
 |succ n ih=>
  intro g fk hg hf
  obtain⟨fk,rfl⟩:=fkx fk
  rw [awp,ans]
  match g,hg with
  |[],_=>rw [if_neg (by simp)];rfl
  |[c],_=>rw [if_neg (by simp)];rfl
  |c::d::l,hg=>
   have hl:(1:Int)<((c::d::l).length:Int):=by simp only [zac];omega
   rw [if_pos hl,aaa omg,zaa,stripZ]
   have ha:at_ (c::d::l) (0:Int)=c:=rfl
   rw [ha]
   by_cases hc:c=48
   ·rw [decide_eq_true hc,cond_true,aaa omg,if_pos hc]
    exact ih (d::l) fk (by simp only [zac]at hg⊢;omega) omg
   ·rw [decide_eq_false hc,cond_false,if_neg hc]
theorem strip_len:∀g:Str,(stripZ g).length≤g.length
 |[]=>zam _
 |[c]=>zam _
 |c::d::l=>by
  rw [stripZ]
  split
  ·have:=strip_len (d::l);simp only [zac]at this⊢;omega
  ·exact zam _
theorem group_eq(g:Str)(hg:g.length≤4194304):avi FU g=some (if aob g then(aum g,true)else([],false)):=by
 unfold avi
 by_cases h1:(g.length:Int)<1
 ·rw [if_pos h1,grpOk_no1 g (.inl h1)];rfl
 ·rw [if_neg h1,zaa]
  by_cases h2:4<(g.length:Int)
  ·rw [decide_eq_true h2,grpOk_no1 g (.inr h2)];rfl
  ·rw [decide_eq_false h2,cond_false]
   have hlp:=all_gen0 hexB g hg (([]:Str),false) (apd FU g)
    (fun fk=>by rw [aro,ajt,if_neg omg])
    (fun fk k hk h=>by
     obtain⟨n,h3,h4⟩:=rf_hex (at_ g k)
     rw [h]at h4
     rw [aro,ajt,if_pos omg,gok,h3,zaa,if_pos (of_decide_eq_true h4)])
    (fun fk k hk h=>by
     obtain⟨n,h3,h4⟩:=rf_hex (at_ g k)
     rw [h]at h4
     rw [aro,ajt,if_pos omg,gok,h3,zaa,if_neg (of_decide_eq_false h4),gok])
   rw [hlp,zaa]
   cases hx:g.all hexB with
   |false=>rw [grpOk_no2 g hx];rfl
   |true=>
    rw [grpOk_yes g h1 h2 hx,if_pos rfl,zaz,group_lp1 g.length g FU (zam _) (by rw [adq];omega),zaa,
     afy _ (by have:=strip_len g;omega),strip_grpN g (by intro e;subst e;simp at h1)]
    rfl
theorem join_snoc(p:List Str)(x:Str):zar (p++[x]) [58]=(if p=[]then []else zar p [58]++[58])++x:=by
 induction p with
 |nil=>simp [zar,List.intercalate]
 |cons a p ih=>
  rw [if_neg (by simp)]
  cases p with
  |nil=>simp [zar,List.intercalate,List.intersperse]
  |cons b p=>
   have e:∀(u:Str) (v:Str) (l:List Str),zar (u::v::l) [58]=u++(58::zar (v::l) [58]):=fun u v l=>by
    simp [zar,List.intercalate,List.intersperse]
   rw [zaU,zaU,e,←zaU,ih,if_neg (by simp),e]
   simp
theorem groups_lp(X:List Str)(hX:X.length≤4194305)(hx:∀x∈X,x.length≤4194304)(q:List Str):∀(p:List Str) (fk:Nat),X=p++q→q.length<fk→p.all aob=true→
  ajs FU X fk (zar (p.map aum) [58]) (p.length:Int)=some (if X.all aob=true then .inl (zar (X.map aum) [58])else .inr ([],0,false)):=by
 induction q with
 |nil=>
  intro p fk h hf hp
  obtain⟨fk,rfl⟩:=fkx fk
  rw [zan]at h
  subst h
  rw [auy,amk,if_neg omg,if_pos hp]
 |cons a q ih=>
  intro p fk h hf hp
  obtain⟨fk,rfl⟩:=fkx fk
  have hl:=congrArg zaZ h
  simp only [zab,zac]at hl hf
  have hb:(0:Int)≤(p.length:Int)∧(p.length:Int)<(X.length:Int):=by omega
  have he:el X (p.length:Int)=a:=by rw [h];simp [el]
  have ha:a.length≤4194304:=hx a (by rw [h];simp)
  rw [auy,amk,if_pos hb.2,aaa hb,aaa hb,he,group_eq a ha,zaa]
  cases hg:aob a with
  |false=>
   have:X.all aob=false:=by rw [h,List.all_append,zaT,hg];simp
   rw [this];rfl
  |true=>
   have hn:=grpN_len a hg
   have hj:=asf [58] 4 (p.map aum) (fun x hx'=>by
    obtain⟨y,hy,rfl⟩:=List.mem_map.1 hx'
    exact grpN_len y (List.all_eq_true.1 hp y hy))
   simp only [zaF,zad]at hj
   have:=ih (p++[a]) fk (by rw [h];simp) omg (by rw [List.all_append,hp];simpa using hg)
   rw [zbg,List.map_singleton,join_snoc]at this
   rw [show((p++[a]).length:Int)=(p.length:Int)+1 by simp]at this
   simp only [if_true,zap,cond_false]
   cases p with
   |nil=>
    simp only [List.map_nil,zal,if_true,zaH]at this⊢
    rw [if_neg (by simp),zaa,aaa (by simp only [zar];simp;omega),gok]
    exact this
   |cons b p=>
    rw [if_neg (by simp)]at this
    simp only [zac]at hj hl hb
    rw [if_pos (by simp only [zac];omega),aaa (by simp only [zad];omega),zaa,aaa (by simp only [zab,zad];omega),aaa (abb _ omg (by simp only [zac];omega))]
    exact this
theorem rfGroups_eq(s:Str)(hs:s.length≤4194304):anb FU s=some (zar (afz s).1 [58],((afz s).1.length:Int),(afz s).2):=by
 unfold anb
 by_cases h:s=[]
 ·rw [if_pos h,grpL0_nil s h];rfl
 ·have hb:=ayy 58 s
  have:=groups_lp (spl 58 s) omg (fun x hx=>zaM (hb.2 x hx) hs) (spl 58 s) [] FU (by simp) (by rw [adq];omega) rfl
  have this':ajs FU (spl 58 s) FU [] (0:Int)=_:=this
  rw [if_neg h,ayn s h,pieces_eq s 58 hs,zaa,this',zaa]
  cases ha:(spl 58 s).all aob with
  |false=>rw [grpList_no s ha];rfl
  |true=>rw [grpList_yes s ha,if_pos rfl,zaz,zaF]
open Bool renaming not_false → zay, not_true → zap, true_and → zax
open Go.Lib renaming cut → zbe, index → zaB, join → zar, trimLeftS → zaS
open List renaming drop_eq_nil_of_le → zaI, drop_length → zbl, drop_zero → zbt, length_append → zab, length_cons → zac, length_drop → zaj, length_nil → zal, length_singleton → zad, length_take → zaw, set → zbj
open Nat renaming add_zero → zaK, le_trans → zaM, zero_add → zba
theorem cnd2{α β:Type}(v:α)(b:Bool)(A B:β):(bif !(v,b).2 then A else B)=bif !b then A else B:=rfl
theorem glist_lp1(l:List Str)(x:Int)(hg:(el l x).length≤4194304):afg FU l x FU 0=some (if(el l x).all hexB=true then .inl ()else .inr ([],false)):=by
 refine all_gen0 hexB (el l x) hg (([]:List Str),false) (afg FU l x) ?_ ?_ ?_
 ·intro fk;rw [akr,aet,if_neg omg]
 ·intro fk k hk h
  obtain⟨v,h3⟩:=ad_hex (at_ (el l x) k)
  rw [h]at h3
  rw [akr,aet,if_pos omg,gok,h3]
  simp only [zaa,zay,cond_true]
 ·intro fk k hk h
  obtain⟨v,h3⟩:=ad_hex (at_ (el l x) k)
  rw [h]at h3
  rw [akr,aet,if_pos omg,gok,h3,zaa,cnd2,zap,cond_false,gok]
theorem glist_lp(s:Str)(hs:s.length≤4194304)(n:Nat):∀(k fk:Nat),k+n=(spl 58 s).length→n<fk→((spl 58 s).take k).all aob=true→
  ado FU s fk (axb (spl 58 s) k) (k:Int)=some (if(spl 58 s).all aob=true then .inl ((spl 58 s).map aum)else .inr ([],false)):=by
 have hb:=ayy 58 s
 induction n with
 |zero=>
  intro k fk hk hf hp
  obtain⟨fk,rfl⟩:=fkx fk
  obtain rfl:k=(spl 58 s).length:=by omega
  rw [List.take_length]at hp
  rw [aqn,agx,if_neg omg,if_pos hp,grpMix_all]
 |succ n ih=>
  intro k fk hk hf hp
  obtain⟨fk,rfl⟩:=fkx fk
  have hlt:k<(spl 58 s).length:=by omega
  have hml:=grpMix_len (spl 58 s) k omg
  have hin:(0:Int)≤(k:Int)∧(k:Int)<((axb (spl 58 s) k).length:Int):=by omega
  have he:=grp_el (spl 58 s) k hlt
  have hel:(el (spl 58 s) (k:Int)).length≤4194304:=zaM (hb.2 _ (el_mem' _ k hlt)) hs
  have fail:aob (el (spl 58 s) (k:Int))=false→(spl 58 s).all aob=false:=fun h=>all_false_at' aob _ k hlt h
  rw [aqn,agx,if_pos omg,aaa hin,aaa hin,he]
  by_cases h1:((el (spl 58 s) (k:Int)).length:Int)<1
  ·rw [if_pos h1,fail (grpOk_no1 _ (.inl h1))];rfl
  ·rw [if_neg h1,zaa]
   by_cases h2:4<((el (spl 58 s) (k:Int)).length:Int)
   ·rw [decide_eq_true h2,fail (grpOk_no1 _ (.inr h2))];rfl
   ·rw [decide_eq_false h2,cond_false,glist_lp1 _ _ (by rw [he];exact hel),he,zaa]
    cases hx:(el (spl 58 s) (k:Int)).all hexB with
    |false=>rw [fail (grpOk_no2 _ hx)];rfl
    |true=>
     have hok:=grpOk_yes _ h1 h2 hx
     rw [if_pos rfl,zaz,aox _ hel,zaa,aaa (by simp [aab];omega),aaa (by decide)]
     have step:∀v,v=aum (el (spl 58 s) (k:Int))→ado FU s fk (zbj (axb (spl 58 s) k) (zai (k:Int)) v) ((k:Int)+1)=some (if(spl 58 s).all aob=true then .inl ((spl 58 s).map aum)else .inr ([],false)):=fun v hv=>by
      rw [←grp_step (spl 58 s) k v hlt hv,abl]
      exact ih (k+1) fk omg omg (all_take_snoc' aob _ k hlt hp hok)
     have ok:aap ((k:Int)+1):=abb _ omg omg
     by_cases hz:zaS (aab (el (spl 58 s) (k:Int))) [48]=[]
     ·rw [if_pos hz,aaa hin,aaa hin,zaa,zaz,aaa ok,step [48] (grpN_zero _ hz)]
     ·rw [if_neg hz,aaa hin,aaa hin,zaa,zaz,aaa ok,step (zaS (aab (el (spl 58 s) (k:Int))) [48]) (grpN_else _ hz)]
theorem glist_eq(s:Str)(hs:s.length≤4194304):aei FU s=some (afq s):=by
 have hb:=ayy 58 s
 have:=glist_lp s hs (spl 58 s).length 0 FU omg (by rw [adq];omega) rfl
 rw [grpMix_zero]at this
 have this':ado FU s FU (spl 58 s) (0:Int)=_:=this
 unfold aei
 rw [aaa omg,this',zaa]
 cases ha:(spl 58 s).all aob with
 |false=>rw [grpList_no s ha];rfl
 |true=>rw [grpList_yes s ha];rfl
theorem glist0(x:Str)(hx:x.length≤4194304):(if x=([]:Str)then some (([]:List Str),true)else((aei FU x).bind fun(y49:((List Str)×Bool))=>some (y49.1,y49.2)))=some (afz x):=by
 by_cases h:x=[]
 ·rw [if_pos h,grpL0_nil x h]
 ·rw [if_neg h,ayn x h,glist_eq x hx];rfl
theorem grpL0_bd(x:Str):(afz x).1.length≤x.length+1∧∀y∈(afz x).1,y.length≤4:=by
 unfold afz
 split
 ·simp
 ·exact aym x
theorem joinL0(x:Str)(h:x.length≤4194304):(zar (afz x).1 [58]).length≤24000000:=by
 have h1:=grpL0_bd x
 have h2:=asf [58] 4 (afz x).1 h1.2
 simp only [zad]at h2
 omega
theorem adGroups_eq(s:Str):aqx FU s=some (asy s):=by
 unfold aqx asy
 by_cases h39:39<s.length
 ·rw [if_pos omg,if_pos h39]
 ·rw [if_neg omg,if_neg h39,aaa omg]
  have hc:=cut_len s [58,58]
  cases hd:(zbe s [58,58]).2.2 with
  |false=>
   have h1:=aym s
   rw [zay,cond_true,if_pos rfl,glist_eq s omg,zaa,aaa ⟨by omega,join_grp s omg⟩]
   cases h2:(afq s).2<;>rfl
  |true=>
   rw [zap,cond_false,glist0 _ omg,zaa,glist0 _ omg,zaa,if_neg (show¬(true=false)by decide)]
   have b1:=grpL0_bd (zbe s [58,58]).1
   have b2:=grpL0_bd (zbe s [58,58]).2.1
   have j1:=joinL0 (zbe s [58,58]).1 omg
   have j2:=joinL0 (zbe s [58,58]).2.1 omg
   cases h1:(afz (zbe s [58,58]).1).2
   ·simp
   ·cases h2:(afz (zbe s [58,58]).2.1).2
    ·simp
    ·rw [zap,cond_false,cond_false,gok,zaa,Bool.or_false,Bool.false_or]
     by_cases h7:7<((afz (zbe s [58,58]).1).1.length:Int)+((afz (zbe s [58,58]).2.1).1.length:Int)
     ·rw [decide_eq_true h7,if_pos rfl];rfl
     ·rw [decide_eq_false h7,if_neg (by decide),cond_false,aaa ⟨by omega,by omega⟩,aaa (by simp only [zac,zal];omega),aaa ⟨by omega,by omega⟩,aaa (by simp only [zab,zac,zal];omega)]
def sixP(a b:Str):Str×Bool:=if(!(afz a).2|| !(afz b).2||decide (7<((afz a).1.length:Int)+((afz b).1.length:Int)))=true then([],false)else(zar (afz a).1 [58]++[58,58]++zar (afz b).1 [58],true)
theorem index_ge(p:Str):∀l:Str,-1≤zaB l p
 |[]=>by unfold zaB;split<;>omega
 |b::l=>by
  have:=index_ge p l
  rw [zaB]
  split
  ·omega
  ·split
   ·omega
   ·omega
theorem atm(p:Str)(b:UInt8)(l:Str):zaB (b::l) p=if p.isPrefixOf (b::l)=true then 0 else if zaB l p= -1 then-1 else zaB l p+1:=by
 rw [zaB]
 split
 ·rfl
 ·by_cases h:zaB l p= -1
  ·rw [if_pos h,if_pos (by simpa using h)]
  ·rw [if_neg h,if_neg (by simpa using h)]
theorem pfx2(s:Str)(k:Nat)(h:k<s.length):([58,58]:Str).isPrefixOf (at_ s (k:Int)::s.drop (k+1))=(decide (k+1<s.length)&&(at_ s (k:Int)==58)&&(at_ s ((k+1:Nat):Int)==58)):=by
 by_cases h2:k+1<s.length
 ·rw [aln s (k+1) h2,decide_eq_true h2]
  simp only [List.isPrefixOf,zax,Bool.and_true]
  rw [Bool.beq_comm,Bool.beq_comm (a:=(58:UInt8))]
 ·rw [zaI omg,decide_eq_false h2]
  simp [List.isPrefixOf]
theorem six_lp(s:Str)(hs:s.length≤4194304)(n:Nat):∀(k fk:Nat),k+n=s.length→n<fk→
  alq FU s fk (k:Int)=some (if zaB (s.drop k) [58,58]= -1 then .inl ()else .inr (sixP (s.take (k+(zaB (s.drop k) [58,58]).toNat)) (s.drop (k+(zaB (s.drop k) [58,58]).toNat+2)))):=by
 induction n with
 |zero=>
  intro k fk hk hf
  obtain⟨fk,rfl⟩:=fkx fk
  obtain rfl:k=s.length:=by omega
  rw [ayq,aqs,gok,if_neg omg,zbl]
  rfl
 |succ n ih=>
  intro k fk hk hf
  obtain⟨fk,rfl⟩:=fkx fk
  have hlt:k<s.length:=by omega
  rw [ayq,aqs,gok,aln s k hlt,atm,pfx2 s k hlt]
  have step:alq FU s fk ((k:Int)+1)=some (if(if zaB (s.drop (k+1)) [58,58]= -1 then(-1:Int)else zaB (s.drop (k+1)) [58,58]+1)= -1 then .inl ()else .inr (sixP (s.take (k+(if zaB (s.drop (k+1)) [58,58]= -1 then(-1:Int)else zaB (s.drop (k+1)) [58,58]+1).toNat)) (s.drop (k+(if zaB (s.drop (k+1)) [58,58]= -1 then(-1:Int)else zaB (s.drop (k+1)) [58,58]+1).toNat+2)))):=by
   rw [abl,ih (k+1) fk omg omg]
   have hg:=index_ge [58,58] (s.drop (k+1))
   by_cases hm:zaB (s.drop (k+1)) [58,58]= -1
   ·rw [if_pos hm,if_pos hm];rfl
   ·rw [if_neg hm,if_neg hm,if_neg omg]
    have e:k+1+(zaB (s.drop (k+1)) [58,58]).toNat=k+(zaB (s.drop (k+1)) [58,58]+1).toNat:=by omega
    rw [e]
  by_cases h2:k+1<s.length
  ·rw [if_pos omg,gok,decide_eq_true h2,zax]
   by_cases h3:at_ s (k:Int)=58
   ·rw [if_pos h3,gok,aaa omg,zaa,abl]
    have e3:(at_ s (k:Int)==58)=true:=by simpa using h3
    rw [e3,zax]
    by_cases h4:at_ s ((k+1:Nat):Int)=58
    ·have e4:(at_ s ((k+1:Nat):Int)==58)=true:=by simpa using h4
     have et:((k:Nat):Int).toNat=k:=by omega
     have et2:((k:Int)+2).toNat=k+2:=by omega
     rw [decide_eq_true h4,zap,cond_false,e4,if_pos rfl,aaa omg,et,rfGroups_eq _ (by rw [zaw];omega),zaa,gok,aaa omg,et2,rfGroups_eq _ (by rw [zaj];omega),zaa]
     simp only [Int.toNat_zero,zaK,if_neg (show¬((0:Int)= -1)by decide)]
     unfold sixP
     have j1:=joinL0 (s.take k) (by rw [zaw];omega)
     have j2:=joinL0 (s.drop (k+2)) (by rw [zaj];omega)
     have b1:=(grpL0_bd (s.take k)).1
     have b2:=(grpL0_bd (s.drop (k+2))).1
     rw [zaw]at b1
     rw [zaj]at b2
     cases h5:(afz (s.take k)).2
     ·simp
     ·cases h6:(afz (s.drop (k+2))).2
      ·simp
      ·simp only [zap,cond_false,Bool.false_or]
       rw [gok,zaa]
       by_cases h7:7<((afz (s.take k)).1.length:Int)+((afz (s.drop (k+2))).1.length:Int)
       ·rw [decide_eq_true h7,cond_true,if_pos rfl]
       ·rw [decide_eq_false h7,cond_false,if_neg (by decide),aaa (by simp only [zac,zal];omega),aaa (by simp only [zab,zac,zal];omega)]
    ·have e4:(at_ s ((k+1:Nat):Int)==58)=false:=by simpa using h4
     rw [decide_eq_false h4,zay,cond_true,e4,if_neg (show¬(false=true)by decide),gok,←abl,step]
   ·have e3:(at_ s (k:Int)==58)=false:=by simpa using h3
    rw [if_neg h3,zaa,cond_true,e3,Bool.false_and,if_neg (show¬(false=true)by decide),gok,step]
  ·rw [if_neg omg,decide_eq_false h2,Bool.false_and,Bool.false_and,if_neg (show¬(false=true)by decide)]
   have:zaB (s.drop (k+1)) [58,58]= -1:=by rw [zaI omg];rfl
   rw [if_pos this];rfl
theorem cut_eq(s p:Str):zbe s p=if zaB s p= -1 then(s,[],false)else(s.take (zaB s p).toNat,s.drop ((zaB s p).toNat+p.length),true):=by
 unfold zbe
 have:=index_ge p s
 by_cases h:zaB s p= -1
 ·rw [if_pos h,if_neg omg]
 ·rw [if_neg h,if_pos omg]
def sixQ(s:Str):Str×Bool:=if(zbe s [58,58]).2.2=false then(zar (afz s).1 [58],(afz s).2&&decide (((afz s).1.length:Int)=8))else sixP (zbe s [58,58]).1 (zbe s [58,58]).2.1
theorem six_eq(s:Str)(hs:s.length≤4194304):azu FU s=some (sixQ s):=by
 have:=six_lp s hs s.length 0 FU omg (by rw [adq];omega)
 rw [zbt,zba]at this
 have this':alq FU s FU (0:Int)=_:=this
 unfold azu sixQ
 rw [this',zaa,cut_eq]
 by_cases h:zaB s [58,58]= -1
 ·rw [if_pos h,if_pos h,zaz,rfGroups_eq s hs,zaa,if_pos rfl]
  cases hb:(afz s).2<;>rfl
 ·rw [if_neg h,if_neg h,if_neg (by simp)];rfl
open Go.Lib renaming index → zaB
open List renaming all_cons → zaT, any_cons → zbm, append_nil → zan, drop_length → zbl, drop_zero → zbt, eq_nil_of_length_eq_zero → zao, length → zaZ, length_append → zab, length_cons → zac, length_drop → zaj, length_singleton → zad, length_take → zaw
open Sum renaming elim → zaD, elim_inl → zaz
theorem dig_sub(c:UInt8)(h:aby c=true):(c-48).toNat=c.toNat-48∧c.toNat≤57∧48≤c.toNat:=by
 have hc:=(digitB_iff c).1 h
 have h48:(48:UInt8)≤c:=by rw [UInt8.le_iff_toNat_le];show 48≤c.toNat;omega
 exact⟨by rw [UInt8.toNat_sub_of_le _ _ h48];rfl,by omega,by omega⟩
theorem nums_lp1(s:Str)(x:Int)(hg:(el (spl 46 s) x).length≤15)(l:Str):∀(p:Str) (fk:Nat),el (spl 46 s) x=p++l→l.length<fk→p.all aby=true→
  agl FU s x fk (aef p:Int) (p.length:Int)=some (if l.all aby=true then .inl (aef (el (spl 46 s) x):Int)else .inr false):=by
 induction l with
 |nil=>
  intro p fk h hf hp
  obtain⟨fk,rfl⟩:=fkx fk
  rw [zan]at h
  rw [asu,aiw,if_neg (by rw [h];omega),h];rfl
 |cons c l ih=>
  intro p fk h hf hp
  obtain⟨fk,rfl⟩:=fkx fk
  have hl:=congrArg zaZ h
  simp only [zab,zac]at hl hf
  have hb:(0:Int)≤(p.length:Int)∧(p.length:Int)<((el (spl 46 s) x).length:Int):=by omega
  have ha:at_ (el (spl 46 s) x) (p.length:Int)=c:=by rw [h,ayp]
  have hv:=decVal_lt 14 p omg hp
  rw [asu,aiw,if_pos hb.2,aaa hb,ha,ad_digit,zaa,zaT]
  cases hc:aby c with
  |false=>rfl
  |true=>
   have hd:=dig_sub c hc
   rw [zap,cond_false,hd.1,aaa (abb _ omg omg),aaa hb,aaa (abb _ omg omg),aaa (abb _ omg omg),zax]
   have e:(10:Int)*(aef p:Int)+((c.toNat-48:Nat):Int)=(aef (p++[c]):Int):=by rw [ato];omega
   rw [e,aqp p c]
   exact ih (p++[c]) fk (by rw [h];simp) omg (by rw [List.all_append,hp];simpa using hc)
theorem nums_lp(s:Str)(hs:s.length≤15)(n:Nat):∀(k fk:Nat),k+n=(spl 46 s).length→n<fk→
  agm FU s fk (k:Int)=some (if((spl 46 s).drop k).all octOk=true then .inl ()else .inr false):=by
 have hb:=ayy 46 s
 induction n with
 |zero=>
  intro k fk hk hf
  obtain⟨fk,rfl⟩:=fkx fk
  obtain rfl:k=(spl 46 s).length:=by omega
  rw [asv,aix,if_neg omg,zbl];rfl
 |succ n ih=>
  intro k fk hk hf
  obtain⟨fk,rfl⟩:=fkx fk
  have hlt:k<(spl 46 s).length:=by omega
  have hin:(0:Int)≤(k:Int)∧(k:Int)<((spl 46 s).length:Int):=by omega
  have hel:(el (spl 46 s) (k:Int)).length≤15:=zaM (hb.2 _ (el_mem' _ k hlt)) hs
  have hd:(spl 46 s).drop k=el (spl 46 s) (k:Int)::(spl 46 s).drop (k+1):=by rw [el_nat _ _ hlt,List.drop_eq_getElem_cons hlt]
  have h1:=nums_lp1 s (k:Int) hel (el (spl 46 s) (k:Int)) [] FU (by simp) (by rw [adq];omega) rfl
  have h1':agl FU s (k:Int) FU (0:Int) (0:Int)=_:=h1
  rw [asv,aix,if_pos omg,aaa hin,aaa hin,h1',zaa,hd,zaT]
  cases hx:(el (spl 46 s) (k:Int)).all aby with
  |false=>rw [octOk_no1 _ hx];rfl
  |true=>
   have hv:=decVal_lt 15 _ hel hx
   rw [if_pos rfl,zaz]
   by_cases h2:el (spl 46 s) (k:Int)=[]
   ·rw [if_pos h2,octOk_no2 _ (.inl (.inl h2))];rfl
   ·rw [if_neg h2]
    by_cases h3:255<(aef (el (spl 46 s) (k:Int)):Int)
    ·rw [if_pos h3,octOk_no2 _ (.inl (.inr h3))];rfl
    ·rw [if_neg h3,aaa (abb _ omg omg),zaa]
     by_cases h4:el (spl 46 s) (k:Int)=Lib.itoa (aef (el (spl 46 s) (k:Int)):Int)
     ·rw [decide_eq_true h4,zap,cond_false,zaa,zaz,aaa (abb _ omg omg),octOk_yes _ hx h2 h3 h4,zax]
      exact ih (k+1) fk omg omg
     ·rw [decide_eq_false h4,octOk_no2 _ (.inr h4)];rfl
theorem adNumbers_eq(s:Str):apm FU s=some (ayd s):=by
 unfold apm
 by_cases h:15<(s.length:Int)
 ·rw [if_pos h,numsP_long s h]
 ·have hb:=ayy 46 s
  have:=nums_lp s omg (spl 46 s).length 0 FU omg (by rw [adq];omega)
  rw [zbt]at this
  have this':agm FU s FU (0:Int)=_:=this
  rw [if_neg h,aaa omg,this',zaa]
  cases ha:(spl 46 s).all octOk with
  |false=>rw [numsP_no s ha];rfl
  |true=>rw [numsP_fin s h ha];rfl
def labB(c:UInt8):Bool:=azd c||aby c||c==45
def auo(x:Str):Bool:=decide (1≤x.length)&&decide (x.length≤63)&& !(at_ x 0==45)&& !(at_ x ((x.length:Int)-1)==45)&&x.all labB
def labW(x:Str):Bool:=x.any (fun c=> !aby c)
def badL(x:Str):Bool:=decide ((x.length:Int)<1)||decide (63<(x.length:Int))||(at_ x 0==45)||(at_ x ((x.length:Int)-1)==45)
theorem lab_bad(x:Str):auo x=(!badL x&&x.all labB):=by
 unfold auo badL
 have e1:decide (1≤x.length)= !decide ((x.length:Int)<1):=by rw [Bool.eq_iff_iff];simp;omega
 have e2:decide (x.length≤63)= !decide (63<(x.length:Int)):=by rw [Bool.eq_iff_iff];simp;omega
 rw [e1,e2]
 simp [Bool.not_or,Bool.and_assoc]
theorem badL_eq(x:Str)(hx:x.length≤4194304):(if(x.length:Int)<(1:Int)then some true else(if(63:Int)<(x.length:Int)then some true else(gd (0≤(0:Int)∧(0:Int)<(x.length:Int))<|(if(at_ x (0:Int))=(45:UInt8)then some true else(gd (aap ((x.length:Int)-(1:Int)))<|(gd (0≤((x.length:Int)-(1:Int))∧((x.length:Int)-(1:Int))<(x.length:Int))<|some (decide ((at_ x ((x.length:Int)-(1:Int)))=(45:UInt8)))))))))=some (badL x):=by
 unfold badL
 by_cases h1:(x.length:Int)<1
 ·rw [if_pos h1,decide_eq_true h1];rfl
 ·rw [if_neg h1,decide_eq_false h1,Bool.false_or]
  by_cases h2:63<(x.length:Int)
  ·rw [if_pos h2,decide_eq_true h2];rfl
  ·rw [if_neg h2,decide_eq_false h2,Bool.false_or,aaa omg]
   by_cases h3:at_ x 0=45
   ·rw [if_pos h3,show(at_ x 0==45)=true by simpa using h3];rfl
   ·rw [if_neg h3,show(at_ x 0==45)=false by simpa using h3,Bool.false_or,aaa (abb _ omg omg),aaa omg];rfl
theorem ad_nlab(c:UInt8):((aji FU c).bind fun(y365:Bool)=>(bif (!y365)then((acw FU c).bind fun(y371:Bool)=>(bif (!y371)then some (!decide (c=(45:UInt8)))else some false))else some false))=some (!labB c):=by
 rw [ad_letter,ad_digit]
 unfold labB
 by_cases h:c=45
 ·subst h;rfl
 ·rw [show(c==45)=false by simpa using h,decide_eq_false h]
  cases azd c<;>cases aby c<;>rfl
theorem named_lp1(x:Str)(hx:x.length≤4194304)(r:Bool)(l:Str):∀(p:Str) (fk:Nat) (w:Bool),x=p++l→l.length<fk→
  (l.all labB=true→abr FU x r fk (p.length:Int) w=some (0,w||labW l,r))∧(l.all labB=false→∃b,abr FU x r fk (p.length:Int) w=some (1,b,false)):=by
 induction l with
 |nil=>
  intro p fk w h hf
  obtain⟨fk,rfl⟩:=fkx fk
  rw [zan]at h
  refine⟨fun _=> ?_,fun h=>by cases h⟩
  rw [akq,aes,if_neg (by rw [h];omega)];simp [labW]
 |cons c l ih=>
  intro p fk w h hf
  obtain⟨fk,rfl⟩:=fkx fk
  have hl:=congrArg zaZ h
  simp only [zab,zac]at hl hf
  have hb:(0:Int)≤(p.length:Int)∧(p.length:Int)<(x.length:Int):=by omega
  have ha:at_ x (p.length:Int)=c:=by rw [h,ayp]
  have ok:aap ((p.length:Int)+1):=abb _ omg omg
  have hih:=ih (p++[c]) fk (w|| !aby c) (by rw [h];simp) omg
  rw [←aqp p c]at hih
  rw [akq,aes,if_pos hb.2,aaa hb,ha,ad_nlab,zaa,zaT]
  cases hc:labB c with
  |false=>exact⟨fun h=>by simp at h,fun _=>⟨w,by rw [zay,cond_true]⟩⟩
  |true=>
   rw [zap,cond_false,zax]
   have e:(bif w then gd (aap ((p.length:Int)+1)) (abr FU x r fk ((p.length:Int)+1) true)else(acw FU c).bind fun(y388:Bool)=>gd (aap ((p.length:Int)+1)) (abr FU x r fk ((p.length:Int)+1) (!y388)))=abr FU x r fk ((p.length:Int)+1) (w|| !aby c):=by
    cases w with
    |true=>rw [cond_true,aaa ok,Bool.true_or]
    |false=>rw [cond_false,ad_digit,zaa,aaa ok,Bool.false_or]
   rw [e]
   refine⟨fun h=> ?_,fun h=>hih.2 h⟩
   rw [hih.1 h]
   simp [labW,Bool.or_assoc]
theorem named_rd(x:Str)(hx:x.length≤4194304)(w r:Bool):(auo x=true→acu FU x w r=some (0,w||labW x,r))∧(auo x=false→∃b,acu FU x w r=some (1,b,false)):=by
 have hlp:=named_lp1 x hx r x [] FU w (by simp) (by rw [adq];omega)
 unfold acu
 rw [badL_eq x hx,zaa,lab_bad]
 cases hb:badL x with
 |true=>exact⟨fun h=>by simp at h,fun _=>⟨w,by rw [cond_true]⟩⟩
 |false=>
  rw [cond_false,zay,zax]
  exact hlp
theorem index1(c:UInt8)(f:Str):(zaB f [c]= -1∧spl c f=[f])∨(0≤zaB f [c]∧zaB f [c]<(f.length:Int)∧spl c f=f.take (zaB f [c]).toNat::spl c (f.drop ((zaB f [c]).toNat+1))):=by
 induction f with
 |nil=>exact .inl ⟨rfl,rfl⟩
 |cons b l ih=>
  rw [atm]
  have e:([c]:Str).isPrefixOf (b::l)=(c==b):=by simp [List.isPrefixOf]
  rw [e]
  by_cases h:b=c
  ·subst h
   right
   rw [if_pos (by simp),arb]
   refine⟨Int.le_refl _,by simp only [zac];omega,by simp⟩
  ·rw [if_neg (by simpa using fun x=>h x.symm),aof c b l h]
   rcases ih with⟨h1,h2⟩|⟨h1,h2,h3⟩
   ·left;rw [if_pos h1,h2];exact⟨rfl,rfl⟩
   ·right
    rw [if_neg omg,h3]
    have e1:(zaB l [c]+1).toNat=(zaB l [c]).toNat+1:=by omega
    refine⟨by omega,by simp only [zac];omega, ?_⟩
    rw [e1]
    simp [psp]
theorem seq_lp(n:Nat):∀(f:Str) (fk:Nat) (w r:Bool),f.length≤n→n<fk→n≤4194304→
  ∃w' f' k,((abc FU [46] 0 fk w r f).bind fun(j115:((Bool×Bool×Str)⊕(Bool×Bool×Str×Nat)))=>zaD (fun(v117:(Bool×Bool×Str))=>((acu FU v117.2.2 v117.1 v117.2.1).bind fun(y190:(Nat×Bool×Bool))=>(if y190.1=0 then some (y190.2.1,y190.2.2,v117.2.2,0)else some (y190.2.1,y190.2.2,v117.2.2,y190.1)))) (fun q=>some q) j115)=some (w',(if(spl 46 f).all auo=true then r else false),f',k)∧
   (k=if(spl 46 f).all auo=true then 0 else 1)∧((spl 46 f).all auo=true→w'=(w||(spl 46 f).any labW)):=by
 induction n with
 |zero=>
  intro f fk w r hf hn h20
  obtain⟨fk,rfl⟩:=fkx fk
  obtain rfl:f=[]:=zao omg
  have e:zaB ([]:Str) [46]= -1:=rfl
  rw [acm,aba,aaa (by simp),e,if_pos (by decide),zaa,zaz]
  obtain⟨b,hb⟩:=(named_rd [] (by simp) w r).2 rfl
  simp only
  rw [hb,zaa,if_neg (by simp)]
  exact⟨b,[],1,rfl,rfl,fun h=>absurd h (by decide)⟩
 |succ n ih=>
  intro f fk w r hf hn h20
  obtain⟨fk,rfl⟩:=fkx fk
  rw [acm,aba,aaa omg]
  rcases index1 46 f with⟨h1,h2⟩|⟨h1,h2,h3⟩
  ·rw [if_pos omg,zaa,zaz,h2,zaT,List.all_nil,Bool.and_true]
   simp only
   have hr:=named_rd f omg w r
   cases hl:auo f with
   |true=>
    rw [hr.1 hl,zaa,if_pos rfl]
    exact⟨_,_,0,rfl,rfl,fun _=>by simp⟩
   |false=>
    obtain⟨b,hb⟩:=hr.2 hl
    rw [hb,zaa,if_neg (by simp)]
    exact⟨b,_,1,rfl,rfl,fun h=>by cases h⟩
  ·have e0:zaB f [46]+0=zaB f [46]:=by omega
   have e1:(zaB f [46]+((([46]:Str).length:Nat):Int)).toNat=(zaB f [46]).toNat+1:=by simp only [zad];omega
   rw [if_neg omg,e0,aaa (abb _ omg omg),aaa omg,h3,zaT]
   have hr:=named_rd (f.take (zaB f [46]).toNat) (by rw [zaw];omega) w r
   cases hl:auo (f.take (zaB f [46]).toNat)with
   |true=>
    rw [hr.1 hl,zaa,if_pos rfl,aaa (abb _ (by simp only [zad];omega) (by simp only [zad];omega)),aaa (by simp only [zad];omega),e1,zax]
    obtain⟨w',f',k,g1,g2,g3⟩:=ih (f.drop ((zaB f [46]).toNat+1)) fk (w||labW (f.take (zaB f [46]).toNat)) r (by rw [zaj];omega) omg omg
    exact⟨w',f',k,g1,g2,fun h=>by rw [g3 h,zbm,Bool.or_assoc]⟩
   |false=>
    obtain⟨b,hb⟩:=hr.2 hl
    rw [hb,zaa,if_neg (by simp),zaa]
    exact⟨b,_,1,rfl,rfl,fun h=>by cases h⟩
def namedP(s:Str):Bool:=decide (1≤s.length)&&decide (s.length≤255)&&(spl 46 s).all auo&&(spl 46 s).any labW
theorem adNamed_eq(s:Str)(hs:s.length≤4194304):alv FU s=some (namedP s):=by
 unfold alv namedP
 by_cases h1:(s.length:Int)<1
 ·rw [if_pos h1,show decide (1≤s.length)=false by(rw [decide_eq_false_iff_not];omega)];rfl
 ·rw [if_neg h1,show decide (1≤s.length)=true by(rw [decide_eq_true_eq];omega),zaa,zax]
  by_cases h2:255<(s.length:Int)
  ·rw [decide_eq_true h2,show decide (s.length≤255)=false by(rw [decide_eq_false_iff_not];omega)];rfl
  ·rw [decide_eq_false h2,cond_false,show decide (s.length≤255)=true by(rw [decide_eq_true_eq];omega),zax]
   obtain⟨w',f',k,g1,g2,g3⟩:=seq_lp s.length s FU false false (zam _) (by rw [adq];omega) hs
   unfold anl ank
   rw [zaa,zaa]
   unfold acd
   rw [if_neg (by simp),zaa,zaz,g1,zaa]
   simp only
   cases ha:(spl 46 s).all auo with
   |true=>rw [g2,ha,if_pos rfl,if_pos rfl,g3 ha];simp
   |false=>rw [ha]at g2;rw [g2];simp
end Go.Wk
