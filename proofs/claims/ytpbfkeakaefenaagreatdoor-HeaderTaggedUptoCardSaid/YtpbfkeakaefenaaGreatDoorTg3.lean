/-
  The law HeaderTagged (part 3 of 8).
-/
import Derived.Test.YtpbfkeakaefenaaGreatDoorTg2
import Derived.Orders
set_option linter.constructorNameAsVariable false
set_option linter.unusedVariables false
set_option linter.unusedSimpArgs false
namespace Go.Oe
open Go.Wk
open Go.Ce (Tr)
open List renaming mem_append_right → zaV, mem_cons_of_mem → zaf, mem_cons_self → zah, nil_append → zaB
open Nat renaming le_of_ble_eq_true → zaD, le_refl → zap, one_pos → zbo
open Option renaming map_some → zaR
theorem rgK_of{ix:Nat→Nat}:∀{J:List Key} {q:Rg},q∈rgK ix J→∃k∈J,(∃t off x,k=.o' t off x∧q=(ix t,off,off+x.cn))∨∃t x,k=.w' t x∧q=(ix t,0,1)
 |k::J,q,h=>by
  cases k with
  |s' t x=>
   obtain⟨k2,h1,h2⟩:=rgK_of (show q∈rgK ix J from h)
   exact⟨k2,zaf _ h1,h2⟩
  |o' t off x=>
   rcases List.mem_cons.1 (show q∈(ix t,off,off+x.cn)::rgK ix J from h)with rfl|h
   ·exact⟨_,zah,.inl ⟨t,off,x,rfl,rfl⟩⟩
   ·obtain⟨k2,h1,h2⟩:=rgK_of h
    exact⟨k2,zaf _ h1,h2⟩
  |w' t x=>
   rcases List.mem_cons.1 (show q∈(ix t,0,1)::rgK ix J from h)with rfl|h
   ·exact⟨_,zah,.inr ⟨t,x,rfl,rfl⟩⟩
   ·obtain⟨k2,h1,h2⟩:=rgK_of h
    exact⟨k2,zaf _ h1,h2⟩
theorem rgK_o{ix:Nat→Nat}{t off:Nat}{x:Ty}:∀{J:List Key},Key.o' t off x∈J→(ix t,off,off+x.cn)∈rgK ix J
 |k::J,h=>by
  rcases List.mem_cons.1 h with rfl|h2
  ·exact zah
  ·cases k with
   |s' _ _=>exact(show _∈rgK ix J from rgK_o h2)
   |o' _ _ _=>exact zaf _ (rgK_o h2)
   |w' _ _=>exact zaf _ (rgK_o h2)
theorem rgK_w{ix:Nat→Nat}{t:Nat}{x:Ty}:∀{J:List Key},Key.w' t x∈J→(ix t,0,1)∈rgK ix J
 |k::J,h=>by
  rcases List.mem_cons.1 h with rfl|h2
  ·exact zah
  ·cases k with
   |s' _ _=>exact(show _∈rgK ix J from rgK_w h2)
   |o' _ _ _=>exact zaf _ (rgK_w h2)
   |w' _ _=>exact zaf _ (rgK_w h2)
theorem chkK_of{S:St}:∀{J:List Key},chkK S J=true→∀k∈J,match k with
  |.o' t off x=>∃e cs,S.H[S.ix t]? =some (.bl e cs)∧off+x.cn≤cs.length
  |.w' t _=>ank S.H[S.ix t]? =true
  |.s' _ _=>True
 |k::J,h,k2,hk=>by
  simp only [chkK]at h
  have h:=aeo h
  rcases List.mem_cons.1 hk with rfl|hk
  ·cases k2 with
   |s' _ _=>trivial
   |o' t off x=>
    have h1:=h.1
    simp only [aap]at h1
    split at h1
    ·rename_i e cs hc
     exact⟨e,cs,hc,zaD h1⟩
    ·cases h1
   |w' t x=>
    have h1:=h.1
    simp only [aap]at h1
    exact h1
  ·exact chkK_of h.2 k2 hk
theorem atp{H:List Ob}:∀{l:List SC} {id:Nat},id∈rowsC H l→ank H[id]? =true∨∃e cs,H[id]? =some (.bl e cs)
 |x::l,id,h=>by
  cases x
  case l' i=>
   simp only [rowsC]at h
   cases hr:ank (aiw H i)with
   |true=>
    rw [hr]at h
    rcases List.mem_cons.1 h with rfl|h
    ·rw [aap]at hr;exact .inl hr
    ·exact atp h
   |false=>rw [hr]at h;exact atp h
  case k' i n=>
   simp only [rowsC]at h
   split at h
   ·rename_i e cs hc
    rcases List.mem_cons.1 h with rfl|h
    ·rw [aap]at hc;exact .inr ⟨e,cs,hc⟩
    ·exact atp h
   ·exact atp h
  all_goals exact atp (l:=l) h
theorem eatK_of{ix:Nat→Nat}{F:Nat→SV}{H:List Ob}:∀{J:List Key} {id:Nat},id∈eatK ix F H J→ank H[id]? =true∨∃e cs,H[id]? =some (.bl e cs)
 |k::J,id,h=>by
  simp only [eatK]at h
  rcases List.mem_append.1 h with h|h
  ·cases k with
   |s' t x=>
    simp only at h
    cases hx:x.hasR with
    |false=>rw [hx]at h;cases h
    |true=>
     rw [hx]at h
     simp only [cond_true]at h
     split at h
     ·exact atp h
     ·cases h
   |o' t off x=>
    simp only at h
    cases hx:x.hasR with
    |false=>rw [hx]at h;cases h
    |true=>
     rw [hx]at h
     simp only [cond_true]at h
     split at h
     ·split at h
      ·exact atp h
      ·cases h
     ·cases h
   |w' t x=>cases h
  ·exact eatK_of h
theorem disR_of:∀{a b:List Rg},disR (a++b)=true→∀q∈a,∀r∈b,q.1=r.1→q.2.2≤r.2.1∨r.2.2≤q.2.1
 |x::a,b,h,q,hq,r,hr,he=>by
  have h:(bif disR.disQ x (a++b)then disR (a++b)else false)=true:=h
  have h:=aeo h
  rcases List.mem_cons.1 hq with rfl|hq
  ·have key:∀l:List Rg,disR.disQ q l=true→r∈l→q.2.2≤r.2.1∨r.2.2≤q.2.1:=by
    intro l
    induction l with
    |nil=>intro _ h;cases h
    |cons y l ih=>
     intro h hm
     simp only [disR.disQ,beqN,bleN,Bool.cond_decide]at h
     rcases List.mem_cons.1 hm with rfl|hm
     ·rw [if_pos he]at h
      by_cases h1:q.2.2≤r.2.1
      ·exact .inl h1
      ·rw [if_neg h1]at h
       by_cases h2:r.2.2≤q.2.1
       ·exact .inr h2
       ·rw [if_neg h2]at h;cases h
     ·refine ih ?_ hm
      split at h
      ·split at h
       ·exact h
       ·split at h
        ·exact h
        ·cases h
      ·exact h
   exact key _ h.1 (zaV _ hr)
  ·exact disR_of h.2 q hq r hr he
theorem tkI_of{n:Nat}{e:List Nat}:∀{l:List Nat},tk.tkI n e l=true→∀id∈l,id<n→id∈e
 |x::l,h,id,hi,hlt=>by
  simp only [tk.tkI]at h
  have h:=aeo h
  rcases List.mem_cons.1 hi with rfl|hi
  ·have h1:=h.1
   rw [bleN]at h1
   have:¬n≤id:=by omega
   simp only [this,decide_false,cond_false]at h1
   exact agr.1 h1
  ·exact tkI_of h.2 id hi hlt
theorem Fgt.len{rs:List Rg}{id:Nat}{o o2:Ob}(h:Fgt rs id o o2):o2.len=o.len:=by
 cases o with
 |bl e cs=>obtain⟨cs2,rfl,_⟩:=h;rfl
 |_=>
  rcases h with⟨rfl,_⟩|⟨rfl,_⟩
  ·rfl
  ·rfl
noncomputable def St.base(S:St)(J:List Key)(w:List Nat):Fr:=(del S.F w,kill (aod S.H (rgK S.ix J)) (S.eat J))
structure OkJ (S:St) (J:List Key):Prop where
 oks:S.oks (S.rgs J)=true
 dis:disR (S.rgs J)=true
 chk:chkK S J=true
theorem okJ_of{S:St}{J:List Key}(h:S.okJ J=true):OkJ S J:=by
 unfold St.okJ at h
 have h1:=aeo h
 have h2:=aeo h1.2
 have h3:=aeo h2.2
 exact⟨h1.1,h2.1,h3.2⟩
section
variable {C : Cx} {w0 w w2 : World} {S0 : List Nat} {ρ ρ2 ρ3 : Nat → Ad} {S S2 : St} {F F2 : Nat → Value} {J : List Key} {wl : List Nat}
theorem rel_lns{w:World}(h:Rel C w0 S0 ρ S F w):Lns ρ S.H:=by
 obtain⟨L,_,hM⟩:=h.mem
 exact hM.lns
theorem rel_brk{w:World}(h:Rel C w0 S0 ρ S F w):Brk S.H:=by
 obtain⟨L,hH,hM⟩:=h.mem
 exact hM.brk hH
theorem PI.baseG{H H2:List Ob}{R:List Rg}{E:List Nat}{Fm:Tr SV}(hln:Lns ρ H)(hho:∀(id e:Nat) (cs:List SC),H[id]? =some (.bl e cs)→∀c∈cs,c.ok H.length)
  (keyQ:∀q∈R,(∃e cs,H[q.1]? =some (.bl e cs)∧q.2.2≤cs.length)∨(ank H[q.1]? =true∧q.2=(0,1))) (eatQ:∀id∈E,ank H[id]? =true∨∃e cs,H[id]? =some (.bl e cs))
  (hle:Le H.length (R++amh H E) ρ H ρ2 H2) (hup:Up H.length ρ ρ3) (hfr:∀t u,(gtF Fm t).v ρ3=some u→F2 t=u) (hfo:∀t,(gtF Fm t).ok H.length):
  PI H.length H2 ρ ρ2 ρ3 F2 E H (R++amh H E) Fm (kill (aod H R) E) []:=by
 have hlen:(kill (aod H R) E).length=H.length:=by rw [atu,atj]
 have get:∀(id:Nat) (o:Ob),H[id]? =some o→∃o2,(aod H R)[id]? =some o2∧Fgt R id o o2∧(kill (aod H R) E)[id]? =if id∈E then some (.dd o.len)else some o2:=by
  intro id o ho
  obtain⟨o2,h1,h2⟩:=aps (rs:=R) ho
  refine⟨o2,h1,h2, ?_⟩
  rw [alv,h1,zaR,h2.len]
 have some0:∀(id:Nat) (o2:Ob),(kill (aod H R) E)[id]? =some o2→∃o,H[id]? =some o:=by
  intro id o2 h
  have:=(List.getElem?_eq_some_iff.1 h).1
  exact⟨_,List.getElem?_eq_getElem (by omega)⟩
 have covE:∀{id j:Nat},cov id j (R++amh H E)=true→cov id j R=true∨id∈E:=by
  intro id j h
  rcases afv.1 h with h|h
  ·exact .inl h
  ·obtain⟨q,hq,h1,_⟩:=adm.1 h
   obtain⟨id2,h2,rfl⟩:=wholeL_of hq
   exact .inr (h1▸h2)
 have covK:∀{id j:Nat},cov id j R=true→cov id j (R++amh H E)=true:=fun h=>afv.2 (.inl h)
 have covW:∀{id j:Nat},cov id j (amh H E)=true→cov id j (R++amh H E)=true:=fun h=>afv.2 (.inr h)
 refine⟨by rw [hlen];rfl,hfr,fun t=>by rw [hlen];exact hfo t,fun id e cs ho c hc=> ?_,fun id o ho=> ?_,fun id o hi ho=> ?_,fun j s o hj=>by simp at hj,fun id hi he=> ?_,fun id o ho=> ?_⟩
 ·rw [hlen]
  obtain⟨o,h0⟩:=some0 id _ ho
  obtain⟨o2,h1,h2,h3⟩:=get id o h0
  rw [h3]at ho
  split at ho
  ·cases ho
  ·cases ho
   cases o with
   |bl e2 cs2=>
    obtain⟨cs3,h4,h5,h6⟩:=h2
    cases h4
    obtain⟨j,hj⟩:=List.mem_iff_getElem?.1 hc
    rw [h6]at hj
    split at hj
    ·cases hcj:cs2[j]? with
     |none=>rw [hcj]at hj;cases hj
     |some _=>
      rw [hcj]at hj
      cases hj
      intro i hi;cases hi
    ·exact hho id e cs2 h0 c (List.mem_of_getElem? hj)
   |_=>
    rcases h2 with⟨h2,_⟩|⟨h2,_⟩
    ·cases h2
    ·cases h2
 ·obtain⟨o0,h0⟩:=some0 id _ ho
  obtain⟨o2,h1,h2,h3⟩:=get id o0 h0
  have hlt:=(List.getElem?_eq_some_iff.1 h0).1
  rw [hup id hlt,←hln id o0 h0]
  rw [h3]at ho
  split at ho
  ·cases ho;rfl
  ·cases ho;exact h2.len
 ·obtain⟨o0,h0⟩:=some0 id _ ho
  obtain⟨o2,h1,h2,h3⟩:=get id o0 h0
  rw [h3]at ho
  have hk:=hle.kp id o0 hi h0
  split at ho
  ·cases ho;trivial
  ·rename_i hE
   cases ho
   have hsubc:∀{j:Nat},cov id j ((R++amh H E))=true→cov id j (R)=true:=fun h=>(covE h).resolve_right hE
   cases o0 with
   |bl e cs0=>
    obtain⟨cs,rfl,h5,h6⟩:=h2
    rcases hk with hk|⟨cs2,hk1,hk2,hk3⟩
    ·exfalso
     obtain⟨q,hq,h7,h8,h9⟩:=adm.1 (hsubc (hk cs0.length (zap _)))
     rcases keyQ q hq with⟨e4,cs4,h10,h11⟩|⟨h10,h11⟩
     ·rw [h7,h0]at h10;cases h10;omega
     ·rw [h7,h0]at h10;cases h10
    ·refine⟨cs2,hk1,by rw [hk2,h5],fun j c hj hkn=> ?_⟩
     rw [h6]at hj
     split at hj
     ·cases hcj:cs0[j]? with
      |none=>rw [hcj]at hj;cases hj
      |some _=>rw [hcj]at hj;cases hj;cases hkn
     ·rename_i hnc
      rcases hk3 j c hj with h7|⟨c2,h7,h8⟩
      ·exact absurd (hsubc h7) hnc
      ·refine⟨c2,h7,(h8 hkn).1, ?_⟩
       rw [(h8 hkn).2]
       exact(SC.up hup (hho id e cs0 h0 c (List.mem_of_getElem? hj))).symm
   |rw e b t l=>
    rcases h2 with⟨rfl,h2⟩|⟨rfl,_⟩
    ·rcases hk with hk|hk
     ·obtain⟨q,hq,h7,_⟩:=adm.1 (hsubc hk)
      exact absurd h7 (h2 q hq)
     ·exact hk
    ·trivial
   |br m l=>
    rcases h2 with⟨rfl,h2⟩|⟨rfl,_⟩
    ·rcases hk with hk|hk
     ·obtain⟨q,hq,h7,_⟩:=adm.1 (hsubc hk)
      exact absurd h7 (h2 q hq)
     ·exact hk
    ·trivial
   |ro t l=>
    rcases h2 with⟨rfl,h2⟩|⟨rfl,_⟩
    ·exact hk
    ·trivial
   |dd n=>
    rcases h2 with⟨rfl,h2⟩|⟨rfl,_⟩<;>trivial
 ·obtain⟨o,h0⟩:∃o,H[id]? =some o:=⟨_,List.getElem?_eq_getElem hi⟩
  obtain⟨o2,h1,h2,h3⟩:=get id o h0
  rw [h3,if_pos he]
  exact⟨_,rfl⟩
 ·obtain⟨o2,h1,h2,h3⟩:=get id o ho
  rw [h3]
  by_cases hE:id∈E
  ·rw [if_pos hE]
   cases o with
   |bl e cs=>exact .inl fun j hj=>covW (wholeO_cov ho hE hj)
   |rw e b t l=>exact .inl (covW (api hE))
   |br m l=>exact .inl (covW (api hE))
   |ro t l=>
    rcases eatQ id hE with h|⟨_,_,h⟩<;>rw [ho]at h<;>cases h
   |dd n=>
    rcases eatQ id hE with h|⟨_,_,h⟩<;>rw [ho]at h<;>cases h
  ·rw [if_neg hE]
   cases o with
   |bl e cs=>
    obtain⟨cs2,rfl,h5,h6⟩:=h2
    refine .inr ⟨cs2,rfl,h5,fun j c hj=> ?_⟩
    by_cases hc:cov id j (R)=true
    ·exact .inl (covK hc)
    ·exact .inr ⟨c,by rw [h6,if_neg hc];exact hj,fun hk=>⟨hk,SC.up hup (hho id e cs ho c (List.mem_of_getElem? hj))⟩⟩
   |rw e b t l=>
    rcases h2 with⟨rfl,_⟩|⟨rfl,q,hq,rfl⟩
    ·exact .inr rfl
    ·rcases keyQ q hq with⟨e4,cs4,h10,h11⟩|⟨h10,h11⟩
     ·rw [ho]at h10;cases h10
     ·exact .inl (covK (adm.2 ⟨q,hq,rfl,by rw [h11];exact zap _,by rw [h11];exact zbo⟩))
   |br m l=>
    rcases h2 with⟨rfl,_⟩|⟨rfl,q,hq,rfl⟩
    ·exact .inr rfl
    ·rcases keyQ q hq with⟨e4,cs4,h10,h11⟩|⟨h10,h11⟩
     ·rw [ho]at h10;cases h10
     ·exact .inl (covK (adm.2 ⟨q,hq,rfl,by rw [h11];exact zap _,by rw [h11];exact zbo⟩))
   |ro t l=>
    rcases h2 with⟨rfl,_⟩|⟨rfl,q,hq,rfl⟩
    ·rfl
    ·rcases keyQ q hq with⟨e4,cs4,h10,h11⟩|⟨h10,h11⟩<;>rw [ho]at h10<;>cases h10
   |dd n=>
    rcases h2 with⟨rfl,_⟩|⟨rfl,_⟩<;>rfl
theorem PI.base(hS:Rel C w0 S0 ρ S F w)(hJ:OkJ S J)(hle:Le S.H.length (S.rgs J) ρ S.H ρ2 S2.H)(hw:∀t,t∉wl→F2 t=F t)(hup:Up S.H.length ρ ρ3):
  PI S.H.length S2.H ρ ρ2 ρ3 F2 (S.eat J) S.H (S.rgs J) (S.base J wl).1 (S.base J wl).2 []:=by
 refine PI.baseG (rel_lns hS) hS.ho (fun q hq=> ?_) (fun id hid=>eatK_of hid) hle hup (fun t u hu=> ?_) (fun t=> ?_)
 ·obtain⟨k,hk,⟨t,off,x,rfl,rfl⟩|⟨t,x,rfl,rfl⟩⟩:=rgK_of hq
  ·exact .inl (chkK_of hJ.chk _ hk)
  ·exact .inr ⟨chkK_of hJ.chk _ hk,rfl⟩
 ·rw [show(S.base J wl).1=del S.F wl from rfl,del_get]at hu
  split at hu
  ·cases hu
  ·rename_i ht
   rw [hw t ht]
   refine hS.fr t u ?_
   rw [←SV.up hup (hS.fo t)];exact hu
 ·rw [show(S.base J wl).1=del S.F wl from rfl,del_get]
  split
  ·trivial
  ·exact hS.fo t
theorem join_ok(hS:Rel C w0 S0 ρ S F w)(hJ:OkJ S J)(hle:Le S.H.length (S.rgs J) ρ S.H ρ2 S2.H)(hS2:Rel C w0 S0 ρ2 S2 F2 w2)(hw:∀t,t∉wl→F2 t=F t){v:(keyT J).T}(hl:leaf S J S2=some v):
  ∃ρ3,Up S.H.length ρ ρ3∧(∀S3:St,S3.F=(putK S.ix (S.base J wl) J v).1→S3.H=(putK S.ix (S.base J wl) J v).2→Rel C w0 S0 ρ3 S3 F2 w2)∧
   ∀(nb:Nat) (al:List Rg),(∀id j,id<nb→cov id j (S.rgs J)=true→cov id j al=true)→Le nb al ρ S.H ρ3 (putK S.ix (S.base J wl) J v).2:=by
 unfold leaf at hl
 split at hl
 ·rename_i v2 ss hr
  cases htk:tk S J ss with
  |false=>rw [htk]at hl;cases hl
  |true=>
   cases hsub:subR S.H.length (S.rgs J) S2.m with
   |false=>rw [htk,hsub]at hl;cases hl
   |true=>
    rw [htk,hsub]at hl
    cases hl
    have htk:=aeo htk
    let ρ3:Nat→Ad:=fun id=>if id<S.H.length then ρ2 id else match ss[id-S.H.length]? with
     |some s=>s.ad ρ2
     |none=>ρ2 id
    have hup2:Up S.H.length ρ2 ρ3:=fun id hi=>by simp only [ρ3,hi,if_true]
    have hup:Up S.H.length ρ ρ3:=hle.up.trans hup2 (zap _)
    have had:∀(j:Nat) (s:Src),ss[j]? =some s→ρ3 (S.H.length+j)=s.ad ρ2:=by
     intro j s hj
     have h1:¬S.H.length+j<S.H.length:=by omega
     have h2:S.H.length+j-S.H.length=j:=by omega
     simp only [ρ3,h1,if_false,h2,hj]
    have h0:=PI.base (wl:=wl) hS hJ hle hw hup
    have hlen:(S.base J wl).2.length=S.H.length:=h0.len
    have hkc:∀k∈J,KC S.H.length S.H (S.eat J) (S.rgs J) S.ix k:=by
     intro k hk
     have hck:=chkK_of hJ.chk k hk
     cases k with
     |s' _ _=>trivial
     |o' t off x=>
      obtain⟨e,cs,h1,h2⟩:=hck
      exact⟨(List.getElem?_eq_some_iff.1 h1).1,fun j h3 h4=>afv.2 (.inl (adm.2 ⟨_,rgK_o hk,rfl,h3,h4⟩))⟩
     |w' t x=>
      have hck:ank S.H[S.ix t]? =true:=hck
      have hlt:S.ix t<S.H.length:=by
       cases h1:S.H[S.ix t]? with
       |none=>rw [h1]at hck;cases hck
       |some _=>exact(List.getElem?_eq_some_iff.1 h1).1
      refine⟨hlt,afv.2 (.inl (adm.2 ⟨_,rgK_w hk,rfl,zap _,zbo⟩)),fun hE=> ?_,hck⟩
      have:=disR_of (show disR (rgK S.ix J++amh S.H (S.eat J))=true from hJ.dis) _ (rgK_w hk) _ (asv hE) rfl
      have h5:0<(wholeO S.H (S.ix t)).2.2:=by
       unfold wholeO
       simp only
       split
       ·exact Nat.succ_pos _
       ·exact zbo
      rcases this with h6|h6
      ·exact absurd h6 (by show¬1≤0;omega)
      ·exact absurd h6 (by show¬_≤0;omega)
    have hP:=PI.steps (rel_lns hS2) (rel_brk hS2) (zap _) hup2 hS2.fr J _ _ [] v ss h0 hr hkc (by rw [hlen];exact had)
    rw [zaB]at hP
    obtain⟨L,hH,hM⟩:=hS2.mem
    obtain⟨L3,hH3,hM3⟩:=hP.mem hH hM hup2 had (nodN_iff.1 htk.1) (tkI_of htk.2)
    refine⟨ρ3,hup,fun S3 hF hH'=> ?_,fun nb al hal=> ?_⟩
    ·refine⟨fun g id hg=> ?_,fun t u hu=> ?_,fun t=> ?_, ?_,⟨L3,hH3,by rw [hH'];exact hM3⟩⟩
     ·obtain⟨h1,h2⟩:=hS.gl g id hg
      have:=hP.len
      rw [hH']
      exact⟨by have:(putK S.ix (S.base J wl) J v).2.length=S.H.length+ss.length:=this;omega,by rw [hup id h1];exact h2⟩
     ·rw [St.at_eq,hF]at hu
      exact hP.fr t u hu
     ·rw [St.at_eq,hF,hH']
      exact hP.fo t
     ·rw [hH'];exact hP.ho
    ·refine⟨?_,hup,fun id o hi ho=>(hP.kp id o ho).mono fun j=>hal id j hi⟩
     have:(putK S.ix (S.base J wl) J v).2.length=S.H.length+ss.length:=hP.len
     omega
 ·cases hl
end
open Go.Wk
open Go.Ce (Tr)
open List renaming range → zbq
open Nat renaming le_refl → zap
section
variable {P : Program} {n : Md} {Q : Exit → Act → World → Prop} {F : Nat → Value} {w : World}
theorem c_fr{c:Code}{F2:Nat→Value}(h:Go.Wk.C P n Q c F w)(e:fr n F2=fr n F):Go.Wk.C P n Q c F2 w:=by
 unfold Go.Wk.C at h⊢
 rw [e];exact h
theorem app_map{f G:Nat→Value}{t:Nat}:∀{l:List Nat},app (l.map fun t=>(t,f t)) G t=if t∈l then f t else G t
 |[]=>by simp [app]
 |x::l=>by
  show upd (app (l.map fun t=>(t,f t)) G) x (f x) t=_
  by_cases h:t=x
  ·subst h;rw [aqt];simp
  ·rw [upd_ne _ _ _ _ h,app_map];simp [h]
theorem agrees_map{f:Nat→Value}:∀{l:List Nat},agrees f (l.map fun t=>(t,f t))
 |[]=>trivial
 |x::l=>⟨rfl,agrees_map⟩
theorem fr_congr{F2:Nat→Value}(h:∀t,t<n.n→F2 t=F t):fr n F2=fr n F:=by
 unfold fr
 congr 1
 congr 1
 funext i
 exact h i.val i.isLt
theorem c_loopI{c:Code}(I:Nat→(Nat→Value)→World→Prop)(k0:Nat)(h0:I k0 F w)(round:∀k F w,I k F w→Go.Wk.C P n (Exit.then (fun a' w'=>∃k' F',a'=fr n F'∧k'<k∧I k' F' w') Q) c F w):Go.Wk.C P n Q (.loop c) F w:=by
 refine c_loop (σ:=Nat×(Nat→Value)) (fun s=>(zbq n.n).map fun t=>(t,s.2 t)) (fun s w=>I s.1 s.2 w) (fun s=>s.1) (k0,F) agrees_map h0 fun s w G hI=> ?_
 have e:fr n (app ((zbq n.n).map fun t=>(t,s.2 t)) G)=fr n s.2:=fr_congr fun t ht=>by rw [app_map];simp [ht]
 refine c_fr (c_mono (round s.1 s.2 w hI) fun e a w' h=> ?_) e
 cases e with
 |normal=>
  obtain⟨k',F',h1,h2,h3⟩:=h
  exact⟨(k',F'),F',h1,agrees_map,h3,h2⟩
 |_=>exact h
theorem q_next'{y:Code}(h:Go.Wk.C P n Q y F w):SeqQ P n y Q .normal (fr n F) w:=by
 obtain⟨k,D,ro⟩:=n
 exact q_next h
end
structure Lf (S:St) (ρ:Nat→Ad) (S2:St) (ρ2:Nat→Ad):Prop where
 nb:S2.nb=S.nb
 al:S2.al=S.al
 le:Le S.nb S.al ρ S.H ρ2 S2.H
structure Nx (S:St) (ρ:Nat→Ad) (S2:St) (ρ2:Nat→Ad):Prop extends Lf S ρ S2 ρ2 where
 lg:Le S.H.length S2.m ρ S.H ρ2 S2.H
 mm:∀id j,cov id j S.m=true→cov id j S2.m=true
theorem Lf.refl{S:St}{ρ:Nat→Ad}:Lf S ρ S ρ:=⟨rfl,rfl,Le.refl⟩
theorem Lf.trans{S S2 S3:St}{ρ ρ2 ρ3:Nat→Ad}(h:Lf S ρ S2 ρ2)(h':Lf S2 ρ2 S3 ρ3):Lf S ρ S3 ρ3:=by
 have hl:=h'.le
 rw [h.nb,h.al]at hl
 exact⟨h'.nb.trans h.nb,h'.al.trans h.al,h.le.trans hl⟩
theorem Nx.refl{S:St}{ρ:Nat→Ad}:Nx S ρ S ρ:=⟨Lf.refl,Le.refl,fun _ _ h=>h⟩
theorem Nx.trans{S S2 S3:St}{ρ ρ2 ρ3:Nat→Ad}(h:Nx S ρ S2 ρ2)(h':Nx S2 ρ2 S3 ρ3):Nx S ρ S3 ρ3:=
 ⟨h.toLf.trans h'.toLf,(h.lg.mono (zap _) fun id j _ hc=>h'.mm id j hc).trans (h'.lg.mono h.lg.len fun id j _ hc=>hc),fun id j hc=>h'.mm id j (h.mm id j hc)⟩
def exO:Ex→Exit
 |.nm=>.normal
 |.xt i=>.exit i
def RanC(C:Cx)(md:Md)(c:Code)(F:Nat→Value):Prop:=∀(i d:Nat) (o:Oper),okR1 (asx c) i=true→(asx c)[i]? =some o→o.dst=some d→∃w1 w2,(execOp (evn md F) o).run C.P w1=.ok (.value (F d)) w2
def PureOk(C:Cx)(md:Md):Prop:=∀(w0:World) (S0:List Nat) (ρ:Nat→Ad) (S:St) (F:Nat→Value) (w:World) (op:Op) (v:SV) (H:List Ob) (m:List Rg),Rel C w0 S0 ρ S F w→isPure op=true→opP C (S.ev C) S.H op=some ⟨[],v,H,m⟩→∀w',Val C md ρ S F w' op v
def RegOk(C:Cx)(md:Md)(w0:World)(S0:List Nat)(id:Nat)(ops:Array Oper)(d:Bool):Prop:=∀(ρ':Ty) (S:St) (κ:St→Option ρ'.T) (r:ρ'.T) (ρ:Nat→Ad) (F:Nat→Value) (w:World) (Q:Exit→Act→World→Prop),(bif d then drawnD C ops S κ else opsD C ops.toList ops.toList 0 S κ)=some r→Rel C w0 S0 ρ S F w→
 (∀S2 ρ2 F2 w2,κ S2=some r→Rel C w0 S0 ρ2 S2 F2 w2→Nx S ρ S2 ρ2→(∀t,t∉wrO ops.toList→F2 t=F t)→RanC C md (.region id ops d) F2→Q .normal (fr md F2) w2)→Go.Wk.C C.P md Q (.region id ops d) F w
def RegsOk(C:Cx)(md:Md)(w0:World)(S0:List Nat):Code→Prop
 |.region id ops d=>RegOk C md w0 S0 id ops d
 |.seq a b=>RegsOk C md w0 S0 a∧RegsOk C md w0 S0 b
 |.cond _ a b=>RegsOk C md w0 S0 a∧RegsOk C md w0 S0 b
 |.block _ a=>RegsOk C md w0 S0 a
 |.loop a=>RegsOk C md w0 S0 a
 |.scope a=>RegsOk C md w0 S0 a
 |_=>True
section
variable {C : Cx} {md : Md} {w0 : World} {S0 : List Nat} {τ : Ty} {res : St → Option τ.T}
theorem Rel.same{ρ:Nat→Ad}{S S2:St}{F:Nat→Value}{w:World}(h:Rel C w0 S0 ρ S F w)(hF:S2.F=S.F)(hH:S2.H=S.H):Rel C w0 S0 ρ S2 F w:=by
 have ha:∀t,S2.at t=S.at t:=fun t=>by rw [St.at_eq,St.at_eq,hF]
 refine⟨?_,fun t v hv=>h.fr t v (by rw [←ha];exact hv),fun t=>by rw [ha,hH];exact h.fo t, ?_, ?_⟩
 ·rw [hH];exact h.gl
 ·rw [hH];exact h.ho
 ·rw [hH];exact h.mem
theorem Rel.set{ρ:Nat→Ad}{S:St}{F:Nat→Value}{w:World}(h:Rel C w0 S0 ρ S F w){d:Nat}{v:SV}(hv:∀u,v.v ρ=some u→F d=u)(ho:v.ok S.H.length):Rel C w0 S0 ρ (S.set d v) F w:=by
 refine⟨h.gl,fun t u hu=> ?_,fun t=> ?_,h.ho,h.mem⟩
 ·rw [at_set]at hu
  by_cases e:t=d
  ·rw [if_pos e]at hu;subst e;exact hv u hu
  ·rw [if_neg e]at hu;exact h.fr t u hu
 ·rw [at_set]
  by_cases e:t=d
  ·rw [if_pos e];exact ho
  ·rw [if_neg e];exact h.fo t
theorem again_ok(hp:PureOk C md){c:Code}{ρ:Nat→Ad}{F:Nat→Value}{w:World}(hran:RanC C md c F):∀(R:List Nat) (S:St),okR (asx c) R=true→Rel C w0 S0 ρ S F w→
  Rel C w0 S0 ρ (again C (asx c) R S) F w∧(again C (asx c) R S).H=S.H∧(again C (asx c) R S).nb=S.nb∧(again C (asx c) R S).al=S.al∧(again C (asx c) R S).m=S.m
 |[],S,_,h=>⟨h,rfl,rfl,rfl,rfl⟩
 |i::R,S,hR,h=>by
  simp only [okR]at hR
  have hR:=aeo hR
  have stay:=again_ok hp hran R S hR.2 h
  simp only [again]
  split
  ·rename_i o ho
   split
   ·rename_i d hd
    split
    ·rename_i v H m hop
     ·rw [aap]at ho
      obtain⟨w1,w2,hr⟩:=hran i d o hR.1 ho hd
      have h1:=hR.1
      unfold okR1 at h1
      rw [aap,ho]at h1
      simp only [hd]at h1
      have h1:=aeo h1
      have h2:=aeo h1.2
      obtain⟨hok,u,hu,hx⟩:=hp w0 S0 ρ S F w o.op v H m h h2.1 hop w1
      have hg:o.guard=none:=by
       cases hg:o.guard with
       |none=>rfl
       |some q=>rw [hg]at h1;cases h1.1
      have hu2:u=F d:=by
       have e:o=⟨some d,o.op,o.type,o.pos,o.after,none⟩:=by rw [←hd,←hg]
       have h3:=hx d o.type o.pos o.after
       rw [←e,hr]at h3
       cases h3;rfl
      have h4:=again_ok hp hran R (S.set d v) hR.2 (h.set (fun u2 hu3=>by rw [hu]at hu3;cases hu3;exact hu2.symm) hok)
      exact h4
    ·exact stay
   ·exact stay
  ·exact stay
theorem brB_ok{T:Type}{ρ:Nat→Ad}{S:St}{F:Nat→Value}{w:World}(h:Rel C w0 S0 ρ S F w)(hn:C.nn=md.n){c:Operand}{y n:Option T}{r:T}(hb:brB (S.ev C c) y n=some r):
  ∃b,evn md F c=.bool b∧(b=true→y=some r)∧(b=false→n=some r):=by
 unfold brB at hb
 split at hb
 ·rename_i x hx
  refine⟨x,(adu h hn hx).2,fun e=> ?_,fun e=> ?_⟩<;>(subst e;exact hb)
 ·rename_i p hp hx
  refine⟨@decide p hp,(adu h hn hx).2,fun e=> ?_,fun e=> ?_⟩
  ·rw [if_pos (of_decide_eq_true e)]at hb;exact hb
  ·rw [if_neg (of_decide_eq_false e)]at hb;exact hb
 ·rename_i p hp hx
  refine⟨!@decide p hp,(adu h hn hx).2,fun e=> ?_,fun e=> ?_⟩
  ·have:¬p:=by simpa using e
   rw [if_neg this]at hb;exact hb
  ·have:p:=by simpa using e
   rw [if_pos this]at hb;exact hb
 ·cases hb
def Snd(C:Cx)(md:Md)(w0:World)(S0:List Nat)(τ:Ty)(res:St→Option τ.T)(c:Code):Prop:=
 ∀(sc:Sc) (S:St) (ρ':Ty) (ps:τ.T→Option ρ'.T) (κ:Ex→St→Option ρ'.T) (r:ρ'.T) (ρ:Nat→Ad) (F:Nat→Value) (w:World) (Q:Exit→Act→World→Prop),den C τ res c sc S ρ' ps κ=some r→Rel C w0 S0 ρ S F w→
  (∀e S2 ρ2 F2 w2,κ e S2=some r→Rel C w0 S0 ρ2 S2 F2 w2→Nx S ρ S2 ρ2→(∀t,t∉wr c→F2 t=F t)→(e=.nm→RanC C md c F2)→Q (exO e) (fr md F2) w2)→
  (∀y S2 ρ2 F2 w2,res S2=some y→ps y=some r→Rel C w0 S0 ρ2 S2 F2 w2→Lf S ρ S2 ρ2→Q .ret (fr md F2) w2)→Go.Wk.C C.P md Q c F w
theorem aoi{c:Code}{F:Nat→Value}(h:asx c=[]):RanC C md c F:=fun i d o _ ho=>by rw [h]at ho;simp at ho
end
open Go.Wk
open Go.Ce (Tr)
open List renaming mem_append_left → zbc, mem_append_right → zaV
open Nat renaming beq → zai, eq_of_beq_eq_true → zag, le_refl → zap, lt_succ_self → zaX
open Sum renaming elim → zaJ
section
variable {C : Cx} {md : Md} {w0 : World} {S0 : List Nat} {τ : Ty} {res : St → Option τ.T}
theorem leaf_sub{S S2:St}{J:List Key}{v:(keyT J).T}(h:leaf S J S2=some v):subR S.H.length (S.rgs J) S2.m=true:=by
 unfold leaf at h
 split at h
 ·cases htk:tk S J _ with
  |false=>rw [htk]at h;cases h
  |true=>
   cases hsub:subR S.H.length (S.rgs J) S2.m with
   |false=>rw [htk,hsub]at h;cases h
   |true=>rfl
 ·cases h
theorem out_F{S:St}{J:List Key}{w:List Nat}{v:(keyT J).T}:(S.out J w v).F=(putK S.ix (S.base J w) J v).1:=rfl
theorem out_H{S:St}{J:List Key}{w:List Nat}{v:(keyT J).T}:(S.out J w v).H=(putK S.ix (S.base J w) J v).2:=rfl
theorem snd_plain{a b:Code}(ha:Snd C md w0 S0 τ res a)(hb:Snd C md w0 S0 τ res b)(sa sb:Sc)(S:St)(ρ':Ty)(ps:τ.T→Option ρ'.T)(κ:Ex→St→Option ρ'.T)(r:ρ'.T)(ρ:Nat→Ad)(F:Nat→Value)(w:World)(Q:Exit→Act→World→Prop)
  (h:den C τ res a sa S ρ' ps (thenK κ fun S2=>den C τ res b sb S2 ρ' ps κ)=some r) (hS:Rel C w0 S0 ρ S F w)
  (hK:∀e S2 ρ2 F2 w2,κ e S2=some r→Rel C w0 S0 ρ2 S2 F2 w2→Nx S ρ S2 ρ2→(∀t,t∉wr (.seq a b)→F2 t=F t)→(e=.nm→RanC C md (.seq a b) F2)→Q (exO e) (fr md F2) w2)
  (hR:∀y S2 ρ2 F2 w2,res S2=some y→ps y=some r→Rel C w0 S0 ρ2 S2 F2 w2→Lf S ρ S2 ρ2→Q .ret (fr md F2) w2):Go.Wk.C C.P md Q (.seq a b) F w:=by
 have hw:wr (.seq a b)=wr a++wr b:=rfl
 refine c_seq (ha sa S ρ' ps _ r ρ F w _ h hS (fun e S2 ρ2 F2 w2 he hS2 hN hf _=> ?_) (fun y S2 ρ2 F2 w2 hy hp hS2 hL=>s_ret (hR y S2 ρ2 F2 w2 hy hp hS2 hL)))
 cases e with
 |nm=>
  refine q_next' (hb sb S2 ρ' ps κ r ρ2 F2 w2 Q he hS2 (fun e3 S3 ρ3 F3 w3 he3 hS3 hN3 hf3 _=> ?_) (fun y S3 ρ3 F3 w3 hy hp hS3 hL=>hR y S3 ρ3 F3 w3 hy hp hS3 (hN.toLf.trans hL)))
  exact hK e3 S3 ρ3 F3 w3 he3 hS3 (hN.trans hN3) (fun t ht=>by
   rw [hw]at ht
   rw [hf3 t fun h=>ht (zaV _ h),hf t fun h=>ht (zbc _ h)]) (fun _=>aoi rfl)
 |xt i=>
  exact s_exit (hK (.xt i) S2 ρ2 F2 w2 he hS2 hN (fun t ht=>hf t fun h=>ht (by rw [hw];exact zbc _ h)) (fun h=>by cases h))
theorem nx_out{S S3:St}{ρ ρ3:Nat→Ad}{J:List Key}{H:List Ob}(hJ:OkJ S J)(hH:S3.H=H)(hnb:S3.nb=S.nb)(hal:S3.al=S.al)(hm:S3.m=S.rgs J++S.m)(hle:∀(nb:Nat) (al:List Rg),(∀id j,id<nb→cov id j (S.rgs J)=true→cov id j al=true)→Le nb al ρ S.H ρ3 H):Nx S ρ S3 ρ3:=by
 refine⟨⟨hnb,hal, ?_⟩, ?_,fun id j hc=> ?_⟩
 ·rw [hH];exact hle S.nb S.al fun id j hi hc=>oks_cov hJ.oks hi hc
 ·rw [hH,hm];exact hle _ _ fun id j _ hc=>afv.2 (.inl hc)
 ·rw [hm];exact afv.2 (.inr hc)
theorem into_le{S S2:St}{ρ ρ2:Nat→Ad}{J:List Key}(h:Le S.H.length S2.m ρ S.H ρ2 S2.H)(hs:subR S.H.length (S.rgs J) S2.m=true):Le S.H.length (S.rgs J) ρ S.H ρ2 S2.H:=
 h.mono (zap _) fun id j hi hc=>subR_ok hs hi hc
theorem out_ok(hp:PureOk C md){a:Code}{S S2:St}{J:List Key}{R:List Nat}{ρ ρ2:Nat→Ad}{F F2:Nat→Value}{w w2:World}(hS:Rel C w0 S0 ρ S F w)(hJ:OkJ S J)(hR:okR (asx a) R=true)(hS2:Rel C w0 S0 ρ2 S2 F2 w2)(hN:Nx S.into ρ S2 ρ2)
  (hf:∀t,t∉wr a→F2 t=F t) (hran:RanC C md a F2) {v:(keyT J).T} (hl:leaf S J S2=some v):∃ρ3,Rel C w0 S0 ρ3 (again C (asx a) R (S.out J (wr a) v)) F2 w2∧Nx S ρ (again C (asx a) R (S.out J (wr a) v)) ρ3:=by
 obtain⟨ρ3,hup,h1,h2⟩:=join_ok (wl:=wr a) hS hJ (into_le hN.lg (leaf_sub hl)) hS2 hf hl
 obtain⟨h3,h4,h5,h6,h7⟩:=again_ok hp hran R _ hR (h1 (S.out J (wr a) v) out_F out_H)
 exact⟨ρ3,h3,nx_out hJ (h4.trans out_H) h5 h6 h7 h2⟩
theorem den_sound(hn:C.nn=md.n)(hD:∃k,md=⟨k,[],none⟩)(hp:PureOk C md):∀(c:Code),RegsOk C md w0 S0 c→Snd C md w0 S0 τ res c:=by
 intro c
 induction c with
 |skip=>
  intro _ sc S ρ' ps κ r ρ F w Q h hS hK hR
  exact c_skip (hK .nm S ρ F w h hS Nx.refl (fun _ _=>rfl) (fun _=>aoi rfl))
 |label l=>
  intro _ sc S ρ' ps κ r ρ F w Q h hS hK hR
  exact c_label (hK .nm S ρ F w h hS Nx.refl (fun _ _=>rfl) (fun _=>aoi rfl))
 |exit id=>
  intro _ sc S ρ' ps κ r ρ F w Q h hS hK hR
  exact c_exit (hK (.xt id) S ρ F w h hS Nx.refl (fun _ _=>rfl) (fun h=>by cases h))
 |goto l=>intro _ sc S ρ' ps κ r ρ F w Q h;cases h
 |refuse l=>intro _ sc S ρ' ps κ r ρ F w Q h;cases h
 |rangeFunc f p a b _ _=>intro _ sc S ρ' ps κ r ρ F w Q h;cases h
 |ret=>
  intro _ sc S ρ' ps κ r ρ F w Q h hS hK hR
  have h:(match res S with
   |some q=>ps q
   |none=>none)=some r:=h
  split at h
  ·rename_i q hq
   exact c_ret (hR q S ρ F w hq h hS Lf.refl)
  ·cases h
 |region id ops d=>
  intro hreg sc S ρ' ps κ r ρ F w Q h hS hK hR
  exact hreg ρ' S (fun S2=>κ .nm S2) r ρ F w Q h hS fun S2 ρ2 F2 w2 h2 hS2 hN hf hran=>hK .nm S2 ρ2 F2 w2 h2 hS2 hN hf (fun _=>hran)
 |scope a ih=>
  intro hreg sc S ρ' ps κ r ρ F w Q h hS hK hR
  obtain⟨k,rfl⟩:=hD
  refine c_scope (ih hreg sc S ρ' ps κ r ρ F w _ h hS (fun e S2 ρ2 F2 w2 he hS2 hN hf hran=> ?_) (fun y S2 ρ2 F2 w2 hy hps hS2 hL=>n_ret (hR y S2 ρ2 F2 w2 hy hps hS2 hL)))
  have:=hK e S2 ρ2 F2 w2 he hS2 hN hf (fun _=>aoi rfl)
  cases e with
  |nm=>exact n_normal this
  |xt i=>exact n_exit this
 |block id a ih=>
  intro hreg sc S ρ' ps κ r ρ F w Q h hS hK hR
  refine c_block (ih hreg sc S ρ' ps (hereK id κ) r ρ F w _ h hS (fun e S2 ρ2 F2 w2 he hS2 hN hf hran=> ?_) (fun y S2 ρ2 F2 w2 hy hps hS2 hL=>b_ret (hR y S2 ρ2 F2 w2 hy hps hS2 hL)))
  cases e with
  |nm=>exact b_normal (hK .nm S2 ρ2 F2 w2 he hS2 hN hf (fun _=>aoi rfl))
  |xt i=>
   have he:(bif zai i id then κ .nm S2 else κ (.xt i) S2)=some r:=he
   cases hb:zai i id with
   |true=>
    rw [hb]at he
    rw [zag hb]
    exact b_here (hK .nm S2 ρ2 F2 w2 he hS2 hN hf (fun _=>aoi rfl))
   |false=>
    rw [hb]at he
    exact b_past hb (hK (.xt i) S2 ρ2 F2 w2 he hS2 hN hf (fun h=>by cases h))
 |cond c a b iha ihb=>
  intro hreg sc S ρ' ps κ r ρ F w Q h hS hK hR
  have hwr:wr (.cond c a b)=wr a++wr b:=rfl
  have hA:∀sa,den C τ res a sa S ρ' ps κ=some r→Go.Wk.C C.P md Q a F w:=fun sa h=>iha hreg.1 sa S ρ' ps κ r ρ F w Q h hS (fun e S2 ρ2 F2 w2 he hS2 hN hf _=>hK e S2 ρ2 F2 w2 he hS2 hN (fun t ht=>hf t fun h=>ht (by rw [hwr];exact zbc _ h)) (fun _=>aoi rfl)) hR
  have hB:∀sb,den C τ res b sb S ρ' ps κ=some r→Go.Wk.C C.P md Q b F w:=fun sb h=>ihb hreg.2 sb S ρ' ps κ r ρ F w Q h hS (fun e S2 ρ2 F2 w2 he hS2 hN hf _=>hK e S2 ρ2 F2 w2 he hS2 hN (fun t ht=>hf t fun h=>ht (by rw [hwr];exact zaV _ h)) (fun _=>aoi rfl)) hR
  have both:∀sa sb,brB (S.ev C c) (den C τ res a sa S ρ' ps κ) (den C τ res b sb S ρ' ps κ)=some r→Go.Wk.C C.P md Q (.cond c a b) F w:=by
   intro sa sb h
   obtain⟨x,h1,h2,h3⟩:=brB_ok hS hn h
   exact c_bool h1 (fun e=>hA sa (h2 e)) (fun e=>hB sb (h3 e))
  cases sc with
  |y' sa=>
   obtain⟨x,h1,h2,h3⟩:=brB_ok hS hn (show brB (S.ev C c) (den C τ res a sa S ρ' ps κ) none=some r from h)
   exact c_bool h1 (fun e=>hA sa (h2 e)) (fun e=>by have:=h3 e;cases this)
  |z' sb=>
   obtain⟨x,h1,h2,h3⟩:=brB_ok hS hn (show brB (S.ev C c) none (den C τ res b sb S ρ' ps κ)=some r from h)
   exact c_bool h1 (fun e=>by have:=h2 e;cases this) (fun e=>hB sb (h3 e))
  |n'=>exact both _ _ h
  |s' x y=>exact both _ _ h
  |j' J R x y=>exact both _ _ h
  |r' J R x y=>exact both _ _ h
  |l' J x=>exact both _ _ h
 |seq a b iha ihb=>
  intro hreg sc S ρ' ps κ r ρ F w Q h hS hK hR
  have iha:=iha hreg.1
  have ihb:=ihb hreg.2
  have hwr:wr (.seq a b)=wr a++wr b:=rfl
  cases sc with
  |j' J R sa sb=>
   have h:(bif S.okJ J then(bif okR (asx a) R then Option.bind (den C τ res a sa S.into (keyT J) (fun _=>none) (thenK noK (leaf S J))) (fun v=>den C τ res b sb (again C (asx a) R (S.out J (wr a) v)) ρ' ps κ)else none)else none)=some r:=h
   have h:=aag h
   have h2:=aag h.2
   have hJ:=okJ_of h.1
   obtain⟨v,h3,h4⟩:=bind_inv h2.2
   refine c_seq (iha sa S.into (keyT J) _ _ v ρ F w _ h3 (hS.same rfl rfl) (fun e S2 ρ2 F2 w2 he hS2 hN hf hran=> ?_) (fun y S2 ρ2 F2 w2 hy hps=>by cases hps))
   cases e with
   |xt i=>cases he
   |nm=>
    obtain⟨ρ3,h5,h6⟩:=out_ok hp hS hJ h2.1 hS2 hN hf (hran rfl) he
    refine q_next' (ihb sb _ ρ' ps κ r ρ3 F2 w2 Q h4 h5 (fun e3 S3 ρ4 F3 w3 he3 hS3 hN3 hf3 _=> ?_) (fun y S3 ρ4 F3 w3 hy hps hS3 hL=>hR y S3 ρ4 F3 w3 hy hps hS3 (h6.toLf.trans hL)))
    exact hK e3 S3 ρ4 F3 w3 he3 hS3 (h6.trans hN3) (fun t ht=>by
     rw [hwr]at ht
     rw [hf3 t fun h=>ht (zaV _ h),hf t fun h=>ht (zbc _ h)]) (fun _=>aoi rfl)
  |r' J R sa sb=>
   have h:(bif S.okJ J then(bif okR (asx a) R then Option.bind (den C τ res a sa S.into (.sm (keyT J) τ) (fun r=>some (.inr r)) (thenK noK (leafR τ S J))) (fun j=>zaJ (fun v=>den C τ res b sb (again C (asx a) R (S.out J (wr a) v)) ρ' ps κ) (fun q=>ps q) j)else none)else none)=some r:=h
   have h:=aag h
   have h2:=aag h.2
   have hJ:=okJ_of h.1
   obtain⟨v,h3,h4⟩:=bind_inv h2.2
   refine c_seq (iha sa S.into (.sm (keyT J) τ) _ _ v ρ F w _ h3 (hS.same rfl rfl) (fun e S2 ρ2 F2 w2 he hS2 hN hf hran=> ?_) (fun y S2 ρ2 F2 w2 hy hps hS2 hL=> ?_))
   ·cases e with
    |xt i=>cases he
    |nm=>
     have he:leafR τ S J S2=some v:=he
     unfold leafR at he
     split at he
     ·rename_i v2 hv2
      cases he
      obtain⟨ρ3,h5,h6⟩:=out_ok hp hS hJ h2.1 hS2 hN hf (hran rfl) hv2
      refine q_next' (ihb sb _ ρ' ps κ r ρ3 F2 w2 Q h4 h5 (fun e3 S3 ρ4 F3 w3 he3 hS3 hN3 hf3 _=> ?_) (fun y S3 ρ4 F3 w3 hy hps hS3 hL=>hR y S3 ρ4 F3 w3 hy hps hS3 (h6.toLf.trans hL)))
      exact hK e3 S3 ρ4 F3 w3 he3 hS3 (h6.trans hN3) (fun t ht=>by
       rw [hwr]at ht
       rw [hf3 t fun h=>ht (zaV _ h),hf t fun h=>ht (zbc _ h)]) (fun _=>aoi rfl)
     ·cases he
   ·cases hps
    exact s_ret (hR y S2 ρ2 F2 w2 hy h4 hS2 ⟨hL.nb,hL.al,hL.le⟩)
  |n'=>exact snd_plain iha ihb _ _ S ρ' ps κ r ρ F w Q h hS hK hR
  |s' x y=>exact snd_plain iha ihb _ _ S ρ' ps κ r ρ F w Q h hS hK hR
  |l' J x=>exact snd_plain iha ihb _ _ S ρ' ps κ r ρ F w Q h hS hK hR
  |y' x=>exact snd_plain iha ihb _ _ S ρ' ps κ r ρ F w Q h hS hK hR
  |z' x=>exact snd_plain iha ihb _ _ S ρ' ps κ r ρ F w Q h hS hK hR
 |loop a ih=>
  intro hreg sc S ρ' ps κ r ρ F w Q h hS hK hR
  have hwr:wr (.loop a)=wr a:=rfl
  cases sc with
  |l' J sa=>
   have h:(bif S.okJ J then(match leaf S J S.into with
    |some v=>loopF (fun g v=>den C τ res a sa (S.head J (wr a) v) ρ' ps (thenK (fun e S2=>κ e (S2.as S J)) (backK (leaf S J) g))) C.fu v
    |none=>none)else none)=some r:=h
   have h:=aag h
   have hJ:=okJ_of h.1
   have h2:=h.2
   split at h2
   ·rename_i v hv
    generalize hf0:(fun(g:(keyT J).T→Option ρ'.T) v=>den C τ res a sa (S.head J (wr a) v) ρ' ps (thenK (fun e S2=>κ e (S2.as S J)) (backK (leaf S J) g)))=f0 at h2
    let I:Nat→(Nat→Value)→World→Prop:=fun k F' w'=>∃(v:(keyT J).T) (ρ':Nat→Ad),loopF f0 k v=some r∧Rel C w0 S0 ρ' (S.head J (wr a) v) F' w'∧(∀(nb:Nat) (al:List Rg),(∀id j,id<nb→cov id j (S.rgs J)=true→cov id j al=true)→Le nb al ρ S.H ρ' (S.head J (wr a) v).H)∧∀t,t∉wr a→F' t=F t
    have hI0:I C.fu F w:=by
     obtain⟨ρ3,hup,h3,h4⟩:=join_ok (S2:=S.into) (wl:=wr a) (F2:=F) hS hJ Le.refl (hS.same rfl rfl) (fun _ _=>rfl) hv
     exact⟨v,ρ3,h2,h3 _ rfl rfl,h4,fun _ _=>rfl⟩
    refine c_loopI I C.fu hI0 fun k F' w' hI=> ?_
    obtain⟨v',ρ1,h3,h4,h5,h6⟩:=hI
    cases k with
    |zero=>cases h3
    |succ k=>
     have h3:f0 (loopF f0 k) v'=some r:=h3
     rw [←hf0]at h3
     have hLS:Lf S ρ (S.head J (wr a) v') ρ1:=⟨rfl,rfl,h5 _ _ fun id j hi hc=>oks_cov hJ.oks hi hc⟩
     refine ih hreg sa (S.head J (wr a) v') ρ' ps _ r ρ1 F' w' _ h3 h4 (fun e S2 ρ2 F2 w2 he hS2 hN hf hran=> ?_) (fun y S2 ρ2 F2 w2 hy hps hS2 hL=>q_ret (hR y S2 ρ2 F2 w2 hy hps hS2 (hLS.trans hL)))
     have hf2:∀t,t∉wr a→F2 t=F t:=fun t ht=>(hf t ht).trans (h6 t ht)
     cases e with
     |nm=>
      have he:backK (leaf S J) (loopF f0 k) S2=some r:=by rw [hf0]at he;exact he
      unfold backK at he
      split at he
      ·rename_i v2 hv2
       have hle:Le S.H.length (S.rgs J) ρ S.H ρ2 S2.H:=(h5 S.H.length (S.rgs J) fun _ _ _ h=>h).trans (hN.lg.mono (h5 0 [] (fun id j hi=>absurd hi (by omega))).len fun id j hi hc=>subR_ok (leaf_sub hv2) hi hc)
       obtain⟨ρ3,hup,h7,h8⟩:=join_ok (wl:=wr a) hS hJ hle hS2 hf2 hv2
       exact q_loop ⟨k,F2,rfl,zaX k,v2,ρ3,he,h7 _ rfl rfl,h8,hf2⟩
      ·cases he
     |xt i=>
      refine q_exit (hK (.xt i) (S2.as S J) ρ2 F2 w2 he (hS2.same rfl rfl) ⟨?_, ?_,fun id j hc=> ?_⟩ (fun t ht=>hf2 t (by rw [hwr]at ht;exact ht)) (fun h=>by cases h))
      ·have:=hLS.trans hN.toLf
       exact⟨this.nb,this.al,this.le⟩
      ·refine(h5 S.H.length (S2.m++(S.rgs J++S.m)) fun id j _ hc=>afv.2 (.inr (afv.2 (.inl hc)))).trans ?_
       exact hN.lg.mono (h5 0 [] (fun id j hi=>absurd hi (by omega))).len fun id j _ hc=>afv.2 (.inl hc)
      ·exact afv.2 (.inr (afv.2 (.inr hc)))
   ·cases h2
  |_=>cases h
end
end Go.Oe
namespace Go.Ce
open Go.Wk
open Nat renaming ble → zaz
structure Sd (C:Cx) (m:M) (S:T) (n:Md) (w0:World) (E:En) (w:World):Prop where
 hn:n.n=m.n
 inv:Inv w0 E S.H w
 fok:Fok S.H.nx S.F
 gok:Gok C.G w0
section
variable {C : Cx} {m : M} {S : T} {n : Md} {w0 w : World} {E : En}
theorem evO_ok(h:Sd C m S n w0 E w){x:Operand}{v:SV}(hv:evO m S x=some v):evn n (rF E S.F) x=v.re E∧v.ok S.H.nx:=by
 cases x with
 |tmp t=>
  have hv':bi (zaz (t+1) m.n) (some (oget (S.F.get t))) (some .u)=some v:=hv
  have hr:evn n (rF E S.F) (.tmp t)=bif zaz (t+1) m.n then rF E S.F t else undef:=by rw [←h.hn];rfl
  rw [hr]
  cases hb:zaz (t+1) m.n with
  |true=>
   rw [hb]at hv'
   have e:oget (S.F.get t)=v:=Option.some.inj hv'
   have e2:oget (S.F.get t)=tv S.F t:=tv_rec S.F t
   rw [←e,e2]
   exact⟨rfl,tv_ok h.fok t⟩
  |false=>
   rw [hb]at hv'
   have e:SV.u=v:=Option.some.inj hv'
   subst e
   exact⟨rfl,trivial⟩
 |const c=>obtain⟨h1,h2⟩:=cv_ok (show cv c=some v from hv) E S.H.nx;exact⟨h1.symm,h2⟩
 |global g=>
  have e:SV.c (.g g 0)=v:=Option.some.inj hv
  subst e;exact⟨rfl,trivial⟩
 |func f=>
  have e:SV.c (.fn f [])=v:=Option.some.inj hv
  subst e
  exact⟨rfl,fun i hi=>by cases hi⟩
theorem asC_ok{v:SV}{x:SC}(h:v.asC=some x):v=.c x:=by
 cases v<;>first|(cases h;rfl)|cases h
theorem adu(h:Sd C m S n w0 E w){x:Operand}{v:SC}(hv:evC m S x=some v):evn n (rF E S.F) x=v.re E∧v.ok S.H.nx:=by
 obtain⟨y,h1,h2⟩:=ob_some hv
 obtain rfl:=asC_ok h2
 exact evO_ok h h1
section
variable {d : Option Nat} {ty : TypeId} {pos : String} {after : Array Edge} {gd : Option (Nat × Bool)}
end
end
open Go.Wk
open List renaming length_cons → zad
section
variable {C : Cx} {m : M} {S : T} {n : Md} {w0 w : World} {E : En}
variable {d : Option Nat} {ty : TypeId} {pos : String} {after : Array Edge} {gd : Option (Nat × Bool)}
theorem fillZ:∀(off:Nat) (vs cells:List Value) (k:Nat),off+k+vs.length≤cells.length→
  (vs.zipIdx k).foldl (fun cs (p:Value×Nat)=>cs.setIfInBounds (off+p.2) p.1) cells.toArray=(cells.take (off+k)++vs++cells.drop (off+k+vs.length)).toArray
 |off,[],cells,k,h=>by simp
 |off,v::vs,cells,k,h=>by
  simp only [zad]at h
  simp only [List.zipIdx_cons,List.foldl_cons]
  have e:(cells.toArray.setIfInBounds (off+k) v)=(cells.set (off+k) v).toArray:=by simp
  rw [e,fillZ off vs (cells.set (off+k) v) (k+1) (by simp;omega)]
  congr 1
  have h1:(cells.set (off+k) v).take (off+(k+1))=cells.take (off+k)++[v]:=by
   rw [List.set_eq_take_append_cons_drop,if_pos (by omega)]
   have hl:(cells.take (off+k)).length=off+k:=by simp;omega
   rw [List.take_append,hl,List.take_of_length_le (by rw [hl];omega),show off+(k+1)-(off+k)=1 by omega]
   simp
  have h2:(cells.set (off+k) v).drop (off+(k+1)+vs.length)=cells.drop (off+k+(vs.length+1)):=by
   rw [List.drop_set_of_lt (by omega)]
   congr 1;omega
  rw [h1,h2]
  simp
theorem arr_of{α:Type}{a:Array α}{l:List α}(h:a.toList=l):a=l.toArray:=by subst h;rfl
end
end Go.Ce
namespace Go.Oe
open Go.Wk
open Go.Ce (Tr)
open Go.IntKind renaming wrap → zab
open Nat renaming eq_of_beq_eq_true → zag
open UInt8 renaming toNat_lt → zbw
section
variable {C : Cx} {md : Md} {w0 w : World} {S0 : List Nat} {ρ : Nat → Ad} {S : St} {F : Nat → Value}
theorem oSz{t z:Nat}(h:tSz C t=some z)(w:World):(sizeOf t).run C.P w=.ok z w:=sval_run h w
theorem oAg{t:Nat}{b:Bool}(h:tAg C t=some b)(w:World):(isAgg t).run C.P w=.ok b w:=sval_run h w
theorem oStr{t:Nat}(h:anj C t=true):C.P.underlying t=some .string:=by
 unfold anj at h
 split at h
 ·assumption
 ·cases h
theorem oBool{t:Nat}(h:isBool C t=true):C.P.underlying t=some .bool:=by
 unfold isBool at h
 split at h
 ·assumption
 ·cases h
theorem oSl{t e:Nat}(h:slE C t=some e):C.P.underlying t=some (.slice e):=by
 unfold slE at h
 split at h
 ·rename_i hh;cases h;exact hh
 ·cases h
theorem oAr{t:Nat}{q:Nat×Nat}(h:arE C t=some q):C.P.underlying t=some (.array q.1 q.2):=by
 unfold arE at h
 split at h
 ·rename_i hh;cases h;exact hh
 ·cases h
theorem oK{t:Nat}{k:IntKind}(h:kindOf C t=some k):C.P.underlying t=some (.int k):=by
 unfold kindOf at h
 split at h
 ·rename_i hh;cases h;exact hh
 ·cases h
theorem oU8{t:Nat}(h:isU8 C t=true):C.P.underlying t=some (.int .u8):=by
 unfold isU8 at h
 split at h
 ·rename_i hh;rw [hh,keq_eq h]
 ·cases h
theorem oIsK{t:Nat}{k:IntKind}(h:isK C t k=true):C.P.underlying t=some (.int k):=by
 unfold isK at h
 split at h
 ·rename_i hh;rw [oK hh,keq_eq h]
 ·cases h
theorem oPtr{t:Nat}(h:isPtr C t=true):∃e,C.P.underlying t=some (.pointer e):=by
 unfold isPtr at h
 split at h
 ·rename_i e hh;exact⟨e,hh⟩
 ·cases h
theorem oIsSl{t:Nat}(h:isSl C t=true):∃e,C.P.underlying t=some (.slice e):=by
 unfold isSl at h
 split at h
 ·rename_i e hh;exact⟨e,hh⟩
 ·cases h
theorem eql_of{b:BinOp}(h:isEql b=true):b=.eql:=by cases b<;>first|rfl|cases h
theorem asI_v{c:SC}{i:Int}(h:asI c=some i)(ρ:Nat→Ad):∃k,c.v ρ=.int k i:=by
 cases c<;>simp only [asI,reduceCtorEq,Option.some.injEq]at h
 ·subst h;exact⟨_,rfl⟩
 ·subst h;exact⟨_,rfl⟩
theorem bin_ok{z:Bool}{b:BinOp}{t t':TypeId}{x y:Operand}{a c:SC}{g:List PD}{r:SV}(hx:evn md F x=a.v ρ)(hy:evn md F y=c.v ρ)(hz:∀k v,z=true→evn md F y=.int k v→0≤v)(h:bin z b a c=some (g,r))(hg:All g):Val C md ρ S F w (.binOp b t x y t') r:=by
 unfold bin at h
 split at h
 ·rename_i k u kk v
  cases hs:isShr b with
  |true=>
   rw [hs]at h
   have hb:b=.shr:=by cases b<;>first|rfl|cases hs
   subst hb
   have h:shI k u v=some (g,r):=h
   clear hs
   cases v with
   |negSucc n=>cases h
   |ofNat n=>
    cases h
    refine acz rfl rfl fun d ty pos after=>x_shr k kk u (Int.ofNat n) _ hx hy (Int.natCast_nonneg n) ?_ ?_
    ·show(2:Int)^(min n k.bits)=((2^(min n k.bits):Nat):Int)
     rw [Int.natCast_pow];rfl
    ·exact Int.natCast_pos.2 (Nat.pow_pos (by decide))
  |false=>
  rw [hs]at h
  simp only [cond_false]at h
  cases hs2:isShl b with
  |true=>
   rw [hs2]at h
   have hb:b=.shl:=by cases b<;>first|rfl|cases hs2
   subst hb
   have h:shlI k u v=some (g,r):=h
   clear hs hs2
   cases v with
   |negSucc n=>cases h
   |ofNat n=>
    cases h
    refine acz rfl rfl fun d ty pos after=>x_shl k kk u (Int.ofNat n) _ hx hy (Int.natCast_nonneg n) ?_
    show(2:Int)^(min n k.bits)=((2^(min n k.bits):Nat):Int)
    rw [Int.natCast_pow];rfl
  |false=>
  rw [hs2]at h
  simp only [cond_false]at h
  cases hk:keq k kk with
  |false=>rw [hk]at h;cases h
  |true=>
   rw [hk]at h
   obtain rfl:=keq_eq hk
   exact bI_ok hx hy h hg
 ·exact bC_ok hx hy h hg
 ·exact sh8_ok hx hy (fun hh=>hz _ _ hh hy) h hg
 ·exact bS_ok hx hy h hg
 ·cases h
theorem binN_ok{z:Bool}{b:BinOp}{t t':TypeId}{x y:Operand}{a c:SC}{g:List PD}{r:SV}(hx:evn md F x=a.v ρ)(hy:evn md F y=c.v ρ)(hz:∀k v,z=true→evn md F y=.int k v→0≤v)(h:binN C z t b a c=some (g,r))(hg:All g):Val C md ρ S F w (.binOp b t x y t') r:=by
 unfold binN at h
 split at h
 ·rename_i i off j
  have h1:=aag h
  have h2:=aag h1.2
  have h3:=aag h2.2
  have hj:=zag h1.1
  obtain rfl:=eql_of h3.1
  cases h3.2
  subst hj
  obtain⟨e,he⟩:=oPtr h2.1
  exact acz rfl rfl fun d ty pos after=>x_pnil _ he hx hy
 ·rename_i j j2
  have h1:=aag h
  have h2:=aag h1.2
  have h3:=aag h2.2
  have h4:=aag h3.2
  have hj:=zag h1.1
  have hj2:=zag h2.1
  obtain rfl:=eql_of h4.1
  cases h4.2
  subst hj
  subst hj2
  obtain⟨e,he⟩:=oPtr h3.1
  exact acz rfl rfl fun d ty pos after=>x_pnil _ he hx hy
 ·have h1:=aag h
  have h2:=aag h1.2
  obtain rfl:=eql_of h2.1
  cases h2.2
  obtain⟨e,he⟩:=oIsSl h1.1
  exact acz rfl rfl fun d ty pos after=>x_snil _ _ _ e he hx hy
 ·have h1:=aag h
  have h2:=aag h1.2
  obtain rfl:=eql_of h2.1
  cases h2.2
  obtain⟨e,he⟩:=oIsSl h1.1
  exact acz rfl rfl fun d ty pos after=>x_snil _ _ _ e he hx hy
 ·split at h
  ·rename_i u v hu hv
   have h1:=aag h
   exact bB_ok (oBool h1.1) (hx.trans (rB_v hu ρ)) (hy.trans (rB_v hv ρ)) h1.2
  ·exact bin_ok hx hy hz h hg
theorem not_ok{x:Operand}{t:TypeId}{a:SC}{g:List PD}{r:SV}(hx:evn md F x=a.v ρ)(h:notC a=some (g,r)):Val C md ρ S F w (.unOp .not t x) r:=by
 unfold notC at h
 split at h
 ·cases h;exact acz rfl rfl fun d ty pos after=>x_not _ hx
 ·cases h;exact acz rfl rfl fun d ty pos after=>x_not _ hx
 ·rename_i p hp
  cases h
  exact acz rfl rfl fun d ty pos after=>x_nnot _ hx
 ·cases h
theorem index_ok{x ix:Operand}{t:TypeId}{a i:SC}{g:List PD}{r:SV}(ht:anj C t=true)(hx:evn md F x=a.v ρ)(hi:evn md F ix=i.v ρ)(h:ixC a i=some (g,r))(hg:All g):Val C md ρ S F w (.index t x ix) r:=by
 unfold ixC at h
 split at h
 ·rename_i l
  split at h
  ·rename_i j hj
   cases h
   obtain⟨k,hk⟩:=asI_v hj ρ
   exact acz rfl rfl fun d ty pos after=>x_index l k j (oStr ht) hx (hi.trans hk) hg.1
  ·cases h
 ·cases h
theorem slice_ok{x:Operand}{lo hi:Option Operand}{t:TypeId}{a:SC}{i j:Option SC}{g:List PD}{r:SV}(ht:anj C t=true)(hx:evn md F x=a.v ρ)(hlo:(lo=none∧i=none)∨∃o c,lo=some o∧i=some c∧evn md F o=c.v ρ)(hhi:(hi=none∧j=none)∨∃o c,hi=some o∧j=some c∧evn md F o=c.v ρ)
  (h:cutC a i j=some (g,r)) (hg:All g):Val C md ρ S F w (.slice t x lo hi none) r:=by
 unfold cutC at h
 split at h
 ·rename_i l
  rcases hlo with⟨rfl,rfl⟩|⟨o,c,rfl,rfl,ho⟩<;>rcases hhi with⟨rfl,rfl⟩|⟨o2,c2,rfl,rfl,ho2⟩
  ·cases h
  ·simp only at h
   split at h
   ·rename_i m hm
    cases h
    obtain⟨k,hk⟩:=asI_v hm ρ
    exact acz rfl rfl fun d ty pos after=>x_slice_to l k m (oStr ht) hx (ho2.trans hk) hg.1
   ·cases h
  ·simp only at h
   split at h
   ·rename_i m hm
    cases h
    obtain⟨k,hk⟩:=asI_v hm ρ
    exact acz rfl rfl fun d ty pos after=>x_slice_from l k m (oStr ht) hx (ho.trans hk) hg.1
   ·cases h
  ·simp only at h
   split at h
   ·rename_i m m2 hm hm2
    cases h
    obtain⟨k,hk⟩:=asI_v hm ρ
    obtain⟨k2,hk2⟩:=asI_v hm2 ρ
    exact acz rfl rfl fun d ty pos after=>x_slice l k k2 m m2 (oStr ht) hx (ho.trans hk) (ho2.trans hk2) hg.1
   ·cases h
 ·cases h
theorem conC_ok{x:Operand}{s t:TypeId}{a:SC}{g:List PD}{r:SV}(hx:evn md F x=a.v ρ)(h:conC C s t a=some (g,r))(hg:All g):Val C md ρ S F w (.convert s t x) r:=by
 unfold conC at h
 split at h
 ·rename_i u
  have h1:=aag h
  have hs:=oU8 h1.1
  have h2:=h1.2
  have hx:evn md F x=.int .u8 (u.toNat:Int):=hx
  have hlt:=zbw u
  split at h2
  ·rename_i hk
   cases h2
   refine acz rfl rfl fun d ty pos after=> ?_
   exact x_convx .u8 .u8 _ hs (oK hk) hx (by rw [IntKind.wrap_u8];omega)
  ·rename_i hk
   cases h2
   refine acz rfl rfl fun d ty pos after=> ?_
   exact x_convx .i64 .u8 _ hs (oK hk) hx (wrap_u8_i64 u)
  ·rename_i hk
   cases h2
   refine acz rfl rfl fun d ty pos after=> ?_
   exact x_convx .i32 .u8 _ hs (oK hk) hx (by simp [zab,IntKind.bits,IntKind.signed];omega)
  ·cases h2
 ·rename_i k n
  have h1:=aag h
  have hs:=oIsK h1.1
  have h2:=h1.2
  split at h2
  ·rename_i hk
   cases h2
   exact acz rfl rfl fun d ty pos after=>x_toU8 k n hs (oK hk) hx
  ·rename_i k' _ hk
   cases he:keq k k' with
   |true=>
    rw [he]at h2
    obtain rfl:=keq_eq he
    simp only [cond_true]at h2
    cases h64:i64 k with
    |true=>
     rw [h64]at h2
     obtain rfl:=i64_eq h64
     cases h2
     exact acz rfl rfl fun d ty pos after=>x_convx .i64 .i64 n hs (oK hk) hx (asu hg.1.lo hg.1.hi)
    |false=>
     rw [h64]at h2
     cases h2
     exact acz rfl rfl fun d ty pos after=>x_convx k k n hs (oK hk) hx hg.1
   |false=>
    rw [he]at h2
    cases h2
    exact acz rfl rfl fun d ty pos after=>x_conv k' k n hs (oK hk) hx
  ·have h3:=aag h2
   cases h3.2
   exact acz rfl rfl fun d ty pos after=>x_runestr k k n hs (oStr h3.1) hx
 ·rename_i l
  have h1:=aag h
  have h2:=aag h1.2
  cases h2.2
  exact acz rfl rfl fun d ty pos after=>x_convstr l (oStr h1.1) (oStr h2.1) hx
 ·cases h
end
open Go.Wk
open Go.Ce (Tr)
open List renaming length_map → zaL, map_cons → zaG, mem_cons_of_mem → zaf, mem_cons_self → zah
open Nat renaming add_assoc → zaK, add_zero → zaM, beq → zai, eq_of_beq_eq_true → zag
section
variable {C : Cx} {md : Md} {w0 w : World} {S0 : List Nat} {ρ : Nat → Ad} {S : St} {F : Nat → Value}
theorem partC_ok{l:List SC}{off n:Nat}{a:Bool}{v:SV}(h:partC l off n a=some v):
  (a=false∧∃x,l[off]? =some x∧x.kn=true∧v=.c' x)∨(a=true∧off+n≤l.length∧(∀x∈(l.drop off).take n,x.kn=true)∧v=.a' ((l.drop off).take n))∨(a=true∧n=0∧v=.a' []):=by
 unfold partC at h
 cases a with
 |true=>
  simp only [cond_true]at h
  split at h
  ·rename_i q hq
   have h1:=aag h
   cases h1.2
   obtain⟨h2,h3⟩:=ltake_some hq
   rw [ary]at h2 h3
   subst h2
   by_cases hn:n=0
   ·subst hn;exact .inr (.inr ⟨rfl,rfl,by simp⟩)
   ·refine .inr (.inl ⟨rfl, ?_,knL_all h1.1,rfl⟩)
    simp at h3;omega
  ·cases h
 |false=>
  simp only [cond_false]at h
  split at h
  ·rename_i x hx
   have h1:=aag h
   cases h1.2
   rw [aap]at hx
   exact .inl ⟨rfl,x,hx,h1.1,rfl⟩
  ·cases h
theorem partC_oks{l:List SC}{off n k:Nat}{a:Bool}{v:SV}(h:partC l off n a=some v)(hl:∀x∈l,x.ok k):v.ok k:=by
 rcases partC_ok h with⟨_,x,h1,_,rfl⟩|⟨_,_,_,rfl⟩|⟨_,_,rfl⟩
 ·exact hl x (List.mem_of_getElem? h1)
 ·exact fun x hx=>hl x (List.mem_of_mem_drop (List.mem_of_mem_take hx))
 ·intro x hx;cases hx
theorem fldAt_some{t f:Nat}{q:Nat×Nat×Bool}(h:fldAt C t f=some q):∃(l:List Field) (fd:Field),C.P.underlying t=some (.struct l.toArray)∧l[f]? =some fd∧q.1=fd.offset∧tSz C fd.type=some q.2.1∧tAg C fd.type=some q.2.2:=by
 unfold fldAt at h
 split at h
 ·rename_i fs hfs
  split at h
  ·rename_i fd hfd
   split at h
   ·rename_i n a hn ha
    cases h
    rw [aap]at hfd
    exact⟨fs.toList,fd,by simpa using hfs,hfd,rfl,hn,ha⟩
   ·cases h
  ·cases h
 ·cases h
theorem part_ok{t:Nat}{xs:List SC}{off n:Nat}{a:Bool}{v:SV}(h:partC xs off n a=some v)(hn:tSz C t=some n)(ha:tAg C t=some a):∃u,v.v ρ=some u∧(part t (xs.map (SC.v ρ)).toArray off).run C.P w=.ok u w:=by
 rcases partC_ok h with⟨rfl,x,h2,_,rfl⟩|⟨rfl,h3,_,rfl⟩|⟨rfl,rfl,rfl⟩
 ·exact⟨_,rfl,by simp [part,oAg ha w,h2]⟩
 ·refine⟨_,rfl, ?_⟩
  have e:(xs.map (SC.v ρ)).toArray.extract off (off+n)=(((xs.drop off).take n).map (SC.v ρ)).toArray:=by
   simp only [List.extract_toArray,List.extract_eq_take_drop,Nat.add_sub_cancel_left]
   rw [List.map_take,List.map_drop]
  simp only [part,Sem.run_bind,oAg ha w,Result.andThen_ok,if_true,oSz hn w,Sem.run_pure,e]
 ·refine⟨_,rfl, ?_⟩
  have e:(xs.map (SC.v ρ)).toArray.extract off (off+0)= #[]:=by simp
  simp only [part,Sem.run_bind,oAg ha w,Result.andThen_ok,if_true,oSz hn w,Sem.run_pure,e]
  rfl
theorem field_ok{t f:Nat}{x:Operand}{l:List SC}{v:SV}{q:Nat×Nat×Bool}(hx:evn md F x=.agg (l.map (SC.v ρ)).toArray)(hl:∀x∈l,x.ok S.H.length)(hq:fldAt C t f=some q)(h:partC l q.1 q.2.1 q.2.2=some v):Val C md ρ S F w (.field t x f) v:=by
 obtain⟨fs,fd,h1,h2,h3,h4,h5⟩:=fldAt_some hq
 obtain⟨u,h6,h7⟩:=part_ok (w:=w) (ρ:=ρ) h h4 h5
 refine⟨partC_oks h hl,u,h6,fun d ty pos after=> ?_⟩
 rw [h3]at h7
 simp [execOp,hx,Instr.field,run_underlying h1,h2,asAgg]
 rw [h7];rfl
theorem fieldAddr_ok{t f:Nat}{x:Operand}{c:SC}{v:SV}(hx:evn md F x=c.v ρ)(hc:c.ok S.H.length)(h:amj C t f c=some v):Val C md ρ S F w (.fieldAddr t x f) v:=by
 unfold amj at h
 split at h
 ·rename_i q hq
  obtain⟨fs,fd,h1,h2,h3,h4,h5⟩:=fldAt_some hq
  cases hz:zai q.2.1 0 with
  |true=>rw [hz]at h;cases h
  |false=>
   rw [hz]at h
   simp only [cond_false]at h
   have hne:q.2.1≠0:=fun e=>by rw [e]at hz;cases hz
   have hat:∀A:Addr,(Instr.fieldAt t (.pointer (some A)) f).run C.P w=.ok (.pointer (some (A.add fd.offset))) w:=by
    intro A
    simp [Instr.fieldAt,run_underlying h1,h2,Instr.sureAddr,fieldPlace,oSz h4 w,hne]
   split at h
   ·rename_i id off
    cases h
    refine⟨hc,_,rfl,fun d ty pos after=> ?_⟩
    have hx:evn md F x=.pointer (some ⟨(ρ id).b,off,none⟩):=hx
    rw [x_fld _ fd.offset hx (hat _),akq,←h3];rfl
   ·rename_i id j sz off
    cases h
    refine⟨hc,_,rfl,fun d ty pos after=> ?_⟩
    have hx:evn md F x=.pointer (some (ea (ρ id).a (j.toNat*sz+off))):=hx
    rw [x_fldE _ _ fd.offset hx (by rw [←ea_add];exact hat _),←h3,zaK];rfl
   ·cases h
 ·cases h
theorem extract_ok{x:Operand}{i:Nat}{l:List SA}{y:SA}(hx:evn md F x=.tuple (l.map (SA.v ρ)).toArray)(hl:∀x∈l,x.ok S.H.length)(h:aiw l i=some y):Val C md ρ S F w (.extract x i) y.sv:=by
 rw [aap]at h
 exact⟨SA.sv_ok (hl y (List.mem_of_getElem? h)),_,SA.sv_v ρ y,fun d ty pos after=>x_extract _ _ hx (by simp [h])⟩
theorem zC_ok{t:Nat}{z:List SC}(h:zC C t=some z)(w:World):∃v,(zeroValue t).run C.P w=.ok v w∧(∀c∈z,c.ids=[]∧c.kn=true)∧∀ρ,v.cells=(z.map (SC.v ρ)).toArray:=by
 unfold zC at h
 split at h
 ·rename_i v hv
  obtain⟨h1,h2⟩:=cvL_ok h
  exact⟨v,sval_run hv w,h1,fun ρ=>by rw [h2]⟩
 ·cases h
theorem fillP_ok{ev:Operand→SV}{pl:Nat→Option (Nat×Nat)}{k:Nat}:∀(ps:List (Nat×Operand)) (cs r:List SC),(∀p∈ps,(ev p.2).ok k∧∀u,(ev p.2).v ρ=some u→evn md F p.2=u)→(∀x∈cs,x.ok k)→fillP pl ev ps cs=some r→
  Instr.fill pl (cs.map (SC.v ρ)).toArray (ps.map fun p=>(p.1,evn md F p.2))=some (r.map (SC.v ρ)).toArray∧r.length=cs.length∧∀x∈r,x.ok k
 |[],cs,r,_,hc,h=>by
  cases h
  exact⟨rfl,rfl,hc⟩
 |p::ps,cs,r,hp,hc,h=>by
  simp only [fillP]at h
  split at h
  ·rename_i q vs hq hvs
   have h1:=aag h
   have h2:=h1.2
   split at h2
   ·rename_i cs2 hcs2
    obtain⟨h3,h4⟩:=arf hcs2
    have hev:=hp p zah
    have hvo:=SV.cells_ok hvs hev.1
    obtain⟨v,hv1,hv2⟩:=SV.cells_v (ρ:=ρ) hvs
    have hvv:=hev.2 v hv1
    have hok2:∀x∈cs2,x.ok k:=by
     rw [h4]
     intro x hx
     rcases List.mem_append.1 hx with hx|hx
     ·rcases List.mem_append.1 hx with hx|hx
      ·exact hc x (List.mem_of_mem_take hx)
      ·exact hvo x hx
     ·exact hc x (List.mem_of_mem_drop hx)
    obtain⟨h5,h6,h7⟩:=fillP_ok ps cs2 r (fun p2 hm=>hp p2 (zaf _ hm)) hok2 h2
    refine⟨?_,by rw [h6,putC_len hcs2],h7⟩
    obtain⟨off,size⟩:=q
    obtain⟨i,o⟩:=p
    have hsz:vs.length=size:=zag h1.1
    have h3:off+vs.length≤cs.length:=h3
    simp only [zaG,Instr.fill,hq,hvv]
    have hcs:v.cells.size=vs.length:=by rw [hv2];simp
    have hc2:¬((v.cells.size≠size||decide (off+v.cells.size>(cs.map (SC.v ρ)).toArray.size))=true):=by
     rw [hcs]
     simp [hsz];omega
    rw [if_neg hc2,←h5]
    congr 1
    rw [hv2]
    have hz:=Go.Ce.fillZ off (vs.map (SC.v ρ)) (cs.map (SC.v ρ)) 0 (by simp;exact h3)
    simp only [zaM,zaL]at hz
    rw [h4]
    have e:((cs.take off++vs++cs.drop (off+vs.length)).map (SC.v ρ))=(cs.map (SC.v ρ)).take off++vs.map (SC.v ρ)++(cs.map (SC.v ρ)).drop (off+vs.length):=by simp
    simp only at e⊢
    rw [e,←hz,←Array.foldl_toList]
    simp [Array.toList_zipIdx]
   ·cases h2
  ·cases h
theorem placesO_ok:∀{fs:List Field} {l:List (Nat×Nat)},placesO C fs=some l→(fs.mapM fun f=>(do pure (f.offset,←sizeOf f.type):Sem (Nat×Nat))).run C.P w=.ok l w
 |[],l,hv=>by cases hv;simp
 |f::fs,l,hv=>by
  simp only [placesO]at hv
  split at hv
  ·rename_i z h1
   split at hv
   ·rename_i q h2
    cases hv
    have ih:=placesO_ok h2
    rw [List.mapM_cons]
    simp only [Sem.run_bind,oSz h1 w,Result.andThen_ok,Sem.run_pure,ih]
   ·cases hv
  ·cases hv
theorem build_ok{w2:World}(hS:Rel C w0 S0 ρ S F w2)(hn:C.nn=md.n){t:Nat}{ps:Array (Nat×Operand)}{v:SV}(h:opBuild C (S.ev C) t ps.toList=some v):Val C md ρ S F w (.build t ps) v:=by
 unfold opBuild at h
 split at h
 ·rename_i z pl hz hpl
  split at h
  ·rename_i cs hcs
   cases h
   obtain⟨zv,h1,h2,h3⟩:=zC_ok hz w
   obtain⟨h4,h5,h6⟩:=fillP_ok (ρ:=ρ) (md:=md) (F:=F) (k:=S.H.length) ps.toList z cs (fun p _=>aua hS hn p.2) (fun c hc i hi=>by rw [(h2 c hc).1]at hi;cases hi) hcs
   refine⟨h6,_,rfl,fun d ty pos after=> ?_⟩
   have hparts:(ps.map fun p=>(p.1,evn md F p.2)).toList=ps.toList.map fun p=>(p.1,evn md F p.2):=by simp
   have h3:=h3 ρ
   unfold plOf at hpl
   split at hpl
   ·rename_i fs hfs
    split at hpl
    ·rename_i lp hlp
     cases hpl
     have hm:=placesO_ok (w:=w) hlp
     have hple:aiw lp=fun i=>lp.toArray[i]? :=by funext i;rw [aap];simp
     rw [hple]at h4
     have hfs':C.P.underlying t=some (.struct fs.toList.toArray):=by simpa using hfs
     simp only [execOp,Instr.build,Sem.run_bind,h1,Result.andThen_ok,run_underlying hfs',h3,List.mapM_toArray,Sem.run_map,hm,Sem.run_pure]
     rw [hparts,h4]
     rfl
    ·cases hpl
   ·rename_i k e he
    split at hpl
    ·rename_i n hn2
     cases hpl
     simp only [execOp,Instr.build,Sem.run_bind,h1,Result.andThen_ok,run_underlying he,h3,oSz hn2 w]
     rw [hparts,h4]
     rfl
    ·cases hpl
   ·cases hpl
  ·cases h
 ·cases h
end
open Go.Wk
open Go.Ce (Tr)
open List renaming flatMap_cons → zar, map_cons → zaG
section
variable {C : Cx} {md : Md} {w0 w : World} {S0 : List Nat} {ρ : Nat → Ad} {S : St} {F : Nat → Value}
theorem akd{H:List Ob}{r:Rv}{ro:Ro}(h:pur H r=some ro):∃g v,r=some (g,v)∧ro=⟨g,v,H,[]⟩:=by
 unfold pur at h
 split at h
 ·cases h;exact⟨_,_,rfl,rfl⟩
 ·cases h
theorem ami{H:List Ob}{v:Option SV}{ro:Ro}(h:val1 H v=some ro):∃x,v=some x∧ro=⟨[],x,H,[]⟩:=by
 unfold val1 at h
 split at h
 ·cases h;exact⟨_,rfl,rfl⟩
 ·cases h
theorem known_v{x v:SV} (h:(match x with
  |.u'=>none
  |v=>some v)=some v):x=v∧∃u,v.v ρ=some u:=by
 cases x<;>simp only [Option.some.injEq,reduceCtorEq]at h
 ·subst h;exact⟨rfl,_,rfl⟩
 ·subst h;exact⟨rfl,_,rfl⟩
 ·subst h;exact⟨rfl,_,rfl⟩
 ·subst h;exact⟨rfl,_,rfl⟩
theorem anq{α:Type}{ev:Operand→SV}{x:Option Operand}{f:Option SC→Option α}{r:α}(h:onO ev x f=some r):(x=none∧f none=some r)∨∃o c,x=some o∧ev o=.c' c∧f (some c)=some r:=by
 cases x with
 |none=>exact .inl ⟨rfl,h⟩
 |some o=>
  obtain⟨c,h1,h2⟩:=abd h
  exact .inr ⟨o,c,rfl,h1,h2⟩
theorem arE_some{t:Nat}{q:Nat×Nat}(h:arE C t=some q):C.P.underlying t=some (.array q.1 q.2):=by
 unfold arE at h
 split at h
 ·rename_i hu;cases h;exact hu
 ·cases h
theorem ixTab_ok{x ix:Operand}{t:Nat}{cs:List SC}{i:SC}{g:List PD}{v:SV}(hx:evn md F x=.agg (cs.map (SC.v ρ)).toArray)(hi:evn md F ix=i.v ρ)(h:ixTab C t cs i=some (g,v))(hg:All g):Val C md ρ S F w (.index t x ix) v:=by
 unfold ixTab at h
 split at h
 ·rename_i q hq
  have h:=(aag h).2
  split at h
  ·rename_i h1 h2
   split at h
   ·rename_i l j hl hj
    cases h
    obtain⟨k,hk⟩:=asI_v hj ρ
    obtain⟨h3,_,h5⟩:=apw hl
    have h6:(l.map fun s=>[str s])=(cs.map (SC.v ρ)).map fun c=>[c]:=by
     rw [h5 ρ,List.map_flatMap]
     have:∀l:List Str,(l.map fun s=>[str s])=l.flatMap fun a=>List.map (fun c=>[c]) ((Ty.s').enc a):=by
      intro l
      induction l with
      |nil=>rfl
      |cons s l ih=>rw [zaG,zar,ih];rfl
     exact this l
    letI:=Ty.inh .s';exact acz rfl rfl fun d ty pos after=>x_ixA (e:=q.2) (fun s=>[str s]) l q.1 k j (cs.map (SC.v ρ)) (str (elT .s' l j)) h6 (arE_some hq) h3 (oAg h2 w) (oSz h1 w) hx (hi.trans hk) rfl hg.1
   ·cases h
  ·cases h
 ·cases h
theorem arc(hn:C.nn=md.n)(hS:Rel C w0 S0 ρ S F w){op:Op}(hp:isPure op=true){ro:Ro}(h:opP C (S.ev C) S.H op=some ro)(hg:All ro.g)(w':World):Val C md ρ S F w' op ro.v∧ro.H=S.H∧ro.m=[]:=by
 cases op<;>first|cases hp|skip
 case move x=>
  obtain⟨v,h1,rfl⟩:=ami h
  obtain⟨h2,u,h3⟩:=known_v (ρ:=ρ) h1
  obtain⟨h4,h5⟩:=aua hS hn x
  rw [h2]at h4 h5
  exact⟨⟨h4,u,h3,fun d ty pos after=>by rw [←h5 u h3];rfl⟩,rfl,rfl⟩
 case assign x=>
  obtain⟨v,h1,rfl⟩:=ami h
  obtain⟨h2,u,h3⟩:=known_v (ρ:=ρ) h1
  obtain⟨h4,h5⟩:=aua hS hn x
  rw [h2]at h4 h5
  exact⟨⟨h4,u,h3,fun d ty pos after=>by rw [←h5 u h3];rfl⟩,rfl,rfl⟩
 case binOp b t x y t'=>
  obtain⟨g,v,h1,rfl⟩:=akd h
  obtain⟨a,h2,h3⟩:=abd h1
  obtain⟨c,h4,h5⟩:=abd h3
  exact⟨binN_ok (adu hS hn h2).2 (adu hS hn h4).2 (fun k v hz hv=>isNN_ok hv hz) h5 hg,rfl,rfl⟩
 case unOp u t x=>
  cases u<;>first|cases h|skip
  obtain⟨g,v,h1,rfl⟩:=akd h
  obtain⟨a,h2,h3⟩:=abd h1
  exact⟨not_ok (adu hS hn h2).2 h3,rfl,rfl⟩
 case convert s t x=>
  obtain⟨g,v,h1,rfl⟩:=akd h
  obtain⟨a,h2,h3⟩:=abd h1
  exact⟨conC_ok (adu hS hn h2).2 h3 hg,rfl,rfl⟩
 case index t x ix=>
  have h:(bif anj C t then pur S.H (on1 (S.ev C x) fun a=>on1 (S.ev C ix) fun i=>ixC a i)else(match S.ev C x with
   |.a' cs=>pur S.H (on1 (S.ev C ix) fun i=>ixTab C t cs i)
   |_=>none))=some ro:=h
  cases ht:anj C t with
  |true=>
   rw [ht]at h
   obtain⟨g,v,h1,rfl⟩:=akd h
   obtain⟨a,h2,h3⟩:=abd h1
   obtain⟨c,h4,h5⟩:=abd h3
   exact⟨index_ok ht (adu hS hn h2).2 (adu hS hn h4).2 h5 hg,rfl,rfl⟩
  |false=>
   rw [ht]at h
   simp only [cond_false]at h
   have hev:=aua hS hn x
   split at h
   ·rename_i cs hcs
    obtain⟨g,v,h1,rfl⟩:=akd h
    obtain⟨c,h4,h5⟩:=abd h1
    rw [hcs]at hev
    exact⟨ixTab_ok (hev.2 _ rfl) (adu hS hn h4).2 h5 hg,rfl,rfl⟩
   ·cases h
 case slice t x lo hi mx=>
  cases mx with
  |some m=>have:=(aag (show(bif anj C t then opM C (S.ev C) S.H (.slice t x lo hi (some m))else none)=some ro from h)).2;cases this
  |none=>
   have h:=aag (show(bif anj C t then opM C (S.ev C) S.H (.slice t x lo hi none)else none)=some ro from h)
   have h2:(bif anj C t then pur S.H (on1 (S.ev C x) fun a=>onO (S.ev C) lo fun i=>onO (S.ev C) hi fun j=>cutC a i j)else on1 (S.ev C x) fun a=>onO (S.ev C) lo fun i=>onO (S.ev C) hi fun j=>opSl C S.H t a i j)=some ro:=h.2
   rw [h.1]at h2
   have h:=And.intro h.1 h2
   obtain⟨g,v,h1,rfl⟩:=akd h.2
   obtain⟨a,h2,h3⟩:=abd h1
   refine⟨?_,rfl,rfl⟩
   rcases anq h3 with⟨h4,h5⟩|⟨o,c,h4,h5,h6⟩
   ·rcases anq h5 with⟨h7,h8⟩|⟨o2,c2,h7,h8,h9⟩
    ·exact slice_ok h.1 (adu hS hn h2).2 (.inl ⟨h4,rfl⟩) (.inl ⟨h7,rfl⟩) h8 hg
    ·exact slice_ok h.1 (adu hS hn h2).2 (.inl ⟨h4,rfl⟩) (.inr ⟨o2,c2,h7,rfl,(adu hS hn h8).2⟩) h9 hg
   ·rcases anq h6 with⟨h7,h8⟩|⟨o2,c2,h7,h8,h9⟩
    ·exact slice_ok h.1 (adu hS hn h2).2 (.inr ⟨o,c,h4,rfl,(adu hS hn h5).2⟩) (.inl ⟨h7,rfl⟩) h8 hg
    ·exact slice_ok h.1 (adu hS hn h2).2 (.inr ⟨o,c,h4,rfl,(adu hS hn h5).2⟩) (.inr ⟨o2,c2,h7,rfl,(adu hS hn h8).2⟩) h9 hg
 case extract x i=>
  have h:(match S.ev C x with
   |.t' l=>match aiw l i with
    |some y=>some (Ro.mk [] y.sv S.H [])
    |none=>none
   |_=>none)=some ro:=h
  obtain⟨h1,h2⟩:=aua hS hn x
  split at h
  ·rename_i l hl
   split at h
   ·rename_i y hy
    cases h
    rw [hl]at h1 h2
    exact⟨extract_ok (h2 _ rfl) h1 hy,rfl,rfl⟩
   ·cases h
  ·cases h
 case field t x f=>
  have h:(match S.ev C x with
   |.a' l=>match fldAt C t f with
    |some q=>val1 S.H (partC l q.1 q.2.1 q.2.2)
    |none=>none
   |_=>none)=some ro:=h
  obtain⟨h1,h2⟩:=aua hS hn x
  split at h
  ·rename_i l hl
   split at h
   ·rename_i q hq
    obtain⟨v,h3,rfl⟩:=ami h
    rw [hl]at h1 h2
    exact⟨field_ok (h2 _ rfl) h1 hq h3,rfl,rfl⟩
   ·cases h
  ·cases h
 case build t ps=>
  obtain⟨v,h1,rfl⟩:=ami h
  exact⟨build_ok hS hn h1,rfl,rfl⟩
 case fieldAddr t x f=>
  obtain⟨a,h1,h2⟩:=abd (show on1 (S.ev C x) (fun a=>val1 S.H (amj C t f a))=some ro from h)
  obtain⟨v,h3,rfl⟩:=ami h2
  obtain⟨h4,h5⟩:=adu hS hn h1
  exact⟨fieldAddr_ok h5 h4 h3,rfl,rfl⟩
theorem pureOk(hn:C.nn=md.n):PureOk C md:=fun w0 S0 ρ S F w op v H m hS hp h w'=>(arc hn hS hp h trivial w').1
end
open Go.Wk
open Go.Ce (Tr)
open Nat renaming le_refl → zap
def Step(C:Cx)(md:Md)(w0:World)(S0:List Nat)(ρ:Nat→Ad)(S:St)(F:Nat→Value)(w:World)(o:Oper)(S2:St):Prop:=
 ∀(ops:Array Oper) (Q:Exit→Act→World→Prop) (rest:List Oper),
  (∀ρ2 F2 w2,Rel C w0 S0 ρ2 S2 F2 w2→Nx S ρ S2 ρ2→(∀t,o.dst≠some t→F2 t=F t)→(∀d,o.dst=some d→isPure o.op=true→∃w3,(execOp (evn md F) o).run C.P w=.ok (.value (F2 d)) w3)→W C.P md ops Q rest F2 w2)→W C.P md ops Q (o::rest) F w
section
variable {C : Cx} {md : Md} {w0 w : World} {S0 : List Nat} {ρ : Nat → Ad} {S : St} {F : Nat → Value}
variable {d : Nat} {ty : TypeId} {pos : String} {after : Array Edge}
theorem ato{ρ2:Nat→Ad}{S2:St}{w2:World}{v:SV}{u:Value}(h:Rel C w0 S0 ρ2 S2 F w2)(hv:v.v ρ2=some u)(ho:v.ok S2.H.length):Rel C w0 S0 ρ2 (S2.set d v) (upd F d u) w2:=by
 refine⟨h.gl,fun t u2 hu=> ?_,fun t=> ?_,h.ho,h.mem⟩
 ·rw [at_set]at hu
  by_cases e:t=d
  ·rw [if_pos e]at hu
   rw [hv]at hu;cases hu
   subst e;rw [aqt]
  ·rw [if_neg e]at hu
   rw [upd_ne _ _ _ _ e];exact h.fr t u2 hu
 ·rw [at_set]
  by_cases e:t=d
  ·rw [if_pos e];exact ho
  ·rw [if_neg e];exact h.fo t
theorem aog{u:Value}:∀t,(some d:Option Nat)≠some t→upd F d u t=F t:=fun t h=>upd_ne _ _ _ _ fun e=>h (by rw [e])
theorem step_val{op:Op}{v:SV}(hS:Rel C w0 S0 ρ S F w)(h:Val C md ρ S F w op v):Step C md w0 S0 ρ S F w ⟨some d,op,ty,pos,after,none⟩ (St.set ⟨S.F,S.H,S.nb,S.al,[]++S.m⟩ d v):=by
 intro ops Q rest hk
 obtain⟨h1,u,h2,h3⟩:=h
 refine aih rfl rfl (h3 d ty pos after) (hk ρ _ w (ato (hS.same rfl rfl) h2 h1) ⟨⟨rfl,rfl,Le.refl⟩,Le.refl,fun _ _ h=>h⟩ aog fun d2 hd _=>⟨w, ?_⟩)
 cases hd
 rw [aqt];exact h3 d ty pos after
def adN(ρ:Nat→Ad)(n:Nat)(a:Ad):Nat→Ad:=fun id=>if id=n then a else ρ id
theorem adN_up{n:Nat}{a:Ad}:Up n ρ (adN ρ n a):=fun id hi=>by unfold adN;rw [if_neg (by omega)]
theorem adN_n{n:Nat}{a:Ad}:adN ρ n a n=a:=by unfold adN;rw [if_pos rfl]
theorem Hp.rot{w0 w:World}{S:List Nat}{L:List Res}{r:Res}(h:Hp w0 S (r::L) w):Hp w0 S (L++[r]) w:=by
 refine⟨h.os,h.tape,h.output,h.size,h.below,fun x hx=>h.res x (by simp at hx⊢;exact hx.symm), ?_⟩
 have hs:=List.pairwise_cons.1 h.sep
 refine List.pairwise_append.2 ⟨hs.2,List.pairwise_singleton _ _,fun a ha b hb=> ?_⟩
 simp at hb
 subst hb
 intro k hk e
 exact hs.1 a ha k e hk
theorem RO.up{n:Nat}{ρ2:Nat→Ad}{id:Nat}{o:Ob}{r:Res}(h:RO w0 S0 ρ id o r)(hu:Up n ρ ρ2)(hi:id<n)(ho:∀e cs,o=.bl e cs→∀c∈cs,c.ok n):RO w0 S0 ρ2 id o r:=by
 cases o with
 |bl e cs=>
  obtain⟨vs,rfl,h1,h2⟩:=h
  refine⟨vs,by rw [hu id hi],h1,fun j c hj hk=> ?_⟩
  rw [h2 j c hj hk,SC.up hu (ho e cs rfl c (List.mem_of_getElem? hj))]
 |rw e b t l=>show r=_;rw [hu id hi];exact h
 |ro t l=>exact⟨h.1,by rw [hu id hi];exact h.2⟩
 |br m l=>show r=_;rw [hu id hi];exact h
 |dd m=>trivial
theorem rel_new{L:List Res}{r:Res}{w2:World}{o:Ob}{a:Ad}{S2:St}(hS:Rel C w0 S0 ρ S F w)(hM:Mt w0 S0 ρ S.H L)(hH:Hp w0 S0 (r::L) w2)(hr:RO w0 S0 (adN ρ S.H.length a) S.H.length o r)(hl:o.len=a.ln)(ho:∀e cs,o=.bl e cs→∀c∈cs,c.ok (S.H.length+1))
  (hF:S2.F=S.F) (hH2:S2.H=S.H++[o]):Rel C w0 S0 (adN ρ S.H.length a) S2 F w2:=by
 have ha:∀t,S2.at t=S.at t:=fun t=>by rw [St.at_eq,St.at_eq,hF]
 have hlen:S2.H.length=S.H.length+1:=by rw [hH2];simp
 refine⟨fun g id hg=> ?_,fun t u hu=> ?_,fun t=> ?_,fun id e cs hb c hc=> ?_,⟨L++[r],Hp.rot hH,by simp [hM.1,hlen],fun id o2 h2=> ?_⟩⟩
 ·obtain⟨h1,h2⟩:=hS.gl g id hg
  exact⟨by omega,by rw [adN_up id h1];exact h2⟩
 ·rw [ha,SV.up adN_up (hS.fo t)]at hu
  exact hS.fr t u hu
 ·rw [ha,hlen];exact SV.ok_mono (hS.fo t) (by omega)
 ·rw [hlen]
  rw [hH2]at hb
  by_cases hi:id<S.H.length
  ·rw [List.getElem?_append_left hi]at hb
   exact SC.ok_mono (hS.ho id e cs hb c hc) (by omega)
  ·rw [List.getElem?_append_right (by omega)]at hb
   have:o=.bl e cs:=by
    cases hk:id-S.H.length with
    |zero=>rw [hk]at hb;simpa using hb
    |succ k=>rw [hk]at hb;simp at hb
   exact ho e cs this c hc
 ·rw [hH2]at h2
  by_cases hi:id<S.H.length
  ·rw [List.getElem?_append_left hi]at h2
   obtain⟨h3,r2,h4,h5⟩:=hM.2 id o2 h2
   refine⟨by rw [adN_up id hi];exact h3,r2,by rw [List.getElem?_append_left (by rw [hM.1];exact hi)];exact h4,h5.up adN_up hi fun e cs he=> ?_⟩
   subst he
   exact hS.ho id e cs h2
  ·rw [List.getElem?_append_right (by omega)]at h2
   have hk:id-S.H.length=0:=by
    cases hk:id-S.H.length with
    |zero=>rfl
    |succ k=>rw [hk]at h2;simp at h2
   have hid:id=S.H.length:=by omega
   rw [hk]at h2
   have:o=o2:=by simpa using h2
   subst this
   subst hid
   exact⟨by rw [adN_n];exact hl,r,by rw [List.getElem?_append_right (by rw [hM.1];exact zap _),hM.1];simp,hr⟩
theorem nx_new{o:Ob}{a:Ad}{S2:St}{m:List Rg}(hS:Rel C w0 S0 ρ S F w)(hH2:S2.H=S.H++[o])(hnb:S2.nb=S.nb)(hal:S2.al=S.al)(hm:S2.m=m++S.m):Nx S ρ S2 (adN ρ S.H.length a):=by
 have hle:∀nb al,Le nb al ρ S.H (adN ρ S.H.length a) S2.H:=by
  intro nb al
  rw [hH2]
  refine⟨by simp,adN_up,fun id o2 _ h2=> ?_⟩
  have hi:=(List.getElem?_eq_some_iff.1 h2).1
  rw [List.getElem?_append_left hi,h2]
  cases o2 with
  |bl e cs=>exact .inr ⟨cs,rfl,rfl,fun j c hj=>.inr ⟨c,hj,fun hk=>⟨hk,SC.up adN_up (hS.ho id e cs h2 c (List.mem_of_getElem? hj))⟩⟩⟩
  |rw e b t l=>exact .inr rfl
  |br m l=>exact .inr rfl
  |ro t l=>rfl
  |dd m=>rfl
 exact⟨⟨hnb,hal,hle _ _⟩,hle _ _,fun id j hc=>by rw [hm];exact afv.2 (.inr hc)⟩
end
open Go.Wk
open Go.Ce (Tr)
open List renaming eq_nil_of_length_eq_zero → zao, length_append → zac
open Nat renaming add_comm → zaU, eq_of_beq_eq_true → zag, le_of_ble_eq_true → zaD
section
variable {C : Cx} {md : Md} {w0 w : World} {S0 : List Nat} {ρ : Nat → Ad} {S : St} {F : Nat → Value}
variable {d : Nat} {ty : TypeId} {pos : String} {after : Array Edge}
def adB(b:Nat):Ad:=⟨some b,some ⟨b,0,none⟩,0,false,0⟩
theorem step_blk{op:Op}{cs:List SC}{e:Nat}{x:SC}{V:Nat→Value}(hS:Rel C w0 S0 ρ S F w)(hcs:∀c∈cs,c.ok S.H.length)(hx:x.ok (S.H.length+1))(hp:isPure op=false)
  (hV:∀b,x.v (adN ρ S.H.length (adB b))=V b) (hrun:(execOp (evn md F) (⟨some d,op,ty,pos,after,none⟩:Oper)).run C.P w=.ok (.value (V w.heap.size)) (w.alloc (.cells (cs.map (SC.v ρ)).toArray e (0,0)))):
  Step C md w0 S0 ρ S F w ⟨some d,op,ty,pos,after,none⟩ (St.set ⟨S.F,S.H++[.bl e cs],S.nb,S.al,[]++S.m⟩ d (.c' x)):=by
 intro ops Q rest hk
 obtain⟨L,hH,hM⟩:=hS.mem
 refine w_new hH (cs.map (SC.v ρ)) e V rfl rfl hrun fun b w2 hH2=> ?_
 have h1:Rel C w0 S0 (adN ρ S.H.length (adB b)) ⟨S.F,S.H++[.bl e cs],S.nb,S.al,[]++S.m⟩ F w2:=by
  refine rel_new (o:=.bl e cs) hS hM hH2 ⟨cs.map (SC.v ρ),by rw [adN_n];rfl,by simp,fun j c hj hk=> ?_⟩ rfl (fun e2 cs2 he c hc=> ?_) rfl rfl
  ·rw [List.getElem?_map,hj,SC.up adN_up (hcs c (List.mem_of_getElem? hj))];rfl
  ·cases he;exact SC.ok_mono (hcs c hc) (by omega)
 refine hk _ _ w2 (ato h1 (by show some (x.v _)=_;rw [hV]) (by show x.ok (S.H++[_]).length;simpa using hx)) (nx_new hS rfl rfl rfl rfl) aog fun d2 _ hp2=> ?_
 rw [show isPure op=true from hp2]at hp;cases hp
theorem step_alloc(hS:Rel C w0 S0 ρ S F w){e:Nat}{ro:Ro}(h:opM C (S.ev C) S.H (.alloc e)=some ro):Step C md w0 S0 ρ S F w ⟨some d,.alloc e,ty,pos,after,none⟩ (St.set ⟨S.F,ro.H,S.nb,S.al,ro.m++S.m⟩ d ro.v):=by
 have h:(match zC C e with
  |some z=>some (Ro.mk [] (.c' (.p' S.H.length 0)) (S.H++[.bl e z]) [])
  |none=>none)=some ro:=h
 split at h
 ·rename_i z hz
  cases h
  obtain⟨zv,h1,h2,h3⟩:=zC_ok hz w
  refine step_blk (V:=fun b=>.pointer (some ⟨b,0,none⟩)) hS (fun c hc i hi=>by rw [(h2 c hc).1]at hi;cases hi) (fun i hi=>by have:i=S.H.length:=List.mem_singleton.1 hi;omega) rfl (fun b=>by show bptr (adN ρ _ _ _).b 0=_;rw [adN_n];rfl) ?_
  have h3:=h3 ρ
  simp [execOp,Instr.alloc,h1,newVar,newRow,h3]
 ·cases h
theorem step_box(hS:Rel C w0 S0 ρ S F w)(hn:C.nn=md.n){e:Nat}{x:Operand}{ro:Ro}(h:opM C (S.ev C) S.H (.box e x)=some ro):Step C md w0 S0 ρ S F w ⟨some d,.box e x,ty,pos,after,none⟩ (St.set ⟨S.F,ro.H,S.nb,S.al,ro.m++S.m⟩ d ro.v):=by
 have h:(match(S.ev C x).cells with
  |some cs=>some (Ro.mk [] (.c' (.p' S.H.length 0)) (S.H++[.bl e cs]) [])
  |none=>none)=some ro:=h
 split at h
 ·rename_i cs hcs
  cases h
  obtain⟨h1,h2⟩:=aua hS hn x
  obtain⟨u,h3,h4⟩:=SV.cells_v (ρ:=ρ) hcs
  have h5:=h2 u h3
  refine step_blk (V:=fun b=>.pointer (some ⟨b,0,none⟩)) hS (SV.cells_ok hcs h1) (fun i hi=>by have:i=S.H.length:=List.mem_singleton.1 hi;omega) rfl (fun b=>by show bptr (adN ρ _ _ _).b 0=_;rw [adN_n];rfl) ?_
  simp [execOp,Instr.box,h5,newVar,newRow,h4]
 ·cases h
theorem repC_len(z:List SC):∀k,(repC z k).length=k*z.length
 |0=>by simp [repC]
 |k+1=>by
  show(z++repC z k).length=_
  rw [zac,repC_len z k,Nat.succ_mul,zaU]
theorem repC_mem{z:List SC}{p:SC→Prop}(hz:∀x∈z,p x):∀k,∀x∈repC z k,p x
 |0,x,h=>by cases h
 |k+1,x,h=>by
  rcases List.mem_append.1 (show x∈z++repC z k from h)with h|h
  ·exact hz x h
  ·exact repC_mem hz k x h
theorem repC_get(z:List SC):∀(k j:Nat),j<k*z.length→(repC z k)[j]? =z[j%z.length]?
 |0,j,h=>by omega
 |k+1,j,h=>by
  show(z++repC z k)[j]? =_
  by_cases hj:j<z.length
  ·rw [List.getElem?_append_left hj,Nat.mod_eq_of_lt hj]
  ·rw [List.getElem?_append_right (by omega),repC_get z k _ (by rw [Nat.succ_mul]at h;omega)]
   rw [←Nat.mod_eq_sub_mod (by omega)]
theorem made_eq{z:List SC}{k:Nat}{a:Array Value}(ha:a=(z.map (SC.v ρ)).toArray):(Array.range (k*z.length)).map (a[·%a.size]!)=((repC z k).map (SC.v ρ)).toArray:=by
 subst ha
 apply Array.ext
 ·simp [repC_len]
 ·intro i h1 h2
  have hi:i<k*z.length:=by simpa using h1
  have hz:0<z.length:=by
   rcases Nat.eq_zero_or_pos z.length with h|h
   ·rw [h]at hi;simp at hi
   ·exact h
  have hg:=repC_get z k i hi
  have hm:i%z.length<z.length:=Nat.mod_lt _ hz
  have hl:i<(repC z k).length:=by rw [repC_len];exact hi
  rw [List.getElem?_eq_getElem hm,List.getElem?_eq_getElem hl]at hg
  have hg':=Option.some.inj hg
  simp only [Array.getElem_map,Array.getElem_range,List.getElem_toArray,List.getElem_map,hg']
  simp [hm]
theorem step_buildSlice(hS:Rel C w0 S0 ρ S F w)(hn:C.nn=md.n){t len:Nat}{ps:Array (Nat×Operand)}{ro:Ro}(h:opM C (S.ev C) S.H (.buildSlice t len ps)=some ro):Step C md w0 S0 ρ S F w ⟨some d,.buildSlice t len ps,ty,pos,after,none⟩ (St.set ⟨S.F,ro.H,S.nb,S.al,ro.m++S.m⟩ d ro.v):=by
 have h:amk C (S.ev C) S.H t len ps.toList=some ro:=h
 unfold amk at h
 split at h
 ·rename_i e he
  split at h
  ·rename_i z n hz hn2
   have h1:=aag h
   have h2:=aag h1.2
   have h3:=h2.2
   split at h3
   ·rename_i cs hcs
    cases h3
    have hzl:z.length=n:=zag h1.1
    have hle:len*n≤100000:=zaD h2.1
    obtain⟨zv,h4,h5,h6⟩:=zC_ok hz w
    have h6:=h6 ρ
    obtain⟨h7,h8,h9⟩:=fillP_ok (ρ:=ρ) (md:=md) (F:=F) (k:=S.H.length) ps.toList (repC z len) cs (fun p _=>aua hS hn p.2) (repC_mem (fun c hc i hi=>by rw [(h5 c hc).1]at hi;cases hi) len) hcs
    have hparts:(ps.map fun p=>(p.1,evn md F p.2)).toList=ps.toList.map fun p=>(p.1,evn md F p.2):=by simp
    refine step_blk (V:=fun b=>.slice (some ⟨b,0,none⟩) len len) hS h9 (fun i hi=>by have:i=S.H.length:=List.mem_singleton.1 hi;omega) rfl (fun b=>by show Value.slice (some ⟨(adN ρ _ _ _).b,0,none⟩) len len=_;rw [adN_n];rfl) ?_
    have h16:¬len*n>2^24:=by omega
    have hmk:∀a:Array Value,(len*n≠0→a=(z.map (SC.v ρ)).toArray)→(Array.range (len*n)).map (a[·%a.size]!)=((repC z len).map (SC.v ρ)).toArray:=by
     intro a ha
     by_cases h0:len*n=0
     ·have hl:(repC z len).length=0:=by rw [repC_len,hzl,h0]
      have:repC z len=[]:=zao hl
      rw [h0,this];simp
     ·rw [←hzl];exact made_eq (ha h0)
    by_cases h0:len*n=0
    ·have hm:=hmk #[] (fun h=>absurd h0 h)
     simp only [execOp,Instr.buildSlice,Sem.run_bind,run_underlying (oSl he),Result.andThen_ok,oSz hn2 w]
     rw [if_neg h16,if_pos h0]
     simp only [Sem.run_bind,Sem.run_pure,Result.andThen_ok]
     rw [hparts,hm,h7]
     simp [newRow]
    ·have hm:=hmk zv.cells (fun _=>h6)
     simp only [execOp,Instr.buildSlice,Sem.run_bind,run_underlying (oSl he),Result.andThen_ok,oSz hn2 w]
     rw [if_neg h16,if_neg h0]
     simp only [Sem.run_bind,h4,Sem.run_pure,Result.andThen_ok]
     rw [hparts,hm,h7]
     simp [newRow]
   ·cases h3
  ·cases h
 ·cases h
end
open Go.Wk
open Go.Ce (Tr)
open List renaming append_assoc → zaq, drop_eq_nil_of_le → zbp, flatMap_cons → zar, length_append → zac, length_map → zaL, map_append → zbf, nil_append → zaB
open Nat renaming add_comm → zaU, beq → zai, eq_of_beq_eq_true → zag
theorem flat_at{α:Type}{f:α→List Value}{sz:Nat}(hE:Enc f sz):∀(l:List α) (i:Nat) (x:α),l[i]? =some x→∃A B,l.flatMap f=A++(f x++B)∧A.length=i*sz
 |y::l,0,x,h=>by
  have:y=x:=by simpa using h
  subst this
  exact⟨[],l.flatMap f,rfl,by simp⟩
 |y::l,i+1,x,h=>by
  obtain⟨A,B,h1,h2⟩:=flat_at hE l i x (by simpa using h)
  exact⟨f y++A,B,by rw [zar,h1,zaq],by rw [zac,hE.len,h2,Nat.succ_mul,zaU]⟩
theorem elT_get(t:Ty)(l:List t.T)(j:Int)(h:0≤j∧j<(l.length:Int)):l[j.toNat]? =some (elT t l j):=by
 have hlt:j.toNat<l.length:=by omega
 rw [elT_el]
 unfold el
 rw [List.getElem?_eq_getElem hlt]
 simp [List.getD,List.getElem?_eq_getElem hlt]
theorem szOk_mul{sz:Nat}{j:Int}{t:Ty}(h:szOk sz j t=true):j.toNat*sz=j.toNat*t.sz:=by
 unfold szOk at h
 cases hb:zai sz t.sz with
 |true=>rw [zag hb]
 |false=>
  rw [hb]at h
  simp only [cond_false]at h
  split at h
  ·show(0:Nat)*sz=0*t.sz;simp
  ·cases h
theorem el_cells{t:Ty}{l:List t.T}{j:Int}(hf:t.flat=true)(hj:0≤j∧j<(l.length:Int))(ρ:Nat→Ad):∃A B,l.flatMap t.enc=A++((elC t l j).map (SC.v ρ)++B)∧A.length=j.toNat*t.sz:=by
 obtain⟨A,B,h1,h2⟩:=flat_at (Ty.encOk hf) l j.toNat _ (elT_get t l j hj)
 refine⟨A,B, ?_,h2⟩
 rw [h1]
 unfold elC
 rw [(Ty.lay_flat t 0 0 (elT t l j) hf).2]
section
variable {C : Cx} {md : Md} {w0 w : World} {S0 : List Nat} {ρ : Nat → Ad} {S : St} {F : Nat → Value}
variable {d : Nat} {ty : TypeId} {pos : String} {after : Array Edge}
theorem rd_part{x:Operand}{t n off k:Nat}{a:Bool}{ad:Option Addr}{xs A B:List Value}{cs:List SC}{v:SV}(hR:Rd w ad xs)(hxs:xs=A++(cs.map (SC.v ρ)++B))(hA:A.length=k)(hn:tSz C t=some n)(ha:tAg C t=some a)(hp:partC cs off n a=some v)(hc:cs≠[])(hn0:a=true→0<n)
  (hx:evn md F x=.pointer (some (ea ad (k+off)))) (hok:∀c∈cs,c.ok S.H.length):Val C md ρ S F w (.load t x) v:=by
 refine⟨partC_oks hp hok, ?_⟩
 rcases partC_ok hp with⟨rfl,c,h1,_,rfl⟩|⟨rfl,h1,_,rfl⟩|⟨rfl,rfl,rfl⟩
 ·refine⟨_,rfl,fun d ty pos after=>x_rd1 ad xs (k+off) _ hR ?_ hx (oAg ha w)⟩
  rw [hxs,List.getElem?_append_right (by omega),hA,Nat.add_sub_cancel_left]
  have hl:=(List.getElem?_eq_some_iff.1 h1).1
  rw [List.getElem?_append_left (by simpa using hl),List.getElem?_map,h1];rfl
 ·refine⟨_,rfl,fun d ty pos after=>x_rdN ad xs _ (k+off) n hR ?_ ?_ (hn0 rfl) hx (oAg ha w) (oSz hn w)⟩
  ·rw [hxs,←hA,List.drop_append,zbp (by omega),zaB,Nat.add_sub_cancel_left,List.drop_append_of_le_length (by simp;omega),List.take_append_of_le_length (by simp;omega),List.map_take,List.map_drop]
  ·simp;omega
 ·exact absurd (hn0 rfl) (by omega)
theorem elC_ok{t:Ty}{l:List t.T}{j:Int}(hf:t.flat=true)(n:Nat):(∀c∈elC t l j,c.ok n)∧(elC t l j).length=t.sz:=by
 have h1:=Ty.lay_plain t 0 0 (elT t l j) hf
 refine⟨fun c hc i hi=>(by rw [(h1 c hc).1]at hi;cases hi), ?_⟩
 have h2:=(Ty.lay_flat t 0 0 (elT t l j) hf).2 (fun _=>⟨none,none,0,false,0⟩)
 have h3:=congrArg List.length h2
 rw [zaL,Ty.enc_len t _ hf]at h3
 exact h3
theorem partE_ok{x:Operand}{t n off id sz:Nat}{a:Bool}{τ:Ty}{l:List τ.T}{j:Int}{ro:Ro}(hR:Rd w (ρ id).a (l.flatMap τ.enc))(hn:tSz C t=some n)(ha:tAg C t=some a)(hn0:zai n 0=false)(hx:evn md F x=.pointer (some (ea (ρ id).a (j.toNat*sz+off))))
  (h:partE S.H τ l j sz off n a=some ro) (hg:All ro.g):Val C md ρ S F w (.load t x) ro.v∧ro.H=S.H∧ro.m=[]:=by
 unfold partE at h
 split at h
 ·rename_i v hv
  have h1:=aag h
  have h2:=aeo h1.1
  cases h1.2
  obtain⟨A,B,h3,h4⟩:=el_cells (ρ:=ρ) h2.2 hg.1
  obtain⟨h5,h6⟩:=elC_ok (l:=l) (j:=j) h2.2 S.H.length
  refine⟨rd_part hR h3 h4 hn ha hv (fun e=> ?_) (fun _=> ?_) (by rw [hx,szOk_mul h2.1]) h5,rfl,rfl⟩
  ·have:=Ty.sz_pos h2.2
   rw [e]at h6
   simp at h6;omega
  ·exact Nat.pos_of_ne_zero fun e=>by rw [e]at hn0;cases hn0
 ·cases h
theorem allC_ok{t:Ty}(hf:t.flat=true)(ρ:Nat→Ad)(n:Nat):∀(l:List t.T),(allC t l).map (SC.v ρ)=l.flatMap t.enc∧∀c∈allC t l,c.ok n
 |[]=>⟨rfl,fun c hc=>by cases hc⟩
 |x::l=>by
  obtain⟨h1,h2⟩:=allC_ok hf ρ n l
  refine⟨?_,fun c hc=> ?_⟩
  ·show((t.lay 0 0 x).1++allC t l).map _=_
   rw [zbf,h1,(Ty.lay_flat t 0 0 x hf).2,zar]
  ·rcases List.mem_append.1 (show c∈(t.lay 0 0 x).1++allC t l from hc)with hc|hc
   ·intro i hi
    rw [(Ty.lay_plain t 0 0 x hf c hc).1]at hi;cases hi
   ·exact h2 c hc
theorem wholeE_ok{x:Operand}{t n off id sz:Nat}{a:Bool}{τ:Ty}{l:List τ.T}{j:Int}{ro:Ro}(hR:Rd w (ρ id).a (l.flatMap τ.enc))(hn:tSz C t=some n)(ha:tAg C t=some a)(hn0:zai n 0=false)(hx:evn md F x=.pointer (some (ea (ρ id).a (j.toNat*sz+off))))
  (h:wholeE S.H τ l j off n a=some ro):Val C md ρ S F w (.load t x) ro.v∧ro.H=S.H∧ro.m=[]:=by
 unfold wholeE at h
 split at h
 ·have h1:=aag h
  obtain⟨v,hv,rfl⟩:=ami h1.2
  obtain⟨h2,h3⟩:=allC_ok h1.1 ρ S.H.length l
  refine⟨rd_part (A:=[]) (B:=[]) (k:=0) hR (by rw [h2];simp) rfl hn ha hv (fun e=> ?_) (fun _=> ?_) (by rw [hx];simp) h3,rfl,rfl⟩
  ·rcases partC_ok hv with⟨_,c,h1,_⟩|⟨_,h1,_⟩|⟨_,h1,_⟩
   ·rw [e]at h1;simp at h1
   ·rw [e]at h1
    have:n=0:=by simp at h1;omega
    rw [this]at hn0;cases hn0
   ·rw [h1]at hn0;cases hn0
  ·exact Nat.pos_of_ne_zero fun e=>by rw [e]at hn0;cases hn0
 ·cases h
theorem load_ok(hS:Rel C w0 S0 ρ S F w){t:Nat}{x:Operand}{c:SC}{ro:Ro}(hx:evn md F x=c.v ρ)(h:arg C S.H t c=some ro)(hg:All ro.g):Val C md ρ S F w (.load t x) ro.v∧ro.H=S.H∧ro.m=[]:=by
 obtain⟨L,hH,hM⟩:=hS.mem
 unfold arg at h
 split at h
 ·rename_i n a hn ha
  cases hn0:zai n 0 with
  |true=>rw [hn0]at h;cases h
  |false=>
   rw [hn0]at h
   simp only [cond_false]at h
   split at h
   ·rename_i id off
    split at h
    ·rename_i e cs hb
     rw [aap]at hb
     obtain⟨v,hv,rfl⟩:=ami h
     obtain⟨_,r,hr,vs,rfl,hm⟩:=hM.2 id _ hb
     have hbk:=hH.blkAt id hr
     have hx:evn md F x=.pointer (some ⟨(ρ id).b,off,none⟩):=hx
     refine⟨⟨partC_oks hv (hS.ho id e cs hb), ?_⟩,rfl,rfl⟩
     rcases partC_ok hv with⟨rfl,c,h1,h2,rfl⟩|⟨rfl,h1,h2,rfl⟩|⟨rfl,rfl,rfl⟩
     ·exact⟨_,rfl,fun d ty pos after=>x_ld1 (ρ id).b off vs e _ hbk (hm.2 off c h1 h2) hx (oAg ha w)⟩
     ·refine⟨_,rfl,fun d ty pos after=>x_ldN (ρ id).b off n vs _ e hbk ?_ (by simp;omega) hx (oAg ha w) (oSz hn w)⟩
      apply List.ext_getElem?
      intro j
      rw [List.getElem?_take,List.getElem?_map,List.getElem?_take]
      by_cases hj:j<n
      ·rw [if_pos hj,if_pos hj,List.getElem?_drop,List.getElem?_drop]
       have hlt:off+j<cs.length:=by omega
       have e1:=List.getElem?_eq_getElem hlt
       rw [e1,hm.2 (off+j) _ e1 (h2 _ (List.mem_of_getElem? (i:=j) (by rw [List.getElem?_take,if_pos hj,List.getElem?_drop];exact e1)))]
       rfl
      ·rw [if_neg hj,if_neg hj];rfl
     ·exact⟨_,rfl,fun d ty pos after=>x_ldN (ρ id).b off 0 vs _ e hbk (by simp) rfl hx (oAg ha w) (oSz hn w)⟩
    ·cases h
   ·rename_i id j sz off
    have hx:evn md F x=.pointer (some (ea (ρ id).a (j.toNat*sz+off))):=hx
    split at h
    ·rename_i e b τ l hb
     rw [aap]at hb
     obtain⟨_,r,hr,he⟩:=hM.2 id _ hb
     have he:r=rwt τ.enc e τ.sz (ρ id).o (ρ id).a (ρ id).cap l:=he
     subst he
     exact partE_ok (hH.rdrw id hr) hn ha hn0 hx h hg
    ·rename_i τ l hb
     rw [aap]at hb
     obtain⟨_,r,hr,_,hro,hne,_⟩:=hM.2 id _ hb
     split at h
     ·rename_i ro2 hp
      cases h
      exact partE_ok (hro.hpN hH hne) hn ha hn0 hx hp hg
     ·exact wholeE_ok (hro.hpN hH hne) hn ha hn0 hx h
    ·rename_i m l hb
     rw [aap]at hb
     obtain⟨_,r,hr,he⟩:=hM.2 id _ hb
     have he:r=brow (.slice (ρ id).a m (ρ id).cap) m l:=he
     subst he
     have hR:=hH.rdbrow id hr
     have e1:l.map bt=l.flatMap (Ty.c').enc:=(flat_eB l).symm
     rw [e1]at hR
     exact partE_ok (τ:=.c') hR hn ha hn0 hx h hg
    ·cases h
   ·cases h
 ·cases h
end
open Go.Wk
open Go.Ce (Tr)
open List renaming append_assoc → zaq, append_nil → zam, flatMap_cons → zar, length_append → zac, length_map → zaL
open Nat renaming add_assoc → zaK, add_comm → zaU, add_zero → zaM, beq → zai, eq_of_beq_eq_true → zag, le_refl → zap, one_pos → zbo
section
variable {C : Cx} {md : Md} {w0 w : World} {S0 : List Nat} {ρ : Nat → Ad} {S : St} {F : Nat → Value}
theorem rel_upd{L:List Res}{r:Res}{w2:World}{o o1:Ob}{id:Nat}{S2:St}(hS:Rel C w0 S0 ρ S F w)(hM:Mt w0 S0 ρ S.H L)(h1:S.H[id]? =some o1)(hH:Hp w0 S0 (L.set id r) w2)(hr:RO w0 S0 ρ id o r)(hl:o.len=o1.len)(ho:∀e cs,o=.bl e cs→∀c∈cs,c.ok S.H.length)
  (hF:S2.F=S.F) (hH2:S2.H=apb S.H id o):Rel C w0 S0 ρ S2 F w2:=by
 have ha:∀t,S2.at t=S.at t:=fun t=>by rw [St.at_eq,St.at_eq,hF]
 have hlen:S2.H.length=S.H.length:=by rw [hH2,ale]
 have hlt:=(List.getElem?_eq_some_iff.1 h1).1
 refine⟨fun g i hg=>by rw [hlen];exact hS.gl g i hg,fun t u hu=>hS.fr t u (by rw [←ha];exact hu),fun t=>by rw [ha,hlen];exact hS.fo t,fun i e cs hb c hc=> ?_,⟨L.set id r,hH,by simp [hM.1,hlen],fun i o2 h2=> ?_⟩⟩
 ·rw [hH2,ach]at hb
  rw [hlen]
  split at hb
  ·cases hb;exact ho e cs rfl c hc
  ·exact hS.ho i e cs hb c hc
 ·rw [hH2,ach]at h2
  split at h2
  ·rename_i hh
   cases h2
   rw [hh.1]
   exact⟨by rw [hl];exact(hM.2 id o1 h1).1,r,by rw [List.getElem?_set];simp [hM.1,hlt],hr⟩
  ·rename_i hh
   obtain⟨h3,r2,h4,h5⟩:=hM.2 i o2 h2
   refine⟨h3,r2, ?_,h5⟩
   rw [List.getElem?_set,if_neg (fun e=>hh ⟨e.symm,hlt⟩)];exact h4
theorem nx_upd{o o1:Ob}{id:Nat}{S2:St}{m:List Rg}(hS:Rel C w0 S0 ρ S F w)(h1:S.H[id]? =some o1)(hm0:S.oks m=true)(hk:∀al:List Rg,(∀j,cov id j m=true→cov id j al=true)→Keeps al id ρ ρ (some o) o1)(hH2:S2.H=apb S.H id o)(hnb:S2.nb=S.nb)(hal:S2.al=S.al)(hm:S2.m=m++S.m):Nx S ρ S2 ρ:=by
 have hle:∀nb al,(∀j,id<nb→cov id j m=true→cov id j al=true)→Le nb al ρ S.H ρ S2.H:=by
  intro nb al hc
  rw [hH2]
  refine⟨by rw [ale];exact zap _,Up.refl,fun i o2 hi h2=> ?_⟩
  rw [ach]
  split
  ·rename_i hh
   rw [hh.1,h1]at h2
   cases h2
   rw [hh.1]at hi⊢
   exact hk al fun j=>hc j hi
  ·rw [h2];exact Keeps.refl
 exact⟨⟨hnb,hal,hle _ _ fun j hi hc=>oks_cov hm0 hi hc⟩,hle _ _ fun j _ hc=>by rw [hm];exact afv.2 (.inl hc),fun id j hc=>by rw [hm];exact afv.2 (.inr hc)⟩
theorem splice_get{cs vs:List Value}{off:Nat}(h:off+vs.length≤cs.length)(j:Nat):(apz cs off vs)[j]? =if off≤j∧j<off+vs.length then vs[j-off]? else cs[j]? :=by
 unfold apz
 by_cases hj:j<off
 ·rw [if_neg (by omega),zaq,List.getElem?_append_left (by simp;omega),List.getElem?_take,if_pos hj]
 ·by_cases hj2:j<off+vs.length
  ·rw [if_pos ⟨by omega,hj2⟩,List.getElem?_append_left (by simp;omega),List.getElem?_append_right (by simp;omega)]
   simp;congr 1;omega
  ·rw [if_neg (by omega),List.getElem?_append_right (by simp;omega),List.getElem?_drop]
   congr 1;simp;omega
theorem splice_len{cs vs:List Value}{off:Nat}(h:off+vs.length≤cs.length):(apz cs off vs).length=cs.length:=by
 unfold apz;simp;omega
theorem step_store_bl{ty:TypeId}{pos:String}{after:Array Edge}(hS:Rel C w0 S0 ρ S F w)(hn:C.nn=md.n){t n id off e:Nat}{x y:Operand}{cs vs cs2:List SC}(hb:S.H[id]? =some (.bl e cs))(hx:evn md F x=bptr (ρ id).b off)(hvs:(S.ev C y).cells=some vs)(hsz:tSz C t=some n)(hl:vs.length=n)(hp:putC cs off vs=some cs2)(hm:S.oks [(id,off,off+n)]=true):
  Step C md w0 S0 ρ S F w ⟨none,.store t x y,ty,pos,after,none⟩ ⟨S.F,apb S.H id (.bl e cs2),S.nb,S.al,[(id,off,off+n)]++S.m⟩:=by
 intro ops Q rest hk
 obtain⟨L,hH,hM⟩:=hS.mem
 obtain⟨_,r,hr,vals,rfl,hmat⟩:=hM.2 id _ hb
 obtain⟨h1,h2⟩:=aua hS hn y
 obtain⟨u,h3,h4⟩:=SV.cells_v (ρ:=ρ) hvs
 have h5:=h2 u h3
 obtain⟨h6,h7⟩:=arf hp
 have hle:off+(vs.map (SC.v ρ)).length≤vals.length:=by rw [hmat.1];simpa using h6
 have hvo:=SV.cells_ok hvs h1
 obtain⟨w',hrun,hH'⟩:=hH.stored (P:=C.P) (off:=off) (vs:=vs.map (SC.v ρ)) hr hle (fun v hv=>by
  obtain⟨c,_,rfl⟩:=List.mem_map.1 hv
  exact SC.one ρ c)
 have hx:evn md F x=.pointer (some ⟨(ρ id).b,off,none⟩):=hx
 have hs:(sizeOf t).run C.P w=.ok (vs.map (SC.v ρ)).length w:=by rw [zaL,hl];exact oSz hsz w
 refine w_skip (w':=w') rfl rfl ?_ (hk ρ F w' ?_ ?_ (fun _ _=>rfl) (fun d hd=>by cases hd))
 ·have hs2:(sizeOf t).run C.P w=.ok vs.length w:=by rw [zaL]at hs;exact hs
  simp [execOp,hx,h5,Instr.storeAt,Instr.sureAddr,storeVar,hs2,h4,hrun]
 ·refine rel_upd (o:=.bl e cs2) hS hM hb hH' ⟨_,rfl,by rw [splice_len hle,hmat.1,putC_len hp],fun j c hj hkn=> ?_⟩ rfl (fun e2 cs3 he c hc=> ?_) rfl rfl
  ·rw [putC_get hp]at hj
   rw [splice_get hle,zaL]
   split at hj
   ·rename_i hh
    rw [if_pos hh,List.getElem?_map,hj];rfl
   ·rename_i hh
    rw [if_neg hh];exact hmat.2 j c hj hkn
  ·cases he
   obtain⟨j,hj⟩:=List.mem_iff_getElem?.1 hc
   rw [putC_get hp]at hj
   split at hj
   ·exact hvo c (List.mem_of_getElem? hj)
   ·exact hS.ho id e cs hb c (List.mem_of_getElem? hj)
 ·refine nx_upd (o:=.bl e cs2) (m:=[(id,off,off+n)]) hS hb hm (fun al hc=>.inr ⟨cs2,rfl,putC_len hp,fun j c hj=> ?_⟩) rfl rfl rfl rfl
  by_cases hh:off≤j∧j<off+vs.length
  ·left
   refine hc j (adm.2 ⟨_,List.mem_singleton.2 rfl,rfl,hh.1, ?_⟩)
   show j<off+n
   omega
  ·exact .inr ⟨c,by rw [putC_get hp,if_neg hh];exact hj,fun hk=>⟨hk,rfl⟩⟩
theorem flat_set{α:Type}{f:α→List Value}{sz:Nat}(hE:Enc f sz):∀(l:List α) (i:Nat) (y:α),l[i]? =some y→∃A B,l.flatMap f=A++(f y++B)∧A.length=i*sz∧∀x,(l.set i x).flatMap f=A++(f x++B)
 |z::l,0,y,h=>by
  have:z=y:=by simpa using h
  subst this
  exact⟨[],l.flatMap f,rfl,by simp,fun x=>rfl⟩
 |z::l,i+1,y,h=>by
  obtain⟨A,B,h1,h2,h3⟩:=flat_set hE l i y (by simpa using h)
  exact⟨f z++A,B,by rw [zar,h1,zaq],by rw [zac,hE.len,h2,Nat.succ_mul,zaU],fun x=>by rw [List.set_cons_succ,zar,h3,zaq]⟩
theorem splice_mid{A E B vs:List Value}{off:Nat}(h:off+vs.length≤E.length):apz (A++(E++B)) (A.length+off) vs=A++(apz E off vs++B):=by
 unfold apz
 rw [List.take_length_add_append,zaK,List.drop_length_add_append,List.take_append_of_le_length (by omega),List.drop_append_of_le_length h]
 simp [zaq]
theorem rwt_own{α:Type}{f:α→List Value}{e sz cap g:Nat}{o:Option Nat}{l:List α}{L:List Res}{k:Nat}(hH:Hp w0 S0 L w)(hk:L[k]? =some (rwt f e sz o (some ⟨g,0,none⟩) cap l))(hl:l≠[]):o=some g:=by
 obtain⟨h6,_⟩:=hH.res _ (List.mem_of_getElem? hk)
 rcases h6 with⟨_,h8,_⟩|⟨g',cur,h7,h8,_⟩
 ·exact absurd h8 hl
 ·simp only [Option.some.injEq,Addr.mk.injEq,and_true]at h8
  rw [h8];exact h7
theorem step_store_rw{ty:TypeId}{pos:String}{after:Array Edge}(hS:Rel C w0 S0 ρ S F w)(hn:C.nn=md.n){t n id sz off e b:Nat}{τ:Ty}{l l2:List τ.T}{j:Int}{x y:Operand}{vs:List SC}(hb:S.H[id]? =some (.rw e b τ l))(hx:evn md F x=.pointer (some (ea (ρ id).a (j.toNat*sz+off))))(hvs:(S.ev C y).cells=some vs)(hsz:tSz C t=some n)(hl:vs.length=n)(hn0:zai n 0=false)
  (hk0:szOk sz j τ=true) (hf:τ.flat=true) (hj:0≤j∧j<(l.length:Int)) (hp:setE τ l j off vs=some l2) (hm:S.oks [(id,0,1)]=true):
  Step C md w0 S0 ρ S F w ⟨none,.store t x y,ty,pos,after,none⟩ ⟨S.F,apb S.H id (.rw e b τ l2),S.nb,S.al,[(id,0,1)]++S.m⟩:=by
 intro ops Q rest hk
 obtain⟨L,hH,hM⟩:=hS.mem
 obtain⟨hln,r,hr,he⟩:=hM.2 id _ hb
 have he:r=rwt τ.enc e τ.sz (ρ id).o (ρ id).a (ρ id).cap l:=he
 subst he
 have hE:=Ty.encOk hf
 obtain⟨h1,h2⟩:=aua hS hn y
 obtain⟨u,h3,h4⟩:=SV.cells_v (ρ:=ρ) hvs
 have h5:=h2 u h3
 unfold setE at hp
 split at hp
 ·rename_i cs hcs
  split at hp
  ·rename_i z hz
   cases hp
   have hjl:j.toNat<l.length:=by omega
   obtain⟨A,B,f1,f2,f3⟩:=flat_set hE l j.toNat _ (elT_get τ l j hj)
   obtain⟨h6,h7⟩:=arf hcs
   have hel:=(Ty.lay_flat τ 0 0 (elT τ l j) hf).2 ρ
   have hz2:=(rd0_ok τ cs z [] hz).2 ρ
   rw [List.map_nil,zam]at hz2
   have hll:(elC τ l j).length=τ.sz:=(elC_ok (l:=l) (j:=j) hf 0).2
   have hsp:apz (τ.enc (elT τ l j)) off (vs.map (SC.v ρ))=τ.enc z:=by
    rw [←hz2,←hel,h7]
    unfold apz elC
    simp
   have hE1:(τ.enc (elT τ l j)).length=τ.sz:=τ.enc_len _ hf
   have hoff:off+(vs.map (SC.v ρ)).length≤(τ.enc (elT τ l j)).length:=by rw [hE1,zaL,←hll];exact h6
   cases ho:(ρ id).o with
   |none=>
    exfalso
    rw [ho]at hr
    obtain⟨h8,_⟩:=hH.res _ (List.mem_of_getElem? hr)
    rcases h8 with⟨_,h9,_⟩|⟨g,cur,h9,_⟩
    ·subst h9;simp at hjl
    ·cases h9
   |some g=>
    rw [ho]at hr
    obtain⟨ha,h8⟩:=hH.rwrow hE id hr
    have hlt:id<L.length:=(List.getElem?_eq_some_iff.1 hr).1
    have hfl:(l.flatMap τ.enc).length=A.length+(τ.sz+B.length):=by rw [f1];simp [hE1]
    obtain⟨w',hrun,h9⟩:=h8.strow (P:=C.P) (k:=id) (vs:=vs.map (SC.v ρ)) (j:=A.length+off) (List.getElem?_set_self hlt) (by rw [hfl];rw [hE1]at hoff;omega) (fun v hv=>by
     obtain⟨c,_,rfl⟩:=List.mem_map.1 hv
     exact SC.one ρ c) (fun hnil=>by
     have:vs=[]:=List.map_eq_nil_iff.1 hnil
     rw [this]at hl
     rw [←hl]at hn0;cases hn0)
    rw [aja,f1,splice_mid hoff,hsp,←f3 z,show l.length=(l.set j.toNat z).length by simp]at h9
    obtain⟨o',h10⟩:=h9.rowrw (k:=id) (l:=l.set j.toNat z) (List.getElem?_set_self hlt)
    rw [aja]at h10
    have ho':o'=some g:=by
     rw [ha]at h10
     refine rwt_own h10 (List.getElem?_set_self hlt) fun hnil=> ?_
     have:(l.set j.toNat z).length=0:=by rw [hnil];rfl
     rw [List.length_set]at this;omega
    rw [ho',←ho]at h10
    have hs2:(sizeOf t).run C.P w=.ok vs.length w:=by rw [hl];exact oSz hsz w
    refine w_skip (w':=w') rfl rfl ?_ (hk ρ F w' ?_ ?_ (fun _ _=>rfl) (fun d hd=>by cases hd))
    ·have hadr:j.toNat*sz+off=A.length+off:=by rw [szOk_mul hk0,f2]
     rw [hadr]at hx
     simp [execOp,hx,h5,Instr.storeAt,Instr.sureAddr,storeVar,hs2,h4,hrun]
    ·exact rel_upd (o:=.rw e b τ (l.set j.toNat z)) hS hM hb h10 rfl (by show(l.set j.toNat z).length=l.length;simp) (fun _ _ he=>by cases he) rfl rfl
    ·exact nx_upd (o:=.rw e b τ (l.set j.toNat z)) (m:=[(id,0,1)]) hS hb hm (fun al hc=>.inl (hc 0 (adm.2 ⟨_,List.mem_singleton.2 rfl,rfl,zap _,zbo⟩))) rfl rfl rfl rfl
  ·cases hp
 ·cases hp
theorem step_store_br{ty:TypeId}{pos:String}{after:Array Edge}(hS:Rel C w0 S0 ρ S F w)(hn:C.nn=md.n){t id sz m:Nat}{l:Str}{j:Int}{x y:Operand}{v:SC}{c:UInt8}(hb:S.H[id]? =some (.br m l))(hx:evn md F x=.pointer (some (ea (ρ id).a (j.toNat*sz+0))))(hvs:S.ev C y=.c' v)(hv:v.rC=some c)(hsz:tSz C t=some 1)
  (hk0:szOk sz j .c'=true) (hj:0≤j∧j<(l.length:Int)) (hm:S.oks [(id,0,1)]=true):
  Step C md w0 S0 ρ S F w ⟨none,.store t x y,ty,pos,after,none⟩ ⟨S.F,apb S.H id (.br m (l.set j.toNat c)),S.nb,S.al,[(id,0,1)]++S.m⟩:=by
 intro ops Q rest hk
 obtain⟨L,hH,hM⟩:=hS.mem
 obtain⟨hln,r,hr,he⟩:=hM.2 id _ hb
 have he:r=brow (.slice (ρ id).a m (ρ id).cap) m l:=he
 subst he
 obtain⟨h1,h2⟩:=aua hS hn y
 have hy:evn md F y=bt c:=by
  rw [hvs]at h2
  rw [h2 _ rfl,rC_v hv ρ]
 have hx:evn md F x=.pointer (some (ea (ρ id).a (j.toNat*1))):=by
  rw [hx,zaM,szOk_mul hk0];rfl
 refine w_stB hH id (ρ id).a m (ρ id).cap j l c hr hj hx hy (oSz hsz w) fun w' hH'=>hk ρ F w' ?_ ?_ (fun _ _=>rfl) (fun d hd=>by cases hd)
 ·exact rel_upd (o:=.br m (l.set j.toNat c)) hS hM hb hH' rfl rfl (fun _ _ he=>by cases he) rfl rfl
 ·exact nx_upd (o:=.br m (l.set j.toNat c)) (m:=[(id,0,1)]) hS hb hm (fun al hc=>.inl (hc 0 (adm.2 ⟨_,List.mem_singleton.2 rfl,rfl,zap _,zbo⟩))) rfl rfl rfl rfl
theorem step_store{ty:TypeId}{pos:String}{after:Array Edge}(hS:Rel C w0 S0 ρ S F w)(hn:C.nn=md.n){t:Nat}{x y:Operand}{ro:Ro}(h:opM C (S.ev C) S.H (.store t x y)=some ro)(hg:All ro.g)(hm:S.oks ro.m=true):
  Step C md w0 S0 ρ S F w ⟨none,.store t x y,ty,pos,after,none⟩ ⟨S.F,ro.H,S.nb,S.al,ro.m++S.m⟩∧ro.v=.u':=by
 obtain⟨a,ha,h⟩:=abd (show on1 (S.ev C x) (fun a=>opStore C S.H t a (S.ev C y))=some ro from h)
 have hx:=(adu hS hn ha).2
 unfold opStore at h
 split at h
 ·rename_i n vs hsz hvs
  have h:=aag h
  have hl:=zag h.1
  have h:=h.2
  split at h
  ·rename_i id off
   split at h
   ·rename_i e cs hb
    rw [aap]at hb
    split at h
    ·rename_i cs2 hp
     cases h
     exact⟨step_store_bl hS hn hb hx hvs hsz hl hp hm,rfl⟩
    ·cases h
   ·cases h
  ·rename_i id j sz off
   cases hn0:zai n 0 with
   |true=>rw [hn0]at h;cases h
   |false=>
    rw [hn0]at h
    simp only [cond_false]at h
    split at h
    ·rename_i e b τ l hb
     rw [aap]at hb
     split at h
     ·rename_i l2 hp
      have h:=aag h
      have h1:=aeo h.1
      cases h.2
      exact⟨step_store_rw hS hn hb hx hvs hsz hl hn0 h1.1 h1.2 hg.1 hp hm,rfl⟩
     ·cases h
    ·rename_i m l hb
     rw [aap]at hb
     split at h
     ·rename_i v hv
      split at h
      ·rename_i c hc
       have h:=aag h
       have h1:=aeo h.1
       have h2:=zag h1.2
       cases h.2
       subst h2
       have hvs':(S.ev C y).cells=some [v]:=by rw [hv];rfl
       rw [hvs]at hvs'
       have e1:vs=[v]:=Option.some.inj hvs'
       rw [e1]at hl
       have e2:n=1:=hl.symm
       rw [e2]at hsz
       exact⟨step_store_br hS hn hb hx hv hc hsz h1.1 hg.1 hm,rfl⟩
      ·cases h
     ·cases h
    ·cases h
  ·cases h
 ·cases h
end
open Go.Wk
open Go.Ce (Tr)
open List renaming length_append → zac, length_drop → zat, length_take → zaP, map_cons → zaG, mem_cons_of_mem → zaf, mem_cons_self → zah
open Nat renaming add_zero → zaM, beq → zai, eq_of_beq_eq_true → zag, le_of_ble_eq_true → zaD, le_refl → zap, one_pos → zbo, succ → zaA, zero_add → zbb, zero_le → zan
def EOk(C:Cx):Prop:=∀t e b τ,C.E t=some (e,b,τ)→C.P.underlying t=some (.slice e)∧TI C.P e τ.sz b∧τ.flat=true∧0<b
section
variable {C : Cx} {md : Md} {w0 w : World} {S0 : List Nat} {ρ : Nat → Ad} {S : St} {F : Nat → Value}
theorem len_ok(hS:Rel C w0 S0 ρ S F w){x:Operand}{t:TypeId}{c:SC}{g:List PD}{r:SV}(hx:evn md F x=c.v ρ)(hc:c.ok S.H.length)(h:lenC C S.H t c=some (g,r)):Val C md ρ S F w (.call ⟨.builtin .len, #[x], #[t]⟩) r:=by
 unfold lenC at h
 split at h
 ·rename_i l
  have h:=aag h
  cases h.2
  exact acz rfl rfl fun d ty pos after=>x_len l (oStr h.1) hx
 ·split at h
  ·rename_i e he
   split at h
   ·rename_i id _
    split at h
    ·rename_i o ho
     cases h
     rw [aap]at ho
     refine acz rfl rfl fun d ty pos after=> ?_
     rw [rel_lns hS id o ho]
     exact x_lenS (ρ id).a (ρ id).ln (ρ id).cap e (oSl he) hx
    ·cases h
   ·cases h
    exact acz rfl rfl fun d ty pos after=>x_lenS _ _ _ e (oSl he) hx
   ·cases h
    exact acz rfl rfl fun d ty pos after=>x_lenS _ _ _ e (oSl he) hx
   ·cases h
  ·cases h
theorem lenX_ok(hS:Rel C w0 S0 ρ S F w){id m:Nat}(h:lenX S.H id=some m)(h0:0<m):(ρ id).ln=m∧(ρ id).a≠none:=by
 obtain⟨L,hH,hM⟩:=hS.mem
 unfold lenX at h
 split at h
 ·rename_i e b t l hb
  have h:=aag h
  cases h.2
  rw [aap]at hb
  obtain⟨h1,r,hr,he⟩:=hM.2 id _ hb
  have he:r=rwt t.enc e t.sz (ρ id).o (ρ id).a (ρ id).cap l:=he
  subst he
  refine⟨h1.symm,(hH.rdrw id hr).some_ ?_⟩
  rw [(Ty.encOk h.1).flat]
  exact Nat.mul_pos h0 (Ty.sz_pos h.1)
 ·rename_i t l hb
  have h:=aag h
  cases h.2
  rw [aap]at hb
  obtain⟨h1,r,hr,_,hro,_⟩:=hM.2 id _ hb
  refine⟨h1.symm,hro.some_ ?_⟩
  rw [(Ty.encOk h.1).flat]
  exact Nat.mul_pos h0 (Ty.sz_pos h.1)
 ·rename_i k l hb
  cases h
  rw [aap]at hb
  obtain⟨h1,r,hr,he⟩:=hM.2 id _ hb
  have he:r=brow (.slice (ρ id).a k (ρ id).cap) k l:=he
  subst he
  have h1:k=(ρ id).ln:=h1
  exact⟨by rw [←h1];exact(rel_brk hS id k l hb).symm,(hH.rdbrow id hr).some_ (by simpa using h0)⟩
 ·cases h
theorem indexAddr_ok(hS:Rel C w0 S0 ρ S F w){t:TypeId}{x ix:Operand}{a c:SC}{ro:Ro}(hx:evn md F x=a.v ρ)(ha:a.ok S.H.length)(hi:evn md F ix=c.v ρ)(h:ahl C S.H t a c=some ro)(hg:All ro.g):Val C md ρ S F w (.indexAddr t x ix) ro.v∧ro.H=S.H∧ro.m=[]:=by
 unfold ahl at h
 split at h
 ·rename_i j hj
  obtain⟨q,hq⟩:=asI_v hj ρ
  rw [hq]at hi
  split at h
  ·rename_i e he
   split at h
   ·rename_i sz hsz
    split at h
    ·rename_i id
     split at h
     ·rename_i m hm
      cases h
      have hb:=hg.1
      obtain⟨h1,h2⟩:=lenX_ok hS hm (by omega)
      exact⟨⟨ha,_,rfl,fun d ty pos after=>x_ixa (ρ id).a (ρ id).ln (ρ id).cap e sz q j (oSl he) (oSz hsz w) hx hi (by omega) h2⟩,rfl,rfl⟩
     ·cases h
    ·rename_i id m
     cases h
     refine⟨⟨ha,_,rfl,fun d ty pos after=> ?_⟩,rfl,rfl⟩
     have:=x_ixa (P:=C.P) (w:=w) (d:=d) (ty:=ty) (pos:=pos) (after:=after) (some ⟨(ρ id).b,0,none⟩) m m e sz q j (oSl he) (oSz hsz w) hx hi hg.1 (by simp)
     rw [this]
     show _=Result.ok (Next.value (bptr (ρ id).b (j.toNat*sz))) w
     unfold ea bptr
     simp [akq]
    ·cases h
   ·cases h
  ·split at h
   ·rename_i q2 hq2
    split at h
    ·rename_i sz hsz
     split at h
     ·rename_i id off
      have h:=aag h
      cases h.2
      refine⟨⟨ha,_,rfl,fun d ty pos after=> ?_⟩,rfl,rfl⟩
      have:=x_ixaA (P:=C.P) (w:=w) (d:=d) (ty:=ty) (pos:=pos) (after:=after) ⟨(ρ id).b,off,none⟩ q2.1 q2.2 sz q j (oAr hq2) (oSz hsz w) hx hi hg.1 (zaD h.1)
      rw [this]
      show _=Result.ok (Next.value (bptr (ρ id).b (off+j.toNat*sz))) w
      unfold ea bptr
      simp [akq]
     ·rename_i id j0 sz0 off0
      have h:=aag h
      have h2:=aag h.2
      have h3:=aag h2.2
      cases h3.2
      refine⟨⟨ha,_,rfl,fun d ty pos after=> ?_⟩,rfl,rfl⟩
      have e1:=zag h2.1
      have e2:=zag h3.1
      subst e1
      subst e2
      have:=x_ixaA (P:=C.P) (w:=w) (d:=d) (ty:=ty) (pos:=pos) (after:=after) (ea (ρ id).a 0) q2.1 q2.2 sz q j (oAr hq2) (oSz hsz w) (by rw [hx];rfl) hi hg.1 (zaD h.1)
      rw [this]
      show Result.ok (Next.value (.pointer (some ((ea (ρ id).a 0).add (j.toNat*sz))))) w=Result.ok (Next.value (.pointer (some (ea (ρ id).a (j.toNat*sz+0))))) w
      rw [ea_add,zbb,zaM]
     ·cases h
    ·cases h
   ·cases h
 ·cases h
theorem cont_ok(hS:Rel C w0 S0 ρ S F w){t:Ty}{c:SC}{l:List t.T}(h:contE S.H t c=some l):∃a cap,c.v ρ=.slice a l.length cap∧Rd w a (l.flatMap t.enc):=by
 obtain⟨L,hH,hM⟩:=hS.mem
 unfold contE at h
 split at h
 ·cases h;exact⟨none,0,rfl,Rd.nil _ _⟩
 ·rename_i id
  rw [aap]at h
  unfold anyOf at h
  split at h
  ·rename_i e b t2 l2 hb
   split at h
   ·rename_i hq
    obtain rfl:=Ty.eqb_eq hq
    cases h
    obtain⟨h1,r,hr,he⟩:=hM.2 id _ hb
    have he:r=rwt t2.enc e t2.sz (ρ id).o (ρ id).a (ρ id).cap l2:=he
    subst he
    have h1:l2.length=(ρ id).ln:=h1
    exact⟨(ρ id).a,(ρ id).cap,by show Value.slice _ (ρ id).ln _=_;rw [←h1];rfl,hH.rdrw id hr⟩
   ·cases h
  ·rename_i t2 l2 hb
   split at h
   ·rename_i hq
    obtain rfl:=Ty.eqb_eq hq
    cases h
    obtain⟨h1,r,hr,_,hro,hne,_⟩:=hM.2 id _ hb
    have h1:l2.length=(ρ id).ln:=h1
    exact⟨(ρ id).a,(ρ id).cap,by show Value.slice _ (ρ id).ln _=_;rw [←h1];rfl,hro.hpN hH hne⟩
   ·cases h
  ·rename_i m l2 hb
   unfold strOf at h
   split at h
   ·rename_i hq
    obtain rfl:=Ty.eqb_eq hq
    cases h
    obtain⟨h1,r,hr,he⟩:=hM.2 id _ hb
    have he:r=brow (.slice (ρ id).a m (ρ id).cap) m l2:=he
    subst he
    have h1:m=(ρ id).ln:=h1
    have h2:=rel_brk hS id m l2 hb
    exact⟨(ρ id).a,(ρ id).cap,by show Value.slice _ (ρ id).ln _=_;rw [←h1,←h2];rfl,Rd.ofbytes (hH.rdbrow id hr)⟩
   ·cases h
  ·cases h
 ·rename_i id m
  split at h
  ·rename_i e cs hb
   rw [aap]at hb
   obtain⟨_,r,hr,vs,rfl,hm⟩:=hM.2 id _ hb
   obtain⟨h1,_,h3⟩:=apw h
   refine⟨some ⟨(ρ id).b,0,none⟩,m,by rw [h1];rfl, ?_⟩
   have h4:=hm.all (rdAll_kn h)
   rw [←h3 ρ,←h4]
   exact hH.rdblk id hr
  ·cases h
 ·cases h
theorem tostr_ok(hS:Rel C w0 S0 ρ S F w){s t e:TypeId}{x:Operand}{c:SC}{l:Str}(hx:evn md F x=c.v ρ)(hs:slE C s=some e)(ht:anj C t=true)(he:isU8 C e=true)(h:contE S.H .c' c=some l):Val C md ρ S F w (.convert s t x) (.c' (.s' l)):=by
 obtain⟨a,cap,h1,h2⟩:=cont_ok hS h
 rw [h1]at hx
 exact acz rfl rfl fun d ty pos after=>x_tostr l a l.length cap e (Rd.bytes h2) rfl (oSl hs) (oStr ht) (oU8 he) hx
theorem mm_ok{b:Builtin}{x y:Operand}{ts:Array TypeId}{a c:SC}{g:List PD}{r:SV}(hx:evn md F x=a.v ρ)(hy:evn md F y=c.v ρ)(h:mmC b a c=some (g,r)):Val C md ρ S F w (.call ⟨.builtin b, #[x,y],ts⟩) r:=by
 unfold mmC at h
 split at h
 ·rename_i k u k2 v
  have h:=aag h
  cases h.2
  rw [←keq_eq h.1]at hy
  exact acz rfl rfl fun d ty pos after=>x_min k u v hx hy
 ·rename_i k u k2 v
  have h:=aag h
  cases h.2
  rw [←keq_eq h.1]at hy
  exact acz rfl rfl fun d ty pos after=>x_max k u v hx hy
 ·cases h
theorem nil_ok{x:Operand}{c:SC}{v:SV}(hx:evn md F x=c.v ρ)(hc:c.ok S.H.length)(h:opNil c=some v):Val C md ρ S F w (.nilCheck x) v:=by
 unfold opNil at h
 split at h
 ·rename_i id off
  cases h
  have hx:evn md F x=.pointer (some ⟨(ρ id).b,off,none⟩):=hx
  exact⟨hc,_,rfl,fun d ty pos after=>by simp [execOp,hx];rfl⟩
 ·rename_i id j sz off
  cases h
  have hx:evn md F x=.pointer (some (ea (ρ id).a (j.toNat*sz+off))):=hx
  exact⟨hc,_,rfl,fun d ty pos after=>by simp [execOp,hx];rfl⟩
 ·rename_i k ids
  cases h
  have hx:evn md F x=.func (.func k) #[] (ids.map fun id=>bptr (ρ id).b 0).toArray:=hx
  exact⟨hc,_,rfl,fun d ty pos after=>by simp [execOp,hx];rfl⟩
 ·cases h
theorem capI_ok{ev:Operand→SV}{n:Nat}:∀{l:List Operand} {ids:List Nat},(∀x∈l,(ev x).ok n∧∀u,(ev x).v ρ=some u→evn md F x=u)→capI (l.map ev)=some ids→l.map (evn md F)=ids.map (fun id=>bptr (ρ id).b 0)∧∀id∈ids,id<n
 |[],ids,_,h=>by cases h;exact⟨rfl,fun _ h=>by cases h⟩
 |x::l,ids,hx,h=>by
  have h:(match ev x with
   |.c' (.p' id off)=>bif zai off 0 then(match capI (l.map ev)with
    |some q=>some (id::q)
    |none=>none)else none
   |_=>none)=some ids:=h
  split at h
  ·rename_i id off hv
   have h:=aag h
   have h2:=h.2
   split at h2
   ·rename_i q hq
    cases h2
    obtain⟨h3,h4⟩:=capI_ok (fun y hy=>hx y (zaf _ hy)) hq
    obtain⟨h5,h6⟩:=hx x zah
    rw [hv]at h5 h6
    have h7:=h6 _ rfl
    rw [zag h.1]at h7
    refine⟨by rw [zaG,zaG,h3,h7];rfl,fun i hi=> ?_⟩
    rcases List.mem_cons.1 hi with rfl|hi
    ·exact h5 i (List.mem_singleton.2 rfl)
    ·exact h4 i hi
   ·cases h2
  ·cases h
theorem func_ok(hS:Rel C w0 S0 ρ S F w)(hn:C.nn=md.n){f:Fn}{a b:Array Operand}{v:SV}(h:opFunc (S.ev C) f a.toList b.toList=some v):Val C md ρ S F w (.makeFunc f a b) v:=by
 unfold opFunc at h
 split at h
 ·rename_i k
  split at h
  ·rename_i ha
   split at h
   ·rename_i ids hi
    cases h
    obtain⟨h1,h2⟩:=capI_ok (ρ:=ρ) (md:=md) (F:=F) (n:=S.H.length) (fun x _=>aua hS hn x) hi
    have ha:a= #[]:=Array.toList_inj.1 ha
    subst ha
    have hb:b.map (evn md F)=(ids.map fun id=>bptr (ρ id).b 0).toArray:=Array.toList_inj.1 (by rw [Array.toList_map,h1])
    refine⟨fun i hi=>h2 i hi,_,rfl,fun d ty pos after=> ?_⟩
    simp [execOp,Instr.makeFunc,hb,SC.v]
   ·cases h
  ·cases h
 ·cases h
theorem pick_ok(hS:Rel C w0 S0 ρ S F w)(hn:C.nn=md.n){c a b:Operand}{t:Bool}{v:SV}(hc:S.ev C c=.c' (.b' t))(hv:(bif t then S.ev C a else S.ev C b)=v)(hk:v≠.u'):Val C md ρ S F w (.pick c a b) v:=by
 have h1:=(adu hS hn hc).2
 have key:v.ok S.H.length∧∀u,v.v ρ=some u→(bif t then evn md F a else evn md F b)=u:=by
  cases t with
  |true=>have:=aua hS hn a;rw [show S.ev C a=v from hv]at this;exact this
  |false=>have:=aua hS hn b;rw [show S.ev C b=v from hv]at this;exact this
 obtain⟨u,hu⟩:∃u,v.v ρ=some u:=by cases v<;>first|exact⟨_,rfl⟩|exact absurd rfl hk
 exact⟨key.1,u,hu,fun d ty pos after=>x_pick t u h1 (key.2 u hu)⟩
variable {d : Nat} {ty : TypeId} {pos : String} {after : Array Edge}
theorem hp_idle{L:List Res}(h:Hp w0 S0 L w):Hp w0 S0 (nores::L) w:=by
 refine⟨h.os,h.tape,h.output,h.size,h.below,fun r hr=> ?_,List.Pairwise.cons (fun r _ b hb=>by cases hb) h.sep⟩
 rcases List.mem_cons.1 hr with rfl|hr
 ·exact⟨trivial,fun b hb=>by cases hb⟩
 ·exact h.res r hr
theorem set_perm{α:Type}:∀{L:List α} {id:Nat} (r:α),id<L.length→(L.set id r).Perm (r::L.eraseIdx id)
 |x::L,0,r,_=>List.Perm.refl _
 |x::L,id+1,r,h=>by
  simp only [List.set_cons_succ,List.eraseIdx_cons_succ]
  exact(List.Perm.cons x (set_perm r (by simpa using h))).trans (List.Perm.swap r x _)
theorem hp_moved{L:List Res}{id:Nat}{r:Res}(hid:id<L.length)(h:Hp w0 S0 (L.set id r) w):Hp w0 S0 (r::L.set id nores) w:=by
 have h1:=h.perm (set_perm r hid)
 have h2:=(hp_idle h1).perm (List.Perm.swap r nores _)
 exact h2.perm ((set_perm nores hid).symm.cons r)
theorem mt_upd{H:List Ob}{L:List Res}{r:Res}{o o1:Ob}{id:Nat}(hM:Mt w0 S0 ρ H L)(h1:H[id]? =some o1)(hr:RO w0 S0 ρ id o r)(hl:o.len=o1.len):Mt w0 S0 ρ (apb H id o) (L.set id r):=by
 have hlt:=(List.getElem?_eq_some_iff.1 h1).1
 refine⟨by simp [hM.1,ale],fun i o2 h2=> ?_⟩
 rw [ach]at h2
 split at h2
 ·rename_i hh
  cases h2
  rw [hh.1]
  exact⟨by rw [hl];exact(hM.2 id o1 h1).1,r,by rw [List.getElem?_set];simp [hM.1,hlt],hr⟩
 ·rename_i hh
  obtain⟨h3,r2,h4,h5⟩:=hM.2 i o2 h2
  refine⟨h3,r2, ?_,h5⟩
  rw [List.getElem?_set,if_neg (fun e=>hh ⟨e.symm,hlt⟩)];exact h4
theorem rel_row{L:List Res}{w2:World}{id e b:Nat}{τ:Ty}{l:List τ.T}{o1:Ob}{o':Option Nat}{a':Option Addr}{cap':Nat}{m:List Rg}(hS:Rel C w0 S0 ρ S F w)(hM:Mt w0 S0 ρ S.H L)(h1:S.H[id]? =some o1)(hH:Hp w0 S0 (L.set id (rwt τ.enc e τ.sz o' a' cap' l)) w2)(hm:S.oks m=true)
  (hk:∀al:List Rg,(∀j,cov id j m=true→cov id j al=true)→Keeps al id ρ ρ (some (.dd o1.len)) o1):
  Rel C w0 S0 (adN ρ S.H.length ⟨o',a',cap',false,l.length⟩) (St.set ⟨S.F,apb S.H id (.dd o1.len)++[.rw e b τ l],S.nb,S.al,m++S.m⟩ d (.c' (.l' S.H.length))) (upd F d (.slice a' l.length cap')) w2∧
  Nx S ρ (St.set ⟨S.F,apb S.H id (.dd o1.len)++[.rw e b τ l],S.nb,S.al,m++S.m⟩ d (.c' (.l' S.H.length))) (adN ρ S.H.length ⟨o',a',cap',false,l.length⟩):=by
 have hlt:id<L.length:=by rw [hM.1];exact(List.getElem?_eq_some_iff.1 h1).1
 have hH2:=hp_moved hlt hH
 have hlen:(apb S.H id (.dd o1.len)).length=S.H.length:=ale
 let S1:St:=⟨S.F,apb S.H id (.dd o1.len),S.nb,S.al,m++S.m⟩
 have hS1:Rel C w0 S0 ρ S1 F w2:=rel_upd (o:=.dd o1.len) (r:=nores) hS hM h1 hH2.tail trivial rfl (fun _ _ he=>by cases he) rfl rfl
 have hM1:Mt w0 S0 ρ S1.H (L.set id nores):=mt_upd hM h1 trivial rfl
 have hN1:Nx S ρ S1 ρ:=nx_upd (o:=.dd o1.len) (m:=m) hS h1 hm hk rfl rfl rfl rfl
 have hl1:S1.H.length=S.H.length:=hlen
 have h3:Rel C w0 S0 (adN ρ S1.H.length ⟨o',a',cap',false,l.length⟩) ⟨S.F,apb S.H id (.dd o1.len)++[.rw e b τ l],S.nb,S.al,m++S.m⟩ F w2:=rel_new (o:=.rw e b τ l) hS1 hM1 hH2 (by show _=_;rw [adN_n]) rfl (fun _ _ he=>by cases he) rfl rfl
 have h4:Nx S1 ρ ⟨S.F,apb S.H id (.dd o1.len)++[.rw e b τ l],S.nb,S.al,m++S.m⟩ (adN ρ S1.H.length ⟨o',a',cap',false,l.length⟩):=nx_new (o:=.rw e b τ l) (m:=[]) hS1 rfl rfl rfl rfl
 rw [hl1]at h3 h4
 refine⟨ato h3 (by show some (Value.slice _ _ _)=_;rw [adN_n]) (fun i hi=> ?_), ?_⟩
 ·have:i=S.H.length:=List.mem_singleton.1 hi
  subst this
  show S.H.length<(apb S.H id (.dd o1.len)++[_]).length
  rw [zac,hlen];simp
 ·have:=hN1.trans h4
  exact⟨⟨this.nb,this.al,this.le⟩,this.lg,this.mm⟩
theorem rel_row0{L:List Res}{w2:World}{e b:Nat}{τ:Ty}{l:List τ.T}{o':Option Nat}{a':Option Addr}{cap':Nat}(hS:Rel C w0 S0 ρ S F w)(hM:Mt w0 S0 ρ S.H L)(hH:Hp w0 S0 (rwt τ.enc e τ.sz o' a' cap' l::L) w2):
  Rel C w0 S0 (adN ρ S.H.length ⟨o',a',cap',false,l.length⟩) (St.set ⟨S.F,S.H++[.rw e b τ l],S.nb,S.al,[]++S.m⟩ d (.c' (.l' S.H.length))) (upd F d (.slice a' l.length cap')) w2∧
  Nx S ρ (St.set ⟨S.F,S.H++[.rw e b τ l],S.nb,S.al,[]++S.m⟩ d (.c' (.l' S.H.length))) (adN ρ S.H.length ⟨o',a',cap',false,l.length⟩):=by
 have h3:Rel C w0 S0 (adN ρ S.H.length ⟨o',a',cap',false,l.length⟩) ⟨S.F,S.H++[.rw e b τ l],S.nb,S.al,[]++S.m⟩ F w2:=rel_new (o:=.rw e b τ l) hS hM hH (by show _=_;rw [adN_n]) rfl (fun _ _ he=>by cases he) rfl rfl
 have h4:Nx S ρ ⟨S.F,S.H++[.rw e b τ l],S.nb,S.al,[]++S.m⟩ (adN ρ S.H.length ⟨o',a',cap',false,l.length⟩):=nx_new (o:=.rw e b τ l) (m:=[]) hS rfl rfl rfl rfl
 refine⟨ato h3 (by show some (Value.slice _ _ _)=_;rw [adN_n]) (fun i hi=> ?_),⟨⟨h4.nb,h4.al,h4.le⟩,h4.lg,h4.mm⟩⟩
 have:i=S.H.length:=List.mem_singleton.1 hi
 subst this
 show S.H.length<(S.H++[_]).length
 simp
theorem step_append(hE:EOk C)(hS:Rel C w0 S0 ρ S F w)(hn:C.nn=md.n){t:TypeId}{x y:Operand}{a c:SC}{ro:Ro}(hx:evn md F x=a.v ρ)(hy:evn md F y=c.v ρ)(h:opAppend C S.H t a c=some ro)(hg:All ro.g)(hm:S.oks ro.m=true):
  Step C md w0 S0 ρ S F w ⟨some d,.call ⟨.builtin .append, #[x,y], #[t,t]⟩,ty,pos,after,none⟩ (St.set ⟨S.F,ro.H,S.nb,S.al,ro.m++S.m⟩ d ro.v):=by
 intro ops Q rest hk
 have np:∀d2:Nat,(some d:Option Nat)=some d2→isPure (.call ⟨.builtin .append, #[x,y], #[t,t]⟩)=true→∀F2:Nat→Value,∃w3,(execOp (evn md F) (⟨some d,.call ⟨.builtin .append, #[x,y], #[t,t]⟩,ty,pos,after,none⟩:Oper)).run C.P w=.ok (.value (F2 d2)) w3:=fun d2 _ h=>by cases h
 obtain⟨L,hH,hM⟩:=hS.mem
 unfold opAppend at h
 split at h
 ·rename_i e b τ hE1
  obtain⟨ht,hT,hf,hb0⟩:=hE _ _ _ _ hE1
  split at h
  ·split at h
   ·rename_i l2 hl2
    cases h
    obtain⟨ax,cx,hy2,hR⟩:=cont_ok hS hl2
    rw [hy2]at hy
    refine w_appendT (Hp.nilrw hH τ.enc e τ.sz none) 0 none none ax 0 cx e τ.sz b [] l2 (Ty.encOk hf) rfl ht hT (Ty.sz_pos hf) hb0 hx hy hR hg.1 fun o' a' cap' w' h2=> ?_
    obtain⟨h3,h4⟩:=rel_row0 (b:=b) (d:=d) hS hM h2
    exact hk _ _ w' h3 h4 aog fun d2 hd hp=>np d2 hd hp _
   ·cases h
  ·rename_i id
   split at h
   ·rename_i l l2 hl hl2
    cases h
    obtain⟨ax,cx,hy2,hR⟩:=cont_ok hS hl2
    rw [hy2]at hy
    have hob:S.H[id]? =some (.rw e b τ l):=by
     unfold wOf at hl
     simp only at hl
     split at hl
     ·rename_i q hq
      have h1:=aag hl
      have h2:=aag h1.2
      have h3:=rwE_rowOf hq h2.2
      rw [aap,zag h1.1,zag h2.1]at h3
      exact h3
     ·cases hl
    obtain⟨h1,r,hr,he⟩:=hM.2 id _ hob
    have he:r=rwt τ.enc e τ.sz (ρ id).o (ρ id).a (ρ id).cap l:=he
    subst he
    have h1:l.length=(ρ id).ln:=h1
    have hx2:evn md F x=.slice (ρ id).a l.length (ρ id).cap:=by rw [hx,h1];rfl
    refine w_appendT hH id (ρ id).o (ρ id).a ax (ρ id).cap cx e τ.sz b l l2 (Ty.encOk hf) hr ht hT (Ty.sz_pos hf) hb0 hx2 hy hR hg.1 fun o' a' cap' w' h2=> ?_
    obtain⟨h3,h4⟩:=rel_row (b:=b) (d:=d) (m:=[(id,0,1)]) hS hM hob h2 hm (fun al hc=>.inl (hc 0 (adm.2 ⟨_,List.mem_singleton.2 rfl,rfl,zap _,zbo⟩)))
    exact hk _ _ w' h3 h4 aog fun d2 hd hp=>np d2 hd hp _
   ·cases h
  ·rename_i id m
   split at h
   ·rename_i l cs1 ss1 l2 hl hl2
    cases h
    obtain⟨ax,cx,hy2,hR⟩:=cont_ok hS hl2
    rw [hy2]at hy
    have hob:∃cs,S.H[id]? =some (.bl e cs)∧m≤1048576∧rdAll τ m cs=some l:=by
     simp only [Ty.rd]at hl
     split at hl
     ·rename_i e2 cs hb
      rw [aap]at hb
      have h1:=aag hl
      have h2:=aag h1.2
      have h3:=aag h2.2
      have h4:=h3.2
      split at h4
      ·rename_i y hy3
       cases h4
       rw [zag h1.1]at hb
       exact⟨cs,hb,zaD h3.1,hy3⟩
      ·cases h4
     ·cases hl
    obtain⟨cs,hob,hm2,hall⟩:=hob
    obtain⟨_,r,hr,vs,rfl,hmat⟩:=hM.2 id _ hob
    obtain⟨h1,_,h3⟩:=apw hall
    have h4:=hmat.all (rdAll_kn hall)
    have hH1:=hH.blkrw id τ.sz m l hr (Ty.encOk hf) (by rw [h4,h3 ρ]) h1 (by unfold maxLen;omega)
    have hlt:id<L.length:=(List.getElem?_eq_some_iff.1 hr).1
    have hx2:evn md F x=.slice (some ⟨(ρ id).b,0,none⟩) l.length m:=by rw [hx,h1];rfl
    refine w_appendT hH1 id (some (ρ id).b) (some ⟨(ρ id).b,0,none⟩) ax m cx e τ.sz b l l2 (Ty.encOk hf) (List.getElem?_set_self hlt) ht hT (Ty.sz_pos hf) hb0 hx2 hy hR hg.1 fun o' a' cap' w' h2=> ?_
    rw [aja]at h2
    have hlg:blL (aiw S.H id)=zaA cs.length:=by rw [aap,hob];rfl
    obtain⟨h5,h6⟩:=rel_row (b:=b) (d:=d) (m:=[(id,0,blL (aiw S.H id))]) hS hM hob h2 hm (fun al hc=>.inl fun j hj=>hc j (adm.2 ⟨_,List.mem_singleton.2 rfl,rfl,zan _,by show j<blL (aiw S.H id);rw [hlg];omega⟩))
    exact hk _ _ w' h5 h6 aog fun d2 hd hp=>np d2 hd hp _
   ·cases h
  ·cases h
 ·cases h
theorem rel_ro0{L:List Res}{τ:Ty}{l:List τ.T}{a':Option Addr}{cap':Nat}(hS:Rel C w0 S0 ρ S F w)(hM:Mt w0 S0 ρ S.H L)(hH:Hp w0 S0 L w)(hr:ROk w0 S0 ⟨none,a',cap',false,l.length⟩ τ l):
  Rel C w0 S0 (adN ρ S.H.length ⟨none,a',cap',false,l.length⟩) (St.set ⟨S.F,S.H++[.ro τ l],S.nb,S.al,[]++S.m⟩ d (.c' (.l' S.H.length))) (upd F d (.slice a' l.length cap')) w∧
  Nx S ρ (St.set ⟨S.F,S.H++[.ro τ l],S.nb,S.al,[]++S.m⟩ d (.c' (.l' S.H.length))) (adN ρ S.H.length ⟨none,a',cap',false,l.length⟩):=by
 have h3:Rel C w0 S0 (adN ρ S.H.length ⟨none,a',cap',false,l.length⟩) ⟨S.F,S.H++[.ro τ l],S.nb,S.al,[]++S.m⟩ F w:=rel_new (o:=.ro τ l) hS hM (hp_idle hH) ⟨rfl,by rw [adN_n];exact hr⟩ rfl (fun _ _ he=>by cases he) rfl rfl
 have h4:Nx S ρ ⟨S.F,S.H++[.ro τ l],S.nb,S.al,[]++S.m⟩ (adN ρ S.H.length ⟨none,a',cap',false,l.length⟩):=nx_new (o:=.ro τ l) (m:=[]) hS rfl rfl rfl rfl
 refine⟨ato h3 (by show some (Value.slice _ _ _)=_;rw [adN_n]) (fun i hi=> ?_),⟨⟨h4.nb,h4.al,h4.le⟩,h4.lg,h4.mm⟩⟩
 have:i=S.H.length:=List.mem_singleton.1 hi
 subst this
 show S.H.length<(S.H++[_]).length
 simp
theorem opSl_some{H:List Ob}{t:Nat}{x:SC}{lo hi:Option SC}{ro:Ro}(h:opSl C H t x lo hi=some ro):∃(id e:Nat) (τ:Ty) (l:List τ.T),x=.l' id∧H[id]? =some (.ro τ l)∧C.P.underlying t=some (.slice e)∧tSz C e=some τ.sz∧τ.flat=true∧
  ((∃b j,lo=none∧hi=some b∧asI b=some j∧ro=⟨[⟨0≤j∧j≤(l.length:Int),inferInstance⟩],.c' (.l' H.length),H++[.ro τ (l.take j.toNat)],[]⟩)∨
   ∃b j,lo=some b∧hi=none∧asI b=some j∧ro=⟨[⟨0≤j∧j≤(l.length:Int),inferInstance⟩],.c' (.l' H.length),H++[.ro τ (l.drop j.toNat)],[]⟩):=by
 unfold opSl at h
 split at h
 ·rename_i id
  split at h
  ·rename_i τ l hob
   rw [aap]at hob
   split at h
   ·rename_i e he
    have he:C.P.underlying t=some (.slice e):=by
     unfold slE at he
     split at he
     ·rename_i hu;cases he;exact hu
     ·cases he
    split at h
    ·rename_i sz hsz
     have h:=aag h
     have hq:=zag h.1
     subst hq
     have h:=aag h.2
     refine⟨_,e,τ,l,rfl,hob,he,hsz,h.1, ?_⟩
     have h:=h.2
     split at h
     ·rename_i b
      split at h
      ·rename_i j hj;cases h;exact .inl ⟨_,j,rfl,rfl,hj,rfl⟩
      ·cases h
     ·rename_i b
      split at h
      ·rename_i j hj;cases h;exact .inr ⟨_,j,rfl,rfl,hj,rfl⟩
      ·cases h
     ·cases h
    ·cases h
   ·cases h
  ·cases h
 ·cases h
theorem step_sl (hS : Rel C w0 S0 ρ S F w) (hn : C.nn = md.n) {t : TypeId} {x : Operand} {lo hi : Option Operand} {ro : Ro} (hstr : anj C t = false) (h : opM C (S.ev C) S.H (.slice t x lo hi none) = some ro) (hg : All ro.g) :
    Step C md w0 S0 ρ S F w ⟨some d, .slice t x lo hi none, ty, pos, after, none⟩ (St.set ⟨S.F, ro.H, S.nb, S.al, ro.m ++ S.m⟩ d ro.v) := by
  have h : (bif anj C t then pur S.H (on1 (S.ev C x) fun a => onO (S.ev C) lo fun i => onO (S.ev C) hi fun j => cutC a i j) else on1 (S.ev C x) fun a => onO (S.ev C) lo fun i => onO (S.ev C) hi fun j => opSl C S.H t a i j) = some ro := h
  rw [hstr] at h
  obtain ⟨c, h1, h2⟩ := abd (show on1 (S.ev C x) (fun a => onO (S.ev C) lo fun i => onO (S.ev C) hi fun j => opSl C S.H t a i j) = some ro from h)
  have hx := (adu hS hn h1).2
  obtain ⟨L, hH, hM⟩ := hS.mem
  have key : ∀ (i j : Option SC), opSl C S.H t c i j = some ro → (lo = none ∧ i = none ∨ ∃ o b, lo = some o ∧ i = some b ∧ evn md F o = b.v ρ) → (hi = none ∧ j = none ∨ ∃ o b, hi = some o ∧ j = some b ∧ evn md F o = b.v ρ) →
      Step C md w0 S0 ρ S F w ⟨some d, .slice t x lo hi none, ty, pos, after, none⟩ (St.set ⟨S.F, ro.H, S.nb, S.al, ro.m ++ S.m⟩ d ro.v) := by
    intro i j hop hlo hhi
    obtain ⟨id, e, τ, l, rfl, hob, hu, hsz, hf, hc⟩ := opSl_some hop
    obtain ⟨hl, r, hr, hown, hro, hne, hcap⟩ := hM.2 id _ hob
    have hl : l.length = (ρ id).ln := hl
    have hx : evn md F x = .slice (ρ id).a (ρ id).ln (ρ id).cap := hx
    rcases hc with ⟨b, k, rfl, rfl, hk, rfl⟩ | ⟨b, k, rfl, rfl, hk, rfl⟩
    · rcases hlo with ⟨rfl, _⟩ | ⟨o, b2, _, e2, _⟩
      rotate_left
      · cases e2
      rcases hhi with ⟨_, e2⟩ | ⟨o, b2, rfl, e2, ho⟩
      · cases e2
      cases e2
      obtain ⟨kk, hkk⟩ := asI_v hk ρ
      have hb := hg.1
      have hrun : ∀ d2 : Nat, (execOp (evn md F) (⟨some d2, .slice t x none (some o) none, ty, pos, after, none⟩ : Oper)).run C.P w = .ok (.value (.slice (ρ id).a k.toNat (ρ id).cap)) w := fun d2 => x_slTo (d := d2) (ρ id).a (ρ id).ln (ρ id).cap e τ.sz kk k hu (oSz hsz w) hx (ho.trans hkk) l hl.symm hb (by rw [← hl]; exact hcap)
      have hlen : (l.take k.toNat).length = k.toNat := by rw [zaP]; omega
      have hR : ROk w0 S0 ⟨none, (ρ id).a, (ρ id).cap, false, (l.take k.toNat).length⟩ τ (l.take k.toNat) := by
       refine ⟨?_, fun hn2 => hne (fun e0 => hn2 ?_), ?_⟩
       · intro j v hv
         have e1 : (l.flatMap τ.enc)[j]? = some v := by
           rw [← List.take_append_drop k.toNat l, List.flatMap_append, List.getElem?_append_left (List.getElem?_eq_some_iff.1 hv).1]; exact hv
         exact hro j v e1
       · rw [← List.take_append_drop k.toNat l, List.flatMap_append] at e0
         exact (List.append_eq_nil_iff.1 e0).1
       · show (l.take k.toNat).length ≤ (ρ id).cap
         rw [hlen]; omega
      obtain ⟨h3, h4⟩ := rel_ro0 (d := d) (τ := τ) (l := l.take k.toNat) (a' := (ρ id).a) (cap' := (ρ id).cap) hS hM hH hR
      intro ops Q rest hkk2
      rw [hlen] at h3 h4
      refine aih rfl rfl (hrun d) (hkk2 _ _ w h3 h4 aog fun d2 hd _ => ⟨w, ?_⟩)
      cases hd
      rw [aqt]; exact hrun d
    · rcases hhi with ⟨rfl, _⟩ | ⟨o, b2, _, e2, _⟩
      rotate_left
      · cases e2
      rcases hlo with ⟨_, e2⟩ | ⟨o, b2, rfl, e2, ho⟩
      · cases e2
      cases e2
      obtain ⟨kk, hkk⟩ := asI_v hk ρ
      have hb := hg.1
      have hrun : ∀ d2 : Nat, (execOp (evn md F) (⟨some d2, .slice t x (some o) none none, ty, pos, after, none⟩ : Oper)).run C.P w = .ok (.value (.slice (slF (ρ id).a (ρ id).cap k.toNat τ.sz) ((ρ id).ln - k.toNat) ((ρ id).cap - k.toNat))) w := fun d2 => x_slFrom (d := d2) (ρ id).a (ρ id).ln (ρ id).cap e τ.sz kk k hu (oSz hsz w) hx (ho.trans hkk) l hl.symm hb
      have hlen : (l.drop k.toNat).length = (ρ id).ln - k.toNat := by rw [zat]; omega
      have hR : ROk w0 S0 ⟨none, slF (ρ id).a (ρ id).cap k.toNat τ.sz, (ρ id).cap - k.toNat, false, (l.drop k.toNat).length⟩ τ (l.drop k.toNat) := by
       refine ⟨Rd.dropT (Ty.encOk hf) _ _ hcap hro, fun hn2 p hp => ?_, ?_⟩
       · have hn3 : l.flatMap τ.enc ≠ [] := fun e0 => hn2 (by
           rw [← List.take_append_drop k.toNat l, List.flatMap_append] at e0
           exact (List.append_eq_nil_iff.1 e0).2)
         have hp : slF (ρ id).a (ρ id).cap k.toNat τ.sz = some p := hp
         unfold slF at hp
         split at hp
         · exact hne hn3 p hp
         · obtain ⟨q, hq, rfl⟩ := Option.map_eq_some_iff.1 hp
           have := hne hn3 q hq
           rw [atk]; exact this
       · show (l.drop k.toNat).length ≤ (ρ id).cap - k.toNat
         rw [hlen]; omega
      obtain ⟨h3, h4⟩ := rel_ro0 (d := d) (τ := τ) (l := l.drop k.toNat) (a' := slF (ρ id).a (ρ id).cap k.toNat τ.sz) (cap' := (ρ id).cap - k.toNat) hS hM hH hR
      intro ops Q rest hkk2
      rw [hlen] at h3 h4
      refine aih rfl rfl (hrun d) (hkk2 _ _ w h3 h4 aog fun d2 hd _ => ⟨w, ?_⟩)
      cases hd
      rw [aqt]; exact hrun d
  rcases anq h2 with ⟨h4, h5⟩ | ⟨o, b, h4, h5, h6⟩
  · rcases anq h5 with ⟨h7, h8⟩ | ⟨o2, b2, h7, h8, h9⟩
    · exact key _ _ h8 (.inl ⟨h4, rfl⟩) (.inl ⟨h7, rfl⟩)
    · exact key _ _ h9 (.inl ⟨h4, rfl⟩) (.inr ⟨o2, b2, h7, rfl, (adu hS hn h8).2⟩)
  · rcases anq h6 with ⟨h7, h8⟩ | ⟨o2, b2, h7, h8, h9⟩
    · exact key _ _ h8 (.inr ⟨o, b, h4, rfl, (adu hS hn h5).2⟩) (.inl ⟨h7, rfl⟩)
    · exact key _ _ h9 (.inr ⟨o, b, h4, rfl, (adu hS hn h5).2⟩) (.inr ⟨o2, b2, h7, rfl, (adu hS hn h8).2⟩)
theorem appS_some{H:List Ob}{t s:Nat}{x c:SC}{ro:Ro}(h:strSrc C H t s x c=some ro):∃l2 e,c=.s' l2∧anj C s=true∧C.E t=some (e,1,.c')∧zU8 C e=true∧
  ((x=.n'∧ro=⟨[⟨(([]:Str).length+l2.length)*1≤140737488355328,inferInstance⟩],.c' (.l' H.length),H++[.rw e 1 .c' ([]++l2)],[]⟩)∨
   ∃(id:Nat) (l:Str),x=.l' id∧H[id]? =some (.rw e 1 .c' l)∧ro=⟨[⟨(l.length+l2.length)*1≤140737488355328,inferInstance⟩],.c' (.l' H.length),apb H id (.dd l.length)++[.rw e 1 .c' (l++l2)],[(id,0,1)]⟩):=by
 unfold strSrc at h
 split at h
 ·rename_i l2
  unfold opAppendS at h
  have h:=aag h
  have h1:=h.1
  have h:=h.2
  split at h
  ·rename_i e b hE1
   have h:=aag h
   have hb:=zag h.1
   subst hb
   have h:=aag h.2
   have hz:=h.1
   have h:=h.2
   refine⟨l2,e,rfl,h1,hE1,hz, ?_⟩
   split at h
   ·cases h;exact .inl ⟨rfl,rfl⟩
   ·rename_i id
    split at h
    ·rename_i l hl
     cases h
     refine .inr ⟨_,l,rfl, ?_,rfl⟩
     unfold wOf at hl
     simp only at hl
     split at hl
     ·rename_i q hq
      have h1:=aag hl
      have h2:=aag h1.2
      have h3:=rwE_rowOf hq h2.2
      rw [aap,zag h1.1,zag h2.1]at h3
      exact h3
     ·cases hl
    ·cases h
   ·cases h
  ·cases h
 ·cases h
theorem zU8_ok{e:Nat}(h:zU8 C e=true):(C.P.info? e).bind (·.zero)=some (.int .u8 0):=by
 unfold zU8 at h
 split at h
 ·rename_i i hi
  split at h
  ·rename_i hz;rw [hi];exact hz
  ·cases h
 ·cases h
theorem step_appendS(hE:EOk C)(hS:Rel C w0 S0 ρ S F w)(hn:C.nn=md.n){t s:TypeId}{x y:Operand}{a c:SC}{ro:Ro}(hx:evn md F x=a.v ρ)(hy:evn md F y=c.v ρ)(h:strSrc C S.H t s a c=some ro)(hg:All ro.g)(hm:S.oks ro.m=true):
  Step C md w0 S0 ρ S F w ⟨some d,.call ⟨.builtin .append, #[x,y], #[t,s]⟩,ty,pos,after,none⟩ (St.set ⟨S.F,ro.H,S.nb,S.al,ro.m++S.m⟩ d ro.v):=by
 intro ops Q rest hk
 have np:∀d2:Nat,(some d:Option Nat)=some d2→isPure (.call ⟨.builtin .append, #[x,y], #[t,s]⟩)=true→∀F2:Nat→Value,∃w3,(execOp (evn md F) (⟨some d,.call ⟨.builtin .append, #[x,y], #[t,s]⟩,ty,pos,after,none⟩:Oper)).run C.P w=.ok (.value (F2 d2)) w3:=fun d2 _ h=>by cases h
 obtain⟨L,hH,hM⟩:=hS.mem
 obtain⟨l2,e,rfl,hs,hE1,hz,hc⟩:=appS_some h
 obtain⟨ht,hT,hf,hb0⟩:=hE _ _ _ _ hE1
 rcases hc with⟨rfl,rfl⟩|⟨id,l,rfl,hob,rfl⟩
 ·refine w_appS (Hp.nilrw hH (Ty.c').enc e 1 none) 0 none none 0 e [] l2 rfl ht (oStr hs) hT (zU8_ok hz) hx hy hg.1 fun o' a' cap' w' h2=> ?_
  obtain⟨h3,h4⟩:=rel_row0 (τ:=.c') (b:=1) (d:=d) hS hM h2
  exact hk _ _ w' h3 h4 aog fun d2 hd hp=>np d2 hd hp _
 ·obtain⟨h1,r,hr,he⟩:=hM.2 id _ hob
  have he:r=rwt (Ty.c').enc e (Ty.c').sz (ρ id).o (ρ id).a (ρ id).cap l:=he
  subst he
  have h1:l.length=(ρ id).ln:=h1
  have hx2:evn md F x=.slice (ρ id).a l.length (ρ id).cap:=by rw [hx,h1];rfl
  refine w_appS hH id (ρ id).o (ρ id).a (ρ id).cap e l l2 hr ht (oStr hs) hT (zU8_ok hz) hx2 hy hg.1 fun o' a' cap' w' h2=> ?_
  obtain⟨h3,h4⟩:=rel_row (τ:=.c') (b:=1) (d:=d) (m:=[(id,0,1)]) hS hM hob h2 hm (fun al hc=>.inl (hc 0 (adm.2 ⟨_,List.mem_singleton.2 rfl,rfl,zap _,zbo⟩)))
  exact hk _ _ w' h3 h4 aog fun d2 hd hp=>np d2 hd hp _
theorem step_make(hE:EOk C)(hS:Rel C w0 S0 ρ S F w)(hn:C.nn=md.n){t:TypeId}{x y:Operand}{a c:SC}{ro:Ro}(hy:evn md F y=c.v ρ)(h:opMake C S.H t (isZ x) a c=some ro)(hg:All ro.g):
  Step C md w0 S0 ρ S F w ⟨some d,.makeSlice t x y,ty,pos,after,none⟩ (St.set ⟨S.F,ro.H,S.nb,S.al,ro.m++S.m⟩ d ro.v):=by
 intro ops Q rest hk
 obtain⟨L,hH,hM⟩:=hS.mem
 unfold opMake at h
 split at h
 ·rename_i e b τ hE1
  obtain⟨ht,hT,hf,hb0⟩:=hE _ _ _ _ hE1
  have h:=aag h
  have hz:=h.1
  have h:=h.2
  split at h
  ·rename_i i hi
   cases h
   obtain⟨kc,hc⟩:=asI_v hi ρ
   rw [hc]at hy
   obtain⟨kl,hx⟩:∃kl,evn md F x=.int kl 0:=by
    unfold isZ at hz
    split at hz
    ·exact⟨_,rfl⟩
    ·cases hz
   refine w_makeT (f:=τ.enc) hH e τ.sz b kl kc i ht hT hb0 hx hy hg.1 fun o a cap w' h2=> ?_
   obtain⟨h3,h4⟩:=rel_row0 (b:=b) (d:=d) hS hM h2
   exact hk _ _ w' h3 h4 aog fun d2 hd hp=>by cases hp
  ·cases h
 ·cases h
theorem step_tobytes(hS:Rel C w0 S0 ρ S F w){s t e:TypeId}{x:Operand}{l:Str}(hx:evn md F x=str l)(hs:C.P.underlying s=some .string)(ht:slE C t=some e)(he:isU8 C e=true):
  Step C md w0 S0 ρ S F w ⟨some d,.convert s t x,ty,pos,after,none⟩ (St.set ⟨S.F,S.H++[.br l.length l],S.nb,S.al,[]++S.m⟩ d (.c' (.l' S.H.length))):=by
 intro ops Q rest hk
 obtain⟨L,hH,hM⟩:=hS.mem
 refine w_tobytesR hH l e hs (oSl ht) (oU8 he) hx fun a cap w' hrun h2=> ?_
 have h3:Rel C w0 S0 (adN ρ S.H.length ⟨none,a,cap,false,l.length⟩) ⟨S.F,S.H++[.br l.length l],S.nb,S.al,[]++S.m⟩ F w':=rel_new (o:=.br l.length l) hS hM h2 (by show _=_;rw [adN_n]) rfl (fun _ _ he=>by cases he) rfl rfl
 have h4:Nx S ρ ⟨S.F,S.H++[.br l.length l],S.nb,S.al,[]++S.m⟩ (adN ρ S.H.length ⟨none,a,cap,false,l.length⟩):=nx_new (o:=.br l.length l) (m:=[]) hS rfl rfl rfl rfl
 refine hk _ _ w' (ato (d:=d) (u:=.slice a l.length cap) h3 (by show some (Value.slice _ _ _)=_;rw [adN_n]) (fun i hi=> ?_)) ⟨⟨h4.nb,h4.al,h4.le⟩,h4.lg,h4.mm⟩ aog fun d2 hd _=>⟨w', ?_⟩
 ·have:i=S.H.length:=List.mem_singleton.1 hi
  subst this
  show S.H.length<(S.H++[_]).length
  simp
 ·cases hd
  rw [aqt];exact hrun
end
open Go.Wk
open Go.Ce (Tr)
open Nat renaming beq → zai, eq_of_beq_eq_true → zag
section
variable {C : Cx} {md : Md} {w0 w : World} {S0 : List Nat} {ρ : Nat → Ad} {S : St} {F : Nat → Value}
variable {ty : TypeId} {pos : String} {after : Array Edge}
theorem dst_some{dst:Option Nat}{v:SV}(h:dstOk dst v=true)(hv:v≠.u'):∃d,dst=some d:=by
 cases dst with
 |some d=>exact⟨d,rfl⟩
 |none=>cases v<;>first|exact absurd rfl hv|cases h
theorem acu{dst:Option Nat}{op:Op}{ro:Ro}(hS:Rel C w0 S0 ρ S F w)(h:Val C md ρ S F w op ro.v∧ro.H=S.H∧ro.m=[])(hd:dstOk dst ro.v=true):Step C md w0 S0 ρ S F w ⟨dst,op,ty,pos,after,none⟩ (St.setO ⟨S.F,ro.H,S.nb,S.al,ro.m++S.m⟩ dst ro.v):=by
 obtain⟨hv,e1,e2⟩:=h
 obtain⟨d,rfl⟩:=dst_some hd (fun e=>by obtain⟨_,u,h2,_⟩:=hv;rw [e]at h2;cases h2)
 rw [e1,e2]
 exact step_val hS hv
theorem arw{dst:Option Nat}{op:Op}{v:SV}{S2:Nat→St}(hd:dstOk dst v=true)(hv:v≠.u')(h:∀d,Step C md w0 S0 ρ S F w ⟨some d,op,ty,pos,after,none⟩ (S2 d)){S3:St}(e:∀d,dst=some d→S2 d=S3):Step C md w0 S0 ρ S F w ⟨dst,op,ty,pos,after,none⟩ S3:=by
 obtain⟨d,rfl⟩:=dst_some hd hv
 rw [←e d rfl];exact h d
theorem arr_of{α:Type}{a:Array α}{l:List α}(h:a.toList=l):a=l.toArray:=by rw [←h]
theorem builtin_ok(hE:EOk C)(hn:C.nn=md.n)(hS:Rel C w0 S0 ρ S F w){dst:Option Nat}{b:Builtin}{azq:Array Operand}{ts:Array TypeId}{ro:Ro}(h:ahm C (S.ev C) S.H b azq.toList ts.toList=some ro)(hg:All ro.g)(hm:S.oks ro.m=true)(hd:dstOk dst ro.v=true):
  Step C md w0 S0 ρ S F w ⟨dst,.call ⟨.builtin b,azq,ts⟩,ty,pos,after,none⟩ (St.setO ⟨S.F,ro.H,S.nb,S.al,ro.m++S.m⟩ dst ro.v):=by
 unfold ahm at h
 split at h
 ·rename_i x t e1 e2
  obtain rfl:=arr_of e1
  obtain rfl:=arr_of e2
  obtain⟨g,v,h1,rfl⟩:=akd h
  obtain⟨c,h2,h3⟩:=abd h1
  obtain⟨h4,h5⟩:=adu hS hn h2
  exact acu hS ⟨len_ok hS h5 h4 h3,rfl,rfl⟩ hd
 ·rename_i x y t t2 e1 e2
  obtain rfl:=arr_of e1
  obtain rfl:=arr_of e2
  cases hbt:zai t t2 with
  |true=>
   rw [hbt]at h
   have ht:=zag hbt
   subst ht
   obtain⟨a,h2,h3⟩:=abd h
   obtain⟨c,h4,h5⟩:=abd h3
   have hv:ro.v≠.u':=by
    intro e
    unfold opAppend at h5
    split at h5
    ·split at h5
     ·split at h5
      ·cases h5;cases e
      ·cases h5
     ·split at h5
      ·cases h5;cases e
      ·cases h5
     ·split at h5
      ·cases h5;cases e
      ·cases h5
     ·cases h5
    ·cases h5
   exact arw hd hv (fun d=>step_append (d:=d) hE hS hn (adu hS hn h2).2 (adu hS hn h4).2 h5 hg hm) (fun d e=>by rw [e];rfl)
  |false=>
   rw [hbt]at h
   obtain⟨a,h2,h3⟩:=abd h
   obtain⟨c,h4,h5⟩:=abd h3
   have hv:ro.v≠.u':=by
    intro e
    obtain⟨l2,e2,_,_,_,_,hc⟩:=appS_some h5
    rcases hc with⟨_,rfl⟩|⟨id,l,_,_,rfl⟩<;>cases e
   exact arw hd hv (fun d=>step_appendS (d:=d) hE hS hn (adu hS hn h2).2 (adu hS hn h4).2 h5 hg hm) (fun d e=>by rw [e];rfl)
 ·rename_i x y _ e1 _
  obtain rfl:=arr_of e1
  obtain⟨g,v,h1,rfl⟩:=akd h
  obtain⟨a,h2,h3⟩:=abd h1
  obtain⟨c,h4,h5⟩:=abd h3
  exact acu hS ⟨mm_ok (adu hS hn h2).2 (adu hS hn h4).2 h5,rfl,rfl⟩ hd
 ·cases h
theorem step_op(hE:EOk C)(hn:C.nn=md.n)(hS:Rel C w0 S0 ρ S F w){dst:Option Nat}{op:Op}{ro:Ro}(h:opM C (S.ev C) S.H op=some ro)(hg:All ro.g)(hm:S.oks ro.m=true)(hd:dstOk dst ro.v=true):
  Step C md w0 S0 ρ S F w ⟨dst,op,ty,pos,after,none⟩ (St.setO ⟨S.F,ro.H,S.nb,S.al,ro.m++S.m⟩ dst ro.v):=by
 cases op<;>first|cases h|skip
 case move x=>exact acu hS (arc hn hS (op:=.move x) rfl h hg w) hd
 case assign x=>exact acu hS (arc hn hS (op:=.assign x) rfl h hg w) hd
 case binOp b t x y t'=>exact acu hS (arc hn hS (op:=.binOp b t x y t') rfl h hg w) hd
 case unOp u t x=>exact acu hS (arc hn hS (op:=.unOp u t x) rfl h hg w) hd
 case index t x ix=>exact acu hS (arc hn hS (op:=.index t x ix) rfl h hg w) hd
 case slice t x lo hi mx=>
  cases hstr:anj C t with
  |true=>exact acu hS (arc hn hS (op:=.slice t x lo hi mx) rfl (show(bif anj C t then opM C (S.ev C) S.H (.slice t x lo hi mx)else none)=some ro by rw [hstr];exact h) hg w) hd
  |false=>
   cases mx with
   |some m=>cases h
   |none=>
    refine arw hd (fun e=> ?_) (fun d=>step_sl (d:=d) hS hn hstr h hg) (fun d e=>by rw [e];rfl)
    have h:(bif anj C t then pur S.H (on1 (S.ev C x) fun a=>onO (S.ev C) lo fun i=>onO (S.ev C) hi fun j=>cutC a i j)else on1 (S.ev C x) fun a=>onO (S.ev C) lo fun i=>onO (S.ev C) hi fun j=>opSl C S.H t a i j)=some ro:=h
    rw [hstr]at h
    obtain⟨c,h1,h2⟩:=abd (show on1 (S.ev C x) (fun a=>onO (S.ev C) lo fun i=>onO (S.ev C) hi fun j=>opSl C S.H t a i j)=some ro from h)
    have key:∀i j,opSl C S.H t c i j=some ro→False:=fun i j hop=>by
     obtain⟨id,e2,τ,l,_,_,_,_,_,hc⟩:=opSl_some hop
     rcases hc with⟨b,k,_,_,_,rfl⟩|⟨b,k,_,_,_,rfl⟩<;>cases e
    rcases anq h2 with⟨h4,h5⟩|⟨o,b,h4,h5,h6⟩
    ·rcases anq h5 with⟨h7,h8⟩|⟨o2,b2,h7,h8,h9⟩
     ·exact key _ _ h8
     ·exact key _ _ h9
    ·rcases anq h6 with⟨h7,h8⟩|⟨o2,b2,h7,h8,h9⟩
     ·exact key _ _ h8
     ·exact key _ _ h9
 case extract x i=>exact acu hS (arc hn hS (op:=.extract x i) rfl h hg w) hd
 case field t x f=>exact acu hS (arc hn hS (op:=.field t x f) rfl h hg w) hd
 case build t ps=>exact acu hS (arc hn hS (op:=.build t ps) rfl h hg w) hd
 case fieldAddr t x f=>exact acu hS (arc hn hS (op:=.fieldAddr t x f) rfl h hg w) hd
 case pick c a b=>
  obtain⟨x,h1,h2⟩:=abd (show on1 (S.ev C c) (fun x=>match x with
   |.b' t=>val1 S.H (match(bif t then S.ev C a else S.ev C b)with
    |.u'=>none
    |v=>some v)
   |_=>none)=some ro from h)
  split at h2
  ·rename_i t
   obtain⟨v,h3,rfl⟩:=ami h2
   obtain⟨h4,u,h5⟩:=known_v (ρ:=ρ) h3
   exact acu hS ⟨pick_ok hS hn h1 h4 (fun e=>by have e:v=.u':=e;subst e;cases h5),rfl,rfl⟩ hd
  ·cases h2
 case convert s t x=>
  obtain⟨c,hc,h⟩:=abd (show on1 (S.ev C x) (conS C S.H s t)=some ro from h)
  have hx:=(adu hS hn hc).2
  unfold conS at h
  split at h
  ·rename_i e he
   have h3:=aag h
   have h4:=aag h3.2
   have h5:=h4.2
   split at h5
   ·rename_i l hl
    cases h5
    exact acu hS ⟨tostr_ok hS hx he h3.1 h4.1 hl,rfl,rfl⟩ hd
   ·cases h5
  ·split at h
   ·rename_i l
    split at h
    ·rename_i e he
     have h3:=aag h
     have h4:=aag h3.2
     cases h4.2
     exact arw hd (by simp) (fun d=>step_tobytes (d:=d) hS hx (oStr h3.1) he h4.1) (fun d e=>by rw [e];rfl)
    ·obtain⟨g,v,h3,rfl⟩:=akd h
     exact acu hS ⟨conC_ok hx h3 hg,rfl,rfl⟩ hd
   ·obtain⟨g,v,h3,rfl⟩:=akd h
    exact acu hS ⟨conC_ok hx h3 hg,rfl,rfl⟩ hd
 case alloc e=>
  have h0:=h
  have h:(match zC C e with
   |some z=>some (Ro.mk [] (.c' (.p' S.H.length 0)) (S.H++[.bl e z]) [])
   |none=>none)=some ro:=h
  split at h
  ·cases h
   exact arw hd (by simp) (fun d=>step_alloc (d:=d) hS h0) (fun d e=>by rw [e];rfl)
  ·cases h
 case box e x=>
  have h0:=h
  have h:(match(S.ev C x).cells with
   |some cs=>some (Ro.mk [] (.c' (.p' S.H.length 0)) (S.H++[.bl e cs]) [])
   |none=>none)=some ro:=h
  split at h
  ·cases h
   exact arw hd (by simp) (fun d=>step_box (d:=d) hS hn h0) (fun d e=>by rw [e];rfl)
  ·cases h
 case buildSlice t n ps=>
  have hv:ro.v≠.u':=by
   intro e
   have h:amk C (S.ev C) S.H t n ps.toList=some ro:=h
   unfold amk at h
   split at h
   ·split at h
    ·have h1:=aag h
     have h2:=aag h1.2
     have h3:=h2.2
     split at h3
     ·cases h3;cases e
     ·cases h3
    ·cases h
   ·cases h
  exact arw hd hv (fun d=>step_buildSlice (d:=d) hS hn h) (fun d e=>by rw [e];rfl)
 case load t x=>
  obtain⟨c,h1,h2⟩:=abd (show on1 (S.ev C x) (fun a=>arg C S.H t a)=some ro from h)
  exact acu hS (load_ok hS (adu hS hn h1).2 h2 hg) hd
 case store t x y=>
  obtain⟨h1,h2⟩:=step_store (ty:=ty) (pos:=pos) (after:=after) hS hn h hg hm
  rw [h2]at hd⊢
  cases dst with
  |none=>exact h1
  |some d=>cases hd
 case indexAddr t x ix=>
  obtain⟨a,h1,h2⟩:=abd (show on1 (S.ev C x) (fun a=>on1 (S.ev C ix) fun i=>ahl C S.H t a i)=some ro from h)
  obtain⟨c,h3,h4⟩:=abd h2
  obtain⟨h5,h6⟩:=adu hS hn h1
  exact acu hS (indexAddr_ok hS h6 h5 (adu hS hn h3).2 h4 hg) hd
 case makeSlice t x y=>
  obtain⟨a,h1,h2⟩:=abd (show on1 (S.ev C x) (fun a=>on1 (S.ev C y) fun i=>opMake C S.H t (isZ x) a i)=some ro from h)
  obtain⟨c,h3,h4⟩:=abd h2
  have hv:ro.v≠.u':=by
   intro e
   unfold opMake at h4
   split at h4
   ·have h5:=(aag h4).2
    split at h5
    ·cases h5;cases e
    ·cases h5
   ·cases h4
  exact arw hd hv (fun d=>step_make (d:=d) hE hS hn (adu hS hn h3).2 h4 hg) (fun d e=>by rw [e];rfl)
 case makeFunc f a b=>
  obtain⟨v,h1,rfl⟩:=ami h
  exact acu hS ⟨func_ok hS hn h1,rfl,rfl⟩ hd
 case nilCheck x=>
  obtain⟨c,h1,h2⟩:=abd (show on1 (S.ev C x) (fun a=>val1 S.H (opNil a))=some ro from h)
  obtain⟨v,h3,rfl⟩:=ami h2
  obtain⟨h4,h5⟩:=adu hS hn h1
  exact acu hS ⟨nil_ok h5 h4 h3,rfl,rfl⟩ hd
 case call c=>
  obtain⟨cal,azq,ts⟩:=c
  cases cal<;>first|cases h|skip
  exact builtin_ok hE hn hS h hg hm hd
end
open Go.Wk
open Go.Ce (Tr)
open List renaming append_assoc → zaq, length_append → zac, map_append → zbf, map_cons → zaG
open Nat renaming add_assoc → zaK, add_zero → zaM, le_refl → zap, one_pos → zbo
def Eqv(ρ ρ2:Nat→Ad):Ob→Ob→Prop
 |.bl e cs,o2=>∃cs2,o2=.bl e cs2∧cs.map (SC.v ρ)=cs2.map (SC.v ρ2)∧∀(j:Nat) (c c2:SC),cs[j]? =some c→cs2[j]? =some c2→c.kn=c2.kn
 |o,o2=>o2=o
structure LR (ρ ρ2:Nat→Ad) (a b:List SC×List Ob):Prop where
 c:a.1.map (SC.v ρ)=b.1.map (SC.v ρ2)
 p:(ptrL a.1).map (fun id=>(ρ id).b)=(ptrL b.1).map (fun id=>(ρ2 id).b)
 o:∀(j:Nat) (o:Ob),a.2[j]? =some o→∃o2,b.2[j]? =some o2∧Eqv ρ ρ2 o o2
theorem lay_kn{t:Ty}{s n s2 n2:Nat}{x:t.T}{j:Nat}{c c2:SC}(h:(t.lay s n x).1[j]? =some c)(h2:(t.lay s2 n2 x).1[j]? =some c2):c.kn=c2.kn:=by
 rw [(Ty.lay_ok t s n x c (List.mem_of_getElem? h)).1,(Ty.lay_ok t s2 n2 x c2 (List.mem_of_getElem? h2)).1]
theorem lay_rel:∀(t:Ty) (s n s2 n2:Nat) (x:t.T) (ρ ρ2:Nat→Ad),(t.tz=true→(ρ s).b=(ρ2 s2).b)→(∀j,j<t.no→ρ (n+j)=ρ2 (n2+j))→LR ρ ρ2 (t.lay s n x) (t.lay s2 n2 x):=by
 intro t
 induction t with
 |w' t ih=>intro s n s2 n2 x ρ ρ2 hs hn;exact ih s n s2 n2 x ρ ρ2 hs hn
 |pr a b iha ihb=>
  intro s n s2 n2 x ρ ρ2 hs hn
  have h1:=iha s n s2 n2 x.1 ρ ρ2 (fun h=>hs (by simp [Ty.tz,h])) (fun j hj=>hn j (by show j<a.no+b.no;omega))
  have h2:=ihb s (n+a.no) s2 (n2+a.no) x.2 ρ ρ2 (fun h=>hs (by simp [Ty.tz,h])) (fun j hj=>by
   have:=hn (a.no+j) (by show a.no+j<a.no+b.no;omega)
   rw [zaK,zaK];exact this)
  refine⟨?_, ?_,fun j o ho=> ?_⟩
  ·show((a.lay s n x.1).1++(b.lay s (n+a.no) x.2).1).map _=((a.lay s2 n2 x.1).1++(b.lay s2 (n2+a.no) x.2).1).map _
   rw [zbf,zbf,h1.c,h2.c]
  ·show(ptrL ((a.lay s n x.1).1++(b.lay s (n+a.no) x.2).1)).map _=(ptrL ((a.lay s2 n2 x.1).1++(b.lay s2 (n2+a.no) x.2).1)).map _
   rw [ptrL_app,ptrL_app,zbf,zbf,h1.p,h2.p]
  ·have ho:((a.lay s n x.1).2++(b.lay s (n+a.no) x.2).2)[j]? =some o:=ho
   show∃o2,((a.lay s2 n2 x.1).2++(b.lay s2 (n2+a.no) x.2).2)[j]? =some o2∧_
   have e1:=a.lay_no s n x.1
   have e2:=a.lay_no s2 n2 x.1
   by_cases hj:j<a.no
   ·rw [List.getElem?_append_left (by omega)]at ho⊢
    exact h1.o j o ho
   ·rw [List.getElem?_append_right (by omega)]at ho⊢
    rw [e1]at ho
    rw [e2]
    exact h2.o _ o ho
 |l' e b t ih=>
  intro s n s2 n2 x ρ ρ2 hs hn
  have h0:=hn 0 zbo
  rw [zaM,zaM]at h0
  refine⟨by simp [Ty.lay,SC.v,h0],rfl,fun j o ho=>⟨o,ho, ?_⟩⟩
  cases j with
  |zero=>have:Ob.rw e b t x=o:=Option.some.inj ho;subst this;rfl
  |succ j=>simp [Ty.lay]at ho
 |y'=>
  intro s n s2 n2 x ρ ρ2 hs hn
  have h0:=hn 0 zbo
  rw [zaM,zaM]at h0
  refine⟨by simp [Ty.lay,SC.v,h0],rfl,fun j o ho=>⟨o,ho, ?_⟩⟩
  cases j with
  |zero=>have:Ob.br x.length x=o:=Option.some.inj ho;subst this;rfl
  |succ j=>simp [Ty.lay]at ho
 |r' t ih=>
  intro s n s2 n2 x ρ ρ2 hs hn
  have h0:=hn 0 zbo
  rw [zaM,zaM]at h0
  refine⟨by simp [Ty.lay,SC.v,h0],rfl,fun j o ho=>⟨o,ho, ?_⟩⟩
  cases j with
  |zero=>have:Ob.ro t x=o:=Option.some.inj ho;subst this;rfl
  |succ j=>simp [Ty.lay]at ho
 |p' e t ih=>
  intro s n s2 n2 x ρ ρ2 hs hn
  have h0:=hn 0 (Nat.succ_pos _)
  rw [zaM,zaM]at h0
  have h1:=ih n (n+1) n2 (n2+1) x ρ ρ2 (fun _=>by rw [h0]) (fun j hj=>by
   have:=hn (j+1) (by show j+1<t.no+1;omega)
   rw [Nat.add_right_comm,Nat.add_right_comm n2];exact this)
  refine⟨by simp [Ty.lay,SC.v,h0],by simp [Ty.lay,ptrL,h0],fun j o ho=> ?_⟩
  cases j with
  |zero=>
   have:Ob.bl e (t.lay n (n+1) x).1=o:=Option.some.inj ho
   subst this
   exact⟨_,rfl,_,rfl,h1.c,fun j c c2 h h2=>lay_kn h h2⟩
  |succ j=>exact h1.o j o ho
 |z'=>
  intro s n s2 n2 x ρ ρ2 hs hn
  have h0:=hn 0 zbo
  rw [zaM,zaM]at h0
  refine⟨by simp [Ty.lay,SC.v,h0,hs rfl],rfl,fun j o ho=>⟨o,ho, ?_⟩⟩
  cases j with
  |zero=>have:Ob.dd 0=o:=Option.some.inj ho;subst this;rfl
  |succ j=>simp [Ty.lay]at ho
 |f' k t ih=>
  intro s n s2 n2 x ρ ρ2 hs hn
  have h1:=ih s n s2 n2 x ρ ρ2 hs hn
  refine⟨?_,rfl,h1.o⟩
  have:=h1.p
  have h2:∀(ρ:Nat→Ad) (l:List Nat),(l.map fun id=>bptr (ρ id).b 0)=(l.map fun id=>(ρ id).b).map (fun b=>bptr b 0):=fun ρ l=>by rw [List.map_map];rfl
  show [Value.func (.func k) #[] ((ptrL (t.lay s n x).1).map fun id=>bptr (ρ id).b 0).toArray]=[Value.func (.func k) #[] ((ptrL (t.lay s2 n2 x).1).map fun id=>bptr (ρ2 id).b 0).toArray]
  rw [h2,h2,this]
 |sm a b _ _=>intro s n s2 n2 x ρ ρ2 hs hn;exact⟨rfl,rfl,fun j o ho=>by simp [Ty.lay]at ho⟩
 |_=>intro s n s2 n2 x ρ ρ2 hs hn;exact⟨rfl,rfl,fun j o ho=>by simp [Ty.lay]at ho⟩
theorem lay_nb:∀(t:Ty) (s n:Nat) (x:t.T),t.nb=true→∀(j:Nat) (e:Ty) (l:List e.T),(t.lay s n x).2[j]? ≠some (.ro e l):=by
 intro t
 induction t with
 |w' t ih=>intro s n x h;exact ih s n x h
 |pr a b iha ihb=>
  intro s n x h j e l ho
  have h:=aeo h
  have ho:((a.lay s n x.1).2++(b.lay s (n+a.no) x.2).2)[j]? =some (.ro e l):=ho
  by_cases hj:j<(a.lay s n x.1).2.length
  ·rw [List.getElem?_append_left hj]at ho;exact iha _ _ _ h.1 _ _ _ ho
  ·rw [List.getElem?_append_right (by omega)]at ho;exact ihb _ _ _ h.2 _ _ _ ho
 |p' e t ih=>
  intro s n x h j e2 l ho
  cases j with
  |zero=>cases Option.some.inj ho
  |succ j=>exact ih _ _ _ h j e2 l ho
 |f' k t ih=>intro s n x h;exact ih s n x h
 |r' t ih=>intro s n x h;cases h
 |l' e b t ih=>
  intro s n x h j e2 l ho
  cases j with
  |zero=>cases Option.some.inj ho
  |succ j=>simp [Ty.lay]at ho
 |y'=>
  intro s n x h j e2 l ho
  cases j with
  |zero=>cases Option.some.inj ho
  |succ j=>simp [Ty.lay]at ho
 |z'=>
  intro s n x h j e2 l ho
  cases j with
  |zero=>cases Option.some.inj ho
  |succ j=>simp [Ty.lay]at ho
 |_=>intro s n x h j e l ho;simp [Ty.lay]at ho
theorem rdA_ok{H:List Ob}(hb:Brk H):∀(l:List Ty) (vs:List SV) (a:(tupT l).T) (ss:List Src) (H0:List Ob),rdA H l vs=some (a,ss)→
  ∃obs,(apn H0 l a).2=H0++obs∧obs.length=ss.length∧(∀v∈(apn H0 l a).1,v.ok (H0.length+obs.length))∧(∀(j e:Nat) (cs:List SC),obs[j]? =some (.bl e cs)→∀c∈cs,c.ok (H0.length+obs.length))∧
   ∀(ρ ρ2:Nat→Ad),(∀(j:Nat) (s:Src),ss[j]? =some s→ρ2 (H0.length+j)=s.ad ρ)→
    (∃us:List Value,vs.map (SV.v ρ)=us.map some∧(apn H0 l a).1.map (SV.v ρ2)=us.map some)∧∀(j:Nat) (s:Src) (o:Ob),ss[j]? =some s→obs[j]? =some o→SOk true ρ H ρ2 s o
 |[],vs,a,ss,H0,h=>by
  cases vs with
  |cons v vs=>cases h
  |nil=>
   cases h
   exact⟨[],by simp [apn],rfl,fun v hv=>by simp [apn]at hv,fun j e cs hj=>by simp at hj,fun ρ ρ2 _=>⟨⟨[],rfl,rfl⟩,fun j s o hj=>by simp at hj⟩⟩
 |[x],vs,a,ss,H0,h=>by
  simp only [rdA]at h
  split at h
  ·rename_i v
   have hv:=rdV_ok hb h
   refine⟨(x.lay 0 H0.length a).2,rfl,by rw [hv.no,Ty.lay_no],fun v hm=> ?_,fun j e cs hj=>atr x 0 H0.length a j e cs hj,fun ρ ρ2 had=> ?_⟩
   ·rw [List.mem_singleton.1 (show v∈[x.sv (x.lay 0 H0.length a).1]from hm)]
    exact Ty.sv_ok (asz x 0 H0.length a hv.tz)
   ·obtain⟨⟨u,h1,h2,_⟩,h3⟩:=hv.to ρ ρ2 H0.length had
    exact⟨⟨[u],by simp [h1],by simp [apn,h2]⟩,h3⟩
  ·cases h
 |x::y::l,vs,a,ss,H0,h=>by
  simp only [rdA]at h
  split at h
  ·rename_i v vs
   split at h
   ·rename_i a1 s1 hx
    split at h
    ·rename_i b s2 hr
     cases h
     have hv:=rdV_ok hb hx
     have hl:(x.lay 0 H0.length a1).2.length=s1.length:=by rw [hv.no,Ty.lay_no]
     obtain⟨obs,h1,h2,h3,h4,h5⟩:=rdA_ok hb (y::l) vs b s2 (H0++(x.lay 0 H0.length a1).2) hr
     have hl2:(H0++(x.lay 0 H0.length a1).2).length=H0.length+(x.lay 0 H0.length a1).2.length:=zac
     refine⟨(x.lay 0 H0.length a1).2++obs,by rw [←zaq];exact h1,by simp [hl,h2],fun v hm=> ?_,fun j e cs hj c hc=> ?_,fun ρ ρ2 had=> ?_⟩
     ·rw [zac,←zaK,←hl2]
      rcases List.mem_cons.1 (show v∈x.sv (x.lay 0 H0.length a1).1::(apn (H0++(x.lay 0 H0.length a1).2) (y::l) b).1 from hm)with rfl|hm
      ·exact SV.ok_mono (Ty.sv_ok (asz x 0 H0.length a1 hv.tz)) (by omega)
      ·exact h3 v hm
     ·rw [zac,←zaK,←hl2]
      by_cases hlt:j<(x.lay 0 H0.length a1).2.length
      ·rw [List.getElem?_append_left hlt]at hj
       exact SC.ok_mono (atr x 0 H0.length a1 j e cs hj c hc) (by omega)
      ·rw [List.getElem?_append_right (by omega)]at hj
       exact h4 _ e cs hj c hc
     ·obtain⟨⟨u,h6,h7,_⟩,h8⟩:=hv.to ρ ρ2 H0.length (fun j s hj=>had j s (by rw [List.getElem?_append_left (List.getElem?_eq_some_iff.1 hj).1];exact hj))
      obtain⟨⟨us,h9,h10⟩,h11⟩:=h5 ρ ρ2 (fun j s hj=>by
       rw [hl2,hl,zaK]
       exact had _ s (by rw [List.getElem?_append_right (by omega),←hj];congr 1;omega))
      refine⟨⟨u::us,by simp [h6,h9], ?_⟩,fun j s o hs ho=> ?_⟩
      ·show(x.sv (x.lay 0 H0.length a1).1::(apn (H0++(x.lay 0 H0.length a1).2) (y::l) b).1).map _=_
       rw [zaG,h7,h10];rfl
      ·by_cases hlt:j<s1.length
       ·rw [List.getElem?_append_left hlt]at hs
        rw [List.getElem?_append_left (by omega)]at ho
        exact h8 j s o hs ho
       ·rw [List.getElem?_append_right (by omega)]at hs
        rw [List.getElem?_append_right (by omega),hl]at ho
        exact h11 _ s o hs ho
    ·cases h
   ·cases h
  ·cases h
def argH(c:Con)(x:(tupT c.a).T):List Ob:=(apn [] c.a x).2
def eatJ(outs:List Nat):List Ob→Nat→List Nat
 |[],_=>[]
 |o::obs,j=>(bif ank (some o)then(bif ask j outs then []else [j])else [])++eatJ outs obs (j+1)
structure Glo where
 gs:List (Nat×Ob)
 p:World→List Nat→Prop
 st:∀{w0 w:World} {S0 S1:List Nat} {L:List Res},Hp w0 S0 L w→p w0 S0→(∀b∈S1,w0.heap.size≤b∨b∈S0)→p w S1
 rd:∀{w:World} {S:List Nat} {g:Nat} {t:Ty} {l:List t.T},p w S→(g,.ro t l)∈gs→Rd w (some ⟨g,0,none⟩) (l.flatMap t.enc)∧g∉S
def Gw(G:Glo)(w:World)(S:List Nat):Prop:=G.p w S
def Gv.ok{α:Type}:Gv α→α→Prop
 |.one o,y=>o=some y
 |.gs l z,y=>All l∧z=y
theorem gdL_some{ρ:Type}{x:Option ρ}{r:ρ}:∀{l:List PD},gdL l x=some r→All l∧x=some r
 |[],h=>⟨trivial,h⟩
 |⟨p,hp⟩::l,h=>by
  obtain⟨h1,h2⟩:=gd_inv h
  obtain⟨h3,h4⟩:=gdL_some h2
  exact⟨⟨h1,h3⟩,h4⟩
theorem Gv.bd_some{α ρ:Type}{g:Gv α}{k:α→Option ρ}{r:ρ}(h:g.bd k=some r):∃y,g.ok y∧k y=some r:=by
 cases g with
 |one o=>obtain⟨y,h1,h2⟩:=bind_inv (show o.bind k=some r from h);exact⟨y,h1,h2⟩
 |gs l z=>obtain⟨h1,h2⟩:=gdL_some (show gdL l (k z)=some r from h);exact⟨z,⟨h1,rfl⟩,h2⟩
def retS(c:Con)(x:(tupT c.a).T)(y:(resT c.r).T):List SA×List Ob:=putR (fun j=>j) ([],kill (argH c x) (eatJ (Rk.ids c.r) (argH c x) 0)) c.r y
def FOk(P:Program)(GS:Glo)(k:Nat)(c:Con):Prop:=∀(w:World) (S:List Nat) (ρ:Nat→Ad) (L:List Res) (us:List Value) (x:(tupT c.a).T) (y:(resT c.r).T),Gw GS w S→Hp w S L w→Mt w S ρ (argH c x) L→
 (apn [] c.a x).1.map (SV.v ρ)=us.map some→(c.f x).ok y→CR P k us w fun v w2=>∃ρ2 L2,Up (argH c x).length ρ ρ2∧Hp w S L2 w2∧Mt w S ρ2 (retS c x y).2 L2∧(resV (retS c x y).1).v ρ2=some v
theorem eatJ_mem{outs:List Nat}:∀{obs:List Ob} {i j:Nat},j∈eatJ outs obs i↔∃o,i≤j∧obs[j-i]? =some o∧ank (some o)=true∧j∉outs
 |[],i,j=>by simp [eatJ]
 |o::obs,i,j=>by
  have ih:=eatJ_mem (outs:=outs) (obs:=obs) (i:=i+1) (j:=j)
  simp only [eatJ,List.mem_append,ih]
  constructor
  ·rintro(h|⟨o2,h1,h2,h3⟩)
   ·cases hr:ank (some o)with
    |false=>rw [hr]at h;cases h
    |true=>
     rw [hr]at h
     simp only [cond_true]at h
     cases hm:ask i outs with
     |true=>rw [hm]at h;cases h
     |false=>
      rw [hm]at h
      simp only [cond_false,List.mem_singleton]at h
      subst h
      exact⟨o,zap _,by simp,hr,fun hc=>by rw [agr.2 hc]at hm;cases hm⟩
   ·refine⟨o2,by omega, ?_,h3⟩
    rw [show j-i=(j-(i+1))+1 by omega,List.getElem?_cons_succ];exact h2
  ·rintro⟨o2,h1,h2,h3,h4⟩
   by_cases hij:i=j
   ·subst hij
    left
    rw [Nat.sub_self]at h2
    have e:o=o2:=by simpa using h2
    subst e
    have hm:ask i outs=false:=by
     cases hm:ask i outs with
     |false=>rfl
     |true=>exact absurd (agr.1 hm) h4
    rw [h3,hm];simp
   ·right
    refine⟨o2,by omega, ?_,h3,h4⟩
    rw [show j-i=(j-(i+1))+1 by omega,List.getElem?_cons_succ]at h2;exact h2
theorem eaten_mem{outs:List Nat}:∀{obs:List Ob} {ss:List Src} {i id:Nat},id∈aub outs obs i ss↔∃j o s,i≤j∧obs[j-i]? =some o∧ss[j-i]? =some s∧ank (some o)=true∧j∉outs∧id∈s.own
 |[],ss,i,id=>by simp [aub]
 |o::obs,[],i,id=>by simp [aub]
 |o::obs,s::ss,i,id=>by
  have ih:=eaten_mem (outs:=outs) (obs:=obs) (ss:=ss) (i:=i+1) (id:=id)
  simp only [aub,List.mem_append,ih]
  constructor
  ·rintro(h|⟨j,o2,s2,h1,h2,h3,h4⟩)
   ·cases hr:ank (some o)with
    |false=>rw [hr]at h;cases h
    |true=>
     rw [hr]at h
     simp only [cond_true]at h
     cases hm:ask i outs with
     |true=>rw [hm]at h;cases h
     |false=>
      rw [hm]at h
      exact⟨i,o,s,zap _,by simp,by simp,hr,(fun hc=>by rw [agr.2 hc]at hm;cases hm),h⟩
   ·refine⟨j,o2,s2,by omega, ?_, ?_,h4⟩
    ·rw [show j-i=(j-(i+1))+1 by omega,List.getElem?_cons_succ];exact h2
    ·rw [show j-i=(j-(i+1))+1 by omega,List.getElem?_cons_succ];exact h3
  ·rintro⟨j,o2,s2,h1,h2,h3,h4,h5,h6⟩
   by_cases hij:i=j
   ·subst hij
    left
    rw [Nat.sub_self]at h2 h3
    have e:o=o2:=by simpa using h2
    have e2:s=s2:=by simpa using h3
    subst e
    subst e2
    have hm:ask i outs=false:=by
     cases hm:ask i outs with
     |false=>rfl
     |true=>exact absurd (agr.1 hm) h5
    rw [h4,hm];exact h6
   ·right
    refine⟨j,o2,s2,by omega, ?_, ?_,h4,h5,h6⟩
    ·rw [show j-i=(j-(i+1))+1 by omega,List.getElem?_cons_succ]at h2;exact h2
    ·rw [show j-i=(j-(i+1))+1 by omega,List.getElem?_cons_succ]at h3;exact h3
open List renaming map_append → zbf, mem_cons_of_mem → zaf
open Nat renaming add_assoc → zaK, beq → zai, eq_of_beq_eq_true → zag, one_pos → zbo
structure PR (n nc:Nat) (H:List Ob) (ρ ρ2 ρ3:Nat→Ad) (ss:List Src) (rg:List Rg) (Hc Hk:List Ob) (lc lk:List SA) (k:Nat):Prop where
 ec:Hc.length=nc+k
 ek:Hk.length=n+k
 nw:∀(i:Nat) (o:Ob),i<k→Hc[nc+i]? =some o→(∃o3,Hk[n+i]? =some o3∧Eqv ρ2 ρ3 o o3)∧∀(t:Ty) (l:List t.T),o≠.ro t l
 ow:∀(j id:Nat) (o:Ob),ss[j]? =some (.o' id true)→Hc[j]? =some o→(∃o3,Hk[id]? =some o3∧Eqv ρ2 ρ3 o o3)∧∀(t:Ty) (l:List t.T),o≠.ro t l
 ok:∀(j id m:Nat),ss[j]? =some (.k' id m true)→Hk[id]? =some (.dd 0)
 ot:∀id,id<n→id∉ownS ss→Hk[id]? =H[id]?
 ho:∀(id e:Nat) (cs:List SC),Hk[id]? =some (.bl e cs)→∀c∈cs,c.ok (n+k)
 kp:∀(id:Nat) (o:Ob),H[id]? =some o→Keeps rg id ρ ρ3 Hk[id]? o
 vl:lc.map (SA.v ρ2)=lk.map (SA.v ρ3)
 vo:∀v∈lk,v.ok (n+k)
theorem Eqv.len{ρ ρ2:Nat→Ad}{o o2:Ob}(h:Eqv ρ ρ2 o o2):o2.len=o.len:=by
 cases o with
 |bl e cs=>obtain⟨cs2,rfl,_⟩:=h;rfl
 |_=>have h:_=_:=h;rw [h]
theorem sa_rel{ρ ρ2:Nat→Ad}{x:Ty}{a b:List SC}(h:a.map (SC.v ρ)=b.map (SC.v ρ2)):(x.sa a).v ρ=(x.sa b).v ρ2:=by
 unfold Ty.sa
 cases x.agg with
 |true=>simp only [cond_true,SA.v,h]
 |false=>
  simp only [cond_false]
  match a,b,h with
  |[],[],_=>rfl
  |[x],[y],h=>simpa [SA.v] using h
  |x::y::a,u::v::b,h=>simp only [SA.v,h]
  |[],_::_,h=>simp at h
  |_::_,[],h=>simp at h
  |[_],_::_::_,h=>simp at h
  |_::_::_,[_],h=>simp at h
theorem wPut_some{m:Nat}:∀{x:Ty} {v:x.T} {o:Ob},wPut m x v=some o→(∀(t:Ty) (l:List t.T),o≠.ro t l)∧∀(e:Nat) (cs:List SC),o≠.bl e cs:=by
 intro x
 cases x<;>intro v o h<;>first|(cases h;exact⟨(fun t l e=>by cases e),(fun e cs e2=>by cases e2)⟩)|cases h
theorem own_o{s:Src}{id:Nat}(h:s.ow=some id):s=.o' id true∨∃m,s=.k' id m true:=by
 cases s with
 |o' i w=>cases w<;>simp [Src.ow]at h;subst h;exact .inl rfl
 |n'=>simp [Src.ow]at h
 |k' i m w=>cases w<;>simp [Src.ow]at h;subst h;exact .inr ⟨m,rfl⟩
 |z' t=>simp [Src.ow]at h
section
variable {n nc : Nat} {H : List Ob} {ρ ρ2 ρ3 : Nat → Ad} {ss : List Src} {rg : List Rg} {Hc Hk : List Ob} {lc lk : List SA} {k : Nat}
theorem PR.app(h:PR n nc H ρ ρ2 ρ3 ss rg Hc Hk lc lk k)(hs:ss.length≤nc)(hid:∀(j:Nat) (s:Src) (i:Nat),ss[j]? =some s→s.ow=some i→i<n)(hH:H.length=n){a b:List SC×List Ob}(hab:LR ρ2 ρ3 a b)(hl:a.2.length=b.2.length)
  (hnb:∀(j:Nat) (t:Ty) (l:List t.T),a.2[j]? ≠some (.ro t l)) (hob:∀(j e:Nat) (cs:List SC),b.2[j]? =some (.bl e cs)→∀c∈cs,c.ok (n+(k+b.2.length))):
  PR n nc H ρ ρ2 ρ3 ss rg (Hc++a.2) (Hk++b.2) lc lk (k+b.2.length):=by
 have h1:=h.ec
 have h2:=h.ek
 refine⟨by simp [h1,hl,zaK],by simp [h2,zaK],fun i o hi ho=> ?_,fun j id o hj ho=> ?_,fun j id m hj=> ?_,fun id hi hn=> ?_,fun id e cs ho c hc=> ?_,fun id o ho=> ?_,h.vl,fun v hv=> ?_⟩
 ·by_cases hik:i<k
  ·rw [List.getElem?_append_left (by omega)]at ho⊢
   exact h.nw i o hik ho
  ·rw [List.getElem?_append_right (by omega),h1,show nc+i-(nc+k)=i-k by omega]at ho
   rw [List.getElem?_append_right (by omega),h2,show n+i-(n+k)=i-k by omega]
   exact⟨hab.o _ o ho,fun t l e=>hnb _ t l (by rw [ho,e])⟩
 ·have hj2:=(List.getElem?_eq_some_iff.1 hj).1
  have:=hid j _ id hj rfl
  rw [List.getElem?_append_left (by omega)]at ho⊢
  exact h.ow j id o hj ho
 ·have:=hid j _ id hj rfl
  rw [List.getElem?_append_left (by omega)]
  exact h.ok j id m hj
 ·rw [List.getElem?_append_left (by omega)];exact h.ot id hi hn
 ·by_cases hi:id<Hk.length
  ·rw [List.getElem?_append_left hi]at ho
   exact SC.ok_mono (h.ho id e cs ho c hc) (by omega)
  ·rw [List.getElem?_append_right (by omega)]at ho
   exact hob _ e cs ho c hc
 ·have:=(List.getElem?_eq_some_iff.1 ho).1
  rw [List.getElem?_append_left (by omega)];exact h.kp id o ho
 ·have:=h.vo v hv
  cases v with
  |c' x=>exact SC.ok_mono this (by omega)
  |a' l=>exact fun x hx=>SC.ok_mono (this x hx) (by omega)
theorem PR.upd(h:PR n nc H ρ ρ2 ρ3 ss rg Hc Hk lc lk k)(hn:(ownS ss).Nodup)(hid:∀(j:Nat) (s:Src) (i:Nat),ss[j]? =some s→s.ow=some i→i<n){j id:Nat}{o o3:Ob}(hj:ss[j]? =some (.o' id true))(he:Eqv ρ2 ρ3 o o3)(hnb:∀(t:Ty) (l:List t.T),o≠.ro t l)(hkp:∀o0,H[id]? =some o0→Keeps rg id ρ ρ3 (some o3) o0)(hs:ss.length≤nc)
  (hok:∀(e:Nat) (cs:List SC),o3=.bl e cs→∀c∈cs,c.ok (n+k)):PR n nc H ρ ρ2 ρ3 ss rg (apb Hc j o) (apb Hk id o3) lc lk k:=by
 have h1:=h.ec
 have h2:=h.ek
 have hi:=hid j _ id hj rfl
 have hjl:=(List.getElem?_eq_some_iff.1 hj).1
 refine⟨by rw [ale,h1],by rw [ale,h2],fun i p hi2 ho=> ?_,fun j2 id2 p hj2 ho=> ?_,fun j2 id2 m hj2=> ?_,fun id2 hi2 hn2=> ?_,fun id2 e cs ho c hc=> ?_,fun id2 p ho=> ?_,h.vl,h.vo⟩
 ·rw [ach,if_neg (by omega)]at ho
  rw [ach,if_neg (by omega)]
  exact h.nw i p hi2 ho
 ·by_cases hjj:j2=j
  ·subst hjj
   rw [hj]at hj2
   cases hj2
   rw [ach,if_pos ⟨rfl,by omega⟩]at ho
   cases ho
   rw [ach,if_pos ⟨rfl,by omega⟩]
   exact⟨⟨o3,rfl,he⟩,hnb⟩
  ·have hne:id2≠id:=fun e=>hjj (ow_inj hn hj2 (by rw [e];rfl) hj rfl)
   rw [ach,if_neg (fun hh=>hjj hh.1)]at ho
   rw [ach,if_neg (fun hh=>hne hh.1)]
   exact h.ow j2 id2 p hj2 ho
 ·have hne:id2≠id:=fun e=>by
   have:=ow_inj hn hj2 (by rw [e];rfl) hj rfl
   subst this
   rw [hj]at hj2;cases hj2
  rw [ach,if_neg (fun hh=>hne hh.1)]
  exact h.ok j2 id2 m hj2
 ·have hne:id2≠id:=fun e=>hn2 (by rw [e];exact ow_mem hj rfl)
  rw [ach,if_neg (fun hh=>hne hh.1)]
  exact h.ot id2 hi2 hn2
 ·rw [ach]at ho
  split at ho
  ·cases ho;exact hok e cs rfl c hc
  ·exact h.ho id2 e cs ho c hc
 ·rw [ach]
  split
  ·rename_i hh
   rw [hh.1]at ho⊢
   exact hkp p ho
  ·exact h.kp id2 p ho
theorem PR.steps(hn:(ownS ss).Nodup)(hs:ss.length≤nc)(hid:∀(j:Nat) (s:Src) (i:Nat),ss[j]? =some s→s.ow=some i→i<n)(hH:H.length=n)(hss:ss.length=nc)
  (hd3:∀i,ρ3 (n+i)=ρ2 (nc+i)) (hdo:∀(j id:Nat),ss[j]? =some (.o' id true)→ρ3 id=ρ2 j):∀(r:List Rk) (y:(resT r).T) (Hc Hk:List Ob) (lc lk:List SA) (k:Nat),PR n nc H ρ ρ2 ρ3 ss rg Hc Hk lc lk k→rkOk H ss r=true→(∀id∈outIds ss (Rk.ids r),∀q,q=cellsO H id→∀j,j<q.2.2→cov id j rg=true)→
  ∃k2,PR n nc H ρ ρ2 ρ3 ss rg (putR (fun j=>j) (lc,Hc) r y).2 (putR (ixS ss) (lk,Hk) r y).2 (putR (fun j=>j) (lc,Hc) r y).1 (putR (ixS ss) (lk,Hk) r y).1 k2:=by
 have one:∀(q:Rk) (v:q.ty.T) (Hc Hk:List Ob) (lc lk:List SA) (k:Nat),PR n nc H ρ ρ2 ρ3 ss rg Hc Hk lc lk k→rkOk H ss [q]=true→(∀id∈outIds ss (Rk.ids [q]),∀q,q=cellsO H id→∀j,j<q.2.2→cov id j rg=true)→
   ∃k2,PR n nc H ρ ρ2 ρ3 ss rg (q.put (fun j=>j) (lc,Hc) v).2 (q.put (ixS ss) (lk,Hk) v).2 (q.put (fun j=>j) (lc,Hc) v).1 (q.put (ixS ss) (lk,Hk) v).1 k2:=by
  intro q v Hc Hk lc lk k h hq hcov
  have h1:=h.ec
  have h2:=h.ek
  simp only [rkOk]at hq
  have hq:=(aeo hq).1
  cases q with
  |r' x=>
   have hq:(bif x.tz then false else x.nb)=true:=hq
   cases htz:x.tz with
   |true=>rw [htz]at hq;cases hq
   |false=>
    rw [htz]at hq
    have hq:x.nb=true:=hq
    have hlr:=lay_rel x 0 Hc.length 0 Hk.length v ρ2 ρ3 (fun e=>by rw [htz]at e;cases e) (fun j _=>by rw [h1,h2,zaK,zaK];exact(hd3 _).symm)
    have hp:=h.app hs hid hH hlr ((Ty.lay_no x 0 Hc.length v).trans (Ty.lay_no x 0 Hk.length v).symm) (lay_nb x 0 Hc.length v hq) (fun j e cs ho=>by
     have:=atr x 0 Hk.length v j e cs ho
     rw [h2,zaK]at this
     rw [h2];exact this)
    refine⟨_,hp.ec,hp.ek,hp.nw,hp.ow,hp.ok,hp.ot,hp.ho,hp.kp, ?_,fun u hu=> ?_⟩
    ·show(lc++[x.sa (x.lay 0 Hc.length v).1]).map _=(lk++[x.sa (x.lay 0 Hk.length v).1]).map _
     rw [zbf,zbf,h.vl,List.map_singleton,List.map_singleton,sa_rel hlr.c]
    ·rcases List.mem_append.1 (show u∈lk++[x.sa (x.lay 0 Hk.length v).1]from hu)with hu|hu
     ·exact hp.vo u hu
     ·rw [List.mem_singleton.1 hu]
      have:=Ty.sa_ok (x:=x) (asz x 0 Hk.length v htz)
      rw [←zaK,←h2];exact this
  |o' j e x=>
   have hq:(bif x.nb then(match aiw ss j with
    |some (.o' id w)=>bif w then(match aiw H id with
     |some (.bl e2 cs)=>bif zai e2 e then zai cs.length x.cn else false
     |_=>false)else false
    |_=>false)else false)=true:=hq
   have hq:=aeo hq
   have hnb:=hq.1
   have hq:=hq.2
   split at hq
   ·rename_i id w hg
    have hq:=aeo hq
    have hw:=hq.1
    subst hw
    have hq:=hq.2
    split at hq
    ·rename_i e2 cs0 hb
     have hq:=aeo hq
     rw [aap]at hg hb
     have he2:=zag hq.1
     have hcn:=zag hq.2
     subst he2
     have hi:=hid j _ id hg rfl
     have hjl:=(List.getElem?_eq_some_iff.1 hg).1
     have hix:ixS ss j=id:=by unfold ixS;rw [aap,hg]
     have hlr:=lay_rel x j Hc.length id Hk.length v ρ2 ρ3 (fun _=>by rw [hdo j id hg]) (fun j _=>by rw [h1,h2,zaK,zaK];exact(hd3 _).symm)
     have hok1:∀c∈(x.lay id Hk.length v).1,c.ok (n+(k+(x.lay id Hk.length v).2.length)):=fun c hc i hic=>by
      rcases(Ty.lay_ok x id Hk.length v c hc).2 i hic with h3|h3
      ·omega
      ·omega
     have hp:=h.app hs hid hH hlr ((Ty.lay_no x j Hc.length v).trans (Ty.lay_no x id Hk.length v).symm) (lay_nb x j Hc.length v hnb) (fun j e cs ho=>by
      have:=atr x id Hk.length v j e cs ho
      rw [h2,zaK]at this
      rw [h2];exact this)
     have hp2:=hp.upd (j:=j) (id:=id) (o:=.bl e2 (x.lay j Hc.length v).1) (o3:=.bl e2 (x.lay id Hk.length v).1) hn hid hg ⟨_,rfl,hlr.c,fun j c c2 h h2=>lay_kn h h2⟩ (fun t l e=>by cases e) (fun o0 h0=> ?_) hs (fun e cs he c hc=>by cases he;exact hok1 c hc)
     ·refine⟨k+(x.lay id Hk.length v).2.length, ?_⟩
      have e1:∀{Z B:List Ob} {i:Nat} {o:Ob},i<Z.length→apb (Z++B) i o=apb Z i o++B:=fun hl=>by rw [lset_eq,lset_eq,List.set_append_left _ _ hl]
      rw [e1 (by omega),e1 (by omega)]at hp2
      show PR n nc H ρ ρ2 ρ3 ss rg (apb Hc j (.bl e2 (x.lay j Hc.length v).1)++(x.lay j Hc.length v).2) (apb Hk (ixS ss j) (.bl e2 (x.lay (ixS ss j) Hk.length v).1)++(x.lay (ixS ss j) Hk.length v).2) lc lk _
      rw [hix];exact hp2
     ·rw [hb]at h0
      cases h0
      refine .inr ⟨_,rfl,(Ty.lay_len x id Hk.length v).trans hcn.symm,fun jj c hc=>.inl ?_⟩
      have hjj:=(List.getElem?_eq_some_iff.1 hc).1
      refine hcov id ?_ _ rfl jj ?_
      ·show id∈[ixS ss j]
       rw [hix];exact List.mem_singleton.2 rfl
      ·unfold cellsO
       rw [aap,hb];exact hjj
    ·cases hq
   ·cases hq
  |w' j x=>
   have hq:(match aiw ss j with
    |some (.o' id w)=>bif w then ank (aiw H id)else false
    |_=>false)=true:=hq
   split at hq
   ·rename_i id w hg
    have hq:=aeo hq
    have hw:=hq.1
    subst hw
    have hrow:=hq.2
    rw [aap]at hg hrow
    have hi:=hid j _ id hg rfl
    have hjl:=(List.getElem?_eq_some_iff.1 hg).1
    have hix:ixS ss j=id:=by unfold ixS;rw [aap,hg]
    have hcj:Hc[j]? =some (Hc[j]'(by omega)):=List.getElem?_eq_getElem (by omega)
    obtain⟨⟨o3,h3,h4⟩,_⟩:=h.ow j id _ hg hcj
    have hlen:lenH Hk id=lenH Hc j:=by rw [lenH_get h3,lenH_get hcj,h4.len]
    refine⟨k, ?_⟩
    show PR n nc H ρ ρ2 ρ3 ss rg (putW Hc j x v) (putW Hk (ixS ss j) x v) lc lk k
    rw [hix]
    unfold putW
    rw [hlen]
    split
    ·rename_i o ho
     have hor:(∀(t:Ty) (l:List t.T),o≠.ro t l)∧Eqv ρ2 ρ3 o o∧∀(e:Nat) (cs:List SC),o≠.bl e cs:=by
      obtain⟨h5,h6⟩:=wPut_some ho
      refine⟨h5, ?_,h6⟩
      cases o with
      |bl e cs=>exact absurd rfl (h6 e cs)
      |_=>rfl
     refine h.upd hn hid hg hor.2.1 hor.1 (fun o0 h0=> ?_) hs (fun e cs he=>absurd he (hor.2.2 e cs))
     have hc0:cov id 0 rg=true:=by
      refine hcov id ?_ _ rfl 0 ?_
      ·show id∈[ixS ss j]
       rw [hix];exact List.mem_singleton.2 rfl
      ·unfold cellsO
       rw [aap,h0]
       rw [h0]at hrow
       cases o0<;>first|exact zbo|cases hrow
     rw [h0]at hrow
     cases o0<;>first|exact .inl hc0|cases hrow
    ·exact h
   ·cases hq
 intro r
 induction r with
 |nil=>intro y Hc Hk lc lk k h _ _;exact⟨k,h⟩
 |cons q r ih=>
  intro y Hc Hk lc lk k h hq hcov
  cases r with
  |nil=>exact one q y Hc Hk lc lk k h hq hcov
  |cons q2 r=>
   have hq2:=aeo (show(bif _ then rkOk H ss (q2::r)else false)=true from hq)
   have hsub:∀id,id∈outIds ss (Rk.ids [q])∨id∈outIds ss (Rk.ids (q2::r))→id∈outIds ss (Rk.ids (q::q2::r)):=by
    intro id hid
    cases q with
    |r' x=>
     rcases hid with hid|hid
     ·cases hid
     ·exact hid
    |o' i e x=>
     rcases hid with hid|hid
     ·exact List.mem_cons.2 (.inl (List.mem_singleton.1 hid))
     ·exact zaf _ hid
    |w' i x=>
     rcases hid with hid|hid
     ·exact List.mem_cons.2 (.inl (List.mem_singleton.1 hid))
     ·exact zaf _ hid
   obtain⟨k2,h2⟩:=one q y.1 Hc Hk lc lk k h (by
    have:=hq2.1
    simp only [rkOk]
    rw [this];rfl) (fun id hi=>hcov id (hsub id (.inl hi)))
   exact ih y.2 _ _ _ _ k2 h2 hq2.2 (fun id hi=>hcov id (hsub id (.inr hi)))
end
open Go.Wk
open Go.Ce (Tr)
open Go.Value renaming ownBlock → zaQ
open List renaming length_map → zaL, length_nil → zal, mem_append_left → zbc, mem_append_right → zaV, mem_cons_of_mem → zaf, mem_cons_self → zah, nil_append → zaB, range → zbq
open Nat renaming le_refl → zap, zero_add → zbb, zero_le → zan
open Option renaming map_some → zaR
theorem map_some{α β:Type}{f:α→β}{l:List α}{j:Nat}{r:β}(h:(l.map f)[j]? =some r):∃x,l[j]? =some x∧f x=r:=by
 rw [List.getElem?_map]at h
 cases hs:l[j]? with
 |none=>rw [hs]at h;cases h
 |some x=>rw [hs]at h;exact⟨x,rfl,Option.some.inj h⟩
theorem own_uniq{w0 w:World}{S0:List Nat}{L:List Res}(hH:Hp w0 S0 L w){i j b:Nat}{r r2:Res}(h:L[i]? =some r)(h2:L[j]? =some r2)(hr:r.own=some b)(hr2:r2.own=some b):i=j:=by
 obtain⟨hl1,e1⟩:=List.getElem?_eq_some_iff.1 h
 obtain⟨hl2,e2⟩:=List.getElem?_eq_some_iff.1 h2
 have hs:=List.pairwise_iff_getElem.1 hH.sep
 rcases Nat.lt_trichotomy i j with hlt|he|hgt
 ·exact absurd (by rw [e2];exact hr2) (hs i j hl1 hl2 hlt b (by rw [e1];exact hr))
 ·exact he
 ·exact absurd (by rw [e1];exact hr) (hs j i hl2 hl1 hgt b (by rw [e2];exact hr2))
theorem sok_f{ρ ρ2:Nat→Ad}{H:List Ob}{s:Src}{o:Ob}(h:SOk true ρ H ρ2 s o)(hn:∀(t:Ty) (l:List t.T),o≠.ro t l):SOk false ρ H ρ2 s o:=by
 cases o with
 |ro t l=>exact absurd rfl (hn t l)
 |_=>exact h
theorem sokC_len{ρ ρ2:Nat→Ad}{H:List Ob}(hl:Lns ρ H)(hb:Brk H){s:Src}{o:Ob}(h:SOk true ρ H ρ2 s o):o.len=(s.ad ρ).ln:=by
 cases o with
 |ro t l=>
  rcases h with⟨id,rfl,h1⟩|⟨rfl,rfl⟩|⟨_,id,m,e,cs,rfl,h1,h2⟩
  ·obtain⟨ob,h2,h3⟩:=anyOf_len (fun m x hx=>hb id m x hx) (show anyOf t H[id]? =some l from h1)
   have:=hl id ob h2
   show l.length=(ρ id).ln
   rw [←h3];exact this
  ·rfl
  ·exact(apw h2).1
 |_=>exact sok_len hl hb (sok_f h (fun t l e=>by cases e))
theorem ro_any{w0 w1:World}{S0 S1:List Nat}{ρ:Nat→Ad}{id:Nat}{o:Ob}{r:Res}(h:RO w0 S0 ρ id o r)(hn:∀(t:Ty) (l:List t.T),o≠.ro t l):RO w1 S1 ρ id o r:=by
 cases o with
 |ro t l=>exact absurd rfl (hn t l)
 |_=>exact h
theorem sokC_ro{w0 w:World}{S0 S1:List Nat}{ρ ρ2:Nat→Ad}{H:List Ob}{L:List Res}(hH:Hp w0 S0 L w)(hM:Mt w0 S0 ρ H L)(hX:∀b∈S1,w0.heap.size≤b∨b∈S0){s:Src}{o:Ob}{k:Nat}(hB:∀id∈s.bor,∀(r:Res) (b:Nat),L[id]? =some r→r.own=some b→b∉S1)(h:SOk true ρ H ρ2 s o)(hk:ρ2 k=s.ad ρ):
  ∃r,RO w S1 ρ2 k o r∧r.holds w∧∀b,r.own=some b→∃i ri,s.ow=some i∧L[i]? =some ri∧ri.own=some b:=by
 cases o with
 |ro t l=>
  refine⟨nores,⟨rfl, ?_⟩,trivial,fun b hb=>by cases hb⟩
  rw [hk]
  rcases h with⟨id,rfl,h1⟩|⟨rfl,rfl⟩|⟨_,id,m,e,cs,rfl,h1,h2⟩
  ·have h1:anyOf t H[id]? =some l:=h1
   have hB:=hB id (by simp [Src.bor])
   show ROk w S1 (ρ id) t l
   unfold anyOf at h1
   split at h1
   ·rename_i e b t2 l2 hb
    split at h1
    ·rename_i hq
     obtain rfl:=Ty.eqb_eq hq
     cases h1
     obtain⟨_,r,hr,he⟩:=hM.2 id _ hb
     have he:r=rwt t2.enc e t2.sz (ρ id).o (ρ id).a (ρ id).cap l2:=he
     subst he
     refine⟨hH.rdrw id hr,fun hne p hp=> ?_,hH.rwcap id hr⟩
     have hl2:l2≠[]:=fun e=>by rw [e]at hne;exact hne rfl
     obtain⟨h6,_⟩:=hH.res _ (List.mem_of_getElem? hr)
     rcases h6 with⟨_,h8,_⟩|⟨g,cur,h7,h8,_⟩
     ·exact absurd h8 hl2
     ·rw [hp]at h8
      cases h8
      exact hB _ _ hr h7
    ·cases h1
   ·rename_i t2 l2 hb
    split at h1
    ·rename_i hq
     obtain rfl:=Ty.eqb_eq hq
     cases h1
     obtain⟨_,r,hr,_,hro,hne,hcap⟩:=hM.2 id _ hb
     refine⟨hro.hpN hH hne,fun hn p hp hS1=> ?_,hcap⟩
     have hpS:=hne hn p hp
     rcases hX _ hS1 with h3|h3
     ·obtain⟨v,hv⟩:∃v,(l2.flatMap t2.enc)[0]? =some v:=by
       cases hq:l2.flatMap t2.enc with
       |nil=>exact absurd hq hn
       |cons v vs=>exact⟨v,rfl⟩
      obtain⟨p2,h4,h5⟩:=hro 0 v hv
      rw [hp]at h4
      cases h4
      have:=cell_lt h5
      rw [atk]at this
      omega
     ·exact hpS h3
    ·cases h1
   ·rename_i m l2 hb
    unfold strOf at h1
    split at h1
    ·rename_i hq
     obtain rfl:=Ty.eqb_eq hq
     cases h1
     obtain⟨_,r,hr,he⟩:=hM.2 id _ hb
     have he:r=brow (.slice (ρ id).a m (ρ id).cap) m l2:=he
     subst he
     obtain⟨⟨h5,g,cap,cur,e,fz,h6,h7,h8,_⟩,_⟩:=hH.res _ (List.mem_of_getElem? hr)
     simp only [Value.slice.injEq]at h6
     refine⟨Rd.ofbytes (hH.rdbrow id hr),fun hn p hp=> ?_, ?_⟩
     ·rw [h6.1]at hp
      cases hp
      exact hB _ g hr (by simp [brow,zaQ,h6.1])
     ·show l2.length≤(ρ id).cap
      rw [h5,h6.2.2];exact h8
    ·cases h1
   ·cases h1
  ·exact⟨Rd.nil _ _,fun h=>absurd rfl h,zan _⟩
  ·obtain⟨_,r,hr,vs,rfl,hm⟩:=hM.2 id _ h1
   obtain⟨h3,_,h4⟩:=apw h2
   have h5:=hm.all (rdAll_kn h2)
   refine⟨?_,fun hn p hp=> ?_,by rw [h3];exact zap _⟩
   ·rw [←h4 ρ,←h5];exact hH.rdblk id hr
   ·cases hp
    exact hB id (by simp [Src.bor]) _ _ hr rfl
 |_=>
  obtain⟨r,h1,h2,h3⟩:=sok_ro hH hM (sok_f h (fun t l e=>by cases e)) hk
  exact⟨r,ro_any h1 (fun t l e=>by cases e),h2,h3⟩
theorem sok_own{ρ ρ2:Nat→Ad}{H:List Ob}{s:Src}{o:Ob}{id:Nat}(h:SOk true ρ H ρ2 s o)(ho:s.ow=some id):
  (s=.o' id true∧((∃e cs cs1,o=.bl e cs∧H[id]? =some (.bl e cs1)∧cs1.map (SC.v ρ)=cs.map (SC.v ρ2)∧(∀c∈cs1,c.kn=true)∧∀c∈cs,c.kn=true)∨(∃e b t l,o=.rw e b t l∧H[id]? =some (.rw e b t l))∨∃n l m,o=.br n l∧n=l.length∧H[id]? =some (.br m l)))∨
  ∃m e b t l cs,s=.k' id m true∧o=.rw e b t l∧H[id]? =some (.bl e cs):=by
 cases o with
 |bl e cs=>
  obtain⟨i,cs1,rfl,h1⟩:=h
  cases ho
  exact .inl ⟨rfl,.inl ⟨e,cs,cs1,rfl,h1⟩⟩
 |rw e b t l=>
  rcases h with⟨i,rfl,h1⟩|⟨rfl,_⟩|⟨i,m,cs,rfl,h1,_⟩
  ·cases ho;exact .inl ⟨rfl,.inr (.inl ⟨e,b,t,l,rfl,h1⟩)⟩
  ·cases ho
  ·cases ho;exact .inr ⟨m,e,b,t,l,cs,rfl,rfl,h1⟩
 |ro t l=>rcases h with⟨i,rfl,_⟩|⟨rfl,_⟩|⟨_,i,m,e,cs,rfl,_⟩<;>cases ho
 |br n l=>
  obtain⟨h1,i,m,rfl,h2⟩:=h
  cases ho
  exact .inl ⟨rfl,.inr (.inr ⟨n,l,m,rfl,h1,h2⟩)⟩
 |dd n=>rcases h with⟨_,⟨t,rfl⟩|⟨fl,rfl,_⟩⟩<;>cases ho
theorem eqv_ro{w w0:World}{S S0:List Nat}{ρ2 ρ3:Nat→Ad}{j id:Nat}{o o3:Ob}{r:Res}(h:Eqv ρ2 ρ3 o o3)(hk:ρ3 id=ρ2 j)(hn:∀(t:Ty) (l:List t.T),o≠.ro t l)(hr:RO w S ρ2 j o r):RO w0 S0 ρ3 id o3 r:=by
 cases o with
 |bl e cs=>
  obtain⟨cs2,rfl,h1,h2⟩:=h
  obtain⟨vs,rfl,h3,h4⟩:=hr
  have hl:cs.length=cs2.length:=by simpa using congrArg List.length h1
  refine⟨vs,by rw [hk],by rw [h3,hl],fun i c2 hi hkn=> ?_⟩
  have hlt:=(List.getElem?_eq_some_iff.1 hi).1
  have hc:cs[i]? =some (cs[i]'(by omega)):=List.getElem?_eq_getElem (by omega)
  rw [h4 i _ hc (by rw [h2 i _ c2 hc hi];exact hkn)]
  have h5:=congrArg (fun l=>l[i]?) h1
  simp only [List.getElem?_map,hc,hi,zaR]at h5
  exact h5
 |rw e b t l=>
  have h:o3=Ob.rw e b t l:=h
  subst h
  show r=_
  rw [hk];exact hr
 |ro t l=>exact absurd rfl (hn t l)
 |br n l=>
  have h:o3=Ob.br n l:=h
  subst h
  show r=_
  rw [hk];exact hr
 |dd n=>
  have h:o3=Ob.dd n:=h
  subst h
  trivial
theorem borS_mem{ss:List Src}{j id:Nat}{s:Src}(h:ss[j]? =some s)(hb:id∈s.bor):id∈borS ss:=by
 induction ss generalizing j with
 |nil=>simp at h
 |cons x ss ih=>
  show id∈x.bor++borS ss
  cases j with
  |zero=>
   have e:x=s:=by simpa using h
   subst e;exact zbc _ hb
  |succ j=>exact zaV _ (ih (by simpa using h))
def rOf(L:List Res):Option Nat→Res
 |some id=>(L[id]?).getD nores
 |none=>nores
theorem resV_rel{ρ ρ2:Nat→Ad}{l l2:List SA}{v:Value}(h:l.map (SA.v ρ)=l2.map (SA.v ρ2))(hv:(resV l).v ρ=some v):(resV l2).v ρ2=some v:=by
 match l,l2,h with
 |[],[],_=>exact hv
 |[x],[y],h=>
  have h:x.v ρ=y.v ρ2:=by simpa using h
  show y.sv.v ρ2=some v
  rw [SA.sv_v,←h,←SA.sv_v];exact hv
 |x::y::l,u::z::l2,h=>
  show some (Value.tuple ((u::z::l2).map (SA.v ρ2)).toArray)=some v
  rw [←h];exact hv
 |[],_::_,h=>simp at h
 |_::_,[],h=>simp at h
 |[_],_::_::_,h=>simp at h
 |_::_::_,[_],h=>simp at h
theorem resV_ok{l:List SA}{n:Nat}(h:∀v∈l,v.ok n):(resV l).ok n:=by
 match l,h with
 |[],_=>exact fun x hx=>by cases hx
 |[x],h=>exact SA.sv_ok (h x zah)
 |x::y::l,h=>exact fun z hz=>h z hz
section
variable {C : Cx} {md : Md} {w0 w : World} {S0 : List Nat} {ρ : Nat → Ad} {S : St} {F : Nat → Value} {GS : Glo}
theorem gw_now{L:List Res}{S1:List Nat}(hG:Gw GS w0 S0)(hH:Hp w0 S0 L w)(hX:∀b∈S1,w0.heap.size≤b∨b∈S0):Gw GS w S1:=GS.st hH hG hX
theorem call_ok(hS:Rel C w0 S0 ρ S F w)(hG:Gw GS w0 S0){c:Con}{k:Nat}(hF:FOk C.P GS k c){vs:List SV}{a:(tupT c.a).T}{ss:List Src}{y:(resT c.r).T}(h:rdA S.H c.a vs=some (a,ss))(hok:callOk c S a ss=true)(hy:(c.f a).ok y):
  ∃us,vs.map (SV.v ρ)=us.map some∧CR C.P k us w fun v w2=>∃ρ3,∀d:Option Nat,Rel C w0 S0 ρ3 (callS c S d a ss y) (match d with
   |some d=>upd F d v
   |none=>F) w2∧Nx S ρ (callS c S d a ss y) ρ3:=by
 obtain⟨L,hH,hM⟩:=hS.mem
 have hln:=rel_lns hS
 have hbr:=rel_brk hS
 unfold callOk at hok
 have hok:=aeo hok
 have hnod:=nodN_iff.1 hok.1
 have hok:=aeo hok.2
 have hdis:=disN_iff.1 hok.1
 have hok:=aeo hok.2
 have hrk:=hok.1
 have hoks:=hok.2
 obtain⟨obs,h1,h2,h3,h4,h5⟩:=rdA_ok hbr c.a vs a ss [] h
 rw [zaB]at h1
 let ρc:Nat→Ad:=fun j=>match ss[j]? with
  |some s=>s.ad ρ
  |none=>⟨none,none,0,false,0⟩
 have hρc:∀(j:Nat) (s:Src),ss[j]? =some s→ρc j=s.ad ρ:=fun j s hj=>by simp only [ρc,hj]
 obtain⟨⟨us,h6,h7⟩,h8⟩:=h5 ρ ρc (fun j s hj=>by
  rw [zal,zbb];exact hρc j s hj)
 refine⟨us,h6, ?_⟩
 have hlenL:=hM.1
 let L1:List Res:=ss.map fun s=>rOf L s.ow
 let Lr:List Res:=(zbq S.H.length).map fun id=>bif ask id (ownS ss)then nores else(L[id]?).getD nores
 have hL1:L1.length=ss.length:=by simp [L1]
 have hLr:Lr.length=S.H.length:=by simp [Lr]
 have own1:∀(j:Nat) (r:Res) (b:Nat),L1[j]? =some r→r.own=some b→∃s id ri,ss[j]? =some s∧s.ow=some id∧L[id]? =some ri∧ri.own=some b∧r=ri:=by
  intro j r b hj hb
  obtain⟨s,h9,h10⟩:=map_some hj
  subst h10
  cases ho:s.ow with
  |none=>rw [ho]at hb;cases hb
  |some id=>
   cases hl:L[id]? with
   |none=>
    have e:rOf L s.ow=nores:=by rw [ho];show(L[id]?).getD nores=_;rw [hl];rfl
    rw [e]at hb;cases hb
   |some ri=>
    have e:rOf L (some id)=ri:=by show(L[id]?).getD nores=_;rw [hl];rfl
    rw [ho]at hb
    exact⟨s,id,ri,h9,ho,hl,by rw [←e];exact hb,e⟩
 have hp1:Hp w0 S0 (L1++Lr) w:=by
  refine Go.Oe.Hp.pick (ss.map Src.ow++(zbq S.H.length).map fun id=>bif ask id (ownS ss)then none else some id) hH (fun j r hj=> ?_) (fun j k i hj hk=> ?_)
  ·by_cases hlt:j<ss.length
   ·rw [List.getElem?_append_left (by omega)]at hj
    refine⟨?_,fun b hb=> ?_⟩
    ·obtain⟨s,h9,h10⟩:=map_some hj
     subst h10
     cases ho:s.ow with
     |none=>trivial
     |some id=>
      show Res.holds ((L[id]?).getD nores) w
      cases hl:L[id]? with
      |none=>trivial
      |some ri=>exact(hH.res _ (List.mem_of_getElem? hl)).1
    ·obtain⟨s,id,ri,h9,h10,h11,h12,rfl⟩:=own1 j r b hj hb
     refine⟨id,r, ?_,h11,h12⟩
     rw [List.getElem?_append_left (by simpa using hlt),List.getElem?_map,h9]
     exact congrArg some h10
   ·rw [List.getElem?_append_right (by omega),hL1]at hj
    have hj:((zbq S.H.length).map _)[j-ss.length]? =some r:=hj
    rw [List.getElem?_map]at hj
    by_cases hlt2:j-ss.length<S.H.length
    ·rw [List.getElem?_range hlt2]at hj
     have hj:(bif ask (j-ss.length) (ownS ss)then nores else(L[j-ss.length]?).getD nores)=r:=Option.some.inj hj
     have hlL:L[j-ss.length]? =some (L[j-ss.length]'(by omega)):=List.getElem?_eq_getElem (by omega)
     cases hm:ask (j-ss.length) (ownS ss)with
     |true=>rw [hm]at hj;rw [←hj];exact⟨trivial,fun b hb=>by cases hb⟩
     |false=>
      rw [hm,hlL]at hj
      have hj:L[j-ss.length]=r:=hj
      rw [←hj]
      refine⟨(hH.res _ (List.mem_of_getElem? hlL)).1,fun b hb=>⟨j-ss.length,_, ?_,hlL,hb⟩⟩
      rw [List.getElem?_append_right (by simp;omega),zaL,List.getElem?_map,List.getElem?_range hlt2]
      simp only [zaR,hm,cond_false]
    ·rw [List.getElem?_eq_none (by simpa using Nat.le_of_not_lt hlt2)]at hj;cases hj
  ·have key:∀j,(ss.map Src.ow++(zbq S.H.length).map fun id=>bif ask id (ownS ss)then none else some id)[j]? =some (some i)→(j<ss.length∧∃s,ss[j]? =some s∧s.ow=some i)∨(ss.length≤j∧j-ss.length=i∧i∉ownS ss):=by
    intro j hj
    by_cases hlt:j<ss.length
    ·rw [List.getElem?_append_left (by simpa using hlt),List.getElem?_map]at hj
     cases hs:ss[j]? with
     |none=>rw [hs]at hj;cases hj
     |some s=>rw [hs]at hj;exact .inl ⟨hlt,s,rfl,Option.some.inj hj⟩
    ·rw [List.getElem?_append_right (by simpa using Nat.le_of_not_lt hlt),zaL,List.getElem?_map]at hj
     by_cases hlt2:j-ss.length<S.H.length
     ·rw [List.getElem?_range hlt2]at hj
      have hj:(bif ask (j-ss.length) (ownS ss)then none else some (j-ss.length))=some i:=Option.some.inj hj
      cases hm:ask (j-ss.length) (ownS ss)with
      |true=>rw [hm]at hj;cases hj
      |false=>
       rw [hm]at hj
       have hj:j-ss.length=i:=Option.some.inj hj
       refine .inr ⟨by omega,hj,fun hc=> ?_⟩
       rw [←hj]at hc
       rw [agr.2 hc]at hm;cases hm
     ·rw [List.getElem?_eq_none (by simpa using Nat.le_of_not_lt hlt2)]at hj;cases hj
   rcases key j hj with⟨h9,s,h10,h11⟩|⟨h9,h10,h11⟩<;>rcases key k hk with⟨h12,s2,h13,h14⟩|⟨h12,h13,h14⟩
   ·exact ow_inj hnod h10 h11 h13 h14
   ·exact absurd (ow_mem h10 h11) h14
   ·exact absurd (ow_mem h13 h14) h11
   ·omega
 have hX:∀b∈aiv L1,w0.heap.size≤b∨b∈S0:=by
  intro b hb
  obtain⟨r,hr,e⟩:=mem_owns hb
  exact((hp1.res r (List.mem_append.2 (.inl hr))).2 b e).2
 have hB:∀id∈borS ss,∀(r:Res) (b:Nat),L[id]? =some r→r.own=some b→b∉aiv L1:=by
  intro id hid r b hr hb hm
  obtain⟨r2,hr2,e⟩:=mem_owns hm
  obtain⟨j,hj⟩:=List.mem_iff_getElem?.1 hr2
  obtain⟨s,id2,ri,h9,h10,h11,h12,_⟩:=own1 j r2 b hj e
  have:=own_uniq hH hr h11 hb h12
  subst this
  exact hdis id hid (ow_mem h9 h10)
 have hand:=hp1.hand
 have hAo:argH c a=obs:=h1
 have hp:∀j,j<obs.length→∃r,(∀o,obs[j]? =some o→RO w (aiv L1) ρc j o r)∧r.holds w∧∀b,r.own=some b→∃ri,L1[j]? =some ri∧ri.own=some b:=by
  intro j hj
  have ho:=List.getElem?_eq_getElem hj
  have hs:ss[j]? =some (ss[j]'(by omega)):=List.getElem?_eq_getElem (by omega)
  obtain⟨r,h9,h10,h11⟩:=sokC_ro (S1:=aiv L1) hH hM hX (fun id hid=>hB id (borS_mem hs hid)) (h8 j _ _ hs ho) (hρc j _ hs)
  refine⟨r,fun o h12=>by rw [ho]at h12;cases h12;exact h9,h10,fun b hb=> ?_⟩
  obtain⟨i,ri,h12,h13,h14⟩:=h11 b hb
  refine⟨ri, ?_,h14⟩
  show(ss.map _)[j]? =_
  rw [List.getElem?_map,hs,zaR,h12]
  show some ((L[i]?).getD nores)=_
  rw [h13];rfl
 obtain⟨Lc,hlc,hrc⟩:=list_of obs.length hp
 have hpc:Hp w (aiv L1) Lc w:=by
  refine Go.Oe.Hp.pick ((zbq obs.length).map some) hand (fun j r hj=> ?_) (fun j k i hj hk=> ?_)
  ·obtain⟨_,h9,h10⟩:=hrc j r hj
   refine⟨h9,fun b hb=> ?_⟩
   obtain⟨ri,h11,h12⟩:=h10 b hb
   have hlt:=(List.getElem?_eq_some_iff.1 hj).1
   exact⟨j,ri,by rw [List.getElem?_map,List.getElem?_range (by omega)];rfl,h11,h12⟩
  ·have key:∀j,((zbq obs.length).map some)[j]? =some (some i)→j=i:=by
    intro j hj
    rw [List.getElem?_map]at hj
    by_cases hlt:j<obs.length
    ·rw [List.getElem?_range hlt]at hj
     simpa using hj
    ·rw [List.getElem?_eq_none (by simpa using Nat.le_of_not_lt hlt)]at hj;cases hj
   rw [key j hj,key k hk]
 have hmc:Mt w (aiv L1) ρc (argH c a) Lc:=by
  rw [hAo]
  refine⟨hlc,fun j o ho=> ?_⟩
  have hlt:=(List.getElem?_eq_some_iff.1 ho).1
  have hs:ss[j]? =some (ss[j]'(by omega)):=List.getElem?_eq_getElem (by omega)
  have hl:Lc[j]? =some (Lc[j]'(by omega)):=List.getElem?_eq_getElem (by omega)
  refine⟨?_,_,hl,(hrc j _ hl).1 o ho⟩
  rw [hρc j _ hs]
  exact sokC_len hln hbr (h8 j _ _ hs ho)
 refine(hF w (aiv L1) ρc Lc us a y (gw_now hG hH hX) hpc hmc h7 hy).mono fun v w2=> ?_
 rintro⟨ρ2,L2,hup,hp2,hm2,hv⟩
 have hcall:=hp1.callK hp2
 have hncs:ss.length=obs.length:=h2.symm
 let ρ3:Nat→Ad:=fun id=>if id<S.H.length then ρ id else ρ2 (obs.length+(id-S.H.length))
 have hup3:Up S.H.length ρ ρ3:=fun id hi=>by simp only [ρ3,hi,if_true]
 have hd3:∀i,ρ3 (S.H.length+i)=ρ2 (obs.length+i):=fun i=>by
  have e1:¬S.H.length+i<S.H.length:=by omega
  have e2:S.H.length+i-S.H.length=i:=by omega
  simp only [ρ3,e1,if_false,e2]
 have hidn:∀(j:Nat) (s:Src) (i:Nat),ss[j]? =some s→s.ow=some i→i<S.H.length:=by
  intro j s i hj hi
  have hjl:=(List.getElem?_eq_some_iff.1 hj).1
  have hso:=h8 j s _ hj (List.getElem?_eq_getElem (by omega))
  rcases sok_own hso hi with⟨_,⟨e,cs,cs1,_,h9,_⟩|⟨e,b,t,l,_,h9⟩|⟨n,l,m,_,_,h9⟩⟩|⟨m,e,b,t,l,cs,_,_,h9⟩<;>exact(List.getElem?_eq_some_iff.1 h9).1
 have hdo:∀(j id:Nat),ss[j]? =some (.o' id true)→ρ3 id=ρ2 j:=by
  intro j id hj
  have hjl:=(List.getElem?_eq_some_iff.1 hj).1
  have hi:=hidn j _ id hj rfl
  rw [hup3 id hi,hup j (by rw [hAo];omega),hρc j _ hj];rfl
 let EC:=eatJ (Rk.ids c.r) (argH c a) 0
 let EK:=aub (Rk.ids c.r) (apn [] c.a a).2 0 ss
 have hEK:EK=aub (Rk.ids c.r) obs 0 ss:=by show aub _ (argH c a) 0 ss=_;rw [hAo]
 have hEC:EC=eatJ (Rk.ids c.r) obs 0:=by show eatJ _ (argH c a) 0=_;rw [hAo]
 have eatEq:∀(j id:Nat) (s:Src),ss[j]? =some s→s.ow=some id→(id∈EK↔j∈EC):=by
  intro j id s hj hs
  have hjl:=(List.getElem?_eq_some_iff.1 hj).1
  rw [hEK,hEC,eaten_mem,eatJ_mem]
  constructor
  ·rintro⟨j2,o,s2,_,h9,h10,h11,h12,h13⟩
   rw [Nat.sub_zero]at h9 h10
   have hs2:s2.ow=some id:=by
    rw [ow_own]at h13
    cases ho:s2.ow with
    |none=>rw [ho]at h13;simp at h13
    |some i=>rw [ho]at h13;simp at h13;rw [h13]
   have:=ow_inj hnod hj hs h10 hs2
   subst this
   exact⟨o,zan _,by rw [Nat.sub_zero];exact h9,h11,h12⟩
  ·rintro⟨o,_,h9,h10,h11⟩
   rw [Nat.sub_zero]at h9
   exact⟨j,o,s,zan _,by rw [Nat.sub_zero];exact h9,by rw [Nat.sub_zero];exact hj,h10,h11,by rw [ow_own,hs];simp⟩
 let rg:List Rg:=callM c S a ss
 have covE:∀{id j:Nat},cov id j (amh S.H EK)=true→cov id j rg=true:=fun h=>afv.2 (.inl h)
 have eatSome:∀id,id∈EK→(ank S.H[id]? =true∨∃e cs,S.H[id]? =some (.bl e cs))∧id∈ownS ss:=by
  intro id hid
  rw [hEK,eaten_mem]at hid
  obtain⟨j,o,s,_,h9,h10,h11,h12,h13⟩:=hid
  rw [Nat.sub_zero]at h9 h10
  have hs2:s.ow=some id:=by
   rw [ow_own]at h13
   cases ho:s.ow with
   |none=>rw [ho]at h13;simp at h13
   |some i=>rw [ho]at h13;simp at h13;rw [h13]
  refine⟨?_,ow_mem h10 hs2⟩
  rcases sok_own (h8 j s o h10 h9) hs2 with⟨_,⟨e,cs,cs1,rfl,_⟩|⟨e,b,t,l,_,h14⟩|⟨n,l,m,_,_,h14⟩⟩|⟨m,e,b,t,l,cs,_,_,h14⟩
  ·cases h11
  ·left;rw [h14];rfl
  ·left;rw [h14];rfl
  ·exact .inr ⟨_,_,h14⟩
 have h0:PR S.H.length obs.length S.H ρ ρ2 ρ3 ss rg (kill (argH c a) EC) (kill S.H EK) [] [] 0:=by
  refine⟨by rw [atu,hAo];rfl,by rw [atu];rfl,fun i o hi=>by omega,fun j id o hj ho=> ?_,fun j id m hj=> ?_,fun id hi hn=> ?_,fun id e cs ho cc hc=> ?_,fun id o ho=> ?_,rfl,fun v hv=>by cases hv⟩
  ·have hjl:=(List.getElem?_eq_some_iff.1 hj).1
   have hi:=hidn j _ id hj rfl
   have hoj:obs[j]? =some (obs[j]'(by omega)):=List.getElem?_eq_getElem (by omega)
   have hso:=h8 j _ _ hj hoj
   have hid:=List.getElem?_eq_getElem hi
   have hlen:S.H[id].len=(obs[j]'(by omega)).len:=by
    rw [hln id _ hid,sokC_len hln hbr hso];rfl
   rw [alv,hAo,hoj]at ho
   rw [alv,hid]
   by_cases hE:j∈EC
   ·rw [if_pos hE]at ho
    rw [if_pos ((eatEq j id _ hj rfl).2 hE)]
    cases ho
    refine⟨⟨_,rfl, ?_⟩,fun t l e=>by cases e⟩
    show Ob.dd _=Ob.dd _
    rw [hlen]
   ·rw [if_neg hE]at ho
    rw [if_neg (fun hh=>hE ((eatEq j id _ hj rfl).1 hh))]
    have ho:=Option.some.inj ho
    rw [ho]at hso hoj
    rcases sok_own hso rfl with⟨_,⟨e,cs,cs1,rfl,h9,h10,h11,h12⟩|⟨e,b,t,l,rfl,h9⟩|⟨n,l,m,rfl,h9,h10⟩⟩|⟨m,e,b,t,l,cs,he,_⟩
    ·refine⟨⟨_,rfl,cs1,by rw [hid]at h9;exact Option.some.inj h9, ?_,fun jj c1 c2 h13 h14=>by rw [h12 c1 (List.mem_of_getElem? h13),h11 c2 (List.mem_of_getElem? h14)]⟩,fun t l e=>by cases e⟩
     rw [scs_up hup3 (fun x hx=>hS.ho id e cs1 h9 x hx),h10]
     refine scs_up hup fun x hx=> ?_
     have:=h4 j e cs hoj x hx
     rw [hAo]
     simpa using this
    ·refine⟨⟨_,rfl, ?_⟩,fun t l e=>by cases e⟩
     rw [hid]at h9;exact Option.some.inj h9
    ·refine⟨⟨_,rfl, ?_⟩,fun t l e=>by cases e⟩
     have h11:=hbr id m l h10
     rw [hid]at h10
     show S.H[id]=Ob.br n l
     rw [Option.some.inj h10,h9,h11]
    ·cases he
  ·have hjl:=(List.getElem?_eq_some_iff.1 hj).1
   have hi:=hidn j _ id hj rfl
   have hoj:obs[j]? =some (obs[j]'(by omega)):=List.getElem?_eq_getElem (by omega)
   have hso:=h8 j _ _ hj hoj
   obtain⟨hrow,e0,cs0,hbl⟩:ank (some (obs[j]'(by omega)))=true∧∃e cs,S.H[id]? =some (.bl e cs):=by
    rcases sok_own hso rfl with⟨he,_⟩|⟨m,e,b,t,l,cs,_,he,h9⟩
    ·cases he
    ·rw [he];exact⟨rfl,e,cs,h9⟩
   have hout:j∉Rk.ids c.r:=by
    intro hm
    have key:∀r:List Rk,rkOk S.H ss r=true→j∈Rk.ids r→False:=by
     intro r
     induction r with
     |nil=>intro _ h;cases h
     |cons q r ih=>
      intro hq hj2
      have hq:=aeo (show(bif _ then rkOk S.H ss r else false)=true from hq)
      cases q with
      |r' x=>exact ih hq.2 hj2
      |o' i e x=>
       rcases List.mem_cons.1 (show j∈i::Rk.ids r from hj2)with rfl|hj2
       ·have h9:=(aeo hq.1).2
        rw [aap,hj]at h9;cases h9
       ·exact ih hq.2 hj2
      |w' i x=>
       rcases List.mem_cons.1 (show j∈i::Rk.ids r from hj2)with rfl|hj2
       ·have h9:=hq.1
        simp only [aap,hj]at h9
        cases h9
       ·exact ih hq.2 hj2
    exact key c.r hrk hm
   have hE:j∈EC:=by
    rw [hEC,eatJ_mem]
    exact⟨_,zan _,by rw [Nat.sub_zero];exact hoj,hrow,hout⟩
   rw [alv,if_pos ((eatEq j id _ hj rfl).2 hE),hbl];rfl
  ·rw [alv,if_neg (fun hE=>hn (eatSome id hE).2)]
  ·rw [alv]at ho
   split at ho
   ·cases hg:S.H[id]? with
    |none=>rw [hg]at ho;cases ho
    |some o=>rw [hg]at ho;cases ho
   ·exact hS.ho id e cs ho cc hc
  ·rw [alv]
   by_cases hE:id∈EK
   ·rw [if_pos hE,ho]
    have:=(eatSome id hE).1
    cases o with
    |bl e cs=>exact .inl fun j hj=>covE (wholeO_cov ho hE hj)
    |rw e b t l=>exact .inl (covE (api hE))
    |br m l=>exact .inl (covE (api hE))
    |ro t l=>rcases this with h9|⟨_,_,h9⟩<;>rw [ho]at h9<;>cases h9
    |dd n=>rcases this with h9|⟨_,_,h9⟩<;>rw [ho]at h9<;>cases h9
   ·rw [if_neg hE,ho]
    cases o with
    |bl e cs=>exact .inr ⟨cs,rfl,rfl,fun j cc hj=>.inr ⟨cc,hj,fun hk=>⟨hk,SC.up hup3 (hS.ho id e cs ho cc (List.mem_of_getElem? hj))⟩⟩⟩
    |rw e b t l=>exact .inr rfl
    |br m l=>exact .inr rfl
    |ro t l=>rfl
    |dd n=>rfl
 obtain⟨k2,hP⟩:=PR.steps hnod (by omega) hidn rfl hncs hd3 hdo c.r y _ _ [] [] 0 h0 hrk (fun id hid q hq j hj=>by
  subst hq
  refine afv.2 (.inr ?_)
  have key:∀l:List Nat,id∈l→cov id j (cellsL S.H l)=true:=by
   intro l
   induction l with
   |nil=>intro h;cases h
   |cons x l ih=>
    intro h
    rcases List.mem_cons.1 h with rfl|h
    ·exact adm.2 ⟨_,zah,rfl,zan _,hj⟩
    ·obtain⟨q,h9,h10⟩:=adm.1 (ih h)
     exact adm.2 ⟨q,zaf _ h9,h10⟩
  exact key _ hid)
 let Hk:=(putR (ixS ss) ([],kill S.H EK) c.r y).2
 let Hc:=(retS c a y).2
 have hHc:Hc.length=obs.length+k2:=hP.ec
 have hHk:Hk.length=S.H.length+k2:=hP.ek
 have hL2:L2.length=obs.length+k2:=by rw [hm2.1];exact hHc
 let jOf:Nat→Option Nat:=fun id=>(zbq ss.length).find? fun j=>decide ((ss[j]?).bind Src.ow=some id)
 have hjOf:∀id j,jOf id=some j→∃s,ss[j]? =some s∧s.ow=some id:=by
  intro id j hj
  have:=List.find?_some hj
  have h9:(ss[j]?).bind Src.ow=some id:=of_decide_eq_true this
  cases hs:ss[j]? with
  |none=>rw [hs]at h9;cases h9
  |some s=>rw [hs]at h9;exact⟨s,rfl,h9⟩
 have hjNo:∀id,jOf id=none→id∉ownS ss:=by
  intro id hj hm
  have key:∀l:List Src,id∈ownS l→∃(j:Nat) (s:Src),l[j]? =some s∧s.ow=some id:=by
   intro l
   induction l with
   |nil=>intro h;cases h
   |cons x l ih=>
    intro h
    rcases List.mem_append.1 (show id∈x.own++ownS l from h)with h|h
    ·refine⟨0,x,rfl, ?_⟩
     rw [ow_own]at h
     cases ho:x.ow with
     |none=>rw [ho]at h;simp at h
     |some i=>rw [ho]at h;simp at h;rw [h]
    ·obtain⟨j,s,h1,h2⟩:=ih h
     exact⟨j+1,s,by simpa using h1,h2⟩
  obtain⟨j,s,h9,h10⟩:=key ss hm
  have hlt:=(List.getElem?_eq_some_iff.1 h9).1
  have:=List.find?_eq_none.1 hj j (by simpa using hlt)
  rw [h9]at this
  simp [h10]at this
 let src:Nat→Option Nat:=fun id=>if id<S.H.length then(match jOf id with
  |some j=>(match Hk[id]? with
   |some o=>bif isDd o then none else some j
   |none=>none)
  |none=>some (L2.length+id))else some (obs.length+(id-S.H.length))
 have hpk:∀id,id<Hk.length→∃r,(∀o,Hk[id]? =some o→o.len=(ρ3 id).ln∧RO w0 S0 ρ3 id o r)∧r.holds w2∧∀b,r.own=some b→∃i ri,src id=some i∧(L2++Lr)[i]? =some ri∧ri.own=some b:=by
  intro id hid
  have ho:=List.getElem?_eq_getElem hid
  by_cases hlt:id<S.H.length
  ·cases hj:jOf id with
   |some j=>
    obtain⟨s,h9,h10⟩:=hjOf id j hj
    have hjl:=(List.getElem?_eq_some_iff.1 h9).1
    cases hd:isDd Hk[id]with
    |true=>
     refine⟨nores,fun o h11=>⟨?_, ?_⟩,trivial,fun b hb=>by cases hb⟩
     ·rw [ho]at h11
      cases h11
      rcases own_o h10 with rfl|⟨m,rfl⟩
      ·have hcj:Hc[j]? =some (Hc[j]'(by omega)):=List.getElem?_eq_getElem (by omega)
       obtain⟨⟨o3,h12,h13⟩,_⟩:=hP.ow j id _ h9 hcj
       have h12:Hk[id]? =some o3:=h12
       rw [ho]at h12
       have h12:=Option.some.inj h12
       rw [h12,h13.len,hm2.lns j _ hcj,hdo j id h9]
      ·have h12:Hk[id]? =some (.dd 0):=hP.ok j id m h9
       have hoj:obs[j]? =some (obs[j]'(by omega)):=List.getElem?_eq_getElem (by omega)
       rcases sok_own (h8 j _ _ h9 hoj) rfl with⟨he,_⟩|⟨m,e,b,t,l,cs,_,_,h13⟩
       ·cases he
       ·rw [ho]at h12
        rw [Option.some.inj h12,hup3 id hlt]
        have h14:=hln id _ h13
        exact h14
     ·rw [ho]at h11
      cases h11
      cases hx:Hk[id]<;>rw [hx]at hd<;>first|trivial|cases hd
    |false=>
     rcases own_o h10 with rfl|⟨m,rfl⟩
     ·have hcj:Hc[j]? =some (Hc[j]'(by omega)):=List.getElem?_eq_getElem (by omega)
      obtain⟨⟨o3,h12,h13⟩,hnr⟩:=hP.ow j id _ h9 hcj
      have h12:Hk[id]? =some o3:=h12
      obtain⟨h14,r,h15,h16⟩:=hm2.2 j _ hcj
      have he:Hk[id]=o3:=by rw [ho]at h12;exact Option.some.inj h12
      refine⟨r,fun o h17=> ?_, ?_,fun b hb=>⟨j,r, ?_, ?_,hb⟩⟩
      ·rw [h12]at h17
       cases h17
       exact⟨by rw [h13.len,h14,hdo j id h9],eqv_ro h13 (hdo j id h9) hnr h16⟩
      ·exact(hp2.res r (List.mem_of_getElem? h15)).1
      ·simp only [src,hlt,if_true,hj,ho,hd,cond_false]
      ·rw [List.getElem?_append_left (List.getElem?_eq_some_iff.1 h15).1];exact h15
     ·have h11:Hk[id]? =some (.dd 0):=hP.ok j id m h9
      rw [ho]at h11
      rw [Option.some.inj h11]at hd;cases hd
   |none=>
    have hno:=hjNo id hj
    have hsame:Hk[id]? =S.H[id]? :=hP.ot id hlt hno
    obtain⟨h14,r,h15,h16⟩:=hM.2 id _ (List.getElem?_eq_getElem hlt)
    have hlr:Lr[id]? =some r:=by
     show((zbq S.H.length).map _)[id]? =_
     rw [List.getElem?_map,List.getElem?_range hlt]
     have hm:ask id (ownS ss)=false:=by
      cases hm:ask id (ownS ss)with
      |false=>rfl
      |true=>exact absurd (agr.1 hm) hno
     simp only [zaR,hm,cond_false,h15,Option.getD_some]
    have hlr2:(L2++Lr)[L2.length+id]? =some r:=by
     rw [List.getElem?_append_right (by omega),Nat.add_sub_cancel_left];exact hlr
    refine⟨r,fun o h17=> ?_,(hcall.res r (List.mem_of_getElem? hlr2)).1,fun b hb=>⟨L2.length+id,r, ?_,hlr2,hb⟩⟩
    ·rw [hsame,List.getElem?_eq_getElem hlt]at h17
     cases h17
     exact⟨by rw [hup3 id hlt];exact h14,h16.up hup3 hlt fun e cs he=>hS.ho id e cs (by rw [List.getElem?_eq_getElem hlt,he])⟩
    ·simp only [src,hlt,if_true,hj]
  ·have hi:id-S.H.length<k2:=by omega
   have hcj:Hc[obs.length+(id-S.H.length)]? =some (Hc[obs.length+(id-S.H.length)]'(by omega)):=List.getElem?_eq_getElem (by omega)
   obtain⟨⟨o3,h12,h13⟩,hnr⟩:=hP.nw (id-S.H.length) _ hi hcj
   have h12:Hk[S.H.length+(id-S.H.length)]? =some o3:=h12
   rw [show S.H.length+(id-S.H.length)=id by omega]at h12
   have hρ:ρ3 id=ρ2 (obs.length+(id-S.H.length)):=by simp only [ρ3,hlt,if_false]
   obtain⟨h14,r,h15,h16⟩:=hm2.2 _ _ hcj
   refine⟨r,fun o h17=> ?_,(hp2.res r (List.mem_of_getElem? h15)).1,fun b hb=>⟨obs.length+(id-S.H.length),r, ?_, ?_,hb⟩⟩
   ·rw [h12]at h17
    cases h17
    exact⟨by rw [h13.len,h14,hρ],eqv_ro h13 hρ hnr h16⟩
   ·simp only [src,hlt,if_false]
   ·rw [List.getElem?_append_left (List.getElem?_eq_some_iff.1 h15).1];exact h15
 obtain⟨L3,hl3,hr3⟩:=list_of Hk.length hpk
 have hH3:Hp w0 S0 L3 w2:=by
  refine Go.Oe.Hp.pick ((zbq Hk.length).map src) hcall (fun id r hj=> ?_) (fun x z i hx hz=> ?_)
  ·obtain⟨_,h9,h10⟩:=hr3 id r hj
   refine⟨h9,fun b hb=> ?_⟩
   obtain⟨i,ri,h11,h12⟩:=h10 b hb
   have hlt:=(List.getElem?_eq_some_iff.1 hj).1
   exact⟨i,ri,by rw [List.getElem?_map,List.getElem?_range (by omega)];exact congrArg some h11,h12⟩
  ·have key:∀x,((zbq Hk.length).map src)[x]? =some (some i)→x<Hk.length∧src x=some i:=by
    intro x hx
    obtain⟨q,h9,h10⟩:=map_some hx
    have hlt:=(List.getElem?_eq_some_iff.1 h9).1
    rw [List.length_range]at hlt
    rw [List.getElem?_range hlt]at h9
    have e:=Option.some.inj h9
    subst e
    exact⟨hlt,h10⟩
   have cl:∀x,x<Hk.length→src x=some i→(∃s:Src,i<ss.length∧ss[i]? =some s∧s.ow=some x)∨i=L2.length+x∨(¬x<S.H.length∧i=obs.length+(x-S.H.length)):=by
    intro x hx hs
    by_cases hlt:x<S.H.length
    ·simp only [src,hlt,if_true]at hs
     cases hj:jOf x with
     |none=>rw [hj]at hs;exact .inr (.inl (Option.some.inj hs).symm)
     |some j=>
      rw [hj]at hs
      obtain⟨s,h9,h10⟩:=hjOf x j hj
      have hjl:=(List.getElem?_eq_some_iff.1 h9).1
      rw [List.getElem?_eq_getElem hx]at hs
      simp only at hs
      cases hd:isDd Hk[x]with
      |true=>rw [hd]at hs;cases hs
      |false=>
       rw [hd]at hs
       have e:j=i:=Option.some.inj hs
       subst e
       exact .inl ⟨s,hjl,h9,h10⟩
    ·simp only [src,hlt,if_false]at hs
     exact .inr (.inr ⟨hlt,(Option.some.inj hs).symm⟩)
   obtain⟨hx1,hx2⟩:=key x hx
   obtain⟨hz1,hz2⟩:=key z hz
   rcases cl x hx1 hx2 with⟨s,h9,h10,h11⟩|h9|⟨h9,h10⟩<;>rcases cl z hz1 hz2 with⟨s2,h12,h13,h14⟩|h12|⟨h12,h13⟩
   ·rw [h10]at h13
    cases h13
    rw [h11]at h14
    exact Option.some.inj h14
   all_goals omega
 have hM3:Mt w0 S0 ρ3 Hk L3:=by
  refine⟨hl3,fun id o ho=> ?_⟩
  have hlt:=(List.getElem?_eq_some_iff.1 ho).1
  have hl:L3[id]? =some (L3[id]'(by omega)):=List.getElem?_eq_getElem (by omega)
  have:=(hr3 id _ hl).1 o ho
  exact⟨this.1,_,hl,this.2⟩
 let B:St:=⟨S.F,Hk,S.nb,S.al,rg++S.m⟩
 have hBR:Rel C w0 S0 ρ3 B F w2:=by
  refine⟨fun g id hg=> ?_,fun t u hu=> ?_,fun t=> ?_,fun id e cs ho c hc=> ?_,⟨L3,hH3,hM3⟩⟩
  ·obtain⟨h9,h10⟩:=hS.gl g id hg
   exact⟨by show id<Hk.length;omega,by rw [hup3 id h9];exact h10⟩
  ·have hu:(S.at t).v ρ3=some u:=hu
   rw [SV.up hup3 (hS.fo t)]at hu
   exact hS.fr t u hu
  ·exact SV.ok_mono (hS.fo t) (by show S.H.length≤Hk.length;omega)
  ·show c.ok Hk.length
   rw [hHk]
   exact hP.ho id e cs ho c hc
 have hBN:Nx S ρ B ρ3:=by
  have hle:∀nb al,(∀id j,id<nb→cov id j rg=true→cov id j al=true)→Le nb al ρ S.H ρ3 B.H:=fun nb al hal=>
   ⟨by show S.H.length≤Hk.length;omega,hup3,fun id o hi ho=>(hP.kp id o ho).mono fun j hc=>hal id j hi hc⟩
  exact⟨⟨rfl,rfl,hle _ _ fun id j hi hc=>oks_cov hoks hi hc⟩,hle _ _ fun id j _ hc=>afv.2 (.inl hc),fun id j hc=>afv.2 (.inr hc)⟩
 refine⟨ρ3,fun d=> ?_⟩
 have hcs:callS c S d a ss y=B.setO d (resV (putR (ixS ss) ([],kill S.H EK) c.r y).1):=rfl
 rw [hcs]
 cases d with
 |none=>exact⟨hBR,hBN⟩
 |some d=>
  refine⟨ato hBR (resV_rel hP.vl hv) (resV_ok fun v hv=> ?_),⟨⟨hBN.nb,hBN.al,hBN.le⟩,hBN.lg,hBN.mm⟩⟩
  show v.ok Hk.length
  rw [hHk];exact hP.vo v hv
end
open Go.Wk
open Go.Ce (Tr)
open List renaming cons_append → zaY, map_append → zbf, map_cons → zaG, mem_cons_of_mem → zaf, mem_cons_self → zah
open Nat renaming blt → zaW, succ → zaA, zero_le → zan
structure Env (C:Cx) (md:Md) (w0:World) (S0:List Nat) (GS:Glo):Prop where
 e:EOk C
 n:C.nn=md.n
 g:Gw GS w0 S0
 x:∀k,∀c∈C.X k,Enters C.P k∧FOk C.P GS k c
inductive Grd (C:Cx) (ops:List Oper) (S:St) (o:Oper):Bool→Prop
 |none (h:o.guard=none):Grd C ops S o true
 |yes (q:Nat×Bool) (dg:Nat) (h:o.guard=some q) (h1:gdst ops q.1=some dg) (h2:zaW dg C.nn=true) (h3:S.at dg=.c' (.b' q.2)):Grd C ops S o true
 |no (q:Nat×Bool) (dg:Nat) (h:o.guard=some q) (h1:gdst ops q.1=some dg) (h2:zaW dg C.nn=true) (h3:S.at dg=.c' (.b' (!q.2))):Grd C ops S o false
 |un (q:Nat×Bool) (dg:Nat) (h:o.guard=some q) (h1:gdst ops q.1=some dg) (h2:zaW dg C.nn=true) (h3:S.at dg=.n'):Grd C ops S o false
inductive Tv:SV→Bool→Prop
 |b (x:Bool):Tv (.c' (.b' x)) x
 |d (p:Prop) (h:Decidable p):Tv (.c' (.d' p h)) (@decide p h)
 |e (p:Prop) (h:Decidable p):Tv (.c' (.e' p h)) (!@decide p h)
theorem tv_v{v:SV}{b:Bool}(h:Tv v b)(ρ:Nat→Ad):v.v ρ=some (.bool b):=by cases h<;>rfl
theorem brB_tv{T:Type}{v:SV}{y n:Option T}{r:T}(h:brB v y n=some r):∃b,Tv v b∧(b=true→y=some r)∧(b=false→n=some r):=by
 unfold brB at h
 split at h
 ·rename_i x
  exact⟨x,.b x,fun e=>by subst e;exact h,fun e=>by subst e;exact h⟩
 ·rename_i p hp
  refine⟨_,.d p hp,fun e=> ?_,fun e=> ?_⟩
  ·rw [if_pos (of_decide_eq_true e)]at h;exact h
  ·rw [if_neg (of_decide_eq_false e)]at h;exact h
 ·rename_i p hp
  refine⟨_,.e p hp,fun e=> ?_,fun e=> ?_⟩
  ·have:¬p:=by simpa using e
   rw [if_neg this]at h;exact h
  ·have:p:=by simpa using e
   rw [if_pos this]at h;exact h
 ·cases h
structure CallT (C:Cx) (S:St) (o:Oper) (S2:St):Prop where
 ex:∃(cal:Call) (f:Operand) (k:Nat) (ids:List Nat) (c:Con) (a:(tupT c.a).T) (ss:List Src) (y:(resT c.r).T),o.op=.call cal∧cal.callee=.value f∧S.ev C f=.c' (.f' k ids)∧c∈C.X k∧
  rdA S.H c.a (cal.args.toList.map (S.ev C)++capV ids)=some (a,ss)∧callOk c S a ss=true∧(c.f a).ok y∧S2=callS c S o.dst a ss y
inductive Adv (C:Cx) (ops:List Oper) (S:St) (o:Oper):St→Prop
 |op (hg:Grd C ops S o true) (ro:Ro) (h:opM C (S.ev C) S.H o.op=some ro) (ha:All ro.g) (hd:dstOk o.dst ro.v=true) (hm:S.oks ro.m=true):Adv C ops S o (St.setO ⟨S.F,ro.H,S.nb,S.al,ro.m++S.m⟩ o.dst ro.v)
 |mv (hg:Grd C ops S o true) (x:Operand) (d:Nat) (b:Bool) (hx:isMove o.op=some x) (hd:o.dst=some d) (hb:Tv (S.ev C x) b):Adv C ops S o (S.set d (.c' (.b' b)))
 |skip (hg:Grd C ops S o false) (d:Nat) (hd:o.dst=some d):Adv C ops S o (S.set d .n')
 |call (hg:Grd C ops S o true) (S2:St) (h:CallT C S o S2):Adv C ops S o S2
section
variable {C : Cx} {ρ' : Ty}
theorem callL_some{S:St}{d:Option Nat}{vs:List SV}{κ:St→Option ρ'.T}{r:ρ'.T}:∀{l:List Con},callL S d vs κ l=some r→∃c∈l,∃a ss y,rdA S.H c.a vs=some (a,ss)∧callOk c S a ss=true∧(c.f a).ok y∧κ (callS c S d a ss y)=some r
 |[],h=>by cases h
 |c::l,h=>by
  simp only [callL]at h
  split at h
  ·rename_i a ss hr
   have h:=aag h
   obtain⟨y,h1,h2⟩:=Gv.bd_some h.2
   exact⟨c,zah,a,ss,y,hr,h.1,h1,h2⟩
  ·obtain⟨c2,h1,h2⟩:=callL_some h
   exact⟨c2,zaf _ h1,h2⟩
theorem fnV_some{v:SV}{q:Nat×List Nat}(h:fnV v=some q):v=.c' (.f' q.1 q.2):=by
 unfold fnV at h
 split at h
 ·cases h;rfl
 ·cases h
theorem run1_adv{ops:List Oper}{S:St}{o:Oper}{κ:St→Option ρ'.T}{r:ρ'.T}(hg:Grd C ops S o true)(h:run1 C S o.dst o.op κ=some r):∃S2,Adv C ops S o S2∧κ S2=some r:=by
 unfold run1 at h
 split at h
 ·rename_i g v H m hop
  split at h
  ·rename_i S2 hr
   unfold St.run at hr
   have hr:=aag hr
   have hr2:=aag hr.2
   cases hr2.2
   obtain⟨h1,h2⟩:=gdL_some h
   exact⟨_,.op hg _ hop h1 hr.1 hr2.1,h2⟩
  ·cases h
 ·split at h
  ·rename_i cal hop
   split at h
   ·rename_i f hf
    split at h
    ·rename_i k ids hk
     obtain⟨c,h1,a,ss,y,h2,h3,h4,h5⟩:=callL_some h
     exact⟨_,.call hg _ ⟨cal,f,k,ids,c,a,ss,y,hop,hf,fnV_some hk,h1,h2,h3,h4,rfl⟩,h5⟩
    ·cases h
   ·cases h
  ·cases h
theorem run2_adv{ops:List Oper}{i:Nat}{S:St}{o:Oper}{κ:St→Option ρ'.T}{r:ρ'.T}(hg:Grd C ops S o true)(h:run2 C ops i S o κ=some r):∃S2,Adv C ops S o S2∧κ S2=some r:=by
 unfold run2 at h
 cases hi:isG ops i with
 |false=>rw [hi]at h;exact run1_adv hg h
 |true=>
  rw [hi]at h
  simp only [cond_true]at h
  split at h
  ·rename_i x hx
   split at h
   ·rename_i d hd
    obtain⟨b,h1,h2,h3⟩:=brB_tv h
    refine⟨_,.mv hg x d b hx hd h1, ?_⟩
    cases b with
    |true=>exact h2 rfl
    |false=>exact h3 rfl
   ·cases h
  ·exact run1_adv hg h
theorem run3_adv{ops:List Oper}{i:Nat}{S:St}{o:Oper}{κ:St→Option ρ'.T}{r:ρ'.T}(h:run3 C ops i S o κ=some r):∃S2,Adv C ops S o S2∧κ S2=some r:=by
 unfold run3 at h
 split at h
 ·rename_i hg;exact run2_adv (.none hg) h
 ·rename_i q hq
  split at h
  ·rename_i dg hdg
   have h:=aag h
   have h2:=h.2
   split at h2
   ·rename_i x hx
    cases hb:beqB x q.2 with
    |true=>
     rw [hb]at h2
     have e:x=q.2:=by
      unfold beqB at hb
      cases x<;>cases hq2:q.2<;>rw [hq2]at hb<;>first|rfl|cases hb
     rw [e]at hx
     exact run2_adv (.yes q dg hq hdg h.1 hx) h2
    |false=>
     rw [hb]at h2
     have e:x= !q.2:=by
      unfold beqB at hb
      cases x<;>cases hq2:q.2<;>rw [hq2]at hb<;>first|rfl|cases hb
     rw [e]at hx
     simp only [cond_false]at h2
     split at h2
     ·rename_i d hd;exact⟨_,.skip (.no q dg hq hdg h.1 hx) d hd,h2⟩
     ·cases h2
   ·rename_i hx
    split at h2
    ·rename_i d hd;exact⟨_,.skip (.un q dg hq hdg h.1 hx) d hd,h2⟩
    ·cases h2
   ·cases h2
  ·cases h
end
section
variable {C : Cx} {md : Md} {w0 w : World} {S0 : List Nat} {ρ : Nat → Ad} {S : St} {F : Nat → Value} {GS : Glo}
theorem gdst_arr{ops:Array Oper}{g:Nat}{dg:Nat}(h:gdst ops.toList g=some dg):(ops[g]?).bind (·.dst)=some dg:=by
 unfold gdst at h
 rw [aap]at h
 cases hg:ops[g]? with
 |none=>rw [show ops.toList[g]? =none by simpa using hg]at h;cases h
 |some o=>rw [show ops.toList[g]? =some o by simpa using hg]at h;exact h
theorem vals_of(hn:C.nn=md.n)(hS:Rel C w0 S0 ρ S F w):∀{l:List Operand} {r:List (Option Value)} {us:List Value},(l.map (S.ev C)).map (SV.v ρ)++r=us.map some→∃u2,us=l.map (evn md F)++u2∧r=u2.map some
 |[],r,us,h=>⟨us,rfl,h⟩
 |x::l,r,us,h=>by
  cases us with
  |nil=>cases h
  |cons u us=>
   simp only [zaG,zaY,List.cons.injEq]at h
   obtain⟨u2,h1,h2⟩:=vals_of hn hS (l:=l) h.2
   refine⟨u2, ?_,h2⟩
   rw [h1,zaG,zaY,(aua hS hn x).2 u h.1]
theorem capV_v:∀(ids:List Nat),(capV ids).map (SV.v ρ)=(ids.map fun id=>bptr (ρ id).b 0).map some
 |[]=>rfl
 |id::ids=>by
  show some (bptr (ρ id).b 0)::(capV ids).map (SV.v ρ)=_
  rw [capV_v ids];rfl
theorem map_some_inj{α:Type}:∀{a b:List α},a.map some=b.map some→a=b
 |[],[],_=>rfl
 |[],_::_,h=>by cases h
 |_::_,[],h=>by cases h
 |x::a,y::b,h=>by
  simp only [zaG,List.cons.injEq,Option.some.injEq]at h
  rw [h.1,map_some_inj h.2]
theorem adv_step(hE:Env C md w0 S0 GS){ops:Array Oper}{o:Oper}{S2:St}(h:Adv C ops.toList S o S2)(hS:Rel C w0 S0 ρ S F w)(Q:Exit→Act→World→Prop)(rest:List Oper)
  (hk:∀ρ2 F2 w2,Rel C w0 S0 ρ2 S2 F2 w2→Nx S ρ S2 ρ2→(∀t,o.dst≠some t→F2 t=F t)→(∀d,o.guard=none→o.dst=some d→isPure o.op=true→∃w3,(execOp (evn md F) o).run C.P w=.ok (.value (F2 d)) w3)→W C.P md ops Q rest F2 w2):W C.P md ops Q (o::rest) F w:=by
 have hn:=hE.n
 obtain⟨dst,op,ty,pos,after,gd⟩:=o
 have grd:Grd C ops.toList S ⟨dst,op,ty,pos,after,gd⟩ true→W C.P md ops Q (⟨dst,op,ty,pos,after,none⟩::rest) F w→W C.P md ops Q (⟨dst,op,ty,pos,after,gd⟩::rest) F w:=by
  intro hg hW
  cases hg with
  |none h=>
   have h:gd=none:=h
   subst h
   exact hW
  |yes q dg h h1 h2 h3=>
   have h:gd=some q:=h
   subst h
   obtain⟨g,b⟩:=q
   exact w_gyes dg (gdst_arr h1) (by rw [←hn];exact h2) (hS.fr dg (.bool b) (by rw [h3];rfl)) hW
 cases h with
 |op hg ro h ha hd hm=>
  refine grd hg (step_op hE.e hn hS h ha hm hd ops Q rest fun ρ2 F2 w2 h1 h2 h3 h4=>hk ρ2 F2 w2 h1 h2 h3 fun d hgn hdd hp=> ?_)
  have hgn:gd=none:=hgn
  subst hgn
  exact h4 d hdd hp
 |mv hg x d b hx hd hb=>
  have hd:dst=some d:=hd
  subst hd
  obtain⟨h1,h2⟩:=aua hS hn x
  have hxb:evn md F x=.bool b:=h2 _ (tv_v hb ρ)
  refine grd hg ?_
  have hrel:Rel C w0 S0 ρ (S.set d (.c' (.b' b))) (upd F d (.bool b)) w:=ato hS rfl (fun i hi=>by cases hi)
  have hrun:(execOp (evn md F) (⟨some d,op,ty,pos,after,none⟩:Oper)).run C.P w=.ok (.value (.bool b)) w:=by
   cases op<;>first|cases hx|skip
   ·rw [←hxb];rfl
   ·rw [←hxb];rfl
  refine aih rfl rfl hrun (hk ρ _ w hrel ⟨⟨rfl,rfl,Le.refl⟩,Le.refl,fun _ _ h=>h⟩ aog fun d2 hgn hdd _=>⟨w, ?_⟩)
  have hgn:gd=none:=hgn
  subst hgn
  cases hdd
  rw [aqt];exact hrun
 |skip hg d hd=>
  have hd:dst=some d:=hd
  subst hd
  have hrel:Rel C w0 S0 ρ (S.set d .n') (upd F d undef) w:=ato hS rfl trivial
  have hW:=hk ρ _ w hrel ⟨⟨rfl,rfl,Le.refl⟩,Le.refl,fun _ _ h=>h⟩ aog (fun d2 hgn _ _=>by cases hg<;>(rename_i h _ _ _;rw [h]at hgn;cases hgn))
  cases hg with
  |no q dg h h1 h2 h3=>
   have h:gd=some q:=h
   subst h
   obtain⟨g,b⟩:=q
   exact w_gno dg (gdst_arr h1) (by rw [←hn];exact h2) (hS.fr dg (.bool (!b)) (by rw [h3];rfl)) hW
  |un q dg h h1 h2 h3=>
   have h:gd=some q:=h
   subst h
   obtain⟨g,b⟩:=q
   exact w_gun dg (gdst_arr h1) (by rw [←hn];exact h2) (hS.fr dg undef (by rw [h3];rfl)) hW
 |call hg _ h=>
  obtain⟨cal,f,k,ids,c,a,ss,y,hop,hf,hfv,hc,hr,hok,hy,rfl⟩:=h
  have hop:op=.call cal:=hop
  subst hop
  obtain⟨callee,azq,ts⟩:=cal
  have hf:callee=.value f:=hf
  subst hf
  refine grd hg ?_
  obtain⟨hEn,hF⟩:=hE.x k c hc
  obtain⟨us,h1,h2⟩:=call_ok hS hE.g hF hr hok hy
  rw [zbf,capV_v]at h1
  obtain⟨u2,h3,h4⟩:=vals_of hn hS h1
  have h5:=map_some_inj h4
  have hfn:evn md F f=.func (.func k) #[] (ids.map fun id=>bptr (ρ id).b 0).toArray:=(adu hS hn hfv).2
  have ha: #[]++azq.map (evn md F)++(ids.map fun id=>bptr (ρ id).b 0).toArray=us.toArray:=by
   rw [h3,←h5]
   apply Array.toList_inj.1
   simp
  cases dst with
  |none=>
   refine w_call0 k _ us _ hEn hfn ha h2 fun v w2 hv=> ?_
   obtain⟨ρ3,hv⟩:=hv
   obtain⟨h6,h7⟩:=hv none
   exact hk ρ3 F w2 h6 h7 (fun _ _=>rfl) (fun d _ hd=>by cases hd)
  |some d=>
   refine w_call k _ us _ hEn hfn ha h2 fun v w2 hv=> ?_
   obtain⟨ρ3,hv⟩:=hv
   obtain⟨h6,h7⟩:=hv (some d)
   exact hk ρ3 _ w2 h6 h7 aog (fun d2 _ _ hp=>by cases hp)
theorem wrO_cons{o:Oper}{l:List Oper}{t:Nat}:t∈wrO (o::l)↔o.dst=some t∨t∈wrO l:=by
 simp only [wrO]
 cases hd:o.dst with
 |none=>simp
 |some d=>
  simp only [List.mem_cons,Option.some.injEq]
  exact or_congr_left ⟨fun h=>h.symm,fun h=>h.symm⟩
theorem opndS_mem{t:Nat}:∀{l:List Operand},t∈opndS l↔Operand.tmp t∈l
 |[]=>by simp [opndS]
 |x::l=>by
  cases x<;>simp [opndS,opndS_mem (l:=l)]
def RanL(C:Cx)(md:Md)(ops:List Oper)(lo:Nat)(F:Nat→Value):Prop:=∀(i d:Nat) (o:Oper),lo≤i→okR1 ops i=true→ops[i]? =some o→o.dst=some d→∃w1 w2,(execOp (evn md F) o).run C.P w1=.ok (.value (F d)) w2
theorem pure_sel{op:Op}(h:isPure op=true):∀cs b,op≠.select cs b:=fun cs b e=>by subst e;cases h
theorem evn_same{F2:Nat→Value}{x:Operand}(h:∀t,x=.tmp t→F2 t=F t):evn md F2 x=evn md F x:=by
 cases x with
 |tmp t=>simp only [evn,h t rfl]
 |_=>rfl
theorem opsD_ok(hE:Env C md w0 S0 GS){ops:Array Oper}{ρ':Ty}{κ:St→Option ρ'.T}{r:ρ'.T}{Q:Exit→Act→World→Prop}:∀(l:List Oper) (i:Nat) (S:St) (ρ:Nat→Ad) (F:Nat→Value) (w:World),l=ops.toList.drop i→opsD C ops.toList l i S κ=some r→Rel C w0 S0 ρ S F w→
  (∀S2 ρ2 F2 w2,κ S2=some r→Rel C w0 S0 ρ2 S2 F2 w2→Nx S ρ S2 ρ2→(∀t,t∉wrO l→F2 t=F t)→RanL C md ops.toList i F2→Q .normal (fr md F2) w2)→W C.P md ops Q l F w
 |[],i,S,ρ,F,w,hl,h,hS,hk=>w_nil (hk S ρ F w h hS Nx.refl (fun _ _=>rfl) (fun j d o hj _ ho _=>by
   have:ops.toList.drop i=[]:=hl.symm
   rw [List.drop_eq_nil_iff]at this
   have:=(List.getElem?_eq_some_iff.1 ho).1
   omega))
 |o::l,i,S,ρ,F,w,hl,h,hS,hk=>by
  obtain⟨S2,h1,h2⟩:=run3_adv (show run3 C ops.toList i S o (fun S2=>opsD C ops.toList l (zaA i) S2 κ)=some r from h)
  have hoi:ops.toList[i]? =some o:=by
   have:=congrArg (fun l=>l[0]?) hl
   simpa using this.symm
  have hl2:l=ops.toList.drop (i+1):=by
   have:=congrArg List.tail hl
   simpa using this
  refine adv_step hE h1 hS Q l fun ρ2 F2 w2 hS2 hN hf hp=>opsD_ok hE l (i+1) S2 ρ2 F2 w2 hl2 h2 hS2 fun S3 ρ3 F3 w3 h3 hS3 hN3 hf3 hran=> ?_
  refine hk S3 ρ3 F3 w3 h3 hS3 (hN.trans hN3) (fun t ht=> ?_) (fun j d o2 hj hok ho hd=> ?_)
  ·rw [wrO_cons]at ht
   rw [hf3 t (fun hh=>ht (.inr hh)),hf t (fun hh=>ht (.inl hh))]
  ·by_cases hij:j=i
   ·subst hij
    rw [hoi]at ho
    cases ho
    unfold okR1 at hok
    rw [aap,hoi]at hok
    simp only [hd]at hok
    have h4:=aeo hok
    have h5:=aeo h4.2
    have h6:=h5.2
    have hgn:o.guard=none:=by
     cases hg:o.guard with
     |none=>rfl
     |some q=>rw [hg]at h4;cases h4.1
    rw [ary,←hl2]at h6
    cases hm:ask d (wrO l)with
    |true=>rw [hm]at h6;cases h6
    |false=>
     rw [hm]at h6
     simp only [cond_false]at h6
     have h7:=disN_iff.1 h6
     obtain⟨w4,h8⟩:=hp d hgn hd h5.1
     have hd3:F3 d=F2 d:=hf3 d fun hh=>by rw [agr.2 hh]at hm;cases hm
     refine⟨w,w4, ?_⟩
     rw [hd3,execOp_congr o (pure_sel h5.1) (ρ':=evn md F) fun x hx=> ?_]
     ·exact h8
     ·refine evn_same fun t ht=> ?_
      subst ht
      have h9:=h7 t (opndS_mem.2 (by simpa using hx))
      rw [hf3 t (fun hh=>h9 (zaf _ hh)),hf t (fun hh=>h9 (by rw [hd]at hh;cases hh;exact zah))]
   ·exact hran j d o2 (by omega) hok ho hd
theorem region_ok(hE:Env C md w0 S0 GS){id:Nat}{ops:Array Oper}:RegOk C md w0 S0 id ops false:=by
 intro ρ' S κ r ρ F w Q h hS hk
 have e:ops=ops.toList.toArray:=rfl
 have h:opsD C ops.toList ops.toList 0 S κ=some r:=h
 have hW:=opsD_ok hE (Q:=Q) ops.toList 0 S ρ F w (by simp) h hS fun S2 ρ2 F2 w2 h1 h2 h3 h4 h5=>hk S2 ρ2 F2 w2 h1 h2 h3 h4 fun i d o hok ho hd=>h5 i d o (zan _) hok ho hd
 exact aov (l:=ops.toList) hW
end
open Go.Wk
open Go.Ce (Tr)
open Go.Op renaming operands → zav
open List renaming map_congr_left → zaT, mem_append_left → zbc, mem_append_right → zaV, mem_cons_of_mem → zaf, mem_cons_self → zah
open Nat renaming beq → zai
section
variable {C : Cx} {ev ev2 : Operand → SV}
theorem fillP_congr{sz:Nat→Option (Nat×Nat)}:∀{ps:List (Nat×Operand)} {l:List SC},(∀p∈ps,ev p.2=ev2 p.2)→fillP sz ev ps l=fillP sz ev2 ps l
 |[],l,h=>rfl
 |p::ps,l,h=>by
  simp only [fillP]
  rw [h p zah]
  split
  ·split
   ·rw [fillP_congr fun q hq=>h q (zaf _ hq)]
   ·rfl
  ·rfl
theorem map_congr{l:List Operand}(h:∀x∈l,ev x=ev2 x):l.map ev=l.map ev2:=zaT h
theorem bi_congr{H:List Ob}{b:Builtin}{azq:List Operand}{ts:List Nat}(h:∀x∈azq,ev x=ev2 x):ahm C ev H b azq ts=ahm C ev2 H b azq ts:=by
 match azq with
 |[]=>cases b<;>rfl
 |[x]=>
  have e:=h x (by simp)
  cases b<;>simp only [ahm]
  ·match ts with
   |[]=>rfl
   |[t]=>simp only [e]
   |_::_::_=>rfl
 |[x,y]=>
  have e:=h x (by simp)
  have e2:=h y (by simp)
  cases b<;>first|(rcases ts with _|⟨t,_|⟨t2,_|⟨t3,ts⟩⟩⟩<;>simp only [ahm,e,e2];done)|simp only [ahm,e,e2]
 |_::_::_::_=>cases b<;>rfl
theorem opM_congr{H:List Ob}{op:Op}(h:∀x∈op.operands,ev x=ev2 x):opM C ev H op=opM C ev2 H op:=by
 cases op<;>first|rfl|skip
 case move x=>simp only [opM,h x (by simp [zav])]
 case assign x=>simp only [opM,h x (by simp [zav])]
 case pick c a b=>simp only [opM,h c (by simp [zav]),h a (by simp [zav]),h b (by simp [zav])]
 case binOp b t x y t'=>simp only [opM,h x (by simp [zav]),h y (by simp [zav])]
 case unOp u t x=>cases u<;>first|rfl|simp only [opM,h x (by simp [zav])]
 case convert s t x=>simp only [opM,h x (by simp [zav])]
 case index t x ix=>simp only [opM,h x (by simp [zav]),h ix (by simp [zav])]
 case slice t x lo hi mx=>
  cases mx with
  |some m=>rfl
  |none=>
   have e:=h x (by simp [zav])
   cases lo with
   |none=>cases hi with
    |none=>simp only [opM,onO,e]
    |some j=>simp only [opM,onO,e,h j (by simp [zav])]
   |some i=>cases hi with
    |none=>simp only [opM,onO,e,h i (by simp [zav])]
    |some j=>simp only [opM,onO,e,h i (by simp [zav]),h j (by simp [zav])]
 case extract x i=>simp only [opM,h x (by simp [zav])]
 case field t x f=>simp only [opM,h x (by simp [zav])]
 case box e x=>simp only [opM,h x (by simp [zav])]
 case load t x=>simp only [opM,h x (by simp [zav])]
 case store t x y=>simp only [opM,h x (by simp [zav]),h y (by simp [zav])]
 case fieldAddr t x f=>simp only [opM,h x (by simp [zav])]
 case indexAddr t x ix=>simp only [opM,h x (by simp [zav]),h ix (by simp [zav])]
 case nilCheck x=>simp only [opM,h x (by simp [zav])]
 case makeSlice t x y=>simp only [opM,h x (by simp [zav]),h y (by simp [zav])]
 case build t ps=>
  have e:∀p∈ps.toList,ev p.2=ev2 p.2:=fun p hp=>h p.2 (by
   simp only [zav,List.mem_toArray,List.mem_map]
   exact⟨p,hp,rfl⟩)
  simp only [opM,opBuild]
  split
  ·rw [fillP_congr e]
  ·rfl
 case buildSlice t n ps=>
  have e:∀p∈ps.toList,ev p.2=ev2 p.2:=fun p hp=>h p.2 (by
   simp only [zav,List.mem_toArray,List.mem_map]
   exact⟨p,hp,rfl⟩)
  simp only [opM,amk]
  split
  ·split
   ·rw [fillP_congr e]
   ·rfl
  ·rfl
 case makeFunc f a b=>
  have e:b.toList.map ev=b.toList.map ev2:=map_congr fun x hx=>h x (by
   simp only [zav,Array.mem_append]
   exact .inr (by simpa using hx))
  simp only [opM,opFunc,e]
 case call c=>
  obtain⟨callee,azq,ts⟩:=c
  cases callee<;>first|rfl|skip
  rename_i b
  show ahm C ev H b azq.toList ts.toList=ahm C ev2 H b azq.toList ts.toList
  exact bi_congr fun x hx=>h x (by
   simp only [zav,Call.operands,Array.mem_append]
   exact .inr (by simpa using hx))
end
def Agr(H H2:List Ob)(ids:List Nat):Prop:=∀id∈ids,∀o,aiw H id=some o→aiw H2 id=some o
section
variable {C : Cx} {ev : Operand → SV} {H H2 : List Ob}
theorem pur_H{r:Rv}{ro:Ro}(h:pur H r=some ro):ro.H=H∧ro.m=[]∧pur H2 r=some ⟨ro.g,ro.v,H2,[]⟩:=by
 obtain⟨g,v,h1,rfl⟩:=akd h
 rw [h1];exact⟨rfl,rfl,rfl⟩
theorem val1_H{r:Option SV}{ro:Ro}(h:val1 H r=some ro):ro.H=H∧ro.m=[]∧val1 H2 r=some ⟨ro.g,ro.v,H2,[]⟩:=by
 obtain⟨v,h1,rfl⟩:=ami h
 rw [h1];exact⟨rfl,rfl,rfl⟩
theorem partE_H{t:Ty}{l:List t.T}{j:Int}{sz off n:Nat}{a:Bool}{ro:Ro}(h:partE H t l j sz off n a=some ro):ro.H=H∧ro.m=[]∧partE H2 t l j sz off n a=some ⟨ro.g,ro.v,H2,[]⟩:=by
 unfold partE at h⊢
 split at h
 ·rename_i v hv
  have h:=aag h
  cases h.2
  simp only [h.1,cond_true,and_self]
 ·cases h
theorem load_H{t:Nat}{c:SC}{ro:Ro}(h:arg C H t c=some ro)(hf:Agr H H2 (asr (.c' c))):ro.H=H∧ro.m=[]∧arg C H2 t c=some ⟨ro.g,ro.v,H2,[]⟩:=by
 unfold arg at h⊢
 split at h
 ·rename_i n a hn ha
  cases hz:zai n 0 with
  |true=>rw [hz]at h;cases h
  |false=>
   rw [hz]at h
   simp only [cond_false]at h⊢
   split at h
   ·rename_i id off
    split at h
    ·rename_i e cs hb
     rw [hf id (by simp [asr]) _ hb]
     exact val1_H h
    ·cases h
   ·rename_i id j sz off
    have key:∀o,aiw H id=some o→aiw H2 id=some o:=hf id (by simp [asr])
    split at h
    ·rename_i e b t' l hb;rw [key _ hb];exact partE_H h
    ·rename_i t' l hb
     rw [key _ hb]
     simp only
     cases hp:partE H t' l j sz off n a with
     |some r=>
      rw [hp]at h
      cases h
      obtain⟨h1,h2,h3⟩:=partE_H (H2:=H2) hp
      rw [h3];exact⟨h1,h2,rfl⟩
     |none=>
      rw [hp]at h
      have e:partE H2 t' l j sz off n a=none:=by
       unfold partE at hp⊢
       split
       ·rename_i v hv
        rw [hv]at hp
        cases hb2:(bif szOk sz j t' then t'.flat else false)with
        |true=>rw [hb2]at hp;cases hp
        |false=>rfl
       ·rfl
      rw [e]
      have h:wholeE H t' l j off n a=some ro:=h
      show ro.H=H∧ro.m=[]∧wholeE H2 t' l j off n a=some ⟨ro.g,ro.v,H2,[]⟩
      unfold wholeE at h⊢
      split at h
      ·have h:=aag h
       simp only [h.1,cond_true]
       exact val1_H h.2
      ·cases h
    ·rename_i m l hb;rw [key _ hb];exact partE_H h
    ·cases h
   ·cases h
 ·cases h
theorem lenX_H{id m:Nat}(h:lenX H id=some m)(hf:∀o,aiw H id=some o→aiw H2 id=some o):lenX H2 id=some m:=by
 unfold lenX at h⊢
 split at h
 ·rename_i hb;rw [hf _ hb];exact h
 ·rename_i hb;rw [hf _ hb];exact h
 ·rename_i hb;rw [hf _ hb];exact h
 ·cases h
theorem ixa_H{t:Nat}{x ix:SC}{ro:Ro}(h:ahl C H t x ix=some ro)(hf:Agr H H2 (asr (.c' x))):ro.H=H∧ro.m=[]∧ahl C H2 t x ix=some ⟨ro.g,ro.v,H2,[]⟩:=by
 unfold ahl at h⊢
 split at h
 ·rename_i j hj
  split at h
  ·rename_i e he
   split at h
   ·rename_i sz hsz
    split at h
    ·rename_i id
     split at h
     ·rename_i m hm
      cases h
      rw [lenX_H hm (hf id (by simp [asr]))]
      exact⟨rfl,rfl,rfl⟩
     ·cases h
    ·cases h;exact⟨rfl,rfl,rfl⟩
    ·cases h
   ·cases h
  ·rename_i he
   split at h
   ·rename_i q hq
    split at h
    ·rename_i sz hsz
     split at h
     ·have h:=aag h
      cases h.2
      simp only [h.1,cond_true,and_self]
     ·have h:=aag h
      have h2:=aag h.2
      have h3:=aag h2.2
      cases h3.2
      simp only [h.1,h2.1,h3.1,cond_true,and_self]
     ·cases h
    ·cases h
   ·cases h
 ·cases h
theorem cont_H{t:Ty}{x:SC}{l:List t.T}(h:contE H t x=some l)(hf:Agr H H2 (asr (.c' x))):contE H2 t x=some l:=by
 unfold contE at h⊢
 split at h
 ·exact h
 ·rename_i id
  have key:∀o,aiw H id=some o→aiw H2 id=some o:=hf id (by simp [asr])
  cases hb:aiw H id with
  |none=>rw [hb]at h;cases h
  |some o=>rw [hb]at h;rw [key o hb];exact h
 ·rename_i id m
  have key:∀o,aiw H id=some o→aiw H2 id=some o:=hf id (by simp [asr])
  split at h
  ·rename_i e cs hb
   rw [key _ hb];exact h
  ·cases h
 ·cases h
theorem isSl_f{t:Nat}(h:(!isSl C t)=true):slE C t=none:=by
 unfold isSl at h
 unfold slE
 split at h
 ·cases h
 ·rfl
theorem conS_H{s t:Nat}{x:SC}{ro:Ro}(hq:(!isSl C t)=true)(h:conS C H s t x=some ro)(hf:Agr H H2 (asr (.c' x))):ro.H=H∧ro.m=[]∧conS C H2 s t x=some ⟨ro.g,ro.v,H2,[]⟩:=by
 have hsl:=isSl_f hq
 unfold conS at h⊢
 split at h
 ·rename_i e he
  have h:=aag h
  have h2:=aag h.2
  have h3:=h2.2
  simp only [h.1,h2.1,cond_true]
  split at h3
  ·rename_i l hl
   cases h3
   rw [cont_H hl hf]
   exact⟨rfl,rfl,rfl⟩
  ·cases h3
 ·cases x with
  |s' l=>
   simp only [hsl]at h⊢
   exact pur_H h
  |_=>exact pur_H h
theorem lenC_H{t:Nat}{x:SC}{r:List PD×SV}(h:lenC C H t x=some r)(hf:Agr H H2 (asr (.c' x))):lenC C H2 t x=some r:=by
 unfold lenC at h⊢
 split at h
 ·exact h
 ·split at h
  ·rename_i e he
   split at h
   ·rename_i id _
    cases hb:aiw H id with
    |none=>rw [hb]at h;cases h
    |some o=>rw [hb]at h;rw [hf id (by simp [asr]) o hb];exact h
   ·exact h
   ·exact h
   ·cases h
  ·cases h
theorem footL_mem{x:Operand}{id:Nat}(hid:id∈asr (ev x)):∀{l:List Operand},x∈l→id∈footL ev l
 |y::l,h=>by
  rcases List.mem_cons.1 h with rfl|h
  ·exact zbc _ hid
  ·exact zaV _ (footL_mem hid h)
theorem quiet_H{op:Op}{ro:Ro}(hq:quietO C op=true)(h:opM C ev H op=some ro)(hf:Agr H H2 (footO ev op)):ro.H=H∧ro.m=[]∧opM C ev H2 op=some ⟨ro.g,ro.v,H2,[]⟩:=by
 cases op<;>first|cases hq|skip
 case move x=>exact val1_H h
 case assign x=>exact val1_H h
 case pick c a b=>
  obtain⟨x,h1,h2⟩:=abd (show on1 (ev c) (fun x=>match x with
   |.b' t=>val1 H (match(bif t then ev a else ev b)with
    |.u'=>none
    |v=>some v)
   |_=>none)=some ro from h)
  split at h2
  ·rename_i t
   have:=val1_H (H2:=H2) h2
   simp only [opM,h1,on1]
   exact this
  ·cases h2
 case binOp b t x y t'=>exact pur_H h
 case unOp u t x=>cases u<;>first|cases h|exact pur_H h
 case convert s t x=>
  obtain⟨c,h1,h2⟩:=abd (show on1 (ev x) (conS C H s t)=some ro from h)
  have:=conS_H (H2:=H2) hq h2 (by rw [←h1];exact hf)
  simp only [opM,h1,on1]
  exact this
 case index t x ix=>
  simp only [opM]at h⊢
  cases hb:anj C t with
  |true=>
   rw [hb]at h
   exact pur_H h
  |false=>
   rw [hb]at h
   simp only [cond_false]at h⊢
   split at h
   ·exact pur_H h
   ·cases h
 case slice t x lo hi mx=>
  cases mx with
  |some m=>cases h
  |none=>
   have hq:anj C t=true:=hq
   simp only [opM,hq,cond_true]at h⊢
   exact pur_H h
 case extract x i=>
  simp only [opM]at h⊢
  split at h
  ·split at h
   ·cases h;exact⟨rfl,rfl,rfl⟩
   ·cases h
  ·cases h
 case field t x f=>
  simp only [opM]at h⊢
  split at h
  ·split at h
   ·exact val1_H h
   ·cases h
  ·cases h
 case build t ps=>exact val1_H h
 case fieldAddr t x f=>
  obtain⟨c,h1,h2⟩:=abd (show on1 (ev x) (fun a=>val1 H (amj C t f a))=some ro from h)
  have:=val1_H (H2:=H2) h2
  simp only [opM,h1,on1]
  exact this
 case load t x=>
  obtain⟨c,h1,h2⟩:=abd (show on1 (ev x) (fun a=>arg C H t a)=some ro from h)
  have:=load_H (H2:=H2) h2 (by rw [←h1];exact hf)
  simp only [opM,h1,on1]
  exact this
 case indexAddr t x ix=>
  obtain⟨c,h1,h2⟩:=abd (show on1 (ev x) (fun a=>on1 (ev ix) fun i=>ahl C H t a i)=some ro from h)
  obtain⟨d,h3,h4⟩:=abd h2
  have:=ixa_H (H2:=H2) h4 (by rw [←h1];exact hf)
  simp only [opM,h1,h3,on1]
  exact this
 case makeFunc f a b=>exact val1_H h
 case nilCheck x=>
  obtain⟨c,h1,h2⟩:=abd (show on1 (ev x) (fun a=>val1 H (opNil a))=some ro from h)
  have:=val1_H (H2:=H2) h2
  simp only [opM,h1,on1]
  exact this
 case call c=>
  obtain⟨callee,azq,ts⟩:=c
  cases callee<;>first|cases hq|skip
  rename_i b
  have key:∀(azq:List Operand) (ts:List Nat),Agr H H2 (footL ev azq)→ahm C ev H b azq ts=some ro→ro.H=H∧ro.m=[]∧ahm C ev H2 b azq ts=some ⟨ro.g,ro.v,H2,[]⟩:=by
   clear h hf
   intro azq ts hf h
   have mm:∀x y,b≠.append→azq=[x,y]→ro.H=H∧ro.m=[]∧ahm C ev H2 b azq ts=some ⟨ro.g,ro.v,H2,[]⟩:=by
    intro x y hb e
    subst e
    cases b<;>first|exact absurd rfl hb|exact pur_H h
   rcases azq with _|⟨x,_|⟨y,_|⟨z,azq⟩⟩⟩
   ·cases b<;>cases h
   ·cases b<;>first|cases hq|skip
    ·rcases ts with _|⟨t,_|⟨t2,ts⟩⟩
     ·cases h
     ·obtain⟨g,v,h1,rfl⟩:=akd (show pur H (on1 (ev x) (lenC C H t))=some ro from h)
      obtain⟨c,h2,h3⟩:=abd h1
      refine⟨rfl,rfl, ?_⟩
      show pur H2 (on1 (ev x) (lenC C H2 t))=_
      rw [h2]
      show pur H2 (lenC C H2 t c)=_
      rw [lenC_H h3 (fun id hid=>hf id (footL_mem (x:=x) (by rw [h2];exact hid) zah))]
      rfl
     ·cases h
    ·cases h
    ·cases h
   ·exact mm x y (fun e=>by subst e;cases hq) rfl
   ·cases b<;>cases h
  exact key _ _ hf h
end
end Go.Oe
