/-
  The law HeaderStable (part 3 of 8).
-/
import Derived.Test.YtpbfkeakaefenaaGreatDoorSt2
import Derived.Orders
set_option linter.unusedVariables false
set_option linter.unusedSimpArgs false
namespace Go.Oe
open Go.Wk
open Go.Ce (Tr)
open List renaming append_assoc → zal, drop_eq_nil_of_le → zbj, flatMap_cons → zas, length → zbl, length_append → zab, length_map → zaK, map_append → zaV, nil_append → zax
open Nat renaming add_comm → zaX, beq → zav, eq_of_beq_eq_true → zag
theorem flat_at{α:Type}{f:α→List Value}{sz:Nat}(hE:Enc f sz):∀(l:List α) (i:Nat) (x:α),l[i]? =some x→∃A B,l.flatMap f=A++(f x++B)∧A.length=i*sz
 |y::l,0,x,h=>by
  have:y=x:=by simpa using h
  subst this
  exact⟨[],l.flatMap f,rfl,by simp⟩
 |y::l,i+1,x,h=>by
  obtain⟨A,B,h1,h2⟩:=flat_at hE l i x (by simpa using h)
  exact⟨f y++A,B,by rw [zas,h1,zal],by rw [zab,hE.len,h2,Nat.succ_mul,zaX]⟩
theorem elT_get(t:Ty)(l:List t.T)(j:Int)(h:0≤j∧j<(l.length:Int)):l[j.toNat]? =some (elT t l j):=by
 have hlt:j.toNat<l.length:=by omega
 rw [elT_el]
 unfold el
 rw [List.getElem?_eq_getElem hlt]
 simp [List.getD,List.getElem?_eq_getElem hlt]
theorem szOk_mul{sz:Nat}{j:Int}{t:Ty}(h:szOk sz j t=true):j.toNat*sz=j.toNat*t.sz:=by
 unfold szOk at h
 cases hb:zav sz t.sz with
 |true=>rw [zag hb]
 |false=>
  rw [hb]at h
  simp only [cond_false]at h
  split at h
  ·show(0:Nat)*sz=0*t.sz;simp
  ·cases h
theorem el_cells{t:Ty}{l:List t.T}{j:Int}(hf:t.flat=true)(hj:0≤j∧j<(l.length:Int))(ρ:Nat→Ad):∃A B,l.flatMap t.enc=A++((elC t l j).map (SC.v ρ)++B)∧A.length=j.toNat*t.sz:=by
 obtain⟨A,B,h1,h2⟩:=flat_at (Ty.encOk hf) l j.toNat _ (elT_get t l j hj)
 refine⟨A,B, ?_,h2⟩
 rw [h1]
 unfold elC
 rw [(Ty.lay_flat t 0 0 (elT t l j) hf).2]
section
variable {C : Cx} {md : Md} {w0 w : World} {S0 : List Nat} {ρ : Nat → Ad} {S : St} {F : Nat → Value}
variable {d : Nat} {ty : TypeId} {pos : String} {after : Array Edge}
theorem rd_part{x:Operand}{t n off k:Nat}{a:Bool}{ad:Option Addr}{xs A B:List Value}{cs:List SC}{v:SV}(hR:Rd w ad xs)(hxs:xs=A++(cs.map (SC.v ρ)++B))(hA:A.length=k)(hn:tSz C t=some n)(ha:tAg C t=some a)(hp:partC cs off n a=some v)(hc:cs≠[])(hn0:a=true→0<n)
  (hx:evn md F x=.pointer (some (ea ad (k+off)))) (hok:∀c∈cs,c.ok S.H.length):Val C md ρ S F w (.load t x) v:=by
 refine⟨partC_oks hp hok, ?_⟩
 rcases partC_ok hp with⟨rfl,c,h1,_,rfl⟩|⟨rfl,h1,_,rfl⟩|⟨rfl,rfl,rfl⟩
 ·refine⟨_,rfl,fun d ty pos after=>x_rd1 ad xs (k+off) _ hR ?_ hx (oAg ha w)⟩
  rw [hxs,List.getElem?_append_right (by omega),hA,Nat.add_sub_cancel_left]
  have hl:=(List.getElem?_eq_some_iff.1 h1).1
  rw [List.getElem?_append_left (by simpa using hl),List.getElem?_map,h1];rfl
 ·refine⟨_,rfl,fun d ty pos after=>x_rdN ad xs _ (k+off) n hR ?_ ?_ (hn0 rfl) hx (oAg ha w) (oSz hn w)⟩
  ·rw [hxs,←hA,List.drop_append,zbj (by omega),zax,Nat.add_sub_cancel_left,List.drop_append_of_le_length (by simp;omega),List.take_append_of_le_length (by simp;omega),List.map_take,List.map_drop]
  ·simp;omega
 ·exact absurd (hn0 rfl) (by omega)
theorem elC_ok{t:Ty}{l:List t.T}{j:Int}(hf:t.flat=true)(n:Nat):(∀c∈elC t l j,c.ok n)∧(elC t l j).length=t.sz:=by
 have h1:=Ty.lay_plain t 0 0 (elT t l j) hf
 refine⟨fun c hc i hi=>(by rw [(h1 c hc).1]at hi;cases hi), ?_⟩
 have h2:=(Ty.lay_flat t 0 0 (elT t l j) hf).2 (fun _=>⟨none,none,0,false,0⟩)
 have h3:=congrArg zbl h2
 rw [zaK,Ty.enc_len t _ hf]at h3
 exact h3
theorem partE_ok{x:Operand}{t n off id sz:Nat}{a:Bool}{τ:Ty}{l:List τ.T}{j:Int}{ro:Ro}(hR:Rd w (ρ id).a (l.flatMap τ.enc))(hn:tSz C t=some n)(ha:tAg C t=some a)(hn0:zav n 0=false)(hx:evn md F x=.pointer (some (ea (ρ id).a (j.toNat*sz+off))))
  (h:partE S.H τ l j sz off n a=some ro) (hg:All ro.g):Val C md ρ S F w (.load t x) ro.v∧ro.H=S.H∧ro.m=[]:=by
 unfold partE at h
 split at h
 ·rename_i v hv
  have h1:=aas h
  have h2:=agp h1.1
  cases h1.2
  obtain⟨A,B,h3,h4⟩:=el_cells (ρ:=ρ) h2.2 hg.1
  obtain⟨h5,h6⟩:=elC_ok (l:=l) (j:=j) h2.2 S.H.length
  refine⟨rd_part hR h3 h4 hn ha hv (fun e=> ?_) (fun _=> ?_) (by rw [hx,szOk_mul h2.1]) h5,rfl,rfl⟩
  ·have:=Ty.sz_pos h2.2
   rw [e]at h6
   simp at h6;omega
  ·exact Nat.pos_of_ne_zero fun e=>by rw [e]at hn0;cases hn0
 ·cases h
theorem allC_ok{t:Ty}(hf:t.flat=true)(ρ:Nat→Ad)(n:Nat):∀(l:List t.T),(allC t l).map (SC.v ρ)=l.flatMap t.enc∧∀c∈allC t l,c.ok n
 |[]=>⟨rfl,fun c hc=>by cases hc⟩
 |x::l=>by
  obtain⟨h1,h2⟩:=allC_ok hf ρ n l
  refine⟨?_,fun c hc=> ?_⟩
  ·show((t.lay 0 0 x).1++allC t l).map _=_
   rw [zaV,h1,(Ty.lay_flat t 0 0 x hf).2,zas]
  ·rcases List.mem_append.1 (show c∈(t.lay 0 0 x).1++allC t l from hc)with hc|hc
   ·intro i hi
    rw [(Ty.lay_plain t 0 0 x hf c hc).1]at hi;cases hi
   ·exact h2 c hc
theorem wholeE_ok{x:Operand}{t n off id sz:Nat}{a:Bool}{τ:Ty}{l:List τ.T}{j:Int}{ro:Ro}(hR:Rd w (ρ id).a (l.flatMap τ.enc))(hn:tSz C t=some n)(ha:tAg C t=some a)(hn0:zav n 0=false)(hx:evn md F x=.pointer (some (ea (ρ id).a (j.toNat*sz+off))))
  (h:wholeE S.H τ l j off n a=some ro):Val C md ρ S F w (.load t x) ro.v∧ro.H=S.H∧ro.m=[]:=by
 unfold wholeE at h
 split at h
 ·have h1:=aas h
  obtain⟨v,hv,rfl⟩:=aol h1.2
  obtain⟨h2,h3⟩:=allC_ok h1.1 ρ S.H.length l
  refine⟨rd_part (A:=[]) (B:=[]) (k:=0) hR (by rw [h2];simp) rfl hn ha hv (fun e=> ?_) (fun _=> ?_) (by rw [hx];simp) h3,rfl,rfl⟩
  ·rcases partC_ok hv with⟨_,c,h1,_⟩|⟨_,h1,_⟩|⟨_,h1,_⟩
   ·rw [e]at h1;simp at h1
   ·rw [e]at h1
    have:n=0:=by simp at h1;omega
    rw [this]at hn0;cases hn0
   ·rw [h1]at hn0;cases hn0
  ·exact Nat.pos_of_ne_zero fun e=>by rw [e]at hn0;cases hn0
 ·cases h
theorem load_ok(hS:Rel C w0 S0 ρ S F w){t:Nat}{x:Operand}{c:SC}{ro:Ro}(hx:evn md F x=c.v ρ)(h:opLoad C S.H t c=some ro)(hg:All ro.g):Val C md ρ S F w (.load t x) ro.v∧ro.H=S.H∧ro.m=[]:=by
 obtain⟨L,hH,hM⟩:=hS.mem
 unfold opLoad at h
 split at h
 ·rename_i n a hn ha
  cases hn0:zav n 0 with
  |true=>rw [hn0]at h;cases h
  |false=>
   rw [hn0]at h
   simp only [cond_false]at h
   split at h
   ·rename_i id off
    split at h
    ·rename_i e cs hb
     rw [abm]at hb
     obtain⟨v,hv,rfl⟩:=aol h
     obtain⟨_,r,hr,vs,rfl,hm⟩:=hM.2 id _ hb
     have hbk:=hH.blkAt id hr
     have hx:evn md F x=.pointer (some ⟨(ρ id).b,off,none⟩):=hx
     refine⟨⟨partC_oks hv (hS.ho id e cs hb), ?_⟩,rfl,rfl⟩
     rcases partC_ok hv with⟨rfl,c,h1,h2,rfl⟩|⟨rfl,h1,h2,rfl⟩|⟨rfl,rfl,rfl⟩
     ·exact⟨_,rfl,fun d ty pos after=>x_ld1 (ρ id).b off vs e _ hbk (hm.2 off c h1 h2) hx (oAg ha w)⟩
     ·refine⟨_,rfl,fun d ty pos after=>x_ldN (ρ id).b off n vs _ e hbk ?_ (by simp;omega) hx (oAg ha w) (oSz hn w)⟩
      apply List.ext_getElem?
      intro j
      rw [List.getElem?_take,List.getElem?_map,List.getElem?_take]
      by_cases hj:j<n
      ·rw [if_pos hj,if_pos hj,List.getElem?_drop,List.getElem?_drop]
       have hlt:off+j<cs.length:=by omega
       have e1:=List.getElem?_eq_getElem hlt
       rw [e1,hm.2 (off+j) _ e1 (h2 _ (List.mem_of_getElem? (i:=j) (by rw [List.getElem?_take,if_pos hj,List.getElem?_drop];exact e1)))]
       rfl
      ·rw [if_neg hj,if_neg hj];rfl
     ·exact⟨_,rfl,fun d ty pos after=>x_ldN (ρ id).b off 0 vs _ e hbk (by simp) rfl hx (oAg ha w) (oSz hn w)⟩
    ·cases h
   ·rename_i id j sz off
    have hx:evn md F x=.pointer (some (ea (ρ id).a (j.toNat*sz+off))):=hx
    split at h
    ·rename_i e b τ l hb
     rw [abm]at hb
     obtain⟨_,r,hr,he⟩:=hM.2 id _ hb
     have he:r=rwt τ.enc e τ.sz (ρ id).o (ρ id).a (ρ id).cap l:=he
     subst he
     exact partE_ok (hH.rdrw id hr) hn ha hn0 hx h hg
    ·rename_i τ l hb
     rw [abm]at hb
     obtain⟨_,r,hr,_,hro,hne,_⟩:=hM.2 id _ hb
     split at h
     ·rename_i ro2 hp
      cases h
      exact partE_ok (hro.hpN hH hne) hn ha hn0 hx hp hg
     ·exact wholeE_ok (hro.hpN hH hne) hn ha hn0 hx h
    ·rename_i m l hb
     rw [abm]at hb
     obtain⟨_,r,hr,he⟩:=hM.2 id _ hb
     have he:r=brow (.slice (ρ id).a m (ρ id).cap) m l:=he
     subst he
     have hR:=hH.rdbrow id hr
     have e1:l.map bt=l.flatMap (Ty.c').enc:=(flat_eB l).symm
     rw [e1]at hR
     exact partE_ok (τ:=.c') hR hn ha hn0 hx h hg
    ·cases h
   ·cases h
 ·cases h
end
open Go.Wk
open Go.Ce (Tr)
open List renaming append_assoc → zal, append_nil → zam, flatMap_cons → zas, length_append → zab, length_map → zaK, length_set → zaD
open Nat renaming add_assoc → zaQ, add_comm → zaX, add_zero → zaP, beq → zav, eq_of_beq_eq_true → zag, le_refl → zao, one_pos → zbq
section
variable {C : Cx} {md : Md} {w0 w : World} {S0 : List Nat} {ρ : Nat → Ad} {S : St} {F : Nat → Value}
theorem rel_upd{L:List Res}{r:Res}{w2:World}{o o1:Ob}{id:Nat}{S2:St}(hS:Rel C w0 S0 ρ S F w)(hM:Mt w0 S0 ρ S.H L)(h1:S.H[id]? =some o1)(hH:Hp w0 S0 (L.set id r) w2)(hr:RO w0 S0 ρ id o r)(hl:o.len=o1.len)(ho:∀e cs,o=.bl e cs→∀c∈cs,c.ok S.H.length)
  (hF:S2.F=S.F) (hH2:S2.H=art S.H id o):Rel C w0 S0 ρ S2 F w2:=by
 have ha:∀t,S2.at t=S.at t:=fun t=>by rw [St.at_eq,St.at_eq,hF]
 have hlen:S2.H.length=S.H.length:=by rw [hH2,amz]
 have hlt:=(List.getElem?_eq_some_iff.1 h1).1
 refine⟨fun g i hg=>by rw [hlen];exact hS.gl g i hg,fun t u hu=>hS.fr t u (by rw [←ha];exact hu),fun t=>by rw [ha,hlen];exact hS.fo t,fun i e cs hb c hc=> ?_,⟨L.set id r,hH,by simp [hM.1,hlen],fun i o2 h2=> ?_⟩⟩
 ·rw [hH2,aei]at hb
  rw [hlen]
  split at hb
  ·cases hb;exact ho e cs rfl c hc
  ·exact hS.ho i e cs hb c hc
 ·rw [hH2,aei]at h2
  split at h2
  ·rename_i hh
   cases h2
   rw [hh.1]
   exact⟨by rw [hl];exact(hM.2 id o1 h1).1,r,by rw [List.getElem?_set];simp [hM.1,hlt],hr⟩
  ·rename_i hh
   obtain⟨h3,r2,h4,h5⟩:=hM.2 i o2 h2
   refine⟨h3,r2, ?_,h5⟩
   rw [List.getElem?_set,if_neg (fun e=>hh ⟨e.symm,hlt⟩)];exact h4
theorem nx_upd{o o1:Ob}{id:Nat}{S2:St}{m:List Rg}(hS:Rel C w0 S0 ρ S F w)(h1:S.H[id]? =some o1)(hm0:S.oks m=true)(hk:∀al:List Rg,(∀j,cov id j m=true→cov id j al=true)→asl al id ρ ρ (some o) o1)(hH2:S2.H=art S.H id o)(hnb:S2.nb=S.nb)(hal:S2.al=S.al)(hm:S2.m=m++S.m):Nx S ρ S2 ρ:=by
 have hle:∀nb al,(∀j,id<nb→cov id j m=true→cov id j al=true)→Le nb al ρ S.H ρ S2.H:=by
  intro nb al hc
  rw [hH2]
  refine⟨by rw [amz];exact zao _,Up.refl,fun i o2 hi h2=> ?_⟩
  rw [aei]
  split
  ·rename_i hh
   rw [hh.1,h1]at h2
   cases h2
   rw [hh.1]at hi⊢
   exact hk al fun j=>hc j hi
  ·rw [h2];exact asl.refl
 exact⟨⟨hnb,hal,hle _ _ fun j hi hc=>oks_cov hm0 hi hc⟩,hle _ _ fun j _ hc=>by rw [hm];exact aia.2 (.inl hc),fun id j hc=>by rw [hm];exact aia.2 (.inr hc)⟩
theorem splice_get{cs vs:List Value}{off:Nat}(h:off+vs.length≤cs.length)(j:Nat):(ass cs off vs)[j]? =if off≤j∧j<off+vs.length then vs[j-off]? else cs[j]? :=by
 unfold ass
 by_cases hj:j<off
 ·rw [if_neg (by omega),zal,List.getElem?_append_left (by simp;omega),List.getElem?_take,if_pos hj]
 ·by_cases hj2:j<off+vs.length
  ·rw [if_pos ⟨by omega,hj2⟩,List.getElem?_append_left (by simp;omega),List.getElem?_append_right (by simp;omega)]
   simp;congr 1;omega
  ·rw [if_neg (by omega),List.getElem?_append_right (by simp;omega),List.getElem?_drop]
   congr 1;simp;omega
theorem splice_len{cs vs:List Value}{off:Nat}(h:off+vs.length≤cs.length):(ass cs off vs).length=cs.length:=by
 unfold ass;simp;omega
theorem step_store_bl{ty:TypeId}{pos:String}{after:Array Edge}(hS:Rel C w0 S0 ρ S F w)(hn:C.nn=md.n){t n id off e:Nat}{x y:Operand}{cs vs cs2:List SC}(hb:S.H[id]? =some (.bl e cs))(hx:evn md F x=bptr (ρ id).b off)(hvs:(S.ev C y).cells=some vs)(hsz:tSz C t=some n)(hl:vs.length=n)(hp:putC cs off vs=some cs2)(hm:S.oks [(id,off,off+n)]=true):
  Step C md w0 S0 ρ S F w ⟨none,.store t x y,ty,pos,after,none⟩ ⟨S.F,art S.H id (.bl e cs2),S.nb,S.al,[(id,off,off+n)]++S.m⟩:=by
 intro ops Q rest hk
 obtain⟨L,hH,hM⟩:=hS.mem
 obtain⟨_,r,hr,vals,rfl,hmat⟩:=hM.2 id _ hb
 obtain⟨h1,h2⟩:=awz hS hn y
 obtain⟨u,h3,h4⟩:=SV.cells_v (ρ:=ρ) hvs
 have h5:=h2 u h3
 obtain⟨h6,h7⟩:=auh hp
 have hle:off+(vs.map (SC.v ρ)).length≤vals.length:=by rw [hmat.1];simpa using h6
 have hvo:=SV.cells_ok hvs h1
 obtain⟨w',hrun,hH'⟩:=hH.stored (P:=C.P) (off:=off) (vs:=vs.map (SC.v ρ)) hr hle (fun v hv=>by
  obtain⟨c,_,rfl⟩:=List.mem_map.1 hv
  exact SC.one ρ c)
 have hx:evn md F x=.pointer (some ⟨(ρ id).b,off,none⟩):=hx
 have hs:(sizeOf t).run C.P w=.ok (vs.map (SC.v ρ)).length w:=by rw [zaK,hl];exact oSz hsz w
 refine w_skip (w':=w') rfl rfl ?_ (hk ρ F w' ?_ ?_ (fun _ _=>rfl) (fun d hd=>by cases hd))
 ·have hs2:(sizeOf t).run C.P w=.ok vs.length w:=by rw [zaK]at hs;exact hs
  simp [execOp,hx,h5,Instr.storeAt,Instr.sureAddr,storeVar,hs2,h4,hrun]
 ·refine rel_upd (o:=.bl e cs2) hS hM hb hH' ⟨_,rfl,by rw [splice_len hle,hmat.1,putC_len hp],fun j c hj hkn=> ?_⟩ rfl (fun e2 cs3 he c hc=> ?_) rfl rfl
  ·rw [putC_get hp]at hj
   rw [splice_get hle,zaK]
   split at hj
   ·rename_i hh
    rw [if_pos hh,List.getElem?_map,hj];rfl
   ·rename_i hh
    rw [if_neg hh];exact hmat.2 j c hj hkn
  ·cases he
   obtain⟨j,hj⟩:=List.mem_iff_getElem?.1 hc
   rw [putC_get hp]at hj
   split at hj
   ·exact hvo c (List.mem_of_getElem? hj)
   ·exact hS.ho id e cs hb c (List.mem_of_getElem? hj)
 ·refine nx_upd (o:=.bl e cs2) (m:=[(id,off,off+n)]) hS hb hm (fun al hc=>.inr ⟨cs2,rfl,putC_len hp,fun j c hj=> ?_⟩) rfl rfl rfl rfl
  by_cases hh:off≤j∧j<off+vs.length
  ·left
   refine hc j (afs.2 ⟨_,List.mem_singleton.2 rfl,rfl,hh.1, ?_⟩)
   show j<off+n
   omega
  ·exact .inr ⟨c,by rw [putC_get hp,if_neg hh];exact hj,fun hk=>⟨hk,rfl⟩⟩
theorem flat_set{α:Type}{f:α→List Value}{sz:Nat}(hE:Enc f sz):∀(l:List α) (i:Nat) (y:α),l[i]? =some y→∃A B,l.flatMap f=A++(f y++B)∧A.length=i*sz∧∀x,(l.set i x).flatMap f=A++(f x++B)
 |z::l,0,y,h=>by
  have:z=y:=by simpa using h
  subst this
  exact⟨[],l.flatMap f,rfl,by simp,fun x=>rfl⟩
 |z::l,i+1,y,h=>by
  obtain⟨A,B,h1,h2,h3⟩:=flat_set hE l i y (by simpa using h)
  exact⟨f z++A,B,by rw [zas,h1,zal],by rw [zab,hE.len,h2,Nat.succ_mul,zaX],fun x=>by rw [List.set_cons_succ,zas,h3,zal]⟩
theorem splice_mid{A E B vs:List Value}{off:Nat}(h:off+vs.length≤E.length):ass (A++(E++B)) (A.length+off) vs=A++(ass E off vs++B):=by
 unfold ass
 rw [List.take_length_add_append,zaQ,List.drop_length_add_append,List.take_append_of_le_length (by omega),List.drop_append_of_le_length h]
 simp [zal]
theorem rwt_own{α:Type}{f:α→List Value}{e sz cap g:Nat}{o:Option Nat}{l:List α}{L:List Res}{k:Nat}(hH:Hp w0 S0 L w)(hk:L[k]? =some (rwt f e sz o (some ⟨g,0,none⟩) cap l))(hl:l≠[]):o=some g:=by
 obtain⟨h6,_⟩:=hH.res _ (List.mem_of_getElem? hk)
 rcases h6 with⟨_,h8,_⟩|⟨g',cur,h7,h8,_⟩
 ·exact absurd h8 hl
 ·simp only [Option.some.injEq,Addr.mk.injEq,and_true]at h8
  rw [h8];exact h7
theorem step_store_rw{ty:TypeId}{pos:String}{after:Array Edge}(hS:Rel C w0 S0 ρ S F w)(hn:C.nn=md.n){t n id sz off e b:Nat}{τ:Ty}{l l2:List τ.T}{j:Int}{x y:Operand}{vs:List SC}(hb:S.H[id]? =some (.rw e b τ l))(hx:evn md F x=.pointer (some (ea (ρ id).a (j.toNat*sz+off))))(hvs:(S.ev C y).cells=some vs)(hsz:tSz C t=some n)(hl:vs.length=n)(hn0:zav n 0=false)
  (hk0:szOk sz j τ=true) (hf:τ.flat=true) (hj:0≤j∧j<(l.length:Int)) (hp:setE τ l j off vs=some l2) (hm:S.oks [(id,0,1)]=true):
  Step C md w0 S0 ρ S F w ⟨none,.store t x y,ty,pos,after,none⟩ ⟨S.F,art S.H id (.rw e b τ l2),S.nb,S.al,[(id,0,1)]++S.m⟩:=by
 intro ops Q rest hk
 obtain⟨L,hH,hM⟩:=hS.mem
 obtain⟨hln,r,hr,he⟩:=hM.2 id _ hb
 have he:r=rwt τ.enc e τ.sz (ρ id).o (ρ id).a (ρ id).cap l:=he
 subst he
 have hE:=Ty.encOk hf
 obtain⟨h1,h2⟩:=awz hS hn y
 obtain⟨u,h3,h4⟩:=SV.cells_v (ρ:=ρ) hvs
 have h5:=h2 u h3
 unfold setE at hp
 split at hp
 ·rename_i cs hcs
  split at hp
  ·rename_i z hz
   cases hp
   have hjl:j.toNat<l.length:=by omega
   obtain⟨A,B,f1,f2,f3⟩:=flat_set hE l j.toNat _ (elT_get τ l j hj)
   obtain⟨h6,h7⟩:=auh hcs
   have hel:=(Ty.lay_flat τ 0 0 (elT τ l j) hf).2 ρ
   have hz2:=(rd0_ok τ cs z [] hz).2 ρ
   rw [List.map_nil,zam]at hz2
   have hll:(elC τ l j).length=τ.sz:=(elC_ok (l:=l) (j:=j) hf 0).2
   have hsp:ass (τ.enc (elT τ l j)) off (vs.map (SC.v ρ))=τ.enc z:=by
    rw [←hz2,←hel,h7]
    unfold ass elC
    simp
   have hE1:(τ.enc (elT τ l j)).length=τ.sz:=τ.enc_len _ hf
   have hoff:off+(vs.map (SC.v ρ)).length≤(τ.enc (elT τ l j)).length:=by rw [hE1,zaK,←hll];exact h6
   cases ho:(ρ id).o with
   |none=>
    exfalso
    rw [ho]at hr
    obtain⟨h8,_⟩:=hH.res _ (List.mem_of_getElem? hr)
    rcases h8 with⟨_,h9,_⟩|⟨g,cur,h9,_⟩
    ·subst h9;simp at hjl
    ·cases h9
   |some g=>
    rw [ho]at hr
    obtain⟨ha,h8⟩:=hH.rwrow hE id hr
    have hlt:id<L.length:=(List.getElem?_eq_some_iff.1 hr).1
    have hfl:(l.flatMap τ.enc).length=A.length+(τ.sz+B.length):=by rw [f1];simp [hE1]
    obtain⟨w',hrun,h9⟩:=h8.strow (P:=C.P) (k:=id) (vs:=vs.map (SC.v ρ)) (j:=A.length+off) (List.getElem?_set_self hlt) (by rw [hfl];rw [hE1]at hoff;omega) (fun v hv=>by
     obtain⟨c,_,rfl⟩:=List.mem_map.1 hv
     exact SC.one ρ c) (fun hnil=>by
     have:vs=[]:=List.map_eq_nil_iff.1 hnil
     rw [this]at hl
     rw [←hl]at hn0;cases hn0)
    rw [akp,f1,splice_mid hoff,hsp,←f3 z,show l.length=(l.set j.toNat z).length by simp]at h9
    obtain⟨o',h10⟩:=h9.rowrw (k:=id) (l:=l.set j.toNat z) (List.getElem?_set_self hlt)
    rw [akp]at h10
    have ho':o'=some g:=by
     rw [ha]at h10
     refine rwt_own h10 (List.getElem?_set_self hlt) fun hnil=> ?_
     have:(l.set j.toNat z).length=0:=by rw [hnil];rfl
     rw [zaD]at this;omega
    rw [ho',←ho]at h10
    have hs2:(sizeOf t).run C.P w=.ok vs.length w:=by rw [hl];exact oSz hsz w
    refine w_skip (w':=w') rfl rfl ?_ (hk ρ F w' ?_ ?_ (fun _ _=>rfl) (fun d hd=>by cases hd))
    ·have hadr:j.toNat*sz+off=A.length+off:=by rw [szOk_mul hk0,f2]
     rw [hadr]at hx
     simp [execOp,hx,h5,Instr.storeAt,Instr.sureAddr,storeVar,hs2,h4,hrun]
    ·exact rel_upd (o:=.rw e b τ (l.set j.toNat z)) hS hM hb h10 rfl (by show(l.set j.toNat z).length=l.length;simp) (fun _ _ he=>by cases he) rfl rfl
    ·exact nx_upd (o:=.rw e b τ (l.set j.toNat z)) (m:=[(id,0,1)]) hS hb hm (fun al hc=>.inl (hc 0 (afs.2 ⟨_,List.mem_singleton.2 rfl,rfl,zao _,zbq⟩))) rfl rfl rfl rfl
  ·cases hp
 ·cases hp
theorem step_store_br{ty:TypeId}{pos:String}{after:Array Edge}(hS:Rel C w0 S0 ρ S F w)(hn:C.nn=md.n){t id sz m:Nat}{l:Str}{j:Int}{x y:Operand}{v:SC}{c:UInt8}(hb:S.H[id]? =some (.br m l))(hx:evn md F x=.pointer (some (ea (ρ id).a (j.toNat*sz+0))))(hvs:S.ev C y=.c' v)(hv:v.rC=some c)(hsz:tSz C t=some 1)
  (hk0:szOk sz j .c'=true) (hj:0≤j∧j<(l.length:Int)) (hm:S.oks [(id,0,1)]=true):
  Step C md w0 S0 ρ S F w ⟨none,.store t x y,ty,pos,after,none⟩ ⟨S.F,art S.H id (.br m (l.set j.toNat c)),S.nb,S.al,[(id,0,1)]++S.m⟩:=by
 intro ops Q rest hk
 obtain⟨L,hH,hM⟩:=hS.mem
 obtain⟨hln,r,hr,he⟩:=hM.2 id _ hb
 have he:r=brow (.slice (ρ id).a m (ρ id).cap) m l:=he
 subst he
 obtain⟨h1,h2⟩:=awz hS hn y
 have hy:evn md F y=bt c:=by
  rw [hvs]at h2
  rw [h2 _ rfl,rC_v hv ρ]
 have hx:evn md F x=.pointer (some (ea (ρ id).a (j.toNat*1))):=by
  rw [hx,zaP,szOk_mul hk0];rfl
 refine w_stB hH id (ρ id).a m (ρ id).cap j l c hr hj hx hy (oSz hsz w) fun w' hH'=>hk ρ F w' ?_ ?_ (fun _ _=>rfl) (fun d hd=>by cases hd)
 ·exact rel_upd (o:=.br m (l.set j.toNat c)) hS hM hb hH' rfl rfl (fun _ _ he=>by cases he) rfl rfl
 ·exact nx_upd (o:=.br m (l.set j.toNat c)) (m:=[(id,0,1)]) hS hb hm (fun al hc=>.inl (hc 0 (afs.2 ⟨_,List.mem_singleton.2 rfl,rfl,zao _,zbq⟩))) rfl rfl rfl rfl
theorem step_store{ty:TypeId}{pos:String}{after:Array Edge}(hS:Rel C w0 S0 ρ S F w)(hn:C.nn=md.n){t:Nat}{x y:Operand}{ro:Ro}(h:opM C (S.ev C) S.H (.store t x y)=some ro)(hg:All ro.g)(hm:S.oks ro.m=true):
  Step C md w0 S0 ρ S F w ⟨none,.store t x y,ty,pos,after,none⟩ ⟨S.F,ro.H,S.nb,S.al,ro.m++S.m⟩∧ro.v=.u':=by
 obtain⟨a,ha,h⟩:=ack (show on1 (S.ev C x) (fun a=>opStore C S.H t a (S.ev C y))=some ro from h)
 have hx:=(agi hS hn ha).2
 unfold opStore at h
 split at h
 ·rename_i n vs hsz hvs
  have h:=aas h
  have hl:=zag h.1
  have h:=h.2
  split at h
  ·rename_i id off
   split at h
   ·rename_i e cs hb
    rw [abm]at hb
    split at h
    ·rename_i cs2 hp
     cases h
     exact⟨step_store_bl hS hn hb hx hvs hsz hl hp hm,rfl⟩
    ·cases h
   ·cases h
  ·rename_i id j sz off
   cases hn0:zav n 0 with
   |true=>rw [hn0]at h;cases h
   |false=>
    rw [hn0]at h
    simp only [cond_false]at h
    split at h
    ·rename_i e b τ l hb
     rw [abm]at hb
     split at h
     ·rename_i l2 hp
      have h:=aas h
      have h1:=agp h.1
      cases h.2
      exact⟨step_store_rw hS hn hb hx hvs hsz hl hn0 h1.1 h1.2 hg.1 hp hm,rfl⟩
     ·cases h
    ·rename_i m l hb
     rw [abm]at hb
     split at h
     ·rename_i v hv
      split at h
      ·rename_i c hc
       have h:=aas h
       have h1:=agp h.1
       have h2:=zag h1.2
       cases h.2
       subst h2
       have hvs':(S.ev C y).cells=some [v]:=by rw [hv];rfl
       rw [hvs]at hvs'
       have e1:vs=[v]:=Option.some.inj hvs'
       rw [e1]at hl
       have e2:n=1:=hl.symm
       rw [e2]at hsz
       exact⟨step_store_br hS hn hb hx hv hc hsz h1.1 hg.1 hm,rfl⟩
      ·cases h
     ·cases h
    ·cases h
  ·cases h
 ·cases h
end
open Go.Wk
open Go.Ce (Tr)
open List renaming length_append → zab, length_drop → zaq, length_take → zaE, map_cons → zaI, mem_cons_of_mem → zaf, mem_cons_self → zak
open Nat renaming add_zero → zaP, beq → zav, eq_of_beq_eq_true → zag, le_of_ble_eq_true → zaG, le_refl → zao, one_pos → zbq, succ → zbk, zero_add → zbc, zero_le → zah
def EOk(C:Cx):Prop:=∀t e b τ,C.E t=some (e,b,τ)→C.P.underlying t=some (.slice e)∧TI C.P e τ.sz b∧τ.flat=true∧0<b
section
variable {C : Cx} {md : Md} {w0 w : World} {S0 : List Nat} {ρ : Nat → Ad} {S : St} {F : Nat → Value}
theorem len_ok(hS:Rel C w0 S0 ρ S F w){x:Operand}{t:TypeId}{c:SC}{g:List PD}{r:SV}(hx:evn md F x=c.v ρ)(hc:c.ok S.H.length)(h:lenC C S.H t c=some (g,r)):Val C md ρ S F w (.call ⟨.builtin .len, #[x], #[t]⟩) r:=by
 unfold lenC at h
 split at h
 ·rename_i l
  have h:=aas h
  cases h.2
  exact afg rfl rfl fun d ty pos after=>x_len l (oStr h.1) hx
 ·split at h
  ·rename_i e he
   split at h
   ·rename_i id _
    split at h
    ·rename_i o ho
     cases h
     rw [abm]at ho
     refine afg rfl rfl fun d ty pos after=> ?_
     rw [rel_lns hS id o ho]
     exact x_lenS (ρ id).a (ρ id).ln (ρ id).cap e (oSl he) hx
    ·cases h
   ·cases h
    exact afg rfl rfl fun d ty pos after=>x_lenS _ _ _ e (oSl he) hx
   ·cases h
    exact afg rfl rfl fun d ty pos after=>x_lenS _ _ _ e (oSl he) hx
   ·cases h
  ·cases h
theorem lenX_ok(hS:Rel C w0 S0 ρ S F w){id m:Nat}(h:lenX S.H id=some m)(h0:0<m):(ρ id).ln=m∧(ρ id).a≠none:=by
 obtain⟨L,hH,hM⟩:=hS.mem
 unfold lenX at h
 split at h
 ·rename_i e b t l hb
  have h:=aas h
  cases h.2
  rw [abm]at hb
  obtain⟨h1,r,hr,he⟩:=hM.2 id _ hb
  have he:r=rwt t.enc e t.sz (ρ id).o (ρ id).a (ρ id).cap l:=he
  subst he
  refine⟨h1.symm,(hH.rdrw id hr).some_ ?_⟩
  rw [(Ty.encOk h.1).flat]
  exact Nat.mul_pos h0 (Ty.sz_pos h.1)
 ·rename_i t l hb
  have h:=aas h
  cases h.2
  rw [abm]at hb
  obtain⟨h1,r,hr,_,hro,_⟩:=hM.2 id _ hb
  refine⟨h1.symm,hro.some_ ?_⟩
  rw [(Ty.encOk h.1).flat]
  exact Nat.mul_pos h0 (Ty.sz_pos h.1)
 ·rename_i k l hb
  cases h
  rw [abm]at hb
  obtain⟨h1,r,hr,he⟩:=hM.2 id _ hb
  have he:r=brow (.slice (ρ id).a k (ρ id).cap) k l:=he
  subst he
  have h1:k=(ρ id).ln:=h1
  exact⟨by rw [←h1];exact(rel_brk hS id k l hb).symm,(hH.rdbrow id hr).some_ (by simpa using h0)⟩
 ·cases h
theorem indexAddr_ok(hS:Rel C w0 S0 ρ S F w){t:TypeId}{x ix:Operand}{a c:SC}{ro:Ro}(hx:evn md F x=a.v ρ)(ha:a.ok S.H.length)(hi:evn md F ix=c.v ρ)(h:aom C S.H t a c=some ro)(hg:All ro.g):Val C md ρ S F w (.indexAddr t x ix) ro.v∧ro.H=S.H∧ro.m=[]:=by
 unfold aom at h
 split at h
 ·rename_i j hj
  obtain⟨q,hq⟩:=asI_v hj ρ
  rw [hq]at hi
  split at h
  ·rename_i e he
   split at h
   ·rename_i sz hsz
    split at h
    ·rename_i id
     split at h
     ·rename_i m hm
      cases h
      have hb:=hg.1
      obtain⟨h1,h2⟩:=lenX_ok hS hm (by omega)
      exact⟨⟨ha,_,rfl,fun d ty pos after=>x_ixa (ρ id).a (ρ id).ln (ρ id).cap e sz q j (oSl he) (oSz hsz w) hx hi (by omega) h2⟩,rfl,rfl⟩
     ·cases h
    ·rename_i id m
     cases h
     refine⟨⟨ha,_,rfl,fun d ty pos after=> ?_⟩,rfl,rfl⟩
     have:=x_ixa (P:=C.P) (w:=w) (d:=d) (ty:=ty) (pos:=pos) (after:=after) (some ⟨(ρ id).b,0,none⟩) m m e sz q j (oSl he) (oSz hsz w) hx hi hg.1 (by simp)
     rw [this]
     show _=Result.ok (Next.value (bptr (ρ id).b (j.toNat*sz))) w
     unfold ea bptr
     simp [ame]
    ·cases h
   ·cases h
  ·split at h
   ·rename_i q2 hq2
    split at h
    ·rename_i sz hsz
     split at h
     ·rename_i id off
      have h:=aas h
      cases h.2
      refine⟨⟨ha,_,rfl,fun d ty pos after=> ?_⟩,rfl,rfl⟩
      have:=x_ixaA (P:=C.P) (w:=w) (d:=d) (ty:=ty) (pos:=pos) (after:=after) ⟨(ρ id).b,off,none⟩ q2.1 q2.2 sz q j (oAr hq2) (oSz hsz w) hx hi hg.1 (zaG h.1)
      rw [this]
      show _=Result.ok (Next.value (bptr (ρ id).b (off+j.toNat*sz))) w
      unfold ea bptr
      simp [ame]
     ·rename_i id j0 sz0 off0
      have h:=aas h
      have h2:=aas h.2
      have h3:=aas h2.2
      cases h3.2
      refine⟨⟨ha,_,rfl,fun d ty pos after=> ?_⟩,rfl,rfl⟩
      have e1:=zag h2.1
      have e2:=zag h3.1
      subst e1
      subst e2
      have:=x_ixaA (P:=C.P) (w:=w) (d:=d) (ty:=ty) (pos:=pos) (after:=after) (ea (ρ id).a 0) q2.1 q2.2 sz q j (oAr hq2) (oSz hsz w) (by rw [hx];rfl) hi hg.1 (zaG h.1)
      rw [this]
      show Result.ok (Next.value (.pointer (some ((ea (ρ id).a 0).add (j.toNat*sz))))) w=Result.ok (Next.value (.pointer (some (ea (ρ id).a (j.toNat*sz+0))))) w
      rw [ea_add,zbc,zaP]
     ·cases h
    ·cases h
   ·cases h
 ·cases h
theorem cont_ok(hS:Rel C w0 S0 ρ S F w){t:Ty}{c:SC}{l:List t.T}(h:contE S.H t c=some l):∃a cap,c.v ρ=.slice a l.length cap∧Rd w a (l.flatMap t.enc):=by
 obtain⟨L,hH,hM⟩:=hS.mem
 unfold contE at h
 split at h
 ·cases h;exact⟨none,0,rfl,Rd.nil _ _⟩
 ·rename_i id
  rw [abm]at h
  unfold anyOf at h
  split at h
  ·rename_i e b t2 l2 hb
   split at h
   ·rename_i hq
    obtain rfl:=Ty.eqb_eq hq
    cases h
    obtain⟨h1,r,hr,he⟩:=hM.2 id _ hb
    have he:r=rwt t2.enc e t2.sz (ρ id).o (ρ id).a (ρ id).cap l2:=he
    subst he
    have h1:l2.length=(ρ id).ln:=h1
    exact⟨(ρ id).a,(ρ id).cap,by show Value.slice _ (ρ id).ln _=_;rw [←h1];rfl,hH.rdrw id hr⟩
   ·cases h
  ·rename_i t2 l2 hb
   split at h
   ·rename_i hq
    obtain rfl:=Ty.eqb_eq hq
    cases h
    obtain⟨h1,r,hr,_,hro,hne,_⟩:=hM.2 id _ hb
    have h1:l2.length=(ρ id).ln:=h1
    exact⟨(ρ id).a,(ρ id).cap,by show Value.slice _ (ρ id).ln _=_;rw [←h1];rfl,hro.hpN hH hne⟩
   ·cases h
  ·rename_i m l2 hb
   unfold strOf at h
   split at h
   ·rename_i hq
    obtain rfl:=Ty.eqb_eq hq
    cases h
    obtain⟨h1,r,hr,he⟩:=hM.2 id _ hb
    have he:r=brow (.slice (ρ id).a m (ρ id).cap) m l2:=he
    subst he
    have h1:m=(ρ id).ln:=h1
    have h2:=rel_brk hS id m l2 hb
    exact⟨(ρ id).a,(ρ id).cap,by show Value.slice _ (ρ id).ln _=_;rw [←h1,←h2];rfl,Rd.ofbytes (hH.rdbrow id hr)⟩
   ·cases h
  ·cases h
 ·rename_i id m
  split at h
  ·rename_i e cs hb
   rw [abm]at hb
   obtain⟨_,r,hr,vs,rfl,hm⟩:=hM.2 id _ hb
   obtain⟨h1,_,h3⟩:=asn h
   refine⟨some ⟨(ρ id).b,0,none⟩,m,by rw [h1];rfl, ?_⟩
   have h4:=hm.all (rdAll_kn h)
   rw [←h3 ρ,←h4]
   exact hH.rdblk id hr
  ·cases h
 ·cases h
theorem tostr_ok(hS:Rel C w0 S0 ρ S F w){s t e:TypeId}{x:Operand}{c:SC}{l:Str}(hx:evn md F x=c.v ρ)(hs:slE C s=some e)(ht:apm C t=true)(he:isU8 C e=true)(h:contE S.H .c' c=some l):Val C md ρ S F w (.convert s t x) (.c' (.s' l)):=by
 obtain⟨a,cap,h1,h2⟩:=cont_ok hS h
 rw [h1]at hx
 exact afg rfl rfl fun d ty pos after=>x_tostr l a l.length cap e (Rd.bytes h2) rfl (oSl hs) (oStr ht) (oU8 he) hx
theorem mm_ok{b:Builtin}{x y:Operand}{ts:Array TypeId}{a c:SC}{g:List PD}{r:SV}(hx:evn md F x=a.v ρ)(hy:evn md F y=c.v ρ)(h:mmC b a c=some (g,r)):Val C md ρ S F w (.call ⟨.builtin b, #[x,y],ts⟩) r:=by
 unfold mmC at h
 split at h
 ·rename_i k u k2 v
  have h:=aas h
  cases h.2
  rw [←keq_eq h.1]at hy
  exact afg rfl rfl fun d ty pos after=>x_min k u v hx hy
 ·rename_i k u k2 v
  have h:=aas h
  cases h.2
  rw [←keq_eq h.1]at hy
  exact afg rfl rfl fun d ty pos after=>x_max k u v hx hy
 ·cases h
theorem nil_ok{x:Operand}{c:SC}{v:SV}(hx:evn md F x=c.v ρ)(hc:c.ok S.H.length)(h:opNil c=some v):Val C md ρ S F w (.nilCheck x) v:=by
 unfold opNil at h
 split at h
 ·rename_i id off
  cases h
  have hx:evn md F x=.pointer (some ⟨(ρ id).b,off,none⟩):=hx
  exact⟨hc,_,rfl,fun d ty pos after=>by simp [execOp,hx];rfl⟩
 ·rename_i id j sz off
  cases h
  have hx:evn md F x=.pointer (some (ea (ρ id).a (j.toNat*sz+off))):=hx
  exact⟨hc,_,rfl,fun d ty pos after=>by simp [execOp,hx];rfl⟩
 ·rename_i k ids
  cases h
  have hx:evn md F x=.func (.func k) #[] (ids.map fun id=>bptr (ρ id).b 0).toArray:=hx
  exact⟨hc,_,rfl,fun d ty pos after=>by simp [execOp,hx];rfl⟩
 ·cases h
theorem capI_ok{ev:Operand→SV}{n:Nat}:∀{l:List Operand} {ids:List Nat},(∀x∈l,(ev x).ok n∧∀u,(ev x).v ρ=some u→evn md F x=u)→capI (l.map ev)=some ids→l.map (evn md F)=ids.map (fun id=>bptr (ρ id).b 0)∧∀id∈ids,id<n
 |[],ids,_,h=>by cases h;exact⟨rfl,fun _ h=>by cases h⟩
 |x::l,ids,hx,h=>by
  have h:(match ev x with
   |.c' (.p' id off)=>bif zav off 0 then(match capI (l.map ev)with
    |some q=>some (id::q)
    |none=>none)else none
   |_=>none)=some ids:=h
  split at h
  ·rename_i id off hv
   have h:=aas h
   have h2:=h.2
   split at h2
   ·rename_i q hq
    cases h2
    obtain⟨h3,h4⟩:=capI_ok (fun y hy=>hx y (zaf _ hy)) hq
    obtain⟨h5,h6⟩:=hx x zak
    rw [hv]at h5 h6
    have h7:=h6 _ rfl
    rw [zag h.1]at h7
    refine⟨by rw [zaI,zaI,h3,h7];rfl,fun i hi=> ?_⟩
    rcases List.mem_cons.1 hi with rfl|hi
    ·exact h5 i (List.mem_singleton.2 rfl)
    ·exact h4 i hi
   ·cases h2
  ·cases h
theorem func_ok(hS:Rel C w0 S0 ρ S F w)(hn:C.nn=md.n){f:Fn}{a b:Array Operand}{v:SV}(h:opFunc (S.ev C) f a.toList b.toList=some v):Val C md ρ S F w (.makeFunc f a b) v:=by
 unfold opFunc at h
 split at h
 ·rename_i k
  split at h
  ·rename_i ha
   split at h
   ·rename_i ids hi
    cases h
    obtain⟨h1,h2⟩:=capI_ok (ρ:=ρ) (md:=md) (F:=F) (n:=S.H.length) (fun x _=>awz hS hn x) hi
    have ha:a= #[]:=Array.toList_inj.1 ha
    subst ha
    have hb:b.map (evn md F)=(ids.map fun id=>bptr (ρ id).b 0).toArray:=Array.toList_inj.1 (by rw [Array.toList_map,h1])
    refine⟨fun i hi=>h2 i hi,_,rfl,fun d ty pos after=> ?_⟩
    simp [execOp,Instr.makeFunc,hb,SC.v]
   ·cases h
  ·cases h
 ·cases h
theorem pick_ok(hS:Rel C w0 S0 ρ S F w)(hn:C.nn=md.n){c a b:Operand}{t:Bool}{v:SV}(hc:S.ev C c=.c' (.b' t))(hv:(bif t then S.ev C a else S.ev C b)=v)(hk:v≠.u'):Val C md ρ S F w (.pick c a b) v:=by
 have h1:=(agi hS hn hc).2
 have key:v.ok S.H.length∧∀u,v.v ρ=some u→(bif t then evn md F a else evn md F b)=u:=by
  cases t with
  |true=>have:=awz hS hn a;rw [show S.ev C a=v from hv]at this;exact this
  |false=>have:=awz hS hn b;rw [show S.ev C b=v from hv]at this;exact this
 obtain⟨u,hu⟩:∃u,v.v ρ=some u:=by cases v<;>first|exact⟨_,rfl⟩|exact absurd rfl hk
 exact⟨key.1,u,hu,fun d ty pos after=>x_pick t u h1 (key.2 u hu)⟩
variable {d : Nat} {ty : TypeId} {pos : String} {after : Array Edge}
theorem hp_idle{L:List Res}(h:Hp w0 S0 L w):Hp w0 S0 (nores::L) w:=by
 refine⟨h.os,h.tape,h.output,h.size,h.below,fun r hr=> ?_,List.Pairwise.cons (fun r _ b hb=>by cases hb) h.sep⟩
 rcases List.mem_cons.1 hr with rfl|hr
 ·exact⟨trivial,fun b hb=>by cases hb⟩
 ·exact h.res r hr
theorem set_perm{α:Type}:∀{L:List α} {id:Nat} (r:α),id<L.length→(L.set id r).Perm (r::L.eraseIdx id)
 |x::L,0,r,_=>List.Perm.refl _
 |x::L,id+1,r,h=>by
  simp only [List.set_cons_succ,List.eraseIdx_cons_succ]
  exact(List.Perm.cons x (set_perm r (by simpa using h))).trans (List.Perm.swap r x _)
theorem hp_moved{L:List Res}{id:Nat}{r:Res}(hid:id<L.length)(h:Hp w0 S0 (L.set id r) w):Hp w0 S0 (r::L.set id nores) w:=by
 have h1:=h.perm (set_perm r hid)
 have h2:=(hp_idle h1).perm (List.Perm.swap r nores _)
 exact h2.perm ((set_perm nores hid).symm.cons r)
theorem mt_upd{H:List Ob}{L:List Res}{r:Res}{o o1:Ob}{id:Nat}(hM:Mt w0 S0 ρ H L)(h1:H[id]? =some o1)(hr:RO w0 S0 ρ id o r)(hl:o.len=o1.len):Mt w0 S0 ρ (art H id o) (L.set id r):=by
 have hlt:=(List.getElem?_eq_some_iff.1 h1).1
 refine⟨by simp [hM.1,amz],fun i o2 h2=> ?_⟩
 rw [aei]at h2
 split at h2
 ·rename_i hh
  cases h2
  rw [hh.1]
  exact⟨by rw [hl];exact(hM.2 id o1 h1).1,r,by rw [List.getElem?_set];simp [hM.1,hlt],hr⟩
 ·rename_i hh
  obtain⟨h3,r2,h4,h5⟩:=hM.2 i o2 h2
  refine⟨h3,r2, ?_,h5⟩
  rw [List.getElem?_set,if_neg (fun e=>hh ⟨e.symm,hlt⟩)];exact h4
theorem rel_row{L:List Res}{w2:World}{id e b:Nat}{τ:Ty}{l:List τ.T}{o1:Ob}{o':Option Nat}{a':Option Addr}{cap':Nat}{m:List Rg}(hS:Rel C w0 S0 ρ S F w)(hM:Mt w0 S0 ρ S.H L)(h1:S.H[id]? =some o1)(hH:Hp w0 S0 (L.set id (rwt τ.enc e τ.sz o' a' cap' l)) w2)(hm:S.oks m=true)
  (hk:∀al:List Rg,(∀j,cov id j m=true→cov id j al=true)→asl al id ρ ρ (some (.dd o1.len)) o1):
  Rel C w0 S0 (adN ρ S.H.length ⟨o',a',cap',false,l.length⟩) (St.set ⟨S.F,art S.H id (.dd o1.len)++[.rw e b τ l],S.nb,S.al,m++S.m⟩ d (.c' (.l' S.H.length))) (upd F d (.slice a' l.length cap')) w2∧
  Nx S ρ (St.set ⟨S.F,art S.H id (.dd o1.len)++[.rw e b τ l],S.nb,S.al,m++S.m⟩ d (.c' (.l' S.H.length))) (adN ρ S.H.length ⟨o',a',cap',false,l.length⟩):=by
 have hlt:id<L.length:=by rw [hM.1];exact(List.getElem?_eq_some_iff.1 h1).1
 have hH2:=hp_moved hlt hH
 have hlen:(art S.H id (.dd o1.len)).length=S.H.length:=amz
 let S1:St:=⟨S.F,art S.H id (.dd o1.len),S.nb,S.al,m++S.m⟩
 have hS1:Rel C w0 S0 ρ S1 F w2:=rel_upd (o:=.dd o1.len) (r:=nores) hS hM h1 hH2.tail trivial rfl (fun _ _ he=>by cases he) rfl rfl
 have hM1:Mt w0 S0 ρ S1.H (L.set id nores):=mt_upd hM h1 trivial rfl
 have hN1:Nx S ρ S1 ρ:=nx_upd (o:=.dd o1.len) (m:=m) hS h1 hm hk rfl rfl rfl rfl
 have hl1:S1.H.length=S.H.length:=hlen
 have h3:Rel C w0 S0 (adN ρ S1.H.length ⟨o',a',cap',false,l.length⟩) ⟨S.F,art S.H id (.dd o1.len)++[.rw e b τ l],S.nb,S.al,m++S.m⟩ F w2:=rel_new (o:=.rw e b τ l) hS1 hM1 hH2 (by show _=_;rw [adN_n]) rfl (fun _ _ he=>by cases he) rfl rfl
 have h4:Nx S1 ρ ⟨S.F,art S.H id (.dd o1.len)++[.rw e b τ l],S.nb,S.al,m++S.m⟩ (adN ρ S1.H.length ⟨o',a',cap',false,l.length⟩):=nx_new (o:=.rw e b τ l) (m:=[]) hS1 rfl rfl rfl rfl
 rw [hl1]at h3 h4
 refine⟨awl h3 (by show some (Value.slice _ _ _)=_;rw [adN_n]) (fun i hi=> ?_), ?_⟩
 ·have:i=S.H.length:=List.mem_singleton.1 hi
  subst this
  show S.H.length<(art S.H id (.dd o1.len)++[_]).length
  rw [zab,hlen];simp
 ·have:=hN1.trans h4
  exact⟨⟨this.nb,this.al,this.le⟩,this.lg,this.mm⟩
theorem rel_row0{L:List Res}{w2:World}{e b:Nat}{τ:Ty}{l:List τ.T}{o':Option Nat}{a':Option Addr}{cap':Nat}(hS:Rel C w0 S0 ρ S F w)(hM:Mt w0 S0 ρ S.H L)(hH:Hp w0 S0 (rwt τ.enc e τ.sz o' a' cap' l::L) w2):
  Rel C w0 S0 (adN ρ S.H.length ⟨o',a',cap',false,l.length⟩) (St.set ⟨S.F,S.H++[.rw e b τ l],S.nb,S.al,[]++S.m⟩ d (.c' (.l' S.H.length))) (upd F d (.slice a' l.length cap')) w2∧
  Nx S ρ (St.set ⟨S.F,S.H++[.rw e b τ l],S.nb,S.al,[]++S.m⟩ d (.c' (.l' S.H.length))) (adN ρ S.H.length ⟨o',a',cap',false,l.length⟩):=by
 have h3:Rel C w0 S0 (adN ρ S.H.length ⟨o',a',cap',false,l.length⟩) ⟨S.F,S.H++[.rw e b τ l],S.nb,S.al,[]++S.m⟩ F w2:=rel_new (o:=.rw e b τ l) hS hM hH (by show _=_;rw [adN_n]) rfl (fun _ _ he=>by cases he) rfl rfl
 have h4:Nx S ρ ⟨S.F,S.H++[.rw e b τ l],S.nb,S.al,[]++S.m⟩ (adN ρ S.H.length ⟨o',a',cap',false,l.length⟩):=nx_new (o:=.rw e b τ l) (m:=[]) hS rfl rfl rfl rfl
 refine⟨awl h3 (by show some (Value.slice _ _ _)=_;rw [adN_n]) (fun i hi=> ?_),⟨⟨h4.nb,h4.al,h4.le⟩,h4.lg,h4.mm⟩⟩
 have:i=S.H.length:=List.mem_singleton.1 hi
 subst this
 show S.H.length<(S.H++[_]).length
 simp
theorem step_append(hE:EOk C)(hS:Rel C w0 S0 ρ S F w)(hn:C.nn=md.n){t:TypeId}{x y:Operand}{a c:SC}{ro:Ro}(hx:evn md F x=a.v ρ)(hy:evn md F y=c.v ρ)(h:opAppend C S.H t a c=some ro)(hg:All ro.g)(hm:S.oks ro.m=true):
  Step C md w0 S0 ρ S F w ⟨some d,.call ⟨.builtin .append, #[x,y], #[t,t]⟩,ty,pos,after,none⟩ (St.set ⟨S.F,ro.H,S.nb,S.al,ro.m++S.m⟩ d ro.v):=by
 intro ops Q rest hk
 have np:∀d2:Nat,(some d:Option Nat)=some d2→isPure (.call ⟨.builtin .append, #[x,y], #[t,t]⟩)=true→∀F2:Nat→Value,∃w3,(execOp (evn md F) (⟨some d,.call ⟨.builtin .append, #[x,y], #[t,t]⟩,ty,pos,after,none⟩:Oper)).run C.P w=.ok (.value (F2 d2)) w3:=fun d2 _ h=>by cases h
 obtain⟨L,hH,hM⟩:=hS.mem
 unfold opAppend at h
 split at h
 ·rename_i e b τ hE1
  obtain⟨ht,hT,hf,hb0⟩:=hE _ _ _ _ hE1
  split at h
  ·split at h
   ·rename_i l2 hl2
    cases h
    obtain⟨ax,cx,hy2,hR⟩:=cont_ok hS hl2
    rw [hy2]at hy
    refine w_appendT (Hp.nilrw hH τ.enc e τ.sz none) 0 none none ax 0 cx e τ.sz b [] l2 (Ty.encOk hf) rfl ht hT (Ty.sz_pos hf) hb0 hx hy hR hg.1 fun o' a' cap' w' h2=> ?_
    obtain⟨h3,h4⟩:=rel_row0 (b:=b) (d:=d) hS hM h2
    exact hk _ _ w' h3 h4 aqp fun d2 hd hp=>np d2 hd hp _
   ·cases h
  ·rename_i id
   split at h
   ·rename_i l l2 hl hl2
    cases h
    obtain⟨ax,cx,hy2,hR⟩:=cont_ok hS hl2
    rw [hy2]at hy
    have hob:S.H[id]? =some (.rw e b τ l):=by
     unfold wOf at hl
     simp only at hl
     split at hl
     ·rename_i q hq
      have h1:=aas hl
      have h2:=aas h1.2
      have h3:=rwE_rowOf hq h2.2
      rw [abm,zag h1.1,zag h2.1]at h3
      exact h3
     ·cases hl
    obtain⟨h1,r,hr,he⟩:=hM.2 id _ hob
    have he:r=rwt τ.enc e τ.sz (ρ id).o (ρ id).a (ρ id).cap l:=he
    subst he
    have h1:l.length=(ρ id).ln:=h1
    have hx2:evn md F x=.slice (ρ id).a l.length (ρ id).cap:=by rw [hx,h1];rfl
    refine w_appendT hH id (ρ id).o (ρ id).a ax (ρ id).cap cx e τ.sz b l l2 (Ty.encOk hf) hr ht hT (Ty.sz_pos hf) hb0 hx2 hy hR hg.1 fun o' a' cap' w' h2=> ?_
    obtain⟨h3,h4⟩:=rel_row (b:=b) (d:=d) (m:=[(id,0,1)]) hS hM hob h2 hm (fun al hc=>.inl (hc 0 (afs.2 ⟨_,List.mem_singleton.2 rfl,rfl,zao _,zbq⟩)))
    exact hk _ _ w' h3 h4 aqp fun d2 hd hp=>np d2 hd hp _
   ·cases h
  ·rename_i id m
   split at h
   ·rename_i l cs1 ss1 l2 hl hl2
    cases h
    obtain⟨ax,cx,hy2,hR⟩:=cont_ok hS hl2
    rw [hy2]at hy
    have hob:∃cs,S.H[id]? =some (.bl e cs)∧m≤1048576∧rdAll τ m cs=some l:=by
     simp only [Ty.rd]at hl
     split at hl
     ·rename_i e2 cs hb
      rw [abm]at hb
      have h1:=aas hl
      have h2:=aas h1.2
      have h3:=aas h2.2
      have h4:=h3.2
      split at h4
      ·rename_i y hy3
       cases h4
       rw [zag h1.1]at hb
       exact⟨cs,hb,zaG h3.1,hy3⟩
      ·cases h4
     ·cases hl
    obtain⟨cs,hob,hm2,hall⟩:=hob
    obtain⟨_,r,hr,vs,rfl,hmat⟩:=hM.2 id _ hob
    obtain⟨h1,_,h3⟩:=asn hall
    have h4:=hmat.all (rdAll_kn hall)
    have hH1:=hH.blkrw id τ.sz m l hr (Ty.encOk hf) (by rw [h4,h3 ρ]) h1 (by unfold maxLen;omega)
    have hlt:id<L.length:=(List.getElem?_eq_some_iff.1 hr).1
    have hx2:evn md F x=.slice (some ⟨(ρ id).b,0,none⟩) l.length m:=by rw [hx,h1];rfl
    refine w_appendT hH1 id (some (ρ id).b) (some ⟨(ρ id).b,0,none⟩) ax m cx e τ.sz b l l2 (Ty.encOk hf) (List.getElem?_set_self hlt) ht hT (Ty.sz_pos hf) hb0 hx2 hy hR hg.1 fun o' a' cap' w' h2=> ?_
    rw [akp]at h2
    have hlg:blL (ams S.H id)=zbk cs.length:=by rw [abm,hob];rfl
    obtain⟨h5,h6⟩:=rel_row (b:=b) (d:=d) (m:=[(id,0,blL (ams S.H id))]) hS hM hob h2 hm (fun al hc=>.inl fun j hj=>hc j (afs.2 ⟨_,List.mem_singleton.2 rfl,rfl,zah _,by show j<blL (ams S.H id);rw [hlg];omega⟩))
    exact hk _ _ w' h5 h6 aqp fun d2 hd hp=>np d2 hd hp _
   ·cases h
  ·cases h
 ·cases h
theorem rel_ro0{L:List Res}{τ:Ty}{l:List τ.T}{a':Option Addr}{cap':Nat}(hS:Rel C w0 S0 ρ S F w)(hM:Mt w0 S0 ρ S.H L)(hH:Hp w0 S0 L w)(hr:ROk w0 S0 ⟨none,a',cap',false,l.length⟩ τ l):
  Rel C w0 S0 (adN ρ S.H.length ⟨none,a',cap',false,l.length⟩) (St.set ⟨S.F,S.H++[.ro τ l],S.nb,S.al,[]++S.m⟩ d (.c' (.l' S.H.length))) (upd F d (.slice a' l.length cap')) w∧
  Nx S ρ (St.set ⟨S.F,S.H++[.ro τ l],S.nb,S.al,[]++S.m⟩ d (.c' (.l' S.H.length))) (adN ρ S.H.length ⟨none,a',cap',false,l.length⟩):=by
 have h3:Rel C w0 S0 (adN ρ S.H.length ⟨none,a',cap',false,l.length⟩) ⟨S.F,S.H++[.ro τ l],S.nb,S.al,[]++S.m⟩ F w:=rel_new (o:=.ro τ l) hS hM (hp_idle hH) ⟨rfl,by rw [adN_n];exact hr⟩ rfl (fun _ _ he=>by cases he) rfl rfl
 have h4:Nx S ρ ⟨S.F,S.H++[.ro τ l],S.nb,S.al,[]++S.m⟩ (adN ρ S.H.length ⟨none,a',cap',false,l.length⟩):=nx_new (o:=.ro τ l) (m:=[]) hS rfl rfl rfl rfl
 refine⟨awl h3 (by show some (Value.slice _ _ _)=_;rw [adN_n]) (fun i hi=> ?_),⟨⟨h4.nb,h4.al,h4.le⟩,h4.lg,h4.mm⟩⟩
 have:i=S.H.length:=List.mem_singleton.1 hi
 subst this
 show S.H.length<(S.H++[_]).length
 simp
theorem opSl_some{H:List Ob}{t:Nat}{x:SC}{lo hi:Option SC}{ro:Ro}(h:opSl C H t x lo hi=some ro):∃(id e:Nat) (τ:Ty) (l:List τ.T),x=.l' id∧H[id]? =some (.ro τ l)∧C.P.underlying t=some (.slice e)∧tSz C e=some τ.sz∧τ.flat=true∧
  ((∃b j,lo=none∧hi=some b∧asI b=some j∧ro=⟨[⟨0≤j∧j≤(l.length:Int),inferInstance⟩],.c' (.l' H.length),H++[.ro τ (l.take j.toNat)],[]⟩)∨
   ∃b j,lo=some b∧hi=none∧asI b=some j∧ro=⟨[⟨0≤j∧j≤(l.length:Int),inferInstance⟩],.c' (.l' H.length),H++[.ro τ (l.drop j.toNat)],[]⟩):=by
 unfold opSl at h
 split at h
 ·rename_i id
  split at h
  ·rename_i τ l hob
   rw [abm]at hob
   split at h
   ·rename_i e he
    have he:C.P.underlying t=some (.slice e):=by
     unfold slE at he
     split at he
     ·rename_i hu;cases he;exact hu
     ·cases he
    split at h
    ·rename_i sz hsz
     have h:=aas h
     have hq:=zag h.1
     subst hq
     have h:=aas h.2
     refine⟨_,e,τ,l,rfl,hob,he,hsz,h.1, ?_⟩
     have h:=h.2
     split at h
     ·rename_i b
      split at h
      ·rename_i j hj;cases h;exact .inl ⟨_,j,rfl,rfl,hj,rfl⟩
      ·cases h
     ·rename_i b
      split at h
      ·rename_i j hj;cases h;exact .inr ⟨_,j,rfl,rfl,hj,rfl⟩
      ·cases h
     ·cases h
    ·cases h
   ·cases h
  ·cases h
 ·cases h
theorem step_sl (hS : Rel C w0 S0 ρ S F w) (hn : C.nn = md.n) {t : TypeId} {x : Operand} {lo hi : Option Operand} {ro : Ro} (hstr : apm C t = false) (h : opM C (S.ev C) S.H (.slice t x lo hi none) = some ro) (hg : All ro.g) :
    Step C md w0 S0 ρ S F w ⟨some d, .slice t x lo hi none, ty, pos, after, none⟩ (St.set ⟨S.F, ro.H, S.nb, S.al, ro.m ++ S.m⟩ d ro.v) := by
  have h : (bif apm C t then pur S.H (on1 (S.ev C x) fun a => onO (S.ev C) lo fun i => onO (S.ev C) hi fun j => cutC a i j) else on1 (S.ev C x) fun a => onO (S.ev C) lo fun i => onO (S.ev C) hi fun j => opSl C S.H t a i j) = some ro := h
  rw [hstr] at h
  obtain ⟨c, h1, h2⟩ := ack (show on1 (S.ev C x) (fun a => onO (S.ev C) lo fun i => onO (S.ev C) hi fun j => opSl C S.H t a i j) = some ro from h)
  have hx := (agi hS hn h1).2
  obtain ⟨L, hH, hM⟩ := hS.mem
  have key : ∀ (i j : Option SC), opSl C S.H t c i j = some ro → (lo = none ∧ i = none ∨ ∃ o b, lo = some o ∧ i = some b ∧ evn md F o = b.v ρ) → (hi = none ∧ j = none ∨ ∃ o b, hi = some o ∧ j = some b ∧ evn md F o = b.v ρ) →
      Step C md w0 S0 ρ S F w ⟨some d, .slice t x lo hi none, ty, pos, after, none⟩ (St.set ⟨S.F, ro.H, S.nb, S.al, ro.m ++ S.m⟩ d ro.v) := by
    intro i j hop hlo hhi
    obtain ⟨id, e, τ, l, rfl, hob, hu, hsz, hf, hc⟩ := opSl_some hop
    obtain ⟨hl, r, hr, hown, hro, hne, hcap⟩ := hM.2 id _ hob
    have hl : l.length = (ρ id).ln := hl
    have hx : evn md F x = .slice (ρ id).a (ρ id).ln (ρ id).cap := hx
    rcases hc with ⟨b, k, rfl, rfl, hk, rfl⟩ | ⟨b, k, rfl, rfl, hk, rfl⟩
    · rcases hlo with ⟨rfl, _⟩ | ⟨o, b2, _, e2, _⟩
      rotate_left
      · cases e2
      rcases hhi with ⟨_, e2⟩ | ⟨o, b2, rfl, e2, ho⟩
      · cases e2
      cases e2
      obtain ⟨kk, hkk⟩ := asI_v hk ρ
      have hb := hg.1
      have hrun : ∀ d2 : Nat, (execOp (evn md F) (⟨some d2, .slice t x none (some o) none, ty, pos, after, none⟩ : Oper)).run C.P w = .ok (.value (.slice (ρ id).a k.toNat (ρ id).cap)) w := fun d2 => x_slTo (d := d2) (ρ id).a (ρ id).ln (ρ id).cap e τ.sz kk k hu (oSz hsz w) hx (ho.trans hkk) l hl.symm hb (by rw [← hl]; exact hcap)
      have hlen : (l.take k.toNat).length = k.toNat := by rw [zaE]; omega
      have hR : ROk w0 S0 ⟨none, (ρ id).a, (ρ id).cap, false, (l.take k.toNat).length⟩ τ (l.take k.toNat) := by
       refine ⟨?_, fun hn2 => hne (fun e0 => hn2 ?_), ?_⟩
       · intro j v hv
         have e1 : (l.flatMap τ.enc)[j]? = some v := by
           rw [← List.take_append_drop k.toNat l, List.flatMap_append, List.getElem?_append_left (List.getElem?_eq_some_iff.1 hv).1]; exact hv
         exact hro j v e1
       · rw [← List.take_append_drop k.toNat l, List.flatMap_append] at e0
         exact (List.append_eq_nil_iff.1 e0).1
       · show (l.take k.toNat).length ≤ (ρ id).cap
         rw [hlen]; omega
      obtain ⟨h3, h4⟩ := rel_ro0 (d := d) (τ := τ) (l := l.take k.toNat) (a' := (ρ id).a) (cap' := (ρ id).cap) hS hM hH hR
      intro ops Q rest hkk2
      rw [hlen] at h3 h4
      refine akh rfl rfl (hrun d) (hkk2 _ _ w h3 h4 aqp fun d2 hd _ => ⟨w, ?_⟩)
      cases hd
      rw [atm]; exact hrun d
    · rcases hhi with ⟨rfl, _⟩ | ⟨o, b2, _, e2, _⟩
      rotate_left
      · cases e2
      rcases hlo with ⟨_, e2⟩ | ⟨o, b2, rfl, e2, ho⟩
      · cases e2
      cases e2
      obtain ⟨kk, hkk⟩ := asI_v hk ρ
      have hb := hg.1
      have hrun : ∀ d2 : Nat, (execOp (evn md F) (⟨some d2, .slice t x (some o) none none, ty, pos, after, none⟩ : Oper)).run C.P w = .ok (.value (.slice (slF (ρ id).a (ρ id).cap k.toNat τ.sz) ((ρ id).ln - k.toNat) ((ρ id).cap - k.toNat))) w := fun d2 => x_slFrom (d := d2) (ρ id).a (ρ id).ln (ρ id).cap e τ.sz kk k hu (oSz hsz w) hx (ho.trans hkk) l hl.symm hb
      have hlen : (l.drop k.toNat).length = (ρ id).ln - k.toNat := by rw [zaq]; omega
      have hR : ROk w0 S0 ⟨none, slF (ρ id).a (ρ id).cap k.toNat τ.sz, (ρ id).cap - k.toNat, false, (l.drop k.toNat).length⟩ τ (l.drop k.toNat) := by
       refine ⟨Rd.dropT (Ty.encOk hf) _ _ hcap hro, fun hn2 p hp => ?_, ?_⟩
       · have hn3 : l.flatMap τ.enc ≠ [] := fun e0 => hn2 (by
           rw [← List.take_append_drop k.toNat l, List.flatMap_append] at e0
           exact (List.append_eq_nil_iff.1 e0).2)
         have hp : slF (ρ id).a (ρ id).cap k.toNat τ.sz = some p := hp
         unfold slF at hp
         split at hp
         · exact hne hn3 p hp
         · obtain ⟨q, hq, rfl⟩ := Option.map_eq_some_iff.1 hp
           have := hne hn3 q hq
           rw [awi]; exact this
       · show (l.drop k.toNat).length ≤ (ρ id).cap - k.toNat
         rw [hlen]; omega
      obtain ⟨h3, h4⟩ := rel_ro0 (d := d) (τ := τ) (l := l.drop k.toNat) (a' := slF (ρ id).a (ρ id).cap k.toNat τ.sz) (cap' := (ρ id).cap - k.toNat) hS hM hH hR
      intro ops Q rest hkk2
      rw [hlen] at h3 h4
      refine akh rfl rfl (hrun d) (hkk2 _ _ w h3 h4 aqp fun d2 hd _ => ⟨w, ?_⟩)
      cases hd
      rw [atm]; exact hrun d
  rcases apu h2 with ⟨h4, h5⟩ | ⟨o, b, h4, h5, h6⟩
  · rcases apu h5 with ⟨h7, h8⟩ | ⟨o2, b2, h7, h8, h9⟩
    · exact key _ _ h8 (.inl ⟨h4, rfl⟩) (.inl ⟨h7, rfl⟩)
    · exact key _ _ h9 (.inl ⟨h4, rfl⟩) (.inr ⟨o2, b2, h7, rfl, (agi hS hn h8).2⟩)
  · rcases apu h6 with ⟨h7, h8⟩ | ⟨o2, b2, h7, h8, h9⟩
    · exact key _ _ h8 (.inr ⟨o, b, h4, rfl, (agi hS hn h5).2⟩) (.inl ⟨h7, rfl⟩)
    · exact key _ _ h9 (.inr ⟨o, b, h4, rfl, (agi hS hn h5).2⟩) (.inr ⟨o2, b2, h7, rfl, (agi hS hn h8).2⟩)
theorem appS_some{H:List Ob}{t s:Nat}{x c:SC}{ro:Ro}(h:strSrc C H t s x c=some ro):∃l2 e,c=.s' l2∧apm C s=true∧C.E t=some (e,1,.c')∧zU8 C e=true∧
  ((x=.n'∧ro=⟨[⟨(([]:Str).length+l2.length)*1≤140737488355328,inferInstance⟩],.c' (.l' H.length),H++[.rw e 1 .c' ([]++l2)],[]⟩)∨
   ∃(id:Nat) (l:Str),x=.l' id∧H[id]? =some (.rw e 1 .c' l)∧ro=⟨[⟨(l.length+l2.length)*1≤140737488355328,inferInstance⟩],.c' (.l' H.length),art H id (.dd l.length)++[.rw e 1 .c' (l++l2)],[(id,0,1)]⟩):=by
 unfold strSrc at h
 split at h
 ·rename_i l2
  unfold opAppendS at h
  have h:=aas h
  have h1:=h.1
  have h:=h.2
  split at h
  ·rename_i e b hE1
   have h:=aas h
   have hb:=zag h.1
   subst hb
   have h:=aas h.2
   have hz:=h.1
   have h:=h.2
   refine⟨l2,e,rfl,h1,hE1,hz, ?_⟩
   split at h
   ·cases h;exact .inl ⟨rfl,rfl⟩
   ·rename_i id
    split at h
    ·rename_i l hl
     cases h
     refine .inr ⟨_,l,rfl, ?_,rfl⟩
     unfold wOf at hl
     simp only at hl
     split at hl
     ·rename_i q hq
      have h1:=aas hl
      have h2:=aas h1.2
      have h3:=rwE_rowOf hq h2.2
      rw [abm,zag h1.1,zag h2.1]at h3
      exact h3
     ·cases hl
    ·cases h
   ·cases h
  ·cases h
 ·cases h
theorem zU8_ok{e:Nat}(h:zU8 C e=true):(C.P.info? e).bind (·.zero)=some (.int .u8 0):=by
 unfold zU8 at h
 split at h
 ·rename_i i hi
  split at h
  ·rename_i hz;rw [hi];exact hz
  ·cases h
 ·cases h
theorem step_appendS(hE:EOk C)(hS:Rel C w0 S0 ρ S F w)(hn:C.nn=md.n){t s:TypeId}{x y:Operand}{a c:SC}{ro:Ro}(hx:evn md F x=a.v ρ)(hy:evn md F y=c.v ρ)(h:strSrc C S.H t s a c=some ro)(hg:All ro.g)(hm:S.oks ro.m=true):
  Step C md w0 S0 ρ S F w ⟨some d,.call ⟨.builtin .append, #[x,y], #[t,s]⟩,ty,pos,after,none⟩ (St.set ⟨S.F,ro.H,S.nb,S.al,ro.m++S.m⟩ d ro.v):=by
 intro ops Q rest hk
 have np:∀d2:Nat,(some d:Option Nat)=some d2→isPure (.call ⟨.builtin .append, #[x,y], #[t,s]⟩)=true→∀F2:Nat→Value,∃w3,(execOp (evn md F) (⟨some d,.call ⟨.builtin .append, #[x,y], #[t,s]⟩,ty,pos,after,none⟩:Oper)).run C.P w=.ok (.value (F2 d2)) w3:=fun d2 _ h=>by cases h
 obtain⟨L,hH,hM⟩:=hS.mem
 obtain⟨l2,e,rfl,hs,hE1,hz,hc⟩:=appS_some h
 obtain⟨ht,hT,hf,hb0⟩:=hE _ _ _ _ hE1
 rcases hc with⟨rfl,rfl⟩|⟨id,l,rfl,hob,rfl⟩
 ·refine w_appS (Hp.nilrw hH (Ty.c').enc e 1 none) 0 none none 0 e [] l2 rfl ht (oStr hs) hT (zU8_ok hz) hx hy hg.1 fun o' a' cap' w' h2=> ?_
  obtain⟨h3,h4⟩:=rel_row0 (τ:=.c') (b:=1) (d:=d) hS hM h2
  exact hk _ _ w' h3 h4 aqp fun d2 hd hp=>np d2 hd hp _
 ·obtain⟨h1,r,hr,he⟩:=hM.2 id _ hob
  have he:r=rwt (Ty.c').enc e (Ty.c').sz (ρ id).o (ρ id).a (ρ id).cap l:=he
  subst he
  have h1:l.length=(ρ id).ln:=h1
  have hx2:evn md F x=.slice (ρ id).a l.length (ρ id).cap:=by rw [hx,h1];rfl
  refine w_appS hH id (ρ id).o (ρ id).a (ρ id).cap e l l2 hr ht (oStr hs) hT (zU8_ok hz) hx2 hy hg.1 fun o' a' cap' w' h2=> ?_
  obtain⟨h3,h4⟩:=rel_row (τ:=.c') (b:=1) (d:=d) (m:=[(id,0,1)]) hS hM hob h2 hm (fun al hc=>.inl (hc 0 (afs.2 ⟨_,List.mem_singleton.2 rfl,rfl,zao _,zbq⟩)))
  exact hk _ _ w' h3 h4 aqp fun d2 hd hp=>np d2 hd hp _
theorem step_make(hE:EOk C)(hS:Rel C w0 S0 ρ S F w)(hn:C.nn=md.n){t:TypeId}{x y:Operand}{a c:SC}{ro:Ro}(hy:evn md F y=c.v ρ)(h:opMake C S.H t (isZ x) a c=some ro)(hg:All ro.g):
  Step C md w0 S0 ρ S F w ⟨some d,.makeSlice t x y,ty,pos,after,none⟩ (St.set ⟨S.F,ro.H,S.nb,S.al,ro.m++S.m⟩ d ro.v):=by
 intro ops Q rest hk
 obtain⟨L,hH,hM⟩:=hS.mem
 unfold opMake at h
 split at h
 ·rename_i e b τ hE1
  obtain⟨ht,hT,hf,hb0⟩:=hE _ _ _ _ hE1
  have h:=aas h
  have hz:=h.1
  have h:=h.2
  split at h
  ·rename_i i hi
   cases h
   obtain⟨kc,hc⟩:=asI_v hi ρ
   rw [hc]at hy
   obtain⟨kl,hx⟩:∃kl,evn md F x=.int kl 0:=by
    unfold isZ at hz
    split at hz
    ·exact⟨_,rfl⟩
    ·cases hz
   refine w_makeT (f:=τ.enc) hH e τ.sz b kl kc i ht hT hb0 hx hy hg.1 fun o a cap w' h2=> ?_
   obtain⟨h3,h4⟩:=rel_row0 (b:=b) (d:=d) hS hM h2
   exact hk _ _ w' h3 h4 aqp fun d2 hd hp=>by cases hp
  ·cases h
 ·cases h
theorem step_tobytes(hS:Rel C w0 S0 ρ S F w){s t e:TypeId}{x:Operand}{l:Str}(hx:evn md F x=str l)(hs:C.P.underlying s=some .string)(ht:slE C t=some e)(he:isU8 C e=true):
  Step C md w0 S0 ρ S F w ⟨some d,.convert s t x,ty,pos,after,none⟩ (St.set ⟨S.F,S.H++[.br l.length l],S.nb,S.al,[]++S.m⟩ d (.c' (.l' S.H.length))):=by
 intro ops Q rest hk
 obtain⟨L,hH,hM⟩:=hS.mem
 refine w_tobytesR hH l e hs (oSl ht) (oU8 he) hx fun a cap w' hrun h2=> ?_
 have h3:Rel C w0 S0 (adN ρ S.H.length ⟨none,a,cap,false,l.length⟩) ⟨S.F,S.H++[.br l.length l],S.nb,S.al,[]++S.m⟩ F w':=rel_new (o:=.br l.length l) hS hM h2 (by show _=_;rw [adN_n]) rfl (fun _ _ he=>by cases he) rfl rfl
 have h4:Nx S ρ ⟨S.F,S.H++[.br l.length l],S.nb,S.al,[]++S.m⟩ (adN ρ S.H.length ⟨none,a,cap,false,l.length⟩):=nx_new (o:=.br l.length l) (m:=[]) hS rfl rfl rfl rfl
 refine hk _ _ w' (awl (d:=d) (u:=.slice a l.length cap) h3 (by show some (Value.slice _ _ _)=_;rw [adN_n]) (fun i hi=> ?_)) ⟨⟨h4.nb,h4.al,h4.le⟩,h4.lg,h4.mm⟩ aqp fun d2 hd _=>⟨w', ?_⟩
 ·have:i=S.H.length:=List.mem_singleton.1 hi
  subst this
  show S.H.length<(S.H++[_]).length
  simp
 ·cases hd
  rw [atm];exact hrun
end
open Go.Wk
open Go.Ce (Tr)
open Nat renaming beq → zav, eq_of_beq_eq_true → zag
section
variable {C : Cx} {md : Md} {w0 w : World} {S0 : List Nat} {ρ : Nat → Ad} {S : St} {F : Nat → Value}
variable {ty : TypeId} {pos : String} {after : Array Edge}
theorem dst_some{dst:Option Nat}{v:SV}(h:dstOk dst v=true)(hv:v≠.u'):∃d,dst=some d:=by
 cases dst with
 |some d=>exact⟨d,rfl⟩
 |none=>cases v<;>first|exact absurd rfl hv|cases h
theorem aex{dst:Option Nat}{op:Op}{ro:Ro}(hS:Rel C w0 S0 ρ S F w)(h:Val C md ρ S F w op ro.v∧ro.H=S.H∧ro.m=[])(hd:dstOk dst ro.v=true):Step C md w0 S0 ρ S F w ⟨dst,op,ty,pos,after,none⟩ (St.setO ⟨S.F,ro.H,S.nb,S.al,ro.m++S.m⟩ dst ro.v):=by
 obtain⟨hv,e1,e2⟩:=h
 obtain⟨d,rfl⟩:=dst_some hd (fun e=>by obtain⟨_,u,h2,_⟩:=hv;rw [e]at h2;cases h2)
 rw [e1,e2]
 exact step_val hS hv
theorem avb{dst:Option Nat}{op:Op}{v:SV}{S2:Nat→St}(hd:dstOk dst v=true)(hv:v≠.u')(h:∀d,Step C md w0 S0 ρ S F w ⟨some d,op,ty,pos,after,none⟩ (S2 d)){S3:St}(e:∀d,dst=some d→S2 d=S3):Step C md w0 S0 ρ S F w ⟨dst,op,ty,pos,after,none⟩ S3:=by
 obtain⟨d,rfl⟩:=dst_some hd hv
 rw [←e d rfl];exact h d
theorem arr_of{α:Type}{a:Array α}{l:List α}(h:a.toList=l):a=l.toArray:=by rw [←h]
theorem builtin_ok(hE:EOk C)(hn:C.nn=md.n)(hS:Rel C w0 S0 ρ S F w){dst:Option Nat}{b:Builtin}{azq:Array Operand}{ts:Array TypeId}{ro:Ro}(h:ajq C (S.ev C) S.H b azq.toList ts.toList=some ro)(hg:All ro.g)(hm:S.oks ro.m=true)(hd:dstOk dst ro.v=true):
  Step C md w0 S0 ρ S F w ⟨dst,.call ⟨.builtin b,azq,ts⟩,ty,pos,after,none⟩ (St.setO ⟨S.F,ro.H,S.nb,S.al,ro.m++S.m⟩ dst ro.v):=by
 unfold ajq at h
 split at h
 ·rename_i x t e1 e2
  obtain rfl:=arr_of e1
  obtain rfl:=arr_of e2
  obtain⟨g,v,h1,rfl⟩:=alq h
  obtain⟨c,h2,h3⟩:=ack h1
  obtain⟨h4,h5⟩:=agi hS hn h2
  exact aex hS ⟨len_ok hS h5 h4 h3,rfl,rfl⟩ hd
 ·rename_i x y t t2 e1 e2
  obtain rfl:=arr_of e1
  obtain rfl:=arr_of e2
  cases hbt:zav t t2 with
  |true=>
   rw [hbt]at h
   have ht:=zag hbt
   subst ht
   obtain⟨a,h2,h3⟩:=ack h
   obtain⟨c,h4,h5⟩:=ack h3
   have hv:ro.v≠.u':=by
    intro e
    unfold opAppend at h5
    split at h5
    ·split at h5
     ·split at h5
      ·cases h5;cases e
      ·cases h5
     ·split at h5
      ·cases h5;cases e
      ·cases h5
     ·split at h5
      ·cases h5;cases e
      ·cases h5
     ·cases h5
    ·cases h5
   exact avb hd hv (fun d=>step_append (d:=d) hE hS hn (agi hS hn h2).2 (agi hS hn h4).2 h5 hg hm) (fun d e=>by rw [e];rfl)
  |false=>
   rw [hbt]at h
   obtain⟨a,h2,h3⟩:=ack h
   obtain⟨c,h4,h5⟩:=ack h3
   have hv:ro.v≠.u':=by
    intro e
    obtain⟨l2,e2,_,_,_,_,hc⟩:=appS_some h5
    rcases hc with⟨_,rfl⟩|⟨id,l,_,_,rfl⟩<;>cases e
   exact avb hd hv (fun d=>step_appendS (d:=d) hE hS hn (agi hS hn h2).2 (agi hS hn h4).2 h5 hg hm) (fun d e=>by rw [e];rfl)
 ·rename_i x y _ e1 _
  obtain rfl:=arr_of e1
  obtain⟨g,v,h1,rfl⟩:=alq h
  obtain⟨a,h2,h3⟩:=ack h1
  obtain⟨c,h4,h5⟩:=ack h3
  exact aex hS ⟨mm_ok (agi hS hn h2).2 (agi hS hn h4).2 h5,rfl,rfl⟩ hd
 ·cases h
theorem step_op(hE:EOk C)(hn:C.nn=md.n)(hS:Rel C w0 S0 ρ S F w){dst:Option Nat}{op:Op}{ro:Ro}(h:opM C (S.ev C) S.H op=some ro)(hg:All ro.g)(hm:S.oks ro.m=true)(hd:dstOk dst ro.v=true):
  Step C md w0 S0 ρ S F w ⟨dst,op,ty,pos,after,none⟩ (St.setO ⟨S.F,ro.H,S.nb,S.al,ro.m++S.m⟩ dst ro.v):=by
 cases op<;>first|cases h|skip
 case move x=>exact aex hS (aub hn hS (op:=.move x) rfl h hg w) hd
 case assign x=>exact aex hS (aub hn hS (op:=.assign x) rfl h hg w) hd
 case binOp b t x y t'=>exact aex hS (aub hn hS (op:=.binOp b t x y t') rfl h hg w) hd
 case unOp u t x=>exact aex hS (aub hn hS (op:=.unOp u t x) rfl h hg w) hd
 case index t x ix=>exact aex hS (aub hn hS (op:=.index t x ix) rfl h hg w) hd
 case slice t x lo hi mx=>
  cases hstr:apm C t with
  |true=>exact aex hS (aub hn hS (op:=.slice t x lo hi mx) rfl (show(bif apm C t then opM C (S.ev C) S.H (.slice t x lo hi mx)else none)=some ro by rw [hstr];exact h) hg w) hd
  |false=>
   cases mx with
   |some m=>cases h
   |none=>
    refine avb hd (fun e=> ?_) (fun d=>step_sl (d:=d) hS hn hstr h hg) (fun d e=>by rw [e];rfl)
    have h:(bif apm C t then pur S.H (on1 (S.ev C x) fun a=>onO (S.ev C) lo fun i=>onO (S.ev C) hi fun j=>cutC a i j)else on1 (S.ev C x) fun a=>onO (S.ev C) lo fun i=>onO (S.ev C) hi fun j=>opSl C S.H t a i j)=some ro:=h
    rw [hstr]at h
    obtain⟨c,h1,h2⟩:=ack (show on1 (S.ev C x) (fun a=>onO (S.ev C) lo fun i=>onO (S.ev C) hi fun j=>opSl C S.H t a i j)=some ro from h)
    have key:∀i j,opSl C S.H t c i j=some ro→False:=fun i j hop=>by
     obtain⟨id,e2,τ,l,_,_,_,_,_,hc⟩:=opSl_some hop
     rcases hc with⟨b,k,_,_,_,rfl⟩|⟨b,k,_,_,_,rfl⟩<;>cases e
    rcases apu h2 with⟨h4,h5⟩|⟨o,b,h4,h5,h6⟩
    ·rcases apu h5 with⟨h7,h8⟩|⟨o2,b2,h7,h8,h9⟩
     ·exact key _ _ h8
     ·exact key _ _ h9
    ·rcases apu h6 with⟨h7,h8⟩|⟨o2,b2,h7,h8,h9⟩
     ·exact key _ _ h8
     ·exact key _ _ h9
 case extract x i=>exact aex hS (aub hn hS (op:=.extract x i) rfl h hg w) hd
 case field t x f=>exact aex hS (aub hn hS (op:=.field t x f) rfl h hg w) hd
 case build t ps=>exact aex hS (aub hn hS (op:=.build t ps) rfl h hg w) hd
 case fieldAddr t x f=>exact aex hS (aub hn hS (op:=.fieldAddr t x f) rfl h hg w) hd
 case pick c a b=>
  obtain⟨x,h1,h2⟩:=ack (show on1 (S.ev C c) (fun x=>match x with
   |.b' t=>val1 S.H (match(bif t then S.ev C a else S.ev C b)with
    |.u'=>none
    |v=>some v)
   |_=>none)=some ro from h)
  split at h2
  ·rename_i t
   obtain⟨v,h3,rfl⟩:=aol h2
   obtain⟨h4,u,h5⟩:=known_v (ρ:=ρ) h3
   exact aex hS ⟨pick_ok hS hn h1 h4 (fun e=>by have e:v=.u':=e;subst e;cases h5),rfl,rfl⟩ hd
  ·cases h2
 case convert s t x=>
  obtain⟨c,hc,h⟩:=ack (show on1 (S.ev C x) (conS C S.H s t)=some ro from h)
  have hx:=(agi hS hn hc).2
  unfold conS at h
  split at h
  ·rename_i e he
   have h3:=aas h
   have h4:=aas h3.2
   have h5:=h4.2
   split at h5
   ·rename_i l hl
    cases h5
    exact aex hS ⟨tostr_ok hS hx he h3.1 h4.1 hl,rfl,rfl⟩ hd
   ·cases h5
  ·split at h
   ·rename_i l
    split at h
    ·rename_i e he
     have h3:=aas h
     have h4:=aas h3.2
     cases h4.2
     exact avb hd (by simp) (fun d=>step_tobytes (d:=d) hS hx (oStr h3.1) he h4.1) (fun d e=>by rw [e];rfl)
    ·obtain⟨g,v,h3,rfl⟩:=alq h
     exact aex hS ⟨conC_ok hx h3 hg,rfl,rfl⟩ hd
   ·obtain⟨g,v,h3,rfl⟩:=alq h
    exact aex hS ⟨conC_ok hx h3 hg,rfl,rfl⟩ hd
 case alloc e=>
  have h0:=h
  have h:(match zC C e with
   |some z=>some (Ro.mk [] (.c' (.p' S.H.length 0)) (S.H++[.bl e z]) [])
   |none=>none)=some ro:=h
  split at h
  ·cases h
   exact avb hd (by simp) (fun d=>step_alloc (d:=d) hS h0) (fun d e=>by rw [e];rfl)
  ·cases h
 case box e x=>
  have h0:=h
  have h:(match(S.ev C x).cells with
   |some cs=>some (Ro.mk [] (.c' (.p' S.H.length 0)) (S.H++[.bl e cs]) [])
   |none=>none)=some ro:=h
  split at h
  ·cases h
   exact avb hd (by simp) (fun d=>step_box (d:=d) hS hn h0) (fun d e=>by rw [e];rfl)
  ·cases h
 case buildSlice t n ps=>
  have hv:ro.v≠.u':=by
   intro e
   have h:aon C (S.ev C) S.H t n ps.toList=some ro:=h
   unfold aon at h
   split at h
   ·split at h
    ·have h1:=aas h
     have h2:=aas h1.2
     have h3:=h2.2
     split at h3
     ·cases h3;cases e
     ·cases h3
    ·cases h
   ·cases h
  exact avb hd hv (fun d=>step_buildSlice (d:=d) hS hn h) (fun d e=>by rw [e];rfl)
 case load t x=>
  obtain⟨c,h1,h2⟩:=ack (show on1 (S.ev C x) (fun a=>opLoad C S.H t a)=some ro from h)
  exact aex hS (load_ok hS (agi hS hn h1).2 h2 hg) hd
 case store t x y=>
  obtain⟨h1,h2⟩:=step_store (ty:=ty) (pos:=pos) (after:=after) hS hn h hg hm
  rw [h2]at hd⊢
  cases dst with
  |none=>exact h1
  |some d=>cases hd
 case indexAddr t x ix=>
  obtain⟨a,h1,h2⟩:=ack (show on1 (S.ev C x) (fun a=>on1 (S.ev C ix) fun i=>aom C S.H t a i)=some ro from h)
  obtain⟨c,h3,h4⟩:=ack h2
  obtain⟨h5,h6⟩:=agi hS hn h1
  exact aex hS (indexAddr_ok hS h6 h5 (agi hS hn h3).2 h4 hg) hd
 case makeSlice t x y=>
  obtain⟨a,h1,h2⟩:=ack (show on1 (S.ev C x) (fun a=>on1 (S.ev C y) fun i=>opMake C S.H t (isZ x) a i)=some ro from h)
  obtain⟨c,h3,h4⟩:=ack h2
  have hv:ro.v≠.u':=by
   intro e
   unfold opMake at h4
   split at h4
   ·have h5:=(aas h4).2
    split at h5
    ·cases h5;cases e
    ·cases h5
   ·cases h4
  exact avb hd hv (fun d=>step_make (d:=d) hE hS hn (agi hS hn h3).2 h4 hg) (fun d e=>by rw [e];rfl)
 case makeFunc f a b=>
  obtain⟨v,h1,rfl⟩:=aol h
  exact aex hS ⟨func_ok hS hn h1,rfl,rfl⟩ hd
 case nilCheck x=>
  obtain⟨c,h1,h2⟩:=ack (show on1 (S.ev C x) (fun a=>val1 S.H (opNil a))=some ro from h)
  obtain⟨v,h3,rfl⟩:=aol h2
  obtain⟨h4,h5⟩:=agi hS hn h1
  exact aex hS ⟨nil_ok h5 h4 h3,rfl,rfl⟩ hd
 case call c=>
  obtain⟨cal,azq,ts⟩:=c
  cases cal<;>first|cases h|skip
  exact builtin_ok hE hn hS h hg hm hd
end
open Go.Wk
open Go.Ce (Tr)
open List renaming append_assoc → zal, length_append → zab, map_append → zaV, map_cons → zaI
open Nat renaming add_assoc → zaQ, add_zero → zaP, le_refl → zao, one_pos → zbq
def Eqv(ρ ρ2:Nat→Ad):Ob→Ob→Prop
 |.bl e cs,o2=>∃cs2,o2=.bl e cs2∧cs.map (SC.v ρ)=cs2.map (SC.v ρ2)∧∀(j:Nat) (c c2:SC),cs[j]? =some c→cs2[j]? =some c2→c.kn=c2.kn
 |o,o2=>o2=o
structure LR (ρ ρ2:Nat→Ad) (a b:List SC×List Ob):Prop where
 c:a.1.map (SC.v ρ)=b.1.map (SC.v ρ2)
 p:(ptrL a.1).map (fun id=>(ρ id).b)=(ptrL b.1).map (fun id=>(ρ2 id).b)
 o:∀(j:Nat) (o:Ob),a.2[j]? =some o→∃o2,b.2[j]? =some o2∧Eqv ρ ρ2 o o2
theorem lay_kn{t:Ty}{s n s2 n2:Nat}{x:t.T}{j:Nat}{c c2:SC}(h:(t.lay s n x).1[j]? =some c)(h2:(t.lay s2 n2 x).1[j]? =some c2):c.kn=c2.kn:=by
 rw [(Ty.lay_ok t s n x c (List.mem_of_getElem? h)).1,(Ty.lay_ok t s2 n2 x c2 (List.mem_of_getElem? h2)).1]
theorem lay_rel:∀(t:Ty) (s n s2 n2:Nat) (x:t.T) (ρ ρ2:Nat→Ad),(t.tz=true→(ρ s).b=(ρ2 s2).b)→(∀j,j<t.no→ρ (n+j)=ρ2 (n2+j))→LR ρ ρ2 (t.lay s n x) (t.lay s2 n2 x):=by
 intro t
 induction t with
 |w' t ih=>intro s n s2 n2 x ρ ρ2 hs hn;exact ih s n s2 n2 x ρ ρ2 hs hn
 |pr a b iha ihb=>
  intro s n s2 n2 x ρ ρ2 hs hn
  have h1:=iha s n s2 n2 x.1 ρ ρ2 (fun h=>hs (by simp [Ty.tz,h])) (fun j hj=>hn j (by show j<a.no+b.no;omega))
  have h2:=ihb s (n+a.no) s2 (n2+a.no) x.2 ρ ρ2 (fun h=>hs (by simp [Ty.tz,h])) (fun j hj=>by
   have:=hn (a.no+j) (by show a.no+j<a.no+b.no;omega)
   rw [zaQ,zaQ];exact this)
  refine⟨?_, ?_,fun j o ho=> ?_⟩
  ·show((a.lay s n x.1).1++(b.lay s (n+a.no) x.2).1).map _=((a.lay s2 n2 x.1).1++(b.lay s2 (n2+a.no) x.2).1).map _
   rw [zaV,zaV,h1.c,h2.c]
  ·show(ptrL ((a.lay s n x.1).1++(b.lay s (n+a.no) x.2).1)).map _=(ptrL ((a.lay s2 n2 x.1).1++(b.lay s2 (n2+a.no) x.2).1)).map _
   rw [ptrL_app,ptrL_app,zaV,zaV,h1.p,h2.p]
  ·have ho:((a.lay s n x.1).2++(b.lay s (n+a.no) x.2).2)[j]? =some o:=ho
   show∃o2,((a.lay s2 n2 x.1).2++(b.lay s2 (n2+a.no) x.2).2)[j]? =some o2∧_
   have e1:=a.lay_no s n x.1
   have e2:=a.lay_no s2 n2 x.1
   by_cases hj:j<a.no
   ·rw [List.getElem?_append_left (by omega)]at ho⊢
    exact h1.o j o ho
   ·rw [List.getElem?_append_right (by omega)]at ho⊢
    rw [e1]at ho
    rw [e2]
    exact h2.o _ o ho
 |l' e b t ih=>
  intro s n s2 n2 x ρ ρ2 hs hn
  have h0:=hn 0 zbq
  rw [zaP,zaP]at h0
  refine⟨by simp [Ty.lay,SC.v,h0],rfl,fun j o ho=>⟨o,ho, ?_⟩⟩
  cases j with
  |zero=>have:Ob.rw e b t x=o:=Option.some.inj ho;subst this;rfl
  |succ j=>simp [Ty.lay]at ho
 |y'=>
  intro s n s2 n2 x ρ ρ2 hs hn
  have h0:=hn 0 zbq
  rw [zaP,zaP]at h0
  refine⟨by simp [Ty.lay,SC.v,h0],rfl,fun j o ho=>⟨o,ho, ?_⟩⟩
  cases j with
  |zero=>have:Ob.br x.length x=o:=Option.some.inj ho;subst this;rfl
  |succ j=>simp [Ty.lay]at ho
 |r' t ih=>
  intro s n s2 n2 x ρ ρ2 hs hn
  have h0:=hn 0 zbq
  rw [zaP,zaP]at h0
  refine⟨by simp [Ty.lay,SC.v,h0],rfl,fun j o ho=>⟨o,ho, ?_⟩⟩
  cases j with
  |zero=>have:Ob.ro t x=o:=Option.some.inj ho;subst this;rfl
  |succ j=>simp [Ty.lay]at ho
 |p' e t ih=>
  intro s n s2 n2 x ρ ρ2 hs hn
  have h0:=hn 0 (Nat.succ_pos _)
  rw [zaP,zaP]at h0
  have h1:=ih n (n+1) n2 (n2+1) x ρ ρ2 (fun _=>by rw [h0]) (fun j hj=>by
   have:=hn (j+1) (by show j+1<t.no+1;omega)
   rw [Nat.add_right_comm,Nat.add_right_comm n2];exact this)
  refine⟨by simp [Ty.lay,SC.v,h0],by simp [Ty.lay,ptrL,h0],fun j o ho=> ?_⟩
  cases j with
  |zero=>
   have:Ob.bl e (t.lay n (n+1) x).1=o:=Option.some.inj ho
   subst this
   exact⟨_,rfl,_,rfl,h1.c,fun j c c2 h h2=>lay_kn h h2⟩
  |succ j=>exact h1.o j o ho
 |z'=>
  intro s n s2 n2 x ρ ρ2 hs hn
  have h0:=hn 0 zbq
  rw [zaP,zaP]at h0
  refine⟨by simp [Ty.lay,SC.v,h0,hs rfl],rfl,fun j o ho=>⟨o,ho, ?_⟩⟩
  cases j with
  |zero=>have:Ob.dd 0=o:=Option.some.inj ho;subst this;rfl
  |succ j=>simp [Ty.lay]at ho
 |f' k t ih=>
  intro s n s2 n2 x ρ ρ2 hs hn
  have h1:=ih s n s2 n2 x ρ ρ2 hs hn
  refine⟨?_,rfl,h1.o⟩
  have:=h1.p
  have h2:∀(ρ:Nat→Ad) (l:List Nat),(l.map fun id=>bptr (ρ id).b 0)=(l.map fun id=>(ρ id).b).map (fun b=>bptr b 0):=fun ρ l=>by rw [List.map_map];rfl
  show [Value.func (.func k) #[] ((ptrL (t.lay s n x).1).map fun id=>bptr (ρ id).b 0).toArray]=[Value.func (.func k) #[] ((ptrL (t.lay s2 n2 x).1).map fun id=>bptr (ρ2 id).b 0).toArray]
  rw [h2,h2,this]
 |sm a b _ _=>intro s n s2 n2 x ρ ρ2 hs hn;exact⟨rfl,rfl,fun j o ho=>by simp [Ty.lay]at ho⟩
 |_=>intro s n s2 n2 x ρ ρ2 hs hn;exact⟨rfl,rfl,fun j o ho=>by simp [Ty.lay]at ho⟩
theorem lay_nb:∀(t:Ty) (s n:Nat) (x:t.T),t.nb=true→∀(j:Nat) (e:Ty) (l:List e.T),(t.lay s n x).2[j]? ≠some (.ro e l):=by
 intro t
 induction t with
 |w' t ih=>intro s n x h;exact ih s n x h
 |pr a b iha ihb=>
  intro s n x h j e l ho
  have h:=agp h
  have ho:((a.lay s n x.1).2++(b.lay s (n+a.no) x.2).2)[j]? =some (.ro e l):=ho
  by_cases hj:j<(a.lay s n x.1).2.length
  ·rw [List.getElem?_append_left hj]at ho;exact iha _ _ _ h.1 _ _ _ ho
  ·rw [List.getElem?_append_right (by omega)]at ho;exact ihb _ _ _ h.2 _ _ _ ho
 |p' e t ih=>
  intro s n x h j e2 l ho
  cases j with
  |zero=>cases Option.some.inj ho
  |succ j=>exact ih _ _ _ h j e2 l ho
 |f' k t ih=>intro s n x h;exact ih s n x h
 |r' t ih=>intro s n x h;cases h
 |l' e b t ih=>
  intro s n x h j e2 l ho
  cases j with
  |zero=>cases Option.some.inj ho
  |succ j=>simp [Ty.lay]at ho
 |y'=>
  intro s n x h j e2 l ho
  cases j with
  |zero=>cases Option.some.inj ho
  |succ j=>simp [Ty.lay]at ho
 |z'=>
  intro s n x h j e2 l ho
  cases j with
  |zero=>cases Option.some.inj ho
  |succ j=>simp [Ty.lay]at ho
 |_=>intro s n x h j e l ho;simp [Ty.lay]at ho
theorem rdA_ok{H:List Ob}(hb:Brk H):∀(l:List Ty) (vs:List SV) (a:(tupT l).T) (ss:List Src) (H0:List Ob),rdA H l vs=some (a,ss)→
  ∃obs,(asc H0 l a).2=H0++obs∧obs.length=ss.length∧(∀v∈(asc H0 l a).1,v.ok (H0.length+obs.length))∧(∀(j e:Nat) (cs:List SC),obs[j]? =some (.bl e cs)→∀c∈cs,c.ok (H0.length+obs.length))∧
   ∀(ρ ρ2:Nat→Ad),(∀(j:Nat) (s:Src),ss[j]? =some s→ρ2 (H0.length+j)=s.ad ρ)→
    (∃us:List Value,vs.map (SV.v ρ)=us.map some∧(asc H0 l a).1.map (SV.v ρ2)=us.map some)∧∀(j:Nat) (s:Src) (o:Ob),ss[j]? =some s→obs[j]? =some o→SOk true ρ H ρ2 s o
 |[],vs,a,ss,H0,h=>by
  cases vs with
  |cons v vs=>cases h
  |nil=>
   cases h
   exact⟨[],by simp [asc],rfl,fun v hv=>by simp [asc]at hv,fun j e cs hj=>by simp at hj,fun ρ ρ2 _=>⟨⟨[],rfl,rfl⟩,fun j s o hj=>by simp at hj⟩⟩
 |[x],vs,a,ss,H0,h=>by
  simp only [rdA]at h
  split at h
  ·rename_i v
   have hv:=rdV_ok hb h
   refine⟨(x.lay 0 H0.length a).2,rfl,by rw [hv.no,Ty.lay_no],fun v hm=> ?_,fun j e cs hj=>awq x 0 H0.length a j e cs hj,fun ρ ρ2 had=> ?_⟩
   ·rw [List.mem_singleton.1 (show v∈[x.sv (x.lay 0 H0.length a).1]from hm)]
    exact Ty.sv_ok (avx x 0 H0.length a hv.tz)
   ·obtain⟨⟨u,h1,h2,_⟩,h3⟩:=hv.to ρ ρ2 H0.length had
    exact⟨⟨[u],by simp [h1],by simp [asc,h2]⟩,h3⟩
  ·cases h
 |x::y::l,vs,a,ss,H0,h=>by
  simp only [rdA]at h
  split at h
  ·rename_i v vs
   split at h
   ·rename_i a1 s1 hx
    split at h
    ·rename_i b s2 hr
     cases h
     have hv:=rdV_ok hb hx
     have hl:(x.lay 0 H0.length a1).2.length=s1.length:=by rw [hv.no,Ty.lay_no]
     obtain⟨obs,h1,h2,h3,h4,h5⟩:=rdA_ok hb (y::l) vs b s2 (H0++(x.lay 0 H0.length a1).2) hr
     have hl2:(H0++(x.lay 0 H0.length a1).2).length=H0.length+(x.lay 0 H0.length a1).2.length:=zab
     refine⟨(x.lay 0 H0.length a1).2++obs,by rw [←zal];exact h1,by simp [hl,h2],fun v hm=> ?_,fun j e cs hj c hc=> ?_,fun ρ ρ2 had=> ?_⟩
     ·rw [zab,←zaQ,←hl2]
      rcases List.mem_cons.1 (show v∈x.sv (x.lay 0 H0.length a1).1::(asc (H0++(x.lay 0 H0.length a1).2) (y::l) b).1 from hm)with rfl|hm
      ·exact SV.ok_mono (Ty.sv_ok (avx x 0 H0.length a1 hv.tz)) (by omega)
      ·exact h3 v hm
     ·rw [zab,←zaQ,←hl2]
      by_cases hlt:j<(x.lay 0 H0.length a1).2.length
      ·rw [List.getElem?_append_left hlt]at hj
       exact SC.ok_mono (awq x 0 H0.length a1 j e cs hj c hc) (by omega)
      ·rw [List.getElem?_append_right (by omega)]at hj
       exact h4 _ e cs hj c hc
     ·obtain⟨⟨u,h6,h7,_⟩,h8⟩:=hv.to ρ ρ2 H0.length (fun j s hj=>had j s (by rw [List.getElem?_append_left (List.getElem?_eq_some_iff.1 hj).1];exact hj))
      obtain⟨⟨us,h9,h10⟩,h11⟩:=h5 ρ ρ2 (fun j s hj=>by
       rw [hl2,hl,zaQ]
       exact had _ s (by rw [List.getElem?_append_right (by omega),←hj];congr 1;omega))
      refine⟨⟨u::us,by simp [h6,h9], ?_⟩,fun j s o hs ho=> ?_⟩
      ·show(x.sv (x.lay 0 H0.length a1).1::(asc (H0++(x.lay 0 H0.length a1).2) (y::l) b).1).map _=_
       rw [zaI,h7,h10];rfl
      ·by_cases hlt:j<s1.length
       ·rw [List.getElem?_append_left hlt]at hs
        rw [List.getElem?_append_left (by omega)]at ho
        exact h8 j s o hs ho
       ·rw [List.getElem?_append_right (by omega)]at hs
        rw [List.getElem?_append_right (by omega),hl]at ho
        exact h11 _ s o hs ho
    ·cases h
   ·cases h
  ·cases h
def argH(c:Con)(x:(tupT c.a).T):List Ob:=(asc [] c.a x).2
def eatJ(outs:List Nat):List Ob→Nat→List Nat
 |[],_=>[]
 |o::obs,j=>(bif apn (some o)then(bif avk j outs then []else [j])else [])++eatJ outs obs (j+1)
structure Glo where
 gs:List (Nat×Ob)
 p:World→List Nat→Prop
 st:∀{w0 w:World} {S0 S1:List Nat} {L:List Res},Hp w0 S0 L w→p w0 S0→(∀b∈S1,w0.heap.size≤b∨b∈S0)→p w S1
 rd:∀{w:World} {S:List Nat} {g:Nat} {t:Ty} {l:List t.T},p w S→(g,.ro t l)∈gs→Rd w (some ⟨g,0,none⟩) (l.flatMap t.enc)∧g∉S
def Gw(G:Glo)(w:World)(S:List Nat):Prop:=G.p w S
def Gv.ok{α:Type}:Gv α→α→Prop
 |.one o,y=>o=some y
 |.gs l z,y=>All l∧z=y
theorem gdL_some{ρ:Type}{x:Option ρ}{r:ρ}:∀{l:List PD},gdL l x=some r→All l∧x=some r
 |[],h=>⟨trivial,h⟩
 |⟨p,hp⟩::l,h=>by
  obtain⟨h1,h2⟩:=gd_inv h
  obtain⟨h3,h4⟩:=gdL_some h2
  exact⟨⟨h1,h3⟩,h4⟩
theorem Gv.bd_some{α ρ:Type}{g:Gv α}{k:α→Option ρ}{r:ρ}(h:g.bd k=some r):∃y,g.ok y∧k y=some r:=by
 cases g with
 |one o=>obtain⟨y,h1,h2⟩:=bind_inv (show o.bind k=some r from h);exact⟨y,h1,h2⟩
 |gs l z=>obtain⟨h1,h2⟩:=gdL_some (show gdL l (k z)=some r from h);exact⟨z,⟨h1,rfl⟩,h2⟩
def retS(c:Con)(x:(tupT c.a).T)(y:(resT c.r).T):List SA×List Ob:=putR (fun j=>j) ([],kill (argH c x) (eatJ (Rk.ids c.r) (argH c x) 0)) c.r y
def FOk(P:Program)(GS:Glo)(k:Nat)(c:Con):Prop:=∀(w:World) (S:List Nat) (ρ:Nat→Ad) (L:List Res) (us:List Value) (x:(tupT c.a).T) (y:(resT c.r).T),Gw GS w S→Hp w S L w→Mt w S ρ (argH c x) L→
 (asc [] c.a x).1.map (SV.v ρ)=us.map some→(c.f x).ok y→CR P k us w fun v w2=>∃ρ2 L2,Up (argH c x).length ρ ρ2∧Hp w S L2 w2∧Mt w S ρ2 (retS c x y).2 L2∧(resV (retS c x y).1).v ρ2=some v
theorem eatJ_mem{outs:List Nat}:∀{obs:List Ob} {i j:Nat},j∈eatJ outs obs i↔∃o,i≤j∧obs[j-i]? =some o∧apn (some o)=true∧j∉outs
 |[],i,j=>by simp [eatJ]
 |o::obs,i,j=>by
  have ih:=eatJ_mem (outs:=outs) (obs:=obs) (i:=i+1) (j:=j)
  simp only [eatJ,List.mem_append,ih]
  constructor
  ·rintro(h|⟨o2,h1,h2,h3⟩)
   ·cases hr:apn (some o)with
    |false=>rw [hr]at h;cases h
    |true=>
     rw [hr]at h
     simp only [cond_true]at h
     cases hm:avk i outs with
     |true=>rw [hm]at h;cases h
     |false=>
      rw [hm]at h
      simp only [cond_false,List.mem_singleton]at h
      subst h
      exact⟨o,zao _,by simp,hr,fun hc=>by rw [aiw.2 hc]at hm;cases hm⟩
   ·refine⟨o2,by omega, ?_,h3⟩
    rw [show j-i=(j-(i+1))+1 by omega,List.getElem?_cons_succ];exact h2
  ·rintro⟨o2,h1,h2,h3,h4⟩
   by_cases hij:i=j
   ·subst hij
    left
    rw [Nat.sub_self]at h2
    have e:o=o2:=by simpa using h2
    subst e
    have hm:avk i outs=false:=by
     cases hm:avk i outs with
     |false=>rfl
     |true=>exact absurd (aiw.1 hm) h4
    rw [h3,hm];simp
   ·right
    refine⟨o2,by omega, ?_,h3,h4⟩
    rw [show j-i=(j-(i+1))+1 by omega,List.getElem?_cons_succ]at h2;exact h2
theorem eaten_mem{outs:List Nat}:∀{obs:List Ob} {ss:List Src} {i id:Nat},id∈axa outs obs i ss↔∃j o s,i≤j∧obs[j-i]? =some o∧ss[j-i]? =some s∧apn (some o)=true∧j∉outs∧id∈s.own
 |[],ss,i,id=>by simp [axa]
 |o::obs,[],i,id=>by simp [axa]
 |o::obs,s::ss,i,id=>by
  have ih:=eaten_mem (outs:=outs) (obs:=obs) (ss:=ss) (i:=i+1) (id:=id)
  simp only [axa,List.mem_append,ih]
  constructor
  ·rintro(h|⟨j,o2,s2,h1,h2,h3,h4⟩)
   ·cases hr:apn (some o)with
    |false=>rw [hr]at h;cases h
    |true=>
     rw [hr]at h
     simp only [cond_true]at h
     cases hm:avk i outs with
     |true=>rw [hm]at h;cases h
     |false=>
      rw [hm]at h
      exact⟨i,o,s,zao _,by simp,by simp,hr,(fun hc=>by rw [aiw.2 hc]at hm;cases hm),h⟩
   ·refine⟨j,o2,s2,by omega, ?_, ?_,h4⟩
    ·rw [show j-i=(j-(i+1))+1 by omega,List.getElem?_cons_succ];exact h2
    ·rw [show j-i=(j-(i+1))+1 by omega,List.getElem?_cons_succ];exact h3
  ·rintro⟨j,o2,s2,h1,h2,h3,h4,h5,h6⟩
   by_cases hij:i=j
   ·subst hij
    left
    rw [Nat.sub_self]at h2 h3
    have e:o=o2:=by simpa using h2
    have e2:s=s2:=by simpa using h3
    subst e
    subst e2
    have hm:avk i outs=false:=by
     cases hm:avk i outs with
     |false=>rfl
     |true=>exact absurd (aiw.1 hm) h5
    rw [h4,hm];exact h6
   ·right
    refine⟨j,o2,s2,by omega, ?_, ?_,h4,h5,h6⟩
    ·rw [show j-i=(j-(i+1))+1 by omega,List.getElem?_cons_succ]at h2;exact h2
    ·rw [show j-i=(j-(i+1))+1 by omega,List.getElem?_cons_succ]at h3;exact h3
open List renaming map_append → zaV, mem_cons_of_mem → zaf
open Nat renaming add_assoc → zaQ, beq → zav, eq_of_beq_eq_true → zag, one_pos → zbq
structure PR (n nc:Nat) (H:List Ob) (ρ ρ2 ρ3:Nat→Ad) (ss:List Src) (rg:List Rg) (Hc Hk:List Ob) (lc lk:List SA) (k:Nat):Prop where
 ec:Hc.length=nc+k
 ek:Hk.length=n+k
 nw:∀(i:Nat) (o:Ob),i<k→Hc[nc+i]? =some o→(∃o3,Hk[n+i]? =some o3∧Eqv ρ2 ρ3 o o3)∧∀(t:Ty) (l:List t.T),o≠.ro t l
 ow:∀(j id:Nat) (o:Ob),ss[j]? =some (.o' id true)→Hc[j]? =some o→(∃o3,Hk[id]? =some o3∧Eqv ρ2 ρ3 o o3)∧∀(t:Ty) (l:List t.T),o≠.ro t l
 ok:∀(j id m:Nat),ss[j]? =some (.k' id m true)→Hk[id]? =some (.dd 0)
 ot:∀id,id<n→id∉ownS ss→Hk[id]? =H[id]?
 ho:∀(id e:Nat) (cs:List SC),Hk[id]? =some (.bl e cs)→∀c∈cs,c.ok (n+k)
 kp:∀(id:Nat) (o:Ob),H[id]? =some o→asl rg id ρ ρ3 Hk[id]? o
 vl:lc.map (SA.v ρ2)=lk.map (SA.v ρ3)
 vo:∀v∈lk,v.ok (n+k)
theorem Eqv.len{ρ ρ2:Nat→Ad}{o o2:Ob}(h:Eqv ρ ρ2 o o2):o2.len=o.len:=by
 cases o with
 |bl e cs=>obtain⟨cs2,rfl,_⟩:=h;rfl
 |_=>have h:_=_:=h;rw [h]
theorem sa_rel{ρ ρ2:Nat→Ad}{x:Ty}{a b:List SC}(h:a.map (SC.v ρ)=b.map (SC.v ρ2)):(x.sa a).v ρ=(x.sa b).v ρ2:=by
 unfold Ty.sa
 cases x.agg with
 |true=>simp only [cond_true,SA.v,h]
 |false=>
  simp only [cond_false]
  match a,b,h with
  |[],[],_=>rfl
  |[x],[y],h=>simpa [SA.v] using h
  |x::y::a,u::v::b,h=>simp only [SA.v,h]
  |[],_::_,h=>simp at h
  |_::_,[],h=>simp at h
  |[_],_::_::_,h=>simp at h
  |_::_::_,[_],h=>simp at h
theorem wPut_some{m:Nat}:∀{x:Ty} {v:x.T} {o:Ob},wPut m x v=some o→(∀(t:Ty) (l:List t.T),o≠.ro t l)∧∀(e:Nat) (cs:List SC),o≠.bl e cs:=by
 intro x
 cases x<;>intro v o h<;>first|(cases h;exact⟨(fun t l e=>by cases e),(fun e cs e2=>by cases e2)⟩)|cases h
theorem own_o{s:Src}{id:Nat}(h:s.ow=some id):s=.o' id true∨∃m,s=.k' id m true:=by
 cases s with
 |o' i w=>cases w<;>simp [Src.ow]at h;subst h;exact .inl rfl
 |n'=>simp [Src.ow]at h
 |k' i m w=>cases w<;>simp [Src.ow]at h;subst h;exact .inr ⟨m,rfl⟩
 |z' t=>simp [Src.ow]at h
section
variable {n nc : Nat} {H : List Ob} {ρ ρ2 ρ3 : Nat → Ad} {ss : List Src} {rg : List Rg} {Hc Hk : List Ob} {lc lk : List SA} {k : Nat}
theorem PR.app(h:PR n nc H ρ ρ2 ρ3 ss rg Hc Hk lc lk k)(hs:ss.length≤nc)(hid:∀(j:Nat) (s:Src) (i:Nat),ss[j]? =some s→s.ow=some i→i<n)(hH:H.length=n){a b:List SC×List Ob}(hab:LR ρ2 ρ3 a b)(hl:a.2.length=b.2.length)
  (hnb:∀(j:Nat) (t:Ty) (l:List t.T),a.2[j]? ≠some (.ro t l)) (hob:∀(j e:Nat) (cs:List SC),b.2[j]? =some (.bl e cs)→∀c∈cs,c.ok (n+(k+b.2.length))):
  PR n nc H ρ ρ2 ρ3 ss rg (Hc++a.2) (Hk++b.2) lc lk (k+b.2.length):=by
 have h1:=h.ec
 have h2:=h.ek
 refine⟨by simp [h1,hl,zaQ],by simp [h2,zaQ],fun i o hi ho=> ?_,fun j id o hj ho=> ?_,fun j id m hj=> ?_,fun id hi hn=> ?_,fun id e cs ho c hc=> ?_,fun id o ho=> ?_,h.vl,fun v hv=> ?_⟩
 ·by_cases hik:i<k
  ·rw [List.getElem?_append_left (by omega)]at ho⊢
   exact h.nw i o hik ho
  ·rw [List.getElem?_append_right (by omega),h1,show nc+i-(nc+k)=i-k by omega]at ho
   rw [List.getElem?_append_right (by omega),h2,show n+i-(n+k)=i-k by omega]
   exact⟨hab.o _ o ho,fun t l e=>hnb _ t l (by rw [ho,e])⟩
 ·have hj2:=(List.getElem?_eq_some_iff.1 hj).1
  have:=hid j _ id hj rfl
  rw [List.getElem?_append_left (by omega)]at ho⊢
  exact h.ow j id o hj ho
 ·have:=hid j _ id hj rfl
  rw [List.getElem?_append_left (by omega)]
  exact h.ok j id m hj
 ·rw [List.getElem?_append_left (by omega)];exact h.ot id hi hn
 ·by_cases hi:id<Hk.length
  ·rw [List.getElem?_append_left hi]at ho
   exact SC.ok_mono (h.ho id e cs ho c hc) (by omega)
  ·rw [List.getElem?_append_right (by omega)]at ho
   exact hob _ e cs ho c hc
 ·have:=(List.getElem?_eq_some_iff.1 ho).1
  rw [List.getElem?_append_left (by omega)];exact h.kp id o ho
 ·have:=h.vo v hv
  cases v with
  |c' x=>exact SC.ok_mono this (by omega)
  |a' l=>exact fun x hx=>SC.ok_mono (this x hx) (by omega)
theorem PR.upd(h:PR n nc H ρ ρ2 ρ3 ss rg Hc Hk lc lk k)(hn:(ownS ss).Nodup)(hid:∀(j:Nat) (s:Src) (i:Nat),ss[j]? =some s→s.ow=some i→i<n){j id:Nat}{o o3:Ob}(hj:ss[j]? =some (.o' id true))(he:Eqv ρ2 ρ3 o o3)(hnb:∀(t:Ty) (l:List t.T),o≠.ro t l)(hkp:∀o0,H[id]? =some o0→asl rg id ρ ρ3 (some o3) o0)(hs:ss.length≤nc)
  (hok:∀(e:Nat) (cs:List SC),o3=.bl e cs→∀c∈cs,c.ok (n+k)):PR n nc H ρ ρ2 ρ3 ss rg (art Hc j o) (art Hk id o3) lc lk k:=by
 have h1:=h.ec
 have h2:=h.ek
 have hi:=hid j _ id hj rfl
 have hjl:=(List.getElem?_eq_some_iff.1 hj).1
 refine⟨by rw [amz,h1],by rw [amz,h2],fun i p hi2 ho=> ?_,fun j2 id2 p hj2 ho=> ?_,fun j2 id2 m hj2=> ?_,fun id2 hi2 hn2=> ?_,fun id2 e cs ho c hc=> ?_,fun id2 p ho=> ?_,h.vl,h.vo⟩
 ·rw [aei,if_neg (by omega)]at ho
  rw [aei,if_neg (by omega)]
  exact h.nw i p hi2 ho
 ·by_cases hjj:j2=j
  ·subst hjj
   rw [hj]at hj2
   cases hj2
   rw [aei,if_pos ⟨rfl,by omega⟩]at ho
   cases ho
   rw [aei,if_pos ⟨rfl,by omega⟩]
   exact⟨⟨o3,rfl,he⟩,hnb⟩
  ·have hne:id2≠id:=fun e=>hjj (ow_inj hn hj2 (by rw [e];rfl) hj rfl)
   rw [aei,if_neg (fun hh=>hjj hh.1)]at ho
   rw [aei,if_neg (fun hh=>hne hh.1)]
   exact h.ow j2 id2 p hj2 ho
 ·have hne:id2≠id:=fun e=>by
   have:=ow_inj hn hj2 (by rw [e];rfl) hj rfl
   subst this
   rw [hj]at hj2;cases hj2
  rw [aei,if_neg (fun hh=>hne hh.1)]
  exact h.ok j2 id2 m hj2
 ·have hne:id2≠id:=fun e=>hn2 (by rw [e];exact ow_mem hj rfl)
  rw [aei,if_neg (fun hh=>hne hh.1)]
  exact h.ot id2 hi2 hn2
 ·rw [aei]at ho
  split at ho
  ·cases ho;exact hok e cs rfl c hc
  ·exact h.ho id2 e cs ho c hc
 ·rw [aei]
  split
  ·rename_i hh
   rw [hh.1]at ho⊢
   exact hkp p ho
  ·exact h.kp id2 p ho
theorem PR.steps(hn:(ownS ss).Nodup)(hs:ss.length≤nc)(hid:∀(j:Nat) (s:Src) (i:Nat),ss[j]? =some s→s.ow=some i→i<n)(hH:H.length=n)(hss:ss.length=nc)
  (hd3:∀i,ρ3 (n+i)=ρ2 (nc+i)) (hdo:∀(j id:Nat),ss[j]? =some (.o' id true)→ρ3 id=ρ2 j):∀(r:List Rk) (y:(resT r).T) (Hc Hk:List Ob) (lc lk:List SA) (k:Nat),PR n nc H ρ ρ2 ρ3 ss rg Hc Hk lc lk k→rkOk H ss r=true→(∀id∈outIds ss (Rk.ids r),∀q,q=cellsO H id→∀j,j<q.2.2→cov id j rg=true)→
  ∃k2,PR n nc H ρ ρ2 ρ3 ss rg (putR (fun j=>j) (lc,Hc) r y).2 (putR (ixS ss) (lk,Hk) r y).2 (putR (fun j=>j) (lc,Hc) r y).1 (putR (ixS ss) (lk,Hk) r y).1 k2:=by
 have one:∀(q:Rk) (v:q.ty.T) (Hc Hk:List Ob) (lc lk:List SA) (k:Nat),PR n nc H ρ ρ2 ρ3 ss rg Hc Hk lc lk k→rkOk H ss [q]=true→(∀id∈outIds ss (Rk.ids [q]),∀q,q=cellsO H id→∀j,j<q.2.2→cov id j rg=true)→
   ∃k2,PR n nc H ρ ρ2 ρ3 ss rg (q.put (fun j=>j) (lc,Hc) v).2 (q.put (ixS ss) (lk,Hk) v).2 (q.put (fun j=>j) (lc,Hc) v).1 (q.put (ixS ss) (lk,Hk) v).1 k2:=by
  intro q v Hc Hk lc lk k h hq hcov
  have h1:=h.ec
  have h2:=h.ek
  simp only [rkOk]at hq
  have hq:=(agp hq).1
  cases q with
  |r' x=>
   have hq:(bif x.tz then false else x.nb)=true:=hq
   cases htz:x.tz with
   |true=>rw [htz]at hq;cases hq
   |false=>
    rw [htz]at hq
    have hq:x.nb=true:=hq
    have hlr:=lay_rel x 0 Hc.length 0 Hk.length v ρ2 ρ3 (fun e=>by rw [htz]at e;cases e) (fun j _=>by rw [h1,h2,zaQ,zaQ];exact(hd3 _).symm)
    have hp:=h.app hs hid hH hlr ((Ty.lay_no x 0 Hc.length v).trans (Ty.lay_no x 0 Hk.length v).symm) (lay_nb x 0 Hc.length v hq) (fun j e cs ho=>by
     have:=awq x 0 Hk.length v j e cs ho
     rw [h2,zaQ]at this
     rw [h2];exact this)
    refine⟨_,hp.ec,hp.ek,hp.nw,hp.ow,hp.ok,hp.ot,hp.ho,hp.kp, ?_,fun u hu=> ?_⟩
    ·show(lc++[x.sa (x.lay 0 Hc.length v).1]).map _=(lk++[x.sa (x.lay 0 Hk.length v).1]).map _
     rw [zaV,zaV,h.vl,List.map_singleton,List.map_singleton,sa_rel hlr.c]
    ·rcases List.mem_append.1 (show u∈lk++[x.sa (x.lay 0 Hk.length v).1]from hu)with hu|hu
     ·exact hp.vo u hu
     ·rw [List.mem_singleton.1 hu]
      have:=Ty.sa_ok (x:=x) (avx x 0 Hk.length v htz)
      rw [←zaQ,←h2];exact this
  |o' j e x=>
   have hq:(bif x.nb then(match ams ss j with
    |some (.o' id w)=>bif w then(match ams H id with
     |some (.bl e2 cs)=>bif zav e2 e then zav cs.length x.cn else false
     |_=>false)else false
    |_=>false)else false)=true:=hq
   have hq:=agp hq
   have hnb:=hq.1
   have hq:=hq.2
   split at hq
   ·rename_i id w hg
    have hq:=agp hq
    have hw:=hq.1
    subst hw
    have hq:=hq.2
    split at hq
    ·rename_i e2 cs0 hb
     have hq:=agp hq
     rw [abm]at hg hb
     have he2:=zag hq.1
     have hcn:=zag hq.2
     subst he2
     have hi:=hid j _ id hg rfl
     have hjl:=(List.getElem?_eq_some_iff.1 hg).1
     have hix:ixS ss j=id:=by unfold ixS;rw [abm,hg]
     have hlr:=lay_rel x j Hc.length id Hk.length v ρ2 ρ3 (fun _=>by rw [hdo j id hg]) (fun j _=>by rw [h1,h2,zaQ,zaQ];exact(hd3 _).symm)
     have hok1:∀c∈(x.lay id Hk.length v).1,c.ok (n+(k+(x.lay id Hk.length v).2.length)):=fun c hc i hic=>by
      rcases(Ty.lay_ok x id Hk.length v c hc).2 i hic with h3|h3
      ·omega
      ·omega
     have hp:=h.app hs hid hH hlr ((Ty.lay_no x j Hc.length v).trans (Ty.lay_no x id Hk.length v).symm) (lay_nb x j Hc.length v hnb) (fun j e cs ho=>by
      have:=awq x id Hk.length v j e cs ho
      rw [h2,zaQ]at this
      rw [h2];exact this)
     have hp2:=hp.upd (j:=j) (id:=id) (o:=.bl e2 (x.lay j Hc.length v).1) (o3:=.bl e2 (x.lay id Hk.length v).1) hn hid hg ⟨_,rfl,hlr.c,fun j c c2 h h2=>lay_kn h h2⟩ (fun t l e=>by cases e) (fun o0 h0=> ?_) hs (fun e cs he c hc=>by cases he;exact hok1 c hc)
     ·refine⟨k+(x.lay id Hk.length v).2.length, ?_⟩
      have e1:∀{Z B:List Ob} {i:Nat} {o:Ob},i<Z.length→art (Z++B) i o=art Z i o++B:=fun hl=>by rw [lset_eq,lset_eq,List.set_append_left _ _ hl]
      rw [e1 (by omega),e1 (by omega)]at hp2
      show PR n nc H ρ ρ2 ρ3 ss rg (art Hc j (.bl e2 (x.lay j Hc.length v).1)++(x.lay j Hc.length v).2) (art Hk (ixS ss j) (.bl e2 (x.lay (ixS ss j) Hk.length v).1)++(x.lay (ixS ss j) Hk.length v).2) lc lk _
      rw [hix];exact hp2
     ·rw [hb]at h0
      cases h0
      refine .inr ⟨_,rfl,(Ty.lay_len x id Hk.length v).trans hcn.symm,fun jj c hc=>.inl ?_⟩
      have hjj:=(List.getElem?_eq_some_iff.1 hc).1
      refine hcov id ?_ _ rfl jj ?_
      ·show id∈[ixS ss j]
       rw [hix];exact List.mem_singleton.2 rfl
      ·unfold cellsO
       rw [abm,hb];exact hjj
    ·cases hq
   ·cases hq
  |w' j x=>
   have hq:(match ams ss j with
    |some (.o' id w)=>bif w then apn (ams H id)else false
    |_=>false)=true:=hq
   split at hq
   ·rename_i id w hg
    have hq:=agp hq
    have hw:=hq.1
    subst hw
    have hrow:=hq.2
    rw [abm]at hg hrow
    have hi:=hid j _ id hg rfl
    have hjl:=(List.getElem?_eq_some_iff.1 hg).1
    have hix:ixS ss j=id:=by unfold ixS;rw [abm,hg]
    have hcj:Hc[j]? =some (Hc[j]'(by omega)):=List.getElem?_eq_getElem (by omega)
    obtain⟨⟨o3,h3,h4⟩,_⟩:=h.ow j id _ hg hcj
    have hlen:lenH Hk id=lenH Hc j:=by rw [lenH_get h3,lenH_get hcj,h4.len]
    refine⟨k, ?_⟩
    show PR n nc H ρ ρ2 ρ3 ss rg (putW Hc j x v) (putW Hk (ixS ss j) x v) lc lk k
    rw [hix]
    unfold putW
    rw [hlen]
    split
    ·rename_i o ho
     have hor:(∀(t:Ty) (l:List t.T),o≠.ro t l)∧Eqv ρ2 ρ3 o o∧∀(e:Nat) (cs:List SC),o≠.bl e cs:=by
      obtain⟨h5,h6⟩:=wPut_some ho
      refine⟨h5, ?_,h6⟩
      cases o with
      |bl e cs=>exact absurd rfl (h6 e cs)
      |_=>rfl
     refine h.upd hn hid hg hor.2.1 hor.1 (fun o0 h0=> ?_) hs (fun e cs he=>absurd he (hor.2.2 e cs))
     have hc0:cov id 0 rg=true:=by
      refine hcov id ?_ _ rfl 0 ?_
      ·show id∈[ixS ss j]
       rw [hix];exact List.mem_singleton.2 rfl
      ·unfold cellsO
       rw [abm,h0]
       rw [h0]at hrow
       cases o0<;>first|exact zbq|cases hrow
     rw [h0]at hrow
     cases o0<;>first|exact .inl hc0|cases hrow
    ·exact h
   ·cases hq
 intro r
 induction r with
 |nil=>intro y Hc Hk lc lk k h _ _;exact⟨k,h⟩
 |cons q r ih=>
  intro y Hc Hk lc lk k h hq hcov
  cases r with
  |nil=>exact one q y Hc Hk lc lk k h hq hcov
  |cons q2 r=>
   have hq2:=agp (show(bif _ then rkOk H ss (q2::r)else false)=true from hq)
   have hsub:∀id,id∈outIds ss (Rk.ids [q])∨id∈outIds ss (Rk.ids (q2::r))→id∈outIds ss (Rk.ids (q::q2::r)):=by
    intro id hid
    cases q with
    |r' x=>
     rcases hid with hid|hid
     ·cases hid
     ·exact hid
    |o' i e x=>
     rcases hid with hid|hid
     ·exact List.mem_cons.2 (.inl (List.mem_singleton.1 hid))
     ·exact zaf _ hid
    |w' i x=>
     rcases hid with hid|hid
     ·exact List.mem_cons.2 (.inl (List.mem_singleton.1 hid))
     ·exact zaf _ hid
   obtain⟨k2,h2⟩:=one q y.1 Hc Hk lc lk k h (by
    have:=hq2.1
    simp only [rkOk]
    rw [this];rfl) (fun id hi=>hcov id (hsub id (.inl hi)))
   exact ih y.2 _ _ _ _ k2 h2 hq2.2 (fun id hi=>hcov id (hsub id (.inr hi)))
end
open Go.Wk
open Go.Ce (Tr)
open Go.Value renaming ownBlock → zaT
open List renaming length → zbl, length_map → zaK, length_nil → zaj, mem_append_left → zbd, mem_append_right → zaY, mem_cons_of_mem → zaf, mem_cons_self → zak, nil_append → zax
open Nat renaming le_refl → zao, zero_add → zbc, zero_le → zah
open Option renaming map_some → zaU
theorem map_some{α β:Type}{f:α→β}{l:List α}{j:Nat}{r:β}(h:(l.map f)[j]? =some r):∃x,l[j]? =some x∧f x=r:=by
 rw [List.getElem?_map]at h
 cases hs:l[j]? with
 |none=>rw [hs]at h;cases h
 |some x=>rw [hs]at h;exact⟨x,rfl,Option.some.inj h⟩
theorem own_uniq{w0 w:World}{S0:List Nat}{L:List Res}(hH:Hp w0 S0 L w){i j b:Nat}{r r2:Res}(h:L[i]? =some r)(h2:L[j]? =some r2)(hr:r.own=some b)(hr2:r2.own=some b):i=j:=by
 obtain⟨hl1,e1⟩:=List.getElem?_eq_some_iff.1 h
 obtain⟨hl2,e2⟩:=List.getElem?_eq_some_iff.1 h2
 have hs:=List.pairwise_iff_getElem.1 hH.sep
 rcases Nat.lt_trichotomy i j with hlt|he|hgt
 ·exact absurd (by rw [e2];exact hr2) (hs i j hl1 hl2 hlt b (by rw [e1];exact hr))
 ·exact he
 ·exact absurd (by rw [e1];exact hr) (hs j i hl2 hl1 hgt b (by rw [e2];exact hr2))
theorem sok_f{ρ ρ2:Nat→Ad}{H:List Ob}{s:Src}{o:Ob}(h:SOk true ρ H ρ2 s o)(hn:∀(t:Ty) (l:List t.T),o≠.ro t l):SOk false ρ H ρ2 s o:=by
 cases o with
 |ro t l=>exact absurd rfl (hn t l)
 |_=>exact h
theorem sokC_len{ρ ρ2:Nat→Ad}{H:List Ob}(hl:Lns ρ H)(hb:Brk H){s:Src}{o:Ob}(h:SOk true ρ H ρ2 s o):o.len=(s.ad ρ).ln:=by
 cases o with
 |ro t l=>
  rcases h with⟨id,rfl,h1⟩|⟨rfl,rfl⟩|⟨_,id,m,e,cs,rfl,h1,h2⟩
  ·obtain⟨ob,h2,h3⟩:=anyOf_len (fun m x hx=>hb id m x hx) (show anyOf t H[id]? =some l from h1)
   have:=hl id ob h2
   show l.length=(ρ id).ln
   rw [←h3];exact this
  ·rfl
  ·exact(asn h2).1
 |_=>exact sok_len hl hb (sok_f h (fun t l e=>by cases e))
theorem ro_any{w0 w1:World}{S0 S1:List Nat}{ρ:Nat→Ad}{id:Nat}{o:Ob}{r:Res}(h:RO w0 S0 ρ id o r)(hn:∀(t:Ty) (l:List t.T),o≠.ro t l):RO w1 S1 ρ id o r:=by
 cases o with
 |ro t l=>exact absurd rfl (hn t l)
 |_=>exact h
theorem sokC_ro{w0 w:World}{S0 S1:List Nat}{ρ ρ2:Nat→Ad}{H:List Ob}{L:List Res}(hH:Hp w0 S0 L w)(hM:Mt w0 S0 ρ H L)(hX:∀b∈S1,w0.heap.size≤b∨b∈S0){s:Src}{o:Ob}{k:Nat}(hB:∀id∈s.bor,∀(r:Res) (b:Nat),L[id]? =some r→r.own=some b→b∉S1)(h:SOk true ρ H ρ2 s o)(hk:ρ2 k=s.ad ρ):
  ∃r,RO w S1 ρ2 k o r∧r.holds w∧∀b,r.own=some b→∃i ri,s.ow=some i∧L[i]? =some ri∧ri.own=some b:=by
 cases o with
 |ro t l=>
  refine⟨nores,⟨rfl, ?_⟩,trivial,fun b hb=>by cases hb⟩
  rw [hk]
  rcases h with⟨id,rfl,h1⟩|⟨rfl,rfl⟩|⟨_,id,m,e,cs,rfl,h1,h2⟩
  ·have h1:anyOf t H[id]? =some l:=h1
   have hB:=hB id (by simp [Src.bor])
   show ROk w S1 (ρ id) t l
   unfold anyOf at h1
   split at h1
   ·rename_i e b t2 l2 hb
    split at h1
    ·rename_i hq
     obtain rfl:=Ty.eqb_eq hq
     cases h1
     obtain⟨_,r,hr,he⟩:=hM.2 id _ hb
     have he:r=rwt t2.enc e t2.sz (ρ id).o (ρ id).a (ρ id).cap l2:=he
     subst he
     refine⟨hH.rdrw id hr,fun hne p hp=> ?_,hH.rwcap id hr⟩
     have hl2:l2≠[]:=fun e=>by rw [e]at hne;exact hne rfl
     obtain⟨h6,_⟩:=hH.res _ (List.mem_of_getElem? hr)
     rcases h6 with⟨_,h8,_⟩|⟨g,cur,h7,h8,_⟩
     ·exact absurd h8 hl2
     ·rw [hp]at h8
      cases h8
      exact hB _ _ hr h7
    ·cases h1
   ·rename_i t2 l2 hb
    split at h1
    ·rename_i hq
     obtain rfl:=Ty.eqb_eq hq
     cases h1
     obtain⟨_,r,hr,_,hro,hne,hcap⟩:=hM.2 id _ hb
     refine⟨hro.hpN hH hne,fun hn p hp hS1=> ?_,hcap⟩
     have hpS:=hne hn p hp
     rcases hX _ hS1 with h3|h3
     ·obtain⟨v,hv⟩:∃v,(l2.flatMap t2.enc)[0]? =some v:=by
       cases hq:l2.flatMap t2.enc with
       |nil=>exact absurd hq hn
       |cons v vs=>exact⟨v,rfl⟩
      obtain⟨p2,h4,h5⟩:=hro 0 v hv
      rw [hp]at h4
      cases h4
      have:=cell_lt h5
      rw [awi]at this
      omega
     ·exact hpS h3
    ·cases h1
   ·rename_i m l2 hb
    unfold strOf at h1
    split at h1
    ·rename_i hq
     obtain rfl:=Ty.eqb_eq hq
     cases h1
     obtain⟨_,r,hr,he⟩:=hM.2 id _ hb
     have he:r=brow (.slice (ρ id).a m (ρ id).cap) m l2:=he
     subst he
     obtain⟨⟨h5,g,cap,cur,e,fz,h6,h7,h8,_⟩,_⟩:=hH.res _ (List.mem_of_getElem? hr)
     simp only [Value.slice.injEq]at h6
     refine⟨Rd.ofbytes (hH.rdbrow id hr),fun hn p hp=> ?_, ?_⟩
     ·rw [h6.1]at hp
      cases hp
      exact hB _ g hr (by simp [brow,zaT,h6.1])
     ·show l2.length≤(ρ id).cap
      rw [h5,h6.2.2];exact h8
    ·cases h1
   ·cases h1
  ·exact⟨Rd.nil _ _,fun h=>absurd rfl h,zah _⟩
  ·obtain⟨_,r,hr,vs,rfl,hm⟩:=hM.2 id _ h1
   obtain⟨h3,_,h4⟩:=asn h2
   have h5:=hm.all (rdAll_kn h2)
   refine⟨?_,fun hn p hp=> ?_,by rw [h3];exact zao _⟩
   ·rw [←h4 ρ,←h5];exact hH.rdblk id hr
   ·cases hp
    exact hB id (by simp [Src.bor]) _ _ hr rfl
 |_=>
  obtain⟨r,h1,h2,h3⟩:=sok_ro hH hM (sok_f h (fun t l e=>by cases e)) hk
  exact⟨r,ro_any h1 (fun t l e=>by cases e),h2,h3⟩
theorem sok_own{ρ ρ2:Nat→Ad}{H:List Ob}{s:Src}{o:Ob}{id:Nat}(h:SOk true ρ H ρ2 s o)(ho:s.ow=some id):
  (s=.o' id true∧((∃e cs cs1,o=.bl e cs∧H[id]? =some (.bl e cs1)∧cs1.map (SC.v ρ)=cs.map (SC.v ρ2)∧(∀c∈cs1,c.kn=true)∧∀c∈cs,c.kn=true)∨(∃e b t l,o=.rw e b t l∧H[id]? =some (.rw e b t l))∨∃n l m,o=.br n l∧n=l.length∧H[id]? =some (.br m l)))∨
  ∃m e b t l cs,s=.k' id m true∧o=.rw e b t l∧H[id]? =some (.bl e cs):=by
 cases o with
 |bl e cs=>
  obtain⟨i,cs1,rfl,h1⟩:=h
  cases ho
  exact .inl ⟨rfl,.inl ⟨e,cs,cs1,rfl,h1⟩⟩
 |rw e b t l=>
  rcases h with⟨i,rfl,h1⟩|⟨rfl,_⟩|⟨i,m,cs,rfl,h1,_⟩
  ·cases ho;exact .inl ⟨rfl,.inr (.inl ⟨e,b,t,l,rfl,h1⟩)⟩
  ·cases ho
  ·cases ho;exact .inr ⟨m,e,b,t,l,cs,rfl,rfl,h1⟩
 |ro t l=>rcases h with⟨i,rfl,_⟩|⟨rfl,_⟩|⟨_,i,m,e,cs,rfl,_⟩<;>cases ho
 |br n l=>
  obtain⟨h1,i,m,rfl,h2⟩:=h
  cases ho
  exact .inl ⟨rfl,.inr (.inr ⟨n,l,m,rfl,h1,h2⟩)⟩
 |dd n=>rcases h with⟨_,⟨t,rfl⟩|⟨fl,rfl,_⟩⟩<;>cases ho
theorem eqv_ro{w w0:World}{S S0:List Nat}{ρ2 ρ3:Nat→Ad}{j id:Nat}{o o3:Ob}{r:Res}(h:Eqv ρ2 ρ3 o o3)(hk:ρ3 id=ρ2 j)(hn:∀(t:Ty) (l:List t.T),o≠.ro t l)(hr:RO w S ρ2 j o r):RO w0 S0 ρ3 id o3 r:=by
 cases o with
 |bl e cs=>
  obtain⟨cs2,rfl,h1,h2⟩:=h
  obtain⟨vs,rfl,h3,h4⟩:=hr
  have hl:cs.length=cs2.length:=by simpa using congrArg zbl h1
  refine⟨vs,by rw [hk],by rw [h3,hl],fun i c2 hi hkn=> ?_⟩
  have hlt:=(List.getElem?_eq_some_iff.1 hi).1
  have hc:cs[i]? =some (cs[i]'(by omega)):=List.getElem?_eq_getElem (by omega)
  rw [h4 i _ hc (by rw [h2 i _ c2 hc hi];exact hkn)]
  have h5:=congrArg (fun l=>l[i]?) h1
  simp only [List.getElem?_map,hc,hi,zaU]at h5
  exact h5
 |rw e b t l=>
  have h:o3=Ob.rw e b t l:=h
  subst h
  show r=_
  rw [hk];exact hr
 |ro t l=>exact absurd rfl (hn t l)
 |br n l=>
  have h:o3=Ob.br n l:=h
  subst h
  show r=_
  rw [hk];exact hr
 |dd n=>
  have h:o3=Ob.dd n:=h
  subst h
  trivial
theorem borS_mem{ss:List Src}{j id:Nat}{s:Src}(h:ss[j]? =some s)(hb:id∈s.bor):id∈borS ss:=by
 induction ss generalizing j with
 |nil=>simp at h
 |cons x ss ih=>
  show id∈x.bor++borS ss
  cases j with
  |zero=>
   have e:x=s:=by simpa using h
   subst e;exact zbd _ hb
  |succ j=>exact zaY _ (ih (by simpa using h))
def rOf(L:List Res):Option Nat→Res
 |some id=>(L[id]?).getD nores
 |none=>nores
theorem resV_rel{ρ ρ2:Nat→Ad}{l l2:List SA}{v:Value}(h:l.map (SA.v ρ)=l2.map (SA.v ρ2))(hv:(resV l).v ρ=some v):(resV l2).v ρ2=some v:=by
 match l,l2,h with
 |[],[],_=>exact hv
 |[x],[y],h=>
  have h:x.v ρ=y.v ρ2:=by simpa using h
  show y.sv.v ρ2=some v
  rw [SA.sv_v,←h,←SA.sv_v];exact hv
 |x::y::l,u::z::l2,h=>
  show some (Value.tuple ((u::z::l2).map (SA.v ρ2)).toArray)=some v
  rw [←h];exact hv
 |[],_::_,h=>simp at h
 |_::_,[],h=>simp at h
 |[_],_::_::_,h=>simp at h
 |_::_::_,[_],h=>simp at h
theorem resV_ok{l:List SA}{n:Nat}(h:∀v∈l,v.ok n):(resV l).ok n:=by
 match l,h with
 |[],_=>exact fun x hx=>by cases hx
 |[x],h=>exact SA.sv_ok (h x zak)
 |x::y::l,h=>exact fun z hz=>h z hz
section
variable {C : Cx} {md : Md} {w0 w : World} {S0 : List Nat} {ρ : Nat → Ad} {S : St} {F : Nat → Value} {GS : Glo}
theorem gw_now{L:List Res}{S1:List Nat}(hG:Gw GS w0 S0)(hH:Hp w0 S0 L w)(hX:∀b∈S1,w0.heap.size≤b∨b∈S0):Gw GS w S1:=GS.st hH hG hX
theorem call_ok(hS:Rel C w0 S0 ρ S F w)(hG:Gw GS w0 S0){c:Con}{k:Nat}(hF:FOk C.P GS k c){vs:List SV}{a:(tupT c.a).T}{ss:List Src}{y:(resT c.r).T}(h:rdA S.H c.a vs=some (a,ss))(hok:callOk c S a ss=true)(hy:(c.f a).ok y):
  ∃us,vs.map (SV.v ρ)=us.map some∧CR C.P k us w fun v w2=>∃ρ3,∀d:Option Nat,Rel C w0 S0 ρ3 (callS c S d a ss y) (match d with
   |some d=>upd F d v
   |none=>F) w2∧Nx S ρ (callS c S d a ss y) ρ3:=by
 obtain⟨L,hH,hM⟩:=hS.mem
 have hln:=rel_lns hS
 have hbr:=rel_brk hS
 unfold callOk at hok
 have hok:=agp hok
 have hnod:=nodN_iff.1 hok.1
 have hok:=agp hok.2
 have hdis:=disN_iff.1 hok.1
 have hok:=agp hok.2
 have hrk:=hok.1
 have hoks:=hok.2
 obtain⟨obs,h1,h2,h3,h4,h5⟩:=rdA_ok hbr c.a vs a ss [] h
 rw [zax]at h1
 let ρc:Nat→Ad:=fun j=>match ss[j]? with
  |some s=>s.ad ρ
  |none=>⟨none,none,0,false,0⟩
 have hρc:∀(j:Nat) (s:Src),ss[j]? =some s→ρc j=s.ad ρ:=fun j s hj=>by simp only [ρc,hj]
 obtain⟨⟨us,h6,h7⟩,h8⟩:=h5 ρ ρc (fun j s hj=>by
  rw [zaj,zbc];exact hρc j s hj)
 refine⟨us,h6, ?_⟩
 have hlenL:=hM.1
 let L1:List Res:=ss.map fun s=>rOf L s.ow
 let Lr:List Res:=(List.range S.H.length).map fun id=>bif avk id (ownS ss)then nores else(L[id]?).getD nores
 have hL1:L1.length=ss.length:=by simp [L1]
 have hLr:Lr.length=S.H.length:=by simp [Lr]
 have own1:∀(j:Nat) (r:Res) (b:Nat),L1[j]? =some r→r.own=some b→∃s id ri,ss[j]? =some s∧s.ow=some id∧L[id]? =some ri∧ri.own=some b∧r=ri:=by
  intro j r b hj hb
  obtain⟨s,h9,h10⟩:=map_some hj
  subst h10
  cases ho:s.ow with
  |none=>rw [ho]at hb;cases hb
  |some id=>
   cases hl:L[id]? with
   |none=>
    have e:rOf L s.ow=nores:=by rw [ho];show(L[id]?).getD nores=_;rw [hl];rfl
    rw [e]at hb;cases hb
   |some ri=>
    have e:rOf L (some id)=ri:=by show(L[id]?).getD nores=_;rw [hl];rfl
    rw [ho]at hb
    exact⟨s,id,ri,h9,ho,hl,by rw [←e];exact hb,e⟩
 have hp1:Hp w0 S0 (L1++Lr) w:=by
  refine Go.Oe.Hp.pick (ss.map Src.ow++(List.range S.H.length).map fun id=>bif avk id (ownS ss)then none else some id) hH (fun j r hj=> ?_) (fun j k i hj hk=> ?_)
  ·by_cases hlt:j<ss.length
   ·rw [List.getElem?_append_left (by omega)]at hj
    refine⟨?_,fun b hb=> ?_⟩
    ·obtain⟨s,h9,h10⟩:=map_some hj
     subst h10
     cases ho:s.ow with
     |none=>trivial
     |some id=>
      show Res.holds ((L[id]?).getD nores) w
      cases hl:L[id]? with
      |none=>trivial
      |some ri=>exact(hH.res _ (List.mem_of_getElem? hl)).1
    ·obtain⟨s,id,ri,h9,h10,h11,h12,rfl⟩:=own1 j r b hj hb
     refine⟨id,r, ?_,h11,h12⟩
     rw [List.getElem?_append_left (by simpa using hlt),List.getElem?_map,h9]
     exact congrArg some h10
   ·rw [List.getElem?_append_right (by omega),hL1]at hj
    have hj:((List.range S.H.length).map _)[j-ss.length]? =some r:=hj
    rw [List.getElem?_map]at hj
    by_cases hlt2:j-ss.length<S.H.length
    ·rw [List.getElem?_range hlt2]at hj
     have hj:(bif avk (j-ss.length) (ownS ss)then nores else(L[j-ss.length]?).getD nores)=r:=Option.some.inj hj
     have hlL:L[j-ss.length]? =some (L[j-ss.length]'(by omega)):=List.getElem?_eq_getElem (by omega)
     cases hm:avk (j-ss.length) (ownS ss)with
     |true=>rw [hm]at hj;rw [←hj];exact⟨trivial,fun b hb=>by cases hb⟩
     |false=>
      rw [hm,hlL]at hj
      have hj:L[j-ss.length]=r:=hj
      rw [←hj]
      refine⟨(hH.res _ (List.mem_of_getElem? hlL)).1,fun b hb=>⟨j-ss.length,_, ?_,hlL,hb⟩⟩
      rw [List.getElem?_append_right (by simp;omega),zaK,List.getElem?_map,List.getElem?_range hlt2]
      simp only [zaU,hm,cond_false]
    ·rw [List.getElem?_eq_none (by simpa using Nat.le_of_not_lt hlt2)]at hj;cases hj
  ·have key:∀j,(ss.map Src.ow++(List.range S.H.length).map fun id=>bif avk id (ownS ss)then none else some id)[j]? =some (some i)→(j<ss.length∧∃s,ss[j]? =some s∧s.ow=some i)∨(ss.length≤j∧j-ss.length=i∧i∉ownS ss):=by
    intro j hj
    by_cases hlt:j<ss.length
    ·rw [List.getElem?_append_left (by simpa using hlt),List.getElem?_map]at hj
     cases hs:ss[j]? with
     |none=>rw [hs]at hj;cases hj
     |some s=>rw [hs]at hj;exact .inl ⟨hlt,s,rfl,Option.some.inj hj⟩
    ·rw [List.getElem?_append_right (by simpa using Nat.le_of_not_lt hlt),zaK,List.getElem?_map]at hj
     by_cases hlt2:j-ss.length<S.H.length
     ·rw [List.getElem?_range hlt2]at hj
      have hj:(bif avk (j-ss.length) (ownS ss)then none else some (j-ss.length))=some i:=Option.some.inj hj
      cases hm:avk (j-ss.length) (ownS ss)with
      |true=>rw [hm]at hj;cases hj
      |false=>
       rw [hm]at hj
       have hj:j-ss.length=i:=Option.some.inj hj
       refine .inr ⟨by omega,hj,fun hc=> ?_⟩
       rw [←hj]at hc
       rw [aiw.2 hc]at hm;cases hm
     ·rw [List.getElem?_eq_none (by simpa using Nat.le_of_not_lt hlt2)]at hj;cases hj
   rcases key j hj with⟨h9,s,h10,h11⟩|⟨h9,h10,h11⟩<;>rcases key k hk with⟨h12,s2,h13,h14⟩|⟨h12,h13,h14⟩
   ·exact ow_inj hnod h10 h11 h13 h14
   ·exact absurd (ow_mem h10 h11) h14
   ·exact absurd (ow_mem h13 h14) h11
   ·omega
 have hX:∀b∈akn L1,w0.heap.size≤b∨b∈S0:=by
  intro b hb
  obtain⟨r,hr,e⟩:=mem_owns hb
  exact((hp1.res r (List.mem_append.2 (.inl hr))).2 b e).2
 have hB:∀id∈borS ss,∀(r:Res) (b:Nat),L[id]? =some r→r.own=some b→b∉akn L1:=by
  intro id hid r b hr hb hm
  obtain⟨r2,hr2,e⟩:=mem_owns hm
  obtain⟨j,hj⟩:=List.mem_iff_getElem?.1 hr2
  obtain⟨s,id2,ri,h9,h10,h11,h12,_⟩:=own1 j r2 b hj e
  have:=own_uniq hH hr h11 hb h12
  subst this
  exact hdis id hid (ow_mem h9 h10)
 have hand:=hp1.hand
 have hAo:argH c a=obs:=h1
 have hp:∀j,j<obs.length→∃r,(∀o,obs[j]? =some o→RO w (akn L1) ρc j o r)∧r.holds w∧∀b,r.own=some b→∃ri,L1[j]? =some ri∧ri.own=some b:=by
  intro j hj
  have ho:=List.getElem?_eq_getElem hj
  have hs:ss[j]? =some (ss[j]'(by omega)):=List.getElem?_eq_getElem (by omega)
  obtain⟨r,h9,h10,h11⟩:=sokC_ro (S1:=akn L1) hH hM hX (fun id hid=>hB id (borS_mem hs hid)) (h8 j _ _ hs ho) (hρc j _ hs)
  refine⟨r,fun o h12=>by rw [ho]at h12;cases h12;exact h9,h10,fun b hb=> ?_⟩
  obtain⟨i,ri,h12,h13,h14⟩:=h11 b hb
  refine⟨ri, ?_,h14⟩
  show(ss.map _)[j]? =_
  rw [List.getElem?_map,hs,zaU,h12]
  show some ((L[i]?).getD nores)=_
  rw [h13];rfl
 obtain⟨Lc,hlc,hrc⟩:=list_of obs.length hp
 have hpc:Hp w (akn L1) Lc w:=by
  refine Go.Oe.Hp.pick ((List.range obs.length).map some) hand (fun j r hj=> ?_) (fun j k i hj hk=> ?_)
  ·obtain⟨_,h9,h10⟩:=hrc j r hj
   refine⟨h9,fun b hb=> ?_⟩
   obtain⟨ri,h11,h12⟩:=h10 b hb
   have hlt:=(List.getElem?_eq_some_iff.1 hj).1
   exact⟨j,ri,by rw [List.getElem?_map,List.getElem?_range (by omega)];rfl,h11,h12⟩
  ·have key:∀j,((List.range obs.length).map some)[j]? =some (some i)→j=i:=by
    intro j hj
    rw [List.getElem?_map]at hj
    by_cases hlt:j<obs.length
    ·rw [List.getElem?_range hlt]at hj
     simpa using hj
    ·rw [List.getElem?_eq_none (by simpa using Nat.le_of_not_lt hlt)]at hj;cases hj
   rw [key j hj,key k hk]
 have hmc:Mt w (akn L1) ρc (argH c a) Lc:=by
  rw [hAo]
  refine⟨hlc,fun j o ho=> ?_⟩
  have hlt:=(List.getElem?_eq_some_iff.1 ho).1
  have hs:ss[j]? =some (ss[j]'(by omega)):=List.getElem?_eq_getElem (by omega)
  have hl:Lc[j]? =some (Lc[j]'(by omega)):=List.getElem?_eq_getElem (by omega)
  refine⟨?_,_,hl,(hrc j _ hl).1 o ho⟩
  rw [hρc j _ hs]
  exact sokC_len hln hbr (h8 j _ _ hs ho)
 refine(hF w (akn L1) ρc Lc us a y (gw_now hG hH hX) hpc hmc h7 hy).mono fun v w2=> ?_
 rintro⟨ρ2,L2,hup,hp2,hm2,hv⟩
 have hcall:=hp1.callK hp2
 have hncs:ss.length=obs.length:=h2.symm
 let ρ3:Nat→Ad:=fun id=>if id<S.H.length then ρ id else ρ2 (obs.length+(id-S.H.length))
 have hup3:Up S.H.length ρ ρ3:=fun id hi=>by simp only [ρ3,hi,if_true]
 have hd3:∀i,ρ3 (S.H.length+i)=ρ2 (obs.length+i):=fun i=>by
  have e1:¬S.H.length+i<S.H.length:=by omega
  have e2:S.H.length+i-S.H.length=i:=by omega
  simp only [ρ3,e1,if_false,e2]
 have hidn:∀(j:Nat) (s:Src) (i:Nat),ss[j]? =some s→s.ow=some i→i<S.H.length:=by
  intro j s i hj hi
  have hjl:=(List.getElem?_eq_some_iff.1 hj).1
  have hso:=h8 j s _ hj (List.getElem?_eq_getElem (by omega))
  rcases sok_own hso hi with⟨_,⟨e,cs,cs1,_,h9,_⟩|⟨e,b,t,l,_,h9⟩|⟨n,l,m,_,_,h9⟩⟩|⟨m,e,b,t,l,cs,_,_,h9⟩<;>exact(List.getElem?_eq_some_iff.1 h9).1
 have hdo:∀(j id:Nat),ss[j]? =some (.o' id true)→ρ3 id=ρ2 j:=by
  intro j id hj
  have hjl:=(List.getElem?_eq_some_iff.1 hj).1
  have hi:=hidn j _ id hj rfl
  rw [hup3 id hi,hup j (by rw [hAo];omega),hρc j _ hj];rfl
 let EC:=eatJ (Rk.ids c.r) (argH c a) 0
 let EK:=axa (Rk.ids c.r) (asc [] c.a a).2 0 ss
 have hEK:EK=axa (Rk.ids c.r) obs 0 ss:=by show axa _ (argH c a) 0 ss=_;rw [hAo]
 have hEC:EC=eatJ (Rk.ids c.r) obs 0:=by show eatJ _ (argH c a) 0=_;rw [hAo]
 have eatEq:∀(j id:Nat) (s:Src),ss[j]? =some s→s.ow=some id→(id∈EK↔j∈EC):=by
  intro j id s hj hs
  have hjl:=(List.getElem?_eq_some_iff.1 hj).1
  rw [hEK,hEC,eaten_mem,eatJ_mem]
  constructor
  ·rintro⟨j2,o,s2,_,h9,h10,h11,h12,h13⟩
   rw [Nat.sub_zero]at h9 h10
   have hs2:s2.ow=some id:=by
    rw [ow_own]at h13
    cases ho:s2.ow with
    |none=>rw [ho]at h13;simp at h13
    |some i=>rw [ho]at h13;simp at h13;rw [h13]
   have:=ow_inj hnod hj hs h10 hs2
   subst this
   exact⟨o,zah _,by rw [Nat.sub_zero];exact h9,h11,h12⟩
  ·rintro⟨o,_,h9,h10,h11⟩
   rw [Nat.sub_zero]at h9
   exact⟨j,o,s,zah _,by rw [Nat.sub_zero];exact h9,by rw [Nat.sub_zero];exact hj,h10,h11,by rw [ow_own,hs];simp⟩
 let rg:List Rg:=callM c S a ss
 have covE:∀{id j:Nat},cov id j (aok S.H EK)=true→cov id j rg=true:=fun h=>aia.2 (.inl h)
 have eatSome:∀id,id∈EK→(apn S.H[id]? =true∨∃e cs,S.H[id]? =some (.bl e cs))∧id∈ownS ss:=by
  intro id hid
  rw [hEK,eaten_mem]at hid
  obtain⟨j,o,s,_,h9,h10,h11,h12,h13⟩:=hid
  rw [Nat.sub_zero]at h9 h10
  have hs2:s.ow=some id:=by
   rw [ow_own]at h13
   cases ho:s.ow with
   |none=>rw [ho]at h13;simp at h13
   |some i=>rw [ho]at h13;simp at h13;rw [h13]
  refine⟨?_,ow_mem h10 hs2⟩
  rcases sok_own (h8 j s o h10 h9) hs2 with⟨_,⟨e,cs,cs1,rfl,_⟩|⟨e,b,t,l,_,h14⟩|⟨n,l,m,_,_,h14⟩⟩|⟨m,e,b,t,l,cs,_,_,h14⟩
  ·cases h11
  ·left;rw [h14];rfl
  ·left;rw [h14];rfl
  ·exact .inr ⟨_,_,h14⟩
 have h0:PR S.H.length obs.length S.H ρ ρ2 ρ3 ss rg (kill (argH c a) EC) (kill S.H EK) [] [] 0:=by
  refine⟨by rw [aws,hAo];rfl,by rw [aws];rfl,fun i o hi=>by omega,fun j id o hj ho=> ?_,fun j id m hj=> ?_,fun id hi hn=> ?_,fun id e cs ho cc hc=> ?_,fun id o ho=> ?_,rfl,fun v hv=>by cases hv⟩
  ·have hjl:=(List.getElem?_eq_some_iff.1 hj).1
   have hi:=hidn j _ id hj rfl
   have hoj:obs[j]? =some (obs[j]'(by omega)):=List.getElem?_eq_getElem (by omega)
   have hso:=h8 j _ _ hj hoj
   have hid:=List.getElem?_eq_getElem hi
   have hlen:S.H[id].len=(obs[j]'(by omega)).len:=by
    rw [hln id _ hid,sokC_len hln hbr hso];rfl
   rw [anx,hAo,hoj]at ho
   rw [anx,hid]
   by_cases hE:j∈EC
   ·rw [if_pos hE]at ho
    rw [if_pos ((eatEq j id _ hj rfl).2 hE)]
    cases ho
    refine⟨⟨_,rfl, ?_⟩,fun t l e=>by cases e⟩
    show Ob.dd _=Ob.dd _
    rw [hlen]
   ·rw [if_neg hE]at ho
    rw [if_neg (fun hh=>hE ((eatEq j id _ hj rfl).1 hh))]
    have ho:=Option.some.inj ho
    rw [ho]at hso hoj
    rcases sok_own hso rfl with⟨_,⟨e,cs,cs1,rfl,h9,h10,h11,h12⟩|⟨e,b,t,l,rfl,h9⟩|⟨n,l,m,rfl,h9,h10⟩⟩|⟨m,e,b,t,l,cs,he,_⟩
    ·refine⟨⟨_,rfl,cs1,by rw [hid]at h9;exact Option.some.inj h9, ?_,fun jj c1 c2 h13 h14=>by rw [h12 c1 (List.mem_of_getElem? h13),h11 c2 (List.mem_of_getElem? h14)]⟩,fun t l e=>by cases e⟩
     rw [scs_up hup3 (fun x hx=>hS.ho id e cs1 h9 x hx),h10]
     refine scs_up hup fun x hx=> ?_
     have:=h4 j e cs hoj x hx
     rw [hAo]
     simpa using this
    ·refine⟨⟨_,rfl, ?_⟩,fun t l e=>by cases e⟩
     rw [hid]at h9;exact Option.some.inj h9
    ·refine⟨⟨_,rfl, ?_⟩,fun t l e=>by cases e⟩
     have h11:=hbr id m l h10
     rw [hid]at h10
     show S.H[id]=Ob.br n l
     rw [Option.some.inj h10,h9,h11]
    ·cases he
  ·have hjl:=(List.getElem?_eq_some_iff.1 hj).1
   have hi:=hidn j _ id hj rfl
   have hoj:obs[j]? =some (obs[j]'(by omega)):=List.getElem?_eq_getElem (by omega)
   have hso:=h8 j _ _ hj hoj
   obtain⟨hrow,e0,cs0,hbl⟩:apn (some (obs[j]'(by omega)))=true∧∃e cs,S.H[id]? =some (.bl e cs):=by
    rcases sok_own hso rfl with⟨he,_⟩|⟨m,e,b,t,l,cs,_,he,h9⟩
    ·cases he
    ·rw [he];exact⟨rfl,e,cs,h9⟩
   have hout:j∉Rk.ids c.r:=by
    intro hm
    have key:∀r:List Rk,rkOk S.H ss r=true→j∈Rk.ids r→False:=by
     intro r
     induction r with
     |nil=>intro _ h;cases h
     |cons q r ih=>
      intro hq hj2
      have hq:=agp (show(bif _ then rkOk S.H ss r else false)=true from hq)
      cases q with
      |r' x=>exact ih hq.2 hj2
      |o' i e x=>
       rcases List.mem_cons.1 (show j∈i::Rk.ids r from hj2)with rfl|hj2
       ·have h9:=(agp hq.1).2
        rw [abm,hj]at h9;cases h9
       ·exact ih hq.2 hj2
      |w' i x=>
       rcases List.mem_cons.1 (show j∈i::Rk.ids r from hj2)with rfl|hj2
       ·have h9:=hq.1
        simp only [abm,hj]at h9
        cases h9
       ·exact ih hq.2 hj2
    exact key c.r hrk hm
   have hE:j∈EC:=by
    rw [hEC,eatJ_mem]
    exact⟨_,zah _,by rw [Nat.sub_zero];exact hoj,hrow,hout⟩
   rw [anx,if_pos ((eatEq j id _ hj rfl).2 hE),hbl];rfl
  ·rw [anx,if_neg (fun hE=>hn (eatSome id hE).2)]
  ·rw [anx]at ho
   split at ho
   ·cases hg:S.H[id]? with
    |none=>rw [hg]at ho;cases ho
    |some o=>rw [hg]at ho;cases ho
   ·exact hS.ho id e cs ho cc hc
  ·rw [anx]
   by_cases hE:id∈EK
   ·rw [if_pos hE,ho]
    have:=(eatSome id hE).1
    cases o with
    |bl e cs=>exact .inl fun j hj=>covE (wholeO_cov ho hE hj)
    |rw e b t l=>exact .inl (covE (ary hE))
    |br m l=>exact .inl (covE (ary hE))
    |ro t l=>rcases this with h9|⟨_,_,h9⟩<;>rw [ho]at h9<;>cases h9
    |dd n=>rcases this with h9|⟨_,_,h9⟩<;>rw [ho]at h9<;>cases h9
   ·rw [if_neg hE,ho]
    cases o with
    |bl e cs=>exact .inr ⟨cs,rfl,rfl,fun j cc hj=>.inr ⟨cc,hj,fun hk=>⟨hk,SC.up hup3 (hS.ho id e cs ho cc (List.mem_of_getElem? hj))⟩⟩⟩
    |rw e b t l=>exact .inr rfl
    |br m l=>exact .inr rfl
    |ro t l=>rfl
    |dd n=>rfl
 obtain⟨k2,hP⟩:=PR.steps hnod (by omega) hidn rfl hncs hd3 hdo c.r y _ _ [] [] 0 h0 hrk (fun id hid q hq j hj=>by
  subst hq
  refine aia.2 (.inr ?_)
  have key:∀l:List Nat,id∈l→cov id j (cellsL S.H l)=true:=by
   intro l
   induction l with
   |nil=>intro h;cases h
   |cons x l ih=>
    intro h
    rcases List.mem_cons.1 h with rfl|h
    ·exact afs.2 ⟨_,zak,rfl,zah _,hj⟩
    ·obtain⟨q,h9,h10⟩:=afs.1 (ih h)
     exact afs.2 ⟨q,zaf _ h9,h10⟩
  exact key _ hid)
 let Hk:=(putR (ixS ss) ([],kill S.H EK) c.r y).2
 let Hc:=(retS c a y).2
 have hHc:Hc.length=obs.length+k2:=hP.ec
 have hHk:Hk.length=S.H.length+k2:=hP.ek
 have hL2:L2.length=obs.length+k2:=by rw [hm2.1];exact hHc
 let jOf:Nat→Option Nat:=fun id=>(List.range ss.length).find? fun j=>decide ((ss[j]?).bind Src.ow=some id)
 have hjOf:∀id j,jOf id=some j→∃s,ss[j]? =some s∧s.ow=some id:=by
  intro id j hj
  have:=List.find?_some hj
  have h9:(ss[j]?).bind Src.ow=some id:=of_decide_eq_true this
  cases hs:ss[j]? with
  |none=>rw [hs]at h9;cases h9
  |some s=>rw [hs]at h9;exact⟨s,rfl,h9⟩
 have hjNo:∀id,jOf id=none→id∉ownS ss:=by
  intro id hj hm
  have key:∀l:List Src,id∈ownS l→∃(j:Nat) (s:Src),l[j]? =some s∧s.ow=some id:=by
   intro l
   induction l with
   |nil=>intro h;cases h
   |cons x l ih=>
    intro h
    rcases List.mem_append.1 (show id∈x.own++ownS l from h)with h|h
    ·refine⟨0,x,rfl, ?_⟩
     rw [ow_own]at h
     cases ho:x.ow with
     |none=>rw [ho]at h;simp at h
     |some i=>rw [ho]at h;simp at h;rw [h]
    ·obtain⟨j,s,h1,h2⟩:=ih h
     exact⟨j+1,s,by simpa using h1,h2⟩
  obtain⟨j,s,h9,h10⟩:=key ss hm
  have hlt:=(List.getElem?_eq_some_iff.1 h9).1
  have:=List.find?_eq_none.1 hj j (by simpa using hlt)
  rw [h9]at this
  simp [h10]at this
 let src:Nat→Option Nat:=fun id=>if id<S.H.length then(match jOf id with
  |some j=>(match Hk[id]? with
   |some o=>bif isDd o then none else some j
   |none=>none)
  |none=>some (L2.length+id))else some (obs.length+(id-S.H.length))
 have hpk:∀id,id<Hk.length→∃r,(∀o,Hk[id]? =some o→o.len=(ρ3 id).ln∧RO w0 S0 ρ3 id o r)∧r.holds w2∧∀b,r.own=some b→∃i ri,src id=some i∧(L2++Lr)[i]? =some ri∧ri.own=some b:=by
  intro id hid
  have ho:=List.getElem?_eq_getElem hid
  by_cases hlt:id<S.H.length
  ·cases hj:jOf id with
   |some j=>
    obtain⟨s,h9,h10⟩:=hjOf id j hj
    have hjl:=(List.getElem?_eq_some_iff.1 h9).1
    cases hd:isDd Hk[id]with
    |true=>
     refine⟨nores,fun o h11=>⟨?_, ?_⟩,trivial,fun b hb=>by cases hb⟩
     ·rw [ho]at h11
      cases h11
      rcases own_o h10 with rfl|⟨m,rfl⟩
      ·have hcj:Hc[j]? =some (Hc[j]'(by omega)):=List.getElem?_eq_getElem (by omega)
       obtain⟨⟨o3,h12,h13⟩,_⟩:=hP.ow j id _ h9 hcj
       have h12:Hk[id]? =some o3:=h12
       rw [ho]at h12
       have h12:=Option.some.inj h12
       rw [h12,h13.len,hm2.lns j _ hcj,hdo j id h9]
      ·have h12:Hk[id]? =some (.dd 0):=hP.ok j id m h9
       have hoj:obs[j]? =some (obs[j]'(by omega)):=List.getElem?_eq_getElem (by omega)
       rcases sok_own (h8 j _ _ h9 hoj) rfl with⟨he,_⟩|⟨m,e,b,t,l,cs,_,_,h13⟩
       ·cases he
       ·rw [ho]at h12
        rw [Option.some.inj h12,hup3 id hlt]
        have h14:=hln id _ h13
        exact h14
     ·rw [ho]at h11
      cases h11
      cases hx:Hk[id]<;>rw [hx]at hd<;>first|trivial|cases hd
    |false=>
     rcases own_o h10 with rfl|⟨m,rfl⟩
     ·have hcj:Hc[j]? =some (Hc[j]'(by omega)):=List.getElem?_eq_getElem (by omega)
      obtain⟨⟨o3,h12,h13⟩,hnr⟩:=hP.ow j id _ h9 hcj
      have h12:Hk[id]? =some o3:=h12
      obtain⟨h14,r,h15,h16⟩:=hm2.2 j _ hcj
      have he:Hk[id]=o3:=by rw [ho]at h12;exact Option.some.inj h12
      refine⟨r,fun o h17=> ?_, ?_,fun b hb=>⟨j,r, ?_, ?_,hb⟩⟩
      ·rw [h12]at h17
       cases h17
       exact⟨by rw [h13.len,h14,hdo j id h9],eqv_ro h13 (hdo j id h9) hnr h16⟩
      ·exact(hp2.res r (List.mem_of_getElem? h15)).1
      ·simp only [src,hlt,if_true,hj,ho,hd,cond_false]
      ·rw [List.getElem?_append_left (List.getElem?_eq_some_iff.1 h15).1];exact h15
     ·have h11:Hk[id]? =some (.dd 0):=hP.ok j id m h9
      rw [ho]at h11
      rw [Option.some.inj h11]at hd;cases hd
   |none=>
    have hno:=hjNo id hj
    have hsame:Hk[id]? =S.H[id]? :=hP.ot id hlt hno
    obtain⟨h14,r,h15,h16⟩:=hM.2 id _ (List.getElem?_eq_getElem hlt)
    have hlr:Lr[id]? =some r:=by
     show((List.range S.H.length).map _)[id]? =_
     rw [List.getElem?_map,List.getElem?_range hlt]
     have hm:avk id (ownS ss)=false:=by
      cases hm:avk id (ownS ss)with
      |false=>rfl
      |true=>exact absurd (aiw.1 hm) hno
     simp only [zaU,hm,cond_false,h15,Option.getD_some]
    have hlr2:(L2++Lr)[L2.length+id]? =some r:=by
     rw [List.getElem?_append_right (by omega),Nat.add_sub_cancel_left];exact hlr
    refine⟨r,fun o h17=> ?_,(hcall.res r (List.mem_of_getElem? hlr2)).1,fun b hb=>⟨L2.length+id,r, ?_,hlr2,hb⟩⟩
    ·rw [hsame,List.getElem?_eq_getElem hlt]at h17
     cases h17
     exact⟨by rw [hup3 id hlt];exact h14,h16.up hup3 hlt fun e cs he=>hS.ho id e cs (by rw [List.getElem?_eq_getElem hlt,he])⟩
    ·simp only [src,hlt,if_true,hj]
  ·have hi:id-S.H.length<k2:=by omega
   have hcj:Hc[obs.length+(id-S.H.length)]? =some (Hc[obs.length+(id-S.H.length)]'(by omega)):=List.getElem?_eq_getElem (by omega)
   obtain⟨⟨o3,h12,h13⟩,hnr⟩:=hP.nw (id-S.H.length) _ hi hcj
   have h12:Hk[S.H.length+(id-S.H.length)]? =some o3:=h12
   rw [show S.H.length+(id-S.H.length)=id by omega]at h12
   have hρ:ρ3 id=ρ2 (obs.length+(id-S.H.length)):=by simp only [ρ3,hlt,if_false]
   obtain⟨h14,r,h15,h16⟩:=hm2.2 _ _ hcj
   refine⟨r,fun o h17=> ?_,(hp2.res r (List.mem_of_getElem? h15)).1,fun b hb=>⟨obs.length+(id-S.H.length),r, ?_, ?_,hb⟩⟩
   ·rw [h12]at h17
    cases h17
    exact⟨by rw [h13.len,h14,hρ],eqv_ro h13 hρ hnr h16⟩
   ·simp only [src,hlt,if_false]
   ·rw [List.getElem?_append_left (List.getElem?_eq_some_iff.1 h15).1];exact h15
 obtain⟨L3,hl3,hr3⟩:=list_of Hk.length hpk
 have hH3:Hp w0 S0 L3 w2:=by
  refine Go.Oe.Hp.pick ((List.range Hk.length).map src) hcall (fun id r hj=> ?_) (fun x z i hx hz=> ?_)
  ·obtain⟨_,h9,h10⟩:=hr3 id r hj
   refine⟨h9,fun b hb=> ?_⟩
   obtain⟨i,ri,h11,h12⟩:=h10 b hb
   have hlt:=(List.getElem?_eq_some_iff.1 hj).1
   exact⟨i,ri,by rw [List.getElem?_map,List.getElem?_range (by omega)];exact congrArg some h11,h12⟩
  ·have key:∀x,((List.range Hk.length).map src)[x]? =some (some i)→x<Hk.length∧src x=some i:=by
    intro x hx
    obtain⟨q,h9,h10⟩:=map_some hx
    have hlt:=(List.getElem?_eq_some_iff.1 h9).1
    rw [List.length_range]at hlt
    rw [List.getElem?_range hlt]at h9
    have e:=Option.some.inj h9
    subst e
    exact⟨hlt,h10⟩
   have cl:∀x,x<Hk.length→src x=some i→(∃s:Src,i<ss.length∧ss[i]? =some s∧s.ow=some x)∨i=L2.length+x∨(¬x<S.H.length∧i=obs.length+(x-S.H.length)):=by
    intro x hx hs
    by_cases hlt:x<S.H.length
    ·simp only [src,hlt,if_true]at hs
     cases hj:jOf x with
     |none=>rw [hj]at hs;exact .inr (.inl (Option.some.inj hs).symm)
     |some j=>
      rw [hj]at hs
      obtain⟨s,h9,h10⟩:=hjOf x j hj
      have hjl:=(List.getElem?_eq_some_iff.1 h9).1
      rw [List.getElem?_eq_getElem hx]at hs
      simp only at hs
      cases hd:isDd Hk[x]with
      |true=>rw [hd]at hs;cases hs
      |false=>
       rw [hd]at hs
       have e:j=i:=Option.some.inj hs
       subst e
       exact .inl ⟨s,hjl,h9,h10⟩
    ·simp only [src,hlt,if_false]at hs
     exact .inr (.inr ⟨hlt,(Option.some.inj hs).symm⟩)
   obtain⟨hx1,hx2⟩:=key x hx
   obtain⟨hz1,hz2⟩:=key z hz
   rcases cl x hx1 hx2 with⟨s,h9,h10,h11⟩|h9|⟨h9,h10⟩<;>rcases cl z hz1 hz2 with⟨s2,h12,h13,h14⟩|h12|⟨h12,h13⟩
   ·rw [h10]at h13
    cases h13
    rw [h11]at h14
    exact Option.some.inj h14
   all_goals omega
 have hM3:Mt w0 S0 ρ3 Hk L3:=by
  refine⟨hl3,fun id o ho=> ?_⟩
  have hlt:=(List.getElem?_eq_some_iff.1 ho).1
  have hl:L3[id]? =some (L3[id]'(by omega)):=List.getElem?_eq_getElem (by omega)
  have:=(hr3 id _ hl).1 o ho
  exact⟨this.1,_,hl,this.2⟩
 let B:St:=⟨S.F,Hk,S.nb,S.al,rg++S.m⟩
 have hBR:Rel C w0 S0 ρ3 B F w2:=by
  refine⟨fun g id hg=> ?_,fun t u hu=> ?_,fun t=> ?_,fun id e cs ho c hc=> ?_,⟨L3,hH3,hM3⟩⟩
  ·obtain⟨h9,h10⟩:=hS.gl g id hg
   exact⟨by show id<Hk.length;omega,by rw [hup3 id h9];exact h10⟩
  ·have hu:(S.at t).v ρ3=some u:=hu
   rw [SV.up hup3 (hS.fo t)]at hu
   exact hS.fr t u hu
  ·exact SV.ok_mono (hS.fo t) (by show S.H.length≤Hk.length;omega)
  ·show c.ok Hk.length
   rw [hHk]
   exact hP.ho id e cs ho c hc
 have hBN:Nx S ρ B ρ3:=by
  have hle:∀nb al,(∀id j,id<nb→cov id j rg=true→cov id j al=true)→Le nb al ρ S.H ρ3 B.H:=fun nb al hal=>
   ⟨by show S.H.length≤Hk.length;omega,hup3,fun id o hi ho=>(hP.kp id o ho).mono fun j hc=>hal id j hi hc⟩
  exact⟨⟨rfl,rfl,hle _ _ fun id j hi hc=>oks_cov hoks hi hc⟩,hle _ _ fun id j _ hc=>aia.2 (.inl hc),fun id j hc=>aia.2 (.inr hc)⟩
 refine⟨ρ3,fun d=> ?_⟩
 have hcs:callS c S d a ss y=B.setO d (resV (putR (ixS ss) ([],kill S.H EK) c.r y).1):=rfl
 rw [hcs]
 cases d with
 |none=>exact⟨hBR,hBN⟩
 |some d=>
  refine⟨awl hBR (resV_rel hP.vl hv) (resV_ok fun v hv=> ?_),⟨⟨hBN.nb,hBN.al,hBN.le⟩,hBN.lg,hBN.mm⟩⟩
  show v.ok Hk.length
  rw [hHk];exact hP.vo v hv
end
open Go.Wk
open Go.Ce (Tr)
open List renaming cons_append → zay, map_append → zaV, map_cons → zaI, mem_cons_of_mem → zaf, mem_cons_self → zak
open Nat renaming blt → zbh, succ → zbk, zero_le → zah
structure Env (C:Cx) (md:Md) (w0:World) (S0:List Nat) (GS:Glo):Prop where
 e:EOk C
 n:C.nn=md.n
 g:Gw GS w0 S0
 x:∀k,∀c∈C.X k,Enters C.P k∧FOk C.P GS k c
inductive Grd (C:Cx) (ops:List Oper) (S:St) (o:Oper):Bool→Prop
 |none (h:o.guard=none):Grd C ops S o true
 |yes (q:Nat×Bool) (dg:Nat) (h:o.guard=some q) (h1:gdst ops q.1=some dg) (h2:zbh dg C.nn=true) (h3:S.at dg=.c' (.b' q.2)):Grd C ops S o true
 |no (q:Nat×Bool) (dg:Nat) (h:o.guard=some q) (h1:gdst ops q.1=some dg) (h2:zbh dg C.nn=true) (h3:S.at dg=.c' (.b' (!q.2))):Grd C ops S o false
 |un (q:Nat×Bool) (dg:Nat) (h:o.guard=some q) (h1:gdst ops q.1=some dg) (h2:zbh dg C.nn=true) (h3:S.at dg=.n'):Grd C ops S o false
inductive Tv:SV→Bool→Prop
 |b (x:Bool):Tv (.c' (.b' x)) x
 |d (p:Prop) (h:Decidable p):Tv (.c' (.d' p h)) (@decide p h)
 |e (p:Prop) (h:Decidable p):Tv (.c' (.e' p h)) (!@decide p h)
theorem tv_v{v:SV}{b:Bool}(h:Tv v b)(ρ:Nat→Ad):v.v ρ=some (.bool b):=by cases h<;>rfl
theorem brB_tv{T:Type}{v:SV}{y n:Option T}{r:T}(h:brB v y n=some r):∃b,Tv v b∧(b=true→y=some r)∧(b=false→n=some r):=by
 unfold brB at h
 split at h
 ·rename_i x
  exact⟨x,.b x,fun e=>by subst e;exact h,fun e=>by subst e;exact h⟩
 ·rename_i p hp
  refine⟨_,.d p hp,fun e=> ?_,fun e=> ?_⟩
  ·rw [if_pos (of_decide_eq_true e)]at h;exact h
  ·rw [if_neg (of_decide_eq_false e)]at h;exact h
 ·rename_i p hp
  refine⟨_,.e p hp,fun e=> ?_,fun e=> ?_⟩
  ·have:¬p:=by simpa using e
   rw [if_neg this]at h;exact h
  ·have:p:=by simpa using e
   rw [if_pos this]at h;exact h
 ·cases h
structure CallT (C:Cx) (S:St) (o:Oper) (S2:St):Prop where
 ex:∃(cal:Call) (f:Operand) (k:Nat) (ids:List Nat) (c:Con) (a:(tupT c.a).T) (ss:List Src) (y:(resT c.r).T),o.op=.call cal∧cal.callee=.value f∧S.ev C f=.c' (.f' k ids)∧c∈C.X k∧
  rdA S.H c.a (cal.args.toList.map (S.ev C)++capV ids)=some (a,ss)∧callOk c S a ss=true∧(c.f a).ok y∧S2=callS c S o.dst a ss y
inductive Adv (C:Cx) (ops:List Oper) (S:St) (o:Oper):St→Prop
 |op (hg:Grd C ops S o true) (ro:Ro) (h:opM C (S.ev C) S.H o.op=some ro) (ha:All ro.g) (hd:dstOk o.dst ro.v=true) (hm:S.oks ro.m=true):Adv C ops S o (St.setO ⟨S.F,ro.H,S.nb,S.al,ro.m++S.m⟩ o.dst ro.v)
 |mv (hg:Grd C ops S o true) (x:Operand) (d:Nat) (b:Bool) (hx:isMove o.op=some x) (hd:o.dst=some d) (hb:Tv (S.ev C x) b):Adv C ops S o (S.set d (.c' (.b' b)))
 |skip (hg:Grd C ops S o false) (d:Nat) (hd:o.dst=some d):Adv C ops S o (S.set d .n')
 |call (hg:Grd C ops S o true) (S2:St) (h:CallT C S o S2):Adv C ops S o S2
section
variable {C : Cx} {ρ' : Ty}
theorem callL_some{S:St}{d:Option Nat}{vs:List SV}{κ:St→Option ρ'.T}{r:ρ'.T}:∀{l:List Con},callL S d vs κ l=some r→∃c∈l,∃a ss y,rdA S.H c.a vs=some (a,ss)∧callOk c S a ss=true∧(c.f a).ok y∧κ (callS c S d a ss y)=some r
 |[],h=>by cases h
 |c::l,h=>by
  simp only [callL]at h
  split at h
  ·rename_i a ss hr
   have h:=aas h
   obtain⟨y,h1,h2⟩:=Gv.bd_some h.2
   exact⟨c,zak,a,ss,y,hr,h.1,h1,h2⟩
  ·obtain⟨c2,h1,h2⟩:=callL_some h
   exact⟨c2,zaf _ h1,h2⟩
theorem fnV_some{v:SV}{q:Nat×List Nat}(h:fnV v=some q):v=.c' (.f' q.1 q.2):=by
 unfold fnV at h
 split at h
 ·cases h;rfl
 ·cases h
theorem run1_adv{ops:List Oper}{S:St}{o:Oper}{κ:St→Option ρ'.T}{r:ρ'.T}(hg:Grd C ops S o true)(h:run1 C S o.dst o.op κ=some r):∃S2,Adv C ops S o S2∧κ S2=some r:=by
 unfold run1 at h
 split at h
 ·rename_i g v H m hop
  split at h
  ·rename_i S2 hr
   unfold St.run at hr
   have hr:=aas hr
   have hr2:=aas hr.2
   cases hr2.2
   obtain⟨h1,h2⟩:=gdL_some h
   exact⟨_,.op hg _ hop h1 hr.1 hr2.1,h2⟩
  ·cases h
 ·split at h
  ·rename_i cal hop
   split at h
   ·rename_i f hf
    split at h
    ·rename_i k ids hk
     obtain⟨c,h1,a,ss,y,h2,h3,h4,h5⟩:=callL_some h
     exact⟨_,.call hg _ ⟨cal,f,k,ids,c,a,ss,y,hop,hf,fnV_some hk,h1,h2,h3,h4,rfl⟩,h5⟩
    ·cases h
   ·cases h
  ·cases h
theorem run2_adv{ops:List Oper}{i:Nat}{S:St}{o:Oper}{κ:St→Option ρ'.T}{r:ρ'.T}(hg:Grd C ops S o true)(h:run2 C ops i S o κ=some r):∃S2,Adv C ops S o S2∧κ S2=some r:=by
 unfold run2 at h
 cases hi:isG ops i with
 |false=>rw [hi]at h;exact run1_adv hg h
 |true=>
  rw [hi]at h
  simp only [cond_true]at h
  split at h
  ·rename_i x hx
   split at h
   ·rename_i d hd
    obtain⟨b,h1,h2,h3⟩:=brB_tv h
    refine⟨_,.mv hg x d b hx hd h1, ?_⟩
    cases b with
    |true=>exact h2 rfl
    |false=>exact h3 rfl
   ·cases h
  ·exact run1_adv hg h
theorem run3_adv{ops:List Oper}{i:Nat}{S:St}{o:Oper}{κ:St→Option ρ'.T}{r:ρ'.T}(h:run3 C ops i S o κ=some r):∃S2,Adv C ops S o S2∧κ S2=some r:=by
 unfold run3 at h
 split at h
 ·rename_i hg;exact run2_adv (.none hg) h
 ·rename_i q hq
  split at h
  ·rename_i dg hdg
   have h:=aas h
   have h2:=h.2
   split at h2
   ·rename_i x hx
    cases hb:beqB x q.2 with
    |true=>
     rw [hb]at h2
     have e:x=q.2:=by
      unfold beqB at hb
      cases x<;>cases hq2:q.2<;>rw [hq2]at hb<;>first|rfl|cases hb
     rw [e]at hx
     exact run2_adv (.yes q dg hq hdg h.1 hx) h2
    |false=>
     rw [hb]at h2
     have e:x= !q.2:=by
      unfold beqB at hb
      cases x<;>cases hq2:q.2<;>rw [hq2]at hb<;>first|rfl|cases hb
     rw [e]at hx
     simp only [cond_false]at h2
     split at h2
     ·rename_i d hd;exact⟨_,.skip (.no q dg hq hdg h.1 hx) d hd,h2⟩
     ·cases h2
   ·rename_i hx
    split at h2
    ·rename_i d hd;exact⟨_,.skip (.un q dg hq hdg h.1 hx) d hd,h2⟩
    ·cases h2
   ·cases h2
  ·cases h
end
section
variable {C : Cx} {md : Md} {w0 w : World} {S0 : List Nat} {ρ : Nat → Ad} {S : St} {F : Nat → Value} {GS : Glo}
theorem gdst_arr{ops:Array Oper}{g:Nat}{dg:Nat}(h:gdst ops.toList g=some dg):(ops[g]?).bind (·.dst)=some dg:=by
 unfold gdst at h
 rw [abm]at h
 cases hg:ops[g]? with
 |none=>rw [show ops.toList[g]? =none by simpa using hg]at h;cases h
 |some o=>rw [show ops.toList[g]? =some o by simpa using hg]at h;exact h
theorem vals_of(hn:C.nn=md.n)(hS:Rel C w0 S0 ρ S F w):∀{l:List Operand} {r:List (Option Value)} {us:List Value},(l.map (S.ev C)).map (SV.v ρ)++r=us.map some→∃u2,us=l.map (evn md F)++u2∧r=u2.map some
 |[],r,us,h=>⟨us,rfl,h⟩
 |x::l,r,us,h=>by
  cases us with
  |nil=>cases h
  |cons u us=>
   simp only [zaI,zay,List.cons.injEq]at h
   obtain⟨u2,h1,h2⟩:=vals_of hn hS (l:=l) h.2
   refine⟨u2, ?_,h2⟩
   rw [h1,zaI,zay,(awz hS hn x).2 u h.1]
theorem capV_v:∀(ids:List Nat),(capV ids).map (SV.v ρ)=(ids.map fun id=>bptr (ρ id).b 0).map some
 |[]=>rfl
 |id::ids=>by
  show some (bptr (ρ id).b 0)::(capV ids).map (SV.v ρ)=_
  rw [capV_v ids];rfl
theorem map_some_inj{α:Type}:∀{a b:List α},a.map some=b.map some→a=b
 |[],[],_=>rfl
 |[],_::_,h=>by cases h
 |_::_,[],h=>by cases h
 |x::a,y::b,h=>by
  simp only [zaI,List.cons.injEq,Option.some.injEq]at h
  rw [h.1,map_some_inj h.2]
theorem adv_step(hE:Env C md w0 S0 GS){ops:Array Oper}{o:Oper}{S2:St}(h:Adv C ops.toList S o S2)(hS:Rel C w0 S0 ρ S F w)(Q:Exit→Act→World→Prop)(rest:List Oper)
  (hk:∀ρ2 F2 w2,Rel C w0 S0 ρ2 S2 F2 w2→Nx S ρ S2 ρ2→(∀t,o.dst≠some t→F2 t=F t)→(∀d,o.guard=none→o.dst=some d→isPure o.op=true→∃w3,(execOp (evn md F) o).run C.P w=.ok (.value (F2 d)) w3)→W C.P md ops Q rest F2 w2):W C.P md ops Q (o::rest) F w:=by
 have hn:=hE.n
 obtain⟨dst,op,ty,pos,after,gd⟩:=o
 have grd:Grd C ops.toList S ⟨dst,op,ty,pos,after,gd⟩ true→W C.P md ops Q (⟨dst,op,ty,pos,after,none⟩::rest) F w→W C.P md ops Q (⟨dst,op,ty,pos,after,gd⟩::rest) F w:=by
  intro hg hW
  cases hg with
  |none h=>
   have h:gd=none:=h
   subst h
   exact hW
  |yes q dg h h1 h2 h3=>
   have h:gd=some q:=h
   subst h
   obtain⟨g,b⟩:=q
   exact w_gyes dg (gdst_arr h1) (by rw [←hn];exact h2) (hS.fr dg (.bool b) (by rw [h3];rfl)) hW
 cases h with
 |op hg ro h ha hd hm=>
  refine grd hg (step_op hE.e hn hS h ha hm hd ops Q rest fun ρ2 F2 w2 h1 h2 h3 h4=>hk ρ2 F2 w2 h1 h2 h3 fun d hgn hdd hp=> ?_)
  have hgn:gd=none:=hgn
  subst hgn
  exact h4 d hdd hp
 |mv hg x d b hx hd hb=>
  have hd:dst=some d:=hd
  subst hd
  obtain⟨h1,h2⟩:=awz hS hn x
  have hxb:evn md F x=.bool b:=h2 _ (tv_v hb ρ)
  refine grd hg ?_
  have hrel:Rel C w0 S0 ρ (S.set d (.c' (.b' b))) (upd F d (.bool b)) w:=awl hS rfl (fun i hi=>by cases hi)
  have hrun:(execOp (evn md F) (⟨some d,op,ty,pos,after,none⟩:Oper)).run C.P w=.ok (.value (.bool b)) w:=by
   cases op<;>first|cases hx|skip
   ·rw [←hxb];rfl
   ·rw [←hxb];rfl
  refine akh rfl rfl hrun (hk ρ _ w hrel ⟨⟨rfl,rfl,Le.refl⟩,Le.refl,fun _ _ h=>h⟩ aqp fun d2 hgn hdd _=>⟨w, ?_⟩)
  have hgn:gd=none:=hgn
  subst hgn
  cases hdd
  rw [atm];exact hrun
 |skip hg d hd=>
  have hd:dst=some d:=hd
  subst hd
  have hrel:Rel C w0 S0 ρ (S.set d .n') (upd F d undef) w:=awl hS rfl trivial
  have hW:=hk ρ _ w hrel ⟨⟨rfl,rfl,Le.refl⟩,Le.refl,fun _ _ h=>h⟩ aqp (fun d2 hgn _ _=>by cases hg<;>(rename_i h _ _ _;rw [h]at hgn;cases hgn))
  cases hg with
  |no q dg h h1 h2 h3=>
   have h:gd=some q:=h
   subst h
   obtain⟨g,b⟩:=q
   exact w_gno dg (gdst_arr h1) (by rw [←hn];exact h2) (hS.fr dg (.bool (!b)) (by rw [h3];rfl)) hW
  |un q dg h h1 h2 h3=>
   have h:gd=some q:=h
   subst h
   obtain⟨g,b⟩:=q
   exact w_gun dg (gdst_arr h1) (by rw [←hn];exact h2) (hS.fr dg undef (by rw [h3];rfl)) hW
 |call hg _ h=>
  obtain⟨cal,f,k,ids,c,a,ss,y,hop,hf,hfv,hc,hr,hok,hy,rfl⟩:=h
  have hop:op=.call cal:=hop
  subst hop
  obtain⟨callee,azq,ts⟩:=cal
  have hf:callee=.value f:=hf
  subst hf
  refine grd hg ?_
  obtain⟨hEn,hF⟩:=hE.x k c hc
  obtain⟨us,h1,h2⟩:=call_ok hS hE.g hF hr hok hy
  rw [zaV,capV_v]at h1
  obtain⟨u2,h3,h4⟩:=vals_of hn hS h1
  have h5:=map_some_inj h4
  have hfn:evn md F f=.func (.func k) #[] (ids.map fun id=>bptr (ρ id).b 0).toArray:=(agi hS hn hfv).2
  have ha: #[]++azq.map (evn md F)++(ids.map fun id=>bptr (ρ id).b 0).toArray=us.toArray:=by
   rw [h3,←h5]
   apply Array.toList_inj.1
   simp
  cases dst with
  |none=>
   refine w_call0 k _ us _ hEn hfn ha h2 fun v w2 hv=> ?_
   obtain⟨ρ3,hv⟩:=hv
   obtain⟨h6,h7⟩:=hv none
   exact hk ρ3 F w2 h6 h7 (fun _ _=>rfl) (fun d _ hd=>by cases hd)
  |some d=>
   refine w_call k _ us _ hEn hfn ha h2 fun v w2 hv=> ?_
   obtain⟨ρ3,hv⟩:=hv
   obtain⟨h6,h7⟩:=hv (some d)
   exact hk ρ3 _ w2 h6 h7 aqp (fun d2 _ _ hp=>by cases hp)
theorem wrO_cons{o:Oper}{l:List Oper}{t:Nat}:t∈wrO (o::l)↔o.dst=some t∨t∈wrO l:=by
 simp only [wrO]
 cases hd:o.dst with
 |none=>simp
 |some d=>
  simp only [List.mem_cons,Option.some.injEq]
  exact or_congr_left ⟨fun h=>h.symm,fun h=>h.symm⟩
theorem opndS_mem{t:Nat}:∀{l:List Operand},t∈opndS l↔Operand.tmp t∈l
 |[]=>by simp [opndS]
 |x::l=>by
  cases x<;>simp [opndS,opndS_mem (l:=l)]
def RanL(C:Cx)(md:Md)(ops:List Oper)(lo:Nat)(F:Nat→Value):Prop:=∀(i d:Nat) (o:Oper),lo≤i→okR1 ops i=true→ops[i]? =some o→o.dst=some d→∃w1 w2,(execOp (evn md F) o).run C.P w1=.ok (.value (F d)) w2
theorem pure_sel{op:Op}(h:isPure op=true):∀cs b,op≠.select cs b:=fun cs b e=>by subst e;cases h
theorem evn_same{F2:Nat→Value}{x:Operand}(h:∀t,x=.tmp t→F2 t=F t):evn md F2 x=evn md F x:=by
 cases x with
 |tmp t=>simp only [evn,h t rfl]
 |_=>rfl
theorem opsD_ok(hE:Env C md w0 S0 GS){ops:Array Oper}{ρ':Ty}{κ:St→Option ρ'.T}{r:ρ'.T}{Q:Exit→Act→World→Prop}:∀(l:List Oper) (i:Nat) (S:St) (ρ:Nat→Ad) (F:Nat→Value) (w:World),l=ops.toList.drop i→opsD C ops.toList l i S κ=some r→Rel C w0 S0 ρ S F w→
  (∀S2 ρ2 F2 w2,κ S2=some r→Rel C w0 S0 ρ2 S2 F2 w2→Nx S ρ S2 ρ2→(∀t,t∉wrO l→F2 t=F t)→RanL C md ops.toList i F2→Q .normal (fr md F2) w2)→W C.P md ops Q l F w
 |[],i,S,ρ,F,w,hl,h,hS,hk=>w_nil (hk S ρ F w h hS Nx.refl (fun _ _=>rfl) (fun j d o hj _ ho _=>by
   have:ops.toList.drop i=[]:=hl.symm
   rw [List.drop_eq_nil_iff]at this
   have:=(List.getElem?_eq_some_iff.1 ho).1
   omega))
 |o::l,i,S,ρ,F,w,hl,h,hS,hk=>by
  obtain⟨S2,h1,h2⟩:=run3_adv (show run3 C ops.toList i S o (fun S2=>opsD C ops.toList l (zbk i) S2 κ)=some r from h)
  have hoi:ops.toList[i]? =some o:=by
   have:=congrArg (fun l=>l[0]?) hl
   simpa using this.symm
  have hl2:l=ops.toList.drop (i+1):=by
   have:=congrArg List.tail hl
   simpa using this
  refine adv_step hE h1 hS Q l fun ρ2 F2 w2 hS2 hN hf hp=>opsD_ok hE l (i+1) S2 ρ2 F2 w2 hl2 h2 hS2 fun S3 ρ3 F3 w3 h3 hS3 hN3 hf3 hran=> ?_
  refine hk S3 ρ3 F3 w3 h3 hS3 (hN.trans hN3) (fun t ht=> ?_) (fun j d o2 hj hok ho hd=> ?_)
  ·rw [wrO_cons]at ht
   rw [hf3 t (fun hh=>ht (.inr hh)),hf t (fun hh=>ht (.inl hh))]
  ·by_cases hij:j=i
   ·subst hij
    rw [hoi]at ho
    cases ho
    unfold okR1 at hok
    rw [abm,hoi]at hok
    simp only [hd]at hok
    have h4:=agp hok
    have h5:=agp h4.2
    have h6:=h5.2
    have hgn:o.guard=none:=by
     cases hg:o.guard with
     |none=>rfl
     |some q=>rw [hg]at h4;cases h4.1
    rw [ldrop_eq,←hl2]at h6
    cases hm:avk d (wrO l)with
    |true=>rw [hm]at h6;cases h6
    |false=>
     rw [hm]at h6
     simp only [cond_false]at h6
     have h7:=disN_iff.1 h6
     obtain⟨w4,h8⟩:=hp d hgn hd h5.1
     have hd3:F3 d=F2 d:=hf3 d fun hh=>by rw [aiw.2 hh]at hm;cases hm
     refine⟨w,w4, ?_⟩
     rw [hd3,execOp_congr o (pure_sel h5.1) (ρ':=evn md F) fun x hx=> ?_]
     ·exact h8
     ·refine evn_same fun t ht=> ?_
      subst ht
      have h9:=h7 t (opndS_mem.2 (by simpa using hx))
      rw [hf3 t (fun hh=>h9 (zaf _ hh)),hf t (fun hh=>h9 (by rw [hd]at hh;cases hh;exact zak))]
   ·exact hran j d o2 (by omega) hok ho hd
theorem region_ok(hE:Env C md w0 S0 GS){id:Nat}{ops:Array Oper}:RegOk C md w0 S0 id ops false:=by
 intro ρ' S κ r ρ F w Q h hS hk
 have e:ops=ops.toList.toArray:=rfl
 have h:opsD C ops.toList ops.toList 0 S κ=some r:=h
 have hW:=opsD_ok hE (Q:=Q) ops.toList 0 S ρ F w (by simp) h hS fun S2 ρ2 F2 w2 h1 h2 h3 h4 h5=>hk S2 ρ2 F2 w2 h1 h2 h3 h4 fun i d o hok ho hd=>h5 i d o (zah _) hok ho hd
 exact arf (l:=ops.toList) hW
end
open Go.Wk
open Go.Ce (Tr)
open Go.Op renaming operands → zaB
open List renaming map_congr_left → zbn, mem_append_left → zbd, mem_append_right → zaY, mem_cons_of_mem → zaf, mem_cons_self → zak
open Nat renaming beq → zav
section
variable {C : Cx} {ev ev2 : Operand → SV}
theorem fillP_congr{sz:Nat→Option (Nat×Nat)}:∀{ps:List (Nat×Operand)} {l:List SC},(∀p∈ps,ev p.2=ev2 p.2)→fillP sz ev ps l=fillP sz ev2 ps l
 |[],l,h=>rfl
 |p::ps,l,h=>by
  simp only [fillP]
  rw [h p zak]
  split
  ·split
   ·rw [fillP_congr fun q hq=>h q (zaf _ hq)]
   ·rfl
  ·rfl
theorem map_congr{l:List Operand}(h:∀x∈l,ev x=ev2 x):l.map ev=l.map ev2:=zbn h
theorem bi_congr{H:List Ob}{b:Builtin}{azq:List Operand}{ts:List Nat}(h:∀x∈azq,ev x=ev2 x):ajq C ev H b azq ts=ajq C ev2 H b azq ts:=by
 match azq with
 |[]=>cases b<;>rfl
 |[x]=>
  have e:=h x (by simp)
  cases b<;>simp only [ajq]
  ·match ts with
   |[]=>rfl
   |[t]=>simp only [e]
   |_::_::_=>rfl
 |[x,y]=>
  have e:=h x (by simp)
  have e2:=h y (by simp)
  cases b<;>first|(rcases ts with _|⟨t,_|⟨t2,_|⟨t3,ts⟩⟩⟩<;>simp only [ajq,e,e2];done)|simp only [ajq,e,e2]
 |_::_::_::_=>cases b<;>rfl
theorem opM_congr{H:List Ob}{op:Op}(h:∀x∈op.operands,ev x=ev2 x):opM C ev H op=opM C ev2 H op:=by
 cases op<;>first|rfl|skip
 case move x=>simp only [opM,h x (by simp [zaB])]
 case assign x=>simp only [opM,h x (by simp [zaB])]
 case pick c a b=>simp only [opM,h c (by simp [zaB]),h a (by simp [zaB]),h b (by simp [zaB])]
 case binOp b t x y t'=>simp only [opM,h x (by simp [zaB]),h y (by simp [zaB])]
 case unOp u t x=>cases u<;>first|rfl|simp only [opM,h x (by simp [zaB])]
 case convert s t x=>simp only [opM,h x (by simp [zaB])]
 case index t x ix=>simp only [opM,h x (by simp [zaB]),h ix (by simp [zaB])]
 case slice t x lo hi mx=>
  cases mx with
  |some m=>rfl
  |none=>
   have e:=h x (by simp [zaB])
   cases lo with
   |none=>cases hi with
    |none=>simp only [opM,onO,e]
    |some j=>simp only [opM,onO,e,h j (by simp [zaB])]
   |some i=>cases hi with
    |none=>simp only [opM,onO,e,h i (by simp [zaB])]
    |some j=>simp only [opM,onO,e,h i (by simp [zaB]),h j (by simp [zaB])]
 case extract x i=>simp only [opM,h x (by simp [zaB])]
 case field t x f=>simp only [opM,h x (by simp [zaB])]
 case box e x=>simp only [opM,h x (by simp [zaB])]
 case load t x=>simp only [opM,h x (by simp [zaB])]
 case store t x y=>simp only [opM,h x (by simp [zaB]),h y (by simp [zaB])]
 case fieldAddr t x f=>simp only [opM,h x (by simp [zaB])]
 case indexAddr t x ix=>simp only [opM,h x (by simp [zaB]),h ix (by simp [zaB])]
 case nilCheck x=>simp only [opM,h x (by simp [zaB])]
 case makeSlice t x y=>simp only [opM,h x (by simp [zaB]),h y (by simp [zaB])]
 case build t ps=>
  have e:∀p∈ps.toList,ev p.2=ev2 p.2:=fun p hp=>h p.2 (by
   simp only [zaB,List.mem_toArray,List.mem_map]
   exact⟨p,hp,rfl⟩)
  simp only [opM,opBuild]
  split
  ·rw [fillP_congr e]
  ·rfl
 case buildSlice t n ps=>
  have e:∀p∈ps.toList,ev p.2=ev2 p.2:=fun p hp=>h p.2 (by
   simp only [zaB,List.mem_toArray,List.mem_map]
   exact⟨p,hp,rfl⟩)
  simp only [opM,aon]
  split
  ·split
   ·rw [fillP_congr e]
   ·rfl
  ·rfl
 case makeFunc f a b=>
  have e:b.toList.map ev=b.toList.map ev2:=map_congr fun x hx=>h x (by
   simp only [zaB,Array.mem_append]
   exact .inr (by simpa using hx))
  simp only [opM,opFunc,e]
 case call c=>
  obtain⟨callee,azq,ts⟩:=c
  cases callee<;>first|rfl|skip
  rename_i b
  show ajq C ev H b azq.toList ts.toList=ajq C ev2 H b azq.toList ts.toList
  exact bi_congr fun x hx=>h x (by
   simp only [zaB,Call.operands,Array.mem_append]
   exact .inr (by simpa using hx))
end
def Agr(H H2:List Ob)(ids:List Nat):Prop:=∀id∈ids,∀o,ams H id=some o→ams H2 id=some o
section
variable {C : Cx} {ev : Operand → SV} {H H2 : List Ob}
theorem pur_H{r:Rv}{ro:Ro}(h:pur H r=some ro):ro.H=H∧ro.m=[]∧pur H2 r=some ⟨ro.g,ro.v,H2,[]⟩:=by
 obtain⟨g,v,h1,rfl⟩:=alq h
 rw [h1];exact⟨rfl,rfl,rfl⟩
theorem val1_H{r:Option SV}{ro:Ro}(h:val1 H r=some ro):ro.H=H∧ro.m=[]∧val1 H2 r=some ⟨ro.g,ro.v,H2,[]⟩:=by
 obtain⟨v,h1,rfl⟩:=aol h
 rw [h1];exact⟨rfl,rfl,rfl⟩
theorem partE_H{t:Ty}{l:List t.T}{j:Int}{sz off n:Nat}{a:Bool}{ro:Ro}(h:partE H t l j sz off n a=some ro):ro.H=H∧ro.m=[]∧partE H2 t l j sz off n a=some ⟨ro.g,ro.v,H2,[]⟩:=by
 unfold partE at h⊢
 split at h
 ·rename_i v hv
  have h:=aas h
  cases h.2
  simp only [h.1,cond_true,and_self]
 ·cases h
theorem load_H{t:Nat}{c:SC}{ro:Ro}(h:opLoad C H t c=some ro)(hf:Agr H H2 (avq (.c' c))):ro.H=H∧ro.m=[]∧opLoad C H2 t c=some ⟨ro.g,ro.v,H2,[]⟩:=by
 unfold opLoad at h⊢
 split at h
 ·rename_i n a hn ha
  cases hz:zav n 0 with
  |true=>rw [hz]at h;cases h
  |false=>
   rw [hz]at h
   simp only [cond_false]at h⊢
   split at h
   ·rename_i id off
    split at h
    ·rename_i e cs hb
     rw [hf id (by simp [avq]) _ hb]
     exact val1_H h
    ·cases h
   ·rename_i id j sz off
    have key:∀o,ams H id=some o→ams H2 id=some o:=hf id (by simp [avq])
    split at h
    ·rename_i e b t' l hb;rw [key _ hb];exact partE_H h
    ·rename_i t' l hb
     rw [key _ hb]
     simp only
     cases hp:partE H t' l j sz off n a with
     |some r=>
      rw [hp]at h
      cases h
      obtain⟨h1,h2,h3⟩:=partE_H (H2:=H2) hp
      rw [h3];exact⟨h1,h2,rfl⟩
     |none=>
      rw [hp]at h
      have e:partE H2 t' l j sz off n a=none:=by
       unfold partE at hp⊢
       split
       ·rename_i v hv
        rw [hv]at hp
        cases hb2:(bif szOk sz j t' then t'.flat else false)with
        |true=>rw [hb2]at hp;cases hp
        |false=>rfl
       ·rfl
      rw [e]
      have h:wholeE H t' l j off n a=some ro:=h
      show ro.H=H∧ro.m=[]∧wholeE H2 t' l j off n a=some ⟨ro.g,ro.v,H2,[]⟩
      unfold wholeE at h⊢
      split at h
      ·have h:=aas h
       simp only [h.1,cond_true]
       exact val1_H h.2
      ·cases h
    ·rename_i m l hb;rw [key _ hb];exact partE_H h
    ·cases h
   ·cases h
 ·cases h
theorem lenX_H{id m:Nat}(h:lenX H id=some m)(hf:∀o,ams H id=some o→ams H2 id=some o):lenX H2 id=some m:=by
 unfold lenX at h⊢
 split at h
 ·rename_i hb;rw [hf _ hb];exact h
 ·rename_i hb;rw [hf _ hb];exact h
 ·rename_i hb;rw [hf _ hb];exact h
 ·cases h
theorem ixa_H{t:Nat}{x ix:SC}{ro:Ro}(h:aom C H t x ix=some ro)(hf:Agr H H2 (avq (.c' x))):ro.H=H∧ro.m=[]∧aom C H2 t x ix=some ⟨ro.g,ro.v,H2,[]⟩:=by
 unfold aom at h⊢
 split at h
 ·rename_i j hj
  split at h
  ·rename_i e he
   split at h
   ·rename_i sz hsz
    split at h
    ·rename_i id
     split at h
     ·rename_i m hm
      cases h
      rw [lenX_H hm (hf id (by simp [avq]))]
      exact⟨rfl,rfl,rfl⟩
     ·cases h
    ·cases h;exact⟨rfl,rfl,rfl⟩
    ·cases h
   ·cases h
  ·rename_i he
   split at h
   ·rename_i q hq
    split at h
    ·rename_i sz hsz
     split at h
     ·have h:=aas h
      cases h.2
      simp only [h.1,cond_true,and_self]
     ·have h:=aas h
      have h2:=aas h.2
      have h3:=aas h2.2
      cases h3.2
      simp only [h.1,h2.1,h3.1,cond_true,and_self]
     ·cases h
    ·cases h
   ·cases h
 ·cases h
theorem cont_H{t:Ty}{x:SC}{l:List t.T}(h:contE H t x=some l)(hf:Agr H H2 (avq (.c' x))):contE H2 t x=some l:=by
 unfold contE at h⊢
 split at h
 ·exact h
 ·rename_i id
  have key:∀o,ams H id=some o→ams H2 id=some o:=hf id (by simp [avq])
  cases hb:ams H id with
  |none=>rw [hb]at h;cases h
  |some o=>rw [hb]at h;rw [key o hb];exact h
 ·rename_i id m
  have key:∀o,ams H id=some o→ams H2 id=some o:=hf id (by simp [avq])
  split at h
  ·rename_i e cs hb
   rw [key _ hb];exact h
  ·cases h
 ·cases h
theorem isSl_f{t:Nat}(h:(!isSl C t)=true):slE C t=none:=by
 unfold isSl at h
 unfold slE
 split at h
 ·cases h
 ·rfl
theorem conS_H{s t:Nat}{x:SC}{ro:Ro}(hq:(!isSl C t)=true)(h:conS C H s t x=some ro)(hf:Agr H H2 (avq (.c' x))):ro.H=H∧ro.m=[]∧conS C H2 s t x=some ⟨ro.g,ro.v,H2,[]⟩:=by
 have hsl:=isSl_f hq
 unfold conS at h⊢
 split at h
 ·rename_i e he
  have h:=aas h
  have h2:=aas h.2
  have h3:=h2.2
  simp only [h.1,h2.1,cond_true]
  split at h3
  ·rename_i l hl
   cases h3
   rw [cont_H hl hf]
   exact⟨rfl,rfl,rfl⟩
  ·cases h3
 ·cases x with
  |s' l=>
   simp only [hsl]at h⊢
   exact pur_H h
  |_=>exact pur_H h
theorem lenC_H{t:Nat}{x:SC}{r:List PD×SV}(h:lenC C H t x=some r)(hf:Agr H H2 (avq (.c' x))):lenC C H2 t x=some r:=by
 unfold lenC at h⊢
 split at h
 ·exact h
 ·split at h
  ·rename_i e he
   split at h
   ·rename_i id _
    cases hb:ams H id with
    |none=>rw [hb]at h;cases h
    |some o=>rw [hb]at h;rw [hf id (by simp [avq]) o hb];exact h
   ·exact h
   ·exact h
   ·cases h
  ·cases h
theorem footL_mem{x:Operand}{id:Nat}(hid:id∈avq (ev x)):∀{l:List Operand},x∈l→id∈footL ev l
 |y::l,h=>by
  rcases List.mem_cons.1 h with rfl|h
  ·exact zbd _ hid
  ·exact zaY _ (footL_mem hid h)
theorem quiet_H{op:Op}{ro:Ro}(hq:quietO C op=true)(h:opM C ev H op=some ro)(hf:Agr H H2 (footO ev op)):ro.H=H∧ro.m=[]∧opM C ev H2 op=some ⟨ro.g,ro.v,H2,[]⟩:=by
 cases op<;>first|cases hq|skip
 case move x=>exact val1_H h
 case assign x=>exact val1_H h
 case pick c a b=>
  obtain⟨x,h1,h2⟩:=ack (show on1 (ev c) (fun x=>match x with
   |.b' t=>val1 H (match(bif t then ev a else ev b)with
    |.u'=>none
    |v=>some v)
   |_=>none)=some ro from h)
  split at h2
  ·rename_i t
   have:=val1_H (H2:=H2) h2
   simp only [opM,h1,on1]
   exact this
  ·cases h2
 case binOp b t x y t'=>exact pur_H h
 case unOp u t x=>cases u<;>first|cases h|exact pur_H h
 case convert s t x=>
  obtain⟨c,h1,h2⟩:=ack (show on1 (ev x) (conS C H s t)=some ro from h)
  have:=conS_H (H2:=H2) hq h2 (by rw [←h1];exact hf)
  simp only [opM,h1,on1]
  exact this
 case index t x ix=>
  simp only [opM]at h⊢
  cases hb:apm C t with
  |true=>
   rw [hb]at h
   exact pur_H h
  |false=>
   rw [hb]at h
   simp only [cond_false]at h⊢
   split at h
   ·exact pur_H h
   ·cases h
 case slice t x lo hi mx=>
  cases mx with
  |some m=>cases h
  |none=>
   have hq:apm C t=true:=hq
   simp only [opM,hq,cond_true]at h⊢
   exact pur_H h
 case extract x i=>
  simp only [opM]at h⊢
  split at h
  ·split at h
   ·cases h;exact⟨rfl,rfl,rfl⟩
   ·cases h
  ·cases h
 case field t x f=>
  simp only [opM]at h⊢
  split at h
  ·split at h
   ·exact val1_H h
   ·cases h
  ·cases h
 case build t ps=>exact val1_H h
 case fieldAddr t x f=>
  obtain⟨c,h1,h2⟩:=ack (show on1 (ev x) (fun a=>val1 H (aui C t f a))=some ro from h)
  have:=val1_H (H2:=H2) h2
  simp only [opM,h1,on1]
  exact this
 case load t x=>
  obtain⟨c,h1,h2⟩:=ack (show on1 (ev x) (fun a=>opLoad C H t a)=some ro from h)
  have:=load_H (H2:=H2) h2 (by rw [←h1];exact hf)
  simp only [opM,h1,on1]
  exact this
 case indexAddr t x ix=>
  obtain⟨c,h1,h2⟩:=ack (show on1 (ev x) (fun a=>on1 (ev ix) fun i=>aom C H t a i)=some ro from h)
  obtain⟨d,h3,h4⟩:=ack h2
  have:=ixa_H (H2:=H2) h4 (by rw [←h1];exact hf)
  simp only [opM,h1,h3,on1]
  exact this
 case makeFunc f a b=>exact val1_H h
 case nilCheck x=>
  obtain⟨c,h1,h2⟩:=ack (show on1 (ev x) (fun a=>val1 H (opNil a))=some ro from h)
  have:=val1_H (H2:=H2) h2
  simp only [opM,h1,on1]
  exact this
 case call c=>
  obtain⟨callee,azq,ts⟩:=c
  cases callee<;>first|cases hq|skip
  rename_i b
  have key:∀(azq:List Operand) (ts:List Nat),Agr H H2 (footL ev azq)→ajq C ev H b azq ts=some ro→ro.H=H∧ro.m=[]∧ajq C ev H2 b azq ts=some ⟨ro.g,ro.v,H2,[]⟩:=by
   clear h hf
   intro azq ts hf h
   have mm:∀x y,b≠.append→azq=[x,y]→ro.H=H∧ro.m=[]∧ajq C ev H2 b azq ts=some ⟨ro.g,ro.v,H2,[]⟩:=by
    intro x y hb e
    subst e
    cases b<;>first|exact absurd rfl hb|exact pur_H h
   rcases azq with _|⟨x,_|⟨y,_|⟨z,azq⟩⟩⟩
   ·cases b<;>cases h
   ·cases b<;>first|cases hq|skip
    ·rcases ts with _|⟨t,_|⟨t2,ts⟩⟩
     ·cases h
     ·obtain⟨g,v,h1,rfl⟩:=alq (show pur H (on1 (ev x) (lenC C H t))=some ro from h)
      obtain⟨c,h2,h3⟩:=ack h1
      refine⟨rfl,rfl, ?_⟩
      show pur H2 (on1 (ev x) (lenC C H2 t))=_
      rw [h2]
      show pur H2 (lenC C H2 t c)=_
      rw [lenC_H h3 (fun id hid=>hf id (footL_mem (x:=x) (by rw [h2];exact hid) zak))]
      rfl
     ·cases h
    ·cases h
    ·cases h
   ·exact mm x y (fun e=>by subst e;cases hq) rfl
   ·cases b<;>cases h
  exact key _ _ hf h
end
open Go.Wk
open Go.Ce (Tr)
open Go.Op renaming operands → zaB
open List renaming append_nil → zam, eq_nil_of_length_eq_zero → zap, mem_append_left → zbd, mem_append_right → zaY, mem_cons_of_mem → zaf, mem_cons_self → zak
open Nat renaming beq → zav, blt → zbh, eq_of_beq_eq_true → zag
section
variable {C : Cx} {ev : Operand → SV} {H : List Ob}
theorem auu{o2 x:Ob}{id:Nat}(h:H[id]? =some o2):(H++[x])[id]? =some o2:=by
 rw [List.getElem?_append_left (List.getElem?_eq_some_iff.1 h).1];exact h
theorem avl{α:Type}{l:List α}{k j:Nat}{y:α}(h:k≠j):(art l k y)[j]? =l[j]? :=by
 rw [aei,if_neg (fun hh=>h hh.1.symm)]
theorem opM_chg{op:Op}{ro:Ro}(h:opM C ev H op=some ro){id:Nat}{o2:Ob}(hm:∀q∈ro.m,q.1≠id)(hid:H[id]? =some o2):ro.H[id]? =some o2:=by
 cases hq:quietO C op with
 |true=>
  have:=(quiet_H (H2:=H) hq h (fun _ _ _ h=>h)).1
  rw [this];exact hid
 |false=>
  cases op<;>first|exact absurd (show true=false from hq) (by simp)|cases h|skip
  case convert s t x=>
   obtain⟨c,h1,h2⟩:=ack (show on1 (ev x) (conS C H s t)=some ro from h)
   unfold conS at h2
   split at h2
   ·have h3:=(aas (aas h2).2).2
    split at h3
    ·cases h3;exact hid
    ·cases h3
   ·split at h2
    ·split at h2
     ·have h3:=(aas (aas h2).2).2
      cases h3;exact auu hid
     ·obtain⟨g,v,_,rfl⟩:=alq h2;exact hid
    ·obtain⟨g,v,_,rfl⟩:=alq h2;exact hid
  case slice t x lo hi mx=>
   have hstr:apm C t=false:=hq
   cases mx with
   |some m=>cases h
   |none=>
    have h:(bif apm C t then pur H (on1 (ev x) fun a=>onO ev lo fun i=>onO ev hi fun j=>cutC a i j)else on1 (ev x) fun a=>onO ev lo fun i=>onO ev hi fun j=>opSl C H t a i j)=some ro:=h
    rw [hstr]at h
    obtain⟨c,h1,h2⟩:=ack (show on1 (ev x) (fun a=>onO ev lo fun i=>onO ev hi fun j=>opSl C H t a i j)=some ro from h)
    have key:∀i j,opSl C H t c i j=some ro→ro.H[id]? =some o2:=fun i j hop=>by
     obtain⟨id2,e2,τ,l,_,_,_,_,_,hc⟩:=opSl_some hop
     rcases hc with⟨b,k,_,_,_,rfl⟩|⟨b,k,_,_,_,rfl⟩<;>exact auu hid
    rcases apu h2 with⟨h4,h5⟩|⟨o,b,h4,h5,h6⟩
    ·rcases apu h5 with⟨h7,h8⟩|⟨o2,b2,h7,h8,h9⟩
     ·exact key _ _ h8
     ·exact key _ _ h9
    ·rcases apu h6 with⟨h7,h8⟩|⟨o2,b2,h7,h8,h9⟩
     ·exact key _ _ h8
     ·exact key _ _ h9
  case alloc e=>
   simp only [opM]at h
   split at h
   ·cases h;exact auu hid
   ·cases h
  case box e x=>
   simp only [opM]at h
   split at h
   ·cases h;exact auu hid
   ·cases h
  case buildSlice t n ps=>
   simp only [opM,aon]at h
   split at h
   ·split at h
    ·have h3:=(aas (aas h).2).2
     split at h3
     ·cases h3;exact auu hid
     ·cases h3
    ·cases h
   ·cases h
  case store t x y=>
   obtain⟨c,h1,h2⟩:=ack (show on1 (ev x) (fun a=>opStore C H t a (ev y))=some ro from h)
   unfold opStore at h2
   split at h2
   ·rename_i n vs _ _
    have h2:=(aas h2).2
    split at h2
    ·split at h2
     ·split at h2
      ·cases h2
       rw [avl (hm _ zak)];exact hid
      ·cases h2
     ·cases h2
    ·rename_i id2 j sz off
     cases hz:zav n 0 with
     |true=>rw [hz]at h2;cases h2
     |false=>
      rw [hz]at h2
      simp only [cond_false]at h2
      split at h2
      ·split at h2
       ·have h3:=(aas h2).2
        cases h3
        rw [avl (hm _ zak)];exact hid
       ·cases h2
      ·split at h2
       ·split at h2
        ·have h3:=(aas h2).2
         cases h3
         rw [avl (hm _ zak)];exact hid
        ·cases h2
       ·cases h2
      ·cases h2
    ·cases h2
   ·cases h2
  case makeSlice t x y=>
   obtain⟨a,h1,h2⟩:=ack (show on1 (ev x) (fun a=>on1 (ev y) fun i=>opMake C H t (isZ x) a i)=some ro from h)
   obtain⟨c,h3,h4⟩:=ack h2
   unfold opMake at h4
   split at h4
   ·have h5:=(aas h4).2
    split at h5
    ·cases h5;exact auu hid
    ·cases h5
   ·cases h4
  case call c=>
   obtain⟨callee,azq,ts⟩:=c
   cases callee<;>first|cases h|skip
   rename_i b
   have h:ajq C ev H b azq.toList ts.toList=some ro:=h
   unfold ajq at h
   split at h
   ·obtain⟨g,v,_,rfl⟩:=alq h;exact hid
   ·rename_i x y t t2 e1 e2 e3
    cases hbt:zav t t2 with
    |true=>
     rw [hbt]at h
     obtain⟨a,h1,h2⟩:=ack h
     obtain⟨c,h3,h4⟩:=ack h2
     unfold opAppend at h4
     split at h4
     ·split at h4
      ·split at h4
       ·cases h4;exact auu hid
       ·cases h4
      ·split at h4
       ·cases h4
        exact auu (by rw [avl (hm _ zak)];exact hid)
       ·cases h4
      ·split at h4
       ·cases h4
        exact auu (by rw [avl (hm _ zak)];exact hid)
       ·cases h4
      ·cases h4
     ·cases h4
    |false=>
     rw [hbt]at h
     obtain⟨a,h1,h2⟩:=ack h
     obtain⟨c,h3,h4⟩:=ack h2
     obtain⟨l2,e2,_,_,_,_,hc⟩:=appS_some h4
     rcases hc with⟨_,rfl⟩|⟨id2,l,_,_,rfl⟩
     ·exact auu hid
     ·exact auu (by rw [avl (hm _ zak)];exact hid)
   ·obtain⟨g,v,_,rfl⟩:=alq h;exact hid
   ·cases h
end
theorem appL_get{H obs:List Ob}{o2:Ob}{id:Nat}(h:H[id]? =some o2):(H++obs)[id]? =some o2:=by
 rw [List.getElem?_append_left (List.getElem?_eq_some_iff.1 h).1];exact h
theorem putR_chg{ss:List Src}{id:Nat}{o:Ob}:∀{r:List Rk} {y:(resT r).T} {l:List SA} {H:List Ob},id∉outIds ss (Rk.ids r)→H[id]? =some o→(putR (ixS ss) (l,H) r y).2[id]? =some o:=by
 have one:∀(q:Rk) (v:q.ty.T) (l:List SA) (H:List Ob),id∉outIds ss (Rk.ids [q])→H[id]? =some o→(q.put (ixS ss) (l,H) v).2[id]? =some o:=by
  intro q v l H hn ho
  cases q with
  |r' x=>exact appL_get ho
  |o' j e x=>exact appL_get (by rw [avl (fun e=>hn (by show id∈[ixS ss j];rw [e];exact List.mem_singleton.2 rfl))];exact ho)
  |w' j x=>
   show(putW H (ixS ss j) x v)[id]? =some o
   unfold putW
   split
   ·rw [avl (fun e=>hn (by show id∈[ixS ss j];rw [e];exact List.mem_singleton.2 rfl))];exact ho
   ·exact ho
 intro r
 induction r with
 |nil=>intro y l H _ ho;exact ho
 |cons q r ih=>
  intro y l H hn ho
  cases r with
  |nil=>exact one q y l H hn ho
  |cons q2 r=>
   have hs:id∉outIds ss (Rk.ids [q])∧id∉outIds ss (Rk.ids (q2::r)):=by
    cases q with
    |r' x=>exact⟨(fun h=>by cases h),hn⟩
    |o' i e x=>exact⟨fun h=>hn (List.mem_cons.2 (.inl (List.mem_singleton.1 h))),fun h=>hn (zaf _ h)⟩
    |w' i x=>exact⟨fun h=>hn (List.mem_cons.2 (.inl (List.mem_singleton.1 h))),fun h=>hn (zaf _ h)⟩
   exact ih hs.2 (one q y.1 l H hs.1 ho)
theorem wholeL_fst{H:List Ob}{l:List Nat}{id:Nat}(h:id∈l):∃q∈aok H l,q.1=id:=⟨_,avs h,rfl⟩
theorem cellsL_fst{H:List Ob}:∀{l:List Nat} {id:Nat},id∈l→∃q∈cellsL H l,q.1=id
 |x::l,id,h=>by
  rcases List.mem_cons.1 h with rfl|h
  ·exact⟨_,zak,rfl⟩
  ·obtain⟨q,h1,h2⟩:=cellsL_fst (H:=H) h
   exact⟨q,zaf _ h1,h2⟩
section
variable {C : Cx} {ops : List Oper} {S S1 : St} {o : Oper}
theorem lay_flat1:∀(t:Ty) (s n n2:Nat) (x:t.T),t.no=0→(t.lay s n x).1=(t.lay s n2 x).1:=by
 intro t
 induction t with
 |w' t ih=>intro s n n2 x h;exact ih s n n2 x h
 |pr a b iha ihb=>
  intro s n n2 x h
  have h1:a.no=0:=by have:a.no+b.no=0:=h;omega
  have h2:b.no=0:=by have:a.no+b.no=0:=h;omega
  show(a.lay s n x.1).1++(b.lay s (n+a.no) x.2).1=(a.lay s n2 x.1).1++(b.lay s (n2+a.no) x.2).1
  rw [iha s n n2 x.1 h1,ihb s (n+a.no) (n2+a.no) x.2 h2]
 |f' k t ih=>
  intro s n n2 x h
  show [SC.f' k (ptrL (t.lay s n x).1)]=[SC.f' k (ptrL (t.lay s n2 x).1)]
  rw [ih s n n2 x h]
 |l' e b t ih=>intro s n n2 x h;cases h
 |y'=>intro s n n2 x h;cases h
 |r' t ih=>intro s n n2 x h;cases h
 |p' e t ih=>intro s n n2 x h;cases h
 |z'=>intro s n n2 x h;cases h
 |_=>intro s n n2 x h;rfl
theorem rd_flat{any:Bool}{H H2:List Ob}:∀(t:Ty) (s:Nat) (l:List SC),t.no=0→t.rd any H2 s l=t.rd any H s l∧∀x r ss,t.rd any H s l=some (x,r,ss)→ss=[]:=by
 intro t
 induction t with
 |w' t ih=>intro s l h;exact ih s l h
 |pr a b iha ihb=>
  intro s l h
  have h1:a.no=0:=by have:a.no+b.no=0:=h;omega
  have h2:b.no=0:=by have:a.no+b.no=0:=h;omega
  obtain⟨e1,e2⟩:=iha s l h1
  simp only [Ty.rd]
  rw [e1]
  cases hp:a.rd any H s l with
  |none=>exact⟨rfl,fun x r ss h=>by cases h⟩
  |some q=>
   obtain⟨x,l1,s1⟩:=q
   obtain⟨e3,e4⟩:=ihb s l1 h2
   simp only
   rw [e3]
   cases hq:b.rd any H s l1 with
   |none=>exact⟨rfl,fun x r ss h=>by cases h⟩
   |some q2=>
    obtain⟨y,l2,s2⟩:=q2
    refine⟨rfl,fun x r ss h=> ?_⟩
    cases h
    rw [e2 _ _ _ hp,e4 _ _ _ hq];rfl
 |sm a b _ _=>intro s l h;exact⟨rfl,fun x r ss h=>by cases h⟩
 |l' e b t ih=>intro s l h;cases h
 |y'=>intro s l h;cases h
 |r' t ih=>intro s l h;cases h
 |p' e t ih=>intro s l h;cases h
 |z'=>intro s l h;cases h
 |u'=>intro s l h;exact⟨rfl,fun x r ss h=>by cases h;rfl⟩
 |o' j=>
  intro s l h
  refine⟨rfl,fun x r ss h=> ?_⟩
  simp only [Ty.rd]at h
  split at h
  ·have:=aas h;cases this.2;rfl
  ·cases h
 |f' k t ih=>
  intro s l h
  have h:t.no=0:=h
  simp only [Ty.rd]
  split
  ·rename_i k' ids l1
   obtain⟨e1,e2⟩:=ih s (ids.map fun id=>.p' id 0) h
   rw [e1]
   refine⟨rfl,fun x r ss h=> ?_⟩
   have h:=(aas h).2
   split at h
   ·rename_i x2 s2 hq
    cases h
    have:=aas hq
    exact e2 _ _ _ this.2
   ·cases h
  ·exact⟨rfl,fun x r ss h=>by cases h⟩
 |_=>
  intro s l h
  refine⟨rfl,fun x r ss h=> ?_⟩
  obtain⟨c,_,_,h3⟩:=hd1_some h
  exact h3
theorem rdV_flat{any:Bool}{H H2:List Ob}{x:Ty}{v:SV}(h:x.no=0):rdV any H2 x v=rdV any H x v∧∀y ss,rdV any H x v=some (y,ss)→ss=[]:=by
 have key:∀l,fulL (x.rd any H2 0 l)=fulL (x.rd any H 0 l)∧∀y ss,fulL (x.rd any H 0 l)=some (y,ss)→ss=[]:=by
  intro l
  obtain⟨e1,e2⟩:=rd_flat (any:=any) (H:=H) (H2:=H2) x 0 l h
  rw [e1]
  refine⟨rfl,fun y ss h=> ?_⟩
  unfold fulL at h
  split at h
  ·rename_i hq;cases h;exact e2 _ _ _ hq
  ·cases h
 cases v with
 |c' c=>
  simp only [rdV]
  cases x.tz<;>cases x.agg<;>simp only [cond_true,cond_false]<;>first|exact key _|exact⟨rfl,fun y ss h=>by cases h⟩|exact⟨trivial,fun y ss h=>by cases h⟩
 |a' l=>
  simp only [rdV]
  cases x.tz<;>cases x.agg<;>simp only [cond_true,cond_false]<;>first|exact key _|exact⟨rfl,fun y ss h=>by cases h⟩|exact⟨trivial,fun y ss h=>by cases h⟩
 |_=>exact⟨rfl,fun y ss h=>by cases h⟩
theorem rdA_flat{H H2:List Ob}:∀(l:List Ty) (vs:List SV),flatA l=true→rdA H2 l vs=rdA H l vs∧∀y ss,rdA H l vs=some (y,ss)→ss=[]
 |[],vs,h=>by
  cases vs with
  |nil=>exact⟨rfl,fun y ss h=>by cases h;rfl⟩
  |cons v vs=>exact⟨rfl,fun y ss h=>by cases h⟩
 |[x],vs,h=>by
  have h:=agp (show(bif zav x.no 0 then flatA []else false)=true from h)
  have hx:=zag h.1
  match vs with
  |[]=>exact⟨rfl,fun y ss h=>by cases h⟩
  |[v]=>exact rdV_flat hx
  |_::_::_=>exact⟨rfl,fun y ss h=>by cases h⟩
 |x::y::l,vs,h=>by
  have h:=agp (show(bif zav x.no 0 then flatA (y::l)else false)=true from h)
  have hx:=zag h.1
  match vs with
  |[]=>exact⟨rfl,fun y ss h=>by cases h⟩
  |v::vs=>
   obtain⟨e1,e2⟩:=rdV_flat (any:=true) (H:=H) (H2:=H2) (v:=v) hx
   obtain⟨e3,e4⟩:=rdA_flat (H:=H) (H2:=H2) (y::l) vs h.2
   simp only [rdA]
   rw [e1]
   cases hp:rdV true H x v with
   |none=>exact⟨rfl,fun y ss h=>by cases h⟩
   |some q=>
    obtain⟨a,s1⟩:=q
    simp only
    rw [e3]
    cases hq:rdA H (y::l) vs with
    |none=>exact⟨rfl,fun y ss h=>by cases h⟩
    |some q2=>
     obtain⟨b,s2⟩:=q2
     refine⟨rfl,fun y ss h=> ?_⟩
     cases h
     rw [e2 _ _ hp,e4 _ _ hq];rfl
theorem layA_flat:∀(l:List Ty) (H:List Ob) (x:(tupT l).T),flatA l=true→(asc H l x).2=H
 |[],H,x,h=>rfl
 |[t],H,x,h=>by
  have h:=agp (show(bif zav t.no 0 then flatA []else false)=true from h)
  show H++(t.lay 0 H.length x).2=H
  rw [zap ((Ty.lay_no t 0 H.length x).trans (zag h.1)),zam]
 |t::y::l,H,x,h=>by
  have h:=agp (show(bif zav t.no 0 then flatA (y::l)else false)=true from h)
  show(asc (H++(t.lay 0 H.length x.1).2) (y::l) x.2).2=H
  rw [zap ((Ty.lay_no t 0 H.length x.1).trans (zag h.1)),zam]
  exact layA_flat (y::l) H x.2 h.2
theorem flatR_cons{k:Rk}{l:List Rk}(h:flatR (k::l)=true):∃x,k=.r' x∧x.no=0∧flatR l=true:=by
 cases k with
 |r' x=>
  have h:=agp (show(bif zav x.no 0 then flatR l else false)=true from h)
  exact⟨x,rfl,zag h.1,h.2⟩
 |_=>cases h
theorem putR_flat{ix:Nat→Nat}:∀(r:List Rk) (y:(resT r).T) (l:List SA) (H:List Ob),flatR r=true→(putR ix (l,H) r y).2=H∧∀H2,(putR ix (l,H2) r y).1=(putR ix (l,H) r y).1
 |[],y,l,H,h=>⟨rfl,fun _=>rfl⟩
 |[k],y,l,H,h=>by
  obtain⟨x,rfl,hx,_⟩:=flatR_cons h
  have e:∀n,(x.lay 0 n y).2=[]:=fun n=>zap ((Ty.lay_no x 0 n y).trans hx)
  refine⟨?_,fun H2=> ?_⟩
  ·show H++(x.lay 0 H.length y).2=H
   rw [e,zam]
  ·show l++[x.sa (x.lay 0 H2.length y).1]=l++[x.sa (x.lay 0 H.length y).1]
   rw [lay_flat1 x 0 H2.length H.length y hx]
 |k::k2::r,y,l,H,h=>by
  obtain⟨x,rfl,hx,hr⟩:=flatR_cons h
  have e:∀n,(x.lay 0 n y.1).2=[]:=fun n=>zap ((Ty.lay_no x 0 n y.1).trans hx)
  have e2:∀H,putR ix (l,H) (.r' x::k2::r) y=putR ix (l++[x.sa (x.lay 0 0 y.1).1],H) (k2::r) y.2:=fun H=>by
   show putR ix (l++[x.sa (x.lay 0 H.length y.1).1],H++(x.lay 0 H.length y.1).2) (k2::r) y.2=_
   rw [e,zam,lay_flat1 x 0 H.length 0 y.1 hx]
  rw [e2]
  obtain⟨h1,h2⟩:=putR_flat (k2::r) y.2 (l++[x.sa (x.lay 0 0 y.1).1]) H hr
  refine⟨h1,fun H2=> ?_⟩
  rw [e2];exact h2 H2
theorem ids_flat:∀(r:List Rk),flatR r=true→Rk.ids r=[]
 |[],h=>rfl
 |k::r,h=>by
  obtain⟨x,rfl,_,hr⟩:=flatR_cons h
  exact ids_flat r hr
theorem rkOk_flat{H H2:List Ob}{ss:List Src}:∀(r:List Rk),flatR r=true→rkOk H2 ss r=rkOk H ss r
 |[],h=>rfl
 |k::r,h=>by
  obtain⟨x,rfl,_,hr⟩:=flatR_cons h
  simp only [rkOk]
  rw [rkOk_flat r hr]
theorem flatX_mem:∀{l:List Con} {c:Con},c∈l→flatX l=true→flatA c.a=true∧flatR c.r=true
 |x::l,c,hc,h=>by
  have h:=agp (show(bif flatA x.a then(bif flatR x.r then flatX l else false)else false)=true from h)
  have h2:=agp h.2
  rcases List.mem_cons.1 hc with rfl|hc
  ·exact⟨h.1,h2.1⟩
  ·exact flatX_mem hc h2.2
theorem callS_at{c:Con}{d:Option Nat}{a:(tupT c.a).T}{ss:List Src}{y:(resT c.r).T}{t:Nat}:(callS c S d a ss y).at t=if d=some t then resV (putR (ixS ss) ([],kill S.H (axa (Rk.ids c.r) (asc [] c.a a).2 0 ss)) c.r y).1 else S.at t:=by
 have e:callS c S d a ss y=St.setO ⟨S.F,(putR (ixS ss) ([],kill S.H (axa (Rk.ids c.r) (asc [] c.a a).2 0 ss)) c.r y).2,S.nb,S.al,callM c S a ss++S.m⟩ d (resV (putR (ixS ss) ([],kill S.H (axa (Rk.ids c.r) (asc [] c.a a).2 0 ss)) c.r y).1):=rfl
 rw [e,at_setO]
 rfl
theorem aqq{S:St}{d:Option Nat}{v:SV}:(S.setO d v).H=S.H∧(S.setO d v).m=S.m∧(S.setO d v).nb=S.nb∧(S.setO d v).al=S.al:=by cases d<;>exact⟨rfl,rfl,rfl,rfl⟩
theorem asj{c:Con}{d:Option Nat}{a:(tupT c.a).T}{ss:List Src}{y:(resT c.r).T}:(callS c S d a ss y).H=(putR (ixS ss) ([],kill S.H (axa (Rk.ids c.r) (asc [] c.a a).2 0 ss)) c.r y).2∧(callS c S d a ss y).m=callM c S a ss++S.m∧(callS c S d a ss y).nb=S.nb∧(callS c S d a ss y).al=S.al:=by
 have e:callS c S d a ss y=St.setO ⟨S.F,(putR (ixS ss) ([],kill S.H (axa (Rk.ids c.r) (asc [] c.a a).2 0 ss)) c.r y).2,S.nb,S.al,callM c S a ss++S.m⟩ d (resV (putR (ixS ss) ([],kill S.H (axa (Rk.ids c.r) (asc [] c.a a).2 0 ss)) c.r y).1):=rfl
 rw [e]
 exact⟨aqq.1,aqq.2.1,aqq.2.2.1,aqq.2.2.2⟩
theorem atz{c:Con}{d:Option Nat}{a:(tupT c.a).T}{y:(resT c.r).T}(ha:flatA c.a=true)(hr:flatR c.r=true):(callS c S d a [] y).H=S.H∧(callS c S d a [] y).m=S.m∧callM c S a []=[]∧∀S2:St,resV (putR (ixS []) ([],kill S2.H (axa (Rk.ids c.r) (asc [] c.a a).2 0 [])) c.r y).1=resV (putR (ixS []) ([],kill S.H (axa (Rk.ids c.r) (asc [] c.a a).2 0 [])) c.r y).1:=by
 have e1:axa (Rk.ids c.r) (asc [] c.a a).2 0 []=[]:=by rw [layA_flat c.a [] a ha];rfl
 have e2:callM c S a []=[]:=by
  unfold callM
  rw [e1,ids_flat c.r hr];rfl
 refine⟨?_, ?_,e2,fun S2=> ?_⟩
 ·rw [asj.1,e1]
  exact(putR_flat c.r y [] S.H hr).1
 ·rw [asj.2.1,e2];rfl
 ·rw [e1]
  show resV (putR (ixS []) ([],S2.H) c.r y).1=resV (putR (ixS []) ([],S.H) c.r y).1
  rw [(putR_flat c.r y [] S.H hr).2 S2.H]
theorem opM_qt{ev:Operand→SV}{H:List Ob}{op:Op}{ro:Ro}(h:opM C ev H op=some ro)(hq:qt C op=true):quietO C op=true:=by
 unfold qt at hq
 cases hqq:quietO C op with
 |true=>rfl
 |false=>
  rw [hqq]at hq
  simp only [cond_false]at hq
  split at hq
  ·rename_i c
   split at hq
   ·rename_i k hc
    simp only [opM,hc]at h
    cases h
   ·cases hq
  ·cases hq
theorem callT_flat(h:CallT C S o S1)(hq:qt C o.op=true):∃cal f k ids c a y,o.op=.call cal∧cal.callee=.value f∧S.ev C f=.c' (.f' k ids)∧c∈C.X k∧rdA S.H c.a (cal.args.toList.map (S.ev C)++capV ids)=some (a,[])∧callOk c S a []=true∧(c.f a).ok y∧S1=callS c S o.dst a [] y∧flatA c.a=true∧flatR c.r=true:=by
 obtain⟨cal,f,k,ids,c,a,ss,y,hop,hf,hfv,hc,hr,hok,hy,hS1⟩:=h.ex
 unfold qt at hq
 rw [hop]at hq
 have hq1:quietO C (.call cal)=false:=by
  show(match cal.callee with
   |.builtin .len=>true
   |.builtin .min=>true
   |.builtin .max=>true
   |_=>false)=false
  rw [hf]
 rw [hq1]at hq
 simp only [cond_false,hf]at hq
 split at hq
 ·rename_i k2 hk2
  cases hk2
  have hfv2:S.ev C (.func k2)=.c' (.f' k2 []):=rfl
  rw [hfv2]at hfv
  cases hfv
  obtain⟨h1,h2⟩:=flatX_mem hc hq
  obtain rfl:=(rdA_flat (H:=S.H) (H2:=S.H) c.a _ h1).2 a ss hr
  exact⟨cal,_,_,_,c,a,y,hop,hf,hfv2,hc,hr,hok,hy,hS1,h1,h2⟩
 ·cases hq
theorem adv_fr(h:Adv C ops S o S1):(∀t,o.dst≠some t→S1.at t=S.at t)∧S1.nb=S.nb∧S1.al=S.al:=by
 cases h with
 |op hg ro h ha hd hm=>
  refine⟨fun t ht=> ?_,aqq.2.2.1,aqq.2.2.2⟩
  rw [at_setO,if_neg ht];rfl
 |mv hg x d b hx hd hb=>exact⟨fun t ht=>by rw [at_set,if_neg (fun e=>ht (by rw [hd,e]))],rfl,rfl⟩
 |skip hg d hd=>exact⟨fun t ht=>by rw [at_set,if_neg (fun e=>ht (by rw [hd,e]))],rfl,rfl⟩
 |call hg _ h=>
  obtain⟨cal,f,k,ids,c,a,ss,y,_,_,_,_,_,_,_,rfl⟩:=h
  exact⟨fun t ht=>by rw [callS_at,if_neg ht],asj.2.2.1,asj.2.2.2⟩
theorem adv_quiet(h:Adv C ops S o S1)(hq:qt C o.op=true):S1.H=S.H∧S1.m=S.m:=by
 cases h with
 |op hg ro h ha hd hm=>
  have:=quiet_H (H2:=S.H) (opM_qt h hq) h (fun _ _ _ h=>h)
  refine⟨aqq.1.trans this.1,aqq.2.1.trans ?_⟩
  show ro.m++S.m=S.m
  rw [this.2.1];rfl
 |mv hg x d b hx hd hb=>exact⟨rfl,rfl⟩
 |skip hg d hd=>exact⟨rfl,rfl⟩
 |call hg _ h=>
  obtain⟨cal,f,k,ids,c,a,y,_,_,_,_,_,_,_,rfl,h1,h2⟩:=callT_flat h hq
  exact⟨(atz h1 h2).1,(atz h1 h2).2.1⟩
theorem adv_chg(h:Adv C ops S o S1):∃mn,S1.m=mn++S.m∧∀(id:Nat) (o2:Ob),(∀q∈mn,q.1≠id)→ams S.H id=some o2→ams S1.H id=some o2:=by
 cases h with
 |op hg ro h ha hd hm=>
  refine⟨ro.m,aqq.2.1,fun id o2 hq hid=> ?_⟩
  rw [abm]at hid⊢
  rw [aqq.1]
  exact opM_chg h hq hid
 |mv hg x d b hx hd hb=>exact⟨[],rfl,fun id o2 _ h=>h⟩
 |skip hg d hd=>exact⟨[],rfl,fun id o2 _ h=>h⟩
 |call hg _ h=>
  obtain⟨cal,f,k,ids,c,a,ss,y,_,_,_,_,_,_,_,rfl⟩:=h
  refine⟨callM c S a ss,asj.2.1,fun id o2 hq hid=> ?_⟩
  rw [abm]at hid⊢
  rw [asj.1]
  refine putR_chg (fun hh=> ?_) ?_
  ·obtain⟨q,h1,h2⟩:=cellsL_fst (H:=S.H) hh
   exact hq q (zaY _ h1) h2
  ·rw [anx,if_neg (fun hh=> ?_)]
   ·exact hid
   ·obtain⟨q,h1,h2⟩:=wholeL_fst (H:=S.H) hh
    exact hq q (zbd _ h1) h2
theorem oks_congr{S S2:St}(hnb:S2.nb=S.nb)(hal:S2.al=S.al):∀l,S2.oks l=S.oks l
 |[]=>rfl
 |x::l=>by
  show(bif S2.ok x then S2.oks l else false)=(bif S.ok x then S.oks l else false)
  rw [oks_congr hnb hal l]
  unfold St.ok
  rw [hnb,hal]
theorem adv_move(h:Adv C ops S o S1){S2:St}(ho:∀t,Operand.tmp t∈o.op.operands→S2.at t=S.at t)(hg2:∀t∈gslot ops o,S2.at t=S.at t)(hnb:S2.nb=S.nb)(hal:S2.al=S.al)
  (hq:qt C o.op=true→Agr S.H S2.H (footO (S.ev C) o.op)) (hh:qt C o.op=false→S2.H=S.H):
  ∃S3,Adv C ops S2 o S3∧(∀t,S3.at t=if o.dst=some t then S1.at t else S2.at t)∧S3.nb=S.nb∧S3.al=S.al∧(qt C o.op=true→S3.H=S2.H∧S3.m=S2.m)∧(qt C o.op=false→S3.H=S1.H∧∀mn,S1.m=mn++S.m→S3.m=mn++S2.m):=by
 have hev:∀x∈o.op.operands,S2.ev C x=S.ev C x:=by
  intro x hx
  cases x with
  |tmp t=>show(bif zbh t C.nn then S2.at t else .u')=(bif zbh t C.nn then S.at t else .u');rw [ho t hx]
  |_=>rfl
 have hgr:∀b,Grd C ops S o b→Grd C ops S2 o b:=by
  intro b hg
  have gs:∀(q:Nat×Bool) (dg:Nat),o.guard=some q→gdst ops q.1=some dg→S2.at dg=S.at dg:=by
   intro q dg h1 h2
   refine hg2 dg ?_
   unfold gslot
   rw [h1]
   simp only [h2,List.mem_singleton]
  cases hg with
  |none h=>exact .none h
  |yes q dg h h1 h2 h3=>exact .yes q dg h h1 h2 (by rw [gs q dg h h1];exact h3)
  |no q dg h h1 h2 h3=>exact .no q dg h h1 h2 (by rw [gs q dg h h1];exact h3)
  |un q dg h h1 h2 h3=>exact .un q dg h h1 h2 (by rw [gs q dg h h1];exact h3)
 have hsame:= @quiet_H C
 cases h with
 |op hg ro h ha hd hm=>
  cases hqq:qt C o.op with
  |true=>
   have h1:=quiet_H (H2:=S2.H) (opM_qt h hqq) h (hq hqq)
   have h2:opM C (S2.ev C) S2.H o.op=some ⟨ro.g,ro.v,S2.H,[]⟩:=by rw [opM_congr hev];exact h1.2.2
   refine⟨_,.op (hgr _ hg) ⟨ro.g,ro.v,S2.H,[]⟩ h2 ha hd rfl,fun t=> ?_,aqq.2.2.1.trans hnb,aqq.2.2.2.trans hal,fun _=>⟨aqq.1,aqq.2.1⟩,fun e=>by cases e⟩
   rw [at_setO,at_setO]
   split<;>rfl
  |false=>
   have hH:=hh hqq
   have h2:opM C (S2.ev C) S2.H o.op=some ro:=by rw [opM_congr hev,hH];exact h
   refine⟨_,.op (hgr _ hg) ro h2 ha hd (by rw [oks_congr hnb hal];exact hm),fun t=> ?_,aqq.2.2.1.trans hnb,aqq.2.2.2.trans hal,(fun e=>by cases e),fun _=>⟨by rw [aqq.1,aqq.1],fun mn hmn=> ?_⟩⟩
   ·rw [at_setO,at_setO]
    split<;>rfl
   ·rw [aqq.2.1]at hmn⊢
    have:=List.append_cancel_right hmn
    show ro.m++S2.m=_
    rw [this]
 |mv hg x d b hx hd hb=>
  have hxo:x∈o.op.operands:=by
   obtain⟨dst,op,ty,pos,after,gd⟩:=o
   cases op<;>first|cases hx|skip
   ·simp [zaB]
   ·simp [zaB]
  have hqq:qt C o.op=true:=by
   obtain⟨dst,op,ty,pos,after,gd⟩:=o
   cases op<;>first|cases hx|skip
   ·rfl
   ·rfl
  refine⟨_,.mv (hgr _ hg) x d b hx hd (by rw [hev x hxo];exact hb),fun t=> ?_,hnb,hal,fun _=>⟨rfl,rfl⟩,fun e=>by rw [hqq]at e;cases e⟩
  rw [at_set,at_set,hd]
  by_cases e:t=d
  ·subst e;simp
  ·have e2:¬(some d:Option Nat)=some t:=fun hh=>e (Option.some.inj hh).symm
   rw [if_neg e,if_neg e2]
 |skip hg d hd=>
  have fin:∀t,(S2.set d .n').at t=if o.dst=some t then(S.set d .n').at t else S2.at t:=by
   intro t
   rw [at_set,at_set,hd]
   by_cases e:t=d
   ·subst e;simp
   ·have e2:¬(some d:Option Nat)=some t:=fun hh=>e (Option.some.inj hh).symm
    rw [if_neg e,if_neg e2]
  exact⟨_,.skip (hgr _ hg) d hd,fin,hnb,hal,fun _=>⟨rfl,rfl⟩,fun hqq=>⟨hh hqq,fun mn hmn=>by
   have hmn:S.m=mn++S.m:=hmn
   have:mn=[]:=List.append_left_eq_self.1 hmn.symm
   rw [this];rfl⟩⟩
 |call hg _ h=>
  cases hqq:qt C o.op with
  |true=>
   obtain⟨cal,f,k,ids,c,a,y,hop,hf,hfv,hc,hr,hok,hy,rfl,hfa,hfr⟩:=callT_flat h hqq
   have hfo:f∈o.op.operands:=by rw [hop];simp [zaB,Call.operands,hf]
   have has:cal.args.toList.map (S2.ev C)=cal.args.toList.map (S.ev C):=map_congr fun x hx=>hev x (by
    rw [hop]
    simp only [zaB,Call.operands,Array.mem_append]
    exact .inr (by simpa using hx))
   have e0:∀Z:St,callM c Z a []=[]:=fun Z=>(atz (S:=Z) (d:=none) (y:=y) hfa hfr).2.2.1
   have hok2:callOk c S2 a []=true:=by
    unfold callOk at hok⊢
    rw [e0,rkOk_flat (H:=S.H) c.r hfr]
    rw [e0]at hok
    exact hok
   refine⟨_,.call (hgr _ hg) _ ⟨cal,f,k,ids,c,a,[],y,hop,hf,by rw [hev f hfo];exact hfv,hc,by rw [has,(rdA_flat (H:=S.H) (H2:=S2.H) c.a _ hfa).1];exact hr,hok2,hy,rfl⟩,fun t=> ?_,asj.2.2.1.trans hnb,asj.2.2.2.trans hal,fun _=>⟨(atz hfa hfr).1,(atz hfa hfr).2.1⟩,(fun e=>by cases e)⟩
   rw [callS_at,callS_at]
   by_cases e:o.dst=some t
   ·rw [if_pos e,if_pos e,if_pos e];exact(atz (S:=S) (d:=none) hfa hfr).2.2.2 S2
   ·rw [if_neg e,if_neg e]
  |false=>
  have hH:=hh hqq
  obtain⟨cal,f,k,ids,c,a,ss,y,hop,hf,hfv,hc,hr,hok,hy,rfl⟩:=h
  have hfo:f∈o.op.operands:=by rw [hop];simp [zaB,Call.operands,hf]
  have has:cal.args.toList.map (S2.ev C)=cal.args.toList.map (S.ev C):=map_congr fun x hx=>hev x (by
   rw [hop]
   simp only [zaB,Call.operands,Array.mem_append]
   exact .inr (by simpa using hx))
  have hok2:callOk c S2 a ss=true:=by
   unfold callOk at hok⊢
   rw [oks_congr hnb hal,hH]
   have e:callM c S2 a ss=callM c S a ss:=by unfold callM;rw [hH]
   rw [e];exact hok
  refine⟨_,.call (hgr _ hg) _ ⟨cal,f,k,ids,c,a,ss,y,hop,hf,by rw [hev f hfo];exact hfv,hc,by rw [has,hH];exact hr,hok2,hy,rfl⟩,fun t=> ?_,asj.2.2.1.trans hnb,asj.2.2.2.trans hal,(fun e=>by cases e),fun _=>⟨?_,fun mn hmn=> ?_⟩⟩
  ·rw [callS_at,callS_at,hH]
   split<;>rfl
  ·rw [asj.1,asj.1,hH]
  ·rw [asj.2.1]at hmn⊢
   have:=List.append_cancel_right hmn
   have e:callM c S2 a ss=callM c S a ss:=by unfold callM;rw [hH]
   rw [e,this]
end
open Go.Wk
open Go.Ce (Tr)
open Go.Op renaming operands → zaB
open List renaming append_assoc → zal, append_nil → zam, length_append → zab, length_nil → zaj, length_singleton → zae, mem_cons_of_mem → zaf, mem_cons_self → zak, take_left → zbv
open Nat renaming add_assoc → zaQ, add_comm → zaX, add_zero → zaP, beq → zav, eq_of_beq_eq_true → zag, le_refl → zao, le_trans → zaF, succ → zbk, zero_add → zbc
theorem ancs_get:∀(l:List Oper) (A:List (List Nat)),(∃B,ancs l A=A++B)∧∀(i:Nat) (o:Oper),l[i]? =some o→(ancs l A)[A.length+i]? =some (ancO ((ancs l A).take (A.length+i)) o.after.toList)
 |[],A=>⟨⟨[],by simp [ancs]⟩,fun i o h=>by simp at h⟩
 |o::l,A=>by
  obtain⟨⟨B,h1⟩,h2⟩:=ancs_get l (A++[ancO A o.after.toList])
  have e:ancs (o::l) A=ancs l (A++[ancO A o.after.toList]):=rfl
  refine⟨⟨[ancO A o.after.toList]++B,by rw [e,h1,zal]⟩,fun i o2 h=> ?_⟩
  cases i with
  |zero=>
   have h:o=o2:=by simpa using h
   subst h
   rw [e,h1,zaP,zal,List.getElem?_append_right (zao _),zbv]
   simp
  |succ i=>
   have:=h2 i o2 (by simpa using h)
   rw [zab,zae,zaQ,zaX 1 i]at this
   rw [e];exact this
theorem ancO_mem{A:List (List Nat)}{j:Nat}:∀{l:List Edge},j∈ancO A l↔∃e∈l,Region.binds .any e=true∧(j=e.on∨j∈aru A e.on)
 |[]=>by simp [ancO]
 |e::l=>by
  have ih:=ancO_mem (A:=A) (j:=j) (l:=l)
  have hA:(match ams A e.on with
   |some a=>a
   |none=>[])=aru A e.on:=rfl
  simp only [ancO,hA]
  cases hb:Region.binds .any e with
  |true=>
   simp only [cond_true,List.mem_append,List.mem_cons,ih,exists_eq_or_imp,hb,true_and]
   exact Iff.rfl
  |false=>
   simp only [cond_false,ih,List.mem_cons,exists_eq_or_imp,hb,Bool.false_eq_true,false_and,false_or]
theorem backE_of:∀{l:List Oper} {i:Nat},backE l i=true→∀(j:Nat) (o:Oper),l[j]? =some o→∀e∈o.after,Region.binds .any e=true→e.on<i+j
 |[],i,_,j,o,hj=>by simp at hj
 |x::l,i,h,j,o,hj=>by
  have h:=agp (show(bif _ then backE l (zbk i)else false)=true from h)
  intro e he hb
  cases j with
  |zero=>
   have hj:x=o:=by simpa using hj
   subst hj
   have:=List.all_eq_true.1 h.1 e (by simpa using he)
   rw [hb]at this
   simpa [Nat.blt_eq] using this
  |succ j=>
   have:=backE_of h.2 j o (by simpa using hj) e he hb
   omega
theorem ancAt_take{A:List (List Nat)}{k i:Nat}(h:i<k):aru (A.take k) i=aru A i:=by
 unfold aru
 rw [abm,abm,List.getElem?_take,if_pos h]
section
variable {l : List Oper}
theorem anc_iff(hb:backE l 0=true){i:Nat}{o:Oper}(ho:l[i]? =some o){j:Nat}:j∈aru (ancs l []) i↔∃e∈o.after,Region.binds .any e=true∧(j=e.on∨j∈aru (ancs l []) e.on):=by
 have h:=(ancs_get l []).2 i o ho
 rw [zaj,zbc]at h
 have e:aru (ancs l []) i=ancO ((ancs l []).take i) o.after.toList:=by
  unfold aru
  rw [abm,h]
 rw [e,ancO_mem]
 constructor
 ·rintro⟨e,he,h1,h2⟩
  have he2:e∈o.after:=by simpa using he
  have:=backE_of hb i o ho e he2 h1
  rw [ancAt_take (by omega)]at h2
  exact⟨e,he2,h1,h2⟩
 ·rintro⟨e,he,h1,h2⟩
  have:=backE_of hb i o ho e he h1
  refine⟨e,by simpa using he,h1, ?_⟩
  rw [ancAt_take (by omega)];exact h2
theorem ancAt_none{i:Nat}(h:l[i]? =none):aru (ancs l []) i=[]:=by
 have key:∀(l:List Oper) (A:List (List Nat)),(ancs l A).length=A.length+l.length:=by
  intro l
  induction l with
  |nil=>intro A;rfl
  |cons o l ih=>intro A;rw [show ancs (o::l) A=ancs l (A++[ancO A o.after.toList])from rfl,ih];simp;omega
 unfold aru
 have h2:=List.getElem?_eq_none_iff.1 h
 have h3:=key l []
 rw [abm,List.getElem?_eq_none (by simp at h3;omega)]
theorem anc_lt(hb:backE l 0=true):∀(i j:Nat),j∈aru (ancs l []) i→j<i:=by
 intro i
 induction i using Nat.strongRecOn with
 |_ i ih=>
  intro j hj
  cases ho:l[i]? with
  |none=>rw [ancAt_none ho]at hj;cases hj
  |some o=>
   obtain⟨e,he,h1,h2⟩:=(anc_iff hb ho).1 hj
   have h3:=backE_of hb i o ho e he h1
   rcases h2 with rfl|h2
   ·omega
   ·have:=ih e.on (by omega) j h2
    omega
theorem anc_listed{ops:Array Oper}{k:Nat}{listed:Array Bool}(hl:l=ops.toList.take k)(hb:backE l 0=true)(inv:HeadInv .any ops k listed):∀(i:Nat) (o:Oper),l[i]? =some o→(∀e∈o.after,Region.binds .any e=true→listed.getD e.on false=true)→∀j∈aru (ancs l []) i,listed.getD j false=true:=by
 intro i
 induction i using Nat.strongRecOn with
 |_ i ih=>
  intro o ho hall j hj
  obtain⟨e,he,h1,h2⟩:=(anc_iff hb ho).1 hj
  have h3:=backE_of hb i o ho e he h1
  have h4:=hall e he h1
  rcases h2 with rfl|h2
  ·exact h4
  ·have hi:=(List.getElem?_eq_some_iff.1 ho).1
   have hlen:e.on<l.length:=by omega
   obtain⟨o2,ho2⟩:∃o2,l[e.on]? =some o2:=⟨_,List.getElem?_eq_getElem hlen⟩
   have ho3:ops[e.on]? =some o2:=by
    have ho4:=ho2
    rw [hl,List.getElem?_take]at ho4
    split at ho4
    ·simpa using ho4
    ·cases ho4
   exact ih e.on (by omega) _ ho2 (fun e2 he2 hb2=>inv.closed e.on _ ho3 h4 e2 he2 hb2) j h2
end
theorem opndOk_of{A:List (List Nat)}{i:Nat}{rd:List Nat}:∀{l:List Oper} {j0:Nat},opndOk A i rd l j0=true→∀(j:Nat) (o:Oper) (d:Nat),l[j]? =some o→o.dst=some d→d∈rd→i=j0+j∨ordd A i (j0+j)=true
 |[],j0,_,j,o,d,hj=>by simp at hj
 |x::l,j0,h,j,o,d,hj=>by
  have h:=agp (show(bif _ then opndOk A i rd l (zbk j0)else false)=true from h)
  intro hd hm
  cases j with
  |zero=>
   have hj:x=o:=by simpa using hj
   subst hj
   have h1:=h.1
   rw [hd]at h1
   simp only [aiw.2 hm,cond_true]at h1
   cases hb:zav i j0 with
   |true=>exact .inl (zag hb)
   |false=>rw [hb]at h1;exact .inr h1
  |succ j=>
   have:=opndOk_of h.2 j o d (by simpa using hj) hd hm
   rw [show zbk j0+j=j0+(j+1)by omega]at this
   exact this
theorem opndsOk_of{ops:List Oper}{A:List (List Nat)}{all:List Oper}:∀{l:List Oper} {i0:Nat},opndsOk ops A all l i0=true→∀(i:Nat) (o:Oper),l[i]? =some o→opndOk A (i0+i) (opndS o.op.operands.toList++gslot ops o) all 0=true
 |[],i0,_,i,o,hi=>by simp at hi
 |x::l,i0,h,i,o,hi=>by
  have h:=agp (show(bif _ then opndsOk ops A all l (zbk i0)else false)=true from h)
  cases i with
  |zero=>
   have hi:x=o:=by simpa using hi
   subst hi
   exact h.1
  |succ i=>
   have:=opndsOk_of h.2 i o (by simpa using hi)
   rw [show zbk i0+i=i0+(i+1)by omega]at this
   exact this
theorem memOk1_of{A:List (List Nat)}{i:Nat}{q:Bool×List Nat}:∀{l:List (Bool×List Nat)} {j0:Nat},memOk1 A i q l j0=true→∀(j:Nat) (p:Bool×List Nat),l[j]? =some p→i≠j0+j→ordd A i (j0+j)=false→p.1=true→q.1=false∧∀x∈q.2,x∉p.2
 |[],j0,_,j,p,hj=>by simp at hj
 |x::l,j0,h,j,p,hj=>by
  have h:=agp (show(bif _ then memOk1 A i q l (zbk j0)else false)=true from h)
  intro hne ho hp
  cases j with
  |zero=>
   have hj:x=p:=by simpa using hj
   subst hj
   have h1:=h.1
   have hb:zav i j0=false:=by rw [beqN];simp;omega
   rw [zaP]at ho
   rw [hb,ho,hp]at h1
   simp only [cond_false,cond_true]at h1
   cases hq:q.1 with
   |true=>rw [hq]at h1;cases h1
   |false=>rw [hq]at h1;exact⟨rfl,disN_iff.1 h1⟩
  |succ j=>
   refine memOk1_of h.2 j p (by simpa using hj) (by omega) ?_ hp
   rw [show zbk j0+j=j0+(j+1)by omega];exact ho
theorem memOk_of{A:List (List Nat)}{all:List (Bool×List Nat)}:∀{l:List (Bool×List Nat)} {i0:Nat},memOk A all l i0=true→∀(i:Nat) (q:Bool×List Nat),l[i]? =some q→memOk1 A (i0+i) q all 0=true
 |[],i0,_,i,q,hi=>by simp at hi
 |x::l,i0,h,i,q,hi=>by
  have h:=agp (show(bif _ then memOk A all l (zbk i0)else false)=true from h)
  cases i with
  |zero=>
   have hi:x=q:=by simpa using hi
   subst hi
   exact h.1
  |succ i=>
   have:=memOk_of h.2 i q (by simpa using hi)
   rw [show zbk i0+i=i0+(i+1)by omega]at this
   exact this
theorem opsT_path{C:Cx}{ops:List Oper}{ρ':Ty}{κ:St→List (Bool×List Nat)→Option ρ'.T}{r:ρ'.T}:∀(l:List Oper) (i:Nat) (S:St) (tr:List (Bool×List Nat)),opsT C ops l i S tr κ=some r→
  ∃(T:Nat→St) (es:List (Bool×List Nat)),T 0=S∧(∀(j:Nat) (o:Oper),l[j]? =some o→Adv C ops (T j) o (T (j+1))∧es[j]? =some (entry C (T j) (T (j+1)) o))∧κ (T l.length) (tr++es)=some r
 |[],i,S,tr,h=>⟨fun _=>S,[],rfl,fun j o hj=>by simp at hj,by rw [zam];exact h⟩
 |o::l,i,S,tr,h=>by
  obtain⟨S2,h1,h2⟩:=run3_adv (show run3 C ops i S o (fun S2=>opsT C ops l (zbk i) S2 (tr++[entry C S S2 o]) κ)=some r from h)
  obtain⟨T,es,h3,h4,h5⟩:=opsT_path l (zbk i) S2 _ h2
  refine⟨fun j=>match j with
   |0=>S
   |j+1=>T j,entry C S S2 o::es,rfl,fun j o2 hj=> ?_,by rw [zal]at h5;exact h5⟩
  cases j with
  |zero=>
   have hj:o=o2:=by simpa using hj
   subst hj
   show Adv C ops S o (T 0)∧some (entry C S S2 o)=some (entry C S (T 0) o)
   rw [h3]
   exact⟨h1,rfl⟩
  |succ j=>exact h4 j o2 (by simpa using hj)
theorem lenR_eq:∀l:List Rg,lenR l=l.length
 |[]=>rfl
 |_::l=>by show zbk (lenR l)=_;rw [lenR_eq l];rfl
theorem fsts_mem:∀{mn m:List Rg} {q:Rg},q∈mn→q.1∈fsts mn.length (mn++m)
 |x::mn,m,q,h=>by
  show q.1∈x.1::fsts mn.length (mn++m)
  rcases List.mem_cons.1 h with rfl|h
  ·exact zak
  ·exact zaf _ (fsts_mem h)
section
variable {C : Cx} {md : Md} {w0 : World} {S0 : List Nat} {GS : Glo}
structure Way (C:Cx) (ops:List Oper) (l:List Oper) (T:Nat→St) (es:List (Bool×List Nat)):Prop where
 st:∀(j:Nat) (o:Oper),l[j]? =some o→Adv C ops (T j) o (T (j+1))∧es[j]? =some (entry C (T j) (T (j+1)) o)
 nd:∀(i j:Nat) (o o2:Oper) (t:Nat),l[i]? =some o→l[j]? =some o2→o.dst=some t→o2.dst=some t→i=j
variable {ops l : List Oper} {T : Nat → St} {es : List (Bool × List Nat)}
theorem Way.at(h:Way C ops l T es)(t:Nat):∀i,i≤l.length→(∀(j:Nat) (o:Oper),l[j]? =some o→o.dst=some t→(T i).at t=if j<i then(T (j+1)).at t else(T 0).at t)∧((∀(j:Nat) (o:Oper),l[j]? =some o→o.dst≠some t)→(T i).at t=(T 0).at t)
 |0,_=>⟨fun j o _ _=>by simp,fun _=>rfl⟩
 |i+1,hi=>by
  obtain⟨h1,h2⟩:=h.at t i (by omega)
  have hoi:l[i]? =some (l[i]'(by omega)):=List.getElem?_eq_getElem (by omega)
  have hst:=(adv_fr (h.st i _ hoi).1).1
  refine⟨fun j o hj hd=> ?_,fun hn=> ?_⟩
  ·by_cases hij:j=i
   ·subst hij;rw [if_pos (by omega)]
   ·have hne:(l[i]'(by omega)).dst≠some t:=fun e=>hij (h.nd j i _ _ t hj hoi hd e)
    rw [hst t hne,h1 j o hj hd]
    by_cases hlt:j<i
    ·rw [if_pos hlt,if_pos (by omega)]
    ·rw [if_neg hlt,if_neg (by omega)]
  ·rw [hst t (hn i _ hoi)];exact h2 hn
theorem Way.nb(h:Way C ops l T es):∀i,i≤l.length→(T i).nb=(T 0).nb∧(T i).al=(T 0).al
 |0,_=>⟨rfl,rfl⟩
 |i+1,hi=>by
  have hoi:l[i]? =some (l[i]'(by omega)):=List.getElem?_eq_getElem (by omega)
  obtain⟨_,h1,h2⟩:=adv_fr (h.st i _ hoi).1
  obtain⟨h3,h4⟩:=h.nb i (by omega)
  exact⟨h1.trans h3,h2.trans h4⟩
theorem Way.still(h:Way C ops l T es):∀(d i:Nat),i+d≤l.length→(∀(j:Nat) (o:Oper),i≤j→j<i+d→l[j]? =some o→qt C o.op=true)→(T (i+d)).H=(T i).H∧(T (i+d)).m=(T i).m
 |0,i,_,_=>⟨rfl,rfl⟩
 |d+1,i,hi,hq=>by
  obtain⟨h1,h2⟩:=h.still d i (by omega) (fun j o h1 h2=>hq j o h1 (by omega))
  have hoi:l[i+d]? =some (l[i+d]'(by omega)):=List.getElem?_eq_getElem (by omega)
  obtain⟨h3,h4⟩:=adv_quiet (h.st (i+d) _ hoi).1 (hq _ _ (by omega) (by omega) hoi)
  exact⟨h3.trans h1,h4.trans h2⟩
theorem Way.keep(h:Way C ops l T es){id:Nat}{o2:Ob}:∀(d i:Nat),i+d≤l.length→(∀(j:Nat) (o:Oper) (p:Bool×List Nat),i≤j→j<i+d→l[j]? =some o→es[j]? =some p→p.1=true→id∉p.2)→ams (T i).H id=some o2→ams (T (i+d)).H id=some o2
 |0,i,_,_,hg=>hg
 |d+1,i,hi,hq,hg=>by
  have h1:=h.keep d i (by omega) (fun j o p h1 h2=>hq j o p h1 (by omega)) hg
  have hoi:l[i+d]? =some (l[i+d]'(by omega)):=List.getElem?_eq_getElem (by omega)
  obtain⟨h2,h3⟩:=h.st (i+d) _ hoi
  have hp:=hq (i+d) _ _ (by omega) (by omega) hoi h3
  unfold entry at hp
  cases hqq:qt C (l[i+d]'(by omega)).op with
  |true=>
   show ams (T (i+d+1)).H id=_
   rw [(adv_quiet h2 hqq).1];exact h1
  |false=>
   rw [hqq]at hp
   have hp:=hp rfl
   obtain⟨mn,h4,h5⟩:=adv_chg h2
   refine h5 id o2 (fun q hq e=>hp ?_) h1
   rw [lenR_eq,lenR_eq,h4,zab]
   show id∈fsts (Nat.sub (mn.length+(T (i+d)).m.length) (T (i+d)).m.length) (mn++(T (i+d)).m)
   rw [show Nat.sub (mn.length+(T (i+d)).m.length) (T (i+d)).m.length=mn.length from Nat.add_sub_cancel _ _,←e]
   exact fsts_mem hq
theorem rel_at{ρ:Nat→Ad}{S S2:St}{F:Nat→Value}{w:World}(h:Rel C w0 S0 ρ S F w)(ha:∀t,S2.at t=S.at t)(hH:S2.H=S.H):Rel C w0 S0 ρ S2 F w:=by
 refine⟨?_,fun t v hv=>h.fr t v (by rw [←ha];exact hv),fun t=>by rw [ha,hH];exact h.fo t, ?_, ?_⟩
 ·rw [hH];exact h.gl
 ·rw [hH];exact h.ho
 ·rw [hH];exact h.mem
theorem footV_lt{v:SV}{n id:Nat}(h:v.ok n)(hid:id∈avq v):id<n:=by
 unfold avq at hid
 split at hid
 all_goals first|(cases hid;done)|(have e:=List.mem_singleton.1 hid;subst e;exact h _ (List.mem_singleton.2 rfl))
theorem footO_mem{ev:Operand→SV}{op:Op}{id:Nat}(h:id∈footO ev op):∃x∈op.operands,id∈avq (ev x):=by
 have key:∀l:List Operand,id∈footL ev l→∃x∈l,id∈avq (ev x):=by
  intro l
  induction l with
  |nil=>intro h;cases h
  |cons x l ih=>
   intro h
   rcases List.mem_append.1 (show id∈avq (ev x)++footL ev l from h)with h|h
   ·exact⟨x,zak,h⟩
   ·obtain⟨y,h1,h2⟩:=ih h
    exact⟨y,zaf _ h1,h2⟩
 cases op<;>first|(cases h;done)|skip
 case load t x=>exact⟨x,by simp [zaB],h⟩
 case indexAddr t x ix=>exact⟨x,by simp [zaB],h⟩
 case convert s t x=>exact⟨x,by simp [zaB],h⟩
 case call c=>
  obtain⟨x,h1,h2⟩:=key _ h
  refine⟨x, ?_,h2⟩
  simp only [zaB,Call.operands,Array.mem_append]
  exact .inr (by simpa using h1)
theorem min_mem:∀{U:List Nat},U≠[]→∃i∈U,∀j∈U,i≤j
 |[x],_=>⟨x,zak,fun j hj=>by rw [List.mem_singleton.1 hj];exact zao _⟩
 |x::y::U,_=>by
  obtain⟨i,h1,h2⟩:=min_mem (U:=y::U) (by simp)
  by_cases h:x≤i
  ·exact⟨x,zak,fun j hj=>(List.mem_cons.1 hj).elim (fun e=>by rw [e];exact zao _) fun hj=>zaF h (h2 j hj)⟩
  ·exact⟨i,zaf _ h1,fun j hj=>(List.mem_cons.1 hj).elim (fun e=>by rw [e];omega) (h2 j)⟩
theorem ltakeN_eq{α:Type}:∀(l:List α) (k:Nat),ast l k=l.take k
 |[],k=>by simp [ast]
 |x::l,0=>rfl
 |x::l,k+1=>by simp [ast,ltakeN_eq l k]
theorem drawK_shape{ops:Array Oper}:∀{k j:Nat},drawK ops k=some j→atl ops j=true
 |0,j,h=>by
  unfold drawK at h
  have h:=aas h
  cases h.2;exact h.1
 |k+1,j,h=>by
  unfold drawK at h
  have h:=aas h
  have h2:=h.2
  split at h2
  ·rename_i i hi;cases h2;exact drawK_shape hi
  ·cases h2;exact h.1
theorem wrO_nd:∀{l:List Oper},(wrO l).Nodup→∀(i j:Nat) (o o2:Oper) (t:Nat),l[i]? =some o→l[j]? =some o2→o.dst=some t→o2.dst=some t→i=j
 |[],_,i,j,o,o2,t,hi=>by simp at hi
 |x::l,h,i,j,o,o2,t,hi=>by
  intro hj hd hd2
  have hw:∀(i:Nat) (o:Oper),l[i]? =some o→o.dst=some t→t∈wrO l:=by
   intro i o hi hd
   have hm:∀{l:List Oper},o∈l→t∈wrO l:=by
    intro l
    induction l with
    |nil=>intro h;cases h
    |cons y l ih=>
     intro h
     rw [wrO_cons]
     rcases List.mem_cons.1 h with rfl|h
     ·exact .inl hd
     ·exact .inr (ih h)
   exact hm (List.mem_of_getElem? hi)
  have h2:(wrO l).Nodup∧(x.dst=some t→t∉wrO l):=by
   simp only [wrO]at h
   cases hx:x.dst with
   |none=>rw [hx]at h;exact⟨h,fun e=>by cases e⟩
   |some d=>
    rw [hx]at h
    simp only [List.nodup_cons]at h
    exact⟨h.2,fun e=>by cases e;exact h.1⟩
  cases i with
  |zero=>
   have hi:x=o:=by simpa using hi
   subst hi
   cases j with
   |zero=>rfl
   |succ j=>exact absurd (hw j o2 (by simpa using hj) hd2) (h2.2 hd)
  |succ i=>
   cases j with
   |zero=>
    have hj:x=o2:=by simpa using hj
    subst hj
    exact absurd (hw i o (by simpa using hi) hd) (h2.2 hd2)
   |succ j=>
    have:=wrO_nd h2.1 i j o o2 t (by simpa using hi) (by simpa using hj) hd hd2
    omega
end
open Go.Wk
open Go.Ce (Tr)
open Bool renaming and_eq_true → zai
open List renaming eq_nil_of_length_eq_zero → zap, length_take → zaE, mem_append_left → zbd, mem_append_right → zaY, nil_append → zax
open Nat renaming blt → zbh, le_refl → zao, lt_of_lt_of_le → zbr, zero_add → zbc, zero_le → zah
section
variable {C : Cx} {md : Md} {w0 : World} {S0 : List Nat} {GS : Glo}
variable {ops : Array Oper} {l : List Oper} {T : Nat → St} {es : List (Bool × List Nat)} {k : Nat}
structure Mid (C:Cx) (l:List Oper) (T:Nat→St) (listed:Array Bool) (X:St):Prop where
 at1:∀(t j:Nat) (o:Oper),l[j]? =some o→o.dst=some t→X.at t=if listed.getD j false=true then(T (j+1)).at t else(T 0).at t
 at2:∀t,(∀(j:Nat) (o:Oper),l[j]? =some o→o.dst≠some t)→X.at t=(T 0).at t
 nb:X.nb=(T 0).nb
 al:X.al=(T 0).al
 hv:∃h,h≤l.length∧X.H=(T h).H∧X.m=(T h).m∧∀(j:Nat) (o:Oper),l[j]? =some o→qt C o.op=false→(listed.getD j false=true↔j<h)
theorem drawn_mid(hE:Env C md w0 S0 GS)(hmd:md=⟨md.n,[],none⟩)(hl:l=ops.toList.take k)(hk:k≤ops.size)(hsh:atl ops k=true)(hseq:Region.seqB .any ops (ops.size-k) k (List.replicate k true++List.replicate (ops.size-k) false).toArray=true)
  (hb:backE l 0=true) (hop:opndsOk ops.toList (ancs l []) l l 0=true) (hW:Way C ops.toList l T es) (hmem:memOk (ancs l []) es es 0=true) {Q:Exit→Act→World→Prop} {ρ0:Nat→Ad} {F0:Nat→Value}
  (hend:∀X ρ F w,Rel C w0 S0 ρ X F w→Nx (T 0) ρ0 X ρ→(∀t,X.at t=(T l.length).at t)→X.H=(T l.length).H→X.nb=(T l.length).nb→X.al=(T l.length).al→X.m=(T l.length).m→(∀t,t∉wrO l→F t=F0 t)→W C.P md ops Q (ops.toList.drop k) F w):
  ∀(f:Nat) (U:List Nat) (listed:Array Bool) (X:St) (ρ:Nat→Ad) (F:Nat→Value) (w:World),U.length=f→U.Nodup→(∀i,i∈U↔i<k∧listed.getD i false=false)→HeadInv .any ops k listed→Mid C l T listed X→Rel C w0 S0 ρ X F w→Nx (T 0) ρ0 X ρ→(∀t,t∉wrO l→F t=F0 t)→
   wpPre C.P .any ops Q (fun _ _ _=>True) k (fun a w=>wpList C.P ops Q (ops.toList.drop k) a w) f listed (fr md F) w:=by
 have hlen:l.length=k:=by rw [hl,zaE,Array.length_toList];exact Nat.min_eq_left hk
 have hget:∀i,i<k→∃o,l[i]? =some o∧ops[i]? =some o:=by
  intro i hi
  have hio:i<ops.size:=zbr hi hk
  refine⟨ops[i], ?_,Array.getElem?_eq_getElem hio⟩
  have e:l[i]? =ops.toList[i]? :=by rw [hl,List.getElem?_take,if_pos hi]
  rw [e,Array.getElem?_toList]
  exact Array.getElem?_eq_getElem hio
 have hWn:∀{F:Nat→Value} {w:World},W C.P md ops Q (ops.toList.drop k) F w→wpList C.P ops Q (ops.toList.drop k) (fr md F) w:=by
  intro F w h
  unfold W WR at h
  rw [hmd]at h
  rw [hmd];exact h
 intro f
 induction f with
 |zero=>
  intro U listed X ρ F w hU hnd hmU inv hM hR hN hF
  have hU0:U=[]:=zap hU
  have hall:∀i,i<k→listed.getD i false=true:=by
   intro i hi
   cases hg:listed.getD i false with
   |true=>rfl
   |false=>have:=(hmU i).2 ⟨hi,hg⟩;rw [hU0]at this;cases this
  have hlist:listed=(List.replicate k true++List.replicate (ops.size-k) false).toArray:=by
   apply Array.ext
   ·rw [inv.size];simp;omega
   ·intro i h1 h2
    rw [inv.size]at h1
    by_cases hik:i<k
    ·have:=hall i hik
     have e:listed.getD i false=listed[i]:=by simp [Array.getD,inv.size,h1]
     rw [e]at this
     rw [this]
     simp [List.getElem_append,hik]
    ·have:=inv.tail i (by omega) h1
     have e:listed.getD i true=listed[i]:=by simp [Array.getD,inv.size,h1]
     rw [e]at this
     rw [this]
     simp [List.getElem_append,hik]
  refine⟨by rw [hlist];exact hseq,hWn ?_⟩
  obtain⟨h,h1,h2,h3,h4⟩:=hM.hv
  have hst:=hW.still (l.length-h) h (by omega) (fun j o hj1 hj2 hj=>by
   cases hq:qt C o.op with
   |true=>rfl
   |false=>
    have hjl:=(List.getElem?_eq_some_iff.1 hj).1
    have:=(h4 j o hj hq).1 (hall j (by omega))
    omega)
  rw [show h+(l.length-h)=l.length by omega]at hst
  have hnb:=hW.nb l.length (zao _)
  refine hend X ρ F w hR hN (fun t=> ?_) (h2.trans hst.1.symm) (hM.nb.trans hnb.1.symm) (hM.al.trans hnb.2.symm) (h3.trans hst.2.symm) hF
  obtain⟨h5,h6⟩:=hW.at t l.length (zao _)
  by_cases hw:∃(j:Nat) (o:Oper),l[j]? =some o∧o.dst=some t
  ·obtain⟨j,o,hj,hd⟩:=hw
   have hjl:=(List.getElem?_eq_some_iff.1 hj).1
   rw [hM.at1 t j o hj hd,h5 j o hj hd,if_pos (hall j (by omega)),if_pos hjl]
  ·have hn:∀(j:Nat) (o:Oper),l[j]? =some o→o.dst≠some t:=fun j o hj hd=>hw ⟨j,o,hj,hd⟩
   rw [hM.at2 t hn,h6 hn]
 |succ f ih=>
  intro U listed X ρ F w hU hnd hmU inv hM hR hN hF
  have hUne:U≠[]:=fun e=>by rw [e]at hU;cases hU
  obtain⟨i0,hi0,hmin⟩:=min_mem hUne
  have hi0k:=(hmU i0).1 hi0
  refine⟨fun he=> ?_,fun i hi=> ?_⟩
  ·
   obtain⟨o,ho,ho2⟩:=hget i0 hi0k.1
   have:i0∈Region.ready .any ops listed:=by
    refine mem_ready.2 ⟨getD_in (by rw [inv.size];omega) hi0k.2,o,ho2,fun e he2 hbd=> ?_⟩
    have h1:=backE_of hb i0 o ho e he2 hbd
    cases hg:listed.getD e.on false with
    |true=>rfl
    |false=>
     have h2:=(hmU e.on).2 ⟨by omega,hg⟩
     have:=hmin e.on h2
     omega
   rw [he]at this;cases this
  ·obtain⟨hun,o,ho2,hall⟩:=mem_ready.1 hi
   have hunf:listed.getD i false=false:=getD_both hun
   have hik:i<k:=by
    by_cases hik:i<k
    ·exact hik
    ·exact absurd hi (shape_ready hsh hi0k.1 listed inv (getD_in (by rw [inv.size];omega) hi0k.2) i (by omega))
   refine⟨hik, ?_⟩
   obtain⟨o',ho,ho3⟩:=hget i hik
   rw [ho2]at ho3
   cases ho3
   have hiu:i∈U:=(hmU i).2 ⟨hik,hunf⟩
   obtain⟨hadv,hent⟩:=hW.st i o ho
   have hup:∀j∈aru (ancs l []) i,listed.getD j false=true:=anc_listed hl hb inv i o ho hall
   have hdn:∀(j:Nat),j<k→listed.getD j false=true→i∉aru (ancs l []) j:=by
    intro j hj hlj hm
    obtain⟨oj,hoj,hoj2⟩:=hget j hj
    have:=anc_listed hl hb inv j oj hoj (fun e he hbd=>inv.closed j oj hoj2 hlj e he hbd) i hm
    rw [hunf]at this;cases this
   have hlt:∀j∈aru (ancs l []) i,j<i:=fun j hj=>anc_lt hb i j hj
   have hslot:∀t,t∈opndS o.op.operands.toList++gslot ops.toList o→X.at t=(T i).at t:=by
    intro t ht
    obtain⟨h5,h6⟩:=hW.at t i (by omega)
    by_cases hw:∃(j:Nat) (o:Oper),l[j]? =some o∧o.dst=some t
    ·obtain⟨j,oj,hj,hd⟩:=hw
     have hjl:=(List.getElem?_eq_some_iff.1 hj).1
     rw [hM.at1 t j oj hj hd,h5 j oj hj hd]
     have h7:=opndsOk_of hop i o ho
     rw [zbc]at h7
     have h8:=opndOk_of h7 j oj t hj hd ht
     rw [zbc]at h8
     rcases h8 with rfl|h8
     ·rw [hunf,if_neg (by simp),if_neg (by omega)]
     ·unfold ordd at h8
      cases hm:avk i (aru (ancs l []) j)with
      |true=>
       have hm:=aiw.1 hm
       have hij:=anc_lt hb j i hm
       have:listed.getD j false=false:=by
        cases hg:listed.getD j false with
        |false=>rfl
        |true=>exact absurd hm (hdn j (by omega) hg)
       rw [this,if_neg (by simp),if_neg (by omega)]
      |false=>
       rw [hm]at h8
       have hm2:=aiw.1 (show avk j (aru (ancs l []) i)=true from h8)
       rw [hup j hm2,if_pos rfl,if_pos (hlt j hm2)]
    ·have hn:∀(j:Nat) (o:Oper),l[j]? =some o→o.dst≠some t:=fun j o hj hd=>hw ⟨j,o,hj,hd⟩
     rw [hM.at2 t hn,h6 hn]
   have hopd:∀t,Operand.tmp t∈o.op.operands→X.at t=(T i).at t:=fun t ht=>hslot t (zbd _ (opndS_mem.2 (by simpa using ht)))
   have hgs:∀t∈gslot ops.toList o,X.at t=(T i).at t:=fun t ht=>hslot t (zaY _ ht)
   obtain⟨h,hh1,hh2,hh3,hh4⟩:=hM.hv
   have hnbi:=hW.nb i (by omega)
   have hbet:∀(j:Nat) (oj:Oper),l[j]? =some oj→qt C oj.op=false→((h≤j∧j<i)∨(i≤j∧j<h))→j≠i→ordd (ancs l []) i j=false:=by
    intro j oj hj hq hcase hji
    have hjl:=(List.getElem?_eq_some_iff.1 hj).1
    unfold ordd
    rcases hcase with⟨h1,h2⟩|⟨h1,h2⟩
    ·have hnl:listed.getD j false=false:=by
      cases hg:listed.getD j false with
      |false=>rfl
      |true=>have:=(hh4 j oj hj hq).1 hg;omega
     have e1:avk i (aru (ancs l []) j)=false:=by
      cases hm:avk i (aru (ancs l []) j)with
      |false=>rfl
      |true=>have:=anc_lt hb j i (aiw.1 hm);omega
     have e2:avk j (aru (ancs l []) i)=false:=by
      cases hm:avk j (aru (ancs l []) i)with
      |false=>rfl
      |true=>have:=hup j (aiw.1 hm);rw [hnl]at this;cases this
     rw [e1,e2];rfl
    ·have hlj:listed.getD j false=true:=(hh4 j oj hj hq).2 h2
     have e1:avk i (aru (ancs l []) j)=false:=by
      cases hm:avk i (aru (ancs l []) j)with
      |false=>rfl
      |true=>exact absurd (aiw.1 hm) (hdn j (by omega) hlj)
     have e2:avk j (aru (ancs l []) i)=false:=by
      cases hm:avk j (aru (ancs l []) i)with
      |false=>rfl
      |true=>have:=hlt j (aiw.1 hm);omega
     rw [e1,e2];rfl
   have hmo:∀(j:Nat) (oj:Oper) (p:Bool×List Nat),l[j]? =some oj→es[j]? =some p→p.1=true→j≠i→ordd (ancs l []) i j=false→(entry C (T i) (T (i+1)) o).1=false∧∀x∈(entry C (T i) (T (i+1)) o).2,x∉p.2:=by
    intro j oj p hj hp hp1 hji hord
    have h1:=memOk_of hmem i _ hent
    rw [zbc]at h1
    have h2:=memOk1_of h1 j p hp (by omega) (by rw [zbc];exact hord) hp1
    exact h2
   have hpq:∀(j:Nat) (oj:Oper) (p:Bool×List Nat),l[j]? =some oj→es[j]? =some p→p.1= !(qt C oj.op):=by
    intro j oj p hj hp
    obtain⟨_,h1⟩:=hW.st j oj hj
    rw [hp]at h1
    cases h1
    unfold entry
    cases qt C oj.op<;>rfl
   have hheavy:qt C o.op=false→X.H=(T i).H∧X.m=(T i).m:=by
    intro hq
    have he1:(entry C (T i) (T (i+1)) o).1=true:=by unfold entry;rw [hq];rfl
    have none:∀(j:Nat) (oj:Oper),l[j]? =some oj→((h≤j∧j<i)∨(i<j∧j<h))→qt C oj.op=true:=by
     intro j oj hj hc
     cases hqj:qt C oj.op with
     |true=>rfl
     |false=>
      exfalso
      have hjl:=(List.getElem?_eq_some_iff.1 hj).1
      obtain⟨p,hp⟩:∃p,es[j]? =some p:=⟨_,(hW.st j oj hj).2⟩
      have hji:j≠i:=by omega
      have hord:=hbet j oj hj hqj (by omega) hji
      have:=(hmo j oj p hj hp (by rw [hpq j oj p hj hp,hqj];rfl) hji hord).1
      rw [he1]at this;cases this
    have hih:¬i<h:=fun hlt2=>by
     have:=(hh4 i o ho hq).2 hlt2
     rw [hunf]at this;cases this
    have:=hW.still (i-h) h (by omega) (fun j oj h1 h2 hj=>none j oj hj (.inl ⟨h1,by omega⟩))
    rw [show h+(i-h)=i by omega]at this
    exact⟨hh2.trans this.1.symm,hh3.trans this.2.symm⟩
   have hquiet:qt C o.op=true→Agr (T i).H X.H (footO ((T i).ev C) o.op):=by
    intro hq id hid o2 hg
    have he2:(entry C (T i) (T (i+1)) o).2=footO ((T i).ev C) o.op:=by unfold entry;rw [hq];rfl
    rw [hh2]
    have far:∀(j:Nat) (oj:Oper) (p:Bool×List Nat),((h≤j∧j<i)∨(i≤j∧j<h))→l[j]? =some oj→es[j]? =some p→p.1=true→id∉p.2:=by
     intro j oj p hc hj hp hp1
     have hqj:qt C oj.op=false:=by
      have:=hpq j oj p hj hp
      rw [hp1]at this
      cases hqj:qt C oj.op with
      |false=>rfl
      |true=>rw [hqj]at this;cases this
     have hji:j≠i:=fun e=>by
      subst e
      rw [ho]at hj
      cases hj
      rw [hq]at hqj;cases hqj
     have hord:=hbet j oj hj hqj hc hji
     exact(hmo j oj p hj hp hp1 hji hord).2 id (by rw [he2];exact hid)
    by_cases hhi:h≤i
    ·
     have hlt2:id<(T h).H.length:=by
      obtain⟨x,hx,hfx⟩:=footO_mem hid
      have hev:X.ev C x=(T i).ev C x:=by
       cases x with
       |tmp t=>show(bif zbh t C.nn then X.at t else .u')=(bif zbh t C.nn then(T i).at t else .u');rw [hopd t hx]
       |_=>rfl
      have hok:=(awz hR hE.n x).1
      rw [hev,hh2]at hok
      exact footV_lt hok hfx
     obtain⟨o3,ho3⟩:∃o3,ams (T h).H id=some o3:=by rw [abm];exact⟨_,List.getElem?_eq_getElem hlt2⟩
     have:=hW.keep (i-h) h (by omega) (fun j oj p h1 h2 hj hp hp1=>far j oj p (.inl ⟨h1,by omega⟩) hj hp hp1) ho3
     rw [show h+(i-h)=i by omega,hg]at this
     rw [ho3,this]
    ·have:=hW.keep (h-i) i (by omega) (fun j oj p h1 h2 hj hp hp1=>far j oj p (.inr ⟨h1,by omega⟩) hj hp hp1) hg
     rw [show i+(h-i)=h by omega]at this
     exact this
   obtain⟨X3,hadv3,hat3,hnb3,hal3,hq3,hh3'⟩:=adv_move hadv hopd hgs (hM.nb.trans hnbi.1.symm) (hM.al.trans hnbi.2.symm) hquiet (fun hq=>(hheavy hq).1)
   have inv':=inv.set hi hik
   have hsize:i<listed.size:=by rw [inv.size];omega
   have hget1:∀j,(listed.setIfInBounds i true).getD j false=if j=i then true else listed.getD j false:=by
    intro j
    simp only [Array.getD_eq_getD_getElem?,Array.getElem?_setIfInBounds]
    by_cases e:i=j
    ·subst e;simp [hsize]
    ·rw [if_neg e,if_neg (fun h=>e h.symm)]
   have hW1:W C.P md ops (Exit.then (fun a' w'=>True∧wpPre C.P .any ops Q (fun _ _ _=>True) k (fun a w=>wpList C.P ops Q (ops.toList.drop k) a w) f (listed.setIfInBounds i true) a' w') Q) [o] F w:=by
    refine adv_step hE hadv3 hR _ [] fun ρ2 F2 w2 hR2 hN2 hf2 _=>w_nil ⟨trivial, ?_⟩
    refine ih (U.erase i) (listed.setIfInBounds i true) X3 ρ2 F2 w2 (by rw [List.length_erase_of_mem hiu,hU];rfl) (hnd.erase i) (fun j=> ?_) inv' ?_ hR2 (hN.trans hN2) (fun t ht=> ?_)
    ·rw [hnd.mem_erase_iff,hmU,hget1]
     constructor
     ·rintro⟨h1,h2,h3⟩;rw [if_neg h1];exact⟨h2,h3⟩
     ·rintro⟨h1,h2⟩
      by_cases e:j=i
      ·rw [if_pos e]at h2;cases h2
      ·rw [if_neg e]at h2;exact⟨e,h1,h2⟩
    ·refine⟨fun t j oj hj hd=> ?_,fun t hn=> ?_,hnb3.trans hnbi.1,hal3.trans hnbi.2, ?_⟩
     ·rw [hat3 t,hget1]
      by_cases e:j=i
      ·subst e
       rw [ho]at hj
       cases hj
       rw [if_pos hd,if_pos rfl,if_pos rfl]
      ·have hne:¬o.dst=some t:=fun e2=>e (hW.nd j i oj o t hj ho hd e2)
       rw [if_neg hne,if_neg e]
       exact hM.at1 t j oj hj hd
     ·rw [hat3 t,if_neg (hn i o ho)];exact hM.at2 t hn
     ·cases hq:qt C o.op with
      |true=>
       obtain⟨h1,h2⟩:=hq3 hq
       refine⟨h,hh1,h1.trans hh2,h2.trans hh3,fun j oj hj hqj=> ?_⟩
       rw [hget1]
       have hji:j≠i:=fun e=>by
        subst e
        rw [ho]at hj
        cases hj
        rw [hq]at hqj;cases hqj
       rw [if_neg hji]
       exact hh4 j oj hj hqj
      |false=>
       obtain⟨h1,h2⟩:=hh3' hq
       obtain⟨mn,h3,_⟩:=adv_chg hadv
       refine⟨i+1,by omega,h1, ?_,fun j oj hj hqj=> ?_⟩
       ·rw [h2 mn h3,(hheavy hq).2,h3]
       ·rw [hget1]
        have hjl:=(List.getElem?_eq_some_iff.1 hj).1
        by_cases hji:j=i
        ·subst hji;simp
        ·rw [if_neg hji,hh4 j oj hj hqj]
         have hih:¬i<h:=fun hlt2=>by
          have:=(hh4 i o ho hq).2 hlt2
          rw [hunf]at this;cases this
         constructor
         ·intro h4;omega
         ·intro h4
          by_cases hjh:j<h
          ·exact hjh
          ·exfalso
           obtain⟨p,hp⟩:∃p,es[j]? =some p:=⟨_,(hW.st j oj hj).2⟩
           have hord:=hbet j oj hj hqj (.inl ⟨by omega,by omega⟩) hji
           have:=(hmo j oj p hj hp (by rw [hpq j oj p hj hp,hqj];rfl) hji hord).1
           unfold entry at this
           rw [hq]at this
           cases this
    ·have hti:o.dst≠some t:=fun e=>ht (by
      have hm:∀{l:List Oper},o∈l→t∈wrO l:=by
       intro l
       induction l with
       |nil=>intro h;cases h
       |cons y l ih=>
        intro h
        rw [wrO_cons]
        rcases List.mem_cons.1 h with rfl|h
        ·exact .inl e
        ·exact .inr (ih h)
      exact hm (List.mem_of_getElem? ho))
     rw [hf2 t hti,hF t ht]
   unfold W WR at hW1
   rw [hmd]at hW1⊢
   refine wpOp_mono ?_ (op_of_list ho2 hW1)
   rintro a' w' ⟨_,h2⟩
   exact⟨trivial,h2⟩
theorem wrO_mem{t:Nat}:∀{l:List Oper},t∈wrO l↔∃o∈l,o.dst=some t
 |[]=>by simp [wrO]
 |x::l=>by rw [wrO_cons,wrO_mem (l:=l)];simp
theorem nx_as{S X Y:St}{ρ ρ2:Nat→Ad}(h:Nx S ρ X ρ2)(hH:Y.H=X.H)(hnb:Y.nb=X.nb)(hal:Y.al=X.al)(hm:Y.m=X.m):Nx S ρ Y ρ2:=
 ⟨⟨hnb.trans h.nb,hal.trans h.al,by rw [hH];exact h.le⟩,by rw [hH,hm];exact h.lg,fun id j hc=>by rw [hm];exact h.mm id j hc⟩
theorem drawn_ok(hE:Env C md w0 S0 GS)(hmd:md=⟨md.n,[],none⟩){id:Nat}{ops:Array Oper}:RegOk C md w0 S0 id ops true:=by
 intro ρ' S κ r ρ F w Q h hS hk
 have h:drawnD C ops S κ=some r:=h
 unfold drawnD at h
 have h:=aas h
 have hm:=h.1
 have h:=h.2
 split at h
 ·rename_i k hkk
  have hsh:=drawK_shape hkk
  have hks:k≤ops.size:=by
   simp only [atl,zai,decide_eq_true_eq]at hsh
   exact hsh.1.2
  have h:=aas h
  have hseq:=h.1
  have h:=aas h.2
  have hb:=h.1
  have h:=aas h.2
  have hnd:=nodN_iff.1 h.1
  have h:=aas h.2
  have hop:=h.1
  obtain⟨T,es,hT0,hst,hfin⟩:=opsT_path _ _ _ _ h.2
  rw [zax]at hfin
  have hfin:=aas hfin
  have hmem:=hfin.1
  have hfin:=hfin.2
  have hl:ast ops.toList k=ops.toList.take k:=ltakeN_eq _ _
  have hW:Way C ops.toList (ast ops.toList k) T es:=⟨hst,wrO_nd hnd⟩
  have hend:∀X ρ2 F2 w2,Rel C w0 S0 ρ2 X F2 w2→Nx (T 0) ρ X ρ2→(∀t,X.at t=(T (ast ops.toList k).length).at t)→X.H=(T (ast ops.toList k).length).H→X.nb=(T (ast ops.toList k).length).nb→X.al=(T (ast ops.toList k).length).al→X.m=(T (ast ops.toList k).length).m→(∀t,t∉wrO (ast ops.toList k)→F2 t=F t)→W C.P md ops Q (ops.toList.drop k) F2 w2:=by
   intro X ρ2 F2 w2 hR hN hat hH hnb hal hm2 hF
   rw [ldrop_eq]at hfin
   refine opsD_ok hE (ops.toList.drop k) k _ ρ2 F2 w2 rfl hfin (rel_at hR (fun t=>(hat t).symm) hH.symm) fun S2 ρ3 F3 w3 h1 h2 h3 h4 h5=> ?_
   rw [hT0]at hN
   refine hk S2 ρ3 F3 w3 h1 h2 ((nx_as hN hH.symm hnb.symm hal.symm hm2.symm).trans h3) (fun t ht=> ?_) (aqr rfl)
   have e:ops.toList=ast ops.toList k++ops.toList.drop k:=by rw [hl,List.take_append_drop]
   have hn1:t∉wrO (ast ops.toList k):=fun hh=>ht (by
    obtain⟨o,ho,hd⟩:=wrO_mem.1 hh
    exact wrO_mem.2 ⟨o,by rw [e];exact zbd _ ho,hd⟩)
   have hn2:t∉wrO (ops.toList.drop k):=fun hh=>ht (by
    obtain⟨o,ho,hd⟩:=wrO_mem.1 hh
    exact wrO_mem.2 ⟨o,List.mem_of_mem_drop ho,hd⟩)
   rw [h4 t hn2,hF t hn1]
  have inv0:HeadInv .any ops k (Array.replicate ops.size false):=
   ⟨by simp,fun j oj _ hl=>(by rw [getD_replicate_false]at hl;cases hl),fun t _ ht=>getD_in (by simpa using ht) (getD_replicate_false _ _)⟩
  have hM0:Mid C (ast ops.toList k) T (Array.replicate ops.size false) (T 0):=by
   refine⟨fun t j o _ _=> ?_,fun t _=>rfl,rfl,rfl,0,zah _,rfl,rfl,fun j o _ _=> ?_⟩
   ·rw [getD_replicate_false,if_neg (by simp)]
   ·rw [getD_replicate_false];simp
  have hlen:(ast ops.toList k).length=k:=by rw [hl,zaE,Array.length_toList];exact Nat.min_eq_left hks
  have hpre:∀w',Rel C w0 S0 ρ (T 0) F w'→wpPre C.P .any ops Q (fun _ _ _=>True) k (fun a w=>wpList C.P ops Q (ops.toList.drop k) a w) k (Array.replicate ops.size false) (fr md F) w':=fun w' hR=>
   drawn_mid hE hmd hl hks hsh hseq hb hop hW hmem hend k (List.range k) _ _ _ _ _ List.length_range List.nodup_range (fun i=>by rw [List.mem_range,getD_replicate_false];simp) inv0 hM0 hR Nx.refl (fun _ _=>rfl)
  unfold Go.Wk.C CC
  rw [hmd]
  refine wp_region_any hm ?_
  have hR1:Rel C w0 S0 ρ (T 0) F {w with drawn:=w.drawn+1}:=by
   rw [hT0]
   refine⟨hS.gl,hS.fr,hS.fo,hS.ho, ?_⟩
   obtain⟨L,hH,hM⟩:=hS.mem
   exact⟨L,hH.drewn,hM⟩
  have h1:=hpre _ hR1
  have h2:=pre_any (S:=fun _ _ _=>True) hks (fun a w h=>h) k _ _ _ h1
  rw [show k+(ops.size-k)=ops.size by omega,hmd]at h2
  exact h2
 ·cases h
end
open Go.Wk
open Go.Ce (Tr)
open List renaming append_assoc → zal, append_nil → zam, drop_zero → zbs, length_append → zab, length_cons → zad, length_nil → zaj, map_append → zaV, map_cons → zaI, mem_append_left → zbd, mem_append_right → zaY, mem_cons_of_mem → zaf, mem_cons_self → zak
open Nat renaming add_comm → zaX, add_zero → zaP, eq_of_beq_eq_true → zag, zero_add → zbc
theorem regs_ok{C:Cx}{md:Md}{w0:World}{S0:List Nat}{GS:Glo}(hE:Env C md w0 S0 GS)(hmd:md=⟨md.n,[],none⟩):∀c:Code,RegsOk C md w0 S0 c:=by
 intro c
 induction c with
 |region id ops d=>cases d with
  |false=>exact region_ok hE
  |true=>exact drawn_ok hE hmd
 |seq a b iha ihb=>exact⟨iha,ihb⟩
 |cond c a b iha ihb=>exact⟨iha,ihb⟩
 |block id a ih=>exact ih
 |loop a ih=>exact ih
 |scope a ih=>exact ih
 |_=>trivial
theorem hd1_cn{α:Type}{f:SC→Option α}{l r:List SC}{x:α}{ss:List Src}(h:hd1 f l=some (x,r,ss)):l.length=1+r.length:=by
 obtain⟨c,rfl,_,_⟩:=hd1_some h
 rw [zad,zaX]
theorem rd_cn(any:Bool)(H:List Ob):∀(t:Ty) (s:Nat) (l:List SC) (x:t.T) (r:List SC) (ss:List Src),t.rd any H s l=some (x,r,ss)→l.length=t.cn+r.length:=by
 intro t
 induction t with
 |w' t ih=>intro s l x r ss h;exact ih s l x r ss h
 |pr a b iha ihb=>
  intro s l x r ss h
  simp only [Ty.rd]at h
  split at h
  ·rename_i y1 l1 s1 hp
   split at h
   ·rename_i y2 l2 s2 hq
    cases h
    have h1:=iha s l y1 l1 s1 hp
    have h2:=ihb s l1 y2 _ s2 hq
    show l.length=a.cn+b.cn+r.length
    omega
   ·cases h
  ·cases h
 |i' k=>intro s l x r ss h;exact hd1_cn h
 |c'=>intro s l x r ss h;exact hd1_cn h
 |s'=>intro s l x r ss h;exact hd1_cn h
 |b'=>intro s l x r ss h;exact hd1_cn h
 |u'=>intro s l x r ss h;cases h;exact(zbc _).symm
 |sm a b _ _=>intro s l x r ss h;cases h
 |l' e b t ih=>
  intro s l x r ss h
  simp only [Ty.rd]at h
  split at h
  ·cases h;rw [zad,zaX];rfl
  ·split at h
   ·have h:=(aas (aas h).2).2
    split at h
    ·cases h;rw [zad,zaX];rfl
    ·cases h
   ·cases h
  ·split at h
   ·have h:=(aas (aas (aas h).2).2).2
    split at h
    ·cases h;rw [zad,zaX];rfl
    ·cases h
   ·cases h
  ·cases h
 |y'=>
  intro s l x r ss h
  simp only [Ty.rd]at h
  split at h
  ·split at h
   ·cases h;rw [zad,zaX];rfl
   ·cases h
  ·cases h
 |r' t ih=>
  intro s l x r ss h
  simp only [Ty.rd]at h
  split at h
  ·cases h;rw [zad,zaX];rfl
  ·split at h
   ·cases h;rw [zad,zaX];rfl
   ·cases h
  ·split at h
   ·split at h
    ·cases h;rw [zad,zaX];rfl
    ·cases h
   ·cases h
  ·cases h
 |p' e t ih=>
  intro s l x r ss h
  simp only [Ty.rd]at h
  split at h
  ·split at h
   ·have h:=(aas (aas h).2).2
    split at h
    ·cases h;rw [zad,zaX];rfl
    ·cases h
   ·cases h
  ·cases h
 |z'=>
  intro s l x r ss h
  simp only [Ty.rd]at h
  split at h
  ·have h:=(aas h).2
   cases h;rw [zad,zaX];rfl
  ·have h:=(aas (aas h).2).2
   cases h;rw [zad,zaX];rfl
  ·have h:=(aas h).2
   split at h
   ·cases h;rw [zad,zaX];rfl
   ·cases h
  ·cases h
 |o' j=>
  intro s l x r ss h
  simp only [Ty.rd]at h
  split at h
  ·have h:=(aas h).2
   cases h;rw [zad,zaX];rfl
  ·cases h
 |f' k t ih=>
  intro s l x r ss h
  simp only [Ty.rd]at h
  split at h
  ·have h:=(aas h).2
   split at h
   ·cases h;rw [zad,zaX];rfl
   ·cases h
  ·cases h
theorem putC_full:∀{l vs:List SC},vs.length=l.length→putC l 0 vs=some vs
 |[],[],_=>rfl
 |[],_::_,h=>by cases h
 |_::_,[],h=>by cases h
 |x::l,v::vs,h=>by
  simp only [putC,putC_full (l:=l) (vs:=vs) (by simpa using h)]
theorem ltake_all{α:Type}:∀(l:List α),ltake l l.length=some l
 |[]=>rfl
 |x::l=>by simp only [zad,ltake,ltake_all l]
def KR(n0:Nat)(H0 H1:List Ob)(E:List Nat)(al:List Rg):Rk→Prop
 |.r' _=>True
 |.o' id _ x=>id<n0∧(∀j,j<x.cn→cov id j al=true)∧∃e1 cs1,H1[id]? =some (.bl e1 cs1)
 |.w' id _=>id<n0∧cov id 0 al=true∧id∉E∧apn H0[id]? =true
section
variable {n0 : Nat} {H2 H0 H1 : List Ob} {ρ ρ2 ρ3 : Nat → Ad} {F2 : Nat → Value} {E : List Nat} {al : List Rg} {Fm : Tr SV} {done : List Src}
theorem PI.stepR(h:PI n0 H2 ρ ρ2 ρ3 F2 E H0 al Fm H1 done)(hln:Lns ρ2 H2)(hbr:Brk H2)(hn0:H0.length≤n0)(hup:Up n0 ρ2 ρ3){q:Rk}{v:q.ty.T}{vs vs2:List SV}{sk:List Src}(hr:q.rd H2 vs=some (v,sk,vs2))(hk:KR n0 H0 H1 E al q)
  (had:∀(j:Nat) (s:Src),sk[j]? =some s→ρ3 (H1.length+j)=s.ad ρ2) (l:List SA):PI n0 H2 ρ ρ2 ρ3 F2 E H0 al Fm (q.put (fun j=>j) (l,H1) v).2 (done++sk)∧
   ∃us:List Value,vs.map (SV.v ρ2)=us.map some++vs2.map (SV.v ρ2)∧(q.put (fun j=>j) (l,H1) v).1.map (SA.v ρ3)=l.map (SA.v ρ3)++us:=by
 cases q with
 |r' x=>
  cases vs with
  |nil=>cases hr
  |cons v0 vs=>
   simp only [Rk.rd]at hr
   split at hr
   ·rename_i y ss hy
    cases hr
    have hv:=rdV_ok hbr hy
    obtain⟨⟨u,h1,_,h2⟩,h3⟩:=hv.to ρ2 ρ3 H1.length had
    have hl:sk.length=(x.lay 0 H1.length v).2.length:=by rw [hv.no];exact(Ty.lay_no x 0 H1.length v).symm
    refine⟨h.app hln hbr hn0 hl had h3 (awq x 0 H1.length v),[u],by rw [zaI,h1];rfl, ?_⟩
    show(l++[x.sa (x.lay 0 H1.length v).1]).map _=_
    rw [zaV,List.map_singleton,h2]
   ·cases hr
 |o' id e x=>
  simp only [Rk.rd]at hr
  split at hr
  ·rename_i y ss hy
   cases hr
   obtain⟨h1,h2,e1,cs1,h3⟩:=hk
   unfold rdO at hy
   split at hy
   ·rename_i ee cs hb
    have hy:=aas hy
    have hee:=zag hy.1
    subst hee
    have hcn:=rd_cn false H2 x id cs _ _ _ (fulL_some hy.2)
    rw [zaj,zaP]at hcn
    have hrb:rdB H2 id 0 x=some (v,sk):=by
     unfold rdB
     rw [hb]
     simp only [ldrop_eq,zbs]
     rw [←hcn,ltake_all]
     exact hy.2
    have hP:=h.stepO hln hbr hn0 hup hrb h1 (fun j _ hj=>h2 j (by omega)) had
    rw [abm]at hb
    obtain⟨cs2,h4,h5,_⟩:=h.ba id _ h1 h3
    rw [hb]at h4
    cases h4
    have hpb:putB H1 id 0 x v=art H1 id (.bl e1 (x.lay id H1.length v).1)++(x.lay id H1.length v).2:=by
     unfold putB
     rw [abm,h3]
     simp only [putD]
     rw [putC_full ((Ty.lay_len x id H1.length v).trans (by omega))]
    rw [hpb]at hP
    exact⟨hP,[],rfl,by rw [zam];rfl⟩
   ·cases hy
  ·cases hr
 |w' id x=>
  simp only [Rk.rd]at hr
  split at hr
  ·rename_i y ss hy
   cases hr
   exact⟨h.stepW hln hbr hn0 hup hy hk.1 hk.2.1 hk.2.2.1 hk.2.2.2,[],rfl,by rw [zam];rfl⟩
  ·cases hr
theorem put_get{q:Rk}{v:q.ty.T}{l:List SA}{H1:List Ob}{id:Nat}{o:Ob}(h:id∉Rk.ids [q])(ho:H1[id]? =some o):(q.put (fun j=>j) (l,H1) v).2[id]? =some o:=by
 cases q with
 |r' x=>exact appL_get ho
 |o' j e x=>exact appL_get (by rw [avl (fun e=>h (by rw [←e];exact List.mem_singleton.2 rfl))];exact ho)
 |w' j x=>
  show(putW H1 j x v)[id]? =some o
  unfold putW
  split
  ·rw [avl (fun e=>h (by rw [←e];exact List.mem_singleton.2 rfl))];exact ho
  ·exact ho
theorem ids_cons{q:Rk}{r:List Rk}:Rk.ids (q::r)=Rk.ids [q]++Rk.ids r:=by cases q<;>rfl
theorem ids_mem{r:List Rk}{q:Rk}(h:q∈r){id:Nat}(hid:id∈Rk.ids [q]):id∈Rk.ids r:=by
 induction r with
 |nil=>cases h
 |cons x r ih=>
  rw [ids_cons]
  rcases List.mem_cons.1 h with rfl|h
  ·exact zbd _ hid
  ·exact zaY _ (ih h)
theorem PI.stepsR(hln:Lns ρ2 H2)(hbr:Brk H2)(hn0:H0.length≤n0)(hup:Up n0 ρ2 ρ3):∀(r:List Rk) (H1:List Ob) (done:List Src) (y:(resT r).T) (ss:List Src) (vs:List SV) (l:List SA),PI n0 H2 ρ ρ2 ρ3 F2 E H0 al Fm H1 done→rdR H2 r vs=some (y,ss)→(Rk.ids r).Nodup→
  (∀q∈r,KR n0 H0 H1 E al q)→(∀(j:Nat) (s:Src),ss[j]? =some s→ρ3 (H1.length+j)=s.ad ρ2)→PI n0 H2 ρ ρ2 ρ3 F2 E H0 al Fm (putR (fun j=>j) (l,H1) r y).2 (done++ss)∧
   ∃us:List Value,vs.map (SV.v ρ2)=us.map some∧(putR (fun j=>j) (l,H1) r y).1.map (SA.v ρ3)=l.map (SA.v ρ3)++us
 |[],H1,done,y,ss,vs,l,h,hr,_,_,_=>by
  cases vs with
  |nil=>cases hr;exact⟨by rw [zam];exact h,[],rfl,by rw [zam];rfl⟩
  |cons _ _=>cases hr
 |[q],H1,done,y,ss,vs,l,h,hr,_,hk,had=>by
  simp only [rdR]at hr
  split at hr
  ·rename_i x s1 hx
   cases hr
   obtain⟨h1,us,h2,h3⟩:=h.stepR hln hbr hn0 hup hx (hk q zak) had l
   exact⟨h1,us,by rw [h2,List.map_nil,zam],h3⟩
  ·cases hr
 |q::q2::r,H1,done,y,ss,vs,l,h,hr,hnd,hk,had=>by
  simp only [rdR]at hr
  split at hr
  ·rename_i x s1 vs2 hx
   split at hr
   ·rename_i z s2 hz
    cases hr
    obtain⟨h1,us,h2,h3⟩:=h.stepR hln hbr hn0 hup hx (hk q zak) (fun j s hj=>had j s (by rw [List.getElem?_append_left (List.getElem?_eq_some_iff.1 hj).1];exact hj)) l
    have e1:=h1.len
    have e2:=h.len
    rw [zab]at e1
    rw [ids_cons]at hnd
    obtain⟨hnd1,hnd2,hnd3⟩:=List.nodup_append.1 hnd
    obtain⟨h4,us2,h5,h6⟩:=PI.stepsR hln hbr hn0 hup (q2::r) _ _ z s2 vs2 (q.put (fun j=>j) (l,H1) x).1 h1 hz hnd2 (fun q3 hq3=>by
     have h7:=hk q3 (zaf _ hq3)
     cases q3 with
     |r' x=>trivial
     |o' id e x=>
      obtain⟨h8,h9,e3,cs3,h10⟩:=h7
      refine⟨h8,h9,e3,cs3,put_get (fun hh=> ?_) h10⟩
      exact hnd3 _ hh _ (ids_mem hq3 (List.mem_singleton.2 rfl)) rfl
     |w' id x=>exact h7) (fun j s hj=>by
     rw [show(q.put (fun j=>j) (l,H1) x).2.length+j=H1.length+(s1.length+j)by omega]
     exact had _ s (by rw [List.getElem?_append_right (by omega),←hj];congr 1;omega))
    rw [zal]at h4
    exact⟨h4,us++us2,by rw [h2,h5,zaV],by
     show(putR (fun j=>j) (q.put (fun j=>j) (l,H1) x) (q2::r) z).1.map _=_
     rw [h6,h3,zal]⟩
   ·cases hr
  ·cases hr
end
theorem wPut_row{m:Nat}:∀{x:Ty} {v:x.T},isRowT x=true→∃o,wPut m x v=some o:=by
 intro x
 cases x<;>intro v h<;>first|exact⟨_,rfl⟩|cases h
theorem putR_same:∀(r:List Rk) (y:(resT r).T) (l:List SA) (Hx Hy:List Ob),Hx.length=Hy.length→(∀id,lenH Hx id=lenH Hy id)→(∀id,id∉Rk.ids r→Hx[id]? =Hy[id]?)→(∀q∈r,∀id x,q=.w' id x→isRowT x=true)→
  putR (fun j=>j) (l,Hx) r y=putR (fun j=>j) (l,Hy) r y:=by
 have lenE:∀{Hx Hy:List Ob} {id:Nat} {o:Ob},Hx.length=Hy.length→(∀id,lenH Hx id=lenH Hy id)→∀k,lenH (art Hx id o) k=lenH (art Hy id o) k:=by
  intro Hx Hy id o hl hn k
  rw [atg,atg,aei,aei,hl]
  split
  ·rfl
  ·rw [←atg,←atg];exact hn k
 have appE:∀{Hx Hy B:List Ob},Hx.length=Hy.length→(∀id,lenH Hx id=lenH Hy id)→∀k,lenH (Hx++B) k=lenH (Hy++B) k:=by
  intro Hx Hy B hl hn k
  rw [atg,atg]
  by_cases hk:k<Hx.length
  ·rw [List.getElem?_append_left hk,List.getElem?_append_left (by omega),←atg,←atg];exact hn k
  ·rw [List.getElem?_append_right (by omega),List.getElem?_append_right (by omega),hl]
 have getE:∀{Hx Hy B:List Ob} {k:Nat},Hx.length=Hy.length→Hx[k]? =Hy[k]? →(Hx++B)[k]? =(Hy++B)[k]? :=by
  intro Hx Hy B k hl hg
  by_cases hk:k<Hx.length
  ·rw [List.getElem?_append_left hk,List.getElem?_append_left (by omega)];exact hg
  ·rw [List.getElem?_append_right (by omega),List.getElem?_append_right (by omega),hl]
 have one:∀(q:Rk) (v:q.ty.T) (l:List SA) (Hx Hy:List Ob) (N:List Nat),Hx.length=Hy.length→(∀id,lenH Hx id=lenH Hy id)→(∀id,id∉Rk.ids [q]→id∉N→Hx[id]? =Hy[id]?)→(∀id x,q=.w' id x→isRowT x=true)→
   (q.put (fun j=>j) (l,Hx) v).1=(q.put (fun j=>j) (l,Hy) v).1∧(q.put (fun j=>j) (l,Hx) v).2.length=(q.put (fun j=>j) (l,Hy) v).2.length∧(∀id,lenH (q.put (fun j=>j) (l,Hx) v).2 id=lenH (q.put (fun j=>j) (l,Hy) v).2 id)∧∀id,id∉N→(q.put (fun j=>j) (l,Hx) v).2[id]? =(q.put (fun j=>j) (l,Hy) v).2[id]? :=by
  intro q v l Hx Hy N hl hn hg hw
  cases q with
  |r' x=>
   show l++[x.sa (x.lay 0 Hx.length v).1]=l++[x.sa (x.lay 0 Hy.length v).1]∧(Hx++(x.lay 0 Hx.length v).2).length=(Hy++(x.lay 0 Hy.length v).2).length∧(∀id,lenH (Hx++(x.lay 0 Hx.length v).2) id=lenH (Hy++(x.lay 0 Hy.length v).2) id)∧∀id,id∉N→(Hx++(x.lay 0 Hx.length v).2)[id]? =(Hy++(x.lay 0 Hy.length v).2)[id]?
   rw [hl]
   exact⟨rfl,by simp [hl],appE hl hn,fun id hid=>getE hl (hg id (fun h=>by cases h) hid)⟩
  |o' i e x=>
   show l=l∧(art Hx i (.bl e (x.lay i Hx.length v).1)++(x.lay i Hx.length v).2).length=(art Hy i (.bl e (x.lay i Hy.length v).1)++(x.lay i Hy.length v).2).length∧(∀id,lenH (art Hx i (.bl e (x.lay i Hx.length v).1)++(x.lay i Hx.length v).2) id=lenH (art Hy i (.bl e (x.lay i Hy.length v).1)++(x.lay i Hy.length v).2) id)∧∀id,id∉N→(art Hx i (.bl e (x.lay i Hx.length v).1)++(x.lay i Hx.length v).2)[id]? =(art Hy i (.bl e (x.lay i Hy.length v).1)++(x.lay i Hy.length v).2)[id]?
   rw [hl]
   have hl2:∀o:Ob,(art Hx i o).length=(art Hy i o).length:=fun o=>by rw [amz,amz,hl]
   refine⟨rfl,by simp [hl2],appE (hl2 _) (lenE hl hn),fun id hid=>getE (hl2 _) ?_⟩
   rw [aei,aei,hl]
   by_cases hi:id=i
   ·subst hi
    by_cases hlt:id<Hy.length
    ·rw [if_pos ⟨rfl,hlt⟩,if_pos ⟨rfl,hlt⟩]
    ·rw [if_neg (fun h=>hlt h.2),if_neg (fun h=>hlt h.2),List.getElem?_eq_none (by omega),List.getElem?_eq_none (by omega)]
   ·rw [if_neg (fun h=>hi h.1),if_neg (fun h=>hi h.1)]
    exact hg id (fun h=>hi (List.mem_singleton.1 h)) hid
  |w' i x=>
   show l=l∧(putW Hx i x v).length=(putW Hy i x v).length∧(∀id,lenH (putW Hx i x v) id=lenH (putW Hy i x v) id)∧∀id,id∉N→(putW Hx i x v)[id]? =(putW Hy i x v)[id]?
   have hx:=hw i x rfl
   unfold putW
   rw [hn i]
   split
   ·rename_i o ho
    refine⟨rfl,by rw [amz,amz,hl],lenE hl hn,fun id hid=> ?_⟩
    rw [aei,aei,hl]
    by_cases hi:id=i
    ·subst hi
     by_cases hlt:id<Hy.length
     ·rw [if_pos ⟨rfl,hlt⟩,if_pos ⟨rfl,hlt⟩]
     ·rw [if_neg (fun h=>hlt h.2),if_neg (fun h=>hlt h.2),List.getElem?_eq_none (by omega),List.getElem?_eq_none (by omega)]
    ·rw [if_neg (fun h=>hi h.1),if_neg (fun h=>hi h.1)]
     exact hg id (fun h=>hi (List.mem_singleton.1 h)) hid
   ·rename_i hno
    exfalso
    obtain⟨o,ho⟩:=wPut_row (m:=lenH Hy i) (x:=x) (v:=v) hx
    have hno2:=hno.symm.trans ho
    cases hno2
 intro r
 induction r with
 |nil=>
  intro y l Hx Hy hl hn hg _
  have e:Hx=Hy:=List.ext_getElem? fun k=>hg k (fun h=>by cases h)
  rw [e]
 |cons q r ih=>
  intro y l Hx Hy hl hn hg hw
  cases r with
  |nil=>
   obtain⟨h1,h2,h3,h4⟩:=one q y l Hx Hy [] hl hn (fun id h _=>hg id h) (hw q zak)
   have e:(q.put (fun j=>j) (l,Hx) y).2=(q.put (fun j=>j) (l,Hy) y).2:=List.ext_getElem? fun k=>h4 k (fun h=>by cases h)
   exact Prod.ext h1 e
  |cons q2 r=>
   obtain⟨h1,h2,h3,h4⟩:=one q y.1 l Hx Hy (Rk.ids (q2::r)) hl hn (fun id h h2=>hg id (by rw [ids_cons];exact fun hh=>(List.mem_append.1 hh).elim h h2)) (hw q zak)
   have:=ih y.2 (q.put (fun j=>j) (l,Hx) y.1).1 (q.put (fun j=>j) (l,Hx) y.1).2 (q.put (fun j=>j) (l,Hy) y.1).2 h2 h3 h4 (fun q3 h5=>hw q3 (zaf _ h5))
   show putR (fun j=>j) (q.put (fun j=>j) (l,Hx) y.1) (q2::r) y.2=putR (fun j=>j) (q.put (fun j=>j) (l,Hy) y.1) (q2::r) y.2
   have e1:q.put (fun j=>j) (l,Hx) y.1=((q.put (fun j=>j) (l,Hx) y.1).1,(q.put (fun j=>j) (l,Hx) y.1).2):=rfl
   have e2:q.put (fun j=>j) (l,Hy) y.1=((q.put (fun j=>j) (l,Hx) y.1).1,(q.put (fun j=>j) (l,Hy) y.1).2):=by rw [h1]
   rw [e1,e2];exact this
open Go.Wk
open Go.Ce (Tr)
open List renaming append_assoc → zal, length_append → zab, length_cons → zad, mem_cons_of_mem → zaf, mem_cons_self → zak, nil_append → zax
open Nat renaming add_assoc → zaQ, eq_of_beq_eq_true → zag, le_refl → zao, one_pos → zbq, zero_le → zah
theorem layA_ok:∀(a:List Ty) (H0:List Ob) (x:(tupT a).T),noTz a=true→∃obs,(asc H0 a x).2=H0++obs∧(asc H0 a x).1.length=a.length∧(∀v∈(asc H0 a x).1,v.ok (H0.length+obs.length))∧∀(j e:Nat) (cs:List SC),obs[j]? =some (.bl e cs)→∀c∈cs,c.ok (H0.length+obs.length)
 |[],H0,x,h=>⟨[],by simp [asc],rfl,fun v hv=>by simp [asc]at hv,fun j e cs hj=>by simp at hj⟩
 |[t],H0,x,h=>by
  have ht:t.tz=false:=by
   simp only [noTz]at h
   cases hz:t.tz with
   |true=>rw [hz]at h;cases h
   |false=>rfl
  refine⟨(t.lay 0 H0.length x).2,rfl,rfl,fun v hm=> ?_,awq t 0 H0.length x⟩
  rw [List.mem_singleton.1 (show v∈[t.sv (t.lay 0 H0.length x).1]from hm)]
  exact Ty.sv_ok (avx t 0 H0.length x ht)
 |t::t2::a,H0,x,h=>by
  have ht:t.tz=false∧noTz (t2::a)=true:=by
   have h:(bif t.tz then false else noTz (t2::a))=true:=h
   cases hz:t.tz with
   |true=>rw [hz]at h;cases h
   |false=>rw [hz]at h;exact⟨rfl,h⟩
  obtain⟨obs,h1,h2,h3,h4⟩:=layA_ok (t2::a) (H0++(t.lay 0 H0.length x.1).2) x.2 ht.2
  have hl2:(H0++(t.lay 0 H0.length x.1).2).length=H0.length+(t.lay 0 H0.length x.1).2.length:=zab
  refine⟨(t.lay 0 H0.length x.1).2++obs,by rw [←zal];exact h1,by
   show(_::(asc (H0++(t.lay 0 H0.length x.1).2) (t2::a) x.2).1).length=_
   rw [zad,h2];rfl,fun v hm=> ?_,fun j e cs hj c hc=> ?_⟩
  ·rw [zab,←zaQ,←hl2]
   rcases List.mem_cons.1 (show v∈t.sv (t.lay 0 H0.length x.1).1::(asc (H0++(t.lay 0 H0.length x.1).2) (t2::a) x.2).1 from hm)with rfl|hm
   ·exact SV.ok_mono (Ty.sv_ok (avx t 0 H0.length x.1 ht.1)) (by omega)
   ·exact h3 v hm
  ·rw [zab,←zaQ,←hl2]
   by_cases hlt:j<(t.lay 0 H0.length x.1).2.length
   ·rw [List.getElem?_append_left hlt]at hj
    exact SC.ok_mono (awq t 0 H0.length x.1 j e cs hj c hc) (by omega)
   ·rw [List.getElem?_append_right (by omega)]at hj
    exact h4 _ e cs hj c hc
def noA:List Ty→Nat
 |[]=>0
 |t::a=>t.no+noA a
theorem layA_no:∀(a:List Ty) (H0:List Ob) (x:(tupT a).T),(asc H0 a x).2.length=H0.length+noA a
 |[],H0,x=>rfl
 |[t],H0,x=>by
  show(H0++(t.lay 0 H0.length x).2).length=_
  rw [zab]
  have:=Ty.lay_no t 0 H0.length x
  show _=H0.length+(t.no+0)
  omega
 |t::t2::a,H0,x=>by
  show(asc (H0++(t.lay 0 H0.length x.1).2) (t2::a) x.2).2.length=_
  rw [layA_no (t2::a),zab,Ty.lay_no]
  show _=H0.length+(t.no+noA (t2::a))
  omega
theorem setL_get:∀(vs:List SV) (F:Tr SV) (i t:Nat),gtF (setL F i vs) t=if i≤t∧t<i+vs.length then vs.getD (t-i) .u' else gtF F t
 |[],F,i,t=>by
  rw [if_neg (by simp)];rfl
 |v::vs,F,i,t=>by
  show gtF (setL (F.set i v) (i+1) vs) t=_
  rw [setL_get vs,gtF_set,zad]
  by_cases h1:t=i
  ·subst h1
   rw [if_neg (by omega),if_pos rfl,if_pos (by omega),Nat.sub_self];rfl
  ·by_cases h2:i+1≤t∧t<i+1+vs.length
   ·rw [if_pos h2,if_pos (by omega),show t-i=(t-(i+1))+1 by omega];rfl
   ·rw [if_neg h2,if_neg h1,if_neg (by omega)]
theorem alOf_cov{r:List Rk}{H0:List Ob}{id j:Nat}:∀{l:List Ob} {i:Nat},cov id j (alOf r H0 l i)=true→∃o,i≤id∧l[id-i]? =some o∧((apn (some o)=true∧j=0)∨(apn (some o)=false∧id∈Rk.ids r∧j<(cellsO H0 id).2.2))
 |[],i,h=>by simp [alOf,cov]at h
 |o::l,i,h=>by
  simp only [alOf]at h
  rcases aia.1 h with h|h
  ·cases hr:apn (some o)with
   |true=>
    rw [hr]at h
    obtain⟨q,hq,h1,h2,h3⟩:=afs.1 h
    have hq:=List.mem_singleton.1 hq
    subst hq
    have h1:i=id:=h1
    subst h1
    exact⟨o,zao _,by simp,.inl ⟨hr,by have h3:j<1:=h3;omega⟩⟩
   |false=>
    rw [hr]at h
    cases hm:avk i (Rk.ids r)with
    |false=>rw [hm]at h;simp [cov]at h
    |true=>
     rw [hm]at h
     obtain⟨q,hq,h1,h2,h3⟩:=afs.1 h
     have hq:=List.mem_singleton.1 hq
     subst hq
     have h1:i=id:=h1
     subst h1
     exact⟨o,zao _,by simp,.inr ⟨hr,aiw.1 hm,h3⟩⟩
  ·obtain⟨o2,h1,h2,h3⟩:=alOf_cov h
   refine⟨o2,by omega, ?_,h3⟩
   rw [show id-i=(id-(i+1))+1 by omega,List.getElem?_cons_succ];exact h2
theorem avc{H:List Ob}:∀{r:List Rk},outsK H r=true→∀q∈r,match q with
  |.r' _=>True
  |.o' id e x=>∃cs,H[id]? =some (.bl e cs)∧cs.length=x.cn
  |.w' id x=>apn H[id]? =true∧isRowT x=true
 |q0::r,h,q,hq=>by
  have h:=agp (show(bif _ then outsK H r else false)=true from h)
  rcases List.mem_cons.1 hq with rfl|hq
  ·cases q with
   |r' x=>trivial
   |o' id e x=>
    have h1:=h.1
    simp only [abm]at h1
    split at h1
    ·rename_i e2 cs hb
     have h1:=agp h1
     rw [zag h1.1]at hb
     exact⟨cs,hb,zag h1.2⟩
    ·cases h1
   |w' id x=>
    have h1:=agp h.1
    rw [abm]at h1
    exact h1
  ·exact avc h.2 q hq
def rgO:List Rk→List Rg
 |[]=>[]
 |k::l=>match k with
  |.r' _=>rgO l
  |.o' id _ x=>(id,0,x.cn)::rgO l
  |.w' id _=>(id,0,1)::rgO l
theorem rgO_of:∀{r:List Rk} {q:Rg},q∈rgO r→(∃id e x,Rk.o' id e x∈r∧q=(id,0,x.cn))∨∃id x,Rk.w' id x∈r∧q=(id,0,1)
 |k::r,q,h=>by
  cases k with
  |r' x=>
   rcases rgO_of (show q∈rgO r from h)with⟨id,e,x,h1,h2⟩|⟨id,x,h1,h2⟩
   ·exact .inl ⟨id,e,x,zaf _ h1,h2⟩
   ·exact .inr ⟨id,x,zaf _ h1,h2⟩
  |o' i e x=>
   rcases List.mem_cons.1 (show q∈(i,0,x.cn)::rgO r from h)with rfl|h
   ·exact .inl ⟨i,e,x,zak,rfl⟩
   ·rcases rgO_of h with⟨id,e,x,h1,h2⟩|⟨id,x,h1,h2⟩
    ·exact .inl ⟨id,e,x,zaf _ h1,h2⟩
    ·exact .inr ⟨id,x,zaf _ h1,h2⟩
  |w' i x=>
   rcases List.mem_cons.1 (show q∈(i,0,1)::rgO r from h)with rfl|h
   ·exact .inr ⟨i,x,zak,rfl⟩
   ·rcases rgO_of h with⟨id,e,x,h1,h2⟩|⟨id,x,h1,h2⟩
    ·exact .inl ⟨id,e,x,zaf _ h1,h2⟩
    ·exact .inr ⟨id,x,zaf _ h1,h2⟩
theorem rgO_o{id e:Nat}{x:Ty}:∀{r:List Rk},Rk.o' id e x∈r→(id,0,x.cn)∈rgO r
 |k::r,h=>by
  rcases List.mem_cons.1 h with rfl|h2
  ·exact zak
  ·cases k with
   |r' _=>exact(show _∈rgO r from rgO_o h2)
   |o' _ _ _=>exact zaf _ (rgO_o h2)
   |w' _ _=>exact zaf _ (rgO_o h2)
theorem rgO_w{id:Nat}{x:Ty}:∀{r:List Rk},Rk.w' id x∈r→(id,0,1)∈rgO r
 |k::r,h=>by
  rcases List.mem_cons.1 h with rfl|h2
  ·exact zak
  ·cases k with
   |r' _=>exact(show _∈rgO r from rgO_w h2)
   |o' _ _ _=>exact zaf _ (rgO_w h2)
   |w' _ _=>exact zaf _ (rgO_w h2)
theorem ids_of{id:Nat}:∀{r:List Rk},id∈Rk.ids r→(∃e x,Rk.o' id e x∈r)∨∃x,Rk.w' id x∈r
 |k::r,h=>by
  cases k with
  |r' x=>
   rcases ids_of (show id∈Rk.ids r from h)with⟨e,x,h1⟩|⟨x,h1⟩
   ·exact .inl ⟨e,x,zaf _ h1⟩
   ·exact .inr ⟨x,zaf _ h1⟩
  |o' i e x=>
   rcases List.mem_cons.1 (show id∈i::Rk.ids r from h)with rfl|h
   ·exact .inl ⟨e,x,zak⟩
   ·rcases ids_of h with⟨e,x,h1⟩|⟨x,h1⟩
    ·exact .inl ⟨e,x,zaf _ h1⟩
    ·exact .inr ⟨x,zaf _ h1⟩
  |w' i x=>
   rcases List.mem_cons.1 (show id∈i::Rk.ids r from h)with rfl|h
   ·exact .inr ⟨x,zak⟩
   ·rcases ids_of h with⟨e,x,h1⟩|⟨x,h1⟩
    ·exact .inl ⟨e,x,zaf _ h1⟩
    ·exact .inr ⟨x,zaf _ h1⟩
section
variable {C : Cx} {md : Md} {w0 w : World} {S0 : List Nat} {GS : Glo} {ρ ρe : Nat → Ad} {Se : St} {Fe : Nat → Value} {a : List Ty} {r : List Rk} {H gs : List Ob}
theorem end_ok(hmd:md=⟨md.n,[],none⟩)(hn:C.nn=md.n)(hS:Rel C w0 S0 ρe Se Fe w)(hlnH:Lns ρ H)(hho:∀(id e:Nat) (cs:List SC),H[id]? =some (.bl e cs)→∀c∈cs,c.ok H.length)(hnd:(Rk.ids r).Nodup)(hout:outsK H r=true)
  (hle:Le (H++gs).length (alOf r H H 0) ρ (H++gs) ρe Se.H) {rs:List ResultVar} {y:(resT r).T} (h:resD C (H++gs).length (alOf r H H 0) rs r Se=some y):
  ∃(ρ2:Nat→Ad) (L2:List Res) (us:List Value),Up H.length ρ ρ2∧Hp w0 S0 L2 w∧Mt w0 S0 ρ2 (putR (fun j=>j) ([],kill H (eatJ (Rk.ids r) H 0)) r y).2 L2∧(putR (fun j=>j) ([],kill H (eatJ (Rk.ids r) H 0)) r y).1.map (SA.v ρ2)=us∧
   (rs.map (Go.Oe.resOf C Se)).map (SV.v ρe)=us.map some:=by
 unfold resD at h
 split at h
 ·rename_i x ss hr
  have h:=aas h
  have htk:=agp (show(bif nodN (ownS ss)then St.oks ⟨Se.F,Se.H,(H++gs).length,alOf r H H 0,[]⟩ (aok Se.H (ownS ss))else false)=true from h.1)
  have h2:=aas h.2
  have hdis:=disN_iff.1 h2.1
  cases h2.2
  let E:=eatJ (Rk.ids r) H 0
  let R:=rgO r
  let ρ3:Nat→Ad:=fun id=>if id<H.length then ρe id else match ss[id-H.length]? with
   |some s=>s.ad ρe
   |none=>ρe id
  have hup2:Up H.length ρe ρ3:=fun id hi=>by simp only [ρ3,hi,if_true]
  have hup0:Up H.length ρ ρe:=fun id hi=>hle.up id (by rw [zab];omega)
  have hup:Up H.length ρ ρ3:=hup0.trans hup2 (zao _)
  have had:∀(j:Nat) (s:Src),ss[j]? =some s→ρ3 (H.length+j)=s.ad ρe:=by
   intro j s hj
   have h1:¬H.length+j<H.length:=by omega
   have h2:H.length+j-H.length=j:=by omega
   simp only [ρ3,h1,if_false,h2,hj]
  have hEmem:∀id,id∈E↔∃o,H[id]? =some o∧apn (some o)=true∧id∉Rk.ids r:=by
   intro id
   show id∈eatJ (Rk.ids r) H 0↔_
   rw [eatJ_mem]
   simp
  have keyQ:∀q∈R,(∃e cs,H[q.1]? =some (.bl e cs)∧q.2.2≤cs.length)∨(apn H[q.1]? =true∧q.2=(0,1)):=by
   intro q hq
   rcases rgO_of hq with⟨id,e,x,h1,rfl⟩|⟨id,x,h1,rfl⟩
   ·obtain⟨cs,h3,h4⟩:=avc hout _ h1
    exact .inl ⟨e,cs,h3,by rw [h4];exact zao _⟩
   ·exact .inr ⟨(avc hout _ h1).1,rfl⟩
  have eatQ:∀id∈E,apn H[id]? =true∨∃e cs,H[id]? =some (.bl e cs):=by
   intro id hid
   obtain⟨o,h1,h2,_⟩:=(hEmem id).1 hid
   exact .inl (by rw [h1];exact h2)
  have hcov:∀id j,cov id j (alOf r H H 0)=true→cov id j (R++aok H E)=true:=by
   intro id j hc
   obtain⟨o,_,h1,h2⟩:=alOf_cov hc
   rw [Nat.sub_zero]at h1
   rcases h2 with⟨h2,rfl⟩|⟨h2,h3,h4⟩
   ·by_cases ho:id∈Rk.ids r
    ·rcases ids_of ho with⟨e,x,h5⟩|⟨x,h5⟩
     ·obtain⟨cs,h6,_⟩:=avc hout _ h5
      rw [h1]at h6
      cases h6
      cases h2
     ·exact aia.2 (.inl (afs.2 ⟨_,rgO_w h5,rfl,zao _,zbq⟩))
    ·exact aia.2 (.inr (ary ((hEmem id).2 ⟨o,h1,h2,ho⟩)))
   ·rcases ids_of h3 with⟨e,x,h5⟩|⟨x,h5⟩
    ·obtain⟨cs,h6,h7⟩:=avc hout _ h5
     refine aia.2 (.inl (afs.2 ⟨_,rgO_o h5,rfl,zah _, ?_⟩))
     unfold cellsO at h4
     rw [abm,h6]at h4
     show j<x.cn
     rw [←h7];exact h4
    ·have:=(avc hout _ h5).1
     rw [h1,h2]at this
     cases this
  have hle2:Le H.length (R++aok H E) ρ H ρe Se.H:=by
   refine⟨by have:=hle.len;rw [zab]at this;omega,hup0,fun id o hi ho=> ?_⟩
   have:=hle.kp id o (by rw [zab];omega) (by rw [List.getElem?_append_left hi];exact ho)
   exact this.mono fun j hc=>hcov id j hc
  have h0:=PI.baseG (F2:=Fe) (Fm:=(Tr.e:Tr SV)) (ρ3:=ρ3) hlnH hho keyQ eatQ hle2 hup (fun t u hu=>by
   have e:gtF (Tr.e:Tr SV) t=.u':=by unfold gtF;rw [Go.Ce.Tr.get_e]
   rw [e]at hu;cases hu) (fun t=>by
   have e:gtF (Tr.e:Tr SV) t=.u':=by unfold gtF;rw [Go.Ce.Tr.get_e]
   rw [e];trivial)
  have hlenB:(kill (aqm H R) E).length=H.length:=by rw [aws,awh]
  have hKR:∀q∈r,KR H.length H (kill (aqm H R) E) E (R++aok H E) q:=by
   intro q hq
   have ho:=avc hout q hq
   cases q with
   |r' x=>trivial
   |o' id e x=>
    obtain⟨cs,h3,h4⟩:=ho
    refine⟨(List.getElem?_eq_some_iff.1 h3).1,fun j hj=>aia.2 (.inl (afs.2 ⟨_,rgO_o hq,rfl,zah _,hj⟩)), ?_⟩
    obtain⟨o2,h5,cs2,rfl,_⟩:=asi (rs:=R) h3
    have hnE:id∉E:=fun hE=>by
     obtain⟨o,h6,h7,_⟩:=(hEmem id).1 hE
     rw [h3]at h6
     cases h6
     cases h7
    exact⟨e,cs2,by rw [anx,if_neg hnE];exact h5⟩
   |w' id x=>
    have ho:apn H[id]? =true∧isRowT x=true:=ho
    have hlt:id<H.length:=by
     cases h3:H[id]? with
     |none=>rw [h3]at ho;cases ho.1
     |some _=>exact(List.getElem?_eq_some_iff.1 h3).1
    refine⟨hlt,aia.2 (.inl (afs.2 ⟨_,rgO_w hq,rfl,zao _,zbq⟩)),fun hE=> ?_,ho.1⟩
    obtain⟨o,_,_,h6⟩:=(hEmem id).1 hE
    exact h6 (ids_mem hq (List.mem_singleton.2 rfl))
  obtain⟨hP,us,hu1,hu2⟩:=PI.stepsR (rel_lns hS) (rel_brk hS) (zao _) hup2 r _ [] y ss _ [] h0 hr hnd hKR (by rw [hlenB];exact had)
  rw [zax]at hP
  obtain⟨L,hH,hM⟩:=hS.mem
  obtain⟨L3,hH3,hM3⟩:=hP.mem hH hM hup2 had (nodN_iff.1 htk.1) (fun id hid hlt=>by
   have hc:cov id 0 (alOf r H H 0)=true:=oks_cov htk.2 (by show id<(H++gs).length;rw [zab];omega) (ary hid)
   obtain⟨o,_,h1,h2⟩:=alOf_cov hc
   rw [Nat.sub_zero]at h1
   have hno:=hdis id hid
   rcases h2 with⟨h2,_⟩|⟨_,h3,_⟩
   ·exact(hEmem id).2 ⟨o,h1,h2,hno⟩
   ·exact absurd h3 hno)
  have hsame:putR (fun j=>j) (([]:List SA),kill (aqm H R) E) r y=putR (fun j=>j) ([],kill H E) r y:=by
   have hlk:∀id,lenH (kill (aqm H R) E) id=lenH (kill H E) id:=by
    intro id
    rw [atg,atg,anx,anx]
    cases hg:H[id]? with
    |none=>rw [forget_none hg]
    |some o=>
     obtain⟨o2,h1,h2⟩:=asi (rs:=R) hg
     rw [h1]
     split
     ·exact h2.len
     ·exact h2.len
   refine putR_same r y [] _ _ (by rw [aws,awh,aws]) hlk (fun id hid=> ?_) (fun q hq id x e=> ?_)
   ·rw [anx,anx]
    cases hg:H[id]? with
    |none=>rw [forget_none hg]
    |some o=>
     have hnc:∀j,cov id j R=false:=by
      intro j
      cases hc:cov id j R with
      |false=>rfl
      |true=>
       exfalso
       obtain⟨q,hq,h1,_⟩:=afs.1 hc
       rcases rgO_of hq with⟨i,e,x,h3,rfl⟩|⟨i,x,h3,rfl⟩
       ·have h1:i=id:=h1
        subst h1
        exact hid (ids_mem h3 (List.mem_singleton.2 rfl))
       ·have h1:i=id:=h1
        subst h1
        exact hid (ids_mem h3 (List.mem_singleton.2 rfl))
     have hnq:∀q∈R,q.1≠id:=by
      intro q hq e
      rcases rgO_of hq with⟨i,e2,x,h3,rfl⟩|⟨i,x,h3,rfl⟩
      ·have e:i=id:=e
       subst e
       exact hid (ids_mem h3 (List.mem_singleton.2 rfl))
      ·have e:i=id:=e
       subst e
       exact hid (ids_mem h3 (List.mem_singleton.2 rfl))
     obtain⟨o2,h1,h2⟩:=asi (rs:=R) hg
     have e:o2=o:=by
      cases o with
      |bl e cs=>
       obtain⟨cs2,rfl,h3,h4⟩:=h2
       have:cs2=cs:=List.ext_getElem? fun j=>by rw [h4,hnc j,if_neg (by simp)]
       rw [this]
      |_=>
       rcases h2 with⟨h2,_⟩|⟨_,q,hq,h3⟩
       ·exact h2
       ·exact absurd h3 (hnq q hq)
     rw [h1,e]
   ·have:=avc hout q hq
    rw [e]at this
    exact this.2
  rw [hsame]at hM3 hu2
  refine⟨ρ3,L3,us,hup,hH3,hM3,by rw [hu2];rfl,hu1⟩
 ·cases h
end
end Go.Oe
