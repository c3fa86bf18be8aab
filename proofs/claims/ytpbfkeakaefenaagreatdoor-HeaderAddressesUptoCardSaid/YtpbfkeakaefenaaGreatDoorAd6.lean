/-
  The law HeaderAddresses (part 6 of 8).
-/
import Derived.Test.YtpbfkeakaefenaaGreatDoorAd5
set_option linter.unusedVariables false
set_option linter.unusedSimpArgs false
set_option maxRecDepth 100000
namespace Go.Wk
open Go.Px
open Bool renaming not_false → zay, not_true → zap
open Go.Lib renaming join → zar
open Int renaming toNat → zai, toNat_natCast → zat
open List renaming eq_nil_of_length_eq_zero → zao, length_append → zab, length_cons → zac, length_drop → zaj, length_map → zaF, length_singleton → zad, length_take → zaw
open Nat renaming le_refl → zam, le_trans → zaM, zero_le → zak
open Option renaming bind_some → zaa
open Sum renaming elim_inl → zaz, elim_inr → zaR
theorem valP_len2(s:Str)(k:Nat)(hk:k≤s.length):(valP s k).1.length≤s.length+252:=by
 unfold valP
 split
 ·rename_i h
  have:=unqP8_bd s k (acz h).2 (acz h).1
  omega
 ·split
  ·split
   ·have hh:=host_len2 (sub s (k:Int) (min ((k+alj (fun b=> !(b==93)) (s.drop k):Nat)+1:Int) (s.length:Int)))
    rw [ajd]at hh
    dsimp only
    omega
   ·exact zak _
  ·split
   ·exact zak _
   ·dsimp only
    rw [ajd];omega
theorem listP_len2(s:Str)(b:Nat):(aru s b).1.2.1.length≤s.length+252:=by
 unfold aru
 split
 ·exact zak _
 ·split
  ·exact zak _
  ·split
   ·exact valP_len2 s _ (abg _ _ _)
   ·exact zak _
theorem parM_val(s:Str):∀(f:Nat) (l:List PP) (i:Nat),(∀p∈l,p.2.1.length≤s.length+252)→∀p∈(parM s f l i).1,p.2.1.length≤s.length+252
 |0,_,_,_=>by simp [parM]
 |f+1,l,i,h=>by
  rw [parM]
  split
  ·exact h
  ·split
   ·simp
   ·split
    ·split
     ·refine parM_val s f _ _ fun p hp=> ?_
      rcases List.mem_append.1 hp with hp|hp
      ·exact h p hp
      ·rw [List.mem_singleton.1 hp];exact listP_len2 s _
     ·simp
    ·simp
theorem parP_val(s:Str):∀p∈(parP s).1,p.2.1.length≤s.length+252:=parM_val s _ [] 0 (by simp)
theorem sub_le(s:Str)(i j:Int):(sub s i j).length≤s.length:=by rw [ajd];omega
theorem fld_len3(k:Int)(l:List PP)(T:Str):(awf k l T).2.1.length≤T.length∧(awf k l T).2.2.1.length≤T.length:=by
 have h1:=conP_len k (T.take (afx T))
 have h2:=conP_len k (T.drop (afx T+1))
 rw [zaw]at h1
 rw [zaj]at h2
 have h3:(aab (conP k (T.take (afx T)))).length=(conP k (T.take (afx T))).length:=by unfold aab;rw [zaF]
 unfold awf
 split
 ·exact⟨zak _,zak _⟩
 ·split
  ·exact⟨zak _,zak _⟩
  ·split
   ·split
    ·exact⟨zak _,zak _⟩
    ·split
     ·exact⟨zak _,zak _⟩
     ·dsimp only;omega
   ·split
    ·exact⟨zak _,zak _⟩
    ·exact⟨by dsimp only;omega,zak _⟩
def lenQ(n:Nat)(l:List PP):Prop:=∀p∈l,p.1.length≤n∧p.2.1.length≤n
theorem lenQ.snoc{n:Nat}{l:List PP}(h:lenQ n l)(p:PP)(h1:p.1.length≤n)(h2:p.2.1.length≤n):lenQ n (l++[p]):=fun q hq=>by
 rcases List.mem_append.1 hq with h'|h'
 ·exact h q h'
 ·rw [List.mem_singleton.1 h'];exact⟨h1,h2⟩
theorem plL_sz(st s:Str):∀(f i:Nat) (l:List PP),lenQ s.length l→lenQ s.length (plL st s f i l).2.2
 |0,i,l,h=>h
 |f+1,i,l,h=>by
  rw [plL]
  split
  ·split
   ·have:=fld_len3 1 l (sub s ((i+1:Nat):Int) (utl st s (i+1):Int))
    have hs:=sub_le s ((i+1:Nat):Int) (utl st s (i+1):Int)
    exact plL_sz st s f _ _ (h.snoc _ (by omega) (by omega))
   ·intro p hp;cases hp
  ·exact h
theorem hdL_sz(s:Str):∀(f i:Nat) (l:List PP),lenQ s.length l→lenQ s.length (hdL s f i l).2
 |0,i,l,h=>h
 |f+1,i,l,h=>by
  rw [hdL]
  split
  ·split
   ·have:=fld_len3 2 l (sub s ((i+1:Nat):Int) (utl [38] s (i+1):Int))
    have hs:=sub_le s ((i+1:Nat):Int) (utl [38] s (i+1):Int)
    exact hdL_sz s f _ _ (h.snoc _ (by omega) (by omega))
   ·intro p hp;cases hp
  ·exact h
def smlN(n:Nat)(u:UU):Prop:=u.1.length≤n∧u.2.1.length≤n∧u.2.2.1.length≤n∧lenQ n u.2.2.2.2.1∧lenQ n u.2.2.2.2.2
theorem axn(n:Nat):smlN n nilU:=⟨zak _,zak _,zak _,(fun p hp=>by cases hp),(fun p hp=>by cases hp)⟩
theorem isort_lenQ{n:Nat}{l:List PP}(h:lenQ n l):lenQ n (aps l):=fun p hp=>h p (isort_mem l p hp)
theorem rest_sml(n:Nat)(st s sch us h:Str)(port:Int)(i:Nat)(h1:sch.length≤n)(h2:us.length≤n)(h3:h.length≤n)(h4:s.length≤n):smlN n (aqa st s sch us h port i).2:=by
 have hw:∀l,lenQ s.length l→lenQ n l:=fun l hl p hp=>⟨zaM (hl p hp).1 h4,zaM (hl p hp).2 h4⟩
 unfold aqa
 split
 ·split
  ·exact⟨h1,h2,h3,isort_lenQ (hw _ (plL_sz st s _ i [] (fun p hp=>by cases hp))),isort_lenQ (hw _ (hdL_sz s _ _ [] (fun p hp=>by cases hp)))⟩
  ·exact axn n
 ·exact axn n
theorem hpP_len(s:Str)(i:Nat):(hpP s i).2.1.length≤s.length+252:=by
 have h1:=host_len2 (sub s (i:Int) (hEnd s i:Int))
 have h2:=sub_le s (i:Int) (hEnd s i:Int)
 unfold hpP
 split
 ·exact zak _
 ·split
  ·split
   ·dsimp only;omega
   ·exact zak _
  ·split
   ·exact zak _
   ·dsimp only;omega
theorem usrP_len(U:Str):(usrP U).2.length≤U.length:=by
 have:=conP_len 0 U
 unfold usrP
 split
 ·exact zak _
 ·split
  ·exact zak _
  ·exact this
theorem plP_len(s:Str)(i:Nat):(plP s i).2.1.length≤s.length∧(plP s i).2.2.1.length≤s.length+252:=by
 have h0:=hpP_len s i
 have h1:=hpP_len s (utl [64] s i+1)
 have h2:=usrP_len (sub s (i:Int) (utl [64] s i:Int))
 have h3:=sub_le s (i:Int) (utl [64] s i:Int)
 unfold plP
 split
 ·split
  ·exact⟨by dsimp only;omega,h1⟩
  ·exact⟨zak _,zak _⟩
 ·exact⟨zak _,h0⟩
theorem telP_len(s:Str)(i:Nat):(telP s i).2.length≤31:=by
 unfold telP
 split
 ·exact zak _
 ·split
  ·exact zak _
  ·split
   ·exact zak _
   ·dsimp only
    split
    ·rw [zac];omega
    ·omega
theorem parse_sml(s:Str):smlN 1300 (amu s).2:=by
 unfold amu
 split
 ·exact axn _
 ·have hl:(aab (s.take (utl [58] s 0))).length≤s.length:=by unfold aab;rw [zaF,zaw];omega
  have hp:=plP_len s (utl [58] s 0+1)
  have ht:=telP_len s (utl [58] s 0+1)
  split
  ·split
   ·split
    ·exact rest_sml 1300 _ s _ _ _ _ _ (by omega) (by omega) (by omega) (by omega)
    ·exact axn _
   ·split
    ·split
     ·exact rest_sml 1300 _ s _ _ _ _ _ (by omega) (by omega) (zak _) (by omega)
     ·exact axn _
    ·exact axn _
  ·exact axn _
theorem smlN.sml{n:Nat}{u:UU}(h:smlN n u)(hn:n≤4194304):Sml u:=
 ⟨zaM h.1 hn,zaM h.2.1 hn,zaM h.2.2.1 hn,fun p hp=>⟨zaM (h.2.2.2.1 p hp).1 hn,zaM (h.2.2.2.1 p hp).2 hn⟩,fun p hp=>⟨zaM (h.2.2.2.2 p hp).1 hn,zaM (h.2.2.2.2 p hp).2 hn⟩⟩
theorem nameL_bd(s:Str):∀(f i:Nat) (ws:List Str),i≤s.length→ws.length≤i→(∀x∈ws,x.length≤s.length)→(aja s f i ws).2.2.length≤s.length∧∀x∈(aja s f i ws).2.2,x.length≤s.length
 |0,_,_,_,_,_=>⟨zak _,fun x hx=>by cases hx⟩
 |f+1,i,ws,hi,hw,hx=>by
  have h1:=aey aaq s i hi
  have h2:=abg aaq s (i:Int)
  have h3:=aey aae s (aai aaq s (i:Int)) h2
  rw [aja]
  split
  ·exact⟨zaM hw hi,hx⟩
  ·split
   ·exact⟨zak _,fun x hx=>by cases hx⟩
   ·rename_i hne
    refine nameL_bd s f _ _ (abg _ _ _) (by rw [zab,zad];omega) (fun x hxx=> ?_)
    rcases List.mem_append.1 hxx with h|h
    ·exact hx x h
    ·rw [List.mem_singleton.1 h];exact sub_le _ _ _
theorem disp_len(s:Str)(hs:s.length≤1024)(i:Nat)(hi:i≤s.length):(aok s i).2.1.length≤1100000:=by
 unfold aok
 split
 ·rename_i h
  have:=unqP8_bd s i (acz h).2 (acz h).1
  split
  ·split
   ·dsimp only;omega
   ·exact zak _
  ·exact zak _
 ·split
  ·obtain⟨a,b⟩:=nameL_bd s (s.length+1) i [] hi (zak _) (fun x hx=>by cases hx)
   have hj:=asf [32] s.length _ b
   rw [zad]at hj
   refine zaM hj ?_
   refine zaM (Nat.mul_le_mul (zaM a hs) (Nat.succ_le_succ hs)) (by decide)
  ·exact zak _
theorem adr_sml(s:Str):smlN 1300 (avp s).2.2.1∧(avp s).2.1.length≤1100000∧lenQ 1300 (avp s).2.2.2:=by
 have hnil:smlN 1300 nilA.2.1∧nilA.1.length≤1100000∧lenQ 1300 nilA.2.2:=⟨axn _,zak _,fun p hp=>by cases hp⟩
 unfold avp
 split
 ·exact hnil
 ·rename_i hl
  split
  ·split
   ·split
    ·refine⟨?_,disp_len s (by omega) _ (abg _ _ _), ?_⟩
     ·show smlN 1300 (tgtP s (aok s (aai aae s 0)).2.2).2.1
      generalize(aok s (aai aae s 0)).2.2=j
      unfold tgtP
      split
      ·split
       ·exact axn _
       ·exact parse_sml _
      ·split
       ·exact axn _
       ·exact parse_sml _
     ·intro p hp
      dsimp only at hp
      have hd:(s.drop (tgtP s (aok s (aai aae s 0)).2.2).2.2).length≤1024:=by rw [zaj];omega
      have h1:=parP_names _ (by omega) p hp
      have h2:=parP_val _ p hp
      exact⟨by omega,by omega⟩
    ·exact hnil
   ·exact hnil
  ·exact hnil
theorem unqL_at(n:Nat):∀(l:Str) (k:Nat) (acc:Str),l.length≤n→0≤(unqL l k acc).2.1∧(unqL l k acc).2.1≤((k+l.length:Nat):Int):=by
 induction n with
 |zero=>
  intro l k acc h
  have:l=[]:=zao (by omega)
  subst this
  unfold unqL
  exact⟨by dsimp only;omega,by dsimp only;omega⟩
 |succ n ih=>
  intro l k acc h
  cases l with
  |nil=>
   unfold unqL
   exact⟨by dsimp only;omega,by dsimp only;omega⟩
  |cons c l=>
   rw [zac]at h⊢
   rw [unqL_cons]
   split
   ·exact⟨by dsimp only;omega,by dsimp only;omega⟩
   ·split
    ·split
     ·exact⟨by dsimp only;omega,by dsimp only;omega⟩
     ·split
      ·have hd:(l.drop 1).length=l.length-1:=zaj
       have:=ih (l.drop 1) (k+2) (acc++[at_ l 0]) (by omega)
       have hl:l≠[]:=by assumption
       have:=List.length_pos_iff.2 hl
       omega
      ·exact⟨by dsimp only;omega,by dsimp only;omega⟩
    ·split
     ·exact⟨by dsimp only;omega,by dsimp only;omega⟩
     ·have:=ih l (k+1) (acc++[c]) (by omega)
      omega
theorem unqP8_at(s:Str)(k:Nat)(hk:k≤s.length):0≤(ara s (k:Int)).2.1∧(ara s (k:Int)).2.1≤(s.length:Int):=by
 unfold ara
 split
 ·exact⟨by dsimp only;omega,by dsimp only;omega⟩
 ·split
  ·exact⟨by dsimp only;omega,by dsimp only;omega⟩
  ·rename_i h
   have hne:¬(k:Int)=(s.length:Int):=fun e=>h (.inl e)
   have hd:(s.drop (zai (k:Int)+1)).length=s.length-(k+1):=by rw [zat,zaj]
   have:=unqL_at _ (s.drop (zai (k:Int)+1)) (zai (k:Int)+1) [] (zam _)
   rw [zat]at this hd⊢
   omega
theorem valP_at(s:Str)(k:Nat)(hk:k≤s.length):0≤(valP s k).2.1∧(valP s k).2.1≤(s.length:Int)+1:=by
 have h1:=abg aaq s (k:Int)
 have hsp:=arw (fun b=> !(b==93)) (s.drop k)
 rw [zaj]at hsp
 unfold valP
 split
 ·have:=unqP8_at s k hk
  omega
 ·split
  ·split
   ·exact⟨by dsimp only;omega,by dsimp only;omega⟩
   ·exact⟨by dsimp only;omega,by dsimp only;omega⟩
  ·split
   ·exact⟨by dsimp only;omega,by dsimp only;omega⟩
   ·exact⟨by dsimp only;omega,by dsimp only;omega⟩
theorem listP_at(s:Str)(b:Nat)(hb:b≤s.length):0≤(aru s b).2.1∧(aru s b).2.1≤(s.length:Int)+1:=by
 unfold aru
 split
 ·exact⟨by dsimp only;omega,by dsimp only;omega⟩
 ·split
  ·exact⟨by dsimp only;omega,by dsimp only;omega⟩
  ·split
   ·exact⟨by dsimp only;omega,by dsimp only;omega⟩
   ·exact valP_at s _ (abg _ _ _)
theorem parM_at(s:Str):∀(f:Nat) (l:List PP) (i:Nat),0≤(parM s f l i).2.1∧(parM s f l i).2.1≤(s.length:Int)+1
 |0,_,_=>⟨by unfold parM;decide,by unfold parM;dsimp only;omega⟩
 |f+1,l,i=>by
  have h1:=abg aae s (i:Int)
  have h2:=abg aae s ((aai aae s (i:Int)+1:Nat):Int)
  rw [parM]
  split
  ·exact⟨by dsimp only;omega,by dsimp only;omega⟩
  ·split
   ·exact⟨by dsimp only;omega,by dsimp only;omega⟩
   ·split
    ·split
     ·exact parM_at s f _ _
     ·exact⟨by dsimp only;omega,by dsimp only;omega⟩
    ·exact listP_at s _ h2
theorem parP_at(s:Str)(hs:s.length≤4194304):0≤(parP s).2.1∧(parP s).2.1≤(s.length:Int)+1:=parM_at s _ _ _
theorem name_lp(s:Str)(hs:s.length≤1024)(A2:AA)(n:Nat):∀(i fk f:Nat) (ws:List Str),s.length-i≤n→n<fk→n<f→i≤s.length→ws.length≤i→
  ∃j,adv FU A2 fk ws s (i:Int)=some j∧
   ((aja s f i ws).1=0→j=.inl ((aja s f i ws).2.2,s,((aja s f i ws).2.1:Int)))∧(¬(aja s f i ws).1=0→∃a c w,j=.inr (a,(aja s f i ws).1,c,w)):=by
 induction n with
 |zero=>
  intro i fk f ws hi hf hff hil hw
  obtain⟨fk,rfl⟩:=fkx fk
  obtain⟨f,rfl⟩:∃m,f=m+1:=⟨f-1,by omega⟩
  obtain rfl:i=s.length:=by omega
  have hz:aax s s.length 60=false:=by unfold aax;rw [decide_eq_false (by omega)];rfl
  have ht:aai aaq s (s.length:Int)=s.length:=skipL_end _ _
  rw [aku,adp,apr,zaa,hz,zay,cond_true,token2_eq s (by omega) _ (zam _),zaa,ht,avs,if_pos rfl]
  have hn:aja s (f+1) s.length ws=(5,0,[]):=by rw [aja,hz,if_neg (by decide),if_pos ht]
  rw [hn]
  exact⟨_,rfl,fun h=>absurd h (show¬(5:UInt8)=0 by decide),fun _=>⟨_,_,_,rfl⟩⟩
 |succ n ih=>
  intro i fk f ws hi hf hff hil hw
  obtain⟨fk,rfl⟩:=fkx fk
  obtain⟨f,rfl⟩:∃m,f=m+1:=⟨f-1,by omega⟩
  have h1:=aey aaq s i hil
  have h2:=abg aaq s (i:Int)
  have h3:=aey aae s (aai aaq s (i:Int)) h2
  rw [aku,adp,apr,zaa]
  cases hz:aax s i 60 with
  |true=>
   have hn:aja s (f+1) i ws=(0,i,ws):=by rw [aja,hz,if_pos rfl]
   rw [hn,zap,cond_false]
   exact⟨_,rfl,fun _=>rfl,fun h=>absurd rfl h⟩
  |false=>
   rw [zay,cond_true,token2_eq s (by omega) i hil,zaa]
   dsimp only
   by_cases ht:aai aaq s (i:Int)=i
   ·have hn:aja s (f+1) i ws=(5,0,[]):=by rw [aja,hz,if_neg (by decide),if_pos ht]
    rw [if_pos ((ath s i _ h2 h1).2 ht),hn]
    exact⟨_,rfl,fun h=>absurd h (show¬(5:UInt8)=0 by decide),fun _=>⟨_,_,_,rfl⟩⟩
   ·have hn:aja s (f+1) i ws=aja s f (aai aae s ((aai aaq s (i:Int):Nat):Int)) (ws++[sub s (i:Int) ((aai aaq s (i:Int):Nat):Int)]):=by rw [aja,hz,if_neg (by decide),if_neg ht]
    rw [if_neg (fun h=>ht ((ath s i _ h2 h1).1 h)),aaa (by rw [zad];omega),arq s (by omega),zaa,hn]
    exact ih _ fk f _ (by omega) (by omega) (by omega) (abg _ _ _) (by rw [zab,zad];omega)
theorem plain_eq2(s:Str)(hs:s.length≤1024)(i:Nat)(hi:i≤s.length):∃a c w,aco FU (s,(i:Int)) ([],nilU,[])=some (a,(aja s (s.length+1) i []).1,c,w)∧
  ((aja s (s.length+1) i []).1=0→c=(s,((aja s (s.length+1) i []).2.1:Int))∧w=(zar (aja s (s.length+1) i []).2.2 [32],nilU,[])):=by
 obtain⟨j,e,h1,h2⟩:=name_lp s hs ([],nilU,[]) s.length i FU (s.length+1) [] (by omega) (by rw [adq];omega) (by omega) hi (zak _)
 unfold aco
 rw [show(s,(i:Int)).1=s from rfl,show(s,(i:Int)).2=(i:Int)from rfl,e,zaa]
 by_cases h0:(aja s (s.length+1) i []).1=0
 ·rw [h1 h0,zaz]
  obtain⟨a,b⟩:=nameL_bd s (s.length+1) i [] hi (zak _) (fun x hx=>by cases hx)
  have hj:=asf [32] s.length _ b
  rw [zad]at hj
  have hj2:(aja s (s.length+1) i []).2.2.length*(s.length+1)≤1024*1025:=Nat.mul_le_mul (zaM a hs) (Nat.succ_le_succ hs)
  dsimp only
  rw [aaa (by constructor<;>omega),h0]
  exact⟨_,_,_,rfl,fun _=>⟨rfl,rfl⟩⟩
 ·obtain⟨a,c,w,e2⟩:=h2 h0
  rw [e2,zaR]
  exact⟨_,_,_,rfl,fun h=>absurd h h0⟩
theorem tgt_eq(s:Str)(hs:s.length≤1024)(i:Nat)(hi:i≤s.length)(d:Str):∃a c w,afh FU (s,(i:Int)) (d,nilU,[])=some (a,(tgtP s i).1,c,w)∧((tgtP s i).1=0→c=(s,((tgtP s i).2.2:Int))∧w=(d,(tgtP s i).2.1,[])∧(tgtP s i).2.2≤s.length):=by
 have fin:∀(b e k:Nat),b≤e→e≤s.length→k≤s.length→k≤1025→∃a c w,(gd (0≤(b:Int)∧(b:Int)≤(e:Int)∧(e:Int)≤(s.length:Int))<|((aou FU (sub s (b:Int) (e:Int))).bind fun(y60:UU×Int×UInt8)=>(if y60.2.2=(0:UInt8)then some ((0:Int),(0:UInt8),(s,(k:Int)),(d,y60.1,([]:List PP)))else(gd (aap ((b:Int)+y60.2.1))<|some ((b:Int)+y60.2.1,y60.2.2,(s,(i:Int)),(d,nilU,([]:List PP)))))))=some (a,(amu (sub s (b:Int) (e:Int))).1,c,w)∧((amu (sub s (b:Int) (e:Int))).1=0→c=(s,(k:Int))∧w=(d,(amu (sub s (b:Int) (e:Int))).2,[])∧k≤s.length):=by
  intro b e k hb he hk hk2
  obtain⟨a,ha0,ha1,ha⟩:=parse_eq (sub s (b:Int) (e:Int))
  have hsl:=sub_le s (b:Int) (e:Int)
  rw [aaa (by omega),ha,zaa]
  dsimp only
  by_cases h0:(amu (sub s (b:Int) (e:Int))).1=0
  ·rw [if_pos h0,h0]
   exact⟨_,_,_,rfl,fun _=>⟨rfl,rfl,hk⟩⟩
  ·rw [if_neg h0,aaa (abb _ (by omega) (by omega))]
   exact⟨_,_,_,rfl,fun h=>absurd h h0⟩
 unfold afh tgtP
 rw [apr,zaa]
 dsimp only
 cases hz:aax s i 60 with
 |true=>
  have hlt:=(acz hz).1
  have hu1:=ame [62] s (i+1)
  have hu2:=aks [62] s (i+1) hlt
  rw [cond_true,if_pos rfl,aaa (abb _ (by omega) (by omega)),abl,avc s (by omega) (i+1) hlt _ (by decide) (by decide),zaa]
  by_cases he:utl [62] s (i+1)=s.length
  ·rw [if_pos (by omega),if_pos he,zaa,zaR]
   exact⟨_,_,_,rfl,fun h=>absurd h (show¬(5:UInt8)=0 by decide)⟩
  ·rw [if_neg (by omega),if_neg he,aaa (abb _ (by omega) (by omega)),zaa,zaz]
   exact fin (i+1) (utl [62] s (i+1)) (utl [62] s (i+1)+1) hu1 hu2 (by omega) (by omega)
 |false=>
  have hu1:=ame [59,32,9] s i
  have hu2:=aks [59,32,9] s i hi
  rw [cond_false,if_neg (by decide),avc s (by omega) i hi _ (by decide) (by decide),zaa,avc s (by omega) i hi _ (by decide) (by decide),zaa]
  by_cases he:utl [63,44] s i<utl [59,32,9] s i
  ·rw [if_pos (by omega),if_pos he,zaa,zaR]
   exact⟨_,_,_,rfl,fun h=>absurd h (show¬(5:UInt8)=0 by decide)⟩
  ·rw [if_neg (by omega),if_neg he,zaa,zaz]
   exact fin i (utl [59,32,9] s i) (utl [59,32,9] s i) hu1 hu2 hu2 (by omega)
theorem contains60(s:Str):Lib.contains s [60]=aoa s 60:=contains_any s 60
theorem parseAddr_eq(s:Str):∃a,aiz FU s=some ((avp s).2,a,(avp s).1):=by
 unfold aiz avp
 by_cases hl:1024<s.length
 ·rw [if_pos (by omega),if_pos hl]
  exact⟨_,rfl⟩
 ·rw [if_neg (by omega),if_neg hl,arq s (by omega),zaa]
  have hb:=abg aae s 0
  generalize aai aae s 0=b at hb⊢
  have hdisp:∃a c w,((((aad FU (s,(b:Int)) (34:UInt8)).bind fun(y102:Bool)=>(bif y102 then((afi FU (s,(b:Int)) (([]:Str),(([]:Str),([]:Str),([]:Str),(0:Int),([]:List PP),([]:List PP)),([]:List PP))).bind fun(y109:(Int×UInt8×(Str×Int)×AA))=>some (y109.1,y109.2.1,y109.2.2.1.1,y109.2.2.1.2,y109.2.2.2.1,y109.2.2.2.2.1.1,y109.2.2.2.2.1.2.1,y109.2.2.2.2.1.2.2.1,y109.2.2.2.2.1.2.2.2.1,y109.2.2.2.2.1.2.2.2.2.1,y109.2.2.2.2.1.2.2.2.2.2,y109.2.2.2.2.2))else(gd (s.length≤1000000000)<|(bif (Lib.contains s ([60]:Str))then((aco FU (s,(b:Int)) (([]:Str),(([]:Str),([]:Str),([]:Str),(0:Int),([]:List PP),([]:List PP)),([]:List PP))).bind fun(y138:(Int×UInt8×(Str×Int)×AA))=>some (y138.1,y138.2.1,y138.2.2.1.1,y138.2.2.1.2,y138.2.2.2.1,y138.2.2.2.2.1.1,y138.2.2.2.2.1.2.1,y138.2.2.2.2.1.2.2.1,y138.2.2.2.2.1.2.2.2.1,y138.2.2.2.2.1.2.2.2.2.1,y138.2.2.2.2.1.2.2.2.2.2,y138.2.2.2.2.2))else some ((0:Int),(0:UInt8),s,(b:Int),([]:Str),([]:Str),([]:Str),([]:Str),(0:Int),([]:List PP),([]:List PP),([]:List PP))))))):Option (Int×UInt8×Str×Int×Str×Str×Str×Str×Int×(List PP)×(List PP)×(List PP)))
    =some (a,(aok s b).1,c,w)∧((aok s b).1=0→c=s∧w=(((aok s b).2.2:Int),(aok s b).2.1,[],[],[],0,[],[],[])):=by
   have hle:=dispP_le s b hb
   rw [apr,zaa]
   unfold aok at hle⊢
   cases hz:aax s b 34 with
   |true=>
    rw [hz,if_pos rfl]at hle
    rw [cond_true,if_pos rfl]
    unfold afi
    dsimp only
    rw [unquote_eq s (by omega),zaa]
    by_cases h0:(ara s (b:Int)).2.2=0
    ·rw [if_pos h0]at hle
     rw [if_pos h0,if_pos h0,arq s (by omega),zaa,apr,zaa]
     cases h60:aax s (aai aae s (ara s (b:Int)).2.1) 60 with
     |true=>
      rw [zap,cond_false,zaa,if_pos rfl]
      exact⟨_,_,_,rfl,fun _=>⟨rfl,rfl⟩⟩
     |false=>
      rw [zay,cond_true,zaa,if_neg (by decide)]
      exact⟨_,_,_,rfl,fun h=>absurd h (show¬(5:UInt8)=0 by decide)⟩
    ·rw [if_neg h0,if_neg h0,zaa]
     exact⟨_,_,_,rfl,fun h=>absurd h h0⟩
   |false=>
    rw [cond_false,if_neg (by decide),aaa (by omega),contains60]
    cases h60:aoa s 60 with
    |true=>
     obtain⟨a,c,w,e,h⟩:=plain_eq2 s (by omega) b hb
     rw [cond_true,if_pos rfl]
     have e':aco FU (s,(b:Int)) (([]:Str),(([]:Str),([]:Str),([]:Str),(0:Int),([]:List PP),([]:List PP)),([]:List PP))=some (a,(aja s (s.length+1) b []).1,c,w):=e
     rw [e',zaa]
     refine⟨_,_,_,rfl,fun h0=> ?_⟩
     obtain⟨rfl,rfl⟩:=h h0
     exact⟨rfl,rfl⟩
    |false=>
     rw [cond_false,if_neg (by decide)]
     exact⟨_,_,_,rfl,fun _=>⟨rfl,rfl⟩⟩
  obtain⟨a,c,w,e,h⟩:=hdisp
  have hle:=dispP_le s b hb
  dsimp only
  rw [e,zaa]
  dsimp only
  generalize aok s b=D at h hle⊢
  by_cases h0:D.1=0
  ·obtain⟨rfl,rfl⟩:=h h0
   rw [if_pos h0,if_pos h0]
   obtain⟨a2,c2,w2,e2,h2⟩:=tgt_eq c (by omega) D.2.2 hle D.2.1
   have e2':afh FU (c,(D.2.2:Int)) (D.2.1,(([]:Str),([]:Str),([]:Str),(0:Int),([]:List PP),([]:List PP)),([]:List PP))=some (a2,(tgtP c D.2.2).1,c2,w2):=e2
   rw [e2',zaa,zaa]
   dsimp only
   generalize tgtP c D.2.2=G at h2⊢
   by_cases h1:G.1=0
   ·obtain⟨rfl,rfl,h3⟩:=h2 h1
    rw [if_pos h1,if_pos h1]
    dsimp only
    obtain⟨hpa,hpb⟩:=parP_at (c.drop G.2.2) (by rw [zaj];omega)
    rw [aaa (by omega),zat,params_eq _ (by rw [zaj];omega),zaa,aaa (abb _ (by omega) (by rw [zaj]at hpb;omega)),zaa]
    dsimp only
    by_cases h4:(parP (c.drop G.2.2)).2.2=0
    ·rw [if_pos h4,if_pos h4]
     exact⟨_,rfl⟩
    ·rw [if_neg h4,if_neg h4]
     exact⟨_,rfl⟩
   ·rw [if_neg h1,if_neg h1,zaa]
    dsimp only
    rw [if_neg h1]
    exact⟨_,rfl⟩
  ·rw [if_neg h0,if_neg h0,zaa]
   dsimp only
   rw [if_neg h0,zaa]
   dsimp only
   rw [if_neg h0]
   exact⟨_,rfl⟩
theorem hAddr_eq(v:Str)(hv:v.length≤4194304):afp FU v=some ((avp (ahu v)).2,(avp (ahu v)).1):=by
 obtain⟨a,e⟩:=parseAddr_eq (ahu v)
 unfold afp
 rw [trim_eq v hv,zaa,e,zaa]
def uriH(v:Str):Str×UInt8:=if(avp (ahu v)).1=0 then(prU (avp (ahu v)).2.2.1,0)else([],(avp (ahu v)).1)
theorem hUri_eq(v:Str)(hv:v.length≤4194304):axl FU v=some (uriH v):=by
 unfold axl uriH
 rw [hAddr_eq v hv,zaa]
 dsimp only
 by_cases h:(avp (ahu v)).1=0
 ·rw [if_pos h,if_pos h,print_eq _ (adr_good _ h).1 ((adr_sml _).1.sml (by decide)),zaa]
 ·rw [if_neg h,if_neg h]
theorem hGet_eq(v:Str)(h:(avp (ahu v)).1=0)(name:Str)(hn:name.length≤4194304):akh FU (avp (ahu v)).2.2.2 name=some (getP (avp (ahu v)).2.2.2 name):=by
 obtain⟨_,h2,h3⟩:=adr_good _ h
 exact get_eq _ (by omega) (fun p hp=>(h3 p hp).2) name hn
def TAGN:Str:=[116,97,103]
def tagH(v:Str):Str:=if(avp (ahu v)).1=0 then(getP (avp (ahu v)).2.2.2 TAGN).1 else []
theorem hTag_eq(v:Str)(hv:v.length≤4194304):axm FU v=some (tagH v):=by
 unfold axm tagH
 rw [hAddr_eq v hv,zaa]
 dsimp only
 by_cases h:(avp (ahu v)).1=0
 ·rw [if_pos h,if_pos h,show([116,97,103]:Str)=TAGN from rfl,hGet_eq v h TAGN (by decide),zaa]
 ·rw [if_neg h,if_neg h]
open Bool renaming not_false → zay, not_true → zap, true_and → zax
open Int renaming toNat_natCast → zat
open List renaming any_cons → zbm, append_assoc → zav, append_nil → zan, eq_nil_of_length_eq_zero → zao, length_append → zab, length_cons → zac, length_drop → zaj, length_map → zaF, length_nil → zal, length_singleton → zad, length_take → zaw, nil_append → zaH
open Nat renaming zero_le → zak
open Option renaming bind_some → zaa, map_some → zaP
theorem fld_room(k:Int)(l:List PP)(T:Str):awf k l T=if(awf k [] T).1=0 then(arc l (awf k [] T).2.1,(awf k [] T).2)else(5,([],[],false)):=by
 have h0:∀nm,arc [] nm=0:=fun nm=>rfl
 unfold awf
 cases badP k (T.take (afx T))with
 |some j=>rfl
 |none=>
  dsimp only
  by_cases h1:afx T=0
  ·rw [if_pos h1,if_pos h1];rfl
  ·rw [if_neg h1,if_neg h1]
   by_cases h2:afx T<T.length
   ·rw [if_pos h2,if_pos h2]
    cases badP k (T.drop (afx T+1))with
    |some j=>rfl
    |none=>
     dsimp only
     by_cases h3:T.drop (afx T+1)=[]∧k=1
     ·rw [if_pos h3,if_pos h3];rfl
     ·rw [if_neg h3,if_neg h3,h0];rfl
   ·rw [if_neg h2,if_neg h2]
    by_cases h3:k=2
    ·rw [if_pos h3,if_pos h3];rfl
    ·rw [if_neg h3,if_neg h3,h0];rfl
theorem fld_5(k:Int)(T:Str):(awf k [] T).1=0∨(awf k [] T).1=5:=by
 rw [fld_room k [] T]
 split
 ·exact .inl rfl
 ·exact .inr rfl
theorem failR_no(s:Str)(i a x:Int)(er e:UInt8)(h:¬er=0):awg (s,i,a,er) x e=(s,i,a,er):=if_neg h
theorem param_lp(s:Str)(hs:s.length≤4194303)(i0 a:Int)(er:UInt8)(e:Nat)(he:e≤s.length)(n:Nat):∀(k fk:Nat),k+n=e→n<fk→
  agt FU (s,i0,a,er) (e:Int) fk (k:Int)=some ((k+alj (fun c=> !(c==61)) (sub s (k:Int) (e:Int)):Nat):Int):=by
 induction n with
 |zero=>
  intro k fk hk hf
  obtain⟨fk,rfl⟩:=fkx fk
  obtain rfl:k=e:=by omega
  rw [apq,agd,if_neg (by omega),zaa,cond_false,avs];rfl
 |succ n ih=>
  intro k fk hk hf
  obtain⟨fk,rfl⟩:=fkx fk
  have hsp:sub s (k:Int) (e:Int)=at_ s (k:Int)::sub s ((k+1:Nat):Int) (e:Int):=by
   unfold sub
   simp only [zat]
   rw [aln s k (by omega),show e-k=(e-(k+1))+1 by omega,List.take_succ_cons]
  rw [apq,agd,if_pos (by omega),aaa (by dsimp only;omega),zaa,hsp,alj]
  by_cases h:at_ s (k:Int)=61
  ·rw [decide_eq_true h,zap,cond_false,h];rfl
  ·rw [decide_eq_false h,zay,cond_true,aaa (abb _ (by omega) (by omega)),abl,ih (k+1) fk (by omega) (by omega),if_pos (by simp [h])]
   congr 1
   try dsimp only
   omega
theorem rfParam_eq(s:Str)(hs:s.length≤4194303)(i e:Nat)(hie:i≤e)(he:e≤s.length)(a:Int)(ha:0≤a∧a≤5000000)(k:Int)(hk:k=1∨k=2):
  ∃p a',(0≤a'∧a'≤5000000)∧akz FU (s,(i:Int),a,0) (e:Int) k=some (p,(s,(e:Int),a',(awf k [] (sub s (i:Int) (e:Int))).1))∧aab p.1=p.1∧p.1.length≤s.length∧
   ((awf k [] (sub s (i:Int) (e:Int))).1=0→p=(awf k [] (sub s (i:Int) (e:Int))).2∧a'=a):=by
 have hk3:k=0∨k=1∨k=2:=.inr hk
 have hT:(sub s (i:Int) (e:Int)).length=e-i:=by rw [ajd];omega
 have hst:=fun n h=>sub_take s i e n h
 have hsd:=fun n=>sub_drop2 s i e n
 have hlp:=param_lp s hs (i:Int) a 0 e he (e-i) i FU (by omega) (by rw [adq];omega)
 unfold akz
 dsimp only
 rw [hlp,zaa]
 generalize hTT:sub s (i:Int) (e:Int)=T at hT hst hsd⊢
 have hn:alj (fun c=> !(c==61)) T=afx T:=rfl
 have hn2:afx T≤T.length:=arw _ _
 rw [hn,rfCon_eq s (by omega) i (i+afx T) (by omega) (by omega) a 0 k hk3,hst (afx T) (by omega),zaa]
 have tail:∀(x b:Int) (er:UInt8) (nm:Str),0≤b→b≤5000000→∃v h b',(0≤b'∧b'≤5000000)∧((((if k=(2:Int)then some (decide (((i+afx T:Nat):Int)=(e:Int)))else some false).bind fun(v157:Bool)=>(bif v157 then((aag FU (s,x,b,er) (e:Int) (5:UInt8)).bind fun(y162:RR)=>some (y162.1,y162.2.1,y162.2.2.1,y162.2.2.2))else some (s,x,b,er))).bind fun(v152:RR)=>(((if((i+afx T:Nat):Int)<(e:Int)then(gd (aap (((i+afx T:Nat):Int)+(1:Int)))<|((acg FU (v152.1,((i+afx T:Nat):Int)+(1:Int),v152.2.2.1,v152.2.2.2) (e:Int) k).bind fun(y213:(Str×RR))=>(((if k=(1:Int)then some (decide (y213.1=([]:Str)))else some false)).bind fun(v224:Bool)=>(bif v224 then(gd (aap (((i+afx T:Nat):Int)+(1:Int)))<|((aag FU y213.2 (((i+afx T:Nat):Int)+(1:Int)) (5:UInt8)).bind fun(y230:RR)=>some (y230.1,y230.2.1,y230.2.2.1,y230.2.2.2,y213.1,true)))else some (y213.2.1,y213.2.2.1,y213.2.2.2.1,y213.2.2.2.2,y213.1,true)))))else some (v152.1,v152.2.1,v152.2.2.1,v152.2.2.2,([]:Str),false))).bind fun(v206:(Str×Int×Int×UInt8×Str×Bool))=>some (((nm,v206.2.2.2.2.1,v206.2.2.2.2.2):PP),((v206.1,(e:Int),v206.2.2.1,v206.2.2.2.1):RR)))))=some ((nm,v,h),(s,(e:Int),b',if er=0 then(if afx T<T.length then(match badP k (T.drop (afx T+1))with|some _=>5|none=>if T.drop (afx T+1)=[]∧k=1 then 5 else 0)else if k=2 then 5 else 0)else er))∧
   (er=0→(if afx T<T.length then(match badP k (T.drop (afx T+1))with|some _=>(5:UInt8)|none=>if T.drop (afx T+1)=[]∧k=1 then 5 else 0)else if k=2 then 5 else 0)=0→b'=b∧v=(if afx T<T.length then conP k (T.drop (afx T+1))else [])∧h=decide (afx T<T.length)):=by
  intro x b er nm hb0 hb1
  by_cases hlt:afx T<T.length
  ·have hne:¬((i+afx T:Nat):Int)=(e:Int):=by omega
   have e1:(if k=(2:Int)then some (decide (((i+afx T:Nat):Int)=(e:Int)))else some false)=some false:=by
    rw [decide_eq_false hne];split<;>rfl
   rw [e1,zaa,cond_false,zaa,if_pos (by omega),aaa (abb _ (by omega) (by omega))]
   simp only [if_pos hlt]
   rw [abl,rfCon_eq s (by omega) (i+afx T+1) e (by omega) he b er k hk3,hsd (afx T),zaa]
   cases hb:badP k (T.drop (afx T+1))with
   |some j=>
    have hj:=asn _ _ _ j hb
    rw [zaj]at hj
    dsimp only
    by_cases h0:er=0
    ·have ef:awg (s,((i+afx T+1:Nat):Int),b,er) ((i+afx T+1+j:Nat):Int) 5=(s,((i+afx T+1:Nat):Int),((i+afx T+1+j:Nat):Int),5):=if_pos h0
     rw [ef,if_pos h0]
     rcases hk with rfl|rfl
     ·rw [if_pos rfl,decide_eq_true rfl,zaa,cond_true,aaa (abb _ (by omega) (by omega)),agh,zaa,zaa]
      exact⟨_,_,_,abd,rfl,fun _ h=>absurd h (show¬(5:UInt8)=0 by decide)⟩
     ·rw [if_neg (by decide),zaa,cond_false,zaa]
      exact⟨_,_,_,abd,rfl,fun _ h=>absurd h (show¬(5:UInt8)=0 by decide)⟩
    ·rw [failR_no _ _ _ _ _ _ h0,if_neg h0]
     rcases hk with rfl|rfl
     ·rw [if_pos rfl,decide_eq_true rfl,zaa,cond_true,aaa (abb _ (by omega) (by omega)),agh,failR_no _ _ _ _ _ _ h0,zaa,zaa]
      exact⟨_,_,_,abd,rfl,fun h=>absurd h h0⟩
     ·rw [if_neg (by decide),zaa,cond_false,zaa]
      exact⟨_,_,_,abd,rfl,fun h=>absurd h h0⟩
   |none=>
    have hcn:=conP_nil k (T.drop (afx T+1)) hb
    dsimp only
    have e2:(if k=(1:Int)then some (decide (conP k (T.drop (afx T+1))=[]))else some false)=some (decide (T.drop (afx T+1)=[]∧k=1)):=by
     by_cases h1:k=1
     ·rw [if_pos h1]
      congr 1
      rw [decide_eq_decide,hcn]
      exact⟨fun h=>⟨h,h1⟩,fun h=>h.1⟩
     ·rw [if_neg h1,decide_eq_false (fun h=>h1 h.2)]
    rw [e2,zaa]
    by_cases h3:T.drop (afx T+1)=[]∧k=1
    ·rw [decide_eq_true h3,cond_true,aaa (abb _ (by omega) (by omega)),agh,zaa,zaa,if_pos h3]
     by_cases h0:er=0
     ·have ef:awg (s,(e:Int),b,er) ((i+afx T+1:Nat):Int) 5=(s,(e:Int),((i+afx T+1:Nat):Int),5):=if_pos h0
      rw [ef,if_pos h0]
      exact⟨_,_,_,abd,rfl,fun _ h=>absurd h (show¬(5:UInt8)=0 by decide)⟩
     ·rw [failR_no _ _ _ _ _ _ h0,if_neg h0]
      exact⟨_,_,_,abd,rfl,fun h=>absurd h h0⟩
    ·rw [decide_eq_false h3,cond_false,zaa,if_neg h3]
     by_cases h0:er=0
     ·subst h0
      rw [if_pos rfl]
      exact⟨_,_,_,abd,rfl,fun _ _=>⟨rfl,rfl,(decide_eq_true hlt).symm⟩⟩
     ·rw [if_neg h0]
      exact⟨_,_,_,abd,rfl,fun h=>absurd h h0⟩
  ·have heq:((i+afx T:Nat):Int)=(e:Int):=by omega
   have e1:(if k=(2:Int)then some (decide (((i+afx T:Nat):Int)=(e:Int)))else some false)=some (decide (k=2)):=by
    rw [decide_eq_true heq]
    by_cases h2:k=2
    ·rw [if_pos h2,decide_eq_true h2]
    ·rw [if_neg h2,decide_eq_false h2]
   simp only [if_neg hlt]
   rw [e1,zaa]
   by_cases h2:k=2
   ·rw [decide_eq_true h2,cond_true,agh,zaa,zaa,if_neg (by omega),zaa,if_pos h2]
    by_cases h0:er=0
    ·have ef:awg (s,x,b,er) (e:Int) 5=(s,x,(e:Int),5):=if_pos h0
     rw [ef,if_pos h0]
     exact⟨_,_,_,abd,rfl,fun _ h=>absurd h (show¬(5:UInt8)=0 by decide)⟩
    ·rw [failR_no _ _ _ _ _ _ h0,if_neg h0]
     exact⟨_,_,_,abd,rfl,fun h=>absurd h h0⟩
   ·rw [decide_eq_false h2,cond_false,zaa,if_neg (by omega),zaa,if_neg h2]
    by_cases h0:er=0
    ·subst h0
     rw [if_pos rfl]
     exact⟨_,_,_,abd,rfl,fun _ _=>⟨rfl,rfl,(decide_eq_false hlt).symm⟩⟩
    ·rw [if_neg h0]
     exact⟨_,_,_,abd,rfl,fun h=>absurd h h0⟩
 have htl:(T.take (afx T)).length=afx T:=by rw [zaw];omega
 have hcl:=conP_len k (T.take (afx T))
 have e5:∀er:UInt8,¬er=0→∀X:UInt8,(if er=0 then X else er)=er:=fun er h X=>if_neg h
 have n5:¬(5:UInt8)=0:=by decide
 cases hb:badP k (T.take (afx T))with
 |some j=>
  have hF:awf k [] T=(5,([],[],false)):=by unfold awf;rw [hb]
  have ef:awg (s,(i:Int),a,0) ((i+j:Nat):Int) 5=(s,(i:Int),((i+j:Nat):Int),5):=rfl
  dsimp only
  rw [ef,if_pos rfl,agh,failR_no _ _ _ _ _ _ n5,zaa,zaa,afy _ (by decide),zaa]
  have hj:=asn _ _ _ j hb
  obtain⟨v,h,b',hab,t1,t2⟩:=tail (i:Int) ((i+j:Nat):Int) 5 (aab []) (by omega) (by omega)
  rw [e5 5 n5]at t1
  rw [hF]
  exact⟨_,_,hab,t1,rfl,zak _,fun h=>absurd h n5⟩
 |none=>
  have hcn:=conP_nil k (T.take (afx T)) hb
  dsimp only
  by_cases h0:afx T=0
  ·have hnil:T.take (afx T)=[]:=zao (by omega)
   have hF:awf k [] T=(5,([],[],false)):=by unfold awf;rw [hb];dsimp only;rw [if_pos h0]
   have hc0:=hcn.2 hnil
   have ef:awg (s,((i+afx T:Nat):Int),a,0) (i:Int) 5=(s,((i+afx T:Nat):Int),(i:Int),5):=rfl
   rw [hc0,if_pos rfl,agh,ef,zaa,zaa,afy _ (by decide),zaa]
   obtain⟨v,h,b',hab,t1,t2⟩:=tail ((i+afx T:Nat):Int) (i:Int) 5 (aab []) (by omega) (by omega)
   rw [e5 5 n5]at t1
   rw [hF]
   exact⟨_,_,hab,t1,rfl,zak _,fun h=>absurd h n5⟩
  ·have hnn:¬conP k (T.take (afx T))=[]:=fun e=>h0 (by rw [←htl,hcn.1 e];rfl)
   rw [if_neg hnn,zaa,afy _ (by omega),zaa]
   obtain⟨v,h,b',hab,t1,t2⟩:=tail ((i+afx T:Nat):Int) a 0 (aab (conP k (T.take (afx T)))) ha.1 ha.2
   rw [if_pos rfl]at t1
   have hE:(awf k [] T).1=(if afx T<T.length then(match badP k (T.drop (afx T+1))with|some _=>(5:UInt8)|none=>if T.drop (afx T+1)=[]∧k=1 then 5 else 0)else if k=2 then 5 else 0):=by
    unfold awf
    rw [hb]
    dsimp only
    rw [if_neg h0]
    by_cases hlt:afx T<T.length
    ·rw [if_pos hlt,if_pos hlt]
     cases badP k (T.drop (afx T+1))with
     |some j=>rfl
     |none=>
      dsimp only
      by_cases h3:T.drop (afx T+1)=[]∧k=1
      ·rw [if_pos h3,if_pos h3]
      ·rw [if_neg h3,if_neg h3];rfl
    ·rw [if_neg hlt,if_neg hlt]
     by_cases h3:k=2
     ·rw [if_pos h3,if_pos h3]
     ·rw [if_neg h3,if_neg h3];rfl
   have hll:(aab (conP k (T.take (afx T)))).length≤s.length:=by unfold aab;rw [zaF];omega
   rw [hE]
   refine⟨_,_,hab,t1,lowlowL _,hll,fun hz=> ?_⟩
   obtain⟨q1,q2,q3⟩:=t2 rfl hz
   refine⟨?_,q1⟩
   rw [q2,q3]
   unfold awf
   rw [hb]
   dsimp only
   rw [if_neg h0]
   by_cases hlt:afx T<T.length
   ·rw [if_pos hlt]at hz⊢
    rw [if_pos hlt]
    cases hb2:badP k (T.drop (afx T+1))with
    |some j=>rw [hb2]at hz;exact absurd hz n5
    |none=>
     rw [hb2]at hz
     dsimp only at hz⊢
     by_cases h3:T.drop (afx T+1)=[]∧k=1
     ·rw [if_pos h3]at hz;exact absurd hz n5
     ·rw [if_neg h3,decide_eq_true hlt]
   ·rw [if_neg hlt]at hz⊢
    rw [if_neg hlt]
    by_cases h3:k=2
    ·rw [if_pos h3]at hz;exact absurd hz n5
    ·rw [if_neg h3,decide_eq_false hlt]
def lowQ(l:List PP):Prop:=∀p∈l,aab p.1=p.1∧p.1.length≤4194304
theorem lowQ.snoc{l:List PP}(h:lowQ l)(p:PP)(h1:aab p.1=p.1)(h2:p.1.length≤4194304):lowQ (l++[p]):=fun q hq=>by
 rcases List.mem_append.1 hq with h'|h'
 ·exact h q h'
 ·rw [List.mem_singleton.1 h'];exact⟨h1,h2⟩
theorem rfStep(s:Str)(hs:s.length≤4194303)(azr nx:UInt8)(st:Str)(h1:st.length≤1000)(k:Int)(hk:k=1∨k=2)(fk i:Nat)(l:List PP)(a:Int)(ha:0≤a∧a≤5000000)(hsee:aax s i nx=true)(hl:l.length≤16)(hL:lowQ l):
  ∃p a',(0≤a'∧a'≤5000000)∧abq FU azr st k (fk+1) l nx s (i:Int) a 0=abq FU azr st k fk (l++[p]) azr s (utl st s (i+1):Int) a' (awf k l (sub s ((i+1:Nat):Int) (utl st s (i+1):Int))).1∧aab p.1=p.1∧p.1.length≤s.length∧
   ((awf k l (sub s ((i+1:Nat):Int) (utl st s (i+1):Int))).1=0→p=(awf k l (sub s ((i+1:Nat):Int) (utl st s (i+1):Int))).2∧a'=a):=by
 have hlt:=(acz hsee).1
 have hu1:=ame st s (i+1)
 have hu2:=aks st s (i+1) hlt
 obtain⟨p,a1,hab,e1,q1,q2,q3⟩:=rfParam_eq s hs (i+1) (utl st s (i+1)) hu1 hu2 a ha k hk
 rw [aqi,agu,is_eq,zaa,hsee,cond_true,aaa (abb _ (by omega) (by omega)),abl,ati s (by omega) (i+1) hlt a 0 st h1,zaa,e1,zaa]
 dsimp only
 rw [rfRoom_eq l (by omega) (fun q hq=>(hL q hq).2) p.1 (by omega) (fun q hq=>(hL q hq).1) q1,zaa,fld_room k l]
 have hg:(l.length+([p]:List PP).length)*40≤140737488355328:=by rw [zad];omega
 generalize sub s ((i+1:Nat):Int) (utl st s (i+1):Int)=T at q3⊢
 by_cases h0:(awf k [] T).1=0
 ·obtain⟨r1,r2⟩:=q3 h0
  rw [if_pos h0,←r1,h0]
  by_cases hr:arc l p.1=0
  ·rw [if_pos hr,zaa,aaa hg,hr]
   exact⟨p,a1,hab,rfl,q1,q2,fun _=>⟨rfl,r2⟩⟩
  ·have ef:awg (s,(utl st s (i+1):Int),a1,0) ((i+1:Nat):Int) (arc l p.1)=(s,(utl st s (i+1):Int),((i+1:Nat):Int),arc l p.1):=rfl
   rw [if_neg hr,agh,ef,zaa,zaa,aaa hg]
   exact⟨p,_,abd,rfl,q1,q2,fun h=>absurd h hr⟩
 ·have h5:(awf k [] T).1=5:=(fld_5 k T).resolve_left h0
  have n5:¬(5:UInt8)=0:=by decide
  rw [if_neg h0,h5]
  by_cases hr:arc l p.1=0
  ·rw [if_pos hr,zaa,aaa hg]
   exact⟨p,a1,hab,rfl,q1,q2,fun h=>absurd h n5⟩
  ·rw [if_neg hr,agh,failR_no _ _ _ _ _ _ n5,zaa,zaa,aaa hg]
   exact⟨p,a1,hab,rfl,q1,q2,fun h=>absurd h n5⟩
theorem rfStop(s:Str)(azr nx:UInt8)(st:Str)(k:Int)(fk:Nat)(i:Int)(l:List PP)(a:Int)(er:UInt8)(h:abj FU (s,i,a,er) nx=some false):abq FU azr st k (fk+1) l nx s i a er=some (l,s,i,a,er):=by
 rw [aqi,agu,h,zaa,cond_false]
theorem rfPl_lp(s:Str)(hs:s.length≤4194303)(st:Str)(h1:st.length≤1000)(a:Int)(ha:0≤a∧a≤5000000)(n:Nat):∀(i fk f:Nat) (l:List PP),s.length-i≤n→n+1<fk→n<f→i≤s.length→l.length≤16→lowQ l→
  ∃l' i' a',(0≤a'∧a'≤5000000)∧abq FU 59 st 1 fk l 59 s (i:Int) a 0=some (l',s,i',a',(plL st s f i l).1)∧l'.length≤17∧((plL st s f i l).1=0→l'=(plL st s f i l).2.2∧i'=((plL st s f i l).2.1:Int)∧a'=a):=by
 induction n with
 |zero=>
  intro i fk f l hi hf hff hil hl hL
  obtain⟨fk,rfl⟩:=fkx fk
  obtain⟨f,rfl⟩:∃m,f=m+1:=⟨f-1,by omega⟩
  have hz:aax s i 59=false:=by unfold aax;rw [decide_eq_false (by omega)];rfl
  rw [rfStop _ _ _ _ _ _ _ _ _ _ (by rw [is_eq,hz]),plL,hz,if_neg (by decide)]
  exact⟨_,_,_,abd,rfl,by omega,fun _=>⟨rfl,rfl,rfl⟩⟩
 |succ n ih=>
  intro i fk f l hi hf hff hil hl hL
  obtain⟨fk,rfl⟩:=fkx fk
  obtain⟨f,rfl⟩:∃m,f=m+1:=⟨f-1,by omega⟩
  cases hz:aax s i 59 with
  |false=>
   rw [rfStop _ _ _ _ _ _ _ _ _ _ (by rw [is_eq,hz]),plL,hz,if_neg (by decide)]
   exact⟨_,_,_,abd,rfl,by omega,fun _=>⟨rfl,rfl,rfl⟩⟩
  |true=>
   have hlt:=(acz hz).1
   have hu1:=ame st s (i+1)
   have hu2:=aks st s (i+1) hlt
   obtain⟨p,a1,hab,e1,q1,q2,q3⟩:=rfStep s hs 59 59 st h1 1 (.inl rfl) fk i l a ha hz hl hL
   rw [e1,plL,hz,if_pos rfl]
   by_cases h0:(awf 1 l (sub s ((i+1:Nat):Int) (utl st s (i+1):Int))).1=0
   ·obtain⟨r1,r2⟩:=q3 h0
    have:=fld_len h0
    rw [if_pos h0,h0,r2,←r1]
    exact ih (utl st s (i+1)) fk f _ (by omega) (by omega) (by omega) hu2 (by simp only [zab,zac,zal];omega) (hL.snoc p q1 (by omega))
   ·rw [if_neg h0]
    obtain⟨fk,rfl⟩:=fkx fk
    rw [rfStop _ _ _ _ _ _ _ _ _ _ (is_no s _ _ _ h0 _)]
    exact⟨_,_,_,abd,rfl,by simp only [zab,zac,zal];omega,fun h=>absurd h h0⟩
theorem rfHd_lp(s:Str)(hs:s.length≤4194303)(a:Int)(ha:0≤a∧a≤5000000)(n:Nat):∀(i fk f:Nat) (nx:UInt8) (l:List PP),s.length-i≤n→n+1<fk→n<f→i≤s.length→(i=s.length∨aax s i nx=true)→l.length≤16→lowQ l→
  ∃l' i' a',(0≤a'∧a'≤5000000)∧abq FU 38 [38] 2 fk l nx s (i:Int) a 0=some (l',s,i',a',(hdL s f i l).1)∧l'.length≤17∧((hdL s f i l).1=0→l'=(hdL s f i l).2):=by
 induction n with
 |zero=>
  intro i fk f nx l hi hf hff hil hse hl hL
  obtain⟨fk,rfl⟩:=fkx fk
  obtain⟨f,rfl⟩:∃m,f=m+1:=⟨f-1,by omega⟩
  have hz:aax s i nx=false:=by unfold aax;rw [decide_eq_false (by omega)];rfl
  rw [rfStop _ _ _ _ _ _ _ _ _ _ (by rw [is_eq,hz]),hdL,if_neg (by omega)]
  exact⟨_,_,_,abd,rfl,by omega,fun _=>rfl⟩
 |succ n ih=>
  intro i fk f nx l hi hf hff hil hse hl hL
  obtain⟨fk,rfl⟩:=fkx fk
  obtain⟨f,rfl⟩:∃m,f=m+1:=⟨f-1,by omega⟩
  by_cases hlt:i<s.length
  ·have hz:aax s i nx=true:=hse.resolve_left (by omega)
   have hu1:=ame [38] s (i+1)
   have hu2:=aks [38] s (i+1) hlt
   obtain⟨p,a1,hab,e1,q1,q2,q3⟩:=rfStep s hs 38 nx [38] (by decide) 2 (.inr rfl) fk i l a ha hz hl hL
   rw [e1,hdL,if_pos hlt]
   by_cases h0:(awf 2 l (sub s ((i+1:Nat):Int) (utl [38] s (i+1):Int))).1=0
   ·obtain⟨r1,r2⟩:=q3 h0
    have:=fld_len h0
    rw [if_pos h0,h0,r2,←r1]
    refine ih (utl [38] s (i+1)) fk f 38 _ (by omega) (by omega) (by omega) hu2 ?_ (by simp only [zab,zac,zal];omega) (hL.snoc p q1 (by omega))
    by_cases he:utl [38] s (i+1)=s.length
    ·exact .inl he
    ·have hst:=ayw [38] s (i+1) hlt (by omega)
     refine .inr ?_
     unfold aax
     rw [decide_eq_true (by omega),zax]
     unfold aoa at hst
     rw [zbm,List.any_nil,Bool.or_false]at hst
     have e2:=eq_of_beq hst
     rw [←e2];rfl
   ·rw [if_neg h0]
    obtain⟨fk,rfl⟩:=fkx fk
    rw [rfStop _ _ _ _ _ _ _ _ _ _ (is_no s _ _ _ h0 _)]
    exact⟨_,_,_,abd,rfl,by simp only [zab,zac,zal];omega,fun h=>absurd h h0⟩
  ·have hz:aax s i nx=false:=by unfold aax;rw [decide_eq_false (by omega)];rfl
   rw [rfStop _ _ _ _ _ _ _ _ _ _ (by rw [is_eq,hz]),hdL,if_neg hlt]
   exact⟨_,_,_,abd,rfl,by omega,fun _=>rfl⟩
theorem rfList1(s:Str)(hs:s.length≤4194303)(st:Str)(h1:st.length≤1000)(a:Int)(ha:0≤a∧a≤5000000)(i:Nat)(hi:i≤s.length):
  ∃l' i' a',(0≤a'∧a'≤5000000)∧aam FU (s,(i:Int),a,0) 59 59 st 1=some (aps l',(s,i',a',(plL st s (s.length+1) i []).1))∧((plL st s (s.length+1) i []).1=0→l'=(plL st s (s.length+1) i []).2.2∧i'=((plL st s (s.length+1) i []).2.1:Int)∧a'=a):=by
 obtain⟨l',i',a',hab,e,h2,h3⟩:=rfPl_lp s hs st h1 a ha s.length i FU (s.length+1) [] (by omega) (by rw [adq];omega) (by omega) hi (by decide) (fun p hp=>by cases hp)
 unfold aam
 dsimp only
 rw [e,zaa]
 dsimp only
 rw [aza l' (by omega),zaa]
 exact⟨l',i',a',hab,rfl,h3⟩
theorem rfList2(s:Str)(hs:s.length≤4194303)(a:Int)(ha:0≤a∧a≤5000000)(i:Nat)(hi:i≤s.length)(hse:i=s.length∨aax s i 63=true):
  ∃l' r',(0≤r'.2.2.1∧r'.2.2.1≤5000000)∧aam FU (s,(i:Int),a,0) 63 38 [38] 2=some (aps l',r')∧r'.2.2.2=(hdL s (s.length+1) i []).1∧((hdL s (s.length+1) i []).1=0→l'=(hdL s (s.length+1) i []).2):=by
 obtain⟨l',i',a',hab,e,h2,h3⟩:=rfHd_lp s hs a ha s.length i FU (s.length+1) 63 [] (by omega) (by rw [adq];omega) (by omega) hi hse (by decide) (fun p hp=>by cases hp)
 unfold aam
 dsimp only
 rw [e,zaa]
 dsimp only
 rw [aza l' (by omega),zaa]
 exact⟨l',_,hab,rfl,rfl,h3⟩
theorem rfListNo(r:RR)(hr:¬r.2.2.2=0)(f g:UInt8)(st:Str)(k:Int):aam FU r f g st k=some ([],r):=by
 obtain⟨s,i,a,er⟩:=r
 obtain⟨m,hm⟩:∃m,FU=m+1:=⟨FU-1,by rw [adq]⟩
 have e:abq FU g st k FU [] f s i a er=some ([],s,i,a,er):=by
  have:=rfStop s g f st k m i [] a er (is_no s i a er hr f)
  rw [←hm]at this
  exact this
 unfold aam
 dsimp only
 rw [e,zaa]
 dsimp only
 rw [aza [] (by decide),zaa];rfl
theorem plL_end2(s:Str):∀(f i:Nat) (l:List PP),i≤s.length→s.length-i<f→(i=s.length∨aax s i 59=true∨aax s i 63=true)→(plL [59,63] s f i l).1=0→(plL [59,63] s f i l).2.1=s.length∨aax s (plL [59,63] s f i l).2.1 63=true
 |0,i,l,h1,h2,h3,h4=>by omega
 |f+1,i,l,h1,h2,h3,h4=>by
  rw [plL]at h4⊢
  by_cases hz:aax s i 59=true
  ·rw [if_pos hz]at h4⊢
   have hlt:=(acz hz).1
   have hu1:=ame [59,63] s (i+1)
   have hu2:=aks [59,63] s (i+1) hlt
   by_cases h0:(awf 1 l (sub s ((i+1:Nat):Int) (utl [59,63] s (i+1):Int))).1=0
   ·rw [if_pos h0]at h4⊢
    refine plL_end2 s f _ _ hu2 (by omega) ?_ h4
    by_cases he:utl [59,63] s (i+1)=s.length
    ·exact .inl he
    ·have hst:=ayw [59,63] s (i+1) hlt (by omega)
     refine .inr ?_
     unfold aax
     rw [decide_eq_true (by omega),zax,zax]
     unfold aoa at hst
     rw [zbm,zbm,List.any_nil,Bool.or_false,Bool.or_eq_true]at hst
     rcases hst with h|h
     ·left
      have e2:=eq_of_beq h
      rw [←e2];rfl
     ·right
      have e2:=eq_of_beq h
      rw [←e2];rfl
   ·rw [if_neg h0]at h4
    exact absurd h4 h0
  ·rw [if_neg hz]
   rcases h3 with h|h|h
   ·exact .inl h
   ·exact absurd h hz
   ·exact .inr h
theorem hpP_end(s:Str)(i:Nat)(hi:i≤s.length)(h:(hpP s i).1=0):(hpP s i).2.2.2=s.length∨aax s (hpP s i).2.2.2 59=true∨aax s (hpP s i).2.2.2 63=true:=by
 have hb:=hEnd_bd s i hi
 unfold hpP at h⊢
 generalize hEnd s i=e at hb h⊢
 split
 ·rename_i x;rw [if_pos x]at h;exact absurd h (by decide)
 ·rename_i x
  rw [if_neg x]at h
  split
  ·rename_i y
   rw [if_pos y]at h
   have hlt:=(acz y).1
   have hu1:=ame [59,63] s (e+1)
   have hu2:=aks [59,63] s (e+1) hlt
   split
   ·dsimp only
    by_cases he:utl [59,63] s (e+1)=s.length
    ·exact .inl he
    ·have hst:=ayw [59,63] s (e+1) hlt (by omega)
     refine .inr ?_
     unfold aax
     rw [decide_eq_true (by omega),zax,zax]
     unfold aoa at hst
     rw [zbm,zbm,List.any_nil,Bool.or_false,Bool.or_eq_true]at hst
     rcases hst with h|h
     ·left
      have e2:=eq_of_beq h
      rw [←e2];rfl
     ·right
      have e2:=eq_of_beq h
      rw [←e2];rfl
   ·rename_i z
    rw [if_neg z]at h
    exact absurd h z
  ·rename_i y
   rw [if_neg y]at h
   split
   ·rename_i z
    rw [if_pos z]at h
    exact absurd h (by decide)
   ·rename_i z
    dsimp only
    by_cases he:e=s.length
    ·exact .inl he
    ·refine .inr ?_
     cases h59:aax s e 59 with
     |true=>exact .inl rfl
     |false=>
      cases h63:aax s e 63 with
      |true=>exact .inr rfl
      |false=>exact absurd ⟨by omega,h59,h63⟩ z
theorem rfDial(sg:Bool)(c:UInt8)(b:Bool)(hb:b=false):((adn FU c).bind fun(y321:Bool)=>(bif y321 then some true else(bif (!sg)then(if c=(42:UInt8)then some true else(if c=(35:UInt8)then some true else(bif sg then some b else some false)))else(bif sg then some b else some false))))=some (dialB sg c):=by
 subst hb
 revert c
 cases sg<;>exact aaz _ (by decide+kernel)
theorem rfTel_lp(s:Str)(hs:s.length≤4194303)(i0:Int)(e:Nat)(he:e≤s.length)(sg:Bool)(n:Nat):∀(k fk:Nat) (b:Str),k+n=e→n<fk→b.length≤k→(sg=true→i0<(k:Int))→
  ∃j,abi FU (s,i0,0,0) (e:Int) sg fk b (k:Int)=some j∧
   (match arj sg (sub s (k:Int) (e:Int))with
   |some d=>j=.inl (b++d)
   |none=>∃a,(0≤a∧a≤5000000)∧j=.inr ([],(s,i0,a,5))):=by
 induction n with
 |zero=>
  intro k fk b hk hf hb hi0
  obtain⟨fk,rfl⟩:=fkx fk
  obtain rfl:k=e:=by omega
  rw [agj,acv,if_neg (by omega),avs]
  exact⟨_,rfl,by simp only [arj,zan]⟩
 |succ n ih=>
  intro k fk b hk hf hb hi0
  obtain⟨fk,rfl⟩:=fkx fk
  have hsp:sub s (k:Int) (e:Int)=at_ s (k:Int)::sub s ((k+1:Nat):Int) (e:Int):=by
   unfold sub
   simp only [zat]
   rw [aln s k (by omega),show e-k=(e-(k+1))+1 by omega,List.take_succ_cons]
  have hd0:((adn FU (at_ s (k:Int))).bind fun(y321:Bool)=>(bif y321 then some true else(bif (!sg)then(if(at_ s (k:Int))=(42:UInt8)then some true else(if(at_ s (k:Int))=(35:UInt8)then some true else(bif sg then some (decide ((k:Int)=i0))else some false)))else(bif sg then some (decide ((k:Int)=i0))else some false))))=some (dialB sg (at_ s (k:Int))):=by
   cases sg with
   |true=>exact rfDial true _ _ (decide_eq_false (by have:=hi0 rfl;omega))
   |false=>exact rfDial false _ false rfl
  rw [agj,acv,if_pos (by omega),aaa (by dsimp only;omega)]
  dsimp only
  rw [hd0,zaa,hsp]
  unfold arj
  cases hd:dialB sg (at_ s (k:Int))with
  |true=>
   rw [cond_true,aaa (by simp only [zac,zal];omega),aaa (abb _ (by omega) (by omega)),abl,if_pos rfl]
   obtain⟨j,h1,h2⟩:=ih (k+1) fk (b++[at_ s (k:Int)]) (by omega) (by omega) (by simp only [zab,zac,zal];omega) (fun h=>by have:=hi0 h;omega)
   refine⟨j,h1, ?_⟩
   cases hk2:arj sg (sub s ((k+1:Nat):Int) (e:Int))with
   |none=>rw [hk2]at h2;exact h2
   |some d=>
    rw [hk2]at h2
    simp only [zaP]
    rw [h2,zav];rfl
  |false=>
   have hgap:aoa [45,46,40,41] (at_ s (k:Int))=gapB (at_ s (k:Int)):=by
    generalize at_ s (k:Int)=c
    revert c
    exact aaz _ (by decide+kernel)
   rw [cond_false,arl _ _ (by decide),hgap,zaa,if_neg (by decide)]
   cases hg:gapB (at_ s (k:Int))with
   |true=>
    rw [zap,cond_false,aaa (abb _ (by omega) (by omega)),abl,if_pos rfl]
    exact ih (k+1) fk b (by omega) (by omega) (by omega) (fun h=>by have:=hi0 h;omega)
   |false=>
    rw [zay,cond_true,agh,zaa,if_neg (by decide)]
    exact⟨_,rfl,_,(by omega),rfl⟩
theorem rfTel_eq(s:Str)(hs:s.length≤4194303)(i:Nat)(hi:i≤s.length):∃u r,adf FU (s,(i:Int),0,0)=some (u,r)∧r.1=s∧(0≤r.2.2.1∧r.2.2.1≤5000000)∧r.2.2.2=(telP s i).1∧((telP s i).1=0→u=(telP s i).2∧r=(s,(utl [59] s i:Int),0,0)):=by
 have hu1:=ame [59] s i
 have hu2:=aks [59] s i hi
 have n5:¬(5:UInt8)=0:=by decide
 have fin:∀(d out:Str) (m:Int),m=(d.length:Int)→∃u r,((if m<(1:Int)then((aag FU (s,(i:Int),0,0) (i:Int) (5:UInt8)).bind fun(y384:RR)=>some (y384.1,y384.2.1,y384.2.2.1,y384.2.2.2))else some (s,(i:Int),(0:Int),(0:UInt8))).bind fun(v382:RR)=>(((if(30:Int)<m then((aag FU v382 (i:Int) (4:UInt8)).bind fun(y405:RR)=>some (y405.1,y405.2.1,y405.2.2.1,y405.2.2.2))else some (v382.1,v382.2.1,v382.2.2.1,v382.2.2.2))).bind fun(v403:RR)=>some (out,((v403.1,((utl [59] s i:Nat):Int),v403.2.2.1,v403.2.2.2):RR))))=some (u,r)∧r.1=s∧(0≤r.2.2.1∧r.2.2.1≤5000000)∧r.2.2.2=(if d=[]then((5,[]):UInt8×Str)else if 30<d.length then(4,[])else(0,out)).1∧((if d=[]then((5,[]):UInt8×Str)else if 30<d.length then(4,[])else(0,out)).1=0→u=(if d=[]then((5,[]):UInt8×Str)else if 30<d.length then(4,[])else(0,out)).2∧r=(s,(utl [59] s i:Int),0,0)):=by
  intro d out m hm
  by_cases h0:d=[]
  ·have hm0:m=0:=by rw [hm,h0];rfl
   have ef:awg (s,(i:Int),0,0) (i:Int) 5=(s,(i:Int),(i:Int),5):=rfl
   rw [if_pos (by omega),agh,ef,zaa,zaa,if_neg (by omega),zaa,if_pos h0]
   exact⟨_,_,rfl,rfl,abd,rfl,fun h=>absurd h n5⟩
  ·have hp:=List.length_pos_iff.2 h0
   rw [if_neg (by omega),zaa,if_neg h0]
   by_cases h30:30<d.length
   ·have ef:awg (s,(i:Int),0,0) (i:Int) 4=(s,(i:Int),(i:Int),4):=rfl
    rw [if_pos (by omega),agh,ef,zaa,zaa,if_pos h30]
    exact⟨_,_,rfl,rfl,abd,rfl,fun h=>absurd h (show¬(4:UInt8)=0 by decide)⟩
   ·rw [if_neg (by omega),zaa,if_neg h30]
    exact⟨_,_,rfl,rfl,abd,rfl,fun _=>⟨rfl,rfl⟩⟩
 unfold adf telP
 rw [ati s (by omega) i hi 0 0 _ (by decide),zaa,is_eq,zaa]
 dsimp only
 cases hsg:aax s i 43 with
 |true=>
  have hlt:=(acz hsg).1
  have hat:=(acz hsg).2
  have hst:=utl_step [59] s i hlt (by rw [hat];decide)
  have hu3:=ame [59] s (i+1)
  obtain⟨m,hm⟩:∃m,FU=m+1:=⟨FU-1,by rw [adq]⟩
  have step:abi FU (s,(i:Int),0,0) (utl [59] s i:Int) true FU [] (i:Int)=abi FU (s,(i:Int),0,0) (utl [59] s i:Int) true m [43] ((i+1:Nat):Int):=by
   rw [show abi FU (s,(i:Int),0,0) (utl [59] s i:Int) true FU [] (i:Int)=abi FU (s,(i:Int),0,0) (utl [59] s i:Int) true (m+1) [] (i:Int)by rw [←hm]]
   have h43:adn FU 43=some false:=by decide+kernel
   rw [agj,acv,if_pos (by omega),aaa (by dsimp only;omega)]
   dsimp only
   rw [hat,h43,zaa,cond_false,zap,cond_false,cond_true,decide_eq_true rfl,zaa,cond_true,aaa (by decide),aaa (abb _ (by omega) (by omega)),abl];rfl
  obtain⟨j,h1,h2⟩:=rfTel_lp s hs (i:Int) (utl [59] s i) hu2 true (utl [59] s i-(i+1)) (i+1) m [43] (by omega) (by rw [adq]at hm;omega) (by simp only [zac,zal];omega) (fun _=>by omega)
  rw [step,h1,zaa,if_pos rfl]
  cases hk:arj true (sub s ((i+1:Nat):Int) ((utl [59] s i:Nat):Int))with
  |none=>
   rw [hk]at h2
   obtain⟨a,hab,rfl⟩:=h2
   rw [zaR]
   exact⟨_,_,rfl,rfl,abd,rfl,fun h=>absurd h n5⟩
  |some d=>
   rw [hk]at h2
   dsimp only at h2
   have hdl:=keepN_len true _ _ hk
   have hsl:=sub_le s ((i+1:Nat):Int) ((utl [59] s i:Nat):Int)
   subst h2
   rw [zaz]
   dsimp only
   rw [cond_true,aaa (abb _ (by simp only [zab,zac,zal];omega) (by simp only [zab,zac,zal];omega)),zaa]
   have:=fin d ([43]++d) ((([43]++d).length:Int)-1) (by simp only [zab,zac,zal];omega)
   rw [if_pos rfl]
   exact this
 |false=>
  obtain⟨j,h1,h2⟩:=rfTel_lp s hs (i:Int) (utl [59] s i) hu2 false (utl [59] s i-i) i FU [] (by omega) (by rw [adq];omega) (by simp) (fun h=>by cases h)
  rw [h1,zaa,if_neg (by decide)]
  cases hk:arj false (sub s (i:Int) ((utl [59] s i:Nat):Int))with
  |none=>
   rw [hk]at h2
   obtain⟨a,hab,rfl⟩:=h2
   rw [zaR]
   exact⟨_,_,rfl,rfl,abd,rfl,fun h=>absurd h n5⟩
  |some d=>
   rw [hk]at h2
   dsimp only at h2
   subst h2
   rw [zaz]
   dsimp only
   rw [zaH,cond_false,zaa,if_neg (show¬(false=true)by decide)]
   exact fin d d (d.length:Int) rfl
theorem rfRest(s:Str)(hs:s.length≤4194303)(sch us h:Str)(port:Int)(i:Nat)(hi:i≤s.length)(hse:i=s.length∨aax s i 59=true∨aax s i 63=true):∃x y,aam FU (s,(i:Int),0,0) 59 59 [59,63] 1=some x∧aam FU x.2 63 38 [38] 2=some y∧(0≤y.2.2.2.1∧y.2.2.2.1≤5000000)∧y.2.2.2.2=(aqa [59,63] s sch us h port i).1∧((aqa [59,63] s sch us h port i).1=0→(sch,us,h,port,x.1,y.1)=(aqa [59,63] s sch us h port i).2):=by
 obtain⟨l1,i1,a1,hab,e1,h1⟩:=rfList1 s hs [59,63] (by decide) 0 (by decide) i hi
 unfold aqa
 by_cases h0:(plL [59,63] s (s.length+1) i []).1=0
 ·obtain⟨q1,q2,q3⟩:=h1 h0
  subst q1 q2 q3
  rw [if_pos h0]
  rw [h0]at e1
  have hle:=plL_le [59,63] s (s.length+1) i [] hi h0
  have hend:=plL_end2 s (s.length+1) i [] hi (by omega) hse h0
  obtain⟨l2,r2,hab2,e2,g1,g2⟩:=rfList2 s hs 0 (by decide) _ hle hend
  refine⟨_,_,e1,e2,hab2, ?_⟩
  by_cases h3:(hdL s (s.length+1) (plL [59,63] s (s.length+1) i []).2.1 []).1=0
  ·rw [if_pos h3]
   refine⟨g1.trans h3,fun _=> ?_⟩
   rw [g2 h3]
  ·rw [if_neg h3]
   exact⟨g1,fun h=>absurd h h3⟩
 ·rw [if_neg h0]
  have:=rfListNo (s,i1,a1,(plL [59,63] s (s.length+1) i []).1) h0 63 38 [38] 2
  exact⟨_,_,e1,this,hab,rfl,fun h=>absurd h h0⟩
theorem rfRestNo(r:RR)(hr:¬r.2.2.2=0):∃x y,aam FU r 59 59 [59,63] 1=some x∧aam FU x.2 63 38 [38] 2=some y∧y.2.2.2.1=r.2.2.1∧y.2.2.2.2=r.2.2.2:=
 ⟨_,_,rfListNo r hr 59 59 [59,63] 1,rfListNo r hr 63 38 [38] 2,rfl,rfl⟩
theorem rfHostNo(r:RR)(hr:¬r.2.2.2=0):acs FU r=some ([],r):=by
 obtain⟨s,i,a,er⟩:=r
 unfold acs
 dsimp only
 rw [if_neg hr]
theorem rfPlace(s:Str)(hs:s.length≤4194303)(i:Nat)(hi:i≤s.length)(sch:Str):∃u h p x y,ain FU (s,(i:Int),0,0)=some u∧acs FU u.2=some h∧acb FU h.2=some p∧aam FU p.2 59 59 [59,63] 1=some x∧aam FU x.2 63 38 [38] 2=some y∧(0≤y.2.2.2.1∧y.2.2.2.1≤5000000)∧
  y.2.2.2.2=(if(plP s i).1=0 then aqa [59,63] s sch (plP s i).2.1 (plP s i).2.2.1 (plP s i).2.2.2.1 (plP s i).2.2.2.2 else((plP s i).1,nilU)).1∧
  ((if(plP s i).1=0 then aqa [59,63] s sch (plP s i).2.1 (plP s i).2.2.1 (plP s i).2.2.2.1 (plP s i).2.2.2.2 else((plP s i).1,nilU)).1=0→(sch,u.1,h.1,p.1,x.1,y.1)=(if(plP s i).1=0 then aqa [59,63] s sch (plP s i).2.1 (plP s i).2.2.1 (plP s i).2.2.2.1 (plP s i).2.2.2.2 else((plP s i).1,nilU)).2):=by
 obtain⟨u,r,e1,r1,hab,r2⟩:=rfUser_eq s hs i hi
 have go:∀(us:Str) (j:Nat),j≤s.length→∃h p x y,acs FU (s,(j:Int),0,0)=some h∧acb FU h.2=some p∧aam FU p.2 59 59 [59,63] 1=some x∧aam FU x.2 63 38 [38] 2=some y∧(0≤y.2.2.2.1∧y.2.2.2.1≤5000000)∧
   y.2.2.2.2=(if(hpP s j).1=0 then aqa [59,63] s sch us (hpP s j).2.1 (hpP s j).2.2.1 (hpP s j).2.2.2 else((hpP s j).1,nilU)).1∧
   ((if(hpP s j).1=0 then aqa [59,63] s sch us (hpP s j).2.1 (hpP s j).2.2.1 (hpP s j).2.2.2 else((hpP s j).1,nilU)).1=0→(sch,us,h.1,p.1,x.1,y.1)=(if(hpP s j).1=0 then aqa [59,63] s sch us (hpP s j).2.1 (hpP s j).2.2.1 (hpP s j).2.2.2 else((hpP s j).1,nilU)).2):=by
  intro us j hj
  obtain⟨h,p,e2,e3,q1,hp2,q2,q3⟩:=rfHp_eq s (by omega) j hj
  by_cases h0:(hpP s j).1=0
  ·obtain⟨t1,t2,t3⟩:=q3 h0
   have hle:=hpP_le s j hj
   have hend:=hpP_end s j hj h0
   obtain⟨x,y,e4,e5,hy,g1,g2⟩:=rfRest s hs sch us (hpP s j).2.1 (hpP s j).2.2.1 (hpP s j).2.2.2 hle hend
   rw [if_pos h0]
   refine⟨h,p,x,y,e2,e3,by rw [t3];exact e4,e5,hy,g1,fun hz=> ?_⟩
   rw [t1,t2]
   exact g2 hz
  ·rw [if_neg h0]
   obtain⟨x,y,e4,e5,hy,g1⟩:=rfRestNo p.2 (by rw [q2];exact h0)
   exact⟨h,p,x,y,e2,e3,e4,e5,by rw [hy];exact hp2,by rw [g1,q2],fun hz=>absurd hz h0⟩
 unfold plP
 by_cases hlt:utl [64] s i<s.length
 ·rw [if_pos hlt]at r2
  obtain⟨c1,c2⟩:=r2
  rw [if_pos hlt]
  by_cases h0:(usrP (sub s (i:Int) (utl [64] s i:Int))).1=0
  ·obtain⟨d1,d2⟩:=c2 h0
   obtain⟨h,p,x,y,e2,e3,e4,e5,hy,g1,g2⟩:=go u (utl [64] s i+1) hlt
   rw [if_pos h0]
   subst d2
   rw [←d1]
   exact⟨(u,_),h,p,x,y,e1,e2,e3,e4,e5,hy,g1,g2⟩
  ·rw [if_neg h0]
   dsimp only
   rw [if_neg h0]
   have hr:¬r.2.2.2=0:=by rw [c1];exact h0
   have e2:=rfHostNo r hr
   obtain⟨s',i',a',er'⟩:=r
   have e3:=rfPort_no s' i' a' er' hr
   obtain⟨x,y,e4,e5,hy,g1⟩:=rfRestNo (s',i',a',er') hr
   exact⟨(u,_),_,_,x,y,e1,e2,e3,e4,e5,by rw [hy];exact hab,by rw [g1];exact c1,fun hz=>absurd hz h0⟩
 ·rw [if_neg hlt]at r2
  obtain⟨c1,c2⟩:=r2
  rw [if_neg hlt]
  subst c1 c2
  obtain⟨h,p,x,y,e2,e3,e4,e5,hy,g1,g2⟩:=go [] i hi
  exact⟨([],_),h,p,x,y,e1,e2,e3,e4,e5,hy,g1,g2⟩
open Bool renaming true_and → zax
open List renaming any_cons → zbm, length_take → zaw
theorem rest_nil(st s sch us h:Str)(port:Int)(i:Nat)(h0:¬(aqa st s sch us h port i).1=0):(aqa st s sch us h port i).2=nilU:=by
 unfold aqa at h0⊢
 split
 ·rename_i h1
  rw [if_pos h1]at h0
  split
  ·rename_i h2
   rw [if_pos h2]at h0
   exact absurd rfl h0
  ·rfl
 ·rfl
theorem rfTelRest(s:Str)(hs:s.length≤4194303)(sch us:Str)(c:Nat)(hc:c<s.length):∃x,aam FU (s,(utl [59] s (c+1):Int),0,0) 59 59 [59] 1=some x∧(0≤x.2.2.2.1∧x.2.2.2.1≤5000000)∧x.2.2.2.2=(aqa [59] s sch us [] 0 (utl [59] s (c+1))).1∧((aqa [59] s sch us [] 0 (utl [59] s (c+1))).1=0→(sch,us,[],0,x.1,[])=(aqa [59] s sch us [] 0 (utl [59] s (c+1))).2):=by
 have hu1:=ame [59] s (c+1)
 have hu2:=aks [59] s (c+1) hc
 obtain⟨l1,i1,a1,hab,e1,h1⟩:=rfList1 s hs [59] (by decide) 0 (by decide) (utl [59] s (c+1)) hu2
 refine⟨_,e1,hab, ?_⟩
 unfold aqa
 by_cases h0:(plL [59] s (s.length+1) (utl [59] s (c+1)) []).1=0
 ·obtain⟨q1,q2,q3⟩:=h1 h0
  have hend:=plL_end s (s.length+1) (utl [59] s (c+1)) [] hu2 (by omega) (by
   by_cases he:utl [59] s (c+1)=s.length
   ·exact .inl he
   ·have hst:=ayw [59] s (c+1) hc (by omega)
    refine .inr ?_
    unfold aax
    rw [decide_eq_true (by omega),zax]
    unfold aoa at hst
    rw [zbm,List.any_nil,Bool.or_false]at hst
    have e2:=eq_of_beq hst
    rw [←e2];rfl) h0
  have hd:hdL s (s.length+1) s.length []=(0,[]):=by rw [hdL,if_neg (Nat.lt_irrefl _)]
  rw [if_pos h0,hend,hd]
  dsimp only
  rw [if_pos rfl]
  refine⟨h0,fun _=> ?_⟩
  rw [q1];rfl
 ·rw [if_neg h0]
  exact⟨rfl,fun h=>absurd h h0⟩
theorem rfParse_eq(s:Str):∃a,(0≤a∧a≤5000000)∧avk FU s=some ((amu s).2,a,(amu s).1):=by
 unfold avk amu
 by_cases hl:1024<s.length
 ·rw [if_pos (by omega),if_pos hl]
  exact⟨_,(by first|omega|assumption|decide),rfl⟩
 ·rw [if_neg (by omega),if_neg hl]
  have hu2:=aks [58] s 0 (zak _)
  have e0:abk FU (s,0,0,0) [58]=some ((utl [58] s 0:Nat):Int):=ati s (by omega) 0 (zak _) 0 0 [58] (by decide)
  rw [e0,zaa]
  generalize utl [58] s 0=c at hu2⊢
  by_cases hc:c<s.length
  ·rw [if_neg (by omega),if_pos hc,aaa (by omega),zat,afy _ (by rw [zaw];omega),zaa,aaa (abb _ (by omega) (by omega)),abl]
   generalize aab (s.take c)=sch
   have e98:(if sch=([115,105,112]:Str)then some (decide (sch=([115,105,112]:Str)))else some (decide (sch=([115,105,112,115]:Str))))=some (decide (sch=SIP∨sch=SIPS)):=by
    by_cases hA:sch=SIP
    ·rw [if_pos (show sch=([115,105,112]:Str)from hA),decide_eq_true (show sch=([115,105,112]:Str)from hA),decide_eq_true (Or.inl hA)]
    ·rw [if_neg (show¬sch=([115,105,112]:Str)from hA)]
     congr 1
     rw [decide_eq_decide]
     exact⟨Or.inr,fun h=>h.resolve_left hA⟩
   rw [e98,zaa]
   by_cases hsip:sch=SIP∨sch=SIPS
   ·obtain⟨u,h,p,x,y,e1,e2,e3,e4,e5,hab,g1,g2⟩:=rfPlace s (by omega) (c+1) hc sch
    rw [decide_eq_true hsip,cond_true,if_pos hsip,e1,zaa,e2,zaa,e3,zaa,e4,zaa,e5,zaa,zaa,zaz]
    dsimp only
    have hnil:¬(if(plP s (c+1)).1=0 then aqa [59,63] s sch (plP s (c+1)).2.1 (plP s (c+1)).2.2.1 (plP s (c+1)).2.2.2.1 (plP s (c+1)).2.2.2.2 else((plP s (c+1)).1,nilU)).1=0→(if(plP s (c+1)).1=0 then aqa [59,63] s sch (plP s (c+1)).2.1 (plP s (c+1)).2.2.1 (plP s (c+1)).2.2.2.1 (plP s (c+1)).2.2.2.2 else((plP s (c+1)).1,nilU)).2=nilU:=by
     intro hn
     split
     ·rename_i x1
      rw [if_pos x1]at hn
      exact rest_nil _ _ _ _ _ _ _ hn
     ·rfl
    generalize(if(plP s (c+1)).1=0 then aqa [59,63] s sch (plP s (c+1)).2.1 (plP s (c+1)).2.2.1 (plP s (c+1)).2.2.2.1 (plP s (c+1)).2.2.2.2 else((plP s (c+1)).1,nilU))=R at g1 g2 hnil⊢
    by_cases h0:R.1=0
    ·rw [if_pos (g1.trans h0),h0,←g2 h0]
     exact⟨_,(by first|omega|assumption|decide),rfl⟩
    ·rw [if_neg (fun h=>h0 (g1.symm.trans h)),hnil h0,g1]
     exact⟨_,(by first|omega|assumption|decide),rfl⟩
   ·rw [decide_eq_false hsip,cond_false,if_neg hsip]
    by_cases htel:sch=TEL
    ·obtain⟨u,r,e1,r1,hab,r2,r3⟩:=rfTel_eq s (by omega) (c+1) hc
     rw [if_pos (show sch=([116,101,108]:Str)from htel),if_pos htel,e1,zaa]
     by_cases h0:(telP s (c+1)).1=0
     ·obtain⟨rfl,rfl⟩:=r3 h0
      obtain⟨x,e2,hab2,g1,g2⟩:=rfTelRest s (by omega) sch (telP s (c+1)).2 c hc
      rw [if_pos h0,e2,zaa,zaa,zaz]
      dsimp only
      have hnil:=rest_nil [59] s sch (telP s (c+1)).2 [] 0 (utl [59] s (c+1))
      generalize aqa [59] s sch (telP s (c+1)).2 [] 0 (utl [59] s (c+1))=R at g1 g2 hnil⊢
      by_cases h1:R.1=0
      ·rw [if_pos (g1.trans h1),h1,←g2 h1]
       exact⟨_,(by first|omega|assumption|decide),rfl⟩
      ·rw [if_neg (fun h=>h1 (g1.symm.trans h)),hnil h1,g1]
       exact⟨_,(by first|omega|assumption|decide),rfl⟩
     ·have hr:¬r.2.2.2=0:=by rw [r2];exact h0
      rw [if_neg h0,rfListNo r hr,zaa,zaa,zaz]
      dsimp only
      rw [if_neg hr,r2]
      exact⟨_,(by first|omega|assumption|decide),rfl⟩
    ·rw [if_neg (show¬sch=([116,101,108]:Str)from htel),if_neg htel,zaa,zaR]
     exact⟨_,(by first|omega|assumption|decide),rfl⟩
  ·rw [if_pos (by omega),if_neg hc]
   exact⟨_,(by first|omega|assumption|decide),rfl⟩
open Bool renaming and_eq_true → zas, not_false → zay, not_true → zap
open Go.Lib renaming hasPrefix → zaO, trimPrefix → zaq
open List renaming append_assoc → zav, append_nil → zan, flatMap_append → zbp, flatMap_cons → zaJ, length → zaZ, length_append → zab, length_cons → zac, length_nil → zal, length_singleton → zad, mem_cons_of_mem → zag, mem_cons_self → zah, nil_append → zaH
open Sum renaming elim_inl → zaz
open UInt8 renaming toNat_lt → zbk
theorem clean_any(s:Str):aud s= !s.any abf:=by unfold aud;rw [List.not_any_eq_all_not]
theorem rfNamed_lp(k:Int)(hk:k=1∨k=2)(l:List PP)(hl:l.length≤16)(hL:LS k l)(hb:∀p∈l,p.1.length≤4194304∧p.2.1.length≤4194304)(q:List PP):∀(p:List PP) (fk:Nat),l=p++q→q.length<fk→
  alr FU l k fk (p.length:Int)=some (.inl ()):=by
 induction q with
 |nil=>
  intro p fk h hf
  obtain⟨fk,rfl⟩:=fkx fk
  rw [awm,anp,if_neg (by rw [h];simp)]
 |cons a q ih=>
  intro p fk h hf
  obtain⟨fk,rfl⟩:=fkx fk
  have hlen:=congrArg zaZ h
  simp only [zab,zac]at hlen hf
  have hin:(0:Int)≤(p.length:Int)∧(p.length:Int)<(l.length:Int):=by omega
  have he:el l (p.length:Int)=a:=by rw [h];simp [el]
  have ha:a∈l:=by rw [h];simp
  obtain⟨o1,o2,o3,o4,o5,o6⟩:=hL.2 a ha
  obtain⟨b1,b2⟩:=hb a ha
  have htk:l.take (zai (p.length:Int))=p:=by rw [zat,h,List.take_left]
  have hroom:=room_dst p q a (by rw [←h];exact hL.1) (by omega)
  have hR:aeq FU p a.1=some 0:=by
   rw [rfRoom_eq p (by omega) (fun x hx=>(hb x (by rw [h];simp [hx])).1) a.1 b1 (fun x hx=>(hL.2 x (by rw [h];simp [hx])).2.1) o2,hroom]
  have hih:=ih (p++[a]) fk (by rw [h];simp) (by omega)
  rw [show((p++[a]).length:Int)=(p.length:Int)+1 by simp]at hih
  have h3:(!a.1.any abf)=true:=by rw [←clean_any];exact o3
  have h4:(!a.2.1.any abf)=true:=by rw [←clean_any];exact o4
  rw [awm,anp,if_pos hin.2,aaa hin,aaa hin,he,htk,if_neg o1,plain_eq _ b1,zaa,h3,zap,cond_false,plain_eq _ b2,zaa,h4,zap,cond_false,hR,aaa (by omega)]
  simp only [zaa,decide_true,zap]
  rcases hk with rfl|rfl
  ·have o:=o5 rfl
   by_cases hv:a.2.1=[]
   ·rw [hv]at o
    have o':a.2.2=false:=o
    rw [o',zay,cond_true,if_pos hv,if_neg (by decide),cond_false,zaa,cond_false,aaa (abb _ (by omega) (by omega))]
    exact hih
   ·rw [decide_eq_false hv]at o
    have o':a.2.2=true:=o
    rw [o',zap,cond_false,cond_true,if_neg hv,zaa,cond_false,aaa (abb _ (by omega) (by omega))]
    exact hih
  ·rw [o6 rfl,zap,cond_false,cond_true]
   by_cases hv:a.2.1=[]
   ·rw [if_pos hv,if_neg (by decide),zaa,cond_false,aaa (abb _ (by omega) (by omega))]
    exact hih
   ·rw [if_neg hv,zaa,cond_false,aaa (abb _ (by omega) (by omega))]
    exact hih
theorem rfNamed_eq(k:Int)(hk:k=1∨k=2)(l:List PP)(hl:l.length≤16)(hL:LS k l)(hb:∀p∈l,p.1.length≤4194304∧p.2.1.length≤4194304):asp FU l k=some true:=by
 unfold asp
 have h:alr FU l k FU (0:Int)=some (.inl ()):=rfNamed_lp k hk l hl hL hb l [] FU rfl (by rw [adq];omega)
 rw [h,zaa,zaz]
theorem rfLow_lp(l:List PP)(hl:l.length≤1000)(hL:∀p∈l,aab p.1=p.1∧p.1.length≤4194304)(q:List PP):∀(p:List PP) (fk:Nat),l=p++q→q.length<fk→
  aio FU l fk p (p.length:Int)=some l:=by
 induction q with
 |nil=>
  intro p fk h hf
  obtain⟨fk,rfl⟩:=fkx fk
  rw [aue,ala,if_neg (by rw [h];simp),h,zan]
 |cons a q ih=>
  intro p fk h hf
  obtain⟨fk,rfl⟩:=fkx fk
  have hlen:=congrArg zaZ h
  simp only [zab,zac]at hlen hf
  have hin:(0:Int)≤(p.length:Int)∧(p.length:Int)<(l.length:Int):=by omega
  have he:el l (p.length:Int)=a:=by rw [h];simp [el]
  obtain⟨o1,o2⟩:=hL a (by rw [h];simp)
  have hih:=ih (p++[a]) fk (by rw [h];simp) (by omega)
  rw [show((p++[a]).length:Int)=(p.length:Int)+1 by simp]at hih
  rw [aue,ala,if_pos hin.2,aaa hin,aaa hin,he,afy _ (by omega),zaa,o1]
  simp only [pp_eta]
  rw [aaa (by simp only [zad];omega),aaa (abb _ (by omega) (by omega))]
  exact hih
theorem rfLow_eq(l:List PP)(hl:l.length≤16)(hL:∀p∈l,aab p.1=p.1∧p.1.length≤4194304):aol FU l=some (aps l):=by
 unfold aol
 have h:aio FU l FU [] (0:Int)=some l:=rfLow_lp l (by omega) hL l [] FU rfl (by rw [adq];omega)
 rw [h,zaa,aza l (by omega),zaa]
theorem rfTeled(us:Str)(h:us.length≤4194303)(hd:dialL us=true):ano FU us=some true:=by
 obtain⟨t1,t2⟩:=telA us [] us [] (by simp) (fun c hc=>by cases hc) hd
 rw [zal]at t1
 obtain⟨u,r,e1,r1,hab,r2,r3⟩:=rfTel_eq us h 0 (zak _)
 have e1':adf FU (us,0,0,0)=some (u,r):=e1
 obtain⟨q1,q2⟩:=r3 (by rw [t1])
 unfold ano
 rw [e1',zaa,q2,q1,t1]
 dsimp only
 rw [if_pos rfl,decide_eq_true rfl];rfl
theorem dial_mem2(u:Str)(h:dialL u=true):∀c∈u,abf c=false:=by
 unfold dialL at h
 simp only [zas]at h
 have ha:=h.2
 intro c hc
 have hd:∀sg c,dialB sg c=true→abf c=false:=by intro sg;cases sg<;>exact aaz _ (by decide+kernel)
 cases u with
 |nil=>cases hc
 |cons a u=>
  by_cases h43:a=43
  ·subst h43
   have e1:zaq (43::u) [43]=u:=by unfold zaq zaO;simp
   rw [e1]at ha
   rcases List.mem_cons.1 hc with h|h
   ·rw [h];decide
   ·exact hd _ c (List.all_eq_true.1 ha c h)
  ·have h2:¬(43:UInt8)=a:=fun e=>h43 e.symm
   have e1:zaq (a::u) [43]=a::u:=by unfold zaq zaO;simp [h2]
   rw [e1]at ha
   exact hd _ c (List.all_eq_true.1 ha c hc)
theorem dial_len(u:Str)(h:dialL u=true):u.length≤31:=by
 unfold dialL at h
 simp only [zas,decide_eq_true_eq]at h
 have hl:=h.1.2
 cases u with
 |nil=>exact zak _
 |cons a u=>
  by_cases h43:a=43
  ·subst h43
   have e1:zaq (43::u) [43]=u:=by unfold zaq zaO;simp
   rw [e1]at hl
   rw [zac];omega
  ·have h2:¬(43:UInt8)=a:=fun e=>h43 e.symm
   have e1:zaq (a::u) [43]=a::u:=by unfold zaq zaO;simp [h2]
   rw [e1]at hl
   omega
theorem rfNormal_eq(u:UU)(hg:Good u)(hs:Sml u):atv FU u=some (u,0):=by
 obtain⟨s1,s2,s3,s4,s5⟩:=hs
 have hlow:aab u.1=u.1:=by
  rcases hg.sch with⟨h|h,_⟩|⟨h,_⟩<;>rw [h]<;>rfl
 have hq1:∀p∈u.2.2.2.2.1,aab p.1=p.1∧p.1.length≤4194304:=fun p hp=>⟨(hg.ps.2 p hp).2.1,(s4 p hp).1⟩
 have hq2:∀p∈u.2.2.2.2.2,aab p.1=p.1∧p.1.length≤4194304:=fun p hp=>⟨(hg.hs.2 p hp).2.1,(s5 p hp).1⟩
 have hus:(!u.2.1.any abf)=true:=by
  rcases hg.sch with⟨_,_,_,_,h⟩|⟨_,_,_,_,h⟩
  ·rw [←clean_any];exact h
  ·have hm:u.2.1.any abf=false:=by
    rw [List.any_eq_false]
    intro c hc
    have hd:=dial_mem2 u.2.1 h c hc
    rw [hd];decide
   rw [hm];rfl
 unfold atv
 rw [afy _ (by omega),zaa,hlow,rfNamed_eq 1 (.inl rfl) _ hg.pl hg.ps s4,zaa,zap,cond_false,rfNamed_eq 2 (.inr rfl) _ hg.hl hg.hs s5,zaa,zap,cond_false,plain_eq _ s2,zaa,zaa,hus,zap,cond_false,rfLow_eq _ hg.pl hq1,zaa,rfLow_eq _ hg.hl hq2,zaa,hg.pi,hg.hi]
 rcases hg.sch with⟨h,h1,h2,h3,h4⟩|⟨h,h1,h2,h3,h4⟩
 ·have e98:(if u.1=([115,105,112]:Str)then some (decide (u.1=([115,105,112]:Str)))else some (decide (u.1=([115,105,112,115]:Str))))=some true:=by
   rcases h with h|h<;>rw [h]<;>rfl
  rw [e98,zaa,cond_true,rfHost_eq _ s3,zaa,h1]
  dsimp only
  rw [zap,cond_false,if_neg (by omega),decide_eq_false (by omega),zaa,cond_false]
 ·have e98:(if u.1=([115,105,112]:Str)then some (decide (u.1=([115,105,112]:Str)))else some (decide (u.1=([115,105,112,115]:Str))))=some false:=by
   rw [h];rfl
  have hl0:(u.2.2.2.2.2.length:Int)=0:=by rw [h3];rfl
  rw [e98,zaa,cond_false,if_pos (show u.1=([116,101,108]:Str)from h),if_pos h1,if_pos h2,if_pos hl0,rfTeled _ (by have:=dial_len _ h4;omega) h4,zaa,zaa,cond_true]
theorem rfEsc_lp(s:Str)(hs:s.length≤4194304)(k:Int)(hk:k=0∨k=1∨k=2)(q:Str):∀(p:Str) (fk:Nat),s=p++q→q.length<fk→
  ajw FU s k fk (escP k p) (p.length:Int)=some (escP k s):=by
 induction q with
 |nil=>
  intro p fk h hf
  obtain⟨fk,rfl⟩:=fkx fk
  rw [ava,amn,if_neg (by rw [h];simp),h,zan]
 |cons c q ih=>
  intro p fk h hf
  obtain⟨fk,rfl⟩:=fkx fk
  have hlen:=congrArg zaZ h
  simp only [zab,zac]at hlen hf
  have hin:(0:Int)≤(p.length:Int)∧(p.length:Int)<(s.length:Int):=by omega
  have he:at_ s (p.length:Int)=c:=by rw [h];simp [at_]
  have hih:=ih (p++[c]) fk (by rw [h];simp) (by omega)
  have hel:=asj k p
  have e2:escP k (p++[c])=escP k p++esc1 k c:=by unfold escP;rw [zbp,List.flatMap_singleton]
  rw [show((p++[c]).length:Int)=(p.length:Int)+1 by simp,e2]at hih
  rw [ava,amn,if_pos hin.2,aaa hin,rfIn_eq _ k hk,he,zaa]
  unfold esc1 at hih
  cases hc:inC c k with
  |true=>
   rw [hc,if_pos rfl]at hih
   rw [cond_true,aaa hin,aaa (by simp only [zad];omega),aaa (abb _ (by omega) (by omega))]
   exact hih
  |false=>
   rw [hc,if_neg (by decide)]at hih
   have hn:=zbk c
   have l16:(([48,49,50,51,52,53,54,55,56,57,65,66,67,68,69,70]:Str).length:Int)=16:=rfl
   have hd:(c/16).toNat=c.toNat/16:=UInt8.toNat_div c 16
   have hm:(c%16).toNat=c.toNat%16:=UInt8.toNat_mod c 16
   rw [cond_false,aaa hin,aaa (by decide),hd,hm,l16,aaa (by omega),aaa hin,aaa (by decide),aaa (by omega),aaa (by simp only [zac,zal];omega),aaa (abb _ (by omega) (by omega))]
   exact hih
theorem rfEscape_eq(s:Str)(hs:s.length≤4194304)(k:Int)(hk:k=0∨k=1∨k=2):akn FU s k=some (escP k s):=by
 unfold akn
 have h:ajw FU s k FU [] (0:Int)=some (escP k s):=rfEsc_lp s hs k hk s [] FU rfl (by rw [adq];omega)
 rw [h,zaa]
def wrP(k:Int)(p:PP):Str:=escP k p.1++(bif p.2.2 then 61::escP k p.2.1 else [])
def wrL(k:Int)(ag:Str):Str→List PP→Str
 |_,[]=>[]
 |m,p::r=>m++(wrP k p++wrL k ag ag r)
theorem rfWrite_lp(k:Int)(hk:k=1∨k=2)(ag:Str)(hag:ag.length≤1)(l:List PP)(hl:l.length≤16)(hb:∀p∈l,p.1.length≤4194304∧p.2.1.length≤4194304)(r:List PP):∀(pre:List PP) (fk:Nat) (out mk:Str),l=pre++r→r.length<fk→mk.length≤1→out.length≤pre.length*30000000→
  aib FU l ag k fk out mk (pre.length:Int)=some (out++wrL k ag mk r):=by
 have hk3:k=0∨k=1∨k=2:=.inr hk
 induction r with
 |nil=>
  intro pre fk out mk h hf hm ho
  obtain⟨fk,rfl⟩:=fkx fk
  rw [zan]at h
  rw [awl,ann,if_neg (by rw [h];simp)]
  simp [wrL]
 |cons p r ih=>
  intro pre fk out mk h hf hm ho
  obtain⟨fk,rfl⟩:=fkx fk
  have hlen:=congrArg zaZ h
  simp only [zab,zac]at hlen hf
  have hin:(0:Int)≤(pre.length:Int)∧(pre.length:Int)<(l.length:Int):=by omega
  have he:el l (pre.length:Int)=p:=by rw [h];simp [el]
  have hbp:=hb p (by rw [h];simp)
  have e1:=asj k p.1
  have e2:=asj k p.2.1
  have hok:aap ((pre.length:Int)+1):=abb _ (by omega) (by omega)
  have next:∀o:Str,o=out++(mk++wrP k p)→aib FU l ag k fk o ag ((pre.length:Int)+1)=some (out++wrL k ag mk (p::r)):=by
   intro o ho'
   have hwl:(wrP k p).length≤25165830:=by
    unfold wrP
    rw [zab]
    cases p.2.2 with
    |true=>rw [cond_true,zac];omega
    |false=>rw [cond_false,zal];omega
   have hih:=ih (pre++[p]) fk o ag (by rw [h];simp) (by omega) hag (by rw [ho'];simp only [zab,zac,zal];omega)
   rw [show((pre++[p]).length:Int)=(pre.length:Int)+1 by simp]at hih
   rw [hih,ho']
   simp [wrL]
  rw [awl,ann,if_pos hin.2,aaa (by omega),aaa hin,aaa hin,he,rfEscape_eq _ hbp.1 k hk3,zaa,aaa (by simp only [zab];omega),aaa hin,aaa hin]
  cases hh:p.2.2 with
  |true=>
   rw [cond_true,aaa (by simp only [zab,zad];omega),aaa hin,aaa hin,rfEscape_eq _ hbp.2 k hk3,zaa,aaa (by simp only [zab,zad];omega),aaa hok]
   refine next _ ?_
   unfold wrP
   rw [hh]
   simp
  |false=>
   rw [cond_false,aaa hok]
   refine next _ ?_
   unfold wrP
   rw [hh]
   simp
theorem rfWrite_eq(k:Int)(hk:k=1∨k=2)(fi ag:Str)(hfi:fi.length≤1)(hag:ag.length≤1)(l:List PP)(hl:l.length≤16)(hb:∀p∈l,p.1.length≤4194304∧p.2.1.length≤4194304):ajo FU l fi ag k=some (wrL k ag fi l):=by
 unfold ajo
 have h:aib FU l ag k FU [] fi (0:Int)=some ([]++wrL k ag fi l):=rfWrite_lp k hk ag hag l hl hb l [] FU [] fi rfl (by rw [adq];omega) hfi (zak _)
 rw [h,zaa,zaH]
theorem wr_pars:∀l:List PP,wrL 1 [59] [59] l=parsT l
 |[]=>rfl
 |p::l=>by
  unfold wrL parsT
  rw [wr_pars l,zaJ];rfl
theorem wr_hds2:∀l:List PP,(∀p∈l,p.2.2=true)→wrL 2 [38] [38] l=hds2 l
 |[],_=>rfl
 |p::l,h=>by
  unfold wrL hds2
  rw [wr_hds2 l (fun q hq=>h q (zag _ hq)),zaJ]
  unfold wrP hd1T
  rw [h p zah];rfl
theorem wr_hds(l:List PP)(h:∀p∈l,p.2.2=true):wrL 2 [38] [63] l=hdsT l:=by
 cases l with
 |nil=>rfl
 |cons p l=>
  unfold wrL hdsT
  rw [wr_hds2 l (fun q hq=>h q (zag _ hq))]
  unfold wrP hd1T
  rw [h p zah];rfl
theorem rfDec_lp:∀(k n fk:Nat),n<10^(k+1)→k+1<fk→k≤15→afd fk (n:Int)=some (Lib.decDigits n):=by
 intro k
 induction k with
 |zero=>
  intro n fk h hf h15
  obtain⟨fk,rfl⟩:=fkx fk
  have h:n<10:=by simpa using h
  rw [afd,if_pos (by omega),gok,aaa (by simp;omega),(dig_at n h).2.2,Lib.decDigits,dif_pos h]
 |succ k ih=>
  intro n fk h hf h15
  obtain⟨fk,rfl⟩:=fkx fk
  have h16:10^(k+1+1)≤10^17:=Nat.pow_le_pow_right (by decide) (by omega)
  rw [afd,Lib.decDigits]
  by_cases h1:n<10
  ·rw [if_pos (by omega),dif_pos h1,gok,aaa (by simp;omega),(dig_at n h1).2.2]
  ·have e1:(n:Int)/10=((n/10:Nat):Int):=by omega
   have e2:(n:Int)%10=((n%10:Nat):Int):=by omega
   have h2:n/10<10^(k+1):=by rw [Nat.pow_succ]at h;omega
   have hl:=(dd_ok k _ h2).2.2.2
   have hg:0≤(n:Int)∧0<(10:Int)∧aap (n:Int):=⟨by omega,by omega,abb _ (by omega) (by omega)⟩
   have hd:=dig_at (n%10) (Nat.mod_lt _ (by decide))
   rw [if_neg (by omega),dif_neg h1,aaa hg,e1,ih (n/10) fk h2 (by omega) (by omega),zaa,aaa hg,aaa hg,e2,aaa (abb _ (by omega) (by omega)),aaa (by simp;omega),hd.2.2,aaa (by simp;omega)]
theorem rfDec_eq(n:Int)(h0:0≤n)(h:n≤65535):afd FU n=some (Lib.itoa n):=by
 obtain⟨m,rfl⟩:∃m:Nat,n=(m:Int):=⟨n.toNat,by omega⟩
 rw [itoa_nat]
 exact rfDec_lp 15 m FU (by omega) (by rw [adq];omega) (by decide)
theorem rfPrint_eq(u:UU)(hg:Good u)(hs:Sml u):avj FU u=some (prU u,0):=by
 have hn:=rfNormal_eq u hg hs
 obtain⟨s1,s2,s3,s4,s5⟩:=hs
 have l1:=parsT_len _ s4
 have l2:=hdsT_len _ s5
 have hpl:=hg.pl
 have hhl:=hg.hl
 have hus:=asj 0 u.2.1
 have hpo:0≤u.2.2.2.1∧u.2.2.2.1≤65535:=by
  rcases hg.sch with⟨_,_,h1,h2,_⟩|⟨_,_,h,_⟩
  ·exact⟨h1,h2⟩
  ·omega
 have hit:=itoa_port u.2.2.2.1 hpo.1 hpo.2
 have w1:ajo FU u.2.2.2.2.1 ([59]:Str) ([59]:Str) 1=some (parsT u.2.2.2.2.1):=by rw [rfWrite_eq 1 (.inl rfl) _ _ (by decide) (by decide) _ hpl s4,wr_pars]
 have w2:ajo FU u.2.2.2.2.2 ([63]:Str) ([38]:Str) 2=some (hdsT u.2.2.2.2.2):=by rw [rfWrite_eq 2 (.inr rfl) _ _ (by decide) (by decide) _ hhl s5,wr_hds _ (fun p hp=>(hg.hs.2 p hp).2.2.2.2.2 rfl)]
 unfold avj
 rw [hn,zaa]
 dsimp only
 rw [if_pos rfl]
 by_cases ht:u.1=TEL
 ·rw [if_pos (show u.1=([116,101,108]:Str)from ht),aaa (by simp only [zac,zal];omega),w1,zaa,aaa (by simp only [zab,zac,zal];omega)]
  rcases hg.sch with⟨h|h,_⟩|⟨h,h1,h2,h3,h4⟩
  ·rw [h]at ht;exact absurd ht (by decide)
  ·rw [h]at ht;exact absurd ht (by decide)
  ·have eu:usT u=u.2.1:=if_pos ht
   have ep:ptT u.2.2.2.1=[]:=if_pos h2
   unfold prU
   rw [eu,ep,h1,h3,h]
   unfold TEL hdsT
   simp
 ·have eu:usT u=if u.2.1=[]then []else escP 0 u.2.1++[64]:=if_neg ht
  rw [if_neg (show¬u.1=([116,101,108]:Str)from ht),aaa (by rw [zad];omega)]
  have e1:(if u.2.1=([]:Str)then some (u.1++([58]:Str))else((akn FU u.2.1 (0:Int)).bind fun(y45:Str)=>(gd ((u.1++([58]:Str)).length+y45.length≤9223372036854775807)<|(gd (((u.1++([58]:Str))++y45).length+([64]:Str).length≤9223372036854775807)<|some (((u.1++([58]:Str))++y45)++([64]:Str))))))=some (u.1++([58]:Str)++usT u):=by
   rw [eu]
   by_cases h0:u.2.1=[]
   ·rw [if_pos h0,if_pos h0,zan]
   ·rw [if_neg h0,if_neg h0,rfEscape_eq _ s2 0 (.inl rfl),zaa,aaa (by simp only [zab,zad];omega),aaa (by simp only [zab,zad];omega),zav,zav]
  have hul:(usT u).length≤12582913:=by
   rw [eu]
   split
   ·exact zak _
   ·rw [zab,zad];omega
  rw [e1,zaa,aaa (by simp only [zab,zad];omega)]
  have e2:(if(0:Int)<u.2.2.2.1 then(gd (((u.1++([58]:Str)++usT u)++u.2.2.1).length+([58]:Str).length≤9223372036854775807)<|((afd FU u.2.2.2.1).bind fun(y69:Str)=>(gd ((((u.1++([58]:Str)++usT u)++u.2.2.1)++([58]:Str)).length+y69.length≤9223372036854775807)<|some ((((u.1++([58]:Str)++usT u)++u.2.2.1)++([58]:Str))++y69))))else some ((u.1++([58]:Str)++usT u)++u.2.2.1))=some ((u.1++([58]:Str)++usT u)++u.2.2.1++ptT u.2.2.2.1):=by
   unfold ptT
   by_cases h0:u.2.2.2.1=0
   ·rw [if_neg (by omega),if_pos h0,zan]
   ·rw [if_pos (by omega),if_neg h0,aaa (by simp only [zab,zad];omega),rfDec_eq _ hpo.1 hpo.2,zaa,aaa (by simp only [zab,zad];omega)]
    simp
  have hptl:(ptT u.2.2.2.1).length≤6:=by
   unfold ptT
   split
   ·exact zak _
   ·rw [zac];omega
  rw [e2,zaa,w1,zaa,aaa (by simp only [zab,zad];omega),w2,zaa,aaa (by simp only [zab,zad];omega)]
  unfold prU
  simp
open Bool renaming and_eq_true → zas
open List renaming any_cons → zbm, append_assoc → zav, append_nil → zan, cons_append → zaU, flatMap_cons → zaJ, mem_cons_of_mem → zag, mem_cons_self → zah, nil_append → zaH
def consE(x:Str):(List Str⊕UInt8)→(List Str⊕UInt8)
 |.inl l=>.inl (x::l)
 |.inr e=>.inr e
def spS:Nat→Str→Str→List Str⊕UInt8
 |0,cur,[]=>.inl [ahu cur]
 |_+1,_,[]=>.inr 6
 |0,cur,c::l=>if c=34 then spS 1 (cur++[c]) l else if c=60 then spS 3 (cur++[c]) l else if c=62 then .inr 5 else if c=44 then consE (ahu cur) (spS 0 [] l)else spS 0 (cur++[c]) l
 |1,cur,c::l=>if c=34 then spS 0 (cur++[c]) l else if c=92 then spS 2 (cur++[c]) l else if abf c=true then .inr 5 else spS 1 (cur++[c]) l
 |2,cur,c::l=>if asi c=true then spS 1 (cur++[c]) l else .inr 5
 |_+3,cur,c::l=>if c=62 then spS 0 (cur++[c]) l else spS 3 (cur++[c]) l
theorem s0c(cur:Str)(c:UInt8)(l:Str):spS 0 cur (c::l)=if c=34 then spS 1 (cur++[c]) l else if c=60 then spS 3 (cur++[c]) l else if c=62 then .inr 5 else if c=44 then consE (ahu cur) (spS 0 [] l)else spS 0 (cur++[c]) l:=by rw [spS]
theorem s1c(cur:Str)(c:UInt8)(l:Str):spS 1 cur (c::l)=if c=34 then spS 0 (cur++[c]) l else if c=92 then spS 2 (cur++[c]) l else if abf c=true then .inr 5 else spS 1 (cur++[c]) l:=by rw [spS]
theorem s2c(cur:Str)(c:UInt8)(l:Str):spS 2 cur (c::l)=if asi c=true then spS 1 (cur++[c]) l else .inr 5:=by rw [spS]
def Cl(e:Str):Prop:=∀cur rest,spS 0 cur (e++rest)=spS 0 (cur++e) rest
theorem Cl.nil:Cl []:=fun cur rest=>by rw [zan];rfl
theorem Cl.app{a b:Str}(ha:Cl a)(hb:Cl b):Cl (a++b):=fun cur rest=>by
 rw [zav,ha,hb,zav]
def freeB(c:UInt8):Bool:= !(c==34)&& !(c==60)&& !(c==62)&& !(c==44)
theorem Cl.one(c:UInt8)(h:freeB c=true):Cl [c]:=fun cur rest=>by
 unfold freeB at h
 simp only [zas,Bool.not_eq_true',beq_eq_false_iff_ne]at h
 obtain⟨⟨⟨h1,h2⟩,h3⟩,h4⟩:=h
 rw [List.singleton_append,s0c,if_neg h1,if_neg h2,if_neg h3,if_neg h4]
theorem Cl.all:∀(a:Str),(∀c∈a,freeB c=true)→Cl a
 |[],_=>Cl.nil
 |c::a,h=>by
  have:=(Cl.one c (h c zah)).app (Cl.all a (fun d hd=>h d (zag _ hd)))
  exact this
theorem Cl.cons{c:UInt8}{a:Str}(h:freeB c=true)(ha:Cl a):Cl (c::a):=(Cl.one c h).app ha
theorem sp_quo:∀(v:Str) (cur rest:Str),v.any abf=false→spS 1 cur (v.flatMap qstep++34::rest)=spS 0 (cur++(v.flatMap qstep++[34])) rest
 |[],cur,rest,_=>by rw [List.flatMap_nil,zaH,s1c,if_pos rfl];rfl
 |c::v,cur,rest,h=>by
  rw [zbm,Bool.or_eq_false_iff]at h
  by_cases hq:c=34∨c=92
  ·have he:asi c=true:=by rcases hq with rfl|rfl<;>decide
   rw [zaJ,qs_yes c hq,zaU,zaU,zaU,s1c,if_neg (by decide),if_pos rfl,zaH,zaU,s2c,if_pos he,sp_quo v _ rest h.2]
   simp
  ·rw [zaJ,qs_no c hq,List.singleton_append,zaU,s1c,if_neg (fun e=>hq (.inl e)),if_neg (fun e=>hq (.inr e)),if_neg (by rw [h.1];decide),sp_quo v _ rest h.2]
   simp
theorem Cl.quo(v:Str)(h:v.any abf=false):Cl (quoT v):=fun cur rest=>by
 unfold quoT
 rw [zaU,s0c,if_pos rfl,zav,List.singleton_append,sp_quo v _ rest h]
 simp
theorem jn2(a b:Str)(l:List Str)(s:Str):zar (a::b::l) s=a++(s++zar (b::l) s):=by simp [zar,List.intercalate,List.intersperse]
theorem jn1(a s:Str):zar [a] s=a:=by simp [zar,List.intercalate]
theorem joinSnoc(sep:Str):∀(ws:List Str) (x:Str),zar (ws++[x]) sep=if ws=[]then x else zar ws sep++(sep++x)
 |[],x=>by rw [zaH,jn1,if_pos rfl]
 |[a],x=>by
  rw [if_neg (by simp),jn1]
  show zar [a,x] sep=_
  rw [jn2,jn1]
 |a::b::ws,x=>by
  rw [if_neg (by simp),jn2]
  show zar (a::b::(ws++[x])) sep=_
  rw [jn2]
  have:=joinSnoc sep (b::ws) x
  rw [if_neg (by simp)]at this
  have e:b::(ws++[x])=(b::ws)++[x]:=rfl
  rw [e,this]
  simp
open List renaming all_cons → zaT, any_cons → zbm, append_assoc → zav, cons_append → zaU, drop_drop → zbo, drop_eq_nil_of_le → zaI, length → zaZ, length_append → zab, length_cons → zac, length_drop → zaj, length_singleton → zad, length_take → zaw, mem_cons_self → zah, nil_append → zaH, take_append_drop → zbs
open Nat renaming add_zero → zaK, le_refl → zam, zero_le → zak
theorem hasB1(c b:UInt8):aoa [c] b=decide (b=c):=by
 unfold aoa
 simp only [zbm,List.any_nil,Bool.or_false]
 by_cases h:b=c
 ·subst h;simp
 ·rw [decide_eq_false h];exact beq_eq_false_iff_ne.2 (fun e=>h e.symm)
theorem utl_here(c:UInt8)(s:Str)(k:Nat)(hk:k<s.length)(h:at_ s (k:Int)=c):utl [c] s k=k:=by
 unfold utl
 rw [aln s k hk,span_no _ _ _ (by rw [hasB1,h,decide_eq_true rfl];rfl),zaK]
theorem utl_next(c:UInt8)(s:Str)(k:Nat)(hk:k<s.length)(h:¬at_ s (k:Int)=c):utl [c] s k=utl [c] s (k+1):=utl_step [c] s k hk (by rw [hasB1,decide_eq_false h])
theorem utl_past(c:UInt8)(s:Str)(k:Nat)(hk:s.length≤k):utl [c] s k=k:=by
 unfold utl
 rw [zaI hk];rfl
theorem rfIndex_lp(s:Str)(hs:s.length≤4194304)(c:UInt8)(n:Nat):∀(k fk:Nat),k+n=s.length→n<fk→
  apa FU s c fk (k:Int)=some (if utl [c] s k<s.length then .inr (utl [c] s k:Int)else .inl ()):=by
 induction n with
 |zero=>
  intro k fk hk hf
  obtain⟨fk,rfl⟩:=fkx fk
  rw [awo,anr,if_neg (by omega),utl_past c s k (by omega),if_neg (by omega)]
 |succ n ih=>
  intro k fk hk hf
  obtain⟨fk,rfl⟩:=fkx fk
  rw [awo,anr,if_pos (by omega),aaa (by omega)]
  by_cases h:at_ s (k:Int)=c
  ·rw [if_pos h,utl_here c s k (by omega) h,if_pos (by omega)]
  ·rw [if_neg h,aaa (abb _ (by omega) (by omega)),abl,ih (k+1) fk (by omega) (by omega),utl_next c s k (by omega) h]
theorem rfIndex_eq(s:Str)(hs:s.length≤4194304)(k:Nat)(hk:k≤s.length)(c:UInt8):apb FU s (k:Int) c=some (if utl [c] s k<s.length then(utl [c] s k:Int)else-1):=by
 unfold apb
 rw [rfIndex_lp s hs c (s.length-k) k FU (by omega) (by rw [adq];omega),zaa]
 split
 ·rw [zaR]
 ·rw [zaz]
theorem span_stopL(p:UInt8→Bool)(c:UInt8)(hc:p c=false):∀(a b:Str),alj p (a++c::b)≤a.length
 |[],b=>by rw [zaH,span_no _ _ _ hc];exact zam _
 |d::a,b=>by
  have:=span_stopL p c hc a b
  rw [zaU,alj,zac]
  split<;>omega
theorem skip_le_at(p:UInt8→Bool)(s:Str)(i m:Nat)(him:i≤m)(hm:m<s.length)(h:p (at_ s (m:Int))=false):aai p s (i:Int)≤m:=by
 have e:s.drop i=(s.drop i).take (m-i)++at_ s (m:Int)::s.drop (m+1):=by
  conv=>lhs;rw [←zbs (m-i) (s.drop i)]
  rw [zbo,show i+(m-i)=m by omega,aln s m hm]
 unfold aai
 rw [asl i s.length (by omega),e]
 have:=span_stopL p _ h ((s.drop i).take (m-i)) (s.drop (m+1))
 rw [zaw,zaj]at this
 omega
theorem join_ne2(sep:Str):∀ws:List Str,(∀x∈ws,x≠[])→(zar ws sep=[]↔ws=[])
 |[],_=>⟨fun _=>rfl,fun _=>rfl⟩
 |[a],h=>by
  rw [jn1]
  exact⟨fun e=>absurd e (h a zah),fun e=>by cases e⟩
 |a::b::ws,h=>by
  rw [jn2]
  refine⟨fun e=> ?_,fun e=>by cases e⟩
  have:=List.append_eq_nil_iff.1 e
  exact absurd this.1 (h a zah)
theorem rfDisp_lp(s:Str)(hs:s.length≤1024)(m:Nat)(hm:m<s.length)(h60:at_ s (m:Int)=60)(n:Nat):∀(i fk f:Nat) (ws:List Str),m-i≤n→n<fk→n<f→i≤m→utl [60] s i=m→(∀x∈ws,x≠[])→(zar ws [32]).length≤2*i→
  ∃j,aip FU s (m:Int) fk (i:Int) (zar ws [32])=some j∧
   ((aja s f i ws).1=0→j=.inl (zar (aja s f i ws).2.2 [32])∧(aja s f i ws).2.1=m)∧(¬(aja s f i ws).1=0→∃a,j=.inr ([],0,a,(aja s f i ws).1)):=by
 induction n with
 |zero=>
  intro i fk f ws hi hf hff him hu hw hb
  obtain⟨fk,rfl⟩:=fkx fk
  obtain⟨f,rfl⟩:∃m,f=m+1:=⟨f-1,by omega⟩
  obtain rfl:i=m:=by omega
  have hz:aax s i 60=true:=by unfold aax;rw [decide_eq_true hm,h60];rfl
  have hn:aja s (f+1) i ws=(0,i,ws):=by rw [aja,hz,if_pos rfl]
  rw [aom,ahb,if_neg (by omega),hn]
  exact⟨_,rfl,fun _=>⟨rfl,rfl⟩,fun h=>absurd rfl h⟩
 |succ n ih=>
  intro i fk f ws hi hf hff him hu hw hb
  by_cases hi2:i=m
  ·subst hi2
   obtain⟨fk,rfl⟩:=fkx fk
   obtain⟨f,rfl⟩:∃m,f=m+1:=⟨f-1,by omega⟩
   have hz:aax s i 60=true:=by unfold aax;rw [decide_eq_true hm,h60];rfl
   have hn:aja s (f+1) i ws=(0,i,ws):=by rw [aja,hz,if_pos rfl]
   rw [aom,ahb,if_neg (by omega),hn]
   exact⟨_,rfl,fun _=>⟨rfl,rfl⟩,fun h=>absurd rfl h⟩
  ·obtain⟨fk,rfl⟩:=fkx fk
   obtain⟨f,rfl⟩:∃m,f=m+1:=⟨f-1,by omega⟩
   have hlt:i<m:=by omega
   have hz:aax s i 60=false:=by
    cases hz:aax s i 60 with
    |false=>rfl
    |true=>
     have h1:=(acz hz)
     rw [utl_here 60 s i h1.1 h1.2]at hu
     exact absurd hu hi2
   have t1:=aey aaq s i (by omega)
   have t2:=skip_le_at aaq s i m him hm (by rw [h60];decide)
   have t3:=aey aae s (aai aaq s (i:Int)) (by omega)
   have t4:=skip_le_at aae s (aai aaq s (i:Int)) m t2 hm (by rw [h60];decide)
   have hgo:∀k:Nat,i≤k→k≤m→utl [60] s k=m:=by
    intro k hk1 hk2
    have e1:utl [60] s i=i+alj (fun c=> !aoa [60] c) (s.drop i):=rfl
    have key:∀d k,d+k=m→i≤k→utl [60] s k=m:=by
     intro d
     induction d with
     |zero=>intro k hk hik;rw [show k=m by omega];exact utl_here 60 s m hm h60
     |succ d ihd=>
      intro k hk hik
      have hne:¬at_ s (k:Int)=60:=fun e=>by
       have:utl [60] s i≤k:=by
        have:=skip_le_at (fun c=> !aoa [60] c) s i k hik (by omega) (by rw [e];decide)
        unfold aai at this
        rw [asl i s.length (by omega)]at this
        exact this
       omega
      rw [utl_next 60 s k (by omega) hne]
      exact ihd (k+1) (by omega) (by omega)
    exact key (m-k) k (by omega) hk1
   rw [aom,ahb,if_pos (by omega),aty s (by omega),zaa]
   by_cases ht:aai aaq s (i:Int)=i
   ·have hn:aja s (f+1) i ws=(5,0,[]):=by rw [aja,hz,if_neg (by decide),if_pos ht]
    rw [if_pos (by omega),hn]
    exact⟨_,rfl,fun h=>absurd h (show¬(5:UInt8)=0 by decide),fun _=>⟨_,rfl⟩⟩
   ·have hn:aja s (f+1) i ws=aja s f (aai aae s ((aai aaq s (i:Int):Nat):Int)) (ws++[sub s (i:Int) ((aai aaq s (i:Int):Nat):Int)]):=by rw [aja,hz,if_neg (by decide),if_neg ht]
    have hsl:(sub s (i:Int) ((aai aaq s (i:Int):Nat):Int)).length=aai aaq s (i:Int)-i:=by rw [ajd];omega
    have hsne:sub s (i:Int) ((aai aaq s (i:Int):Nat):Int)≠[]:=fun e=>by rw [e]at hsl;simp at hsl;omega
    have hjs:=joinSnoc [32] ws (sub s (i:Int) ((aai aaq s (i:Int):Nat):Int))
    have hnil:=join_ne2 [32] ws hw
    rw [if_neg (by omega),hn]
    have e1:(if zar ws [32]=([]:Str)then some (zar ws [32])else(gd ((zar ws [32]).length+([32]:Str).length≤9223372036854775807)<|some (zar ws [32]++([32]:Str))))=some (if ws=[]then []else zar ws [32]++[32]):=by
     by_cases h0:ws=[]
     ·rw [if_pos (hnil.2 h0),if_pos h0,hnil.2 h0]
     ·rw [if_neg (fun e=>h0 (hnil.1 e)),if_neg h0,aaa (by rw [zad];omega)]
    have hj2:(if ws=[]then []else zar ws [32]++[32])++sub s (i:Int) ((aai aaq s (i:Int):Nat):Int)=zar (ws++[sub s (i:Int) ((aai aaq s (i:Int):Nat):Int)]) [32]:=by
     rw [hjs]
     by_cases h0:ws=[]
     ·rw [if_pos h0,if_pos h0];rfl
     ·rw [if_neg h0,if_neg h0,zav]
    have hwl:(if ws=[]then([]:Str)else zar ws [32]++[32]).length≤2*i+1:=by
     split
     ·exact zak _
     ·rw [zab,zad];omega
    have hjl:=congrArg zaZ hj2
    rw [zab]at hjl
    rw [e1,zaa,aaa (by omega),aaa (by omega),ajj s (by omega),zaa,hj2]
    refine ih _ fk f _ (by omega) (by omega) (by omega) t4 (hgo _ (by omega) t4) (fun x hx=> ?_) (by omega)
    rcases List.mem_append.1 hx with h|h
    ·exact hw x h
    ·rw [List.mem_singleton.1 h];exact hsne
theorem rfRest2(s:Str)(hs:s.length≤1024)(nm:Str)(b e k:Nat)(hb:b≤e)(he:e≤s.length)(hk:k≤s.length):∃a,ars FU s nm (b:Int) (e:Int) (k:Int)=some (if(amu (sub s (b:Int) (e:Int))).1=0 then(if(parP (s.drop k)).2.2=0 then((nm,(amu (sub s (b:Int) (e:Int))).2,(parP (s.drop k)).1),a,0)else(nilA,a,(parP (s.drop k)).2.2))else(nilA,a,(amu (sub s (b:Int) (e:Int))).1)):=by
 obtain⟨a,⟨ha0,ha1⟩,e1⟩:=rfParse_eq (sub s (b:Int) (e:Int))
 have hdl:(s.drop k).length=s.length-k:=zaj
 obtain⟨hpa,hpb⟩:=parP_at (s.drop k) (by omega)
 unfold ars
 rw [aaa (by omega),e1,zaa]
 dsimp only
 by_cases h0:(amu (sub s (b:Int) (e:Int))).1=0
 ·rw [if_pos h0,aaa (by omega),zat,rfParams_eq _ (by omega),zaa]
  by_cases h1:(parP (s.drop k)).2.2=0
  ·exact⟨0,by rw [if_pos h1,if_pos h0,if_pos h1]⟩
  ·refine⟨(k:Int)+(parP (s.drop k)).2.1, ?_⟩
   rw [if_neg h1,aaa (abb _ (by omega) (by omega)),if_pos h0,if_neg h1];rfl
 ·refine⟨(b:Int)+a, ?_⟩
  rw [if_neg h0,aaa (abb _ (by omega) (by omega)),if_neg h0];rfl
theorem bare_lp0(s:Str)(hs:s.length≤1024)(n:Nat):∀(k fk:Nat),k+n=s.length→n<fk→aqv FU s fk (k:Int)=some (utl [59,32,9] s k:Int):=by
 induction n with
 |zero=>
  intro k fk hk hf
  obtain⟨fk,rfl⟩:=fkx fk
  have:utl [59,32,9] s k=k:=by unfold utl;rw [zaI (by omega)];rfl
  rw [axg,apf,if_neg (by omega),zaa,cond_false,this]
 |succ n ih=>
  intro k fk hk hf
  obtain⟨fk,rfl⟩:=fkx fk
  have hc:(if(at_ s (k:Int))=(59:UInt8)then some false else(gd (0≤(k:Int)∧(k:Int)<(s.length:Int))<|((amq FU (at_ s (k:Int))).bind fun(y166:Bool)=>some (!y166))))=some (!aoa [59,32,9] (at_ s (k:Int))):=by
   rw [aaa (by omega),ref_blank,zaa]
   generalize at_ s (k:Int)=c
   revert c
   exact aaz _ (by decide+kernel)
  rw [axg,apf,if_pos (by omega),aaa (by omega),hc,zaa]
  cases hh:aoa [59,32,9] (at_ s (k:Int))with
  |true=>
   have:utl [59,32,9] s k=k:=by unfold utl;rw [aln s k (by omega),span_no _ _ _ (by rw [hh];rfl),zaK]
   rw [zap,cond_false,this]
  |false=>
   rw [zay,cond_true,aaa (abb _ (by omega) (by omega)),abl,ih (k+1) fk (by omega) (by omega),utl_step _ s k (by omega) hh]
theorem bare_lp1(s:Str)(hs:s.length≤1024)(e:Nat)(he:e≤s.length)(n:Nat):∀(k fk:Nat),k+n=e→n<fk→∃a,aqu FU s (e:Int) fk (k:Int)=some (if utl [63,44] s k<e then .inr (nilA,a,5)else .inl ()):=by
 induction n with
 |zero=>
  intro k fk hk hf
  obtain⟨fk,rfl⟩:=fkx fk
  have:=ame [63,44] s k
  exact⟨0,by rw [axf,ape,if_neg (by omega),if_neg (by omega)]⟩
 |succ n ih=>
  intro k fk hk hf
  obtain⟨fk,rfl⟩:=fkx fk
  have hc:(gd (0≤(k:Int)∧(k:Int)<(s.length:Int))<|(if(at_ s (k:Int))=(63:UInt8)then some true else(gd (0≤(k:Int)∧(k:Int)<(s.length:Int))<|some (decide ((at_ s (k:Int))=(44:UInt8))))))=some (aoa [63,44] (at_ s (k:Int))):=by
   rw [aaa (by omega),aaa (by omega)]
   generalize at_ s (k:Int)=c
   revert c
   exact aaz _ (by decide+kernel)
  rw [axf,ape,if_pos (by omega),hc,zaa]
  cases hh:aoa [63,44] (at_ s (k:Int))with
  |true=>
   have:utl [63,44] s k=k:=by unfold utl;rw [aln s k (by omega),span_no _ _ _ (by rw [hh];rfl),zaK]
   exact⟨(k:Int),by rw [cond_true,this,if_pos (by omega)];rfl⟩
  |false=>
   obtain⟨a,ha⟩:=ih (k+1) fk (by omega) (by omega)
   exact⟨a,by rw [cond_false,aaa (abb _ (by omega) (by omega)),abl,ha,utl_step _ s k (by omega) hh]⟩
def tailP(s nm:Str)(i:Nat):AA×UInt8:=
 if(tgtP s i).1=0 then(if(parP (s.drop (tgtP s i).2.2)).2.2=0 then((nm,(tgtP s i).2.1,(parP (s.drop (tgtP s i).2.2)).1),0)else(nilA,(parP (s.drop (tgtP s i).2.2)).2.2))else(nilA,(tgtP s i).1)
theorem adr_tail(s:Str)(hl:¬1024<s.length):((avp s).2,(avp s).1)=if(aok s (aai aae s 0)).1=0 then tailP s (aok s (aai aae s 0)).2.1 (aok s (aai aae s 0)).2.2 else(nilA,(aok s (aai aae s 0)).1):=by
 unfold avp tailP
 rw [if_neg hl]
 split
 ·split
  ·split<;>rfl
  ·rfl
 ·rfl
theorem rfTail_in(s:Str)(hs:s.length≤1024)(nm:Str)(i:Nat)(h60:aax s i 60=true):∃a,((apb FU s (i:Int) (62:UInt8)).bind fun(y54:Int)=>(if y54<(0:Int)then some (nilA,(s.length:Int),(5:UInt8))else(gd (aap ((i:Int)+(1:Int)))<|(gd (aap (y54+(1:Int)))<|((ars FU s nm ((i:Int)+(1:Int)) y54 (y54+(1:Int))).bind fun(y64:(AA×Int×UInt8))=>some (y64.1,y64.2.1,y64.2.2))))))=some ((tailP s nm i).1,a,(tailP s nm i).2):=by
 obtain⟨hlt,hat⟩:=acz h60
 have hu1:=ame [62] s (i+1)
 have hu2:=aks [62] s (i+1) hlt
 rw [rfIndex_eq s (by omega) i (by omega),zaa,utl_next 62 s i hlt (by rw [hat];decide)]
 unfold tailP tgtP
 rw [h60,if_pos rfl]
 by_cases he:utl [62] s (i+1)=s.length
 ·have e0:(if utl [62] s (i+1)<s.length then((utl [62] s (i+1):Nat):Int)else-1)= -1:=if_neg (by omega)
  rw [e0,if_pos (show(-1:Int)<0 by decide),if_pos he]
  exact⟨_,rfl⟩
 ·have e0:(if utl [62] s (i+1)<s.length then((utl [62] s (i+1):Nat):Int)else-1)=((utl [62] s (i+1):Nat):Int):=if_pos (by omega)
  obtain⟨a,e1⟩:=rfRest2 s hs nm (i+1) (utl [62] s (i+1)) (utl [62] s (i+1)+1) hu1 hu2 (by omega)
  rw [e0,if_neg (show¬((utl [62] s (i+1):Nat):Int)<0 by omega),if_neg he,aaa (abb _ (by omega) (by omega)),aaa (abb _ (by omega) (by omega)),abl,abl,e1,zaa]
  dsimp only
  split
  ·split
   ·exact⟨_,rfl⟩
   ·exact⟨_,rfl⟩
  ·exact⟨_,rfl⟩
theorem rfBare_eq(s:Str)(hs:s.length≤1024)(i:Nat)(hi:i≤s.length)(h60:aax s i 60=false):∃a,axh FU s (i:Int)=some ((tailP s [] i).1,a,(tailP s [] i).2):=by
 have hu1:=ame [59,32,9] s i
 have hu2:=aks [59,32,9] s i hi
 obtain⟨a,e1⟩:=bare_lp1 s hs (utl [59,32,9] s i) hu2 (utl [59,32,9] s i-i) i FU (by omega) (by rw [adq];omega)
 unfold axh
 rw [bare_lp0 s hs (s.length-i) i FU (by omega) (by rw [adq];omega),zaa,e1,zaa]
 by_cases he:utl [63,44] s i<utl [59,32,9] s i
 ·have ht:tgtP s i=(5,nilU,0):=by unfold tgtP;rw [h60,if_neg (show¬(false=true)by decide),if_pos he]
  have hT:tailP s [] i=(nilA,5):=by unfold tailP;rw [ht];exact if_neg (show¬(5:UInt8)=0 by decide)
  rw [if_pos he,zaR,hT]
  exact⟨_,rfl⟩
 ·have ht:tgtP s i=((amu (sub s (i:Int) (utl [59,32,9] s i:Int))).1,(amu (sub s (i:Int) (utl [59,32,9] s i:Int))).2,utl [59,32,9] s i):=by unfold tgtP;rw [h60,if_neg (show¬(false=true)by decide),if_neg he]
  obtain⟨a2,e2⟩:=rfRest2 s hs [] i (utl [59,32,9] s i) (utl [59,32,9] s i) hu1 hu2 hu2
  rw [if_neg he,zaz,e2,zaa]
  unfold tailP
  rw [ht]
  split
  ·split
   ·exact⟨_,rfl⟩
   ·exact⟨_,rfl⟩
  ·exact⟨_,rfl⟩
theorem hasB_split(p:UInt8→Bool)(c:UInt8)(hc:p c=false)(s:Str)(b:Nat)(hb:b≤s.length)(h:(s.take b).all p=true):aoa s c=decide (utl [c] s b<s.length):=by
 have e:s=s.take b++s.drop b:=(zbs b s).symm
 have h1:aoa (s.take b) c=false:=by
  unfold aoa
  rw [List.any_eq_false]
  intro x hx he
  have:=List.all_eq_true.1 h x hx
  rw [eq_of_beq he,hc]at this
  cases this
 have h2:aoa s c=aoa (s.drop b) c:=by
  conv=>lhs;rw [e]
  unfold aoa at h1⊢
  rw [List.any_append,h1,Bool.false_or]
 have hd:(s.drop b).length=s.length-b:=zaj
 have h3:=span_eq_iff (fun x=> !aoa [c] x) (s.drop b)
 have h4:=arw (fun x=> !aoa [c] x) (s.drop b)
 rw [h2]
 have hu:utl [c] s b=b+alj (fun x=> !aoa [c] x) (s.drop b):=rfl
 cases hh:aoa (s.drop b) c with
 |true=>
  rw [decide_eq_true]
  have:¬(s.drop b).all (fun x=> !aoa [c] x)=true:=fun ha=>by
   unfold aoa at hh
   obtain⟨x,hx,he⟩:=List.any_eq_true.1 hh
   have:=List.all_eq_true.1 ha x hx
   rw [hasB1,decide_eq_true (eq_of_beq he)]at this
   cases this
  have:¬alj (fun x=> !aoa [c] x) (s.drop b)=(s.drop b).length:=fun e=>this (h3.1 e)
  omega
 |false=>
  rw [decide_eq_false]
  have:(s.drop b).all (fun x=> !aoa [c] x)=true:=List.all_eq_true.2 (fun x hx=>by
   unfold aoa at hh
   have:=List.any_eq_false.1 hh x hx
   rw [hasB1,decide_eq_false (fun e=>this (by rw [e];simp))];rfl)
  have:=h3.2 this
  omega
theorem take_span(p:UInt8→Bool):∀s:Str,(s.take (alj p s)).all p=true
 |[]=>rfl
 |c::s=>by
  unfold alj
  cases hc:p c with
  |true=>
   rw [if_pos rfl,List.take_succ_cons,zaT,hc,take_span p s];rfl
  |false=>rw [if_neg (by decide)];rfl
theorem rfParseAddr_eq(s:Str):∃a,ahc FU s=some ((avp s).2,a,(avp s).1):=by
 by_cases hl:1024<s.length
 ·unfold ahc avp
  rw [if_pos (by omega),if_pos hl]
  exact⟨_,rfl⟩
 ·have hfin:=adr_tail s hl
  have h1:(avp s).2=(if(aok s (aai aae s 0)).1=0 then tailP s (aok s (aai aae s 0)).2.1 (aok s (aai aae s 0)).2.2 else(nilA,(aok s (aai aae s 0)).1)).1:=congrArg Prod.fst hfin
  have h2:(avp s).1=(if(aok s (aai aae s 0)).1=0 then tailP s (aok s (aai aae s 0)).2.1 (aok s (aai aae s 0)).2.2 else(nilA,(aok s (aai aae s 0)).1)).2:=congrArg Prod.snd hfin
  rw [h1,h2]
  clear h1 h2 hfin
  unfold ahc
  rw [if_neg (by omega),ajj s (by omega),zaa]
  have hb:=abg aae s 0
  have htk:(s.take (aai aae s 0)).all aae=true:=by rw [skipL_zero];exact take_span aae s
  generalize aai aae s 0=b at hb htk⊢
  have hh:=hasB_split aae 60 (by decide) s b hb htk
  have hu:=aks [60] s b hb
  have hu1:=ame [60] s b
  rw [rfIndex_eq s (by omega) b hb,zaa]
  have ec:(if(if utl [60] s b<s.length then(utl [60] s b:Int)else-1)<(0:Int)then(if(b:Int)=(s.length:Int)then some true else(gd (0≤(b:Int)∧(b:Int)<(s.length:Int))<|some (!decide ((at_ s (b:Int))=(34:UInt8)))))else some false)=some (!aoa s 60&& !aax s b 34):=by
   rw [hh]
   by_cases h6:utl [60] s b<s.length
   ·have e0:(if utl [60] s b<s.length then((utl [60] s b:Nat):Int)else-1)=((utl [60] s b:Nat):Int):=if_pos h6
    rw [e0,if_neg (show¬((utl [60] s b:Nat):Int)<0 by omega),decide_eq_true h6];rfl
   ·have e0:(if utl [60] s b<s.length then((utl [60] s b:Nat):Int)else-1)= -1:=if_neg h6
    rw [e0,if_pos (show(-1:Int)<0 by decide),decide_eq_false h6]
    unfold aax
    by_cases hbl:b=s.length
    ·rw [if_pos (by omega),decide_eq_false (by omega)];rfl
    ·rw [if_neg (by omega),aaa (by omega),decide_eq_true (show b<s.length by omega)]
     by_cases h34:at_ s (b:Int)=34
     ·rw [decide_eq_true h34,h34];rfl
     ·rw [decide_eq_false h34,beq_eq_false_iff_ne.2 h34];rfl
  rw [ec,zaa]
  unfold aok
  cases h34:aax s b 34 with
  |true=>
   obtain⟨hlt,hat⟩:=acz h34
   rw [zap,Bool.and_false,cond_false,if_pos rfl]
   unfold asr
   rw [aaa (by omega),if_pos hat,rfUnquote_eq s (by omega),zaa]
   by_cases h0:(ara s (b:Int)).2.2=0
   ·have hy:=abg aae s (ara s (b:Int)).2.1
    rw [if_pos h0,if_pos h0,ajj s (by omega),zaa]
    have e2:(if((aai aae s (ara s (b:Int)).2.1:Nat):Int)=(s.length:Int)then some true else(gd (0≤((aai aae s (ara s (b:Int)).2.1:Nat):Int)∧((aai aae s (ara s (b:Int)).2.1:Nat):Int)<(s.length:Int))<|some (!decide ((at_ s ((aai aae s (ara s (b:Int)).2.1:Nat):Int))=(60:UInt8)))))=some (!aax s (aai aae s (ara s (b:Int)).2.1) 60):=by
     generalize aai aae s (ara s (b:Int)).2.1=y at hy⊢
     unfold aax
     by_cases hyl:y=s.length
     ·rw [if_pos (by omega),decide_eq_false (by omega)];rfl
     ·rw [if_neg (by omega),aaa (by omega),decide_eq_true (show y<s.length by omega)]
      by_cases h60:at_ s (y:Int)=60
      ·rw [decide_eq_true h60,h60];rfl
      ·rw [decide_eq_false h60,beq_eq_false_iff_ne.2 h60];rfl
    rw [e2,zaa]
    cases h60:aax s (aai aae s (ara s (b:Int)).2.1) 60 with
    |true=>
     obtain⟨a,ea⟩:=rfTail_in s (by omega) (ara s (b:Int)).1 _ h60
     rw [zap,cond_false,zaa,if_pos rfl,if_pos rfl]
     exact⟨a,ea⟩
    |false=>
     rw [zay,cond_true,zaa,if_neg (show¬(false=true)by decide)]
     dsimp only
     rw [if_neg (show¬(5:UInt8)=0 by decide),if_neg (show¬(5:UInt8)=0 by decide)]
     exact⟨_,rfl⟩
   ·rw [if_neg h0,if_neg h0,zaa]
    dsimp only
    rw [if_neg h0,if_neg h0]
    exact⟨_,rfl⟩
  |false=>
   rw [if_neg (show¬(false=true)by decide)]
   cases h6:aoa s 60 with
   |false=>
    rw [zay,Bool.and_true,cond_true,if_neg (show¬(false=true)by decide)]
    dsimp only
    rw [if_pos rfl]
    have h60:aax s b 60=false:=by
     cases hz:aax s b 60 with
     |false=>rfl
     |true=>
      obtain⟨x1,x2⟩:=acz hz
      have hm:=at_mem s b x1
      rw [x2]at hm
      unfold aoa at h6
      exact absurd (List.any_eq_false.1 h6 60 hm) (by simp)
    obtain⟨a,ea⟩:=rfBare_eq s (by omega) b hb h60
    rw [ea,zaa]
    exact⟨_,rfl⟩
   |true=>
    rw [h6]at hh
    have hlt:utl [60] s b<s.length:=of_decide_eq_true hh.symm
    have hat:at_ s ((utl [60] s b:Nat):Int)=60:=by
     have:=ayw [60] s b hb hlt
     rw [hasB1]at this
     exact of_decide_eq_true this
    rw [zap,Bool.false_and,cond_false,if_pos rfl]
    have e0:(if utl [60] s b<s.length then((utl [60] s b:Nat):Int)else-1)=((utl [60] s b:Nat):Int):=if_pos hlt
    rw [e0]
    have hbl:b<s.length:=by omega
    have hne:¬at_ s (b:Int)=34:=fun e=>by
     unfold aax at h34
     rw [decide_eq_true hbl,e]at h34
     cases h34
    obtain⟨j,e1,g1,g2⟩:=rfDisp_lp s (by omega) (utl [60] s b) hlt hat (utl [60] s b-b) b FU (s.length+1) [] (by omega) (by rw [adq];omega) (by omega) hu1 rfl (fun x hx=>by cases hx) (zak _)
    have e1':aip FU s ((utl [60] s b:Nat):Int) FU (b:Int) ([]:Str)=some j:=e1
    unfold asr
    rw [aaa (by omega),if_neg hne,e1',zaa]
    by_cases h0:(aja s (s.length+1) b []).1=0
    ·obtain⟨x1,x2⟩:=g1 h0
     have h60:aax s (utl [60] s b) 60=true:=by unfold aax;rw [decide_eq_true hlt,hat];rfl
     rw [x1,zaz,zaa,if_pos rfl]
     dsimp only
     rw [if_pos h0,x2]
     obtain⟨a,ea⟩:=rfTail_in s (by omega) (zar (aja s (s.length+1) b []).2.2 [32]) _ h60
     exact⟨a,ea⟩
    ·obtain⟨a,x1⟩:=g2 h0
     rw [x1,zaR,zaa]
     dsimp only
     rw [if_neg h0,if_neg h0]
     exact⟨_,rfl⟩
theorem rAddr_eq(v:Str)(hv:v.length≤4194304):aim FU v=some ((avp (ahu v)).2,(avp (ahu v)).1):=by
 obtain⟨a,e⟩:=rfParseAddr_eq (ahu v)
 unfold aim
 rw [refTrim_eq v hv,zaa,e,zaa]
theorem rUri_eq(v:Str)(hv:v.length≤4194304):azs FU v=some (uriH v):=by
 unfold azs uriH
 rw [rAddr_eq v hv,zaa]
 dsimp only
 by_cases h:(avp (ahu v)).1=0
 ·rw [if_pos h,if_pos h,rfPrint_eq _ (adr_good _ h).1 ((adr_sml _).1.sml (by decide)),zaa]
 ·rw [if_neg h,if_neg h]
theorem get_idx(l:List PP)(name:Str):getP l name=if fIdx (l.findIdx? fun p=>aab p.1==aab name)<0 then([],false)else((el l (fIdx (l.findIdx? fun p=>aab p.1==aab name))).2.1,true):=by
 unfold getP fIdx
 have hf:l.find? (fun p=>lowP p.1==lowP name)=match l.findIdx? (fun p=>aab p.1==aab name)with|none=>none|some j=>l[j]? :=by
  have h1:(fun p:PP=>lowP p.1==lowP name)=(fun p:PP=>aab p.1==aab name):=rfl
  rw [h1]
  generalize(fun p:PP=>aab p.1==aab name)=q
  induction l with
  |nil=>rfl
  |cons a l ih=>
   rw [List.find?_cons,List.findIdx?_cons]
   cases hq:q a with
   |true=>rfl
   |false=>
    rw [if_neg (by decide)]
    dsimp only
    rw [ih]
    cases l.findIdx? q with
    |none=>rfl
    |some j=>rfl
 rw [hf]
 cases hi:l.findIdx? (fun p=>aab p.1==aab name)with
 |none=>rfl
 |some j=>
  have hlt:j<l.length:=by
   have:=List.findIdx?_eq_some_iff_getElem.1 hi
   exact this.1
  dsimp only
  rw [if_neg (by omega),List.getElem?_eq_getElem hlt,el_nat l j hlt]
theorem rGet_eq(l:List PP)(hl:l.length≤4194304)(hn:∀p∈l,p.1.length≤4194304)(name:Str)(hm:name.length≤4194304):atq FU l name=some (getP l name):=by
 unfold atq
 rw [rfFind_eq l hl hn name hm,zaa,get_idx]
 by_cases h:fIdx (l.findIdx? fun p=>aab p.1==aab name)<0
 ·rw [if_pos h,if_pos h]
 ·have hin:0≤fIdx (l.findIdx? fun p=>aab p.1==aab name)∧fIdx (l.findIdx? fun p=>aab p.1==aab name)<(l.length:Int):=by
   refine⟨by omega, ?_⟩
   unfold fIdx at h⊢
   cases hi:l.findIdx? (fun p=>aab p.1==aab name)with
   |none=>rw [hi]at h;exact absurd (show(-1:Int)<0 by decide) h
   |some j=>
    have:=(List.findIdx?_eq_some_iff_getElem.1 hi).1
    dsimp only
    omega
  rw [if_neg h,if_neg h,aaa hin,aaa hin]
open List renaming length_drop → zaj
theorem awake_true:azy FU=some true:=by kernel_rfl
theorem adr_nil(s:Str)(h:¬(avp s).1=0):(avp s).2=nilA:=by
 unfold avp at h⊢
 split
 ·rfl
 ·rename_i h1
  rw [if_neg h1]at h
  split
  ·rename_i h2
   rw [if_pos h2]at h
   split
   ·rename_i h3
    rw [if_pos h3]at h
    split
    ·rename_i h4
     rw [if_pos h4]at h
     exact absurd rfl h
    ·rfl
   ·rfl
  ·rfl
theorem item_nil(v:Str)(h:¬(itemP v).2=0):(itemP v).1=([],[]):=by
 unfold itemP at h⊢
 split
 ·rfl
 ·rename_i h1
  rw [if_neg h1]at h
  split
  ·rename_i h2
   rw [if_pos h2]at h
   exact absurd rfl h
  ·rfl
theorem item_names(v:Str)(hv:v.length≤4194304):∀p∈(itemP v).1.2,p.1.length≤4194304:=by
 have ht:=trimL_len v
 unfold itemP
 split
 ·intro p hp;cases hp
 ·split
  ·intro p hp
   have hd:((ahu v).drop (itemE (ahu v))).length≤4194304:=by rw [zaj];omega
   have:=(parP_names _ hd p hp).2.1
   omega
  ·intro p hp;cases hp
def paramH(v name:Str):Str×Bool:=if(avp (ahu v)).1=0 then getP (avp (ahu v)).2.2.2 name else if(itemP v).2=0 then getP (itemP v).1.2 name else([],false)
theorem hParam_eq(v:Str)(hv:v.length≤4194304)(name:Str)(hn:name.length≤4194304):atx FU v name=some (paramH v name):=by
 unfold atx paramH
 rw [hAddr_eq v hv,zaa]
 dsimp only
 by_cases h:(avp (ahu v)).1=0
 ·rw [if_pos h,if_pos h,hGet_eq v h name hn,zaa]
 ·have hl:=itemP_len v
  rw [if_neg h,if_neg h,item_eq v hv,zaa]
  by_cases h2:(itemP v).2=0
  ·rw [if_pos h2,if_pos h2,get_eq _ omg (item_names v hv) name hn,zaa]
  ·rw [if_neg h2,if_neg h2]
theorem rParam_eq(v:Str)(hv:v.length≤4194304)(name:Str)(hn:name.length≤4194304):avf FU v name=some (paramH v name):=by
 unfold avf paramH
 rw [rAddr_eq v hv,zaa]
 dsimp only
 by_cases h:(avp (ahu v)).1=0
 ·obtain⟨_,h2,h3⟩:=adr_good _ h
  rw [if_pos h,if_pos h,rGet_eq _ omg (fun p hp=>(h3 p hp).2) name hn,zaa]
 ·have hl:=itemP_len v
  rw [if_neg h,if_neg h,rfItem_eq v hv,zaa,rGet_eq _ omg (item_names v hv) name hn,zaa]
  by_cases h2:(itemP v).2=0
  ·rw [if_pos h2]
  ·rw [if_neg h2,item_nil v h2];rfl
theorem rTag_eq(v:Str)(hv:v.length≤4194304):azt FU v=some (tagH v):=by
 unfold azt tagH
 rw [rAddr_eq v hv,zaa]
 dsimp only
 by_cases h:(avp (ahu v)).1=0
 ·obtain⟨_,h2,h3⟩:=adr_good _ h
  rw [show([116,97,103]:Str)=TAGN from rfl,rGet_eq _ omg (fun p hp=>(h3 p hp).2) TAGN (by decide),zaa,if_pos h]
 ·rw [adr_nil _ h,show([116,97,103]:Str)=TAGN from rfl,rGet_eq _ (by decide) (fun p hp=>by cases hp) TAGN (by decide),zaa,if_neg h];rfl
theorem adr_lens(s:Str):(avp s).2.2.2.length≤16∧(avp s).2.2.1.2.2.2.2.1.length≤16∧(avp s).2.2.1.2.2.2.2.2.length≤16:=by
 by_cases h:(avp s).1=0
 ·obtain⟨h1,h2,h3⟩:=adr_good s h
  exact⟨h2,h1.pl,h1.hl⟩
 ·rw [adr_nil s h]
  exact⟨zak _,zak _,zak _⟩
theorem same_self(a:AA)(h1:a.2.2.length≤16)(h2:a.2.1.2.2.2.2.1.length≤16)(h3:a.2.1.2.2.2.2.2.length≤16):aml FU a a=some true:=by
 unfold aml L_ref02_Same
 rw [if_pos rfl,if_pos rfl,if_pos rfl,if_pos rfl,if_pos rfl,avt _ omg,zaa,cond_true,avt _ omg,zaa,zaa,zaa,cond_true,avt _ omg,zaa,zaa]
theorem plain_HeaderAddresses(a b:Str)(h:a.length+b.length≤1048576):aho FU a b=some true:=by
 obtain⟨l1,l2,l3⟩:=adr_lens (ahu a)
 have hs:=same_self (avp (ahu a)).2 l1 l2 l3
 unfold aho
 rw [hAddr_eq a omg,zaa,rAddr_eq a omg,zaa,hUri_eq a omg,zaa,rUri_eq a omg,zaa,hParam_eq a omg b omg,zaa,rParam_eq a omg b omg,zaa]
 dsimp only
 rw [hs,zaa,cond_true,if_pos rfl,if_pos rfl,if_pos rfl,hTag_eq a omg,zaa,rTag_eq a omg,zaa,if_pos rfl,if_pos rfl]
 have hb:((paramH a b).2==(paramH a b).2)=true:=by cases(paramH a b).2<;>rfl
 rw [hb,cond_true,awake_true]
 rfl
end Go.Wk
