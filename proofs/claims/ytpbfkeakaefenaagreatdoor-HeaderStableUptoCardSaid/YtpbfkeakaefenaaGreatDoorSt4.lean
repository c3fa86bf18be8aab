/-
  The law HeaderStable (part 4 of 8).
-/
import Derived.Test.YtpbfkeakaefenaaGreatDoorSt3
import GoSem.Core.Utf8
set_option linter.unusedVariables false
set_option linter.unusedSimpArgs false
namespace Go.Oe
open Go.Wk
open Go.Ce (Tr)
open List renaming append_assoc → zal, append_nil → zam, length → zbl, length_append → zab, length_map → zaK, length_nil → zaj, map_congr_left → zbn, nil_append → zax
open Nat renaming beq → zav, blt → zbh, le_refl → zao, zero_add → zbc
open Option renaming map_some → zaU
section
variable {C : Cx} {md : Md} {w0 w : World} {S0 : List Nat} {GS : Glo} {ρ : Nat → Ad} {S : St} {F : Nat → Value}
theorem loadVar_of{t : TypeId}{a : Operand}{p : Addr}{u : Value}(hx : evn md F a = .pointer (some p))(h : (execOp (evn md F) (⟨some 0, .load t a, 0, "", #[], none⟩ : Oper)).run C.P w = .ok (.value u) w) : (loadVar t p).run C.P w = .ok u w := by
 simp only [execOp,hx,Instr.loadAt,Instr.sureAddr,Sem.run_bind,Sem.run_pure,Result.andThen_ok]at h
 cases hl:(loadVar t p).run C.P w with
 |ok v w'=>
  rw [hl]at h
  simp only [Result.andThen_ok,Result.ok.injEq,Next.value.injEq]at h
  rw [h.1,h.2]
 |halt x w'=>rw [hl]at h;cases h
theorem resOf_run(hn:C.nn=md.n)(hS:Rel C w0 S0 ρ S F w){rv:ResultVar}{u:Value}(h:(Go.Oe.resOf C S rv).v ρ=some u):(Go.Wk.resOf (fr md F).tmps rv).run C.P w=.ok u w:=by
 cases rv with
 |tmp t=>
  have h:(S.ev C (.tmp t)).v ρ=some u:=h
  have:=(awz hS hn (.tmp t)).2 u h
  have e:(bif zbh t md.n then F t else undef)=u:=this
  unfold Go.Wk.resOf
  simp only [fr_get,e,Sem.run_pure]
 |cell a t=>
  have h:((match S.ev C (.tmp a)with
   |.c' x=>match opLoad C S.H t x with
    |some ⟨[],v,_,_⟩=>v
    |_=>.u'
   |_=>.u'):SV).v ρ=some u:=h
  split at h
  ·rename_i x hx
   have hx2:S.ev C (.tmp a)=.c' x:=hx
   obtain⟨h1,h2⟩:=agi hS hn hx2
   split at h
   ·rename_i v H m hl
    obtain⟨⟨_,u2,h3,h4⟩,_⟩:=load_ok hS (md:=md) (x:=.tmp a) h2 hl trivial
    have h3:v.v ρ=some u2:=h3
    rw [h]at h3
    cases h3
    have h5 := h4 0 0 "" #[]
    have hp:∃p,x.v ρ=.pointer (some p):=by
     unfold opLoad at hl
     split at hl
     ·rename_i n ag _ _
      cases hz:zav n 0 with
      |true=>rw [hz]at hl;cases hl
      |false=>
       rw [hz]at hl
       cases x<;>first|exact⟨_,rfl⟩|cases hl
     ·cases hl
    obtain⟨p,hp⟩:=hp
    rw [hp]at h2
    have h6:=loadVar_of h2 h5
    have e:(bif zbh a md.n then F a else undef)=.pointer (some p):=h2
    unfold Go.Wk.resOf
    simp only [fr_get,e,asAddr,Sem.run_bind,Sem.run_pure,Result.andThen_ok]
    exact h6
   ·cases h
  ·cases h
end
def oneV:List Value→Value
 |[u]=>u
 |us=>.tuple us.toArray
theorem results_go{P:Program}{kk:Nat}{F:Nat→Value}{w:World}{fn:Func}(l:List ResultVar)(vs:List Value)(hr:fn.results=l.toArray)(hl:l.length=vs.length)
  (hv:∀(i:Nat) (x:ResultVar) (v:Value),l[i]? =some x→vs[i]? =some v→(Go.Wk.resOf (fr ⟨kk,[],none⟩ F).tmps x).run P w=.ok v w) (v:Value) (hone:oneV vs=v):
  (results fn (fr ⟨kk,[],none⟩ F).tmps).run P w=.ok v w:=by
 have hm:=run_mapM (P:=P) (w:=w) (Go.Wk.resOf (fr ⟨kk,[],none⟩ F).tmps) l vs hl hv
 unfold results
 rw [hr]
 change Sem.run P (do let vs←l.toArray.mapM (Go.Wk.resOf (fr ⟨kk,[],none⟩ F).tmps);pure (if h:vs.size=1 then vs[0]else .tuple vs)) w=_
 simp only [List.mapM_toArray,Sem.run_bind,Sem.run_map]
 rw [hm]
 simp only [Result.andThen_ok,Sem.run_pure]
 subst hone
 congr 1
 cases vs with
 |nil=>simp [oneV]
 |cons u us=>cases us with
  |nil=>simp [oneV]
  |cons u' us=>simp [oneV]
theorem resV_one{ρ:Nat→Ad}:∀(l:List SA),(resV l).v ρ=some (oneV (l.map (SA.v ρ)))
 |[]=>rfl
 |[x]=>SA.sv_v ρ x
 |_::_::_=>rfl
theorem fun_ok{C:Cx}{k:Nat}{fn:Func}{code:Code}{GS:Glo}{gl:List (Nat×Ob)}{rs:List ResultVar}{sc:Sc}{a:List Ty}{r:List Rk}{f:(tupT a).T→Gv (resT r).T}(hf:C.P.funcs[k]? =some fn)(hb:fn.body=some code)(hn:fn.ntmps=C.nn)(hr:fn.results=rs.toArray)
  (hden:∀x y,(f x).ok y→denF C (gl.map (·.2)) code rs sc a r x=some y) (hal:a.length≤C.nn) (hE:EOk C) (hX:∀k,∀c∈C.X k,Enters C.P k∧FOk C.P GS k c) (hgl:∀q∈gl,q∈GS.gs∧∃t l,q.2=.ro t l)
  (hG:∀g id,C.G g=some id→∃i q,id=noA a+i∧gl[i]? =some q∧q.1=g):FOk C.P GS k ⟨a,r,f⟩:=by
 intro w S ρ L us x y hGw hHp hMt hus hy
 let H:List Ob:=(asc [] a x).2
 have hAH:argH ⟨a,r,f⟩ x=H:=rfl
 let gs:List Ob:=gl.map (·.2)
 have hd:=hden x y hy
 have hd:(bif (bif noTz a then(bif nodN (Rk.ids r)then outsK H r else false)else false)then den C (resT r) (resD C (H++gs).length (alOf r H H 0) rs r) code sc ⟨setL Tr.e 0 (asc [] a x).1,H++gs,(H++gs).length,alOf r H H 0,[]⟩ (resT r) some (endK (resD C (H++gs).length (alOf r H H 0) rs r))else none)=some y:=hd
 have hd:=aas hd
 have hc:=agp hd.1
 have hc2:=agp hc.2
 have hnt:=hc.1
 have hnd:=nodN_iff.1 hc2.1
 have hout:=hc2.2
 have hden:=hd.2
 obtain⟨obs,ho1,ho2,ho3,ho4⟩:=layA_ok a [] x hnt
 rw [zax]at ho1
 have hHo:H=obs:=ho1
 have hlenH:H.length=noA a:=by
  have:=layA_no a [] x
  rw [zaj,zbc]at this
  exact this
 have hHlen:([]:List Ob).length+obs.length=H.length:=by rw [hHo];simp
 rw [hHlen]at ho3 ho4
 have hm:Mt w S ρ H L:=hMt
 have hgl2:∀(i:Nat) (q:Nat×Ob),gl[i]? =some q→∃t l,q.2=.ro t l∧Rd w (some ⟨q.1,0,none⟩) (l.flatMap t.enc)∧q.1∉S:=by
  intro i q hq
  obtain⟨g,o⟩:=q
  obtain⟨h1,t,l,h2⟩:=hgl _ (List.mem_of_getElem? hq)
  have h2:o=.ro t l:=h2
  subst h2
  have:=GS.rd hGw h1
  exact⟨t,l,rfl,this.1,this.2⟩
 let ρ1:Nat→Ad:=fun id=>if id<H.length then ρ id else match gl[id-H.length]? with
  |some q=>⟨none,some ⟨q.1,0,none⟩,q.2.len,false,q.2.len⟩
  |none=>ρ id
 have hup1:Up H.length ρ ρ1:=fun id hi=>by simp only [ρ1,hi,if_true]
 have hg1:∀(i:Nat) (q:Nat×Ob),gl[i]? =some q→ρ1 (H.length+i)=⟨none,some ⟨q.1,0,none⟩,q.2.len,false,q.2.len⟩:=by
  intro i q hq
  have e1:¬H.length+i<H.length:=by omega
  have e2:H.length+i-H.length=i:=by omega
  simp only [ρ1,e1,if_false,e2,hq]
 have hvs:(asc [] a x).1.map (SV.v ρ1)=us.map some:=by
  have hus:(asc [] a x).1.map (SV.v ρ)=us.map some:=hus
  rw [←hus]
  refine zbn fun v hv=>SV.up hup1 (ho3 v hv)
 have hlus:us.length=a.length:=by
  have:=congrArg zbl hus
  simp only [zaK]at this
  rw [←this];exact ho2
 let S1:St:=⟨setL Tr.e 0 (asc [] a x).1,H++gs,(H++gs).length,alOf r H H 0,[]⟩
 have hlnS:(H++gs).length=H.length+gl.length:=by simp [gs]
 have hrel:Rel C w S ρ1 S1 (argF us) w:=by
  have hat:∀t,S1.at t=if t<a.length then(asc [] a x).1.getD t .u' else .u':=by
   intro t
   rw [St.at_eq]
   show gtF (setL Tr.e 0 (asc [] a x).1) t=_
   rw [setL_get,ho2,zbc,Nat.sub_zero]
   have e:gtF (Tr.e:Tr SV) t=.u':=by unfold gtF;rw [Go.Ce.Tr.get_e]
   rw [e]
   simp
  refine⟨fun g id hg=> ?_,fun t u hu=> ?_,fun t=> ?_,fun id e cs ho c hcm=> ?_,⟨L++List.replicate gl.length nores, ?_, ?_, ?_⟩⟩
  ·obtain⟨i,q,h1,h2,rfl⟩:=hG g id hg
   have hi:=(List.getElem?_eq_some_iff.1 h2).1
   rw [←hlenH]at h1
   subst h1
   exact⟨by show H.length+i<(H++gs).length;omega,by rw [hg1 i q h2]⟩
  ·rw [hat]at hu
   split at hu
   ·rename_i ht
    have h1:(asc [] a x).1[t]? =some ((asc [] a x).1[t]'(by rw [ho2];exact ht)):=List.getElem?_eq_getElem (by rw [ho2];exact ht)
    have h2:=congrArg (fun l=>l[t]?) hvs
    simp only [List.getElem?_map,h1,zaU]at h2
    have h3:us[t]? =some (us[t]'(by omega)):=List.getElem?_eq_getElem (by omega)
    rw [h3]at h2
    rw [List.getD_eq_getElem?_getD,h1]at hu
    have h4:=Option.some.inj h2
    rw [show((some ((asc [] a x).1[t]'(by rw [ho2];exact ht))).getD SV.u')=(asc [] a x).1[t]'(by rw [ho2];exact ht)from rfl,h4]at hu
    unfold argF
    rw [List.getD_eq_getElem?_getD,h3]
    exact Option.some.inj hu
   ·cases hu
  ·rw [hat]
   split
   ·rename_i ht
    have h1:(asc [] a x).1[t]? =some ((asc [] a x).1[t]'(by rw [ho2];exact ht)):=List.getElem?_eq_getElem (by rw [ho2];exact ht)
    rw [List.getD_eq_getElem?_getD,h1]
    exact SV.ok_mono (ho3 _ (List.mem_of_getElem? h1)) (by show H.length≤(H++gs).length;omega)
   ·trivial
  ·have ho:(H++gs)[id]? =some (.bl e cs):=ho
   by_cases hi:id<H.length
   ·rw [List.getElem?_append_left hi,hHo]at ho
    exact SC.ok_mono (ho4 id e cs ho c hcm) (by show H.length≤(H++gs).length;omega)
   ·rw [List.getElem?_append_right (by omega)]at ho
    exfalso
    obtain⟨q,h1,h2⟩:=map_some ho
    obtain⟨t,l,h3,_⟩:=hgl2 _ q h1
    rw [h3]at h2;cases h2
  ·have key:∀n,Hp w S (L++List.replicate n nores) w:=by
    intro n
    induction n with
    |zero=>rw [List.replicate_zero,zam];exact hHp
    |succ n ih=>
     have:=Go.Oe.Hp.rot (hp_idle ih)
     rw [zal]at this
     rw [List.replicate_succ']
     exact this
   exact key _
  ·show(L++_).length=(H++gs).length
   rw [zab,List.length_replicate,hlnS,hm.1]
  ·intro id o ho
   have ho:(H++gs)[id]? =some o:=ho
   by_cases hi:id<H.length
   ·rw [List.getElem?_append_left hi]at ho
    obtain⟨h1,r1,h2,h3⟩:=hm.2 id o ho
    refine⟨by rw [hup1 id hi];exact h1,r1,by rw [List.getElem?_append_left (by rw [hm.1];exact hi)];exact h2,h3.up hup1 hi fun e cs he=> ?_⟩
    rw [he,hHo]at ho
    exact ho4 id e cs ho
   ·rw [List.getElem?_append_right (by omega)]at ho
    obtain⟨q,h1,h2⟩:=map_some ho
    obtain⟨t,l,h3,h4,h5⟩:=hgl2 _ q h1
    have hgi:=hg1 _ q h1
    rw [show H.length+(id-H.length)=id by omega]at hgi
    rw [h3]at h2
    subst h2
    have hilt:=(List.getElem?_eq_some_iff.1 h1).1
    refine⟨by rw [hgi,h3],nores, ?_,rfl, ?_⟩
    ·rw [List.getElem?_append_right (by rw [hm.1];omega),List.getElem?_replicate,if_pos (by rw [hm.1];exact hilt)]
    ·rw [hgi]
     exact⟨h4,fun _ p hp=>by cases hp;exact h5,by rw [h3];exact zao _⟩
 let md:Md:=⟨C.nn,[],none⟩
 have hEnv:Env C md w S GS:=⟨hE,rfl,hGw,hX⟩
 have hsnd:=den_sound (τ:=resT r) (res:=resD C (H++gs).length (alOf r H H 0) rs r) (md:=md) (w0:=w) (S0:=S) (C:=C) rfl ⟨_,rfl⟩ (pureOk rfl) code (regs_ok hEnv rfl code)
 have fin:∀S2 ρ2 F2 w2,resD C (H++gs).length (alOf r H H 0) rs r S2=some y→Rel C w S ρ2 S2 F2 w2→Le S1.nb S1.al ρ1 S1.H ρ2 S2.H→
   ∃vs v,rs.length=vs.length∧(∀(i:Nat) (x:ResultVar) (u:Value),rs[i]? =some x→vs[i]? =some u→(Go.Wk.resOf (fr md F2).tmps x).run C.P w2=.ok u w2)∧oneV vs=v∧
    ∃ρ3 L3,Up H.length ρ ρ3∧Hp w S L3 w2∧Mt w S ρ3 (retS ⟨a,r,f⟩ x y).2 L3∧(resV (retS ⟨a,r,f⟩ x y).1).v ρ3=some v:=by
  intro S2 ρ2 F2 w2 h1 h2 h3
  obtain⟨ρ3,L3,vs,h4,h5,h6,h7,h8⟩:=end_ok (md:=md) (H:=H) (gs:=gs) (ρ:=ρ1) rfl rfl h2 (fun id o ho=>by
   have hi:=(List.getElem?_eq_some_iff.1 ho).1
   rw [hup1 id hi];exact hm.lns id o ho) (fun id e cs ho=>by rw [hHo]at ho;exact ho4 id e cs ho) hnd hout h3 h1
  refine⟨vs,_,by simpa using congrArg zbl h8,fun i rv u hi hu=> ?_,rfl,ρ3,L3,hup1.trans h4 (zao _),h5,h6, ?_⟩
  ·have h9:=congrArg (fun l=>l[i]?) h8
   simp only [List.getElem?_map,hi,hu,zaU]at h9
   exact resOf_run (md:=md) rfl h2 (Option.some.inj h9)
  ·rw [←h7];exact resV_one _
 refine enter (k:=C.nn) hf hb hn (by rw [hlus];exact hal) ?_
 refine hsnd sc S1 (resT r) some (endK (resD C (H++gs).length (alOf r H H 0) rs r)) y ρ1 (argF us) w _ hden hrel (fun e S2 ρ2 F2 w2 he hS2 hN hf2 hran=> ?_) (fun z S2 ρ2 F2 w2 hz hps hS2 hL=> ?_)
 ·cases e with
  |nm=>
   obtain⟨vs,v,h1,h2,h3,ρ3,L3,h4⟩:=fin S2 ρ2 F2 w2 he hS2 hN.le
   exact⟨rfl,v,results_go rs vs hr h1 h2 v h3,v,rfl,ρ3,L3,h4⟩
  |xt i=>cases he
 ·cases hps
  obtain⟨vs,v,h1,h2,h3,ρ3,L3,h4⟩:=fin S2 ρ2 F2 w2 hz hS2 hL.le
  exact⟨rfl,v,results_go rs vs hr h1 h2 v h3,v,rfl,ρ3,L3,h4⟩
open Go.Wk
open Go.Ce (Tr)
open List renaming eq_nil_of_length_eq_zero → zap
open Nat renaming beq → zav, eq_of_beq_eq_true → zag, le_of_ble_eq_true → zaG, one_pos → zbq, succ → zbk
structure KF (P:Program) (GS:Glo) where
 k:Nat
 c:Con
 en:Enters P k
 ok:FOk P GS k c
def lookX{P:Program}{GS:Glo}:List (KF P GS)→Nat→List Con
 |[],_=>[]
 |q::l,k=>bif zav k q.k then q.c::lookX l k else lookX l k
theorem lookX_ok{P:Program}{GS:Glo}:∀(l:List (KF P GS)) (k:Nat),∀c∈lookX l k,Enters P k∧FOk P GS k c
 |[],k,c,h=>by cases h
 |q::l,k,c,h=>by
  unfold lookX at h
  cases hq:zav k q.k with
  |false=>rw [hq]at h;exact lookX_ok l k c h
  |true=>
   rw [hq]at h
   rcases List.mem_cons.1 (show c∈q.c::lookX l k from h)with rfl|h
   ·rw [zag hq];exact⟨q.en,q.ok⟩
   ·exact lookX_ok l k c h
def gIdx:List (Nat×Ob)→Nat→Nat→Option Nat
 |[],_,_=>none
 |q::l,n,g=>bif zav g q.1 then some n else gIdx l (zbk n) g
theorem gIdx_ok:∀(l:List (Nat×Ob)) (n g id:Nat),gIdx l n g=some id→∃i q,id=n+i∧l[i]? =some q∧q.1=g
 |[],n,g,id,h=>by cases h
 |q::l,n,g,id,h=>by
  unfold gIdx at h
  cases hq:zav g q.1 with
  |false=>
   rw [hq]at h
   obtain⟨i,q2,h1,h2,h3⟩:=gIdx_ok l (zbk n) g id h
   exact⟨i+1,q2,by omega,h2,h3⟩
  |true=>
   rw [hq]at h
   cases h
   exact⟨0,q,rfl,rfl,(zag hq).symm⟩
structure Sea where
 P:Program
 GS:Glo
 E:Nat→Option (Nat×Nat×Ty)
 hE:∀t e b τ,E t=some (e,b,τ)→P.underlying t=some (.slice e)∧TI P e τ.sz b∧τ.flat=true∧0<b
 gt:∀q∈GS.gs,∃t l,q.2=.ro t l
abbrev Sea.K(T:Sea):Type:=KF T.P T.GS
abbrev Sea.cx(T:Sea)(fu n:Nat)(l:List T.K)(a:List Ty):Cx:=⟨T.P,lookX l,T.E,gIdx T.GS.gs (noA a),n,fu⟩
def Sea.fn(T : Sea)(fu k : Nat){fn : Func}(hf : T.P.funcs[k]? = some fn){code : Code}(hb : fn.body = some code)(nm : (fn.name == "runtime.NumGoroutine") = false)(l : List T.K)(a : List Ty)(r : List Rk)(g : (tupT a).T → Option (resT r).T)(sc : Sc)
  (hal:Nat.ble a.length fn.ntmps=true) (hden:∀x,denF (T.cx fu fn.ntmps l a) (T.GS.gs.map (·.2)) code fn.results.toList sc a r x=g x):T.K:=
 ⟨k,⟨a,r,fun x=>.one (g x)⟩,⟨fn,code,hf,hb,nm⟩,
  fun_ok (C:=T.cx fu fn.ntmps l a) (gl:=T.GS.gs) hf hb rfl (rs:=fn.results.toList) (by simp) (sc:=sc) (fun x y hy=>(hden x).trans hy) (zaG hal) T.hE (lookX_ok l) (fun q hq=>⟨hq,T.gt q hq⟩) (fun g id h=>gIdx_ok _ _ _ _ h)⟩
theorem apv{P:Program}{GS:Glo}{k:Nat}{c:Con}(V:(tupT c.a).T→List Value)(R:(resT c.r).T→Value)(hH:∀x,argH c x=[])(hV:∀ρ x,(asc [] c.a x).1.map (SV.v ρ)=(V x).map some)
  (hr:∀x y,(retS c x y).2=[]) (hR:∀ρ x y,(resV (retS c x y).1).v ρ=some (R y)) (h:∀w S x y,GS.p w S→(c.f x).ok y→CR P k (V x) w fun v w2=>v=R y∧Hp w [] [] w2):FOk P GS k c:=by
 intro w S ρ L us x y hG hHp hMt hus hy
 rw [hV]at hus
 have e:V x=us:=(List.map_inj_right (fun a b h=>Option.some.inj h)).1 hus
 subst e
 have hL:L=[]:=zap (by rw [hMt.1,hH];rfl)
 subst hL
 refine Calls.mono (h w S x y hG hy) ?_
 rintro ev w2 ⟨v,he,rfl,hw⟩
 refine⟨_,he,ρ,[],fun _ _=>rfl,hHp.call hw, ?_,hR ρ x y⟩
 rw [hr]
 exact⟨rfl,fun id o ho=>by simp at ho⟩
theorem fok_read{P:Program}{GS:Glo}{k:Nat}{c:Con}{t:Ty}(X:(tupT c.a).T→List t.T)(V:(tupT c.a).T→List Value)(R:(resT c.r).T→Value)(hH:∀x,argH c x=[.ro t (X x)])(hV:∀(ρ:Nat→Ad) x,(asc [] c.a x).1.map (SV.v ρ)=(Value.slice (ρ 0).a (ρ 0).ln (ρ 0).cap::V x).map some)
  (hr:∀x y,(retS c x y).2=[.ro t (X x)]) (hR:∀ρ x y,(resV (retS c x y).1).v ρ=some (R y))
  (h:∀w S x y a n cap,GS.p w S→(c.f x).ok y→n=(X x).length→Rd w a ((X x).flatMap t.enc)→n≤cap→CR P k (Value.slice a n cap::V x) w fun v w2=>v=R y∧Hp w [] [] w2):FOk P GS k c:=by
 intro w S ρ L us x y hG hHp hMt hus hy
 rw [hV]at hus
 have e:=(List.map_inj_right (fun a b h=>Option.some.inj h)).1 hus
 subst e
 rw [hH]at hMt
 obtain⟨h1,r,h2,h3,h4⟩:=hMt.2 0 _ rfl
 have hln:(ρ 0).ln=(X x).length:=h1.symm
 refine Calls.mono (h w S x y _ _ _ hG hy hln h4.1 (by rw [hln];exact h4.2.2)) ?_
 rintro ev w2 ⟨v,he,rfl,hw⟩
 refine⟨_,he,ρ,L,fun _ _=>rfl,hHp.call hw, ?_,hR ρ x y⟩
 rw [hr]
 exact hMt
theorem fok_row{P:Program}{GS:Glo}{k:Nat}{c:Con}{e b:Nat}{t:Ty}(Y:(resT c.r).T→List t.T)(V:(tupT c.a).T→List Value)(hH:∀x,argH c x=[])(hV:∀(ρ:Nat→Ad) x,(asc [] c.a x).1.map (SV.v ρ)=(V x).map some)
  (hr:∀x y,(retS c x y).2=[.rw e b t (Y y)]) (hR:∀(ρ:Nat→Ad) x y,(resV (retS c x y).1).v ρ=some (.slice (ρ 0).a (ρ 0).ln (ρ 0).cap))
  (h:∀w S x y,GS.p w S→(c.f x).ok y→CR P k (V x) w fun v w2=>∃o a cap,v=.slice a (Y y).length cap∧Hp w [] [rwt t.enc e t.sz o a cap (Y y)] w2):FOk P GS k c:=by
 intro w S ρ L us x y hG hHp hMt hus hy
 rw [hV]at hus
 have e:=(List.map_inj_right (fun a b h=>Option.some.inj h)).1 hus
 subst e
 have hL:L=[]:=zap (by rw [hMt.1,hH];rfl)
 subst hL
 refine Calls.mono (h w S x y hG hy) ?_
 rintro ev w2 ⟨v,he,o,a,cap,rfl,hw⟩
 refine⟨_,he,fun id=>⟨o,a,cap,false,(Y y).length⟩,_,(fun i hi=>by rw [hH]at hi;cases hi),hHp.callL hw, ?_,hR _ x y⟩
 rw [hr]
 refine⟨rfl,fun id ob ho=> ?_⟩
 cases id with
 |zero=>cases ho;exact⟨rfl,_,rfl,rfl⟩
 |succ id=>simp at ho
theorem fok_clone{P:Program}{GS:Glo}{k:Nat}{c:Con}{e b:Nat}{t:Ty}(X:(tupT c.a).T→List t.T)(Y:(resT c.r).T→List t.T)(hH:∀x,argH c x=[.ro t (X x)])(hV:∀(ρ:Nat→Ad) x,(asc [] c.a x).1.map (SV.v ρ)=[Value.slice (ρ 0).a (ρ 0).ln (ρ 0).cap].map some)
  (hr:∀x y,(retS c x y).2=[.ro t (X x),.rw e b t (Y y)]) (hR:∀(ρ:Nat→Ad) x y,(resV (retS c x y).1).v ρ=some (.slice (ρ 1).a (ρ 1).ln (ρ 1).cap))
  (h:∀w S x y a n cap,GS.p w S→(c.f x).ok y→n=(X x).length→Rd w a ((X x).flatMap t.enc)→n≤cap→CR P k [Value.slice a n cap] w fun v w2=>∃o a cap,v=.slice a (Y y).length cap∧Hp w [] [rwt t.enc e t.sz o a cap (Y y)] w2):FOk P GS k c:=by
 intro w S ρ L us x y hG hHp hMt hus hy
 rw [hV]at hus
 have e:=(List.map_inj_right (fun a b h=>Option.some.inj h)).1 hus
 subst e
 rw [hH]at hMt
 obtain⟨h1,r,h2,h3,h4⟩:=hMt.2 0 _ rfl
 have hln:(ρ 0).ln=(X x).length:=h1.symm
 refine Calls.mono (h w S x y _ _ _ hG hy hln h4.1 (by rw [hln];exact h4.2.2)) ?_
 rintro ev w2 ⟨v,he,o,a,cap,rfl,hw⟩
 have hp:=(hHp.callL hw).perm (List.perm_append_comm (l₁:=[_]) (l₂:=L))
 have hL1:L.length=1:=hMt.1
 refine⟨_,he,fun id=>if id=0 then ρ 0 else⟨o,a,cap,false,(Y y).length⟩,_,fun i hi=> ?_,hp, ?_,hR _ x y⟩
 ·rw [hH]at hi
  have:i=0:=Nat.lt_one_iff.1 hi
  subst this;rfl
 rw [hr]
 refine⟨by simp [hL1],fun id ob ho=> ?_⟩
 match id,ho with
 |0,ho=>
  cases ho
  exact⟨h1,r,by rw [List.getElem?_append_left (by omega)];exact h2,h3,h4⟩
 |1,ho=>
  cases ho
  exact⟨rfl,_,by rw [List.getElem?_append_right (by omega),hL1];rfl,rfl⟩
 |id+2,ho=>simp at ho
theorem fok_useRow{P:Program}{GS:Glo}{k e b q:Nat}{t:Ty}{G:List t.T→Option (List t.T)}(h:FOk P GS k ⟨[.l' e b t,.f' q .u'],[.w' 0 (.l' e b t)],fun x=>.one (G x.1)⟩){o:Option Nat}{a:Option Addr}{cap:Nat}{l r:List t.T}{w:World}{S:List Nat}
  (hr:G l=some r) (hG:GS.p w S) (hM:Hp w S [rwt t.enc e t.sz o a cap l] w):CR P k [Value.slice a l.length cap,Value.func (.func q) #[] #[]] w fun v w'=>v=.tuple #[]∧r.length=l.length∧Hp w S [rwt t.enc e t.sz o a cap r] w':=by
 refine Calls.mono (h w S (fun _=>⟨o,a,cap,false,l.length⟩) _ [Value.slice a l.length cap,Value.func (.func q) #[] #[]] (l,()) r hG hM ?_ rfl hr) ?_
 ·show Mt w S _ [.rw e b t l] _
  refine⟨rfl,fun id ob ho=> ?_⟩
  cases id with
  |zero=>cases ho;exact⟨rfl,_,rfl,rfl⟩
  |succ id=>simp at ho
 ·rintro ev w2 ⟨v,he,ρ2,L2,h1,h2,h3,h4⟩
  have h1:ρ2 0=⟨o,a,cap,false,l.length⟩:=h1 0 zbq
  have h3:Mt w S ρ2 [.rw e b t r] L2:=h3
  obtain⟨g1,q2,g2,g3⟩:=h3.2 0 _ rfl
  have g1:r.length=(ρ2 0).ln:=g1
  have g3:q2=rwt t.enc e t.sz (ρ2 0).o (ρ2 0).a (ρ2 0).cap r:=g3
  subst g3
  rw [h1]at g1 g2
  have hL:L2=[rwt t.enc e t.sz o a cap r]:=by
   have h5:=h3.1
   match L2,h5,g2 with
   |[x],_,g2=>cases g2;rfl
  subst hL
  exact⟨v,he,(Option.some.inj h4).symm,g1,h2⟩
theorem fok_use{P:Program}{GS:Glo}{k:Nat}{c:Con}(h:FOk P GS k c)(V:(tupT c.a).T→List Value)(R:(resT c.r).T→Value)(hH:∀x,argH c x=[])(hV:∀ρ x,(asc [] c.a x).1.map (SV.v ρ)=(V x).map some)
  (hR:∀ρ x y,(resV (retS c x y).1).v ρ=some (R y)) {w:World} {x:(tupT c.a).T} {y:(resT c.r).T} (hG:GS.p w []) (hy:(c.f x).ok y):CR P k (V x) w fun v w2=>v=R y∧Hp w [] [] w2:=by
 refine Calls.mono (h w [] (fun _=>⟨none,none,0,false,0⟩) [] (V x) x y hG (Hp.refl w) ?_ (hV _ x) hy) ?_
 ·rw [hH];exact⟨rfl,fun id o ho=>by simp at ho⟩
 ·rintro e w2 ⟨v,he,ρ2,L2,_,h2,_,h4⟩
  rw [hR]at h4
  exact⟨v,he,(Option.some.inj h4).symm,h2.nil⟩
end Go.Oe
set_option maxRecDepth 20000
set_option maxHeartbeats 1000000
namespace Go.Wk
open Go.Px
open Int renaming toNat → zan
open List renaming drop → zaC
open Sum renaming elim → zaO
def agj(fu:Nat)(a0:Int):Option Bool:=
 (((if(0:Int)≤a0 then some (decide (a0<(55296:Int)))else some false)).bind fun(v5:Bool)=>(bif v5 then some true else(((if(57343:Int)<a0 then some (decide (a0≤(1114111:Int)))else some false)).bind fun(a1:Bool)=>(bif a1 then some true else some false))))
def agk(fu:Nat)(s_0:Str)(a1:Nat→Option (Unit⊕Int))(a0:Nat):Option (Unit⊕Int):=
 (if a0<s_0.length then(if((Utf8.decode ⟨List.toArray s_0⟩ a0).1:Int)=(65533:Int)then some (.inr (a0:Int))else(a1 (a0+(Utf8.decode ⟨List.toArray s_0⟩ a0).2)))else some (.inl ()))
def agx(fu:Nat)(s_0:Str):Nat→Nat→Option (Unit⊕Int):=fun k_ a0=>loopF (fun(g:Nat→Option (Unit⊕Int)) v=>agk fu s_0 (fun a0=>g a0) v) k_ a0
theorem ali{fu:Nat}{s_0:Str}{k_:Nat}{a0:Nat}:agx fu s_0 (k_+1) a0=agk fu s_0 (agx fu s_0 k_) a0:=rfl
def amf(fu:Nat)(s_0:Str)(a1:Int)(a2:Int)(a3:Int→Option Int)(a0:Int):Option Int:=
 (if a0<(((Utf8.encode a1).data.toList).length:Int)then(gd (abt (a2-a0))<|(gd (0≤(a2-a0)∧(a2-a0)<(s_0.length:Int))<|(gd (abt (((((Utf8.encode a1).data.toList).length:Int)-(1:Int))-a0))<|(gd (0≤(((((Utf8.encode a1).data.toList).length:Int)-(1:Int))-a0)∧(((((Utf8.encode a1).data.toList).length:Int)-(1:Int))-a0)<(((Utf8.encode a1).data.toList).length:Int))<|(if(at_ s_0 (a2-a0))=(at_ ((Utf8.encode a1).data.toList) (((((Utf8.encode a1).data.toList).length:Int)-(1:Int))-a0))then(gd (abt (a0+(1:Int)))<|(a3 (a0+(1:Int))))else none)))))else(gd (abt (a2-((((Utf8.encode a1).data.toList).length:Int)-(1:Int))))<|some (a2-((((Utf8.encode a1).data.toList).length:Int)-(1:Int)))))
def aiy(fu:Nat)(s_0:Str)(a1:Int)(a2:Int):Nat→Int→Option Int:=fun k_ a0=>loopF (fun(g:Int→Option Int) v=>amf fu s_0 a1 a2 (fun a0=>g a0) v) k_ a0
theorem avr{fu:Nat}{s_0:Str}{a0:Int}{a1:Int}{k_:Nat}{a2:Int}:aiy fu s_0 a0 a1 (k_+1) a2=amf fu s_0 a0 a1 (aiy fu s_0 a0 a1 k_) a2:=rfl
def aii(fu:Nat)(s_0:Str)(a0:Int)(a3:Option Int):Option Int:=
 (if((((Utf8.encode a0).data.toList).length:Int)-(1:Int))<(s_0.length:Int)then(((gd (0≤((((Utf8.encode a0).data.toList).length:Int)-(1:Int))∧((((Utf8.encode a0).data.toList).length:Int)-(1:Int))<(s_0.length:Int))<|(gd (0≤((((Utf8.encode a0).data.toList).length:Int)-(1:Int))∧((((Utf8.encode a0).data.toList).length:Int)-(1:Int))<(((Utf8.encode a0).data.toList).length:Int))<|(if(at_ s_0 ((((Utf8.encode a0).data.toList).length:Int)-(1:Int)))=(at_ ((Utf8.encode a0).data.toList) ((((Utf8.encode a0).data.toList).length:Int)-(1:Int)))then some (.inl ((((Utf8.encode a0).data.toList).length:Int)-(1:Int)))else(gd (abt (((((Utf8.encode a0).data.toList).length:Int)-(1:Int))+(1:Int)))<|(gd (0≤(((((Utf8.encode a0).data.toList).length:Int)-(1:Int))+(1:Int))∧(((((Utf8.encode a0).data.toList).length:Int)-(1:Int))+(1:Int))≤(s_0.length:Int))<|(gd (0≤((((Utf8.encode a0).data.toList).length:Int)-(1:Int))∧((((Utf8.encode a0).data.toList).length:Int)-(1:Int))<(((Utf8.encode a0).data.toList).length:Int))<|(if(ixb (·==(at_ ((Utf8.encode a0).data.toList) ((((Utf8.encode a0).data.toList).length:Int)-(1:Int)))) (zaC (zan (((((Utf8.encode a0).data.toList).length:Int)-(1:Int))+(1:Int))) s_0))<(0:Int)then some (.inr (-1:Int))else(gd (abt ((ixb (·==(at_ ((Utf8.encode a0).data.toList) ((((Utf8.encode a0).data.toList).length:Int)-(1:Int)))) (zaC (zan (((((Utf8.encode a0).data.toList).length:Int)-(1:Int))+(1:Int))) s_0))+(1:Int)))<|(gd (abt (((((Utf8.encode a0).data.toList).length:Int)-(1:Int))+((ixb (·==(at_ ((Utf8.encode a0).data.toList) ((((Utf8.encode a0).data.toList).length:Int)-(1:Int)))) (zaC (zan (((((Utf8.encode a0).data.toList).length:Int)-(1:Int))+(1:Int))) s_0))+(1:Int))))<|some (.inl (((((Utf8.encode a0).data.toList).length:Int)-(1:Int))+((ixb (·==(at_ ((Utf8.encode a0).data.toList) ((((Utf8.encode a0).data.toList).length:Int)-(1:Int)))) (zaC (zan (((((Utf8.encode a0).data.toList).length:Int)-(1:Int))+(1:Int))) s_0))+(1:Int)))))))))))))).bind fun(a1:(Int⊕Int))=>zaO (fun(a2:Int)=>(aiy fu s_0 a0 a2 fu (1:Int))) (fun q=>some q) a1)else some (-1:Int))
def agw(fu:Nat)(s_0:Str)(a0:Int):Nat→Option Int:=fun k_=>loopF (fun(g:Unit→Option Int) v=>aii fu s_0 a0 (g ())) k_ ()
theorem apq{fu:Nat}{s_0:Str}{a0:Int}{k_:Nat}:agw fu s_0 a0 (k_+1)=aii fu s_0 a0 (agw fu s_0 a0 k_):=rfl
def afd(fu:Nat)(s_0:Str)(a0:Int):Option Int:=
 (((if(0:Int)≤a0 then some (decide (a0<(128:Int)))else some false)).bind fun(v5:Bool)=>(bif v5 then some (ixb (·==(u8i a0)) s_0)else(if a0=(65533:Int)then(((agx fu s_0 fu 0)).bind fun(a1:(Unit⊕Int))=>zaO (fun(a3:Unit)=>some (-1:Int)) (fun q=>some q) a1)else((agj fu a0).bind fun(a2:Bool)=>(bif (!a2)then some (-1:Int)else(gd (abt ((((Utf8.encode a0).data.toList).length:Int)-(1:Int)))<|(agw fu s_0 a0 fu)))))))
def agv(fu:Nat)(a0:Int):Option Bool:=
 some (decide ((8:Int)<a0))
def afi(fu:Nat)(s_0:Str)(a1:Str)(a2:Nat→Option (Unit⊕Int))(a0:Nat):Option (Unit⊕Int):=
 (if a0<s_0.length then((afd fu a1 ((Utf8.decode ⟨List.toArray s_0⟩ a0).1:Int)).bind fun(a3:Int)=>(if(0:Int)≤a3 then some (.inr (a0:Int))else(a2 (a0+(Utf8.decode ⟨List.toArray s_0⟩ a0).2))))else some (.inl ()))
def aho(fu:Nat)(s_0:Str)(a1:Str):Nat→Nat→Option (Unit⊕Int):=fun k_ a0=>loopF (fun(g:Nat→Option (Unit⊕Int)) v=>afi fu s_0 a1 (fun a0=>g a0) v) k_ a0
theorem aij{fu:Nat}{s_0:Str}{a0:Str}{k_:Nat}{a1:Nat}:aho fu s_0 a0 (k_+1) a1=afi fu s_0 a0 (aho fu s_0 a0 k_) a1:=rfl
def aob(fu:Nat)(s_0:Str)(a0:Str):Option Int:=
 (if a0=([]:Str)then some (-1:Int)else(if(a0.length:Int)=(1:Int)then(gd (0≤(0:Int)∧(0:Int)<(a0.length:Int))<|(((if(128:Int)≤((at_ a0 (0:Int)).toNat:Int)then some (65533:Int)else some ((at_ a0 (0:Int)).toNat:Int))).bind fun(v8:Int)=>((afd fu s_0 v8).bind fun(a1:Int)=>some a1)))else((((agv fu (s_0.length:Int)).bind fun(a2:Bool)=>(bif a2 then none else some ()))).bind fun(a4:Unit)=>(((aho fu s_0 a0 fu 0)).bind fun(a3:(Unit⊕Int))=>zaO (fun(a5:Unit)=>some (-1:Int)) (fun q=>some q) a3))))
end Go.Wk
namespace Go.Px
open Go.Wk
theorem get_at(l:List UInt8)(k:Nat)(h:k<l.length):(⟨l.toArray⟩:ByteArray).get! k=at_ l (k:Int):=by
 show l.toArray[k]! =_
 simp [at_,h]
theorem dec_ascii(l:List UInt8)(k:Nat)(h:k<l.length)(h1:(at_ l (k:Int)).toNat<128):Utf8.decode ⟨l.toArray⟩ k=((at_ l (k:Int)).toNat,1):=by
 unfold Utf8.decode
 simp only [Nat.add_zero,get_at l k h]
 rw [if_pos (by omega)]
theorem dec_high(l:List UInt8)(k:Nat)(h:k<l.length)(h1:¬(at_ l (k:Int)).toNat<128):
  128≤(Utf8.decode ⟨l.toArray⟩ k).1∧1≤(Utf8.decode ⟨l.toArray⟩ k).2∧k+(Utf8.decode ⟨l.toArray⟩ k).2≤l.length∧
  ∀j:Nat,k≤j→j<k+(Utf8.decode ⟨l.toArray⟩ k).2→128≤(at_ l (j:Int)).toNat:=by
 have hsz:(⟨l.toArray⟩:ByteArray).size=l.length:=rfl
 have hone:∀c:Nat,128≤c→128≤((c,1):Nat×Nat).1∧1≤((c,1):Nat×Nat).2∧k+((c,1):Nat×Nat).2≤l.length∧∀j:Nat,k≤j→j<k+((c,1):Nat×Nat).2→128≤(at_ l (j:Int)).toNat:=
  fun c hc=>⟨hc,Nat.le_refl _,by simp;omega,fun j h2 h3=>by
   have:j=k:=by simp at h3;omega
   subst this;omega⟩
 have cont:∀i:Nat,(decide (k+i<l.length)&&((⟨l.toArray⟩:ByteArray).get! (k+i)).toNat/64==2)=true→k+i<l.length∧128≤(at_ l ((k+i:Nat):Int)).toNat:=by
  intro i hi
  simp only [Bool.and_eq_true,decide_eq_true_eq,beq_iff_eq]at hi
  rw [get_at l (k+i) hi.1]at hi
  omega
 have hre:128≤Utf8.runeError:=by decide
 have hk0:128≤(at_ l (k:Int)).toNat:=by omega
 unfold Utf8.decode
 simp only [Nat.add_zero,get_at l k h,hsz]
 rw [if_neg (by omega)]
 split
 ·rename_i h2
  simp only [Bool.and_eq_true]at h2
  have c1:=cont 1 (by simpa using h2.2)
  split
  ·rename_i h3
   refine⟨by simpa using h3,by simp,by simp;omega,fun j h4 h5=> ?_⟩
   have:j=k∨j=k+1:=by simp at h5;omega
   rcases this with rfl|rfl
   ·exact hk0
   ·exact c1.2
  ·exact hone _ hre
 split
 ·rename_i h2
  simp only [Bool.and_eq_true]at h2
  have c1:=cont 1 (by simpa using h2.1.2)
  have c2:=cont 2 (by simpa using h2.2)
  split
  ·rename_i h3
   simp only [Bool.and_eq_true,decide_eq_true_eq]at h3
   refine⟨by have:=h3.1;simp only [ge_iff_le]at this⊢;omega,by simp,by simp;omega,fun j h4 h5=> ?_⟩
   have:j=k∨j=k+1∨j=k+2:=by simp at h5;omega
   rcases this with rfl|rfl|rfl
   ·exact hk0
   ·exact c1.2
   ·exact c2.2
  ·exact hone _ hre
 split
 ·rename_i h2
  simp only [Bool.and_eq_true]at h2
  have c1:=cont 1 (by simpa using h2.1.1.2)
  have c2:=cont 2 (by simpa using h2.1.2)
  have c3:=cont 3 (by simpa using h2.2)
  split
  ·rename_i h3
   simp only [Bool.and_eq_true,decide_eq_true_eq]at h3
   refine⟨by have:=h3.1;simp only [ge_iff_le]at this⊢;omega,by simp,by simp;omega,fun j h4 h5=> ?_⟩
   have:j=k∨j=k+1∨j=k+2∨j=k+3:=by simp at h5;omega
   rcases this with rfl|rfl|rfl|rfl
   ·exact hk0
   ·exact c1.2
   ·exact c2.2
   ·exact c3.2
  ·exact hone _ hre
 ·exact hone _ hre
def encL(r:Int):List UInt8:=(Utf8.encode r).data.toList
theorem encL_high(r:Int)(h:128≤r):2≤(encL r).length∧(encL r).length≤4∧128≤(at_ (encL r) ((encL r).length-1:Int)).toNat:=by
 have hv:∀n:Nat,128≤(UInt8.ofNat (128+n%64)).toNat:=by
  intro n
  rw [UInt8.toNat_ofNat']
  omega
 unfold encL Utf8.encode
 have hc:128≤(if Utf8.valid r=true then r.toNat else Utf8.runeError):=by
  split
  ·omega
  ·decide
 generalize(if Utf8.valid r=true then r.toNat else Utf8.runeError)=c at hc
 simp only
 rw [if_neg (by omega)]
 split
 ·exact⟨by simp,by simp,hv c⟩
 split
 ·exact⟨by simp,by simp,hv c⟩
 ·exact⟨by simp,by simp,hv c⟩
end Go.Px
namespace Go.Wk
open Go.Px
open Int renaming toNat → zan
open List renaming set → zaJ
open Sum renaming elim → zaO
def aoc(fu:Nat)(a0:UInt8):Option Bool:=
 (((((if(97:UInt8)≤a0 then some (decide (a0≤(122:UInt8)))else some false)).bind fun(a1:Bool)=>(bif a1 then(bif a1 then some (.inr true)else some (.inl ()))else(((if(65:UInt8)≤a0 then some (decide (a0≤(90:UInt8)))else some false)).bind fun(a2:Bool)=>(bif a2 then(bif a2 then some (.inr true)else some (.inl ()))else(if(48:UInt8)≤a0 then(if a0≤(57:UInt8)then some (.inr true)else some (.inl ()))else some (.inl ()))))))).bind fun(a3:(Unit⊕Bool))=>zaO (fun(a4:Unit)=>(if a0=(45:UInt8)then(if a0=(45:UInt8)then some true else some false)else(if a0=(46:UInt8)then(if a0=(46:UInt8)then some true else some false)else(if a0=(33:UInt8)then(if a0=(33:UInt8)then some true else some false)else(if a0=(37:UInt8)then(if a0=(37:UInt8)then some true else some false)else(if a0=(42:UInt8)then(if a0=(42:UInt8)then some true else some false)else(if a0=(95:UInt8)then(if a0=(95:UInt8)then some true else some false)else(if a0=(43:UInt8)then(if a0=(43:UInt8)then some true else some false)else(if a0=(39:UInt8)then(if a0=(39:UInt8)then some true else some false)else(if a0=(126:UInt8)then(if a0=(126:UInt8)then some true else some false)else(if a0=(96:UInt8)then some true else some false))))))))))) (fun q=>some q) a3)
def aeo(fu:Nat)(s_0:Str)(a1:Int→Option Int)(a0:Int):Option Int:=
 (((if a0<(s_0.length:Int)then(gd (0≤a0∧a0<(s_0.length:Int))<|((aoc fu (at_ s_0 a0)).bind fun(a2:Bool)=>some a2))else some false)).bind fun(a3:Bool)=>(bif a3 then(gd (abt (a0+(1:Int)))<|(a1 (a0+(1:Int))))else some a0))
def aeu(fu:Nat)(s_0:Str):Nat→Int→Option Int:=fun k_ a0=>loopF (fun(g:Int→Option Int) v=>aeo fu s_0 (fun a0=>g a0) v) k_ a0
theorem ajz{fu:Nat}{s_0:Str}{k_:Nat}{a0:Int}:aeu fu s_0 (k_+1) a0=aeo fu s_0 (aeu fu s_0 k_) a0:=rfl
def afv(fu:Nat)(s_0:Str)(a0:Int):Option Int:=
 (((aeu fu s_0 fu (min (max a0 (0:Int)) (s_0.length:Int)))).bind fun(a1:Int)=>some a1)
def afw(fu:Nat)(s_0:Str)(a0:Int):Option Int:=
 ((afv fu s_0 a0).bind fun(y1:Int)=>some y1)
def agy(fu:Nat)(s_0:Str):Option Bool:=
 (((if s_0=([]:Str)then some false else((afw fu s_0 (0:Int)).bind fun(a0:Int)=>some (decide (a0=(s_0.length:Int)))))).bind fun(a1:Bool)=>some a1)
def aik(fu:Nat)(a0:UInt8):Option UInt8:=
 (((if(65:UInt8)≤a0 then some (decide (a0≤(90:UInt8)))else some false)).bind fun(v5:Bool)=>(bif v5 then some (a0+(32:UInt8))else some a0))
def aox(fu:Nat)(a0:UInt8):Option Str:=
 (if a0=(98:UInt8)then some ([82,101,102,101,114,114,101,100,45,66,121]:Str)else(if a0=(99:UInt8)then some ([67,111,110,116,101,110,116,45,84,121,112,101]:Str)else(if a0=(101:UInt8)then some ([67,111,110,116,101,110,116,45,69,110,99,111,100,105,110,103]:Str)else(if a0=(102:UInt8)then some ([70,114,111,109]:Str)else(if a0=(105:UInt8)then some ([67,97,108,108,45,73,68]:Str)else(if a0=(107:UInt8)then some ([83,117,112,112,111,114,116,101,100]:Str)else(if a0=(108:UInt8)then some ([67,111,110,116,101,110,116,45,76,101,110,103,116,104]:Str)else(if a0=(109:UInt8)then some ([67,111,110,116,97,99,116]:Str)else(if a0=(111:UInt8)then some ([69,118,101,110,116]:Str)else(if a0=(114:UInt8)then some ([82,101,102,101,114,45,84,111]:Str)else(if a0=(115:UInt8)then some ([83,117,98,106,101,99,116]:Str)else(if a0=(116:UInt8)then some ([84,111]:Str)else(if a0=(117:UInt8)then some ([65,108,108,111,119,45,69,118,101,110,116,115]:Str)else(if a0=(118:UInt8)then some ([86,105,97]:Str)else(if a0=(120:UInt8)then some ([83,101,115,115,105,111,110,45,69,120,112,105,114,101,115]:Str)else some ([]:Str))))))))))))))))
def adp(fu:Nat)(s_0:Str)(a2:Str→Int→Option Str)(a1:Str)(a0:Int):Option Str:=
 (if a0<(s_0.length:Int)then(gd (0≤a0∧a0<(a1.length:Int))<|(gd (0≤a0∧a0<(a1.length:Int))<|((aik fu (at_ a1 a0)).bind fun(a3:UInt8)=>(gd (0≤a0∧a0<(a1.length:Int))<|(gd (0≤a0∧a0<(a1.length:Int))<|(gd (abt (a0+(1:Int)))<|(a2 (zaJ a1 (zan a0) a3) (a0+(1:Int)))))))))else some a1)
def adt(fu:Nat)(s_0:Str):Nat→Str→Int→Option Str:=fun k_ a0 a1=>loopF (fun(g:(Str×Int)→Option Str) v=>adp fu s_0 (fun a0 a1=>g (a0,a1)) v.1 v.2) k_ (a0,a1)
theorem ahx{fu:Nat}{s_0:Str}{k_:Nat}{a0:Str}{a1:Int}:adt fu s_0 (k_+1) a0 a1=adp fu s_0 (adt fu s_0 k_) a0 a1:=rfl
def adk(fu:Nat)(s_0:Str):Option Str:=
 (((adt fu s_0 fu s_0 (0:Int))).bind fun(a0:Str)=>some a0)
def akw(fu:Nat)(a0:UInt8):Option UInt8:=
 (((if(97:UInt8)≤a0 then some (decide (a0≤(122:UInt8)))else some false)).bind fun(v5:Bool)=>(bif v5 then some (a0-(32:UInt8))else some a0))
def apx(fu:Nat)(a0:UInt8)(a1:Bool):Option (UInt8×Bool):=
 (bif a1 then((akw fu a0).bind fun(y2:UInt8)=>some (y2,(decide (y2=(45:UInt8)))))else((aik fu a0).bind fun(y9:UInt8)=>some (y9,(decide (y9=(45:UInt8))))))
def ady(fu:Nat)(s_0:Str)(a4:Str→Int→Bool→Option (Str×Bool))(a1:Str)(a0:Int)(a2:Bool):Option (Str×Bool):=
 (if a0<(s_0.length:Int)then(gd (0≤a0∧a0<(a1.length:Int))<|(gd (0≤a0∧a0<(a1.length:Int))<|((apx fu (at_ a1 a0) a2).bind fun(a3:(UInt8×Bool))=>(gd (0≤a0∧a0<(a1.length:Int))<|(gd (0≤a0∧a0<(a1.length:Int))<|(gd (abt (a0+(1:Int)))<|(a4 (zaJ a1 (zan a0) a3.1) (a0+(1:Int)) a3.2)))))))else some (a1,a2))
def aee(fu:Nat)(s_0:Str):Nat→Str→Int→Bool→Option (Str×Bool):=fun k_ a0 a1 a2=>loopF (fun(g:(Str×Int×Bool)→Option (Str×Bool)) v=>ady fu s_0 (fun a0 a1 a2=>g (a0,a1,a2)) v.1 v.2.1 v.2.2) k_ (a0,a1,a2)
theorem ail{fu:Nat}{s_0:Str}{k_:Nat}{a0:Str}{a1:Int}{a2:Bool}:aee fu s_0 (k_+1) a0 a1 a2=ady fu s_0 (aee fu s_0 k_) a0 a1 a2:=rfl
def adu(fu:Nat)(s_0:Str)(a1:Bool):Option (Str×Bool):=
 (((aee fu s_0 fu s_0 (0:Int) a1)).bind fun(a0:(Str×Bool))=>some (a0.1,a0.2))
def L_header_Canon_lp0B(fu:Nat)(a1:Str)(a2:Int→Option (Unit⊕(Str×UInt8)))(a0:Int):Option (Unit⊕(Str×UInt8)):=
 (if a0<(7:Int)then(gd (0≤a0∧a0<(aoo.length:Int))<|((adk fu (el aoo a0)).bind fun(a3:Str)=>(if a3=a1 then some (.inr (el aoo a0,(0:UInt8)))else(gd (abt (a0+(1:Int)))<|(a2 (a0+(1:Int)))))))else some (.inl ()))
def aoh(fu:Nat)(a1:Str):Nat→Int→Option (Unit⊕(Str×UInt8)):=fun k_ a0=>loopF (fun(g:Int→Option (Unit⊕(Str×UInt8))) v=>L_header_Canon_lp0B fu a1 (fun a0=>g a0) v) k_ a0
def apr(fu:Nat)(a0:Str):Option (Str×UInt8):=
 ((((agy fu a0).bind fun(a2:Bool)=>(bif (!a2)then some true else some (decide ((64:Int)<(a0.length:Int)))))).bind fun(a3:Bool)=>(bif a3 then some (([]:Str),(5:UInt8))else(((if(a0.length:Int)=(1:Int)then(gd (0≤(0:Int)∧(0:Int)<(a0.length:Int))<|((aik fu (at_ a0 (0:Int))).bind fun(a4:UInt8)=>((aox fu a4).bind fun(a1:Str)=>(if a1=([]:Str)then some (.inl ())else some (.inr (a1,(0:UInt8)))))))else some (.inl ()))).bind fun(a5:(Unit⊕(Str×UInt8)))=>zaO (fun(a9:Unit)=>((adk fu a0).bind fun(a6:Str)=>(((aoh fu a6 fu (0:Int))).bind fun(a7:(Unit⊕(Str×UInt8)))=>zaO (fun(b0:Unit)=>((adu fu a0 true).bind fun(a8:(Str×Bool))=>some (a8.1,(0:UInt8)))) (fun q=>some q) a7))) (fun q=>some q) a5)))
def alt(fu:Nat)(a1:Str)(a2:Int→Option (Unit⊕Int))(a0:Int):Option (Unit⊕Int):=
 (if a0<(31:Int)then(gd (0≤a0∧a0<(31:Int))<|(gd (0≤a0∧a0<(afu.length:Int))<|(if((el afu a0).1)=a1 then(gd (0≤a0∧a0<(31:Int))<|(gd (0≤a0∧a0<(afu.length:Int))<|some (.inr ((el afu a0).2))))else(gd (abt (a0+(1:Int)))<|(a2 (a0+(1:Int)))))))else some (.inl ()))
def ane(fu:Nat)(a1:Str):Nat→Int→Option (Unit⊕Int):=fun k_ a0=>loopF (fun(g:Int→Option (Unit⊕Int)) v=>alt fu a1 (fun a0=>g a0) v) k_ a0
theorem asy{fu:Nat}{a0:Str}{k_:Nat}{a1:Int}:ane fu a0 (k_+1) a1=alt fu a0 (ane fu a0 k_) a1:=rfl
def aic(fu:Nat)(a0:Str):Option Int:=
 (((ane fu a0 fu (0:Int))).bind fun(a1:(Unit⊕Int))=>zaO (fun(a2:Unit)=>some (0:Int)) (fun q=>some q) a1)
def anc(fu:Nat)(a0:Str):Option Bool:=
 (((if a0=([67,111,110,116,97,99,116]:Str)then(if a0=([67,111,110,116,97,99,116]:Str)then some (.inr true)else some (.inl ()))else(if a0=([80,97,116,104]:Str)then(if a0=([80,97,116,104]:Str)then some (.inr true)else some (.inl ()))else(if a0=([82,101,99,111,114,100,45,82,111,117,116,101]:Str)then(if a0=([82,101,99,111,114,100,45,82,111,117,116,101]:Str)then some (.inr true)else some (.inl ()))else(if a0=([82,111,117,116,101]:Str)then(if a0=([82,111,117,116,101]:Str)then some (.inr true)else some (.inl ()))else(if a0=([83,101,114,118,105,99,101,45,82,111,117,116,101]:Str)then some (.inr true)else some (.inl ()))))))).bind fun(a2:(Unit⊕Bool))=>zaO (fun(a4:Unit)=>((aic fu a0).bind fun(a1:Int)=>(((if a1=(2:Int)then some true else some (decide (a1=(7:Int))))).bind fun(a3:Bool)=>some a3))) (fun q=>some q) a2)
def afx(fu:Nat)(s_0:Str):Option Str:=
 (gd (s_0.length≤1000000000)<|gd (([32,9]:Str).length≤1000∧([32,9]:Str).all (fun b=>decide (b.toNat<128))=true)<|some (Lib.trimS s_0 ([32,9]:Str)))
def akt(fu:Nat)(a0:UInt8):Option Bool:=
 (((if a0=(32:UInt8)then some true else some (decide (a0=(9:UInt8))))).bind fun(v5:Bool)=>some v5)
def adj(fu:Nat)(s_0:Str)(a1:Int→Option Int)(a0:Int):Option Int:=
 (((if a0<(s_0.length:Int)then(gd (0≤a0∧a0<(s_0.length:Int))<|((akt fu (at_ s_0 a0)).bind fun(a2:Bool)=>some a2))else some false)).bind fun(a3:Bool)=>(bif a3 then(gd (abt (a0+(1:Int)))<|(a1 (a0+(1:Int))))else some a0))
def aev(fu:Nat)(s_0:Str):Nat→Int→Option Int:=fun k_ a0=>loopF (fun(g:Int→Option Int) v=>adj fu s_0 (fun a0=>g a0) v) k_ a0
theorem agd{fu:Nat}{s_0:Str}{k_:Nat}{a0:Int}:aev fu s_0 (k_+1) a0=adj fu s_0 (aev fu s_0 k_) a0:=rfl
def ain(fu:Nat)(s_0:Str)(a0:Int):Option Int:=
 (((aev fu s_0 fu (min (max a0 (0:Int)) (s_0.length:Int)))).bind fun(a1:Int)=>some a1)
def alj(fu:Nat)(s_0:Str)(a0:Int):Option Int:=
 ((ain fu s_0 a0).bind fun(y1:Int)=>some y1)
def acs(fu:Nat)(a0:(Str×Int)):Option (Str×Int):=
 ((alj fu a0.1 a0.2).bind fun(y1:Int)=>some (a0.1,y1))
def adx(fu:Nat)(a0:(Str×Int)):Option Bool:=
 some (decide ((a0.1.length:Int)≤a0.2))
def aag(fu:Nat)(a0:(Str×Int))(a1:UInt8):Option Bool:=
 ((((adx fu a0).bind fun(a2:Bool)=>(bif (!a2)then(gd (0≤a0.2∧a0.2<(a0.1.length:Int))<|some (decide ((at_ a0.1 a0.2)=a1)))else some false))).bind fun(a3:Bool)=>some a3)
def alr(fu:Nat)(a0:UInt8):Option Bool:=
 (((if(32:UInt8)≤a0 then some (decide (a0≤(126:UInt8)))else some false)).bind fun(v5:Bool)=>some v5)
def aip(fu:Nat)(a0:UInt8):Option Bool:=
 (((if a0<(32:UInt8)then(if a0=(9:UInt8)then some (decide (a0=(127:UInt8)))else some true)else some (decide (a0=(127:UInt8))))).bind fun(v6:Bool)=>some v6)
def aiq(fu:Nat)(s_0:Str)(a2:(List UInt8)→Int→Option (((List UInt8)×Int)⊕(Str×Int×UInt8)))(a1:List UInt8)(a0:Int):Option (((List UInt8)×Int)⊕(Str×Int×UInt8)):=
 (if a0<(s_0.length:Int)then(gd (0≤a0∧a0<(s_0.length:Int))<|(if(at_ s_0 a0)=(34:UInt8)then some (.inl (a1,a0))else(if(at_ s_0 a0)=(92:UInt8)then(gd (abt (a0+(1:Int)))<|(if(a0+(1:Int))=(s_0.length:Int)then some (.inr (([]:Str),(s_0.length:Int),(6:UInt8)))else(gd (abt (a0+(1:Int)))<|(gd (0≤(a0+(1:Int))∧(a0+(1:Int))<(s_0.length:Int))<|((alr fu (at_ s_0 (a0+(1:Int)))).bind fun(a3:Bool)=>(bif (!a3)then some (.inr (([]:Str),a0,(5:UInt8)))else(gd (abt (a0+(1:Int)))<|(gd (0≤(a0+(1:Int))∧(a0+(1:Int))<(s_0.length:Int))<|(gd ((a1.length+([at_ s_0 (a0+(1:Int))]:List UInt8).length)*1≤140737488355328)<|(gd (abt ((a0+(1:Int))+(1:Int)))<|(a2 (a1++([at_ s_0 (a0+(1:Int))]:List UInt8)) ((a0+(1:Int))+(1:Int)))))))))))))else((aip fu (at_ s_0 a0)).bind fun(a4:Bool)=>(bif a4 then some (.inr (([]:Str),a0,(5:UInt8)))else(gd (0≤a0∧a0<(s_0.length:Int))<|(gd ((a1.length+([at_ s_0 a0]:List UInt8).length)*1≤140737488355328)<|(gd (abt (a0+(1:Int)))<|(a2 (a1++([at_ s_0 a0]:List UInt8)) (a0+(1:Int)))))))))))else some (.inl (a1,a0)))
def anb(fu:Nat)(s_0:Str):Nat→(List UInt8)→Int→Option (((List UInt8)×Int)⊕(Str×Int×UInt8)):=fun k_ a0 a1=>loopF (fun(g:((List UInt8)×Int)→Option (((List UInt8)×Int)⊕(Str×Int×UInt8))) v=>aiq fu s_0 (fun a0 a1=>g (a0,a1)) v.1 v.2) k_ (a0,a1)
theorem aop{fu:Nat}{s_0:Str}{k_:Nat}{a0:List UInt8}{a1:Int}:anb fu s_0 (k_+1) a0 a1=aiq fu s_0 (anb fu s_0 k_) a0 a1:=rfl
def amg(fu:Nat)(s_0:Str)(a0:Int):Option (Str×Int×UInt8):=
 (((if a0<(0:Int)then some true else some (decide ((s_0.length:Int)<a0)))).bind fun(v5:Bool)=>(bif v5 then some (([]:Str),(0:Int),(2:UInt8))else(((if a0=(s_0.length:Int)then some true else(gd (0≤a0∧a0<(s_0.length:Int))<|some (!decide ((at_ s_0 a0)=(34:UInt8)))))).bind fun(a2:Bool)=>(bif a2 then some (([]:Str),a0,(5:UInt8))else(gd (abt (a0+(1:Int)))<|(((anb fu s_0 fu ([]:List UInt8) (a0+(1:Int)))).bind fun(a3:(((List UInt8)×Int)⊕(Str×Int×UInt8)))=>zaO (fun(a1:((List UInt8)×Int))=>(if(s_0.length:Int)≤a1.2 then some (([]:Str),(s_0.length:Int),(6:UInt8))else(gd (abt (a1.2+(1:Int)))<|some (a1.1,a1.2+(1:Int),(0:UInt8))))) (fun q=>some q) a3))))))
def ahc(fu:Nat)(a1:(Str×Int))(a0:AQ):Option (Int×UInt8×(Str×Int)×AQ):=
 ((amg fu a1.1 a1.2).bind fun(y1:(Str×Int×UInt8))=>(if y1.2.2=(0:UInt8)then((acs fu (a1.1,y1.2.1)).bind fun(a2:(Str×Int))=>((aag fu a2 (60:UInt8)).bind fun(a3:Bool)=>(bif (!a3)then some (a2.2,(5:UInt8),a2,(y1.1,a0.2.1,a0.2.2))else some ((0:Int),(0:UInt8),a2,(y1.1,a0.2.1,a0.2.2)))))else some (y1.2.1,y1.2.2,a1,a0)))
open Go.Lib renaming indexAny → zbf, join → zau
open List renaming drop → zaC, set → zaJ
def afq(fu:Nat)(a0:(Str×Int)):Option (Str×(Str×Int)):=
 ((afw fu a0.1 a0.2).bind fun(y1:Int)=>(gd (0≤a0.2∧a0.2≤y1∧y1≤(a0.1.length:Int))<|some (sub a0.1 a0.2 y1,(a0.1,y1))))
def afk(fu:Nat)(a5:AQ)(a6:(List Str)→Str→Int→Option (((List Str)×Str×Int)⊕(Int×UInt8×(Str×Int)×AQ)))(a1:List Str)(a2:Str)(a3:Int):Option (((List Str)×Str×Int)⊕(Int×UInt8×(Str×Int)×AQ)):=
 ((aag fu (a2,a3) (60:UInt8)).bind fun(a7:Bool)=>(bif (!a7)then((afq fu (a2,a3)).bind fun(a0:(Str×(Str×Int)))=>(if a0.1=([]:Str)then some (.inr (a0.2.2,(5:UInt8),a0.2,a5))else(gd ((a1.length+([a0.1]:List Str).length)*16≤140737488355328)<|((acs fu a0.2).bind fun(a4:(Str×Int))=>(a6 (a1++([a0.1]:List Str)) a4.1 a4.2)))))else some (.inl (a1,a2,a3))))
def afo(fu:Nat)(a3:AQ):Nat→(List Str)→Str→Int→Option (((List Str)×Str×Int)⊕(Int×UInt8×(Str×Int)×AQ)):=fun k_ a0 a1 a2=>loopF (fun(g:((List Str)×Str×Int)→Option (((List Str)×Str×Int)⊕(Int×UInt8×(Str×Int)×AQ))) v=>afk fu a3 (fun a0 a1 a2=>g (a0,a1,a2)) v.1 v.2.1 v.2.2) k_ (a0,a1,a2)
theorem alo{fu:Nat}{a0:AQ}{k_:Nat}{a1:List Str}{a2:Str}{a3:Int}:afo fu a0 (k_+1) a1 a2 a3=afk fu a0 (afo fu a0 k_) a1 a2 a3:=rfl
def aeh(fu:Nat)(a2:(Str×Int))(a1:AQ):Option (Int×UInt8×(Str×Int)×AQ):=
 (((afo fu a1 fu ([]:List Str) a2.1 a2.2)).bind fun(a3:(((List Str)×Str×Int)⊕(Int×UInt8×(Str×Int)×AQ)))=>zaO (fun(a0:((List Str)×Str×Int))=>(gd (a0.1.length≤1000000000∧(zau a0.1 ([32]:Str)).length≤100000000000)<|some ((0:Int),(0:UInt8),a0.2,(zau a0.1 ([32]:Str),a1.2.1,a1.2.2)))) (fun q=>some q) a3)
def aav(fu:Nat)(a1:Str)(a0:Int)(a2:Str):Option Int:=
 (gd (0≤a0∧a0≤(a1.length:Int))<|(gd ((zaC (zan a0) a1).length≤1000000000∧a2.length≤1000∧a2.all (fun b=>decide (b.toNat<128))=true)<|(if(0:Int)≤(zbf (zaC (zan a0) a1) a2)then(gd (abt (a0+(zbf (zaC (zan a0) a1) a2)))<|some (a0+(zbf (zaC (zan a0) a1) a2)))else some (a1.length:Int))))
def alu(fu:Nat)(s_0:Str)(a2:Str→Int→Option Str)(a1:Str)(a0:Int):Option Str:=
 (if a0<(s_0.length:Int)then(gd (0≤a0∧a0<(a1.length:Int))<|(gd (0≤a0∧a0<(a1.length:Int))<|(((if(65:UInt8)≤(at_ a1 a0)then some (decide ((at_ a1 a0)≤(90:UInt8)))else some false)).bind fun(a3:Bool)=>(bif a3 then(gd (0≤a0∧a0<(a1.length:Int))<|(gd (0≤a0∧a0<(a1.length:Int))<|(gd (abt (a0+(1:Int)))<|(a2 (zaJ a1 (zan a0) ((at_ a1 a0)+(32:UInt8))) (a0+(1:Int))))))else(gd (abt (a0+(1:Int)))<|(a2 a1 (a0+(1:Int))))))))else some a1)
def anh(fu:Nat)(s_0:Str):Nat→Str→Int→Option Str:=fun k_ a0 a1=>loopF (fun(g:(Str×Int)→Option Str) v=>alu fu s_0 (fun a0 a1=>g (a0,a1)) v.1 v.2) k_ (a0,a1)
theorem ata{fu:Nat}{s_0:Str}{k_:Nat}{a0:Str}{a1:Int}:anh fu s_0 (k_+1) a0 a1=alu fu s_0 (anh fu s_0 k_) a0 a1:=rfl
def aeb(fu:Nat)(s_0:Str):Option Str:=
 (((anh fu s_0 fu s_0 (0:Int))).bind fun(a0:Str)=>some a0)
def ako(fu:Nat)(a0:UInt8):Option Bool:=
 (((if(97:UInt8)≤a0 then(if a0≤(122:UInt8)then some true else(if(65:UInt8)≤a0 then some (decide (a0≤(90:UInt8)))else some false))else(if(65:UInt8)≤a0 then some (decide (a0≤(90:UInt8)))else some false))).bind fun(v8:Bool)=>some v8)
def aem(fu:Nat)(a0:UInt8):Option Bool:=
 (((if(48:UInt8)≤a0 then some (decide (a0≤(57:UInt8)))else some false)).bind fun(v5:Bool)=>some v5)
def amm(fu:Nat)(a1:UInt8)(a0:Int):Option Bool:=
 ((((ako fu a1).bind fun(a2:Bool)=>(bif a2 then some true else((aem fu a1).bind fun(a3:Bool)=>(bif a3 then some true else some (decide ((0:Int)≤(ixb (·==a1) ([45,95,46,33,126,42,39,40,41]:Str))))))))).bind fun(a4:Bool)=>(bif a4 then some true else(((if(0:Int)≤a0 then(if a0≤(2:Int)then(gd (0≤a0∧a0<(3:Int))<|(gd (0≤a0∧a0<(anq.length:Int))<|some (decide ((0:Int)≤(ixb (·==a1) (el anq a0))))))else some false)else some false)).bind fun(a5:Bool)=>some a5)))
def afn(fu:Nat)(a0:UInt8):Option (UInt8×Bool):=
 ((aem fu a0).bind fun(y1:Bool)=>(bif y1 then some (a0-(48:UInt8),true)else(((if(97:UInt8)≤a0 then some (decide (a0≤(102:UInt8)))else some false)).bind fun(a1:Bool)=>(bif a1 then some ((a0-(97:UInt8))+(10:UInt8),true)else(((if(65:UInt8)≤a0 then some (decide (a0≤(70:UInt8)))else some false)).bind fun(a2:Bool)=>(bif a2 then some ((a0-(65:UInt8))+(10:UInt8),true)else some ((0:UInt8),false)))))))
open Go.Lib renaming cut → zaW, itoa → zat, join → zau, trimLeftS → zbp
open List renaming set → zaJ, take → zbt
def akz(fu:Nat)(s_0:Str)(a0:Int):Option (UInt8×Bool):=
 (((gd (abt (a0+(2:Int)))<|(if(s_0.length:Int)≤(a0+(2:Int))then some true else(gd (0≤a0∧a0<(s_0.length:Int))<|some (!decide ((at_ s_0 a0)=(37:UInt8))))))).bind fun(v7:Bool)=>(bif v7 then some ((0:UInt8),false)else(gd (abt (a0+(1:Int)))<|(gd (0≤(a0+(1:Int))∧(a0+(1:Int))<(s_0.length:Int))<|((afn fu (at_ s_0 (a0+(1:Int)))).bind fun(a1:(UInt8×Bool))=>(gd (abt (a0+(2:Int)))<|(gd (0≤(a0+(2:Int))∧(a0+(2:Int))<(s_0.length:Int))<|((afn fu (at_ s_0 (a0+(2:Int)))).bind fun(a2:(UInt8×Bool))=>(((bif a1.2 then some a2.2 else some false)).bind fun(a3:Bool)=>some ((shl8 a1.1 (4:Int))|||a2.1,a3))))))))))
def apc(fu:Nat)(a0:UInt8):Option Bool:=
 (((if a0<(32:UInt8)then(if a0=(9:UInt8)then some (decide (a0=(127:UInt8)))else some true)else some (decide (a0=(127:UInt8))))).bind fun(v6:Bool)=>some v6)
def aff(fu:Nat)(a1:(Str×Int))(a2:Int)(a5:Int)(a3:Int→Option (Unit⊕(Int×Bool)))(a0:Int):Option (Unit⊕(Int×Bool)):=
 (if a0<a2 then(gd (0≤a0∧a0<(a1.1.length:Int))<|((amm fu (at_ a1.1 a0) a5).bind fun(a6:Bool)=>(bif a6 then(gd (abt (a0+(1:Int)))<|(a3 (a0+(1:Int))))else(gd (0≤a2∧a2≤(a1.1.length:Int))<|((akz fu (zbt (zan a2) a1.1) a0).bind fun(a4:(UInt8×Bool))=>(((bif (!a4.2)then some true else((apc fu a4.1).bind fun(a7:Bool)=>some a7))).bind fun(a8:Bool)=>(bif a8 then some (.inr (a0,true))else(gd (abt (a0+(2:Int)))<|(gd (abt ((a0+(2:Int))+(1:Int)))<|(a3 ((a0+(2:Int))+(1:Int))))))))))))else some (.inl ()))
def ahm(fu:Nat)(a1:(Str×Int))(a2:Int)(a3:Int):Nat→Int→Option (Unit⊕(Int×Bool)):=fun k_ a0=>loopF (fun(g:Int→Option (Unit⊕(Int×Bool))) v=>aff fu a1 a2 a3 (fun a0=>g a0) v) k_ a0
theorem aja{fu:Nat}{a0:(Str×Int)}{a1:Int}{a2:Int}{k_:Nat}{a3:Int}:ahm fu a0 a1 a2 (k_+1) a3=aff fu a0 a1 a2 (ahm fu a0 a1 a2 k_) a3:=rfl
def afp(fu:Nat)(a0:(Str×Int))(a1:Int)(a2:Int):Option (Int×Bool):=
 (((ahm fu a0 a1 a2 fu a0.2)).bind fun(a3:(Unit⊕(Int×Bool)))=>zaO (fun(a4:Unit)=>some ((0:Int),false)) (fun q=>some q) a3)
def ahe(fu:Nat)(s_0:Str)(a3:(List UInt8)→Int→Option ((List UInt8)⊕(Str×Int×UInt8)))(a1:List UInt8)(a0:Int):Option ((List UInt8)⊕(Str×Int×UInt8)):=
 (if a0<(s_0.length:Int)then(gd (0≤a0∧a0<(s_0.length:Int))<|(if(at_ s_0 a0)=(37:UInt8)then((akz fu s_0 a0).bind fun(a2:(UInt8×Bool))=>(bif (!a2.2)then some (.inr (([]:Str),a0,(5:UInt8)))else(gd ((a1.length+([a2.1]:List UInt8).length)*1≤140737488355328)<|(gd (abt (a0+(2:Int)))<|(gd (abt ((a0+(2:Int))+(1:Int)))<|(a3 (a1++([a2.1]:List UInt8)) ((a0+(2:Int))+(1:Int))))))))else(gd (0≤a0∧a0<(s_0.length:Int))<|(gd ((a1.length+([at_ s_0 a0]:List UInt8).length)*1≤140737488355328)<|(gd (abt (a0+(1:Int)))<|(a3 (a1++([at_ s_0 a0]:List UInt8)) (a0+(1:Int))))))))else some (.inl a1))
def ahq(fu:Nat)(s_0:Str):Nat→(List UInt8)→Int→Option ((List UInt8)⊕(Str×Int×UInt8)):=fun k_ a0 a1=>loopF (fun(g:((List UInt8)×Int)→Option ((List UInt8)⊕(Str×Int×UInt8))) v=>ahe fu s_0 (fun a0 a1=>g (a0,a1)) v.1 v.2) k_ (a0,a1)
theorem amq{fu:Nat}{s_0:Str}{k_:Nat}{a0:List UInt8}{a1:Int}:ahq fu s_0 (k_+1) a0 a1=ahe fu s_0 (ahq fu s_0 k_) a0 a1:=rfl
def aro(fu:Nat)(s_0:Str):Option (Str×Int×UInt8):=
 (@gd _ (0≤(s_0.length:Int)∧(1:Int)*(s_0.length:Int)≤281474976710656) (dMk 1 (s_0.length:Int))<|(((ahq fu s_0 fu ([]:List UInt8) (0:Int))).bind fun(a0:((List UInt8)⊕(Str×Int×UInt8)))=>zaO (fun(a1:List UInt8)=>some (a1,(0:Int),(0:UInt8))) (fun q=>some q) a0))
def ajp(fu:Nat)(s_0:Str):Option Str:=
 ((aro fu s_0).bind fun(y1:(Str×Int×UInt8))=>some y1.1)
def agn(fu:Nat)(a1:List Str)(a2:Int)(a3:Int→Option (Unit⊕((List Str)×Bool)))(a0:Int):Option (Unit⊕((List Str)×Bool)):=
 (if a0<((el a1 a2).length:Int)then(gd (0≤a0∧a0<((el a1 a2).length:Int))<|((afn fu (at_ (el a1 a2) a0)).bind fun(a4:(UInt8×Bool))=>(bif (!a4.2)then some (.inr (([]:List Str),false))else(gd (abt (a0+(1:Int)))<|(a3 (a0+(1:Int)))))))else some (.inl ()))
def aha(fu:Nat)(a1:List Str)(a2:Int):Nat→Int→Option (Unit⊕((List Str)×Bool)):=fun k_ a0=>loopF (fun(g:Int→Option (Unit⊕((List Str)×Bool))) v=>agn fu a1 a2 (fun a0=>g a0) v) k_ a0
theorem alm{fu:Nat}{a0:List Str}{a1:Int}{k_:Nat}{a2:Int}:aha fu a0 a1 (k_+1) a2=agn fu a0 a1 (aha fu a0 a1 k_) a2:=rfl
def aim(fu:Nat)(s_0:Str)(a3:(List Str)→Int→Option ((List Str)⊕((List Str)×Bool)))(a1:List Str)(a0:Int):Option ((List Str)⊕((List Str)×Bool)):=
 (if a0<((spl 58 s_0).length:Int)then(((gd (0≤a0∧a0<(a1.length:Int))<|(gd (0≤a0∧a0<(a1.length:Int))<|(((if((el a1 a0).length:Int)<(1:Int)then some true else some (decide ((4:Int)<((el a1 a0).length:Int))))).bind fun(a4:Bool)=>(bif a4 then some (.inr (([]:List Str),false))else(((aha fu a1 a0 fu (0:Int))).bind fun(a5:(Unit⊕((List Str)×Bool)))=>zaO (fun(a8:Unit)=>((aeb fu (el a1 a0)).bind fun(a2:Str)=>(gd (a2.length≤1000000000)<|gd (([48]:Str).length≤1000∧([48]:Str).all (fun b=>decide (b.toNat<128))=true)<|(if(zbp a2 ([48]:Str))=([]:Str)then(gd (0≤a0∧a0<(a1.length:Int))<|(gd (0≤a0∧a0<(a1.length:Int))<|some (.inl (zaJ a1 (zan a0) ([48]:Str)))))else(gd (0≤a0∧a0<(a1.length:Int))<|(gd (0≤a0∧a0<(a1.length:Int))<|some (.inl (zaJ a1 (zan a0) (zbp a2 ([48]:Str)))))))))) (fun q=>some (.inr q)) a5)))))).bind fun(a6:((List Str)⊕((List Str)×Bool)))=>zaO (fun(a7:List Str)=>(gd (abt (a0+(1:Int)))<|(a3 a7 (a0+(1:Int))))) (fun q=>some (.inr q)) a6)else some (.inl a1))
def afj(fu:Nat)(s_0:Str):Nat→(List Str)→Int→Option ((List Str)⊕((List Str)×Bool)):=fun k_ a0 a1=>loopF (fun(g:((List Str)×Int)→Option ((List Str)⊕((List Str)×Bool))) v=>aim fu s_0 (fun a0 a1=>g (a0,a1)) v.1 v.2) k_ (a0,a1)
theorem aps{fu:Nat}{s_0:Str}{k_:Nat}{a0:List Str}{a1:Int}:afj fu s_0 (k_+1) a0 a1=aim fu s_0 (afj fu s_0 k_) a0 a1:=rfl
def age(fu:Nat)(s_0:Str):Option ((List Str)×Bool):=
 (gd (s_0.length≤1000000000)<|(((afj fu s_0 fu (spl 58 s_0) (0:Int))).bind fun(a0:((List Str)⊕((List Str)×Bool)))=>zaO (fun(a1:List Str)=>some (a1,true)) (fun q=>some q) a0))
def apz(fu:Nat)(s_0:Str):Option (Str×Bool):=
 (if(39:Int)<(s_0.length:Int)then some (([]:Str),false)else(gd (s_0.length≤1000000000)<|(bif (!((zaW s_0 ([58,58]:Str)).2.2))then((age fu s_0).bind fun(y7:((List Str)×Bool))=>(((gd (y7.1.length≤1000000000∧(zau y7.1 ([58]:Str)).length≤100000000000)<|(bif y7.2 then some (zau y7.1 ([58]:Str),(decide ((y7.1.length:Int)=(8:Int))))else some (zau y7.1 ([58]:Str),false)))).bind fun(a2:(Str×Bool))=>some (a2.1,a2.2)))else(((if((zaW s_0 ([58,58]:Str)).1)=([]:Str)then some (([]:List Str),true)else((age fu ((zaW s_0 ([58,58]:Str)).1)).bind fun(a3:((List Str)×Bool))=>some (a3.1,a3.2)))).bind fun(a0:((List Str)×Bool))=>(((if((zaW s_0 ([58,58]:Str)).2.1)=([]:Str)then some (([]:List Str),true)else((age fu ((zaW s_0 ([58,58]:Str)).2.1)).bind fun(a4:((List Str)×Bool))=>some (a4.1,a4.2)))).bind fun(a1:((List Str)×Bool))=>(((bif (!a0.2)then some true else(bif (!a1.2)then some true else(gd (abt ((a0.1.length:Int)+(a1.1.length:Int)))<|some (decide ((7:Int)<((a0.1.length:Int)+(a1.1.length:Int)))))))).bind fun(a5:Bool)=>(bif a5 then some (([]:Str),false)else(gd (a0.1.length≤1000000000∧(zau a0.1 ([58]:Str)).length≤100000000000)<|(gd ((zau a0.1 ([58]:Str)).length+([58,58]:Str).length≤9223372036854775807)<|(gd (a1.1.length≤1000000000∧(zau a1.1 ([58]:Str)).length≤100000000000)<|(gd (((zau a0.1 ([58]:Str))++([58,58]:Str)).length+(zau a1.1 ([58]:Str)).length≤9223372036854775807)<|some (((zau a0.1 ([58]:Str))++([58,58]:Str))++(zau a1.1 ([58]:Str)),true))))))))))))
def akc(fu:Nat)(s_0:Str)(a1:Int)(a3:Int→Int→Option (Int⊕Bool))(a2:Int)(a0:Int):Option (Int⊕Bool):=
 (if a0<((el (spl 46 s_0) a1).length:Int)then(gd (0≤a0∧a0<((el (spl 46 s_0) a1).length:Int))<|((aem fu (at_ (el (spl 46 s_0) a1) a0)).bind fun(a4:Bool)=>(bif (!a4)then some (.inr false)else(gd (abt ((10:Int)*a2))<|(gd (0≤a0∧a0<((el (spl 46 s_0) a1).length:Int))<|(gd (abt (((10:Int)*a2)+(((at_ (el (spl 46 s_0) a1) a0)-(48:UInt8)).toNat:Int)))<|(gd (abt (a0+(1:Int)))<|(a3 (((10:Int)*a2)+(((at_ (el (spl 46 s_0) a1) a0)-(48:UInt8)).toNat:Int)) (a0+(1:Int))))))))))else some (.inl a2))
def aie(fu:Nat)(s_0:Str)(a2:Int):Nat→Int→Int→Option (Int⊕Bool):=fun k_ a0 a1=>loopF (fun(g:(Int×Int)→Option (Int⊕Bool)) v=>akc fu s_0 a2 (fun a0 a1=>g (a0,a1)) v.1 v.2) k_ (a0,a1)
theorem arm{fu:Nat}{s_0:Str}{a0:Int}{k_:Nat}{a1:Int}{a2:Int}:aie fu s_0 a0 (k_+1) a1 a2=akc fu s_0 a0 (aie fu s_0 a0 k_) a1 a2:=rfl
def akd(fu:Nat)(s_0:Str)(a2:Int→Option (Unit⊕Bool))(a0:Int):Option (Unit⊕Bool):=
 (if a0<((spl 46 s_0).length:Int)then(((gd (0≤a0∧a0<((spl 46 s_0).length:Int))<|(gd (0≤a0∧a0<((spl 46 s_0).length:Int))<|(((aie fu s_0 a0 fu (0:Int) (0:Int))).bind fun(a3:(Int⊕Bool))=>zaO (fun(a1:Int)=>(((if(el (spl 46 s_0) a0)=([]:Str)then some true else(if(255:Int)<a1 then some true else(gd (abt a1)<|some (!decide ((el (spl 46 s_0) a0)=(zat a1))))))).bind fun(a4:Bool)=>(bif a4 then some (.inr false)else some (.inl ())))) (fun q=>some (.inr q)) a3)))).bind fun(a5:(Unit⊕Bool))=>zaO (fun(a6:Unit)=>(gd (abt (a0+(1:Int)))<|(a2 (a0+(1:Int))))) (fun q=>some (.inr q)) a5)else some (.inl ()))
def aif(fu:Nat)(s_0:Str):Nat→Int→Option (Unit⊕Bool):=fun k_ a0=>loopF (fun(g:Int→Option (Unit⊕Bool)) v=>akd fu s_0 (fun a0=>g a0) v) k_ a0
theorem arn{fu:Nat}{s_0:Str}{k_:Nat}{a0:Int}:aif fu s_0 (k_+1) a0=akd fu s_0 (aif fu s_0 k_) a0:=rfl
def apa(fu:Nat)(s_0:Str):Option Bool:=
 (if(15:Int)<(s_0.length:Int)then some false else(gd (s_0.length≤1000000000)<|(((aif fu s_0 fu (0:Int))).bind fun(a0:(Unit⊕Bool))=>zaO (fun(a1:Unit)=>some (decide (((spl 46 s_0).length:Int)=(4:Int)))) (fun q=>some q) a0)))
open Go.Lib renaming index → zaN
open List renaming drop → zaC, take → zbt
def anz(fu:Nat)(s_0:Str)(a0:Str)(a1:Int):Option (Str×Str×Int):=
 some (a0,s_0,a1)
def aoa(fu:Nat)(s_0:Str)(a0:Str):Option (Str×Str×Int):=
 ((anz fu s_0 a0 (0:Int)).bind fun(y1:(Str×Str×Int))=>some (y1.1,y1.2.1,y1.2.2))
def agm(fu:Nat)(a1:Str)(a4:Bool)(a3:Int→Bool→Option ((Nat×Bool×Bool)))(a0:Int)(a2:Bool):Option ((Nat×Bool×Bool)):=
 (if a0<(a1.length:Int)then(gd (0≤a0∧a0<(a1.length:Int))<|((((ako fu (at_ a1 a0)).bind fun(a5:Bool)=>(bif (!a5)then((aem fu (at_ a1 a0)).bind fun(a6:Bool)=>(bif (!a6)then some (!decide ((at_ a1 a0)=(45:UInt8)))else some false))else some false))).bind fun(a7:Bool)=>(bif a7 then some (1,a2,false)else(bif a2 then(gd (abt (a0+(1:Int)))<|(a3 (a0+(1:Int)) true))else((aem fu (at_ a1 a0)).bind fun(a8:Bool)=>(gd (abt (a0+(1:Int)))<|(a3 (a0+(1:Int)) (!a8))))))))else some (0,a2,a4))
def acx(fu:Nat)(a2:Str)(a3:Bool):Nat→Int→Bool→Option ((Nat×Bool×Bool)):=fun k_ a0 a1=>loopF (fun(g:(Int×Bool)→Option ((Nat×Bool×Bool))) v=>agm fu a2 a3 (fun a0 a1=>g (a0,a1)) v.1 v.2) k_ (a0,a1)
theorem alk{fu:Nat}{a0:Str}{a1:Bool}{k_:Nat}{a2:Int}{a3:Bool}:acx fu a0 a1 (k_+1) a2 a3=agm fu a0 a1 (acx fu a0 a1 k_) a2 a3:=rfl
def ael(fu:Nat)(a0:Str)(a1:Bool)(a2:Bool):Option (Nat×Bool×Bool):=
 (((if(a0.length:Int)<(1:Int)then some true else(if(63:Int)<(a0.length:Int)then some true else(gd (0≤(0:Int)∧(0:Int)<(a0.length:Int))<|(if(at_ a0 (0:Int))=(45:UInt8)then some true else(gd (abt ((a0.length:Int)-(1:Int)))<|(gd (0≤((a0.length:Int)-(1:Int))∧((a0.length:Int)-(1:Int))<(a0.length:Int))<|some (decide ((at_ a0 ((a0.length:Int)-(1:Int)))=(45:UInt8)))))))))).bind fun(a3:Bool)=>(bif a3 then some (1,a1,false)else(acx fu a0 a2 fu (0:Int) a1)))
def aej(fu:Nat)(a0:Str)(a1:Option Unit):Option Unit:=
 (if(0:Int)<(a0.length:Int)then none else some ())
def acy(fu:Nat)(a0:Str):Nat→Option Unit:=fun k_=>loopF (fun(g:Unit→Option Unit) v=>aej fu a0 (g ())) k_ ()
theorem amv{fu:Nat}{a0:Str}{k_:Nat}:acy fu a0 (k_+1)=aej fu a0 (acy fu a0 k_):=rfl
def abw(fu:Nat)(a1:Str)(a3:Int)(a6:Bool→Bool→Str→Option ((Bool×Bool×Str)⊕(Bool×Bool×Str×Nat)))(a4:Bool)(a5:Bool)(a0:Str):Option ((Bool×Bool×Str)⊕(Bool×Bool×Str×Nat)):=
 (gd (a0.length≤1000000000)<|(if(zaN a0 a1)<(0:Int)then some (.inl (a4,a5,a0))else(gd (abt ((zaN a0 a1)+a3))<|(gd (0≤((zaN a0 a1)+a3)∧((zaN a0 a1)+a3)≤(a0.length:Int))<|((ael fu (zbt (zan ((zaN a0 a1)+a3)) a0) a4 a5).bind fun(a2:(Nat×Bool×Bool))=>(if a2.1=0 then(gd (abt ((zaN a0 a1)+(a1.length:Int)))<|(gd (0≤((zaN a0 a1)+(a1.length:Int))∧((zaN a0 a1)+(a1.length:Int))≤(a0.length:Int))<|(a6 a2.2.1 a2.2.2 (zaC (zan ((zaN a0 a1)+(a1.length:Int))) a0))))else some (.inr (a2.2.1,a2.2.2,a0,a2.1))))))))
def acj(fu:Nat)(a3:Str)(a4:Int):Nat→Bool→Bool→Str→Option ((Bool×Bool×Str)⊕(Bool×Bool×Str×Nat)):=fun k_ a0 a1 a2=>loopF (fun(g:(Bool×Bool×Str)→Option ((Bool×Bool×Str)⊕(Bool×Bool×Str×Nat))) v=>abw fu a3 a4 (fun a0 a1 a2=>g (a0,a1,a2)) v.1 v.2.1 v.2.2) k_ (a0,a1,a2)
theorem aeg{fu:Nat}{a0:Str}{a1:Int}{k_:Nat}{a2:Bool}{a3:Bool}{a4:Str}:acj fu a0 a1 (k_+1) a2 a3 a4=abw fu a0 a1 (acj fu a0 a1 k_) a2 a3 a4:=rfl
def adr(fu:Nat)(a3:Bool)(a4:Bool)(a5:Str)(a2:Str)(a6:Int):Option (Bool×Bool×Str×Nat):=
 (((if(a5.length:Int)=(0:Int)then(((acy fu a2 fu)).bind fun(a9:Unit)=>some (.inr (a3,a4,a2,0)))else some (.inl ()))).bind fun(a7:(Unit⊕(Bool×Bool×Str×Nat)))=>zaO (fun(b0:Unit)=>(((acj fu a5 a6 fu a3 a4 a2)).bind fun(a8:((Bool×Bool×Str)⊕(Bool×Bool×Str×Nat)))=>zaO (fun(a1:(Bool×Bool×Str))=>((ael fu a1.2.2 a1.1 a1.2.1).bind fun(a0:(Nat×Bool×Bool))=>(if a0.1=0 then some (a0.2.1,a0.2.2,a1.2.2,0)else some (a0.2.1,a0.2.2,a1.2.2,a0.1)))) (fun q=>some q) a8)) (fun q=>some q) a7)
def aml(fu:Nat)(s_0:Str):Option Bool:=
 (((if(s_0.length:Int)<(1:Int)then some true else some (decide ((255:Int)<(s_0.length:Int))))).bind fun(v8:Bool)=>(bif v8 then some false else((aoa fu s_0 ([46]:Str)).bind fun(a1:(Str×Str×Int))=>((adr fu false false a1.1 a1.2.1 a1.2.2).bind fun(a0:(Bool×Bool×Str×Nat))=>(if a0.2.2.2=0 then some a0.1 else(if a0.2.2.2=1 then some a0.2.1 else none))))))
def agr(fu:Nat)(s_0:Str):Option (Str×Bool):=
 (((if(2:Int)≤(s_0.length:Int)then(gd (0≤(0:Int)∧(0:Int)<(s_0.length:Int))<|(if(at_ s_0 (0:Int))=(91:UInt8)then(gd (abt ((s_0.length:Int)-(1:Int)))<|(gd (0≤((s_0.length:Int)-(1:Int))∧((s_0.length:Int)-(1:Int))<(s_0.length:Int))<|some (decide ((at_ s_0 ((s_0.length:Int)-(1:Int)))=(93:UInt8)))))else some false))else some false)).bind fun(v9:Bool)=>(bif v9 then(gd (abt ((s_0.length:Int)-(1:Int)))<|(gd (0≤(1:Int)∧(1:Int)≤((s_0.length:Int)-(1:Int))∧((s_0.length:Int)-(1:Int))≤(s_0.length:Int))<|((apz fu (sub s_0 (1:Int) ((s_0.length:Int)-(1:Int)))).bind fun(a0:(Str×Bool))=>(bif (!a0.2)then some (([]:Str),false)else(gd (([91]:Str).length+a0.1.length≤9223372036854775807)<|(gd ((([91]:Str)++a0.1).length+([93]:Str).length≤9223372036854775807)<|some ((([91]:Str)++a0.1)++([93]:Str),true)))))))else((apa fu s_0).bind fun(a1:Bool)=>(bif a1 then some (s_0,true)else((aml fu s_0).bind fun(a2:Bool)=>(bif a2 then((aeb fu s_0).bind fun(a3:Str)=>some (a3,true))else some (([]:Str),false)))))))
def aka(fu:Nat)(s_0:Str)(a2:Int→Int→Option (Int⊕(Int×UInt8)))(a1:Int)(a0:Int):Option (Int⊕(Int×UInt8)):=
 (if a0<(s_0.length:Int)then(((gd (0≤a0∧a0<(s_0.length:Int))<|(if(at_ s_0 a0)<(48:UInt8)then some true else(gd (0≤a0∧a0<(s_0.length:Int))<|some (decide ((57:UInt8)<(at_ s_0 a0))))))).bind fun(a3:Bool)=>(bif a3 then some (.inr ((0:Int),(5:UInt8)))else(gd (abt ((10:Int)*a1))<|(gd (0≤a0∧a0<(s_0.length:Int))<|(gd (abt (((10:Int)*a1)+(((at_ s_0 a0)-(48:UInt8)).toNat:Int)))<|(gd (abt (a0+(1:Int)))<|(a2 (((10:Int)*a1)+(((at_ s_0 a0)-(48:UInt8)).toNat:Int)) (a0+(1:Int)))))))))else some (.inl a1))
def akv(fu:Nat)(s_0:Str):Nat→Int→Int→Option (Int⊕(Int×UInt8)):=fun k_ a0 a1=>loopF (fun(g:(Int×Int)→Option (Int⊕(Int×UInt8))) v=>aka fu s_0 (fun a0 a1=>g (a0,a1)) v.1 v.2) k_ (a0,a1)
theorem apj{fu:Nat}{s_0:Str}{k_:Nat}{a0:Int}{a1:Int}:akv fu s_0 (k_+1) a0 a1=aka fu s_0 (akv fu s_0 k_) a0 a1:=rfl
def aje(fu:Nat)(s_0:Str):Option (Int×UInt8):=
 (((if(s_0.length:Int)<(1:Int)then some true else some (decide ((10:Int)<(s_0.length:Int))))).bind fun(v5:Bool)=>(bif v5 then some ((0:Int),(5:UInt8))else(((akv fu s_0 fu (0:Int) (0:Int))).bind fun(a1:(Int⊕(Int×UInt8)))=>zaO (fun(a0:Int)=>(if(2147483647:Int)<a0 then some ((0:Int),(3:UInt8))else some (a0,(0:UInt8)))) (fun q=>some q) a1)))
def ake(fu:Nat)(a0:(Str×Int))(a1:UQ):Option (Int×UInt8×(Str×Int)×UQ):=
 (((gd (0≤a0.2∧a0.2≤(a0.1.length:Int))<|(if(0:Int)≤(ixb (·==(64:UInt8)) (zaC (zan a0.2) a0.1))then(gd (abt (a0.2+(ixb (·==(64:UInt8)) (zaC (zan a0.2) a0.1))))<|((afp fu a0 (a0.2+(ixb (·==(64:UInt8)) (zaC (zan a0.2) a0.1))) (0:Int)).bind fun(a4:(Int×Bool))=>(bif a4.2 then(gd (0≤a4.1∧a4.1<(a0.1.length:Int))<|(if(at_ a0.1 a4.1)=(58:UInt8)then some (.inr (a4.1,(15:UInt8),a0,a1))else some (.inr (a4.1,(5:UInt8),a0,a1))))else(if(ixb (·==(64:UInt8)) (zaC (zan a0.2) a0.1))=(0:Int)then some (.inr (a0.2+(ixb (·==(64:UInt8)) (zaC (zan a0.2) a0.1)),(5:UInt8),a0,a1))else(gd (0≤a0.2∧a0.2≤(a0.2+(ixb (·==(64:UInt8)) (zaC (zan a0.2) a0.1)))∧(a0.2+(ixb (·==(64:UInt8)) (zaC (zan a0.2) a0.1)))≤(a0.1.length:Int))<|((ajp fu (sub a0.1 a0.2 (a0.2+(ixb (·==(64:UInt8)) (zaC (zan a0.2) a0.1))))).bind fun(b0:Str)=>(gd (abt ((a0.2+(ixb (·==(64:UInt8)) (zaC (zan a0.2) a0.1)))+(1:Int)))<|some (.inl ((a0.2+(ixb (·==(64:UInt8)) (zaC (zan a0.2) a0.1)))+(1:Int),b0)))))))))else some (.inl (a0.2,a1.2.1))))).bind fun(b1:((Int×Str)⊕(Int×UInt8×(Str×Int)×UQ)))=>zaO (fun(a3:(Int×Str))=>((aav fu a0.1 a3.1 ([58,59,63]:Str)).bind fun(b2:Int)=>((((aag fu (a0.1,a3.1) (91:UInt8)).bind fun(b3:Bool)=>(bif b3 then((aav fu a0.1 a3.1 ([93]:Str)).bind fun(a8:Int)=>(gd (abt (a8+(1:Int)))<|some (min (a8+(1:Int)) (a0.1.length:Int))))else some b2))).bind fun(a2:Int)=>(gd (0≤a3.1∧a3.1≤a2∧a2≤(a0.1.length:Int))<|((agr fu (sub a0.1 a3.1 a2)).bind fun(a5:(Str×Bool))=>(bif (!a5.2)then some (a3.1,(5:UInt8),(a0.1,a3.1),(a1.1,a3.2,a1.2.2.1,a1.2.2.2.1,a1.2.2.2.2.1,a1.2.2.2.2.2))else((aag fu (a0.1,a2) (58:UInt8)).bind fun(b4:Bool)=>(bif b4 then(gd (abt (a2+(1:Int)))<|((aav fu a0.1 (a2+(1:Int)) ([59,63]:Str)).bind fun(a7:Int)=>(gd (0≤(a2+(1:Int))∧(a2+(1:Int))≤a7∧a7≤(a0.1.length:Int))<|((aje fu (sub a0.1 (a2+(1:Int)) a7)).bind fun(a6:(Int×UInt8))=>(((((if a6.2=(0:UInt8)then(if a6.1<(1:Int)then some true else some (decide ((65535:Int)<a6.1)))else some false)).bind fun(b5:Bool)=>(bif b5 then some (3:UInt8)else some a6.2))).bind fun(a9:UInt8)=>(if a9=(0:UInt8)then some ((0:Int),(0:UInt8),(a0.1,a7),(a1.1,a3.2,a5.1,a6.1,a1.2.2.2.2.1,a1.2.2.2.2.2))else some (a2+(1:Int),a9,(a0.1,a2+(1:Int)),(a1.1,a3.2,a5.1,a1.2.2.2.1,a1.2.2.2.2.1,a1.2.2.2.2.2))))))))else((((adx fu (a0.1,a2)).bind fun(b6:Bool)=>(bif (!b6)then((aag fu (a0.1,a2) (59:UInt8)).bind fun(b7:Bool)=>(bif (!b7)then((aag fu (a0.1,a2) (63:UInt8)).bind fun(b8:Bool)=>some (!b8))else some false))else some false))).bind fun(b9:Bool)=>(bif b9 then some (a2,(5:UInt8),(a0.1,a2),(a1.1,a3.2,a5.1,a1.2.2.2.1,a1.2.2.2.2.1,a1.2.2.2.2.2))else some ((0:Int),(0:UInt8),(a0.1,a2),(a1.1,a3.2,a5.1,a1.2.2.2.1,a1.2.2.2.2.1,a1.2.2.2.2.2)))))))))))) (fun q=>some q) b1)
open Go.Lib renaming trimPrefix → zaw
def ago(fu:Nat)(a1:(Str×Int))(a4:UQ)(y1:Int)(y6:Bool)(a5:(List UInt8)→Int→Option (((List UInt8)×Int)⊕(Int×UInt8×(Str×Int)×UQ)))(a2:List UInt8)(a0:Int):Option (((List UInt8)×Int)⊕(Int×UInt8×(Str×Int)×UQ)):=
 (if a0<y1 then(((gd (0≤a0∧a0<(a1.1.length:Int))<|(((((if(48:UInt8)≤(at_ a1.1 a0)then some (decide ((at_ a1.1 a0)≤(57:UInt8)))else some false)).bind fun(a3:Bool)=>(bif a3 then some a3 else(bif (!y6)then(if(at_ a1.1 a0)=(42:UInt8)then some true else some (decide ((at_ a1.1 a0)=(35:UInt8))))else some false)))).bind fun(a6:Bool)=>(bif a6 then(gd ((a2.length+([at_ a1.1 a0]:List UInt8).length)*1≤140737488355328)<|some (.inl (a2++([at_ a1.1 a0]:List UInt8))))else(((if(at_ a1.1 a0)=(45:UInt8)then some false else(if(at_ a1.1 a0)=(46:UInt8)then some false else(if(at_ a1.1 a0)=(40:UInt8)then some false else some (!decide ((at_ a1.1 a0)=(41:UInt8))))))).bind fun(a7:Bool)=>(bif a7 then some (.inr (a0,(5:UInt8),(a1.1,a0),a4))else some (.inl a2))))))).bind fun(a8:((List UInt8)⊕(Int×UInt8×(Str×Int)×UQ)))=>zaO (fun(a9:List UInt8)=>(gd (abt (a0+(1:Int)))<|(a5 a9 (a0+(1:Int))))) (fun q=>some (.inr q)) a8)else some (.inl (a2,a0)))
def ahd(fu:Nat)(a2:(Str×Int))(a3:UQ)(y1:Int)(y6:Bool):Nat→(List UInt8)→Int→Option (((List UInt8)×Int)⊕(Int×UInt8×(Str×Int)×UQ)):=fun k_ a0 a1=>loopF (fun(g:((List UInt8)×Int)→Option (((List UInt8)×Int)⊕(Int×UInt8×(Str×Int)×UQ))) v=>ago fu a2 a3 y1 y6 (fun a0 a1=>g (a0,a1)) v.1 v.2) k_ (a0,a1)
theorem anp{fu:Nat}{a0:(Str×Int)}{a1:UQ}{y1:Int}{y6:Bool}{k_:Nat}{a2:List UInt8}{a3:Int}:ahd fu a0 a1 y1 y6 (k_+1) a2 a3=ago fu a0 a1 y1 y6 (ahd fu a0 a1 y1 y6 k_) a2 a3:=rfl
def ajb(fu:Nat)(a1:(Str×Int))(a0:UQ):Option (Int×UInt8×(Str×Int)×UQ):=
 ((aav fu a1.1 a1.2 ([59]:Str)).bind fun(y1:Int)=>((aag fu a1 (43:UInt8)).bind fun(y6:Bool)=>(((bif y6 then(gd ((([]:List UInt8).length+([(43:UInt8)]:List UInt8).length)*1≤140737488355328)<|(gd (abt (a1.2+(1:Int)))<|some (([]:List UInt8)++([(43:UInt8)]:List UInt8),a1.2+(1:Int))))else some (([]:List UInt8),a1.2))).bind fun(a3:((List UInt8)×Int))=>(((ahd fu a1 a0 y1 y6 fu a3.1 a3.2)).bind fun(a4:(((List UInt8)×Int)⊕(Int×UInt8×(Str×Int)×UQ)))=>zaO (fun(a2:((List UInt8)×Int))=>(if(zaw a2.1 ([43]:Str))=([]:Str)then some (a1.2,(5:UInt8),(a1.1,a2.2),(a0.1,a2.1,a0.2.2.1,a0.2.2.2.1,a0.2.2.2.2.1,a0.2.2.2.2.2))else(if(30:Int)<((zaw a2.1 ([43]:Str)).length:Int)then some (a1.2,(4:UInt8),(a1.1,a2.2),(a0.1,a2.1,a0.2.2.1,a0.2.2.2.1,a0.2.2.2.2.1,a0.2.2.2.2.2))else some ((0:Int),(0:UInt8),(a1.1,a2.2),(a0.1,a2.1,a0.2.2.1,a0.2.2.2.1,a0.2.2.2.2.1,a0.2.2.2.2.2))))) (fun q=>some q) a4))))
def apb(fu:Nat)(a0:PQ)(a1:Str):Option Bool:=
 some (decide (a0.1=a1))
def abq(fu:Nat)(s_0:LQ)(a1:Str)(a2:Int→Option (Unit⊕Int))(a0:Int):Option (Unit⊕Int):=
 (if a0<(s_0.length:Int)then(gd (0≤a0∧a0<(s_0.length:Int))<|(gd (0≤a0∧a0<(s_0.length:Int))<|((apb fu ((el s_0 a0).1,(el s_0 a0).2.1,((el s_0 a0).2.2)) a1).bind fun(a3:Bool)=>(bif a3 then some (.inr a0)else(gd (abt (a0+(1:Int)))<|(a2 (a0+(1:Int))))))))else some (.inl ()))
def acw(fu:Nat)(s_0:LQ)(a1:Str):Nat→Int→Option (Unit⊕Int):=fun k_ a0=>loopF (fun(g:Int→Option (Unit⊕Int)) v=>abq fu s_0 a1 (fun a0=>g a0) v) k_ a0
theorem adw{fu:Nat}{s_0:LQ}{a0:Str}{k_:Nat}{a1:Int}:acw fu s_0 a0 (k_+1) a1=abq fu s_0 a0 (acw fu s_0 a0 k_) a1:=rfl
def aew(fu:Nat)(s_0:LQ)(a0:Str):Option Int:=
 (((acw fu s_0 a0 fu (0:Int))).bind fun(a1:(Unit⊕Int))=>zaO (fun(a2:Unit)=>some (-1:Int)) (fun q=>some q) a1)
def aek(fu:Nat)(s_0:LQ)(a0:Str):Option Bool:=
 ((aew fu s_0 a0).bind fun(y1:Int)=>some (decide ((0:Int)≤y1)))
def amn(fu:Nat)(a0:LQ)(a1:Str):Option Bool:=
 ((aek fu a0 a1).bind fun(y4:Bool)=>some y4)
def ans(fu:Nat)(a0:LQ)(a1:Str):Option UInt8:=
 ((amn fu a0 a1).bind fun(y1:Bool)=>(bif y1 then some (7:UInt8)else(if(16:Int)≤(a0.length:Int)then some (4:UInt8)else some (0:UInt8))))
def ahp(fu:Nat)(a0:(Str×Int))(a5:LQ)(a1:Int)(a3:Int):Option (LQ×Int×UInt8×(Str×Int)):=
 (gd (0≤a0.2∧a0.2≤a1∧a1≤(a0.1.length:Int))<|(((if(0:Int)≤(ixb (·==(61:UInt8)) (sub a0.1 a0.2 a1))then(gd (abt (a0.2+(ixb (·==(61:UInt8)) (sub a0.1 a0.2 a1))))<|some (a0.2+(ixb (·==(61:UInt8)) (sub a0.1 a0.2 a1))))else some a1)).bind fun(a2:Int)=>((afp fu a0 a2 a3).bind fun(a7:(Int×Bool))=>(bif a7.2 then some (([]:LQ),a7.1,(5:UInt8),a0)else(if a2=a0.2 then some (([]:LQ),a0.2,(5:UInt8),a0)else(gd (0≤a0.2∧a0.2≤a2∧a2≤(a0.1.length:Int))<|((ajp fu (sub a0.1 a0.2 a2)).bind fun(b0:Str)=>((aeb fu b0).bind fun(a6:Str)=>(((if(0:Int)≤(ixb (·==(61:UInt8)) (sub a0.1 a0.2 a1))then(gd (abt (a2+(1:Int)))<|((afp fu (a0.1,a2+(1:Int)) a1 a3).bind fun(a8:(Int×Bool))=>(bif a8.2 then some (.inr (([]:LQ),a8.1,(5:UInt8),(a0.1,a2+(1:Int))))else(((if(a2+(1:Int))=a1 then some (decide (a3=(1:Int)))else some false)).bind fun(b1:Bool)=>(bif b1 then some (.inr (([]:LQ),a1,(5:UInt8),(a0.1,a2+(1:Int))))else(gd (0≤(a2+(1:Int))∧(a2+(1:Int))≤a1∧a1≤(a0.1.length:Int))<|((ajp fu (sub a0.1 (a2+(1:Int)) a1)).bind fun(b2:Str)=>some (.inl (a1,b2)))))))))else(if a3=(2:Int)then some (.inr (([]:LQ),a1,(5:UInt8),(a0.1,a1)))else some (.inl (a1,([]:Str)))))).bind fun(b3:((Int×Str)⊕(LQ×Int×UInt8×(Str×Int))))=>zaO (fun(a4:(Int×Str))=>((ans fu a5 a6).bind fun(a9:UInt8)=>(if a9=(0:UInt8)then(gd ((a5.length+([(a6,a4.2,(decide ((0:Int)≤(ixb (·==(61:UInt8)) (sub a0.1 a0.2 a1)))))]:LQ).length)*40≤140737488355328)<|some (a5++([(a6,a4.2,(decide ((0:Int)≤(ixb (·==(61:UInt8)) (sub a0.1 a0.2 a1)))))]:LQ),(0:Int),(0:UInt8),(a0.1,a4.1)))else some (([]:LQ),a0.2,a9,(a0.1,a4.1))))) (fun q=>some q) b3)))))))))
def akx(fu:Nat)(a0:Str):Option Bool:=
 some (!decide (a0=a0))
open Go.IntKind renaming wrap → zac
open Go.Op renaming bytesLess → zaL
def air(fu:Nat)(a0:Str)(a1:Str):Option Int:=
 ((akx fu a0).bind fun(y1:Bool)=>((akx fu a1).bind fun(y6:Bool)=>(bif y1 then(bif y6 then some (0:Int)else some (-1:Int))else(bif y6 then some (1:Int)else(bif (zaL a0 a1)then some (-1:Int)else(bif (!(zaL a0 a1||a0==a1))then some (1:Int)else some (0:Int)))))))
def agz(fu:Nat)(a0:PQ)(a1:PQ):Option Int:=
 ((air fu a0.1 a1.1).bind fun(y7:Int)=>some y7)
def abl(fu:Nat)(a2:Int)(a3:LQ→Int→Option LQ)(a1:LQ)(a0:Int):Option LQ:=
 (((if a2<a0 then(gd (0≤a0∧a0<(a1.length:Int))<|(gd (0≤a0∧a0<(a1.length:Int))<|(gd (abt (a0-(1:Int)))<|(gd (0≤(a0-(1:Int))∧(a0-(1:Int))<(a1.length:Int))<|(gd (0≤(a0-(1:Int))∧(a0-(1:Int))<(a1.length:Int))<|((agz fu ((el a1 a0).1,(el a1 a0).2.1,((el a1 a0).2.2)) ((el a1 (a0-(1:Int))).1,(el a1 (a0-(1:Int))).2.1,((el a1 (a0-(1:Int))).2.2))).bind fun(a4:Int)=>some (decide (a4<(0:Int)))))))))else some false)).bind fun(a5:Bool)=>(bif a5 then(gd (abt (a0-(1:Int)))<|(gd (abt (a0-(1:Int)))<|(gd (0≤(a0-(1:Int))∧(a0-(1:Int))<(a1.length:Int))<|(gd (0≤(a0-(1:Int))∧(a0-(1:Int))<(a1.length:Int))<|(gd (0≤a0∧a0<(a1.length:Int))<|(gd (0≤a0∧a0<(a1.length:Int))<|(gd (0≤a0∧a0<(a1.length:Int))<|(gd (0≤a0∧a0<(a1.length:Int))<|(gd (0≤(a0-(1:Int))∧(a0-(1:Int))<((zaJ a1 (zan a0) ((el a1 (a0-(1:Int))).1,(el a1 (a0-(1:Int))).2.1,((el a1 (a0-(1:Int))).2.2))).length:Int))<|(gd (0≤(a0-(1:Int))∧(a0-(1:Int))<((zaJ a1 (zan a0) ((el a1 (a0-(1:Int))).1,(el a1 (a0-(1:Int))).2.1,((el a1 (a0-(1:Int))).2.2))).length:Int))<|(gd (abt (a0-(1:Int)))<|(a3 (zaJ (zaJ a1 (zan a0) ((el a1 (a0-(1:Int))).1,(el a1 (a0-(1:Int))).2.1,((el a1 (a0-(1:Int))).2.2))) (zan (a0-(1:Int))) ((el a1 a0).1,(el a1 a0).2.1,((el a1 a0).2.2))) (a0-(1:Int))))))))))))))else some a1))
def abn(fu:Nat)(a2:Int):Nat→LQ→Int→Option LQ:=fun k_ a0 a1=>loopF (fun(g:(LQ×Int)→Option LQ) v=>abl fu a2 (fun a0 a1=>g (a0,a1)) v.1 v.2) k_ (a0,a1)
theorem aec{fu:Nat}{a0:Int}{k_:Nat}{a1:LQ}{a2:Int}:abn fu a0 (k_+1) a1 a2=abl fu a0 (abn fu a0 k_) a1 a2:=rfl
def aaz(fu:Nat)(a2:Int)(a3:Int)(a4:LQ→Int→Option LQ)(a1:LQ)(a0:Int):Option LQ:=
 (if a0<a3 then(((abn fu a2 fu a1 a0)).bind fun(a5:LQ)=>(gd (abt (a0+(1:Int)))<|(a4 a5 (a0+(1:Int)))))else some a1)
def aao(fu:Nat)(a2:Int)(a3:Int):Nat→LQ→Int→Option LQ:=fun k_ a0 a1=>loopF (fun(g:(LQ×Int)→Option LQ) v=>aaz fu a2 a3 (fun a0 a1=>g (a0,a1)) v.1 v.2) k_ (a0,a1)
theorem acr{fu:Nat}{a0:Int}{a1:Int}{k_:Nat}{a2:LQ}{a3:Int}:aao fu a0 a1 (k_+1) a2 a3=aaz fu a0 a1 (aao fu a0 a1 k_) a2 a3:=rfl
def abe(fu:Nat)(a1:LQ)(a0:Int)(a2:Int):Option LQ:=
 (gd (abt (a0+(1:Int)))<|(aao fu a0 a2 fu a1 (a0+(1:Int))))
def aiz(fu:Nat)(a3:Int)(a2:Int)(a4:Int)(a5:LQ→Int→Option LQ)(a1:LQ)(a0:Int):Option LQ:=
 (if a0<a4 then(gd (abt (a3+a0))<|(gd (abt (a2+a0))<|(gd (abt (a2+a0))<|(gd (0≤(a2+a0)∧(a2+a0)<(a1.length:Int))<|(gd (0≤(a2+a0)∧(a2+a0)<(a1.length:Int))<|(gd (abt (a3+a0))<|(gd (0≤(a3+a0)∧(a3+a0)<(a1.length:Int))<|(gd (0≤(a3+a0)∧(a3+a0)<(a1.length:Int))<|(gd (0≤(a3+a0)∧(a3+a0)<(a1.length:Int))<|(gd (0≤(a3+a0)∧(a3+a0)<(a1.length:Int))<|(gd (0≤(a2+a0)∧(a2+a0)<((zaJ a1 (zan (a3+a0)) ((el a1 (a2+a0)).1,(el a1 (a2+a0)).2.1,((el a1 (a2+a0)).2.2))).length:Int))<|(gd (0≤(a2+a0)∧(a2+a0)<((zaJ a1 (zan (a3+a0)) ((el a1 (a2+a0)).1,(el a1 (a2+a0)).2.1,((el a1 (a2+a0)).2.2))).length:Int))<|(gd (abt (a0+(1:Int)))<|(a5 (zaJ (zaJ a1 (zan (a3+a0)) ((el a1 (a2+a0)).1,(el a1 (a2+a0)).2.1,((el a1 (a2+a0)).2.2))) (zan (a2+a0)) ((el a1 (a3+a0)).1,(el a1 (a3+a0)).2.1,((el a1 (a3+a0)).2.2))) (a0+(1:Int))))))))))))))))else some a1)
def ajn(fu:Nat)(a2:Int)(a3:Int)(a4:Int):Nat→LQ→Int→Option LQ:=fun k_ a0 a1=>loopF (fun(g:(LQ×Int)→Option LQ) v=>aiz fu a2 a3 a4 (fun a0 a1=>g (a0,a1)) v.1 v.2) k_ (a0,a1)
def acn(fu:Nat)(a0:LQ)(a1:Int)(a2:Int)(a3:Int):Option LQ:=
 (ajn fu a1 a2 a3 fu a0 (0:Int))
def akk(fu:Nat)(a2:Int)(a4:LQ→Int→Int→Option (LQ×Int))(a3:LQ)(a0:Int)(a1:Int):Option (LQ×Int):=
 (if a0=a1 then some (a3,a0)else(if a1<a0 then(gd (abt (a2-a0))<|((acn fu a3 (a2-a0) a2 a1).bind fun(a5:LQ)=>(gd (abt (a0-a1))<|(a4 a5 (a0-a1) a1))))else(gd (abt (a2-a0))<|(gd (abt (a2+a1))<|(gd (abt ((a2+a1)-a0))<|((acn fu a3 (a2-a0) ((a2+a1)-a0) a0).bind fun(a6:LQ)=>(gd (abt (a1-a0))<|(a4 a6 a0 (a1-a0)))))))))
def akm(fu:Nat)(a3:Int):Nat→LQ→Int→Int→Option (LQ×Int):=fun k_ a0 a1 a2=>loopF (fun(g:(LQ×Int×Int)→Option (LQ×Int)) v=>akk fu a3 (fun a0 a1 a2=>g (a0,a1,a2)) v.1 v.2.1 v.2.2) k_ (a0,a1,a2)
def agl(fu:Nat)(a4:LQ)(a2:Int)(a0:Int)(a3:Int):Option LQ:=
 (gd (abt (a0-a2))<|(gd (abt (a3-a0))<|(((akm fu a0 fu a4 (a0-a2) (a3-a0))).bind fun(a1:(LQ×Int))=>(gd (abt (a0-a1.2))<|((acn fu a1.1 (a0-a1.2) a0 a1.2).bind fun(a5:LQ)=>some a5)))))
def ajm(fu:Nat)(a2:LQ)(a3:Int)(a4:Int→Int→Option Int)(a0:Int)(a1:Int):Option Int:=
 (if a0<a1 then(gd (abt (a0+a1))<|(gd (0≤(zac .i64 ((zac .u64 (a0+a1))/2))∧(zac .i64 ((zac .u64 (a0+a1))/2))<(a2.length:Int))<|(gd (0≤(zac .i64 ((zac .u64 (a0+a1))/2))∧(zac .i64 ((zac .u64 (a0+a1))/2))<(a2.length:Int))<|(gd (0≤a3∧a3<(a2.length:Int))<|(gd (0≤a3∧a3<(a2.length:Int))<|((agz fu ((el a2 (zac .i64 ((zac .u64 (a0+a1))/2))).1,(el a2 (zac .i64 ((zac .u64 (a0+a1))/2))).2.1,((el a2 (zac .i64 ((zac .u64 (a0+a1))/2))).2.2)) ((el a2 a3).1,(el a2 a3).2.1,((el a2 a3).2.2))).bind fun(a5:Int)=>(if a5<(0:Int)then(gd (abt ((zac .i64 ((zac .u64 (a0+a1))/2))+(1:Int)))<|(a4 ((zac .i64 ((zac .u64 (a0+a1))/2))+(1:Int)) a1))else(a4 a0 (zac .i64 ((zac .u64 (a0+a1))/2))))))))))else some a0)
def ajw(fu:Nat)(a2:LQ)(a3:Int):Nat→Int→Int→Option Int:=fun k_ a0 a1=>loopF (fun(g:(Int×Int)→Option Int) v=>ajm fu a2 a3 (fun a0 a1=>g (a0,a1)) v.1 v.2) k_ (a0,a1)
def ajl(fu:Nat)(a2:Int)(a3:LQ→Int→Option LQ)(a1:LQ)(a0:Int):Option LQ:=
 (gd (abt (a2-(1:Int)))<|(if a0<(a2-(1:Int))then(gd (abt (a0+(1:Int)))<|(gd (abt (a0+(1:Int)))<|(gd (0≤(a0+(1:Int))∧(a0+(1:Int))<(a1.length:Int))<|(gd (0≤(a0+(1:Int))∧(a0+(1:Int))<(a1.length:Int))<|(gd (0≤a0∧a0<(a1.length:Int))<|(gd (0≤a0∧a0<(a1.length:Int))<|(gd (0≤a0∧a0<(a1.length:Int))<|(gd (0≤a0∧a0<(a1.length:Int))<|(gd (0≤(a0+(1:Int))∧(a0+(1:Int))<((zaJ a1 (zan a0) ((el a1 (a0+(1:Int))).1,(el a1 (a0+(1:Int))).2.1,((el a1 (a0+(1:Int))).2.2))).length:Int))<|(gd (0≤(a0+(1:Int))∧(a0+(1:Int))<((zaJ a1 (zan a0) ((el a1 (a0+(1:Int))).1,(el a1 (a0+(1:Int))).2.1,((el a1 (a0+(1:Int))).2.2))).length:Int))<|(gd (abt (a0+(1:Int)))<|(a3 (zaJ (zaJ a1 (zan a0) ((el a1 (a0+(1:Int))).1,(el a1 (a0+(1:Int))).2.1,((el a1 (a0+(1:Int))).2.2))) (zan (a0+(1:Int))) ((el a1 a0).1,(el a1 a0).2.1,((el a1 a0).2.2))) (a0+(1:Int))))))))))))))else some a1))
def ajv(fu:Nat)(a2:Int):Nat→LQ→Int→Option LQ:=fun k_ a0 a1=>loopF (fun(g:(LQ×Int)→Option LQ) v=>ajl fu a2 (fun a0 a1=>g (a0,a1)) v.1 v.2) k_ (a0,a1)
def ajk(fu:Nat)(a2:LQ)(a3:Int)(a4:Int→Int→Option Int)(a0:Int)(a1:Int):Option Int:=
 (if a0<a1 then(gd (abt (a0+a1))<|(gd (0≤a3∧a3<(a2.length:Int))<|(gd (0≤a3∧a3<(a2.length:Int))<|(gd (0≤(zac .i64 ((zac .u64 (a0+a1))/2))∧(zac .i64 ((zac .u64 (a0+a1))/2))<(a2.length:Int))<|(gd (0≤(zac .i64 ((zac .u64 (a0+a1))/2))∧(zac .i64 ((zac .u64 (a0+a1))/2))<(a2.length:Int))<|((agz fu ((el a2 a3).1,(el a2 a3).2.1,((el a2 a3).2.2)) ((el a2 (zac .i64 ((zac .u64 (a0+a1))/2))).1,(el a2 (zac .i64 ((zac .u64 (a0+a1))/2))).2.1,((el a2 (zac .i64 ((zac .u64 (a0+a1))/2))).2.2))).bind fun(a5:Int)=>(if a5<(0:Int)then(a4 a0 (zac .i64 ((zac .u64 (a0+a1))/2)))else(gd (abt ((zac .i64 ((zac .u64 (a0+a1))/2))+(1:Int)))<|(a4 ((zac .i64 ((zac .u64 (a0+a1))/2))+(1:Int)) a1)))))))))else some a0)
def aju(fu:Nat)(a2:LQ)(a3:Int):Nat→Int→Int→Option Int:=fun k_ a0 a1=>loopF (fun(g:(Int×Int)→Option Int) v=>ajk fu a2 a3 (fun a0 a1=>g (a0,a1)) v.1 v.2) k_ (a0,a1)
def ajj(fu:Nat)(a2:Int)(a3:LQ→Int→Option LQ)(a1:LQ)(a0:Int):Option LQ:=
 (if a2<a0 then(gd (abt (a0-(1:Int)))<|(gd (abt (a0-(1:Int)))<|(gd (0≤(a0-(1:Int))∧(a0-(1:Int))<(a1.length:Int))<|(gd (0≤(a0-(1:Int))∧(a0-(1:Int))<(a1.length:Int))<|(gd (0≤a0∧a0<(a1.length:Int))<|(gd (0≤a0∧a0<(a1.length:Int))<|(gd (0≤a0∧a0<(a1.length:Int))<|(gd (0≤a0∧a0<(a1.length:Int))<|(gd (0≤(a0-(1:Int))∧(a0-(1:Int))<((zaJ a1 (zan a0) ((el a1 (a0-(1:Int))).1,(el a1 (a0-(1:Int))).2.1,((el a1 (a0-(1:Int))).2.2))).length:Int))<|(gd (0≤(a0-(1:Int))∧(a0-(1:Int))<((zaJ a1 (zan a0) ((el a1 (a0-(1:Int))).1,(el a1 (a0-(1:Int))).2.1,((el a1 (a0-(1:Int))).2.2))).length:Int))<|(gd (abt (a0-(1:Int)))<|(a3 (zaJ (zaJ a1 (zan a0) ((el a1 (a0-(1:Int))).1,(el a1 (a0-(1:Int))).2.1,((el a1 (a0-(1:Int))).2.2))) (zan (a0-(1:Int))) ((el a1 a0).1,(el a1 a0).2.1,((el a1 a0).2.2))) (a0-(1:Int))))))))))))))else some a1)
def ajt(fu:Nat)(a2:Int):Nat→LQ→Int→Option LQ:=fun k_ a0 a1=>loopF (fun(g:(LQ×Int)→Option LQ) v=>ajj fu a2 (fun a0 a1=>g (a0,a1)) v.1 v.2) k_ (a0,a1)
def aji(fu:Nat)(a2:LQ)(a3:Int)(a4:Int)(a5:Int)(a6:Int→Int→Option Int)(a0:Int)(a1:Int):Option Int:=
 (if a0<a1 then(gd (abt (a0+a1))<|(gd (abt ((((zac .i64 ((zac .u64 (a3+a5))/2))+a4)-(1:Int))-(zac .i64 ((zac .u64 (a0+a1))/2))))<|(gd (0≤((((zac .i64 ((zac .u64 (a3+a5))/2))+a4)-(1:Int))-(zac .i64 ((zac .u64 (a0+a1))/2)))∧((((zac .i64 ((zac .u64 (a3+a5))/2))+a4)-(1:Int))-(zac .i64 ((zac .u64 (a0+a1))/2)))<(a2.length:Int))<|(gd (0≤((((zac .i64 ((zac .u64 (a3+a5))/2))+a4)-(1:Int))-(zac .i64 ((zac .u64 (a0+a1))/2)))∧((((zac .i64 ((zac .u64 (a3+a5))/2))+a4)-(1:Int))-(zac .i64 ((zac .u64 (a0+a1))/2)))<(a2.length:Int))<|(gd (0≤(zac .i64 ((zac .u64 (a0+a1))/2))∧(zac .i64 ((zac .u64 (a0+a1))/2))<(a2.length:Int))<|(gd (0≤(zac .i64 ((zac .u64 (a0+a1))/2))∧(zac .i64 ((zac .u64 (a0+a1))/2))<(a2.length:Int))<|((agz fu ((el a2 ((((zac .i64 ((zac .u64 (a3+a5))/2))+a4)-(1:Int))-(zac .i64 ((zac .u64 (a0+a1))/2)))).1,(el a2 ((((zac .i64 ((zac .u64 (a3+a5))/2))+a4)-(1:Int))-(zac .i64 ((zac .u64 (a0+a1))/2)))).2.1,((el a2 ((((zac .i64 ((zac .u64 (a3+a5))/2))+a4)-(1:Int))-(zac .i64 ((zac .u64 (a0+a1))/2)))).2.2)) ((el a2 (zac .i64 ((zac .u64 (a0+a1))/2))).1,(el a2 (zac .i64 ((zac .u64 (a0+a1))/2))).2.1,((el a2 (zac .i64 ((zac .u64 (a0+a1))/2))).2.2))).bind fun(a7:Int)=>(if a7<(0:Int)then(a6 a0 (zac .i64 ((zac .u64 (a0+a1))/2)))else(gd (abt ((zac .i64 ((zac .u64 (a0+a1))/2))+(1:Int)))<|(a6 ((zac .i64 ((zac .u64 (a0+a1))/2))+(1:Int)) a1))))))))))else some a0)
def ajs(fu:Nat)(a2:LQ)(a3:Int)(a4:Int)(a5:Int):Nat→Int→Int→Option Int:=fun k_ a0 a1=>loopF (fun(g:(Int×Int)→Option Int) v=>aji fu a2 a3 a4 a5 (fun a0 a1=>g (a0,a1)) v.1 v.2) k_ (a0,a1)
def abb:Nat→LQ→Int→Int→Int→Option LQ
 |0,_,_,_,_=>none
 |fu+1,a4,a0,a2,a1=>(((gd (abt (a2-a0))<|(if(a2-a0)=(1:Int)then(((ajw fu a4 a0 fu a2 a1)).bind fun(a8:Int)=>(((ajv fu a8 fu a4 a0)).bind fun(a9:LQ)=>some (.inr a9)))else some (.inl ())))).bind fun(b0:(Unit⊕LQ))=>zaO (fun(c0:Unit)=>(((gd (abt (a1-a2))<|(if(a1-a2)=(1:Int)then(((aju fu a4 a2 fu a0 a2)).bind fun(b1:Int)=>(((ajt fu b1 fu a4 a2)).bind fun(b2:LQ)=>some (.inr b2)))else some (.inl ())))).bind fun(b3:(Unit⊕LQ))=>zaO (fun(c1:Unit)=>(gd (abt (a0+a1))<|(gd (abt ((zac .i64 ((zac .u64 (a0+a1))/2))+a2))<|(((if(zac .i64 ((zac .u64 (a0+a1))/2))<a2 then(gd (abt (((zac .i64 ((zac .u64 (a0+a1))/2))+a2)-a1))<|some (((zac .i64 ((zac .u64 (a0+a1))/2))+a2)-a1,zac .i64 ((zac .u64 (a0+a1))/2)))else some (a0,a2))).bind fun(a5:(Int×Int))=>(gd (abt (((zac .i64 ((zac .u64 (a0+a1))/2))+a2)-(1:Int)))<|(((ajs fu a4 a0 a2 a1 fu a5.1 a5.2)).bind fun(a3:Int)=>(gd (abt (((zac .i64 ((zac .u64 (a0+a1))/2))+a2)-a3))<|(((((if a3<a2 then some (decide (a2<(((zac .i64 ((zac .u64 (a0+a1))/2))+a2)-a3)))else some false)).bind fun(b4:Bool)=>(bif b4 then((agl fu a4 a3 a2 (((zac .i64 ((zac .u64 (a0+a1))/2))+a2)-a3)).bind fun(b5:LQ)=>some b5)else some a4))).bind fun(a6:LQ)=>(((((if a0<a3 then some (decide (a3<(zac .i64 ((zac .u64 (a0+a1))/2))))else some false)).bind fun(b6:Bool)=>(bif b6 then((abb fu a6 a0 a3 (zac .i64 ((zac .u64 (a0+a1))/2))).bind fun(b7:LQ)=>some b7)else some a6))).bind fun(a7:LQ)=>(((if(zac .i64 ((zac .u64 (a0+a1))/2))<(((zac .i64 ((zac .u64 (a0+a1))/2))+a2)-a3)then some (decide ((((zac .i64 ((zac .u64 (a0+a1))/2))+a2)-a3)<a1))else some false)).bind fun(b8:Bool)=>(bif b8 then((abb fu a7 (zac .i64 ((zac .u64 (a0+a1))/2)) (((zac .i64 ((zac .u64 (a0+a1))/2))+a2)-a3) a1).bind fun(b9:LQ)=>some b9)else some a7))))))))))) (fun q=>some q) b3)) (fun q=>some q) b0)
def adh(fu:Nat)(a3:Int)(a4:LQ→Int→Int→Option (LQ×Int))(a1:LQ)(a2:Int)(a0:Int):Option (LQ×Int):=
 (if a0≤a3 then((abe fu a1 a2 a0).bind fun(a5:LQ)=>(gd (abt (a0+(20:Int)))<|(a4 a5 a0 (a0+(20:Int)))))else some (a1,a2))
def abi(fu:Nat)(a3:Int):Nat→LQ→Int→Int→Option (LQ×Int):=fun k_ a0 a1 a2=>loopF (fun(g:(LQ×Int×Int)→Option (LQ×Int)) v=>adh fu a3 (fun a0 a1 a2=>g (a0,a1,a2)) v.1 v.2.1 v.2.2) k_ (a0,a1,a2)
theorem ajy{fu:Nat}{a0:Int}{k_:Nat}{a1:LQ}{a2:Int}{a3:Int}:abi fu a0 (k_+1) a1 a2 a3=adh fu a0 (abi fu a0 k_) a1 a2 a3:=rfl
def aki(fu:Nat)(a4:Int)(a0:Int)(a5:LQ→Int→Int→Option (LQ×Int))(a3:LQ)(a2:Int)(a1:Int):Option (LQ×Int):=
 (if a1≤a4 then(gd (abt (a2+a0))<|((abb fu a3 a2 (a2+a0) a1).bind fun(a6:LQ)=>(gd (abt ((2:Int)*a0))<|(gd (abt (a1+((2:Int)*a0)))<|(a5 a6 a1 (a1+((2:Int)*a0)))))))else some (a3,a2))
def akl(fu:Nat)(a3:Int)(a4:Int):Nat→LQ→Int→Int→Option (LQ×Int):=fun k_ a0 a1 a2=>loopF (fun(g:(LQ×Int×Int)→Option (LQ×Int)) v=>aki fu a3 a4 (fun a0 a1 a2=>g (a0,a1,a2)) v.1 v.2.1 v.2.2) k_ (a0,a1,a2)
def adg(fu:Nat)(a2:Int)(a3:LQ→Int→Option LQ)(a4:LQ)(a0:Int):Option LQ:=
 (if a0<a2 then(gd (abt ((2:Int)*a0))<|(((akl fu a2 a0 fu a4 (0:Int) ((2:Int)*a0))).bind fun(a1:(LQ×Int))=>(gd (abt (a1.2+a0))<|(if(a1.2+a0)<a2 then((abb fu a1.1 a1.2 (a1.2+a0) a2).bind fun(a5:LQ)=>(gd (abt (a0*(2:Int)))<|(a3 a5 (a0*(2:Int)))))else(gd (abt (a0*(2:Int)))<|(a3 a1.1 (a0*(2:Int))))))))else some a4)
def abh(fu:Nat)(a2:Int):Nat→LQ→Int→Option LQ:=fun k_ a0 a1=>loopF (fun(g:(LQ×Int)→Option LQ) v=>adg fu a2 (fun a0 a1=>g (a0,a1)) v.1 v.2) k_ (a0,a1)
theorem ajx{fu:Nat}{a0:Int}{k_:Nat}{a1:LQ}{a2:Int}:abh fu a0 (k_+1) a1 a2=adg fu a0 (abh fu a0 k_) a1 a2:=rfl
def aea(fu:Nat)(a2:LQ)(a0:Int):Option LQ:=
 (((abi fu a0 fu a2 (0:Int) (20:Int))).bind fun(a1:(LQ×Int))=>((abe fu a1.1 a1.2 a0).bind fun(a3:LQ)=>(abh fu a0 fu a3 (20:Int))))
def adv(fu:Nat)(a0:LQ):Option LQ:=
 ((aea fu a0 (a0.length:Int)).bind fun(y1:LQ)=>some y1)
def afy(fu:Nat)(a0:LQ):Option LQ:=
 (gd ((0+a0.length)*40≤140737488355328)<|((adv fu a0).bind fun(y8:LQ)=>some y8))
def ahg(fu:Nat)(a5:(Int×UInt8×Str×Str×Int×Str×Str×Str×Int×LQ×LQ))(a6:Int→UInt8→Str→Int→LQ→Option (Int×UInt8×Str×Int×LQ))(a7:Int)(a3:UInt8)(a2:Str)(a0:Int)(a4:LQ):Option (Int×UInt8×Str×Int×LQ):=
 (((if a3=(0:UInt8)then((aag fu (a2,a0) (59:UInt8)).bind fun(a8:Bool)=>some a8)else some false)).bind fun(a9:Bool)=>(bif a9 then(gd (abt (a0+(1:Int)))<|((aav fu a2 (a0+(1:Int)) a5.2.2.1).bind fun(b0:Int)=>((ahp fu (a2,a0+(1:Int)) a4 b0 (1:Int)).bind fun(a1:(LQ×Int×UInt8×(Str×Int)))=>(a6 a1.2.1 a1.2.2.1 a1.2.2.2.1 a1.2.2.2.2 a1.1))))else some (a7,a3,a2,a0,a4)))
def ahu(fu:Nat)(a5:(Int×UInt8×Str×Str×Int×Str×Str×Str×Int×LQ×LQ)):Nat→Int→UInt8→Str→Int→LQ→Option (Int×UInt8×Str×Int×LQ):=fun k_ a0 a1 a2 a3 a4=>loopF (fun(g:(Int×UInt8×Str×Int×LQ)→Option (Int×UInt8×Str×Int×LQ)) v=>ahg fu a5 (fun a0 a1 a2 a3 a4=>g (a0,a1,a2,a3,a4)) v.1 v.2.1 v.2.2.1 v.2.2.2.1 v.2.2.2.2) k_ (a0,a1,a2,a3,a4)
theorem alb{fu:Nat}{a0:(Int×UInt8×Str×Str×Int×Str×Str×Str×Int×LQ×LQ)}{k_:Nat}{a1:Int}{a2:UInt8}{a3:Str}{a4:Int}{a5:LQ}:ahu fu a0 (k_+1) a1 a2 a3 a4 a5=ahg fu a0 (ahu fu a0 k_) a1 a2 a3 a4 a5:=rfl
def ahf(fu:Nat)(a5:Int→UInt8→Str→Int→LQ→Option (Int×UInt8×Str×Int×LQ))(a6:Int)(a3:UInt8)(a2:Str)(a0:Int)(a4:LQ):Option (Int×UInt8×Str×Int×LQ):=
 (((if a3=(0:UInt8)then((adx fu (a2,a0)).bind fun(a7:Bool)=>some (!a7))else some false)).bind fun(a8:Bool)=>(bif a8 then(gd (abt (a0+(1:Int)))<|((aav fu a2 (a0+(1:Int)) ([38]:Str)).bind fun(a9:Int)=>((ahp fu (a2,a0+(1:Int)) a4 a9 (2:Int)).bind fun(a1:(LQ×Int×UInt8×(Str×Int)))=>(a5 a1.2.1 a1.2.2.1 a1.2.2.2.1 a1.2.2.2.2 a1.1))))else some (a6,a3,a2,a0,a4)))
def aht(fu:Nat):Nat→Int→UInt8→Str→Int→LQ→Option (Int×UInt8×Str×Int×LQ):=fun k_ a0 a1 a2 a3 a4=>loopF (fun(g:(Int×UInt8×Str×Int×LQ)→Option (Int×UInt8×Str×Int×LQ)) v=>ahf fu (fun a0 a1 a2 a3 a4=>g (a0,a1,a2,a3,a4)) v.1 v.2.1 v.2.2.1 v.2.2.2.1 v.2.2.2.2) k_ (a0,a1,a2,a3,a4)
theorem ala{fu:Nat}{k_:Nat}{a0:Int}{a1:UInt8}{a2:Str}{a3:Int}{a4:LQ}:aht fu (k_+1) a0 a1 a2 a3 a4=ahf fu (aht fu k_) a0 a1 a2 a3 a4:=rfl
def aos(fu:Nat)(s_0:Str):Option (UQ×Int×UInt8):=
 (if(1024:Int)<(s_0.length:Int)then some ((([]:Str),([]:Str),([]:Str),(0:Int),([]:LQ),([]:LQ)),(1024:Int),(4:UInt8))else(if(ixb (·==(58:UInt8)) s_0)<(0:Int)then some ((([]:Str),([]:Str),([]:Str),(0:Int),([]:LQ),([]:LQ)),(s_0.length:Int),(5:UInt8))else(gd (abt ((ixb (·==(58:UInt8)) s_0)+(1:Int)))<|(gd (0≤(ixb (·==(58:UInt8)) s_0)∧(ixb (·==(58:UInt8)) s_0)≤(s_0.length:Int))<|((aeb fu (zbt (zan (ixb (·==(58:UInt8)) s_0)) s_0)).bind fun(a3:Str)=>(((((if a3=([115,105,112]:Str)then some (decide (a3=([115,105,112]:Str)))else some (decide (a3=([115,105,112,115]:Str))))).bind fun(a6:Bool)=>(bif a6 then((ake fu (s_0,(ixb (·==(58:UInt8)) s_0)+(1:Int)) (a3,([]:Str),([]:Str),(0:Int),([]:LQ),([]:LQ))).bind fun(a1:(Int×UInt8×(Str×Int)×UQ))=>some (a1.1,a1.2.1,([59,63]:Str),a1.2.2.1.1,a1.2.2.1.2,a1.2.2.2.1,a1.2.2.2.2.1,a1.2.2.2.2.2.1,a1.2.2.2.2.2.2.1,a1.2.2.2.2.2.2.2.1,a1.2.2.2.2.2.2.2.2))else(if a3=([116,101,108]:Str)then((ajb fu (s_0,(ixb (·==(58:UInt8)) s_0)+(1:Int)) (a3,([]:Str),([]:Str),(0:Int),([]:LQ),([]:LQ))).bind fun(a2:(Int×UInt8×(Str×Int)×UQ))=>some (a2.1,a2.2.1,([59]:Str),a2.2.2.1.1,a2.2.2.1.2,a2.2.2.2.1,a2.2.2.2.2.1,a2.2.2.2.2.2.1,a2.2.2.2.2.2.2.1,a2.2.2.2.2.2.2.2.1,a2.2.2.2.2.2.2.2.2))else some ((0:Int),(15:UInt8),([59,63]:Str),s_0,(ixb (·==(58:UInt8)) s_0)+(1:Int),a3,([]:Str),([]:Str),(0:Int),([]:LQ),([]:LQ)))))).bind fun(a0:(Int×UInt8×Str×Str×Int×Str×Str×Str×Int×LQ×LQ))=>(((ahu fu a0 fu a0.1 a0.2.1 a0.2.2.2.1 a0.2.2.2.2.1 a0.2.2.2.2.2.2.2.2.2.1)).bind fun(a4:(Int×UInt8×Str×Int×LQ))=>(((aht fu fu a4.1 a4.2.1 a4.2.2.1 a4.2.2.2.1 a0.2.2.2.2.2.2.2.2.2.2)).bind fun(a5:(Int×UInt8×Str×Int×LQ))=>(if a5.2.1=(0:UInt8)then((afy fu a4.2.2.2.2).bind fun(a7:LQ)=>((afy fu a5.2.2.2.2).bind fun(a8:LQ)=>some ((a0.2.2.2.2.2.1,a0.2.2.2.2.2.2.1,a0.2.2.2.2.2.2.2.1,a0.2.2.2.2.2.2.2.2.1,a7,a8),(0:Int),(0:UInt8))))else some ((([]:Str),([]:Str),([]:Str),(0:Int),([]:LQ),([]:LQ)),a5.1,a5.2.1))))))))))
def ahb(fu:Nat)(a0:(Str×Int))(a2:AQ):Option (Int×UInt8×(Str×Int)×AQ):=
 ((((aag fu a0 (60:UInt8)).bind fun(a7:Bool)=>(bif a7 then(gd (abt (a0.2+(1:Int)))<|((aav fu a0.1 (a0.2+(1:Int)) ([62]:Str)).bind fun(a3:Int)=>(if a3=(a0.1.length:Int)then some (.inr (a3,(5:UInt8),a0,a2))else(gd (abt (a3+(1:Int)))<|some (.inl (a0.2+(1:Int),a3,a3+(1:Int)))))))else((aav fu a0.1 a0.2 ([59,32,9]:Str)).bind fun(a5:Int)=>((aav fu a0.1 a0.2 ([63,44]:Str)).bind fun(a6:Int)=>(if a6<a5 then some (.inr (a6,(5:UInt8),a0,a2))else some (.inl (a0.2,a5,a5)))))))).bind fun(a8:((Int×Int×Int)⊕(Int×UInt8×(Str×Int)×AQ)))=>zaO (fun(a1:(Int×Int×Int))=>(gd (0≤a1.1∧a1.1≤a1.2.1∧a1.2.1≤(a0.1.length:Int))<|((aos fu (sub a0.1 a1.1 a1.2.1)).bind fun(a4:(UQ×Int×UInt8))=>(if a4.2.2=(0:UInt8)then some ((0:Int),(0:UInt8),(a0.1,a1.2.2),(a2.1,a4.1,a2.2.2))else(gd (abt (a1.1+a4.2.1))<|some (a1.1+a4.2.1,a4.2.2,a0,a2)))))) (fun q=>some q) a8)
def ajc(fu:Nat)(a7:(Str×Int)):Option (PQ×Int×UInt8×(Str×Int)):=
 ((afq fu a7).bind fun(y4:(Str×(Str×Int)))=>((aeb fu y4.1).bind fun(a2:Str)=>(if a2=([]:Str)then some ((([]:Str),([]:Str),false),y4.2.2,(5:UInt8),y4.2)else((acs fu y4.2).bind fun(a3:(Str×Int))=>((aag fu a3 (61:UInt8)).bind fun(a8:Bool)=>(bif (!a8)then some ((a2,([]:Str),false),(0:Int),(0:UInt8),a3)else(gd (abt (a3.2+(1:Int)))<|((acs fu (a3.1,a3.2+(1:Int))).bind fun(a0:(Str×Int))=>((aag fu a0 (34:UInt8)).bind fun(a9:Bool)=>(bif a9 then((amg fu a0.1 a0.2).bind fun(a4:(Str×Int×UInt8))=>(if a4.2.2=(0:UInt8)then some ((a2,a4.1,true),(0:Int),(0:UInt8),(a0.1,a4.2.1))else some ((([]:Str),([]:Str),false),a4.2.1,a4.2.2,a0)))else((aag fu a0 (91:UInt8)).bind fun(b0:Bool)=>(bif b0 then((aav fu a0.1 a0.2 ([93]:Str)).bind fun(a1:Int)=>(gd (abt (a1+(1:Int)))<|(gd (0≤a0.2∧a0.2≤(min (a1+(1:Int)) (a0.1.length:Int))∧(min (a1+(1:Int)) (a0.1.length:Int))≤(a0.1.length:Int))<|((agr fu (sub a0.1 a0.2 (min (a1+(1:Int)) (a0.1.length:Int)))).bind fun(a6:(Str×Bool))=>(bif (!a6.2)then some ((([]:Str),([]:Str),false),a0.2,(5:UInt8),a0)else(gd (abt (a1+(1:Int)))<|some ((a2,a6.1,true),(0:Int),(0:UInt8),(a0.1,a1+(1:Int)))))))))else((afq fu a0).bind fun(a5:(Str×(Str×Int)))=>(if a5.1=([]:Str)then some ((([]:Str),([]:Str),false),a5.2.2,(5:UInt8),a5.2)else some ((a2,a5.1,true),(0:Int),(0:UInt8),a5.2)))))))))))))))
def alc(fu:Nat)(a5:LQ→Str→Int→Option (LQ×Int×UInt8))(a2:LQ)(a6:Str)(a7:Int):Option (LQ×Int×UInt8):=
 ((acs fu (a6,a7)).bind fun(a1:(Str×Int))=>((adx fu a1).bind fun(a8:Bool)=>(bif a8 then some (a2,(0:Int),(0:UInt8))else((aag fu a1 (59:UInt8)).bind fun(a9:Bool)=>(bif (!a9)then some (([]:LQ),a1.2,(5:UInt8))else(gd (abt (a1.2+(1:Int)))<|((acs fu (a1.1,a1.2+(1:Int))).bind fun(a4:(Str×Int))=>((ajc fu a4).bind fun(a0:(PQ×Int×UInt8×(Str×Int)))=>(((if a0.2.2.1=(0:UInt8)then((ans fu a2 a0.1.1).bind fun(b0:UInt8)=>some (a4.2,b0))else some (a0.2.1,a0.2.2.1))).bind fun(a3:(Int×UInt8))=>(if a3.2=(0:UInt8)then(gd ((a2.length+([a0.1]:LQ).length)*40≤140737488355328)<|(a5 (a2++([a0.1]:LQ)) a0.2.2.2.1 a0.2.2.2.2))else some (([]:LQ),a3.1,a3.2)))))))))))
def aly(fu:Nat):Nat→LQ→Str→Int→Option (LQ×Int×UInt8):=fun k_ a0 a1 a2=>loopF (fun(g:(LQ×Str×Int)→Option (LQ×Int×UInt8)) v=>alc fu (fun a0 a1 a2=>g (a0,a1,a2)) v.1 v.2.1 v.2.2) k_ (a0,a1,a2)
theorem arw{fu:Nat}{k_:Nat}{a0:LQ}{a1:Str}{a2:Int}:aly fu (k_+1) a0 a1 a2=alc fu (aly fu k_) a0 a1 a2:=rfl
def ahj(fu:Nat)(s_0:Str):Option (LQ×Int×UInt8):=
 (aly fu fu ([]:LQ) s_0 (0:Int))
def akg(fu:Nat)(s_0:Str):Option (AQ×Int×UInt8):=
 (if(1024:Int)<(s_0.length:Int)then some ((([]:Str),(([]:Str),([]:Str),([]:Str),(0:Int),([]:LQ),([]:LQ)),([]:LQ)),(1024:Int),(4:UInt8))else((acs fu (s_0,(0:Int))).bind fun(a5:(Str×Int))=>((((aag fu a5 (34:UInt8)).bind fun(a8:Bool)=>(bif a8 then((ahc fu a5 (([]:Str),(([]:Str),([]:Str),([]:Str),(0:Int),([]:LQ),([]:LQ)),([]:LQ))).bind fun(a2:(Int×UInt8×(Str×Int)×AQ))=>some (a2.1,a2.2.1,a2.2.2.1.1,a2.2.2.1.2,a2.2.2.2.1,a2.2.2.2.2.1.1,a2.2.2.2.2.1.2.1,a2.2.2.2.2.1.2.2.1,a2.2.2.2.2.1.2.2.2.1,a2.2.2.2.2.1.2.2.2.2.1,a2.2.2.2.2.1.2.2.2.2.2,a2.2.2.2.2.2))else(gd (s_0.length≤1000000000)<|(bif (Lib.contains s_0 ([60]:Str))then((aeh fu a5 (([]:Str),(([]:Str),([]:Str),([]:Str),(0:Int),([]:LQ),([]:LQ)),([]:LQ))).bind fun(a3:(Int×UInt8×(Str×Int)×AQ))=>some (a3.1,a3.2.1,a3.2.2.1.1,a3.2.2.1.2,a3.2.2.2.1,a3.2.2.2.2.1.1,a3.2.2.2.2.1.2.1,a3.2.2.2.2.1.2.2.1,a3.2.2.2.2.1.2.2.2.1,a3.2.2.2.2.1.2.2.2.2.1,a3.2.2.2.2.1.2.2.2.2.2,a3.2.2.2.2.2))else some ((0:Int),(0:UInt8),a5.1,a5.2,([]:Str),([]:Str),([]:Str),([]:Str),(0:Int),([]:LQ),([]:LQ),([]:LQ))))))).bind fun(a0:(Int×UInt8×Str×Int×Str×Str×Str×Str×Int×LQ×LQ×LQ))=>(((if a0.2.1=(0:UInt8)then((ahb fu (a0.2.2.1,a0.2.2.2.1) (a0.2.2.2.2.1,(a0.2.2.2.2.2.1,a0.2.2.2.2.2.2.1,a0.2.2.2.2.2.2.2.1,a0.2.2.2.2.2.2.2.2.1,a0.2.2.2.2.2.2.2.2.2.1,a0.2.2.2.2.2.2.2.2.2.2.1),a0.2.2.2.2.2.2.2.2.2.2.2)).bind fun(a4:(Int×UInt8×(Str×Int)×AQ))=>some (a4.1,a4.2.1,a4.2.2.1.1,a4.2.2.1.2,a4.2.2.2.1,a4.2.2.2.2.1.1,a4.2.2.2.2.1.2.1,a4.2.2.2.2.1.2.2.1,a4.2.2.2.2.1.2.2.2.1,a4.2.2.2.2.1.2.2.2.2.1,a4.2.2.2.2.1.2.2.2.2.2,a4.2.2.2.2.2))else some (a0.1,a0.2.1,a0.2.2.1,a0.2.2.2.1,a0.2.2.2.2.1,a0.2.2.2.2.2.1,a0.2.2.2.2.2.2.1,a0.2.2.2.2.2.2.2.1,a0.2.2.2.2.2.2.2.2.1,a0.2.2.2.2.2.2.2.2.2.1,a0.2.2.2.2.2.2.2.2.2.2.1,a0.2.2.2.2.2.2.2.2.2.2.2))).bind fun(a1:(Int×UInt8×Str×Int×Str×Str×Str×Str×Int×LQ×LQ×LQ))=>(((if a1.2.1=(0:UInt8)then(gd (0≤a1.2.2.2.1∧a1.2.2.2.1≤(s_0.length:Int))<|((ahj fu (zaC (zan a1.2.2.2.1) s_0)).bind fun(a6:(LQ×Int×UInt8))=>(gd (abt (a6.2.1+a1.2.2.2.1))<|some (a6.2.1+a1.2.2.2.1,a6.2.2,a6.1))))else some (a1.1,a1.2.1,a1.2.2.2.2.2.2.2.2.2.2.2))).bind fun(a7:(Int×UInt8×LQ))=>(if a7.2.1=(0:UInt8)then some ((a1.2.2.2.2.1,(a1.2.2.2.2.2.1,a1.2.2.2.2.2.2.1,a1.2.2.2.2.2.2.2.1,a1.2.2.2.2.2.2.2.2.1,a1.2.2.2.2.2.2.2.2.2.1,a1.2.2.2.2.2.2.2.2.2.2.1),a7.2.2),(0:Int),(0:UInt8))else some ((([]:Str),(([]:Str),([]:Str),([]:Str),(0:Int),([]:LQ),([]:LQ)),([]:LQ)),a7.1,a7.2.1)))))))
def apy(fu:Nat)(a0:Str):Option (AQ×UInt8):=
 ((afx fu a0).bind fun(y4:Str)=>((akg fu y4).bind fun(y9:(AQ×Int×UInt8))=>some (y9.1,y9.2.2)))
def aod(fu:Nat)(s_0:Str)(a3:(List UInt8)→Int→Option ((List UInt8)⊕(Str×UInt8)))(a1:List UInt8)(a0:Int):Option ((List UInt8)⊕(Str×UInt8)):=
 (if a0<(s_0.length:Int)then(gd (0≤a0∧a0<(s_0.length:Int))<|((aip fu (at_ s_0 a0)).bind fun(a4:Bool)=>(bif a4 then some (.inr (([]:Str),(5:UInt8)))else(((((if(at_ s_0 a0)=(34:UInt8)then some true else some (decide ((at_ s_0 a0)=(92:UInt8))))).bind fun(a5:Bool)=>(bif a5 then(gd ((a1.length+([(92:UInt8)]:List UInt8).length)*1≤140737488355328)<|some (a1++([(92:UInt8)]:List UInt8)))else some a1))).bind fun(a2:List UInt8)=>(gd (0≤a0∧a0<(s_0.length:Int))<|(gd ((a2.length+([at_ s_0 a0]:List UInt8).length)*1≤140737488355328)<|(gd (abt (a0+(1:Int)))<|(a3 (a2++([at_ s_0 a0]:List UInt8)) (a0+(1:Int))))))))))else some (.inl a1))
def ajo(fu:Nat)(s_0:Str):Nat→(List UInt8)→Int→Option ((List UInt8)⊕(Str×UInt8)):=fun k_ a0 a1=>loopF (fun(g:((List UInt8)×Int)→Option ((List UInt8)⊕(Str×UInt8))) v=>aod fu s_0 (fun a0 a1=>g (a0,a1)) v.1 v.2) k_ (a0,a1)
theorem auv{fu:Nat}{s_0:Str}{k_:Nat}{a0:List UInt8}{a1:Int}:ajo fu s_0 (k_+1) a0 a1=aod fu s_0 (ajo fu s_0 k_) a0 a1:=rfl
def aow(fu:Nat)(s_0:Str):Option (Str×UInt8):=
 (gd (abt ((s_0.length:Int)+(2:Int)))<|(@gd _ (0≤((s_0.length:Int)+(2:Int))∧(1:Int)*((s_0.length:Int)+(2:Int))≤281474976710656) (dMk 1 ((s_0.length:Int)+(2:Int)))<|(gd ((([]:List UInt8).length+([(34:UInt8)]:List UInt8).length)*1≤140737488355328)<|(((ajo fu s_0 fu (([]:List UInt8)++([(34:UInt8)]:List UInt8)) (0:Int))).bind fun(a1:((List UInt8)⊕(Str×UInt8)))=>zaO (fun(a0:List UInt8)=>(gd ((a0.length+([(34:UInt8)]:List UInt8).length)*1≤140737488355328)<|some (a0++([(34:UInt8)]:List UInt8),(0:UInt8)))) (fun q=>some q) a1))))
open Go.Lib renaming hasPrefix → zba, itoa → zat, trimPrefix → zaw
def ait(fu:Nat)(s_0:Str)(a1:Int→Option (Unit⊕Bool))(a0:Int):Option (Unit⊕Bool):=
 (if a0<(s_0.length:Int)then(gd (0≤a0∧a0<(s_0.length:Int))<|((apc fu (at_ s_0 a0)).bind fun(a2:Bool)=>(bif a2 then some (.inr false)else(gd (abt (a0+(1:Int)))<|(a1 (a0+(1:Int)))))))else some (.inl ()))
def ani(fu:Nat)(s_0:Str):Nat→Int→Option (Unit⊕Bool):=fun k_ a0=>loopF (fun(g:Int→Option (Unit⊕Bool)) v=>ait fu s_0 (fun a0=>g a0) v) k_ a0
theorem aoq{fu:Nat}{s_0:Str}{k_:Nat}{a0:Int}:ani fu s_0 (k_+1) a0=ait fu s_0 (ani fu s_0 k_) a0:=rfl
def amo(fu:Nat)(s_0:Str):Option Bool:=
 (((ani fu s_0 fu (0:Int))).bind fun(a0:(Unit⊕Bool))=>zaO (fun(a1:Unit)=>some true) (fun q=>some q) a0)
def aig(fu:Nat)(s_0:Str)(a1:Int→Option (Unit⊕Bool))(a0:Int):Option (Unit⊕Bool):=
 (if a0<((zaw s_0 ([43]:Str)).length:Int)then(gd (0≤a0∧a0<((zaw s_0 ([43]:Str)).length:Int))<|((((aem fu (at_ (zaw s_0 ([43]:Str)) a0)).bind fun(a2:Bool)=>(bif (!a2)then(bif (zba s_0 ([43]:Str))then some true else(if(at_ (zaw s_0 ([43]:Str)) a0)=(42:UInt8)then some false else some (!decide ((at_ (zaw s_0 ([43]:Str)) a0)=(35:UInt8)))))else some false))).bind fun(a3:Bool)=>(bif a3 then some (.inr false)else(gd (abt (a0+(1:Int)))<|(a1 (a0+(1:Int)))))))else some (.inl ()))
def alv(fu:Nat)(s_0:Str):Nat→Int→Option (Unit⊕Bool):=fun k_ a0=>loopF (fun(g:Int→Option (Unit⊕Bool)) v=>aig fu s_0 (fun a0=>g a0) v) k_ a0
theorem anw{fu:Nat}{s_0:Str}{k_:Nat}{a0:Int}:alv fu s_0 (k_+1) a0=aig fu s_0 (alv fu s_0 k_) a0:=rfl
def aqa(fu:Nat)(s_0:Str):Option Bool:=
 (((if(zaw s_0 ([43]:Str))=([]:Str)then some true else some (decide ((30:Int)<((zaw s_0 ([43]:Str)).length:Int))))).bind fun(v8:Bool)=>(bif v8 then some false else(((alv fu s_0 fu (0:Int))).bind fun(a0:(Unit⊕Bool))=>zaO (fun(a1:Unit)=>some true) (fun q=>some q) a0)))
def aky(fu:Nat)(a1:LQ)(a4:Int)(a5:LQ→Int→Option (LQ⊕(LQ×Bool)))(a3:LQ)(a0:Int):Option (LQ⊕(LQ×Bool)):=
 (if a0<(a1.length:Int)then(gd (0≤a0∧a0<(a1.length:Int))<|(gd (0≤a0∧a0<(a1.length:Int))<|((aeb fu ((el a1 a0).1)).bind fun(a2:Str)=>(((if a2=([]:Str)then some true else((amo fu a2).bind fun(a6:Bool)=>(bif (!a6)then some true else((amo fu ((el a1 a0).2.1)).bind fun(a7:Bool)=>(bif (!a7)then some true else((amn fu a3 a2).bind fun(a8:Bool)=>some a8))))))).bind fun(a9:Bool)=>(bif a9 then some (.inr (([]:LQ),false))else(((if a4=(2:Int)then(bif (!((el a1 a0).2.2))then some true else(if a4=(1:Int)then some (!(((el a1 a0).2.2)==(!decide (((el a1 a0).2.1)=([]:Str)))))else some false))else(if a4=(1:Int)then some (!(((el a1 a0).2.2)==(!decide (((el a1 a0).2.1)=([]:Str)))))else some false))).bind fun(b0:Bool)=>(bif b0 then some (.inr (([]:LQ),false))else(gd ((a3.length+([(a2,(el a1 a0).2.1,((el a1 a0).2.2))]:LQ).length)*40≤140737488355328)<|(gd (abt (a0+(1:Int)))<|(a5 (a3++([(a2,(el a1 a0).2.1,((el a1 a0).2.2))]:LQ)) (a0+(1:Int))))))))))))else some (.inl a3))
def ais(fu:Nat)(a2:LQ)(a3:Int):Nat→LQ→Int→Option (LQ⊕(LQ×Bool)):=fun k_ a0 a1=>loopF (fun(g:(LQ×Int)→Option (LQ⊕(LQ×Bool))) v=>aky fu a2 a3 (fun a0 a1=>g (a0,a1)) v.1 v.2) k_ (a0,a1)
theorem arv{fu:Nat}{a0:LQ}{a1:Int}{k_:Nat}{a2:LQ}{a3:Int}:ais fu a0 a1 (k_+1) a2 a3=aky fu a0 a1 (ais fu a0 a1 k_) a2 a3:=rfl
def ano(fu:Nat)(a0:LQ)(a1:Int):Option (LQ×Bool):=
 (if(16:Int)<(a0.length:Int)then some (([]:LQ),false)else(((ais fu a0 a1 fu ([]:LQ) (0:Int))).bind fun(a2:(LQ⊕(LQ×Bool)))=>zaO (fun(a3:LQ)=>((afy fu a3).bind fun(a4:LQ)=>some (a4,true))) (fun q=>some q) a2))
def aqb(fu:Nat)(a0:UQ):Option (UQ×UInt8):=
 ((aeb fu a0.1).bind fun(y7:Str)=>(((((if y7=([115,105,112]:Str)then some (decide (y7=([115,105,112]:Str)))else some (decide (y7=([115,105,112,115]:Str))))).bind fun(a5:Bool)=>(bif a5 then((agr fu a0.2.2.1).bind fun(a1:(Str×Bool))=>(bif a1.2 then(if(0:Int)≤a0.2.2.2.1 then(if a0.2.2.2.1≤(65535:Int)then((amo fu a0.2.1).bind fun(a6:Bool)=>some (a6,a1.1))else some (false,a1.1))else some (false,a1.1))else some (false,a1.1)))else(if y7=([116,101,108]:Str)then(if a0.2.2.1=([]:Str)then(if a0.2.2.2.1=(0:Int)then(if(a0.2.2.2.2.2.length:Int)=(0:Int)then((aqa fu a0.2.1).bind fun(a7:Bool)=>some (a7,([]:Str)))else some (false,([]:Str)))else some (false,([]:Str)))else some (false,([]:Str)))else some (false,([]:Str)))))).bind fun(a2:(Bool×Str))=>((ano fu a0.2.2.2.2.1 (1:Int)).bind fun(a3:(LQ×Bool))=>((ano fu a0.2.2.2.2.2 (2:Int)).bind fun(a4:(LQ×Bool))=>(((bif (!a2.1)then some true else(bif (!a3.2)then some true else some (!a4.2)))).bind fun(a8:Bool)=>(bif a8 then some ((([]:Str),([]:Str),([]:Str),(0:Int),([]:LQ),([]:LQ)),(2:UInt8))else some ((y7,a0.2.1,a2.2,a0.2.2.2.1,a3.1,a4.1),(0:UInt8))))))))
def aad(fu:Nat)(a1:(Unit×(List UInt8)))(a0:Str):Option (Int×Unit×(Unit×(List UInt8))):=
 (gd ((a1.2.length+a0.length)*1≤140737488355328)<|some ((a0.length:Int),(),((),a1.2++a0)))
def ald(fu:Nat)(s_0:Str)(a3:Int)(a2:(List UInt8)→Int→Option (List UInt8))(a1:List UInt8)(a0:Int):Option (List UInt8):=
 (if a0<(s_0.length:Int)then(gd (0≤a0∧a0<(s_0.length:Int))<|((amm fu (at_ s_0 a0) a3).bind fun(a4:Bool)=>(bif a4 then(gd (0≤a0∧a0<(s_0.length:Int))<|(gd ((a1.length+([at_ s_0 a0]:List UInt8).length)*1≤140737488355328)<|(gd (abt (a0+(1:Int)))<|(a2 (a1++([at_ s_0 a0]:List UInt8)) (a0+(1:Int))))))else(gd (0≤a0∧a0<(s_0.length:Int))<|(gd (0≤((shr8 (at_ s_0 a0) (4:Int)).toNat:Int)∧((shr8 (at_ s_0 a0) (4:Int)).toNat:Int)<(([48,49,50,51,52,53,54,55,56,57,65,66,67,68,69,70]:Str).length:Int))<|(gd (0≤a0∧a0<(s_0.length:Int))<|(gd (0≤(((at_ s_0 a0)&&&(15:UInt8)).toNat:Int)∧(((at_ s_0 a0)&&&(15:UInt8)).toNat:Int)<(([48,49,50,51,52,53,54,55,56,57,65,66,67,68,69,70]:Str).length:Int))<|(gd ((a1.length+([(37:UInt8),at_ ([48,49,50,51,52,53,54,55,56,57,65,66,67,68,69,70]:Str) ((shr8 (at_ s_0 a0) (4:Int)).toNat:Int),at_ ([48,49,50,51,52,53,54,55,56,57,65,66,67,68,69,70]:Str) (((at_ s_0 a0)&&&(15:UInt8)).toNat:Int)]:List UInt8).length)*1≤140737488355328)<|(gd (abt (a0+(1:Int)))<|(a2 (a1++([(37:UInt8),at_ ([48,49,50,51,52,53,54,55,56,57,65,66,67,68,69,70]:Str) ((shr8 (at_ s_0 a0) (4:Int)).toNat:Int),at_ ([48,49,50,51,52,53,54,55,56,57,65,66,67,68,69,70]:Str) (((at_ s_0 a0)&&&(15:UInt8)).toNat:Int)]:List UInt8)) (a0+(1:Int))))))))))))else some a1)
def aiu(fu:Nat)(s_0:Str)(a2:Int):Nat→(List UInt8)→Int→Option (List UInt8):=fun k_ a0 a1=>loopF (fun(g:((List UInt8)×Int)→Option (List UInt8)) v=>ald fu s_0 a2 (fun a0 a1=>g (a0,a1)) v.1 v.2) k_ (a0,a1)
theorem arx{fu:Nat}{s_0:Str}{a0:Int}{k_:Nat}{a1:List UInt8}{a2:Int}:aiu fu s_0 a0 (k_+1) a1 a2=ald fu s_0 a0 (aiu fu s_0 a0 k_) a1 a2:=rfl
def aen(fu:Nat)(s_0:Str)(a0:Int):Option Str:=
 (@gd _ (0≤(s_0.length:Int)∧(1:Int)*(s_0.length:Int)≤281474976710656) (dMk 1 (s_0.length:Int))<|(((aiu fu s_0 a0 fu ([]:List UInt8) (0:Int))).bind fun(a1:List UInt8)=>some a1))
def afe(fu:Nat)(a0:(Unit×(List UInt8)))(a1:UInt8):Option (Unit×(Unit×(List UInt8))):=
 (gd ((a0.2.length+([a1]:List UInt8).length)*1≤140737488355328)<|some ((),((),a0.2++([a1]:List UInt8))))
def alx(fu:Nat)(y4:(UQ×UInt8))(a1:Int→Unit→(List UInt8)→Option (Unit×(List UInt8)))(a0:Int)(a7:Unit)(a2:List UInt8):Option (Unit×(List UInt8)):=
 (if a0<(y4.1.2.2.2.2.1.length:Int)then(gd (0≤a0∧a0<(y4.1.2.2.2.2.1.length:Int))<|(gd (0≤a0∧a0<(y4.1.2.2.2.2.1.length:Int))<|((aen fu ((el y4.1.2.2.2.2.1 a0).1) (1:Int)).bind fun(a3:Str)=>(gd (([59]:Str).length+a3.length≤9223372036854775807)<|((aad fu ((),a2) (([59]:Str)++a3)).bind fun(a4:(Int×Unit×(Unit×(List UInt8))))=>(bif ((el y4.1.2.2.2.2.1 a0).2.2)then((aen fu ((el y4.1.2.2.2.2.1 a0).2.1) (1:Int)).bind fun(a5:Str)=>(gd (([61]:Str).length+a5.length≤9223372036854775807)<|((aad fu ((),a4.2.2.2) (([61]:Str)++a5)).bind fun(a6:(Int×Unit×(Unit×(List UInt8))))=>(gd (abt (a0+(1:Int)))<|(a1 (a0+(1:Int)) () a6.2.2.2)))))else(gd (abt (a0+(1:Int)))<|(a1 (a0+(1:Int)) () a4.2.2.2))))))))else some ((),a2))
def ahs(fu:Nat)(y4:(UQ×UInt8)):Nat→Int→Unit→(List UInt8)→Option (Unit×(List UInt8)):=fun k_ a0 a1 a2=>loopF (fun(g:(Int×Unit×(List UInt8))→Option (Unit×(List UInt8))) v=>alx fu y4 (fun a0 a1 a2=>g (a0,a1,a2)) v.1 v.2.1 v.2.2) k_ (a0,a1,a2)
theorem atc{fu:Nat}{y4:(UQ×UInt8)}{k_:Nat}{a0:Int}{a1:Unit}{a2:List UInt8}:ahs fu y4 (k_+1) a0 a1 a2=alx fu y4 (ahs fu y4 k_) a0 a1 a2:=rfl
def alw(fu:Nat)(y4:(UQ×UInt8))(a4:Int→Unit→(List UInt8)→Option (Unit×(List UInt8)))(a0:Int)(a9:Unit)(a1:List UInt8):Option (Unit×(List UInt8)):=
 (if a0<(y4.1.2.2.2.2.2.length:Int)then(gd (0≤a0∧a0<(y4.1.2.2.2.2.2.length:Int))<|(gd (0≤a0∧a0<(y4.1.2.2.2.2.2.length:Int))<|(((if a0=(0:Int)then((afe fu ((),a1) (63:UInt8)).bind fun(a5:(Unit×(Unit×(List UInt8))))=>some ((),a5.2.2))else((afe fu ((),a1) (38:UInt8)).bind fun(a6:(Unit×(Unit×(List UInt8))))=>some ((),a6.2.2)))).bind fun(a7:(Unit×(List UInt8)))=>((aen fu ((el y4.1.2.2.2.2.2 a0).1) (2:Int)).bind fun(a2:Str)=>(gd (a2.length+([61]:Str).length≤9223372036854775807)<|((aen fu ((el y4.1.2.2.2.2.2 a0).2.1) (2:Int)).bind fun(a3:Str)=>(gd ((a2++([61]:Str)).length+a3.length≤9223372036854775807)<|((aad fu ((),a7.2) ((a2++([61]:Str))++a3)).bind fun(a8:(Int×Unit×(Unit×(List UInt8))))=>(gd (abt (a0+(1:Int)))<|(a4 (a0+(1:Int)) () a8.2.2.2))))))))))else some ((),a1))
def agf(fu:Nat)(y4:(UQ×UInt8)):Nat→Int→Unit→(List UInt8)→Option (Unit×(List UInt8)):=fun k_ a0 a1 a2=>loopF (fun(g:(Int×Unit×(List UInt8))→Option (Unit×(List UInt8))) v=>alw fu y4 (fun a0 a1 a2=>g (a0,a1,a2)) v.1 v.2.1 v.2.2) k_ (a0,a1,a2)
theorem atb{fu:Nat}{y4:(UQ×UInt8)}{k_:Nat}{a0:Int}{a1:Unit}{a2:List UInt8}:agf fu y4 (k_+1) a0 a1 a2=alw fu y4 (agf fu y4 k_) a0 a1 a2:=rfl
def arp(fu:Nat)(a4:UQ):Option (Str×UInt8):=
 ((aqb fu a4).bind fun(y4:(UQ×UInt8))=>(if y4.2=(0:UInt8)then(gd (y4.1.1.length+([58]:Str).length≤9223372036854775807)<|((aad fu ((),([]:List UInt8)) (y4.1.1++([58]:Str))).bind fun(a0:(Int×Unit×(Unit×(List UInt8))))=>(((if y4.1.1=([116,101,108]:Str)then((aad fu ((),a0.2.2.2) y4.1.2.1).bind fun(a5:(Int×Unit×(Unit×(List UInt8))))=>some ((),a5.2.2.2))else(if y4.1.2.1=([]:Str)then some ((),a0.2.2.2)else((aen fu y4.1.2.1 (0:Int)).bind fun(a1:Str)=>(gd (a1.length+([64]:Str).length≤9223372036854775807)<|((aad fu ((),a0.2.2.2) (a1++([64]:Str))).bind fun(a6:(Int×Unit×(Unit×(List UInt8))))=>some ((),a6.2.2.2))))))).bind fun(a7:(Unit×(List UInt8)))=>((aad fu ((),a7.2) y4.1.2.2.1).bind fun(a2:(Int×Unit×(Unit×(List UInt8))))=>(((if y4.1.2.2.2.1=(0:Int)then some ((),a2.2.2.2)else(gd (abt y4.1.2.2.2.1)<|(gd (([58]:Str).length+(zat y4.1.2.2.2.1).length≤9223372036854775807)<|((aad fu ((),a2.2.2.2) (([58]:Str)++(zat y4.1.2.2.2.1))).bind fun(a8:(Int×Unit×(Unit×(List UInt8))))=>some ((),a8.2.2.2)))))).bind fun(a9:(Unit×(List UInt8)))=>(((ahs fu y4 fu (0:Int) () a9.2)).bind fun(b0:(Unit×(List UInt8)))=>(((agf fu y4 fu (0:Int) () b0.2)).bind fun(a3:(Unit×(List UInt8)))=>(gd (a3.2.length≤140737488355328)<|some (a3.2,(0:UInt8))))))))))else some (([]:Str),y4.2)))
open Go.Lib renaming indexAny → zbf
open List renaming drop → zaC, set → zaJ, take → zbt
def ahn(fu:Nat)(a1:LQ)(a2:Int→Unit→(List UInt8)→Option ((Unit×(List UInt8))⊕(Str×UInt8)))(a0:Int)(b6:Unit)(a3:List UInt8):Option ((Unit×(List UInt8))⊕(Str×UInt8)):=
 (if a0<(a1.length:Int)then(gd (0≤a0∧a0<(a1.length:Int))<|(gd (0≤a0∧a0<(a1.length:Int))<|((((agy fu ((el a1 a0).1)).bind fun(a8:Bool)=>(bif (!a8)then some true else((aeb fu ((el a1 a0).1)).bind fun(a9:Str)=>(if((el a1 a0).1)=a9 then(gd (0≤a0∧a0≤(a1.length:Int))<|((amn fu (zbt (zan a0) a1) ((el a1 a0).1)).bind fun(b0:Bool)=>some b0))else some true))))).bind fun(b1:Bool)=>(bif b1 then some (.inr (([]:Str),(2:UInt8)))else(gd (([59]:Str).length+((el a1 a0).1).length≤9223372036854775807)<|((aad fu ((),a3) (([59]:Str)++((el a1 a0).1))).bind fun(a4:(Int×Unit×(Unit×(List UInt8))))=>(bif (!((el a1 a0).2.2))then(if((el a1 a0).2.1)=([]:Str)then(gd (abt (a0+(1:Int)))<|(a2 (a0+(1:Int)) () a4.2.2.2))else some (.inr (([]:Str),(2:UInt8))))else((((agr fu ((el a1 a0).2.1)).bind fun(a5:(Str×Bool))=>((((agy fu ((el a1 a0).2.1)).bind fun(b2:Bool)=>(bif (!b2)then(bif a5.2 then(if a5.1=((el a1 a0).2.1)then(gd (0≤(0:Int)∧(0:Int)<(((el a1 a0).2.1).length:Int))<|some (!decide ((at_ ((el a1 a0).2.1) (0:Int))=(91:UInt8))))else some true)else some true)else some false))).bind fun(b3:Bool)=>(bif b3 then((aow fu ((el a1 a0).2.1)).bind fun(a6:(Str×UInt8))=>(if a6.2=(0:UInt8)then some (.inl a6.1)else some (.inr (([]:Str),(2:UInt8)))))else some (.inl ((el a1 a0).2.1)))))).bind fun(b4:(Str⊕(Str×UInt8)))=>zaO (fun(a7:Str)=>(gd (([61]:Str).length+a7.length≤9223372036854775807)<|((aad fu ((),a4.2.2.2) (([61]:Str)++a7)).bind fun(b5:(Int×Unit×(Unit×(List UInt8))))=>(gd (abt (a0+(1:Int)))<|(a2 (a0+(1:Int)) () b5.2.2.2))))) (fun q=>some (.inr q)) b4))))))))else some (.inl ((),a3)))
def aeq(fu:Nat)(a3:LQ):Nat→Int→Unit→(List UInt8)→Option ((Unit×(List UInt8))⊕(Str×UInt8)):=fun k_ a0 a1 a2=>loopF (fun(g:(Int×Unit×(List UInt8))→Option ((Unit×(List UInt8))⊕(Str×UInt8))) v=>ahn fu a3 (fun a0 a1 a2=>g (a0,a1,a2)) v.1 v.2.1 v.2.2) k_ (a0,a1,a2)
theorem aor{fu:Nat}{a0:LQ}{k_:Nat}{a1:Int}{a2:Unit}{a3:List UInt8}:aeq fu a0 (k_+1) a1 a2 a3=ahn fu a0 (aeq fu a0 k_) a1 a2 a3:=rfl
def abr(fu:Nat)(a0:LQ):Option (Str×UInt8):=
 (if(16:Int)<(a0.length:Int)then some (([]:Str),(2:UInt8))else(((aeq fu a0 fu (0:Int) () ([]:List UInt8))).bind fun(a2:((Unit×(List UInt8))⊕(Str×UInt8)))=>zaO (fun(a1:(Unit×(List UInt8)))=>(gd (a1.2.length≤140737488355328)<|some (a1.2,(0:UInt8)))) (fun q=>some q) a2))
def akf(fu:Nat)(a2:AQ):Option (Str×UInt8):=
 ((aow fu a2.1).bind fun(y4:(Str×UInt8))=>(if y4.2=(0:UInt8)then((arp fu a2.2.1).bind fun(a0:(Str×UInt8))=>(if a0.2=(0:UInt8)then((afy fu a2.2.2).bind fun(a3:LQ)=>((abr fu a3).bind fun(a1:(Str×UInt8))=>(if a1.2=(0:UInt8)then(if a2.1=([]:Str)then(gd (([60]:Str).length+a0.1.length≤9223372036854775807)<|(gd ((([60]:Str)++a0.1).length+([62]:Str).length≤9223372036854775807)<|(gd (((([60]:Str)++a0.1)++([62]:Str)).length+a1.1.length≤9223372036854775807)<|some (((([60]:Str)++a0.1)++([62]:Str))++a1.1,(0:UInt8)))))else(gd (y4.1.length+([32,60]:Str).length≤9223372036854775807)<|(gd ((y4.1++([32,60]:Str)).length+a0.1.length≤9223372036854775807)<|(gd (((y4.1++([32,60]:Str))++a0.1).length+([62]:Str).length≤9223372036854775807)<|(gd ((((y4.1++([32,60]:Str))++a0.1)++([62]:Str)).length+a1.1.length≤9223372036854775807)<|some ((((y4.1++([32,60]:Str))++a0.1)++([62]:Str))++a1.1,(0:UInt8)))))))else some (([]:Str),(2:UInt8)))))else some (([]:Str),(2:UInt8))))else some (([]:Str),(2:UInt8))))
def ado(fu:Nat)(s_0:Str)(a2:Str→Int→Option Str)(a1:Str)(a0:Int):Option Str:=
 (if a0<(s_0.length:Int)then(gd (0≤a0∧a0<(a1.length:Int))<|(gd (0≤a0∧a0<(a1.length:Int))<|((akw fu (at_ a1 a0)).bind fun(a3:UInt8)=>(gd (0≤a0∧a0<(a1.length:Int))<|(gd (0≤a0∧a0<(a1.length:Int))<|(gd (abt (a0+(1:Int)))<|(a2 (zaJ a1 (zan a0) a3) (a0+(1:Int)))))))))else some a1)
def ads(fu:Nat)(s_0:Str):Nat→Str→Int→Option Str:=fun k_ a0 a1=>loopF (fun(g:(Str×Int)→Option Str) v=>ado fu s_0 (fun a0 a1=>g (a0,a1)) v.1 v.2) k_ (a0,a1)
theorem ahw{fu:Nat}{s_0:Str}{k_:Nat}{a0:Str}{a1:Int}:ads fu s_0 (k_+1) a0 a1=ado fu s_0 (ads fu s_0 k_) a0 a1:=rfl
def acu(fu:Nat)(s_0:Str):Option Str:=
 (((ads fu s_0 fu s_0 (0:Int))).bind fun(a0:Str)=>some a0)
def apw(fu:Nat)(s_0:Str):Option PQ:=
 (gd (s_0.length≤1000000000)<|(((if(ate (·==(58:UInt8)) s_0)<(0:Int)then some true else(gd (0≤(ate (·==(58:UInt8)) s_0)∧(ate (·==(58:UInt8)) s_0)≤(s_0.length:Int))<|(gd ((zbt (zan (ate (·==(58:UInt8)) s_0)) s_0).length≤1000000000)<|(bif (Lib.contains (zbt (zan (ate (·==(58:UInt8)) s_0)) s_0) ([91]:Str))then(gd (0≤(ate (·==(58:UInt8)) s_0)∧(ate (·==(58:UInt8)) s_0)≤(s_0.length:Int))<|(gd ((zaC (zan (ate (·==(58:UInt8)) s_0)) s_0).length≤1000000000)<|some (Lib.contains (zaC (zan (ate (·==(58:UInt8)) s_0)) s_0) ([93]:Str))))else some false))))).bind fun(a0:Bool)=>(bif a0 then some (s_0,([]:Str),false)else(gd (0≤(ate (·==(58:UInt8)) s_0)∧(ate (·==(58:UInt8)) s_0)≤(s_0.length:Int))<|(gd (abt ((ate (·==(58:UInt8)) s_0)+(1:Int)))<|(gd (0≤((ate (·==(58:UInt8)) s_0)+(1:Int))∧((ate (·==(58:UInt8)) s_0)+(1:Int))≤(s_0.length:Int))<|some (zbt (zan (ate (·==(58:UInt8)) s_0)) s_0,zaC (zan ((ate (·==(58:UInt8)) s_0)+(1:Int))) s_0,true)))))))
def aoi(fu:Nat)(a1:LQ)(y1:Str)(a2:Int→Option (Unit⊕(Str×Bool)))(a0:Int):Option (Unit⊕(Str×Bool)):=
 (if a0<(a1.length:Int)then(gd (0≤a0∧a0<(a1.length:Int))<|(gd (0≤a0∧a0<(a1.length:Int))<|((aeb fu ((el a1 a0).1)).bind fun(a3:Str)=>(if a3=y1 then some (.inr ((el a1 a0).2.1,true))else(gd (abt (a0+(1:Int)))<|(a2 (a0+(1:Int))))))))else some (.inl ()))
def amr(fu:Nat)(a1:LQ)(y1:Str):Nat→Int→Option (Unit⊕(Str×Bool)):=fun k_ a0=>loopF (fun(g:Int→Option (Unit⊕(Str×Bool))) v=>aoi fu a1 y1 (fun a0=>g a0) v) k_ a0
theorem auy{fu:Nat}{a0:LQ}{y1:Str}{k_:Nat}{a1:Int}:amr fu a0 y1 (k_+1) a1=aoi fu a0 y1 (amr fu a0 y1 k_) a1:=rfl
def arq(fu:Nat)(a0:LQ)(a1:Str):Option (Str×Bool):=
 ((aeb fu a1).bind fun(y1:Str)=>(((amr fu a0 y1 fu (0:Int))).bind fun(a2:(Unit⊕(Str×Bool)))=>zaO (fun(a3:Unit)=>some (([]:Str),false)) (fun q=>some q) a2))
def asz(fu:Nat)(a8:Str):Option ((Str×Str×Int×Str×LQ)×UInt8):=
 ((afx fu a8).bind fun(y4:Str)=>(((if(y4.length:Int)<(8:Int)then some true else(gd (0≤(8:Int)∧(8:Int)≤(y4.length:Int))<|((acu fu (zbt (zan (8:Int)) y4)).bind fun(a9:Str)=>some (!decide (a9=([83,73,80,47,50,46,48,47]:Str))))))).bind fun(b0:Bool)=>(bif b0 then some ((([]:Str),([]:Str),(0:Int),([]:Str),([]:LQ)),(5:UInt8))else((afw fu y4 (8:Int)).bind fun(a1:Int)=>((alj fu y4 a1).bind fun(a0:Int)=>(((if a1=(8:Int)then some true else some (decide (a0=a1)))).bind fun(b1:Bool)=>(bif b1 then some ((([]:Str),([]:Str),(0:Int),([]:Str),([]:LQ)),(5:UInt8))else(gd (0≤(8:Int)∧(8:Int)≤a1∧a1≤(y4.length:Int))<|((acu fu (sub y4 (8:Int) a1)).bind fun(b2:Str)=>(gd (0≤a0∧a0≤(y4.length:Int))<|(((gd ((zaC (zan a0) y4).length≤1000000000∧([59,32,9]:Str).length≤1000∧([59,32,9]:Str).all (fun b=>decide (b.toNat<128))=true)<|(if(0:Int)≤(zbf (zaC (zan a0) y4) ([59,32,9]:Str))then(gd (0≤(zbf (zaC (zan a0) y4) ([59,32,9]:Str))∧(zbf (zaC (zan a0) y4) ([59,32,9]:Str))≤((zaC (zan a0) y4).length:Int))<|(gd (0≤(zbf (zaC (zan a0) y4) ([59,32,9]:Str))∧(zbf (zaC (zan a0) y4) ([59,32,9]:Str))≤((zaC (zan a0) y4).length:Int))<|some (zbt (zan (zbf (zaC (zan a0) y4) ([59,32,9]:Str))) (zaC (zan a0) y4),zaC (zan (zbf (zaC (zan a0) y4) ([59,32,9]:Str))) (zaC (zan a0) y4))))else some (zaC (zan a0) y4,([]:Str))))).bind fun(a5:(Str×Str))=>((apw fu a5.1).bind fun(a4:PQ)=>((agr fu a4.1).bind fun(a6:(Str×Bool))=>(bif (!a6.2)then some ((([]:Str),([]:Str),(0:Int),([]:Str),([]:LQ)),(5:UInt8))else(((bif a4.2.2 then((aje fu a4.2.1).bind fun(a2:(Int×UInt8))=>(((((if a2.2=(0:UInt8)then(if a2.1<(1:Int)then some true else some (decide ((65535:Int)<a2.1)))else some false)).bind fun(b3:Bool)=>(bif b3 then some (3:UInt8)else some a2.2))).bind fun(a7:UInt8)=>(if a7=(0:UInt8)then some (.inl a2.1)else some (.inr ((([]:Str),([]:Str),(0:Int),([]:Str),([]:LQ)),a7)))))else some (.inl (0:Int)))).bind fun(b4:(Int⊕((Str×Str×Int×Str×LQ)×UInt8)))=>zaO (fun(b5:Int)=>((ahj fu a5.2).bind fun(a3:(LQ×Int×UInt8))=>(if a3.2.2=(0:UInt8)then((arq fu a3.1 ([98,114,97,110,99,104]:Str)).bind fun(b6:(Str×Bool))=>some ((b2,a6.1,b5,b6.1,a3.1),(0:UInt8)))else some ((([]:Str),([]:Str),(0:Int),([]:Str),([]:LQ)),a3.2.2)))) (fun q=>some q) b4)))))))))))))))
def aib(fu:Nat)(s_0:LQ):Option LQ:=
 some s_0
def acp(fu:Nat)(a0:PQ)(a1:LQ):Option (Nat×LQ):=
 (gd ((a1.length+([a0]:LQ).length)*40≤140737488355328)<|some (0,a1++([a0]:LQ)))
def aam(fu:Nat)(a1:LQ)(a4:Int→LQ→Option (LQ×Nat))(a0:Int)(a3:LQ):Option (LQ×Nat):=
 (if a0<(a1.length:Int)then(gd (0≤a0∧a0<(a1.length:Int))<|(gd (0≤a0∧a0<(a1.length:Int))<|((acp fu ((el a1 a0).1,(el a1 a0).2.1,((el a1 a0).2.2)) a3).bind fun(a2:(Nat×LQ))=>(if a2.1=0 then(gd (abt (a0+(1:Int)))<|(a4 (a0+(1:Int)) a2.2))else some (a2.2,a2.1)))))else some (a3,0))
def aah(fu:Nat)(a2:LQ):Nat→Int→LQ→Option (LQ×Nat):=fun k_ a0 a1=>loopF (fun(g:(Int×LQ)→Option (LQ×Nat)) v=>aam fu a2 (fun a0 a1=>g (a0,a1)) v.1 v.2) k_ (a0,a1)
theorem abo{fu:Nat}{a0:LQ}{k_:Nat}{a1:Int}{a2:LQ}:aah fu a0 (k_+1) a1 a2=aam fu a0 (aah fu a0 k_) a1 a2:=rfl
def abd(fu:Nat)(a0:LQ)(a1:LQ):Option (LQ×Nat):=
 (aah fu a1 fu (0:Int) a0)
def aed(fu:Nat)(s_0:LQ)(a1:LQ):Option LQ:=
 ((abd fu s_0 a1).bind fun(a0:(LQ×Nat))=>(if a0.2=0 then some a0.1 else none))
def adi(fu:Nat)(a0:LQ):Option LQ:=
 ((aed fu ([]:LQ) a0).bind fun(y1:LQ)=>some y1)
def ahr(fu:Nat)(a0:PQ)(a1:PQ):Option Int:=
 ((air fu a0.1 a1.1).bind fun(y7:Int)=>some y7)
def aan(fu:Nat)(a2:Int)(a3:LQ→Int→Option LQ)(a1:LQ)(a0:Int):Option LQ:=
 (((if a2<a0 then(gd (0≤a0∧a0<(a1.length:Int))<|(gd (0≤a0∧a0<(a1.length:Int))<|(gd (abt (a0-(1:Int)))<|(gd (0≤(a0-(1:Int))∧(a0-(1:Int))<(a1.length:Int))<|(gd (0≤(a0-(1:Int))∧(a0-(1:Int))<(a1.length:Int))<|((ahr fu ((el a1 a0).1,(el a1 a0).2.1,((el a1 a0).2.2)) ((el a1 (a0-(1:Int))).1,(el a1 (a0-(1:Int))).2.1,((el a1 (a0-(1:Int))).2.2))).bind fun(a4:Int)=>some (decide (a4<(0:Int)))))))))else some false)).bind fun(a5:Bool)=>(bif a5 then(gd (abt (a0-(1:Int)))<|(gd (abt (a0-(1:Int)))<|(gd (0≤(a0-(1:Int))∧(a0-(1:Int))<(a1.length:Int))<|(gd (0≤(a0-(1:Int))∧(a0-(1:Int))<(a1.length:Int))<|(gd (0≤a0∧a0<(a1.length:Int))<|(gd (0≤a0∧a0<(a1.length:Int))<|(gd (0≤a0∧a0<(a1.length:Int))<|(gd (0≤a0∧a0<(a1.length:Int))<|(gd (0≤(a0-(1:Int))∧(a0-(1:Int))<((zaJ a1 (zan a0) ((el a1 (a0-(1:Int))).1,(el a1 (a0-(1:Int))).2.1,((el a1 (a0-(1:Int))).2.2))).length:Int))<|(gd (0≤(a0-(1:Int))∧(a0-(1:Int))<((zaJ a1 (zan a0) ((el a1 (a0-(1:Int))).1,(el a1 (a0-(1:Int))).2.1,((el a1 (a0-(1:Int))).2.2))).length:Int))<|(gd (abt (a0-(1:Int)))<|(a3 (zaJ (zaJ a1 (zan a0) ((el a1 (a0-(1:Int))).1,(el a1 (a0-(1:Int))).2.1,((el a1 (a0-(1:Int))).2.2))) (zan (a0-(1:Int))) ((el a1 a0).1,(el a1 a0).2.1,((el a1 a0).2.2))) (a0-(1:Int))))))))))))))else some a1))
def aba(fu:Nat)(a2:Int):Nat→LQ→Int→Option LQ:=fun k_ a0 a1=>loopF (fun(g:(LQ×Int)→Option LQ) v=>aan fu a2 (fun a0 a1=>g (a0,a1)) v.1 v.2) k_ (a0,a1)
theorem abk{fu:Nat}{a0:Int}{k_:Nat}{a1:LQ}{a2:Int}:aba fu a0 (k_+1) a1 a2=aan fu a0 (aba fu a0 k_) a1 a2:=rfl
def aaj(fu:Nat)(a2:Int)(a3:Int)(a4:LQ→Int→Option LQ)(a1:LQ)(a0:Int):Option LQ:=
 (if a0<a3 then(((aba fu a2 fu a1 a0)).bind fun(a5:LQ)=>(gd (abt (a0+(1:Int)))<|(a4 a5 (a0+(1:Int)))))else some a1)
def aak(fu:Nat)(a2:Int)(a3:Int):Nat→LQ→Int→Option LQ:=fun k_ a0 a1=>loopF (fun(g:(LQ×Int)→Option LQ) v=>aaj fu a2 a3 (fun a0 a1=>g (a0,a1)) v.1 v.2) k_ (a0,a1)
theorem aay{fu:Nat}{a0:Int}{a1:Int}{k_:Nat}{a2:LQ}{a3:Int}:aak fu a0 a1 (k_+1) a2 a3=aaj fu a0 a1 (aak fu a0 a1 k_) a2 a3:=rfl
def aal(fu:Nat)(a1:LQ)(a0:Int)(a2:Int):Option LQ:=
 (gd (abt (a0+(1:Int)))<|(aak fu a0 a2 fu a1 (a0+(1:Int))))
def abv(fu:Nat)(a3:Int)(a2:Int)(a4:Int)(a5:LQ→Int→Option LQ)(a1:LQ)(a0:Int):Option LQ:=
 (if a0<a4 then(gd (abt (a3+a0))<|(gd (abt (a2+a0))<|(gd (abt (a2+a0))<|(gd (0≤(a2+a0)∧(a2+a0)<(a1.length:Int))<|(gd (0≤(a2+a0)∧(a2+a0)<(a1.length:Int))<|(gd (abt (a3+a0))<|(gd (0≤(a3+a0)∧(a3+a0)<(a1.length:Int))<|(gd (0≤(a3+a0)∧(a3+a0)<(a1.length:Int))<|(gd (0≤(a3+a0)∧(a3+a0)<(a1.length:Int))<|(gd (0≤(a3+a0)∧(a3+a0)<(a1.length:Int))<|(gd (0≤(a2+a0)∧(a2+a0)<((zaJ a1 (zan (a3+a0)) ((el a1 (a2+a0)).1,(el a1 (a2+a0)).2.1,((el a1 (a2+a0)).2.2))).length:Int))<|(gd (0≤(a2+a0)∧(a2+a0)<((zaJ a1 (zan (a3+a0)) ((el a1 (a2+a0)).1,(el a1 (a2+a0)).2.1,((el a1 (a2+a0)).2.2))).length:Int))<|(gd (abt (a0+(1:Int)))<|(a5 (zaJ (zaJ a1 (zan (a3+a0)) ((el a1 (a2+a0)).1,(el a1 (a2+a0)).2.1,((el a1 (a2+a0)).2.2))) (zan (a2+a0)) ((el a1 (a3+a0)).1,(el a1 (a3+a0)).2.1,((el a1 (a3+a0)).2.2))) (a0+(1:Int))))))))))))))))else some a1)
def acd(fu:Nat)(a2:Int)(a3:Int)(a4:Int):Nat→LQ→Int→Option LQ:=fun k_ a0 a1=>loopF (fun(g:(LQ×Int)→Option LQ) v=>abv fu a2 a3 a4 (fun a0 a1=>g (a0,a1)) v.1 v.2) k_ (a0,a1)
theorem aet{fu:Nat}{a0:Int}{a1:Int}{a2:Int}{k_:Nat}{a3:LQ}{a4:Int}:acd fu a0 a1 a2 (k_+1) a3 a4=abv fu a0 a1 a2 (acd fu a0 a1 a2 k_) a3 a4:=rfl
def abc(fu:Nat)(a0:LQ)(a1:Int)(a2:Int)(a3:Int):Option LQ:=
 (acd fu a1 a2 a3 fu a0 (0:Int))
def adl(fu:Nat)(a2:Int)(a4:LQ→Int→Int→Option (LQ×Int))(a3:LQ)(a0:Int)(a1:Int):Option (LQ×Int):=
 (if a0=a1 then some (a3,a0)else(if a1<a0 then(gd (abt (a2-a0))<|((abc fu a3 (a2-a0) a2 a1).bind fun(a5:LQ)=>(gd (abt (a0-a1))<|(a4 a5 (a0-a1) a1))))else(gd (abt (a2-a0))<|(gd (abt (a2+a1))<|(gd (abt ((a2+a1)-a0))<|((abc fu a3 (a2-a0) ((a2+a1)-a0) a0).bind fun(a6:LQ)=>(gd (abt (a1-a0))<|(a4 a6 a0 (a1-a0)))))))))
def aco(fu:Nat)(a3:Int):Nat→LQ→Int→Int→Option (LQ×Int):=fun k_ a0 a1 a2=>loopF (fun(g:(LQ×Int×Int)→Option (LQ×Int)) v=>adl fu a3 (fun a0 a1 a2=>g (a0,a1,a2)) v.1 v.2.1 v.2.2) k_ (a0,a1,a2)
theorem akj{fu:Nat}{a0:Int}{k_:Nat}{a1:LQ}{a2:Int}{a3:Int}:aco fu a0 (k_+1) a1 a2 a3=adl fu a0 (aco fu a0 k_) a1 a2 a3:=rfl
def abu(fu:Nat)(a4:LQ)(a2:Int)(a0:Int)(a3:Int):Option LQ:=
 (gd (abt (a0-a2))<|(gd (abt (a3-a0))<|(((aco fu a0 fu a4 (a0-a2) (a3-a0))).bind fun(a1:(LQ×Int))=>(gd (abt (a0-a1.2))<|((abc fu a1.1 (a0-a1.2) a0 a1.2).bind fun(a5:LQ)=>some a5)))))
def acb(fu:Nat)(a2:LQ)(a3:Int)(a4:Int→Int→Option Int)(a0:Int)(a1:Int):Option Int:=
 (if a0<a1 then(gd (abt (a0+a1))<|(gd (0≤(zac .i64 ((zac .u64 (a0+a1))/2))∧(zac .i64 ((zac .u64 (a0+a1))/2))<(a2.length:Int))<|(gd (0≤(zac .i64 ((zac .u64 (a0+a1))/2))∧(zac .i64 ((zac .u64 (a0+a1))/2))<(a2.length:Int))<|(gd (0≤a3∧a3<(a2.length:Int))<|(gd (0≤a3∧a3<(a2.length:Int))<|((ahr fu ((el a2 (zac .i64 ((zac .u64 (a0+a1))/2))).1,(el a2 (zac .i64 ((zac .u64 (a0+a1))/2))).2.1,((el a2 (zac .i64 ((zac .u64 (a0+a1))/2))).2.2)) ((el a2 a3).1,(el a2 a3).2.1,((el a2 a3).2.2))).bind fun(a5:Int)=>(if a5<(0:Int)then(gd (abt ((zac .i64 ((zac .u64 (a0+a1))/2))+(1:Int)))<|(a4 ((zac .i64 ((zac .u64 (a0+a1))/2))+(1:Int)) a1))else(a4 a0 (zac .i64 ((zac .u64 (a0+a1))/2))))))))))else some a0)
def aci(fu:Nat)(a2:LQ)(a3:Int):Nat→Int→Int→Option Int:=fun k_ a0 a1=>loopF (fun(g:(Int×Int)→Option Int) v=>acb fu a2 a3 (fun a0 a1=>g (a0,a1)) v.1 v.2) k_ (a0,a1)
theorem afc{fu:Nat}{a0:LQ}{a1:Int}{k_:Nat}{a2:Int}{a3:Int}:aci fu a0 a1 (k_+1) a2 a3=acb fu a0 a1 (aci fu a0 a1 k_) a2 a3:=rfl
def aca(fu:Nat)(a2:Int)(a3:LQ→Int→Option LQ)(a1:LQ)(a0:Int):Option LQ:=
 (gd (abt (a2-(1:Int)))<|(if a0<(a2-(1:Int))then(gd (abt (a0+(1:Int)))<|(gd (abt (a0+(1:Int)))<|(gd (0≤(a0+(1:Int))∧(a0+(1:Int))<(a1.length:Int))<|(gd (0≤(a0+(1:Int))∧(a0+(1:Int))<(a1.length:Int))<|(gd (0≤a0∧a0<(a1.length:Int))<|(gd (0≤a0∧a0<(a1.length:Int))<|(gd (0≤a0∧a0<(a1.length:Int))<|(gd (0≤a0∧a0<(a1.length:Int))<|(gd (0≤(a0+(1:Int))∧(a0+(1:Int))<((zaJ a1 (zan a0) ((el a1 (a0+(1:Int))).1,(el a1 (a0+(1:Int))).2.1,((el a1 (a0+(1:Int))).2.2))).length:Int))<|(gd (0≤(a0+(1:Int))∧(a0+(1:Int))<((zaJ a1 (zan a0) ((el a1 (a0+(1:Int))).1,(el a1 (a0+(1:Int))).2.1,((el a1 (a0+(1:Int))).2.2))).length:Int))<|(gd (abt (a0+(1:Int)))<|(a3 (zaJ (zaJ a1 (zan a0) ((el a1 (a0+(1:Int))).1,(el a1 (a0+(1:Int))).2.1,((el a1 (a0+(1:Int))).2.2))) (zan (a0+(1:Int))) ((el a1 a0).1,(el a1 a0).2.1,((el a1 a0).2.2))) (a0+(1:Int))))))))))))))else some a1))
def ach(fu:Nat)(a2:Int):Nat→LQ→Int→Option LQ:=fun k_ a0 a1=>loopF (fun(g:(LQ×Int)→Option LQ) v=>aca fu a2 (fun a0 a1=>g (a0,a1)) v.1 v.2) k_ (a0,a1)
theorem afb{fu:Nat}{a0:Int}{k_:Nat}{a1:LQ}{a2:Int}:ach fu a0 (k_+1) a1 a2=aca fu a0 (ach fu a0 k_) a1 a2:=rfl
def abz(fu:Nat)(a2:LQ)(a3:Int)(a4:Int→Int→Option Int)(a0:Int)(a1:Int):Option Int:=
 (if a0<a1 then(gd (abt (a0+a1))<|(gd (0≤a3∧a3<(a2.length:Int))<|(gd (0≤a3∧a3<(a2.length:Int))<|(gd (0≤(zac .i64 ((zac .u64 (a0+a1))/2))∧(zac .i64 ((zac .u64 (a0+a1))/2))<(a2.length:Int))<|(gd (0≤(zac .i64 ((zac .u64 (a0+a1))/2))∧(zac .i64 ((zac .u64 (a0+a1))/2))<(a2.length:Int))<|((ahr fu ((el a2 a3).1,(el a2 a3).2.1,((el a2 a3).2.2)) ((el a2 (zac .i64 ((zac .u64 (a0+a1))/2))).1,(el a2 (zac .i64 ((zac .u64 (a0+a1))/2))).2.1,((el a2 (zac .i64 ((zac .u64 (a0+a1))/2))).2.2))).bind fun(a5:Int)=>(if a5<(0:Int)then(a4 a0 (zac .i64 ((zac .u64 (a0+a1))/2)))else(gd (abt ((zac .i64 ((zac .u64 (a0+a1))/2))+(1:Int)))<|(a4 ((zac .i64 ((zac .u64 (a0+a1))/2))+(1:Int)) a1)))))))))else some a0)
def acg(fu:Nat)(a2:LQ)(a3:Int):Nat→Int→Int→Option Int:=fun k_ a0 a1=>loopF (fun(g:(Int×Int)→Option Int) v=>abz fu a2 a3 (fun a0 a1=>g (a0,a1)) v.1 v.2) k_ (a0,a1)
theorem afa{fu:Nat}{a0:LQ}{a1:Int}{k_:Nat}{a2:Int}{a3:Int}:acg fu a0 a1 (k_+1) a2 a3=abz fu a0 a1 (acg fu a0 a1 k_) a2 a3:=rfl
def aby(fu:Nat)(a2:Int)(a3:LQ→Int→Option LQ)(a1:LQ)(a0:Int):Option LQ:=
 (if a2<a0 then(gd (abt (a0-(1:Int)))<|(gd (abt (a0-(1:Int)))<|(gd (0≤(a0-(1:Int))∧(a0-(1:Int))<(a1.length:Int))<|(gd (0≤(a0-(1:Int))∧(a0-(1:Int))<(a1.length:Int))<|(gd (0≤a0∧a0<(a1.length:Int))<|(gd (0≤a0∧a0<(a1.length:Int))<|(gd (0≤a0∧a0<(a1.length:Int))<|(gd (0≤a0∧a0<(a1.length:Int))<|(gd (0≤(a0-(1:Int))∧(a0-(1:Int))<((zaJ a1 (zan a0) ((el a1 (a0-(1:Int))).1,(el a1 (a0-(1:Int))).2.1,((el a1 (a0-(1:Int))).2.2))).length:Int))<|(gd (0≤(a0-(1:Int))∧(a0-(1:Int))<((zaJ a1 (zan a0) ((el a1 (a0-(1:Int))).1,(el a1 (a0-(1:Int))).2.1,((el a1 (a0-(1:Int))).2.2))).length:Int))<|(gd (abt (a0-(1:Int)))<|(a3 (zaJ (zaJ a1 (zan a0) ((el a1 (a0-(1:Int))).1,(el a1 (a0-(1:Int))).2.1,((el a1 (a0-(1:Int))).2.2))) (zan (a0-(1:Int))) ((el a1 a0).1,(el a1 a0).2.1,((el a1 a0).2.2))) (a0-(1:Int))))))))))))))else some a1)
def acf(fu:Nat)(a2:Int):Nat→LQ→Int→Option LQ:=fun k_ a0 a1=>loopF (fun(g:(LQ×Int)→Option LQ) v=>aby fu a2 (fun a0 a1=>g (a0,a1)) v.1 v.2) k_ (a0,a1)
theorem aez{fu:Nat}{a0:Int}{k_:Nat}{a1:LQ}{a2:Int}:acf fu a0 (k_+1) a1 a2=aby fu a0 (acf fu a0 k_) a1 a2:=rfl
def abx(fu:Nat)(a2:LQ)(a3:Int)(a4:Int)(a5:Int)(a6:Int→Int→Option Int)(a0:Int)(a1:Int):Option Int:=
 (if a0<a1 then(gd (abt (a0+a1))<|(gd (abt ((((zac .i64 ((zac .u64 (a3+a5))/2))+a4)-(1:Int))-(zac .i64 ((zac .u64 (a0+a1))/2))))<|(gd (0≤((((zac .i64 ((zac .u64 (a3+a5))/2))+a4)-(1:Int))-(zac .i64 ((zac .u64 (a0+a1))/2)))∧((((zac .i64 ((zac .u64 (a3+a5))/2))+a4)-(1:Int))-(zac .i64 ((zac .u64 (a0+a1))/2)))<(a2.length:Int))<|(gd (0≤((((zac .i64 ((zac .u64 (a3+a5))/2))+a4)-(1:Int))-(zac .i64 ((zac .u64 (a0+a1))/2)))∧((((zac .i64 ((zac .u64 (a3+a5))/2))+a4)-(1:Int))-(zac .i64 ((zac .u64 (a0+a1))/2)))<(a2.length:Int))<|(gd (0≤(zac .i64 ((zac .u64 (a0+a1))/2))∧(zac .i64 ((zac .u64 (a0+a1))/2))<(a2.length:Int))<|(gd (0≤(zac .i64 ((zac .u64 (a0+a1))/2))∧(zac .i64 ((zac .u64 (a0+a1))/2))<(a2.length:Int))<|((ahr fu ((el a2 ((((zac .i64 ((zac .u64 (a3+a5))/2))+a4)-(1:Int))-(zac .i64 ((zac .u64 (a0+a1))/2)))).1,(el a2 ((((zac .i64 ((zac .u64 (a3+a5))/2))+a4)-(1:Int))-(zac .i64 ((zac .u64 (a0+a1))/2)))).2.1,((el a2 ((((zac .i64 ((zac .u64 (a3+a5))/2))+a4)-(1:Int))-(zac .i64 ((zac .u64 (a0+a1))/2)))).2.2)) ((el a2 (zac .i64 ((zac .u64 (a0+a1))/2))).1,(el a2 (zac .i64 ((zac .u64 (a0+a1))/2))).2.1,((el a2 (zac .i64 ((zac .u64 (a0+a1))/2))).2.2))).bind fun(a7:Int)=>(if a7<(0:Int)then(a6 a0 (zac .i64 ((zac .u64 (a0+a1))/2)))else(gd (abt ((zac .i64 ((zac .u64 (a0+a1))/2))+(1:Int)))<|(a6 ((zac .i64 ((zac .u64 (a0+a1))/2))+(1:Int)) a1))))))))))else some a0)
def ace(fu:Nat)(a2:LQ)(a3:Int)(a4:Int)(a5:Int):Nat→Int→Int→Option Int:=fun k_ a0 a1=>loopF (fun(g:(Int×Int)→Option Int) v=>abx fu a2 a3 a4 a5 (fun a0 a1=>g (a0,a1)) v.1 v.2) k_ (a0,a1)
theorem aey{fu:Nat}{a0:LQ}{a1:Int}{a2:Int}{a3:Int}{k_:Nat}{a4:Int}{a5:Int}:ace fu a0 a1 a2 a3 (k_+1) a4 a5=abx fu a0 a1 a2 a3 (ace fu a0 a1 a2 a3 k_) a4 a5:=rfl
def aai:Nat→LQ→Int→Int→Int→Option LQ
 |0,_,_,_,_=>none
 |fu+1,a4,a0,a2,a1=>(((gd (abt (a2-a0))<|(if(a2-a0)=(1:Int)then(((aci fu a4 a0 fu a2 a1)).bind fun(a8:Int)=>(((ach fu a8 fu a4 a0)).bind fun(a9:LQ)=>some (.inr a9)))else some (.inl ())))).bind fun(b0:(Unit⊕LQ))=>zaO (fun(c0:Unit)=>(((gd (abt (a1-a2))<|(if(a1-a2)=(1:Int)then(((acg fu a4 a2 fu a0 a2)).bind fun(b1:Int)=>(((acf fu b1 fu a4 a2)).bind fun(b2:LQ)=>some (.inr b2)))else some (.inl ())))).bind fun(b3:(Unit⊕LQ))=>zaO (fun(c1:Unit)=>(gd (abt (a0+a1))<|(gd (abt ((zac .i64 ((zac .u64 (a0+a1))/2))+a2))<|(((if(zac .i64 ((zac .u64 (a0+a1))/2))<a2 then(gd (abt (((zac .i64 ((zac .u64 (a0+a1))/2))+a2)-a1))<|some (((zac .i64 ((zac .u64 (a0+a1))/2))+a2)-a1,zac .i64 ((zac .u64 (a0+a1))/2)))else some (a0,a2))).bind fun(a5:(Int×Int))=>(gd (abt (((zac .i64 ((zac .u64 (a0+a1))/2))+a2)-(1:Int)))<|(((ace fu a4 a0 a2 a1 fu a5.1 a5.2)).bind fun(a3:Int)=>(gd (abt (((zac .i64 ((zac .u64 (a0+a1))/2))+a2)-a3))<|(((((if a3<a2 then some (decide (a2<(((zac .i64 ((zac .u64 (a0+a1))/2))+a2)-a3)))else some false)).bind fun(b4:Bool)=>(bif b4 then((abu fu a4 a3 a2 (((zac .i64 ((zac .u64 (a0+a1))/2))+a2)-a3)).bind fun(b5:LQ)=>some b5)else some a4))).bind fun(a6:LQ)=>(((((if a0<a3 then some (decide (a3<(zac .i64 ((zac .u64 (a0+a1))/2))))else some false)).bind fun(b6:Bool)=>(bif b6 then((aai fu a6 a0 a3 (zac .i64 ((zac .u64 (a0+a1))/2))).bind fun(b7:LQ)=>some b7)else some a6))).bind fun(a7:LQ)=>(((if(zac .i64 ((zac .u64 (a0+a1))/2))<(((zac .i64 ((zac .u64 (a0+a1))/2))+a2)-a3)then some (decide ((((zac .i64 ((zac .u64 (a0+a1))/2))+a2)-a3)<a1))else some false)).bind fun(b8:Bool)=>(bif b8 then((aai fu a7 (zac .i64 ((zac .u64 (a0+a1))/2)) (((zac .i64 ((zac .u64 (a0+a1))/2))+a2)-a3) a1).bind fun(b9:LQ)=>some b9)else some a7))))))))))) (fun q=>some q) b3)) (fun q=>some q) b0)
open Go.Lib renaming indexAny → zbf, itoa → zat
def abg(fu:Nat)(a3:Int)(a4:LQ→Int→Int→Option (LQ×Int))(a1:LQ)(a2:Int)(a0:Int):Option (LQ×Int):=
 (if a0≤a3 then((aal fu a1 a2 a0).bind fun(a5:LQ)=>(gd (abt (a0+(20:Int)))<|(a4 a5 a0 (a0+(20:Int)))))else some (a1,a2))
def aar(fu:Nat)(a3:Int):Nat→LQ→Int→Int→Option (LQ×Int):=fun k_ a0 a1 a2=>loopF (fun(g:(LQ×Int×Int)→Option (LQ×Int)) v=>abg fu a3 (fun a0 a1 a2=>g (a0,a1,a2)) v.1 v.2.1 v.2.2) k_ (a0,a1,a2)
theorem adf{fu:Nat}{a0:Int}{k_:Nat}{a1:LQ}{a2:Int}{a3:Int}:aar fu a0 (k_+1) a1 a2 a3=abg fu a0 (aar fu a0 k_) a1 a2 a3:=rfl
def acm(fu:Nat)(a4:Int)(a0:Int)(a5:LQ→Int→Int→Option (LQ×Int))(a3:LQ)(a2:Int)(a1:Int):Option (LQ×Int):=
 (if a1≤a4 then(gd (abt (a2+a0))<|((aai fu a3 a2 (a2+a0) a1).bind fun(a6:LQ)=>(gd (abt ((2:Int)*a0))<|(gd (abt (a1+((2:Int)*a0)))<|(a5 a6 a1 (a1+((2:Int)*a0)))))))else some (a3,a2))
def abj(fu:Nat)(a3:Int)(a4:Int):Nat→LQ→Int→Int→Option (LQ×Int):=fun k_ a0 a1 a2=>loopF (fun(g:(LQ×Int×Int)→Option (LQ×Int)) v=>acm fu a3 a4 (fun a0 a1 a2=>g (a0,a1,a2)) v.1 v.2.1 v.2.2) k_ (a0,a1,a2)
theorem afh{fu:Nat}{a0:Int}{a1:Int}{k_:Nat}{a2:LQ}{a3:Int}{a4:Int}:abj fu a0 a1 (k_+1) a2 a3 a4=acm fu a0 a1 (abj fu a0 a1 k_) a2 a3 a4:=rfl
def abf(fu:Nat)(a2:Int)(a3:LQ→Int→Option LQ)(a4:LQ)(a0:Int):Option LQ:=
 (if a0<a2 then(gd (abt ((2:Int)*a0))<|(((abj fu a2 a0 fu a4 (0:Int) ((2:Int)*a0))).bind fun(a1:(LQ×Int))=>(gd (abt (a1.2+a0))<|(if(a1.2+a0)<a2 then((aai fu a1.1 a1.2 (a1.2+a0) a2).bind fun(a5:LQ)=>(gd (abt (a0*(2:Int)))<|(a3 a5 (a0*(2:Int)))))else(gd (abt (a0*(2:Int)))<|(a3 a1.1 (a0*(2:Int))))))))else some a4)
def aaq(fu:Nat)(a2:Int):Nat→LQ→Int→Option LQ:=fun k_ a0 a1=>loopF (fun(g:(LQ×Int)→Option LQ) v=>abf fu a2 (fun a0 a1=>g (a0,a1)) v.1 v.2) k_ (a0,a1)
theorem ade{fu:Nat}{a0:Int}{k_:Nat}{a1:LQ}{a2:Int}:aaq fu a0 (k_+1) a1 a2=abf fu a0 (aaq fu a0 k_) a1 a2:=rfl
def acv(fu:Nat)(a2:LQ)(a0:Int):Option LQ:=
 (((aar fu a0 fu a2 (0:Int) (20:Int))).bind fun(a1:(LQ×Int))=>((aal fu a1.1 a1.2 a0).bind fun(a3:LQ)=>(aaq fu a0 fu a3 (20:Int))))
def abp(fu:Nat)(a0:LQ):Option LQ:=
 ((acv fu a0 (a0.length:Int)).bind fun(y1:LQ)=>some y1)
def aaw(fu:Nat)(a0:LQ):Option LQ:=
 ((adi fu a0).bind fun(y1:LQ)=>((abp fu y1).bind fun(y9:LQ)=>some y9))
def acz(fu:Nat)(a0:LQ):Option LQ:=
 ((aib fu a0).bind fun(y1:LQ)=>((aaw fu a0).bind fun(y7:LQ)=>some y7))
def akb(fu:Nat)(a1:(Str×Str×Int×Str×LQ))(a3:LQ→Int→Option LQ)(a2:LQ)(a0:Int):Option LQ:=
 (if a0<(a1.2.2.2.2.length:Int)then(gd (0≤a0∧a0<(a1.2.2.2.2.length:Int))<|(gd (0≤a0∧a0<(a1.2.2.2.2.length:Int))<|(if((el a1.2.2.2.2 a0).1)=([98,114,97,110,99,104]:Str)then(gd (abt (a0+(1:Int)))<|(a3 a2 (a0+(1:Int))))else(gd ((a2.length+([((el a1.2.2.2.2 a0).1,(el a1.2.2.2.2 a0).2.1,((el a1.2.2.2.2 a0).2.2))]:LQ).length)*40≤140737488355328)<|(gd (abt (a0+(1:Int)))<|(a3 (a2++([((el a1.2.2.2.2 a0).1,(el a1.2.2.2.2 a0).2.1,((el a1.2.2.2.2 a0).2.2))]:LQ)) (a0+(1:Int))))))))else some a2)
def aid(fu:Nat)(a2:(Str×Str×Int×Str×LQ)):Nat→LQ→Int→Option LQ:=fun k_ a0 a1=>loopF (fun(g:(LQ×Int)→Option LQ) v=>akb fu a2 (fun a0 a1=>g (a0,a1)) v.1 v.2) k_ (a0,a1)
theorem ark{fu:Nat}{a0:(Str×Str×Int×Str×LQ)}{k_:Nat}{a1:LQ}{a2:Int}:aid fu a0 (k_+1) a1 a2=akb fu a0 (aid fu a0 k_) a1 a2:=rfl
def aoy(fu:Nat)(a0:(Str×Str×Int×Str×LQ)):Option (Str×UInt8):=
 ((agr fu a0.2.1).bind fun(y4:(Str×Bool))=>(((bif (!y4.2)then some true else((agy fu a0.1).bind fun(a5:Bool)=>(bif (!a5)then some true else(if a0.2.2.1<(0:Int)then some true else some (decide ((65535:Int)<a0.2.2.1))))))).bind fun(a6:Bool)=>(bif a6 then some (([]:Str),(2:UInt8))else(((aid fu a0 fu ([]:LQ) (0:Int))).bind fun(a2:LQ)=>(((if a0.2.2.2.1=([]:Str)then some a2 else(gd ((a2.length+([(([98,114,97,110,99,104]:Str),a0.2.2.2.1,true)]:LQ).length)*40≤140737488355328)<|some (a2++([(([98,114,97,110,99,104]:Str),a0.2.2.2.1,true)]:LQ))))).bind fun(a7:LQ)=>((acz fu a7).bind fun(a8:LQ)=>((abr fu a8).bind fun(a3:(Str×UInt8))=>(if a3.2=(0:UInt8)then(((if a0.2.2.1=(0:Int)then some y4.1 else(gd (abt a0.2.2.1)<|(gd (([58]:Str).length+(zat a0.2.2.1).length≤9223372036854775807)<|(gd (y4.1.length+(([58]:Str)++(zat a0.2.2.1)).length≤9223372036854775807)<|some (y4.1++(([58]:Str)++(zat a0.2.2.1)))))))).bind fun(a4:Str)=>((acu fu a0.1).bind fun(a1:Str)=>(gd (([83,73,80,47,50,46,48,47]:Str).length+a1.length≤9223372036854775807)<|(gd ((([83,73,80,47,50,46,48,47]:Str)++a1).length+([32]:Str).length≤9223372036854775807)<|(gd (((([83,73,80,47,50,46,48,47]:Str)++a1)++([32]:Str)).length+a4.length≤9223372036854775807)<|(gd ((((([83,73,80,47,50,46,48,47]:Str)++a1)++([32]:Str))++a4).length+a3.1.length≤9223372036854775807)<|some ((((([83,73,80,47,50,46,48,47]:Str)++a1)++([32]:Str))++a4)++a3.1,(0:UInt8))))))))else some (([]:Str),(2:UInt8))))))))))
def ami(fu:Nat)(s_0:Str):Option (Int×Str×UInt8):=
 (gd (s_0.length≤1000000000∧([32,9]:Str).length≤1000∧([32,9]:Str).all (fun b=>decide (b.toNat<128))=true)<|(((if(zbf s_0 ([32,9]:Str))<(0:Int)then some (s_0.length:Int)else some (zbf s_0 ([32,9]:Str)))).bind fun(v9:Int)=>(gd (0≤v9∧v9≤(s_0.length:Int))<|((aje fu (zbt (zan v9) s_0)).bind fun(a1:(Int×UInt8))=>((alj fu s_0 v9).bind fun(a0:Int)=>(gd (0≤a0∧a0≤(s_0.length:Int))<|some (a1.1,zaC (zan a0) s_0,a1.2)))))))
def aoz(fu:Nat)(a0:Str):Option (Int×Str×UInt8):=
 ((afx fu a0).bind fun(y1:Str)=>((ami fu y1).bind fun(y6:(Int×Str×UInt8))=>(if y6.2.2=(0:UInt8)then((agy fu y6.2.1).bind fun(a1:Bool)=>(bif (!a1)then some ((0:Int),([]:Str),(5:UInt8))else some (y6.1,y6.2.1,(0:UInt8))))else some ((0:Int),([]:Str),y6.2.2))))
def atu(fu:Nat)(a1:Str):Option (Int×Int×Str×UInt8):=
 ((afx fu a1).bind fun(y1:Str)=>((ami fu y1).bind fun(y6:(Int×Str×UInt8))=>(if y6.2.2=(0:UInt8)then((aoz fu y6.2.1).bind fun(a0:(Int×Str×UInt8))=>(if a0.2.2=(0:UInt8)then some (y6.1,a0.1,a0.2.1,(0:UInt8))else some ((0:Int),(0:Int),([]:Str),a0.2.2)))else some ((0:Int),(0:Int),([]:Str),y6.2.2))))
open Go.Lib renaming cut → zaW, itoa → zat, join → zau
def arl(fu:Nat)(a0:Str):Option (Int×UInt8):=
 ((afx fu a0).bind fun(y1:Str)=>((aje fu y1).bind fun(y6:(Int×UInt8))=>some (y6.1,y6.2)))
def atw(fu:Nat)(a3:Str):Option ((Str×LQ)×UInt8):=
 ((afx fu a3).bind fun(y4:Str)=>((afw fu y4 (0:Int)).bind fun(y9:Int)=>(if y9=(0:Int)then some ((([]:Str),([]:LQ)),(5:UInt8))else(((((if y9<(y4.length:Int)then(gd (0≤y9∧y9<(y4.length:Int))<|some (decide ((at_ y4 y9)=(47:UInt8))))else some false)).bind fun(a4:Bool)=>(bif a4 then(gd (abt (y9+(1:Int)))<|((afw fu y4 (y9+(1:Int))).bind fun(a2:Int)=>(gd (abt (y9+(1:Int)))<|(if a2=(y9+(1:Int))then some (.inr ((([]:Str),([]:LQ)),(5:UInt8)))else some (.inl a2)))))else some (.inl y9)))).bind fun(a5:(Int⊕((Str×LQ)×UInt8)))=>zaO (fun(a0:Int)=>(gd (0≤a0∧a0≤(y4.length:Int))<|((ahj fu (zaC (zan a0) y4)).bind fun(a1:(LQ×Int×UInt8))=>(if a1.2.2=(0:UInt8)then(gd (0≤a0∧a0≤(y4.length:Int))<|some ((zbt (zan a0) y4,a1.1),(0:UInt8)))else some ((([]:Str),([]:LQ)),a1.2.2))))) (fun q=>some q) a5))))
def aof(fu:Nat)(a0:(Str×LQ)):Option (Str×UInt8):=
 (gd (a0.1.length≤1000000000)<|((((agy fu ((zaW a0.1 ([47]:Str)).1)).bind fun(a2:Bool)=>(bif (!a2)then some true else(bif ((zaW a0.1 ([47]:Str)).2.2)then((agy fu ((zaW a0.1 ([47]:Str)).2.1)).bind fun(a3:Bool)=>some (!a3))else some false)))).bind fun(a4:Bool)=>(bif a4 then some (([]:Str),(2:UInt8))else((acz fu a0.2).bind fun(a5:LQ)=>((abr fu a5).bind fun(a1:(Str×UInt8))=>(if a1.2=(0:UInt8)then(gd (a0.1.length+a1.1.length≤9223372036854775807)<|some (a0.1++a1.1,(0:UInt8)))else some (([]:Str),(2:UInt8))))))))
def arj(fu:Nat)(a8:Str)(a1:Str):Option (Str×UInt8):=
 ((aic fu a8).bind fun(a2:Int)=>(if a2=(1:Int)then(((if a8=([67,111,110,116,97,99,116]:Str)then((afx fu a1).bind fun(b3:Str)=>some (decide (b3=([42]:Str))))else some false)).bind fun(b4:Bool)=>(bif b4 then some (([42]:Str),(0:UInt8))else((apy fu a1).bind fun(a5:(AQ×UInt8))=>(if a5.2=(0:UInt8)then((akf fu a5.1).bind fun(a9:(Str×UInt8))=>some (a9.1,a9.2))else some (([]:Str),a5.2)))))else(if a2=(2:Int)then((asz fu a1).bind fun(a6:((Str×Str×Int×Str×LQ)×UInt8))=>(if a6.2=(0:UInt8)then((aoy fu a6.1).bind fun(b0:(Str×UInt8))=>some (b0.1,b0.2))else some (([]:Str),a6.2)))else(if a2=(3:Int)then((aoz fu a1).bind fun(a3:(Int×Str×UInt8))=>(if a3.2.2=(0:UInt8)then(gd (abt a3.1)<|(gd ((zat a3.1).length+([32]:Str).length≤9223372036854775807)<|(gd (((zat a3.1)++([32]:Str)).length+a3.2.1.length≤9223372036854775807)<|some (((zat a3.1)++([32]:Str))++a3.2.1,(0:UInt8)))))else some (([]:Str),a3.2.2)))else(if a2=(4:Int)then((atu fu a1).bind fun(a0:(Int×Int×Str×UInt8))=>(if a0.2.2.2=(0:UInt8)then(gd (abt a0.1)<|(gd ((zat a0.1).length+([32]:Str).length≤9223372036854775807)<|(gd (abt a0.2.1)<|(gd (((zat a0.1)++([32]:Str)).length+(zat a0.2.1).length≤9223372036854775807)<|(gd ((((zat a0.1)++([32]:Str))++(zat a0.2.1)).length+([32]:Str).length≤9223372036854775807)<|(gd (((((zat a0.1)++([32]:Str))++(zat a0.2.1))++([32]:Str)).length+a0.2.2.1.length≤9223372036854775807)<|some (((((zat a0.1)++([32]:Str))++(zat a0.2.1))++([32]:Str))++a0.2.2.1,(0:UInt8))))))))else some (([]:Str),a0.2.2.2)))else(if a2=(5:Int)then((arl fu a1).bind fun(a4:(Int×UInt8))=>(if a4.2=(0:UInt8)then(gd (abt a4.1)<|some (zat a4.1,(0:UInt8)))else some (([]:Str),a4.2)))else(((if a2=(6:Int)then some (decide (a2=(6:Int)))else some (decide (a2=(7:Int))))).bind fun(b5:Bool)=>(bif b5 then((atw fu a1).bind fun(a7:((Str×LQ)×UInt8))=>(if a7.2=(0:UInt8)then((aof fu a7.1).bind fun(b1:(Str×UInt8))=>some (b1.1,b1.2))else some (([]:Str),a7.2)))else((afx fu a1).bind fun(b2:Str)=>((aow fu b2).bind fun(b6:(Str×UInt8))=>(if b6.2=(0:UInt8)then some (b2,(0:UInt8))else some (([]:Str),(5:UInt8)))))))))))))
def arh(fu:Nat)(s_0:Str)(a1:Int)(a0:Int):Option (Int×Str):=
 ((alj fu s_0 a1).bind fun(y4:Int)=>(gd (0≤(min y4 a0)∧(min y4 a0)≤a0∧a0≤(s_0.length:Int))<|(gd ((sub s_0 (min y4 a0) a0).length≤1000000000)<|gd (([32,9]:Str).length≤1000∧([32,9]:Str).all (fun b=>decide (b.toNat<128))=true)<|some (min y4 a0,Lib.trimRightS (sub s_0 (min y4 a0) a0) ([32,9]:Str)))))
def aku(fu:Nat)(s_0:Str)(a6:UInt8)(a3:(List (Int×Str))→Int→Int→Option (((List (Int×Str))×Int)⊕((List (Int×Str))×Int×UInt8)))(a1:List (Int×Str))(a2:Int)(a0:Int):Option (((List (Int×Str))×Int)⊕((List (Int×Str))×Int×UInt8)):=
 (if a0<(s_0.length:Int)then(gd (0≤a0∧a0<(s_0.length:Int))<|(if(at_ s_0 a0)=(34:UInt8)then((amg fu s_0 a0).bind fun(a4:(Str×Int×UInt8))=>(if a4.2.2=(0:UInt8)then(a3 a1 a2 a4.2.1)else some (.inr (([]:List (Int×Str)),a4.2.1,a4.2.2))))else(if(at_ s_0 a0)=(60:UInt8)then(gd (0≤a0∧a0≤(s_0.length:Int))<|(if(ixb (·==(62:UInt8)) (zaC (zan a0) s_0))<(0:Int)then some (.inr (([]:List (Int×Str)),(s_0.length:Int),(6:UInt8)))else(gd (abt ((ixb (·==(62:UInt8)) (zaC (zan a0) s_0))+(1:Int)))<|(gd (abt (a0+((ixb (·==(62:UInt8)) (zaC (zan a0) s_0))+(1:Int))))<|(a3 a1 a2 (a0+((ixb (·==(62:UInt8)) (zaC (zan a0) s_0))+(1:Int))))))))else(if(at_ s_0 a0)=(62:UInt8)then some (.inr (([]:List (Int×Str)),a0,(5:UInt8)))else(if(at_ s_0 a0)=a6 then((arh fu s_0 a2 a0).bind fun(a5:(Int×Str))=>(gd ((a1.length+([a5]:List (Int×Str)).length)*24≤140737488355328)<|(gd (abt (a0+(1:Int)))<|(a3 (a1++([a5]:List (Int×Str))) (a0+(1:Int)) (a0+(1:Int))))))else(gd (abt (a0+(1:Int)))<|(a3 a1 a2 (a0+(1:Int)))))))))else some (.inl (a1,a2)))
def amh(fu:Nat)(s_0:Str)(a3:UInt8):Nat→(List (Int×Str))→Int→Int→Option (((List (Int×Str))×Int)⊕((List (Int×Str))×Int×UInt8)):=fun k_ a0 a1 a2=>loopF (fun(g:((List (Int×Str))×Int×Int)→Option (((List (Int×Str))×Int)⊕((List (Int×Str))×Int×UInt8))) v=>aku fu s_0 a3 (fun a0 a1 a2=>g (a0,a1,a2)) v.1 v.2.1 v.2.2) k_ (a0,a1,a2)
theorem aqj{fu:Nat}{s_0:Str}{a0:UInt8}{k_:Nat}{a1:List (Int×Str)}{a2:Int}{a3:Int}:amh fu s_0 a0 (k_+1) a1 a2 a3=aku fu s_0 a0 (amh fu s_0 a0 k_) a1 a2 a3:=rfl
def att(fu:Nat)(s_0:Str)(a0:UInt8):Option ((List (Int×Str))×Int×UInt8):=
 ((((akt fu a0).bind fun(a3:Bool)=>(bif a3 then some true else(if a0=(34:UInt8)then some true else(if a0=(60:UInt8)then some true else some (decide (a0=(62:UInt8)))))))).bind fun(a4:Bool)=>(bif a4 then some (([]:List (Int×Str)),(0:Int),(2:UInt8))else(((amh fu s_0 a0 fu ([]:List (Int×Str)) (0:Int) (0:Int))).bind fun(a5:(((List (Int×Str))×Int)⊕((List (Int×Str))×Int×UInt8)))=>zaO (fun(a1:((List (Int×Str))×Int))=>((arh fu s_0 a1.2 (s_0.length:Int)).bind fun(a2:(Int×Str))=>(gd ((a1.1.length+([a2]:List (Int×Str)).length)*24≤140737488355328)<|some (a1.1++([a2]:List (Int×Str)),(0:Int),(0:UInt8))))) (fun q=>some q) a5)))
def aog(fu:Nat)(y1:((List (Int×Str))×Int×UInt8))(a2:(List Str)→Int→Option ((List Str)⊕((List Str)×UInt8)))(a1:List Str)(a0:Int):Option ((List Str)⊕((List Str)×UInt8)):=
 (if a0<(y1.1.length:Int)then(gd (0≤a0∧a0<(y1.1.length:Int))<|(gd (0≤a0∧a0<(y1.1.length:Int))<|(if((el y1.1 a0).2)=([]:Str)then some (.inr (([]:List Str),(5:UInt8)))else(gd ((a1.length+([(el y1.1 a0).2]:List Str).length)*16≤140737488355328)<|(gd (abt (a0+(1:Int)))<|(a2 (a1++([(el y1.1 a0).2]:List Str)) (a0+(1:Int))))))))else some (.inl a1))
def amk(fu:Nat)(y1:((List (Int×Str))×Int×UInt8)):Nat→(List Str)→Int→Option ((List Str)⊕((List Str)×UInt8)):=fun k_ a0 a1=>loopF (fun(g:((List Str)×Int)→Option ((List Str)⊕((List Str)×UInt8))) v=>aog fu y1 (fun a0 a1=>g (a0,a1)) v.1 v.2) k_ (a0,a1)
theorem aux{fu:Nat}{y1:((List (Int×Str))×Int×UInt8)}{k_:Nat}{a0:List Str}{a1:Int}:amk fu y1 (k_+1) a0 a1=aog fu y1 (amk fu y1 k_) a0 a1:=rfl
def atv(fu:Nat)(a0:Str):Option ((List Str)×UInt8):=
 ((att fu a0 (44:UInt8)).bind fun(y1:((List (Int×Str))×Int×UInt8))=>(if y1.2.2=(0:UInt8)then(((amk fu y1 fu ([]:List Str) (0:Int))).bind fun(a1:((List Str)⊕((List Str)×UInt8)))=>zaO (fun(a2:List Str)=>some (a2,(0:UInt8))) (fun q=>some q) a1)else some (([]:List Str),y1.2.2)))
def aoe(fu:Nat)(y1:(Str×UInt8))(a3:((List Str)×UInt8))(a4:(List Str)→Int→Option ((List Str)⊕(Str×UInt8)))(a1:List Str)(a0:Int):Option ((List Str)⊕(Str×UInt8)):=
 (if a0<(a3.1.length:Int)then(gd (0≤a0∧a0<(a1.length:Int))<|(gd (0≤a0∧a0<(a1.length:Int))<|((arj fu y1.1 (el a1 a0)).bind fun(a2:(Str×UInt8))=>(gd (0≤a0∧a0<(a1.length:Int))<|(gd (0≤a0∧a0<(a1.length:Int))<|(if a2.2=(0:UInt8)then(gd (abt (a0+(1:Int)))<|(a4 (zaJ a1 (zan a0) a2.1) (a0+(1:Int))))else some (.inr (([]:Str),a2.2))))))))else some (.inl a1))
def amj(fu:Nat)(y1:(Str×UInt8))(a2:((List Str)×UInt8)):Nat→(List Str)→Int→Option ((List Str)⊕(Str×UInt8)):=fun k_ a0 a1=>loopF (fun(g:((List Str)×Int)→Option ((List Str)⊕(Str×UInt8))) v=>aoe fu y1 a2 (fun a0 a1=>g (a0,a1)) v.1 v.2) k_ (a0,a1)
theorem auw{fu:Nat}{y1:(Str×UInt8)}{a0:((List Str)×UInt8)}{k_:Nat}{a1:List Str}{a2:Int}:amj fu y1 a0 (k_+1) a1 a2=aoe fu y1 a0 (amj fu y1 a0 k_) a1 a2:=rfl
def anf(fu:Nat)(a4:Str)(a2:Str):Option (Str×UInt8):=
 ((apr fu a4).bind fun(y1:(Str×UInt8))=>(if y1.2=(0:UInt8)then((anc fu y1.1).bind fun(y7:Bool)=>(bif (!y7)then((arj fu y1.1 a2).bind fun(a3:(Str×UInt8))=>some (a3.1,a3.2))else((atv fu a2).bind fun(a0:((List Str)×UInt8))=>(if a0.2=(0:UInt8)then(((amj fu y1 a0 fu a0.1 (0:Int))).bind fun(a5:((List Str)⊕(Str×UInt8)))=>zaO (fun(a1:List Str)=>(gd (a1.length≤1000000000∧(zau a1 ([44,32]:Str)).length≤100000000000)<|some (zau a1 ([44,32]:Str),(0:UInt8)))) (fun q=>some q) a5)else some (([]:Str),a0.2)))))else some (([]:Str),(5:UInt8))))
def ari(fu:Nat):Option Bool:=
 ((apr fu ([67,65,76,76,45,105,100]:Str)).bind fun(y1:(Str×UInt8))=>((anf fu ([109]:Str) ([66,111,98,60,115,105,112,58,97,64,66,62,32,44,32,60,115,105,112,58,99,59,100,62]:Str)).bind fun(y6:(Str×UInt8))=>((asz fu ([115,105,112,47,50,46,48,47,117,100,112,32,104,58,53,48,54,48,59,98,114,97,110,99,104,61,122,57]:Str)).bind fun(a0:((Str×Str×Int×Str×LQ)×UInt8))=>((aoz fu ([48,48,55,32,73,78,86,73,84,69]:Str)).bind fun(a1:(Int×Str×UInt8))=>(((if y1.2=(0:UInt8)then(if y1.1=([67,97,108,108,45,73,68]:Str)then(if y6.2=(0:UInt8)then(if y6.1=([34,66,111,98,34,32,60,115,105,112,58,97,64,98,62,44,32,60,115,105,112,58,99,59,100,62]:Str)then(if a0.2=(0:UInt8)then(if a0.1.1=([85,68,80]:Str)then(if a0.1.2.1=([104]:Str)then(if a0.1.2.2.1=(5060:Int)then(if a0.1.2.2.2.1=([122,57]:Str)then(if a1.1=(7:Int)then(if a1.2.1=([73,78,86,73,84,69]:Str)then some (decide (a1.2.2=(0:UInt8)))else some false)else some false)else some false)else some false)else some false)else some false)else some false)else some false)else some false)else some false)else some false)).bind fun(a2:Bool)=>some a2)))))
def als(fu:Nat)(a1:Str)(a0:Str):Option Bool:=
 ((anf fu a1 a0).bind fun(y1:(Str×UInt8))=>(gd (([32,9]:Str).length+a0.length≤9223372036854775807)<|(gd ((([32,9]:Str)++a0).length+([32,32]:Str).length≤9223372036854775807)<|((anf fu a1 ((([32,9]:Str)++a0)++([32,32]:Str))).bind fun(y8:(Str×UInt8))=>(((if y1.1=y8.1 then some (!decide (y1.2=y8.2))else some true)).bind fun(a3:Bool)=>(bif a3 then some false else(if y1.2=(0:UInt8)then(if(1024:Int)<(y1.1.length:Int)then((ari fu).bind fun(a4:Bool)=>some a4)else((anf fu a1 y1.1).bind fun(a2:(Str×UInt8))=>(((if a2.2=(0:UInt8)then(if a2.1=y1.1 then((ari fu).bind fun(a5:Bool)=>some a5)else some false)else some false)).bind fun(a6:Bool)=>some a6)))else(((if y1.1=([]:Str)then((ari fu).bind fun(a7:Bool)=>some a7)else some false)).bind fun(a8:Bool)=>some a8))))))))
end Go.Wk
set_option maxRecDepth 100000
namespace Go.Wk
open Go.Px
open Bool renaming not_true → zaz
open Int renaming toNat → zan
open List renaming append_assoc → zal, drop_eq_nil_of_le → zbj, length_append → zab, length_cons → zad, length_nil → zaj, length_singleton → zae, nil_append → zax, set → zaJ
open Nat renaming add_assoc → zaQ, add_comm → zaX
open Option renaming bind_some → zaa
open Sum renaming elim → zaO, elim_inl → zaA, elim_inr → zbg
def FU:Nat:=18446744073709551616
theorem ahy:FU=18446744073709551616:=rfl
theorem at_mid(p:Str)(c:UInt8)(l:Str):at_ (p++c::l) (p.length:Int)=c:=by simp [at_]
theorem set_mid(p:Str)(c x:UInt8)(l:Str):zaJ (p++c::l) (zan (p.length:Int)) x=(p++[x])++l:=by simp
theorem aso(p:Str)(x:UInt8):((p.length:Int)+1)=((p++[x]).length:Int):=by simp
theorem aef(a:Int)(h0:0≤a)(h:a≤9223372036854775807):abt a:=⟨by omega,by omega⟩
theorem char_token(fu:Nat)(c:UInt8):aoc fu c=some (aaf c):=by
 show aoc 0 c=_
 revert c;exact aae _ (by decide+kernel)
theorem lowerByte_eq(fu:Nat)(c:UInt8):aik fu c=some (aer c):=by
 show aik 0 c=_
 revert c;exact aae _ (by decide+kernel)
theorem upperByte_eq(fu:Nat)(c:UInt8):akw fu c=some (avt c):=by
 show akw 0 c=_
 revert c;exact aae _ (by decide+kernel)
theorem tokEnd_lp{fu:Nat}(s:Str)(hs:s.length≤9223372036854775807)(n:Nat):∀(k fk:Nat),k+n=s.length→n<fk→
  aeu fu s fk (k:Int)=some ((k+ahv aaf (s.drop k):Nat):Int):=by
 induction n with
 |zero=>
  intro k fk hk hf
  obtain⟨fk,rfl⟩:=fkx fk
  rw [ajz,aeo,if_neg omg,zbj omg]
  simp [ahv]
 |succ n ih=>
  intro k fk hk hf
  obtain⟨fk,rfl⟩:=fkx fk
  rw [ajz,aeo,if_pos omg,aaa omg,char_token,drop_at s k omg]
  simp only [zaa]
  cases h:aaf (at_ s k)
  ·simp [ahv,h]
  ·rw [cond_true]
   rw [aaa (aef _ omg omg)]
   have e:((k:Int)+1)=((k+1:Nat):Int):=rfl
   rw [e,ih (k+1) fk omg omg]
   have e2:ahv aaf (at_ s k::s.drop (k+1))=1+ahv aaf (s.drop (k+1)):=by simp [ahv,h,zaX]
   rw [e2,zaQ]
theorem skipTok_eq(s:Str)(hs:s.length≤9223372036854775807)(i:Int):afv FU s i=some ((aap aaf s i:Nat):Int):=by
 unfold afv aap
 have h:min (max i 0) (s.length:Int)=((are i s.length:Nat):Int):=by unfold are;omega
 have:=clampN_le i s.length
 rw [h,tokEnd_lp s hs (s.length-are i s.length) _ FU omg (by rw [ahy];omega)]
 rfl
theorem tok_cases(s:Str):(if s=[]then some false else some (decide (((aap aaf s 0:Nat):Int)=(s.length:Int))))=some (ahi s):=by
 have:=tok_iff s
 by_cases h:s=[]
 ·subst h;rfl
 ·rw [if_neg h];congr 1
  by_cases h2:((aap aaf s 0:Nat):Int)=(s.length:Int)
  ·rw [decide_eq_true h2,this.1 ⟨h,h2⟩]
  ·rw [decide_eq_false h2]
   cases h3:ahi s
   ·rfl
   ·exact absurd (this.2 h3).2 h2
theorem awm(s:Str)(hs:s.length≤9223372036854775807):agy FU s=some (ahi s):=by
 unfold agy afw
 rw [skipTok_eq s hs]
 simp only [zaa,Option.bind_fun_some]
 exact tok_cases s
theorem mid_lt(p:Str)(c:UInt8)(l:Str):(0:Int)≤(p.length:Int)∧(p.length:Int)<((p++c::l).length:Int):=by
 rw [zab,zad];omega
theorem lower_lp{fu:Nat}(s:Str)(hs:s.length≤9223372036854775807)(l:Str):∀(p:Str) (fk:Nat),p.length+l.length=s.length→l.length<fk→
  adt fu s fk (p++l) (p.length:Int)=some (p++l.map aer):=by
 induction l with
 |nil=>
  intro p fk hk hf
  obtain⟨fk,rfl⟩:=fkx fk
  simp only [zaj]at hk
  rw [ahx,adp,if_neg omg];rfl
 |cons c l ih=>
  intro p fk hk hf
  obtain⟨fk,rfl⟩:=fkx fk
  simp only [zad]at hk hf
  have hb:=mid_lt p c l
  rw [ahx,adp,if_pos omg,aaa hb,aaa hb,at_mid,lowerByte_eq]
  simp only [zaa]
  rw [aaa hb,aaa hb,aaa (aef _ omg omg),set_mid,aso p (aer c),ih (p++[aer c]) fk (by rw [zab,zae];omega) omg]
  simp
theorem lower_eq(s:Str)(hs:s.length≤9223372036854775807):adk FU s=some (aau s):=by
 unfold adk
 have:=lower_lp (fu:=FU) s hs s [] FU (by simp) (by rw [ahy];omega)
 simp only [zax,zaj,Int.natCast_zero,Int.cast_ofNat_Int]at this
 rw [this];rfl
theorem lowerB_up(c:UInt8)(h1:65≤c)(h2:c≤90):c+32=aer c:=by simp [aer,h1,h2]
theorem lowerB_no(c:UInt8)(h:¬(65≤c∧c≤90)):aer c=c:=by simp only [aer,if_neg h]
def longN(c:UInt8):Str:=(aox FU c).getD []
theorem long_eq:∀c:UInt8,aox FU c=some (longN c):=aae _ (by decide+kernel)
def title:Bool→Str→Str
 |_,[]=>[]
 |f,c::l=>(if f then avt c else aer c)::title (c==45) l
theorem canon1_eq(fu:Nat)(f:Bool)(c:UInt8):apx fu c f=some (if f then avt c else aer c,c==45):=by
 show apx 0 c f=_
 revert c;cases f<;>exact aae _ (by decide+kernel)
theorem title_lp{fu:Nat}(s:Str)(hs:s.length≤9223372036854775807)(l:Str):∀(p:Str) (f:Bool) (fk:Nat),p.length+l.length=s.length→l.length<fk→
  (aee fu s fk (p++l) (p.length:Int) f).map (·.1)=some (p++title f l):=by
 induction l with
 |nil=>
  intro p f fk hk hf
  obtain⟨fk,rfl⟩:=fkx fk
  simp only [zaj]at hk
  rw [ail,ady,if_neg omg];rfl
 |cons c l ih=>
  intro p f fk hk hf
  obtain⟨fk,rfl⟩:=fkx fk
  simp only [zad]at hk hf
  have hb:=mid_lt p c l
  rw [ail,ady,if_pos omg,aaa hb,aaa hb,at_mid,canon1_eq,zaa,
   aaa hb,aaa hb,aaa (aef _ omg omg),set_mid,aso p (if f then avt c else aer c),ih _ _ fk (by rw [zab,zae];omega) omg,zal]
  rfl
theorem title_eq(s:Str)(hs:s.length≤9223372036854775807):∃b,adu FU s true=some (title true s,b):=by
 unfold adu
 have:=title_lp (fu:=FU) s hs s [] true FU (by simp) (by rw [ahy];omega)
 obtain⟨r,h1,h2⟩:=Option.map_eq_some_iff.1 this
 refine⟨r.2, ?_⟩
 rw [show((0:Int))=(([]:Str).length:Int)from rfl,show s=[]++s from rfl]
 simp only [zax]at h1 h2⊢
 rw [h1,zaa,h2]
def asx(s:Str):Str×UInt8:=
 if ahi s=false∨64<s.length then([],5)
 else if s.length=1∧longN (aer (at_ s 0))≠[]then(longN (aer (at_ s 0)),0)
 else((aoh FU (aau s) FU 0).getD (.inl ())).elim (fun _=>(title true s,0)) id
def specialO:List Str→Str→Option (Unit⊕(Str×UInt8))
 |[],_=>some (.inl ())
 |n::l,y=>if aau n=y then some (.inr (n,0))else specialO l y
theorem specialO_some(y:Str):∀l,∃r,specialO l y=some r
 |[]=>⟨_,rfl⟩
 |n::l=>by
  unfold specialO
  split
  ·exact⟨_,rfl⟩
  ·exact specialO_some y l
theorem special_list(y:Str):aoh FU y FU 0=specialO aoo y:=by kernel_rfl
theorem special_some(y:Str):∃r,aoh FU y FU 0=some r:=by
 rw [special_list];exact specialO_some y _
theorem canon_eq(s:Str)(hs:s.length≤9223372036854775807):apr FU s=some (asx s):=by
 unfold apr asx
 rw [awm s hs,zaa]
 obtain⟨r,hr⟩:=special_some (aau s)
 obtain⟨b,hb⟩:=title_eq s hs
 cases ht:ahi s
 ·rfl
 ·rw [zaz,cond_false,zaa]
  by_cases h64:64<s.length
  ·rw [decide_eq_true omg,cond_true,if_pos (Or.inr h64)]
  ·have hc:¬(true=false∨64<s.length):=by simp [h64]
   rw [decide_eq_false omg,cond_false,if_neg hc,lower_eq s hs,zaa,hr,zaa,Option.getD_some]
   have hrest:zaO (fun(v90:Unit)=>((adu FU s true).bind fun(y130:(Str×Bool))=>some (y130.1,(0:UInt8)))) (fun q=>some q) r=some (zaO (fun _=>(title true s,0)) id r):=by
    cases r with
    |inl _=>rw [zaA,hb];rfl
    |inr _=>rfl
   by_cases h1:s.length=1
   ·have h1i:(s.length:Int)=1:=by omega
    rw [if_pos h1i,aaa omg,lowerByte_eq,zaa,long_eq,zaa]
    by_cases h2:longN (aer (at_ s 0))=[]
    ·rw [if_pos h2,zaa,zaA,if_neg (fun h=>h.2 h2)]
     exact hrest
    ·rw [if_neg h2,zaa,zbg,if_pos ⟨h1,h2⟩]
   ·have h1i:¬(s.length:Int)=1:=by omega
    rw [if_neg h1i,zaa,zaA,if_neg (fun h=>h1 h.1)]
    exact hrest
theorem kind_lp{fu:Nat}(c:Str)(hn:∀x∈afu,x.1≠c)(n:Nat):∀(k fk:Nat),k+n=31→n<fk→ane fu c fk (k:Int)=some (.inl ()):=by
 have h31:afu.length=31:=by decide+kernel
 induction n with
 |zero=>
  intro k fk hk hf
  obtain⟨fk,rfl⟩:=fkx fk
  rw [asy,alt,if_neg omg]
 |succ n ih=>
  intro k fk hk hf
  obtain⟨fk,rfl⟩:=fkx fk
  have he:(el afu (k:Int)).1≠c:=by
   have:el afu (k:Int)=afu[k]'omg:=by simp [el,show k<afu.length by omega]
   rw [this];exact hn _ (List.getElem_mem _)
  rw [asy,alt,if_pos omg,aaa omg,aaa omg,if_neg he,aaa (aef _ omg omg)]
  exact ih (k+1) fk omg omg
theorem kind_not(c:Str)(hn:∀x∈afu,x.1≠c):aic FU c=some 0:=by
 unfold aic
 have:=kind_lp (fu:=FU) c hn 31 0 FU omg (by rw [ahy];omega)
 rw [show((0:Int))=((0:Nat):Int)from rfl,this];rfl
def manyP(c:Str):Bool:=(anc FU c).getD false
theorem many_in:∀x∈afu,anc FU x.1=some (manyP x.1):=by decide+kernel
theorem many_not(c:Str)(hn:∀x∈afu,x.1≠c):anc FU c=some false:=by
 have hm:∀n:Str,(afu.any fun x=>x.1==n)=true→¬c=n:=fun n h e=>by
  obtain⟨x,hx,e'⟩:=List.any_eq_true.1 h
  exact hn x hx ((eq_of_beq e').trans e.symm)
 unfold anc
 rw [if_neg (hm _ (by decide+kernel)),if_neg (hm _ (by decide+kernel)),if_neg (hm _ (by decide+kernel)),if_neg (hm _ (by decide+kernel)),if_neg (hm _ (by decide+kernel)),zaa,zaA,kind_not c hn]
 rfl
theorem many_eq(c:Str):anc FU c=some (manyP c):=by
 by_cases h:∃x∈afu,x.1=c
 ·obtain⟨x,hx,rfl⟩:=h
  exact many_in x hx
 ·have:=many_not c fun x hx e=>h ⟨x,hx,e⟩
  rw [manyP,this];rfl
open Bool renaming and_eq_true → zai, not_true → zaz
open Go.Lib renaming trimLeftS → zbp
open List renaming all_cons → zaR, cons_append → zay, drop_drop → zbu, length_cons → zad, singleton_append → zaM
open Nat renaming add_assoc → zaQ, add_comm → zaX, le_trans → zaF
theorem gok{α:Type}{p:Prop}[Decidable p]{k:Option α}(h:p:=by first|omega|exact aef _ omg omg|(simp only [List.length_append,List.length_cons,List.length_nil,List.length_singleton];omega)):gd p k=k:=aaa h
theorem ahl(k:Nat):(k:Int)+1=((k+1:Nat):Int):=rfl
theorem skip_gen(p:UInt8→Bool)(s:Str)(F:Nat→Int→Option Int)
  (h0:∀fk,F (fk+1) (s.length:Int)=some (s.length:Int))
  (h1:∀fk (k:Nat),k<s.length→p (at_ s k)=false→F (fk+1) (k:Int)=some (k:Int))
  (h2:∀fk (k:Nat),k<s.length→p (at_ s k)=true→F (fk+1) (k:Int)=F fk ((k:Int)+1)) (n:Nat):
  ∀(k fk:Nat),k+n=s.length→n<fk→F fk (k:Int)=some ((k+ahv p (s.drop k):Nat):Int):=by
 induction n with
 |zero=>
  intro k fk hk hf
  obtain⟨fk,rfl⟩:=fkx fk
  obtain rfl:k=s.length:=by omega
  rw [h0,List.drop_length];rfl
 |succ n ih=>
  intro k fk hk hf
  obtain⟨fk,rfl⟩:=fkx fk
  rw [drop_at s k omg]
  cases h:p (at_ s k)
  ·rw [h1 fk k omg h];simp [ahv,h]
  ·rw [h2 fk k omg h,ahl,ih (k+1) fk omg omg]
   have e2:ahv p (at_ s k::s.drop (k+1))=1+ahv p (s.drop (k+1)):=by simp [ahv,h,zaX]
   rw [e2,zaQ]
theorem clamp_int(i:Int)(n:Nat):min (max i 0) (n:Int)=((are i n:Nat):Int):=by unfold are;omega
theorem asm(p:UInt8→Bool):∀(a b:Str),a.all p=true→ahv p (a++b)=a.length+ahv p b
 |[],b,_=>by simp
 |c::a,b,h=>by
  rw [zaR,zai]at h
  rw [zay,ahv,if_pos h.1,asm p a b h.2,zad];omega
theorem awo(p:UInt8→Bool)(c:UInt8)(l:Str)(h:p c=false):ahv p (c::l)=0:=by rw [ahv,if_neg (by simp [h])]
theorem char_blank(fu:Nat)(c:UInt8):akt fu c=some (aac c):=by
 show akt 0 c=_
 revert c;exact aae _ (by decide+kernel)
theorem char_control(fu:Nat)(c:UInt8):aip fu c=some (aax c):=by
 show aip 0 c=_
 revert c;exact aae _ (by decide+kernel)
theorem char_escaped(fu:Nat)(c:UInt8):alr fu c=some (asr c):=by
 show alr 0 c=_
 revert c;exact aae _ (by decide+kernel)
theorem blanks_eq(s:Str)(hs:s.length≤4194304)(i:Int):alj FU s i=some ((aap aac s i:Nat):Int):=by
 unfold alj ain
 have hc:=clampN_le i s.length
 rw [clamp_int,skip_gen aac s (aev FU s) ?_ ?_ ?_ (s.length-are i s.length) _ FU omg (by rw [ahy];omega)]
 ·rfl
 ·intro fk;rw [agd,adj,if_neg omg];rfl
 ·intro fk k hk h;rw [agd,adj,if_pos omg,gok,char_blank,h];rfl
 ·intro fk k hk h;rw [agd,adj,if_pos omg,gok,char_blank,h,zaa,zaa,cond_true,gok]
def rdw(p:UInt8→Bool)(l:Str):Str:=(l.reverse.dropWhile p).reverse
theorem rdw_cons(p:UInt8→Bool)(c:UInt8)(l:Str):rdw p (c::l)=if rdw p l=[]then(if p c then []else [c])else c::rdw p l:=by
 unfold rdw
 rw [List.reverse_cons,List.dropWhile_append]
 cases h:l.reverse.dropWhile p with
 |nil=>cases hp:p c<;>simp [hp]
 |cons a t=>simp
theorem rdw_snoc(p:UInt8→Bool)(l:Str)(c:UInt8):rdw p (l++[c])=if p c then rdw p l else l++[c]:=by
 unfold rdw
 rw [List.reverse_append,List.reverse_singleton,zaM,List.dropWhile_cons]
 split<;>simp
theorem rdw_comm(p:UInt8→Bool):∀l:Str,(rdw p l).dropWhile p=rdw p (l.dropWhile p)
 |[]=>rfl
 |c::l=>by
  have ih:=rdw_comm p l
  cases hp:p c
  ·have e:List.dropWhile p (c::l)=c::l:=by simp [hp]
   rw [e,rdw_cons]
   split<;>simp [hp]
  ·have e:List.dropWhile p (c::l)=l.dropWhile p:=by simp [hp]
   rw [e,←ih,rdw_cons]
   split
   ·rename_i h;simp [h,hp]
   ·simp [hp]
def aat(s:Str):Str:=rdw aac (s.dropWhile aac)
theorem blank_set:(fun c=>([32,9]:Str).contains c)=aac:=by
 funext c;revert c;exact aae _ (by decide+kernel)
theorem trimS_eq(s:Str):Lib.trimS s [32,9]=aat s:=by
 unfold Lib.trimS zbp Lib.trimRightS aat
 rw [blank_set];exact rdw_comm aac s
theorem trim_eq(s:Str)(hs:s.length≤4194304):afx FU s=some (aat s):=by
 unfold afx
 rw [gok,aaa (by decide),trimS_eq]
theorem dropWhile_span(p:UInt8→Bool):∀l:Str,l.drop (ahv p l)=l.dropWhile p
 |[]=>rfl
 |c::l=>by
  have ih:=dropWhile_span p l
  cases hp:p c
  ·simp [ahv,hp]
  ·simp [ahv,hp,ih]
theorem skipL_zero(p:UInt8→Bool)(s:Str):aap p s 0=ahv p s:=by
 have h0:are 0 s.length=0:=by unfold are;omega
 unfold aap;rw [h0];simp
theorem rdw_len(p:UInt8→Bool)(l:Str):(rdw p l).length≤l.length:=by
 unfold rdw;have:=axb p l.reverse;simpa using this
theorem anj(s:Str):(aat s).length≤s.length:=zaF (rdw_len _ _) (axb _ _)
def unqL:Str→Nat→Str→Str×Int×UInt8
 |[],k,_=>([],(k:Int),6)
 |[c],k,acc=>if c=34 then(acc,((k+1:Nat):Int),0)else if c=92 then([],((k+1:Nat):Int),6)else if aax c then([],(k:Int),5)else([],((k+1:Nat):Int),6)
 |c::d::r,k,acc=>
  if c=34 then(acc,((k+1:Nat):Int),0)
  else if c=92 then(if asr d then unqL r (k+2) (acc++[d])else([],(k:Int),5))
  else if aax c then([],(k:Int),5)else unqL (d::r) (k+1) (acc++[c])
theorem aud(c:UInt8)(l:Str)(k:Nat)(acc:Str):unqL (c::l) k acc=
  if c=34 then(acc,((k+1:Nat):Int),0)
  else if c=92 then(if l=[]then([],((k+1:Nat):Int),6)else if asr (at_ l 0)then unqL (l.drop 1) (k+2) (acc++[at_ l 0])else([],(k:Int),5))
  else if aax c then([],(k:Int),5)else unqL l (k+1) (acc++[c]):=by
 cases l with
 |nil=>simp [unqL]
 |cons d r=>simp [unqL,at_]
def auc(s:Str)(i:Int):Str×Int×UInt8:=
 if i<0∨(s.length:Int)<i then([],0,2)
 else if i=(s.length:Int)∨at_ s i≠34 then([],i,5)
 else unqL (s.drop (i.toNat+1)) (i.toNat+1) []
theorem at_drop1(s:Str)(k:Nat):at_ (s.drop k) 0=at_ s (k:Int):=by simp [at_]
theorem drop_nil_iff(s:Str)(k:Nat):s.drop k=[]↔s.length≤k:=by rw [List.drop_eq_nil_iff]
def unqFin(s:Str)(j:((Str×Int)⊕(Str×Int×UInt8))):Option (Str×Int×UInt8):=
 zaO (fun(v:(Str×Int))=>(if(s.length:Int)≤v.2 then some (([]:Str),(s.length:Int),(6:UInt8))else(gd (abt (v.2+(1:Int)))<|some (v.1,v.2+(1:Int),(0:UInt8))))) (fun q=>some q) j
theorem unq_lp(s:Str)(hs:s.length≤4194304)(n:Nat):∀(k fk:Nat) (acc:Str),s.length-k≤n→n<fk→k≤s.length→acc.length≤k→
  ((anb FU s fk acc (k:Int)).bind (unqFin s))=some (unqL (s.drop k) k acc):=by
 induction n with
 |zero=>
  intro k fk acc hn hf hk ha
  obtain⟨fk,rfl⟩:=fkx fk
  obtain rfl:k=s.length:=by omega
  rw [aop,aiq,if_neg omg,List.drop_length,zaa]
  unfold unqFin
  rw [zaA,if_pos (by simp)];rfl
 |succ n ih=>
  intro k fk acc hn hf hk ha
  obtain⟨fk,rfl⟩:=fkx fk
  by_cases hl:k<s.length
  ·rw [drop_at s k hl,aud,aop,aiq,if_pos omg,gok]
   by_cases h1:at_ s (k:Int)=34
   ·rw [if_pos h1,if_pos h1,zaa]
    unfold unqFin
    rw [zaA,if_neg (by simp;omega),aaa (aef _ (by simp;omega) (by simp;omega))];rfl
   ·rw [if_neg h1,if_neg h1]
    by_cases h2:at_ s (k:Int)=92
    ·rw [if_pos h2,if_pos h2,gok]
     by_cases h3:k+1=s.length
     ·rw [if_pos omg,if_pos ((drop_nil_iff s (k+1)).2 omg),zaa]
      unfold unqFin
      rw [zbg,h3]
     ·rw [if_neg omg,if_neg (fun h=>h3 (by have:=(drop_nil_iff s (k+1)).1 h;omega)),gok,gok,char_escaped,zaa,at_drop1,ahl]
      cases h4:asr (at_ s ((k+1:Nat):Int))
      ·rfl
      ·rw [zaz,cond_false,if_pos rfl,gok,gok,gok,gok,zbu,ahl,
        ih (k+1+1) fk _ omg omg omg (by simp;omega)]
    ·rw [if_neg h2,if_neg h2,char_control,zaa]
     cases h4:aax (at_ s (k:Int))
     ·rw [cond_false,if_neg (by decide),gok,gok,gok,ahl,ih (k+1) fk _ omg omg omg (by simp;omega)]
     ·rfl
  ·obtain rfl:k=s.length:=by omega
   rw [aop,aiq,if_neg omg,List.drop_length,zaa]
   unfold unqFin
   rw [zaA,if_pos (by simp)];rfl
theorem unquote_eq(s:Str)(hs:s.length≤4194304)(i:Int):amg FU s i=some (auc s i):=by
 unfold amg auc
 by_cases h1:i<0
 ·rw [if_pos h1,if_pos (show i<0∨(s.length:Int)<i from .inl h1)];rfl
 ·rw [if_neg h1,zaa]
  by_cases h2:(s.length:Int)<i
  ·rw [decide_eq_true h2,if_pos (show i<0∨(s.length:Int)<i from .inr h2)];rfl
  ·rw [decide_eq_false h2,cond_false,if_neg (show¬(i<0∨(s.length:Int)<i)by omega)]
   by_cases h3:i=(s.length:Int)
   ·rw [if_pos h3,if_pos (show i=(s.length:Int)∨at_ s i≠34 from .inl h3)];rfl
   ·rw [if_neg h3,gok,zaa]
    by_cases h4:at_ s i=34
    ·rw [decide_eq_true h4,zaz,cond_false,if_neg (by simp [h3,h4]),gok]
     obtain⟨k,rfl⟩:∃k:Nat,i=(k:Int):=⟨i.toNat,by omega⟩
     exact unq_lp s hs s.length (k+1) FU [] omg (by rw [ahy];omega) omg (by simp)
    ·rw [decide_eq_false h4,if_pos (show i=(s.length:Int)∨at_ s i≠34 from .inr h4)];rfl
open List renaming all_cons → zaR, drop_zero → zbs, length_append → zab, length_cons → zad, length_nil → zaj, length_singleton → zae, nil_append → zax
theorem all_gen{β:Type}(p:UInt8→Bool)(s:Str)(r:β)(F:Nat→Int→Option (Unit⊕β))
  (h0:∀fk,F (fk+1) (s.length:Int)=some (.inl ()))
  (h1:∀fk (k:Nat),k<s.length→p (at_ s k)=false→F (fk+1) (k:Int)=some (.inr r))
  (h2:∀fk (k:Nat),k<s.length→p (at_ s k)=true→F (fk+1) (k:Int)=F fk ((k:Int)+1)) (n:Nat):
  ∀(k fk:Nat),k+n=s.length→n<fk→F fk (k:Int)=some (if(s.drop k).all p=true then .inl ()else .inr r):=by
 induction n with
 |zero=>
  intro k fk hk hf
  obtain⟨fk,rfl⟩:=fkx fk
  obtain rfl:k=s.length:=by omega
  rw [h0,List.drop_length];rfl
 |succ n ih=>
  intro k fk hk hf
  obtain⟨fk,rfl⟩:=fkx fk
  rw [drop_at s k omg,zaR]
  cases h:p (at_ s k)
  ·rw [h1 fk k omg h];rfl
  ·rw [h2 fk k omg h,ahl,ih (k+1) fk omg omg];simp
theorem all_gen0{β:Type}(p:UInt8→Bool)(s:Str)(hs:s.length≤4194304)(r:β)(F:Nat→Int→Option (Unit⊕β))
  (h0:∀fk,F (fk+1) (s.length:Int)=some (.inl ()))
  (h1:∀fk (k:Nat),k<s.length→p (at_ s k)=false→F (fk+1) (k:Int)=some (.inr r))
  (h2:∀fk (k:Nat),k<s.length→p (at_ s k)=true→F (fk+1) (k:Int)=F fk ((k:Int)+1)):F FU 0=some (if s.all p=true then .inl ()else .inr r):=by
 have:=all_gen p s r F h0 h1 h2 s.length 0 FU omg (by rw [ahy];omega)
 rw [zbs]at this
 exact this
theorem adLower_lp(s:Str)(hs:s.length≤4194304)(l:Str):∀(p:Str) (fk:Nat),p.length+l.length=s.length→l.length<fk→
  anh FU s fk (p++l) (p.length:Int)=some (p++l.map aer):=by
 induction l with
 |nil=>
  intro p fk hk hf
  obtain⟨fk,rfl⟩:=fkx fk
  simp only [zaj]at hk
  rw [ata,alu,if_neg omg];rfl
 |cons c l ih0=>
  intro p fk hk hf
  obtain⟨fk,rfl⟩:=fkx fk
  simp only [zad]at hk hf
  have hb:=mid_lt p c l
  have ih:=ih0 (p++[aer c]) fk (by rw [zab,zae];omega) omg
  have ok:abt ((p.length:Int)+1):=aef _ omg omg
  rw [ata,alu,if_pos omg]
  simp only [aaa hb,at_mid,aaa ok,set_mid]
  by_cases h1:65≤c
  ·by_cases h2:c≤90
   ·simp only [if_pos h1,decide_eq_true h2,zaa,cond_true,lowerB_up c h1 h2]
    rw [aso p (aer c),ih];simp
   ·simp only [if_pos h1,decide_eq_false h2,zaa,cond_false]
    rw [lowerB_no c (fun h=>h2 h.2)]at ih
    rw [aso p c,show p++c::l=(p++[c])++l by simp,ih];simp [lowerB_no c (fun h=>h2 h.2)]
  ·simp only [if_neg h1,zaa,cond_false]
   rw [lowerB_no c (fun h=>h1 h.1)]at ih
   rw [aso p c,show p++c::l=(p++[c])++l by simp,ih];simp [lowerB_no c (fun h=>h1 h.1)]
theorem anr(s:Str)(hs:s.length≤4194304):aeb FU s=some (aau s):=by
 unfold aeb
 have:=adLower_lp s hs s [] FU (by simp) (by rw [ahy];omega)
 simp only [zax,zaj,Int.natCast_zero,Int.cast_ofNat_Int]at this
 rw [this];rfl
theorem ad_letter(c:UInt8):ako FU c=some (letterB c):=by revert c;exact aae _ (by decide+kernel)
theorem ad_digit(c:UInt8):aem FU c=some (adc c):=by revert c;exact aae _ (by decide+kernel)
theorem ad_hex':∀c:UInt8,(afn FU c).map (·.2)=some (hexB c):=aae _ (by decide+kernel)
theorem ad_hex(c:UInt8):∃v,afn FU c=some (v,hexB c):=by
 obtain⟨⟨v,b⟩,h1,h2⟩:=Option.map_eq_some_iff.1 (ad_hex' c)
 exact⟨v,by rw [h1,←h2]⟩
def psp(y:Str)(l:List Str):List Str:=match l with|x::r=>(y++x)::r|[]=>[y]
theorem auf(c:UInt8)(l:Str):spl c (c::l)=[]::spl c l:=by rw [spl,if_pos rfl]
theorem asa(c b:UInt8)(l:Str)(h:b≠c):spl c (b::l)=psp [b] (spl c l):=by
 rw [spl,if_neg h]
 cases spl c l<;>rfl
theorem sub_self'(s:Str)(k:Nat):sub s (k:Int) (k:Int)=[]:=by unfold sub;simp
open Bool renaming not_false → zaH, not_true → zaz, or_false → zbz
open Go.Lib renaming cut → zaW, index → zaN, join → zau, trimLeftS → zbp
open List renaming length_append → zab, length_cons → zad, length_nil → zaj, length_singleton → zae, set → zaJ
open Nat renaming le_trans → zaF
open Sum renaming elim_inl → zaA
theorem cnd2{α β:Type}(v:α)(b:Bool)(A B:β):(bif !(v,b).2 then A else B)=bif !b then A else B:=rfl
theorem glist_lp1(l:List Str)(x:Int)(hg:(el l x).length≤4194304):aha FU l x FU 0=some (if(el l x).all hexB=true then .inl ()else .inr ([],false)):=by
 refine all_gen0 hexB (el l x) hg (([]:List Str),false) (aha FU l x) ?_ ?_ ?_
 ·intro fk;rw [alm,agn,if_neg omg]
 ·intro fk k hk h
  obtain⟨v,h3⟩:=ad_hex (at_ (el l x) k)
  rw [h]at h3
  rw [alm,agn,if_pos omg,gok,h3]
  simp only [zaa,zaH,cond_true]
 ·intro fk k hk h
  obtain⟨v,h3⟩:=ad_hex (at_ (el l x) k)
  rw [h]at h3
  rw [alm,agn,if_pos omg,gok,h3,zaa,cnd2,zaz,cond_false,gok]
theorem glist_lp(s:Str)(hs:s.length≤4194304)(n:Nat):∀(k fk:Nat),k+n=(spl 58 s).length→n<fk→((spl 58 s).take k).all arb=true→
  afj FU s fk (avh (spl 58 s) k) (k:Int)=some (if(spl 58 s).all arb=true then .inl ((spl 58 s).map aus)else .inr ([],false)):=by
 have hb:=spl_sum 58 s
 induction n with
 |zero=>
  intro k fk hk hf hp
  obtain⟨fk,rfl⟩:=fkx fk
  obtain rfl:k=(spl 58 s).length:=by omega
  rw [List.take_length]at hp
  rw [aps,aim,if_neg omg,if_pos hp,grpMix_all]
 |succ n ih=>
  intro k fk hk hf hp
  obtain⟨fk,rfl⟩:=fkx fk
  have hlt:k<(spl 58 s).length:=by omega
  have hml:=grpMix_len (spl 58 s) k omg
  have hin:(0:Int)≤(k:Int)∧(k:Int)<((avh (spl 58 s) k).length:Int):=by omega
  have he:=grp_el (spl 58 s) k hlt
  have hel:(el (spl 58 s) (k:Int)).length≤4194304:=zaF (hb.2 _ (el_mem' _ k hlt)) hs
  have fail:arb (el (spl 58 s) (k:Int))=false→(spl 58 s).all arb=false:=fun h=>all_false_at' arb _ k hlt h
  rw [aps,aim,if_pos omg,aaa hin,aaa hin,he]
  by_cases h1:((el (spl 58 s) (k:Int)).length:Int)<1
  ·rw [if_pos h1,fail (grpOk_no1 _ (.inl h1))];rfl
  ·rw [if_neg h1,zaa]
   by_cases h2:4<((el (spl 58 s) (k:Int)).length:Int)
   ·rw [decide_eq_true h2,fail (grpOk_no1 _ (.inr h2))];rfl
   ·rw [decide_eq_false h2,cond_false,glist_lp1 _ _ (by rw [he];exact hel),he,zaa]
    cases hx:(el (spl 58 s) (k:Int)).all hexB with
    |false=>rw [fail (grpOk_no2 _ hx)];rfl
    |true=>
     have hok:=grpOk_yes _ h1 h2 hx
     rw [if_pos rfl,zaA,anr _ hel,zaa,aaa (by simp [aau];omega),aaa (by decide)]
     have step:∀v,v=aus (el (spl 58 s) (k:Int))→afj FU s fk (zaJ (avh (spl 58 s) k) (zan (k:Int)) v) ((k:Int)+1)=some (if(spl 58 s).all arb=true then .inl ((spl 58 s).map aus)else .inr ([],false)):=fun v hv=>by
      rw [←grp_step (spl 58 s) k v hlt hv,ahl]
      exact ih (k+1) fk omg omg (all_take_snoc' arb _ k hlt hp hok)
     have ok:abt ((k:Int)+1):=aef _ omg omg
     by_cases hz:zbp (aau (el (spl 58 s) (k:Int))) [48]=[]
     ·rw [if_pos hz,aaa hin,aaa hin,zaa,zaA,aaa ok,step [48] (grpN_zero _ hz)]
     ·rw [if_neg hz,aaa hin,aaa hin,zaa,zaA,aaa ok,step (zbp (aau (el (spl 58 s) (k:Int))) [48]) (grpN_else _ hz)]
theorem glist_eq(s:Str)(hs:s.length≤4194304):age FU s=some (agu s):=by
 have hb:=spl_sum 58 s
 have:=glist_lp s hs (spl 58 s).length 0 FU omg (by rw [ahy];omega) rfl
 rw [grpMix_zero]at this
 have this':afj FU s FU (spl 58 s) (0:Int)=_:=this
 unfold age
 rw [aaa omg,this',zaa]
 cases ha:(spl 58 s).all arb with
 |false=>rw [grpList_no s ha];rfl
 |true=>rw [grpList_yes s ha];rfl
theorem glist0(x:Str)(hx:x.length≤4194304):(if x=([]:Str)then some (([]:List Str),true)else((age FU x).bind fun(y49:((List Str)×Bool))=>some (y49.1,y49.2)))=some (ann x):=by
 by_cases h:x=[]
 ·rw [if_pos h,grpL0_nil x h]
 ·rw [if_neg h,grpL0_else x h,glist_eq x hx];rfl
theorem grpL0_bd(x:Str):(ann x).1.length≤x.length+1∧∀y∈(ann x).1,y.length≤4:=by
 unfold ann
 split
 ·simp
 ·exact awg x
theorem joinL0(x:Str)(h:x.length≤4194304):(zau (ann x).1 [58]).length≤24000000:=by
 have h1:=grpL0_bd x
 have h2:=asp [58] 4 (ann x).1 h1.2
 simp only [zae]at h2
 omega
theorem adGroups_eq(s:Str):apz FU s=some (ara s):=by
 unfold apz ara
 by_cases h39:39<s.length
 ·rw [if_pos omg,if_pos h39]
 ·rw [if_neg omg,if_neg h39,aaa omg]
  have hc:=cut_len s [58,58]
  cases hd:(zaW s [58,58]).2.2 with
  |false=>
   have h1:=awg s
   rw [zaH,cond_true,if_pos rfl,glist_eq s omg,zaa,aaa ⟨by omega,join_grp s omg⟩]
   cases h2:(agu s).2<;>rfl
  |true=>
   rw [zaz,cond_false,glist0 _ omg,zaa,glist0 _ omg,zaa,if_neg (show¬(true=false)by decide)]
   have b1:=grpL0_bd (zaW s [58,58]).1
   have b2:=grpL0_bd (zaW s [58,58]).2.1
   have j1:=joinL0 (zaW s [58,58]).1 omg
   have j2:=joinL0 (zaW s [58,58]).2.1 omg
   cases h1:(ann (zaW s [58,58]).1).2
   ·simp
   ·cases h2:(ann (zaW s [58,58]).2.1).2
    ·simp
    ·rw [zaz,cond_false,cond_false,gok,zaa,zbz,Bool.false_or]
     by_cases h7:7<((ann (zaW s [58,58]).1).1.length:Int)+((ann (zaW s [58,58]).2.1).1.length:Int)
     ·rw [decide_eq_true h7,if_pos rfl];rfl
     ·rw [decide_eq_false h7,if_neg (by decide),cond_false,aaa ⟨by omega,by omega⟩,aaa (by simp only [zad,zaj];omega),aaa ⟨by omega,by omega⟩,aaa (by simp only [zab,zad,zaj];omega)]
theorem index_ge(p:Str):∀l:Str,-1≤zaN l p
 |[]=>by unfold zaN;split<;>omega
 |b::l=>by
  have:=index_ge p l
  rw [zaN]
  split
  ·omega
  ·split
   ·omega
   ·omega
theorem awf(p:Str)(b:UInt8)(l:Str):zaN (b::l) p=if p.isPrefixOf (b::l)=true then 0 else if zaN l p= -1 then-1 else zaN l p+1:=by
 rw [zaN]
 split
 ·rfl
 ·by_cases h:zaN l p= -1
  ·rw [if_pos h,if_pos (by simpa using h)]
  ·rw [if_neg h,if_neg (by simpa using h)]
theorem cut_eq(s p:Str):zaW s p=if zaN s p= -1 then(s,[],false)else(s.take (zaN s p).toNat,s.drop ((zaN s p).toNat+p.length),true):=by
 unfold zaW
 have:=index_ge p s
 by_cases h:zaN s p= -1
 ·rw [if_pos h,if_neg omg]
 ·rw [if_neg h,if_pos omg]
open Bool renaming not_false → zaH, not_true → zaz, true_and → zaS
open Go.Lib renaming index → zaN, itoa → zat
open List renaming all_cons → zaR, any_cons → zbo, append_nil → zam, drop_zero → zbs, eq_nil_of_length_eq_zero → zap, length → zbl, length_append → zab, length_cons → zad, length_drop → zaq, length_singleton → zae, length_take → zaE
open Nat renaming le_refl → zao, le_trans → zaF
open Sum renaming elim → zaO, elim_inl → zaA
theorem dig_sub(c:UInt8)(h:adc c=true):(c-48).toNat=c.toNat-48∧c.toNat≤57∧48≤c.toNat:=by
 have hc:=(digitB_iff c).1 h
 have h48:(48:UInt8)≤c:=by rw [UInt8.le_iff_toNat_le];show 48≤c.toNat;omega
 exact⟨by rw [UInt8.toNat_sub_of_le _ _ h48];rfl,by omega,by omega⟩
theorem nums_lp1(s:Str)(x:Int)(hg:(el (spl 46 s) x).length≤15)(l:Str):∀(p:Str) (fk:Nat),el (spl 46 s) x=p++l→l.length<fk→p.all adc=true→
  aie FU s x fk (ajd p:Int) (p.length:Int)=some (if l.all adc=true then .inl (ajd (el (spl 46 s) x):Int)else .inr false):=by
 induction l with
 |nil=>
  intro p fk h hf hp
  obtain⟨fk,rfl⟩:=fkx fk
  rw [zam]at h
  rw [arm,akc,if_neg (by rw [h];omega),h];rfl
 |cons c l ih=>
  intro p fk h hf hp
  obtain⟨fk,rfl⟩:=fkx fk
  have hl:=congrArg zbl h
  simp only [zab,zad]at hl hf
  have hb:(0:Int)≤(p.length:Int)∧(p.length:Int)<((el (spl 46 s) x).length:Int):=by omega
  have ha:at_ (el (spl 46 s) x) (p.length:Int)=c:=by rw [h,at_mid]
  have hv:=decVal_lt 14 p omg hp
  rw [arm,akc,if_pos hb.2,aaa hb,ha,ad_digit,zaa,zaR]
  cases hc:adc c with
  |false=>rfl
  |true=>
   have hd:=dig_sub c hc
   rw [zaz,cond_false,hd.1,aaa (aef _ omg omg),aaa hb,aaa (aef _ omg omg),aaa (aef _ omg omg),zaS]
   have e:(10:Int)*(ajd p:Int)+((c.toNat-48:Nat):Int)=(ajd (p++[c]):Int):=by rw [axc];omega
   rw [e,aso p c]
   exact ih (p++[c]) fk (by rw [h];simp) omg (by rw [List.all_append,hp];simpa using hc)
theorem nums_lp(s:Str)(hs:s.length≤15)(n:Nat):∀(k fk:Nat),k+n=(spl 46 s).length→n<fk→
  aif FU s fk (k:Int)=some (if((spl 46 s).drop k).all octOk=true then .inl ()else .inr false):=by
 have hb:=spl_sum 46 s
 induction n with
 |zero=>
  intro k fk hk hf
  obtain⟨fk,rfl⟩:=fkx fk
  obtain rfl:k=(spl 46 s).length:=by omega
  rw [arn,akd,if_neg omg,List.drop_length];rfl
 |succ n ih=>
  intro k fk hk hf
  obtain⟨fk,rfl⟩:=fkx fk
  have hlt:k<(spl 46 s).length:=by omega
  have hin:(0:Int)≤(k:Int)∧(k:Int)<((spl 46 s).length:Int):=by omega
  have hel:(el (spl 46 s) (k:Int)).length≤15:=zaF (hb.2 _ (el_mem' _ k hlt)) hs
  have hd:(spl 46 s).drop k=el (spl 46 s) (k:Int)::(spl 46 s).drop (k+1):=by rw [el_nat _ _ hlt,List.drop_eq_getElem_cons hlt]
  have h1:=nums_lp1 s (k:Int) hel (el (spl 46 s) (k:Int)) [] FU (by simp) (by rw [ahy];omega) rfl
  have h1':aie FU s (k:Int) FU (0:Int) (0:Int)=_:=h1
  rw [arn,akd,if_pos omg,aaa hin,aaa hin,h1',zaa,hd,zaR]
  cases hx:(el (spl 46 s) (k:Int)).all adc with
  |false=>rw [octOk_no1 _ hx];rfl
  |true=>
   have hv:=decVal_lt 15 _ hel hx
   rw [if_pos rfl,zaA]
   by_cases h2:el (spl 46 s) (k:Int)=[]
   ·rw [if_pos h2,octOk_no2 _ (.inl (.inl h2))];rfl
   ·rw [if_neg h2]
    by_cases h3:255<(ajd (el (spl 46 s) (k:Int)):Int)
    ·rw [if_pos h3,octOk_no2 _ (.inl (.inr h3))];rfl
    ·rw [if_neg h3,aaa (aef _ omg omg),zaa]
     by_cases h4:el (spl 46 s) (k:Int)=zat (ajd (el (spl 46 s) (k:Int)):Int)
     ·rw [decide_eq_true h4,zaz,cond_false,zaa,zaA,aaa (aef _ omg omg),octOk_yes _ hx h2 h3 h4,zaS]
      exact ih (k+1) fk omg omg
     ·rw [decide_eq_false h4,octOk_no2 _ (.inr h4)];rfl
theorem adNumbers_eq(s:Str):apa FU s=some (numsP s):=by
 unfold apa
 by_cases h:15<(s.length:Int)
 ·rw [if_pos h,numsP_long s h]
 ·have hb:=spl_sum 46 s
  have:=nums_lp s omg (spl 46 s).length 0 FU omg (by rw [ahy];omega)
  rw [zbs]at this
  have this':aif FU s FU (0:Int)=_:=this
  rw [if_neg h,aaa omg,this',zaa]
  cases ha:(spl 46 s).all octOk with
  |false=>rw [numsP_no s ha];rfl
  |true=>rw [numsP_fin s h ha];rfl
def labB(c:UInt8):Bool:=letterB c||adc c||c==45
def avm(x:Str):Bool:=decide (1≤x.length)&&decide (x.length≤63)&& !(at_ x 0==45)&& !(at_ x ((x.length:Int)-1)==45)&&x.all labB
def labW(x:Str):Bool:=x.any (fun c=> !adc c)
def badL(x:Str):Bool:=decide ((x.length:Int)<1)||decide (63<(x.length:Int))||(at_ x 0==45)||(at_ x ((x.length:Int)-1)==45)
theorem lab_bad(x:Str):avm x=(!badL x&&x.all labB):=by
 unfold avm badL
 have e1:decide (1≤x.length)= !decide ((x.length:Int)<1):=by rw [Bool.eq_iff_iff];simp;omega
 have e2:decide (x.length≤63)= !decide (63<(x.length:Int)):=by rw [Bool.eq_iff_iff];simp;omega
 rw [e1,e2]
 simp [Bool.not_or,Bool.and_assoc]
theorem badL_eq(x:Str)(hx:x.length≤4194304):(if(x.length:Int)<(1:Int)then some true else(if(63:Int)<(x.length:Int)then some true else(gd (0≤(0:Int)∧(0:Int)<(x.length:Int))<|(if(at_ x (0:Int))=(45:UInt8)then some true else(gd (abt ((x.length:Int)-(1:Int)))<|(gd (0≤((x.length:Int)-(1:Int))∧((x.length:Int)-(1:Int))<(x.length:Int))<|some (decide ((at_ x ((x.length:Int)-(1:Int)))=(45:UInt8)))))))))=some (badL x):=by
 unfold badL
 by_cases h1:(x.length:Int)<1
 ·rw [if_pos h1,decide_eq_true h1];rfl
 ·rw [if_neg h1,decide_eq_false h1,Bool.false_or]
  by_cases h2:63<(x.length:Int)
  ·rw [if_pos h2,decide_eq_true h2];rfl
  ·rw [if_neg h2,decide_eq_false h2,Bool.false_or,aaa omg]
   by_cases h3:at_ x 0=45
   ·rw [if_pos h3,show(at_ x 0==45)=true by simpa using h3];rfl
   ·rw [if_neg h3,show(at_ x 0==45)=false by simpa using h3,Bool.false_or,aaa (aef _ omg omg),aaa omg];rfl
theorem ad_nlab(c:UInt8):((ako FU c).bind fun(y365:Bool)=>(bif (!y365)then((aem FU c).bind fun(y371:Bool)=>(bif (!y371)then some (!decide (c=(45:UInt8)))else some false))else some false))=some (!labB c):=by
 rw [ad_letter,ad_digit]
 unfold labB
 by_cases h:c=45
 ·subst h;rfl
 ·rw [show(c==45)=false by simpa using h,decide_eq_false h]
  cases letterB c<;>cases adc c<;>rfl
theorem named_lp1(x:Str)(hx:x.length≤4194304)(r:Bool)(l:Str):∀(p:Str) (fk:Nat) (w:Bool),x=p++l→l.length<fk→
  (l.all labB=true→acx FU x r fk (p.length:Int) w=some (0,w||labW l,r))∧(l.all labB=false→∃b,acx FU x r fk (p.length:Int) w=some (1,b,false)):=by
 induction l with
 |nil=>
  intro p fk w h hf
  obtain⟨fk,rfl⟩:=fkx fk
  rw [zam]at h
  refine⟨fun _=> ?_,fun h=>by cases h⟩
  rw [alk,agm,if_neg (by rw [h];omega)];simp [labW]
 |cons c l ih=>
  intro p fk w h hf
  obtain⟨fk,rfl⟩:=fkx fk
  have hl:=congrArg zbl h
  simp only [zab,zad]at hl hf
  have hb:(0:Int)≤(p.length:Int)∧(p.length:Int)<(x.length:Int):=by omega
  have ha:at_ x (p.length:Int)=c:=by rw [h,at_mid]
  have ok:abt ((p.length:Int)+1):=aef _ omg omg
  have hih:=ih (p++[c]) fk (w|| !adc c) (by rw [h];simp) omg
  rw [←aso p c]at hih
  rw [alk,agm,if_pos hb.2,aaa hb,ha,ad_nlab,zaa,zaR]
  cases hc:labB c with
  |false=>exact⟨fun h=>by simp at h,fun _=>⟨w,by rw [zaH,cond_true]⟩⟩
  |true=>
   rw [zaz,cond_false,zaS]
   have e:(bif w then gd (abt ((p.length:Int)+1)) (acx FU x r fk ((p.length:Int)+1) true)else(aem FU c).bind fun(y388:Bool)=>gd (abt ((p.length:Int)+1)) (acx FU x r fk ((p.length:Int)+1) (!y388)))=acx FU x r fk ((p.length:Int)+1) (w|| !adc c):=by
    cases w with
    |true=>rw [cond_true,aaa ok,Bool.true_or]
    |false=>rw [cond_false,ad_digit,zaa,aaa ok,Bool.false_or]
   rw [e]
   refine⟨fun h=> ?_,fun h=>hih.2 h⟩
   rw [hih.1 h]
   simp [labW,Bool.or_assoc]
theorem named_rd(x:Str)(hx:x.length≤4194304)(w r:Bool):(avm x=true→ael FU x w r=some (0,w||labW x,r))∧(avm x=false→∃b,ael FU x w r=some (1,b,false)):=by
 have hlp:=named_lp1 x hx r x [] FU w (by simp) (by rw [ahy];omega)
 unfold ael
 rw [badL_eq x hx,zaa,lab_bad]
 cases hb:badL x with
 |true=>exact⟨fun h=>by simp at h,fun _=>⟨w,by rw [cond_true]⟩⟩
 |false=>
  rw [cond_false,zaH,zaS]
  exact hlp
theorem index1(c:UInt8)(f:Str):(zaN f [c]= -1∧spl c f=[f])∨(0≤zaN f [c]∧zaN f [c]<(f.length:Int)∧spl c f=f.take (zaN f [c]).toNat::spl c (f.drop ((zaN f [c]).toNat+1))):=by
 induction f with
 |nil=>exact .inl ⟨rfl,rfl⟩
 |cons b l ih=>
  rw [awf]
  have e:([c]:Str).isPrefixOf (b::l)=(c==b):=by simp [List.isPrefixOf]
  rw [e]
  by_cases h:b=c
  ·subst h
   right
   rw [if_pos (by simp),auf]
   refine⟨Int.le_refl _,by simp only [zad];omega,by simp⟩
  ·rw [if_neg (by simpa using fun x=>h x.symm),asa c b l h]
   rcases ih with⟨h1,h2⟩|⟨h1,h2,h3⟩
   ·left;rw [if_pos h1,h2];exact⟨rfl,rfl⟩
   ·right
    rw [if_neg omg,h3]
    have e1:(zaN l [c]+1).toNat=(zaN l [c]).toNat+1:=by omega
    refine⟨by omega,by simp only [zad];omega, ?_⟩
    rw [e1]
    simp [psp]
theorem seq_lp(n:Nat):∀(f:Str) (fk:Nat) (w r:Bool),f.length≤n→n<fk→n≤4194304→
  ∃w' f' k,((acj FU [46] 0 fk w r f).bind fun(j115:((Bool×Bool×Str)⊕(Bool×Bool×Str×Nat)))=>zaO (fun(v117:(Bool×Bool×Str))=>((ael FU v117.2.2 v117.1 v117.2.1).bind fun(y190:(Nat×Bool×Bool))=>(if y190.1=0 then some (y190.2.1,y190.2.2,v117.2.2,0)else some (y190.2.1,y190.2.2,v117.2.2,y190.1)))) (fun q=>some q) j115)=some (w',(if(spl 46 f).all avm=true then r else false),f',k)∧
   (k=if(spl 46 f).all avm=true then 0 else 1)∧((spl 46 f).all avm=true→w'=(w||(spl 46 f).any labW)):=by
 induction n with
 |zero=>
  intro f fk w r hf hn h20
  obtain⟨fk,rfl⟩:=fkx fk
  obtain rfl:f=[]:=zap omg
  have e:zaN ([]:Str) [46]= -1:=rfl
  rw [aeg,abw,aaa (by simp),e,if_pos (by decide),zaa,zaA]
  obtain⟨b,hb⟩:=(named_rd [] (by simp) w r).2 rfl
  simp only
  rw [hb,zaa,if_neg (by simp)]
  exact⟨b,[],1,rfl,rfl,fun h=>absurd h (by decide)⟩
 |succ n ih=>
  intro f fk w r hf hn h20
  obtain⟨fk,rfl⟩:=fkx fk
  rw [aeg,abw,aaa omg]
  rcases index1 46 f with⟨h1,h2⟩|⟨h1,h2,h3⟩
  ·rw [if_pos omg,zaa,zaA,h2,zaR,List.all_nil,Bool.and_true]
   simp only
   have hr:=named_rd f omg w r
   cases hl:avm f with
   |true=>
    rw [hr.1 hl,zaa,if_pos rfl]
    exact⟨_,_,0,rfl,rfl,fun _=>by simp⟩
   |false=>
    obtain⟨b,hb⟩:=hr.2 hl
    rw [hb,zaa,if_neg (by simp)]
    exact⟨b,_,1,rfl,rfl,fun h=>by cases h⟩
  ·have e0:zaN f [46]+0=zaN f [46]:=by omega
   have e1:(zaN f [46]+((([46]:Str).length:Nat):Int)).toNat=(zaN f [46]).toNat+1:=by simp only [zae];omega
   rw [if_neg omg,e0,aaa (aef _ omg omg),aaa omg,h3,zaR]
   have hr:=named_rd (f.take (zaN f [46]).toNat) (by rw [zaE];omega) w r
   cases hl:avm (f.take (zaN f [46]).toNat)with
   |true=>
    rw [hr.1 hl,zaa,if_pos rfl,aaa (aef _ (by simp only [zae];omega) (by simp only [zae];omega)),aaa (by simp only [zae];omega),e1,zaS]
    obtain⟨w',f',k,g1,g2,g3⟩:=ih (f.drop ((zaN f [46]).toNat+1)) fk (w||labW (f.take (zaN f [46]).toNat)) r (by rw [zaq];omega) omg omg
    exact⟨w',f',k,g1,g2,fun h=>by rw [g3 h,zbo,Bool.or_assoc]⟩
   |false=>
    obtain⟨b,hb⟩:=hr.2 hl
    rw [hb,zaa,if_neg (by simp),zaa]
    exact⟨b,_,1,rfl,rfl,fun h=>by cases h⟩
def avw(s:Str):Bool:=decide (1≤s.length)&&decide (s.length≤255)&&(spl 46 s).all avm&&(spl 46 s).any labW
theorem adNamed_eq(s:Str)(hs:s.length≤4194304):aml FU s=some (avw s):=by
 unfold aml avw
 by_cases h1:(s.length:Int)<1
 ·rw [if_pos h1,show decide (1≤s.length)=false by(rw [decide_eq_false_iff_not];omega)];rfl
 ·rw [if_neg h1,show decide (1≤s.length)=true by(rw [decide_eq_true_eq];omega),zaa,zaS]
  by_cases h2:255<(s.length:Int)
  ·rw [decide_eq_true h2,show decide (s.length≤255)=false by(rw [decide_eq_false_iff_not];omega)];rfl
  ·rw [decide_eq_false h2,cond_false,show decide (s.length≤255)=true by(rw [decide_eq_true_eq];omega),zaS]
   obtain⟨w',f',k,g1,g2,g3⟩:=seq_lp s.length s FU false false (zao _) (by rw [ahy];omega) hs
   unfold aoa anz
   rw [zaa,zaa]
   unfold adr
   rw [if_neg (by simp),zaa,zaA,g1,zaa]
   simp only
   cases ha:(spl 46 s).all avm with
   |true=>rw [g2,ha,if_pos rfl,if_pos rfl,g3 ha];simp
   |false=>rw [ha]at g2;rw [g2];simp
open Bool renaming and_eq_true → zai, not_true → zaz, true_and → zaS
open Go.Lib renaming cut → zaW, itoa → zat
open List renaming length_append → zab, length_cons → zad, length_nil → zaj, length_singleton → zae, map_congr_left → zbn, mem_cons_of_mem → zaf, mem_cons_self → zak
open UInt8 renaming ofNat → zbm
def numOk(x:Str):Bool:=decide (1≤x.length)&&decide (x.length≤3)&& !(decide (1<x.length)&&(at_ x 0==48))&&x.all adc&&decide (ajd x≤255)
def dg(n:Fin 10):UInt8:=zbm (48+n.val)
theorem dg_of:∀c:UInt8,adc c=true→∃n:Fin 10,c=dg n:=aae _ (by decide+kernel)
theorem oct1:∀a:Fin 10,octOk [dg a]=numOk [dg a]:=by decide+kernel
theorem oct2:∀a b:Fin 10,octOk [dg a,dg b]=numOk [dg a,dg b]:=by decide+kernel
theorem oct3:∀a b c:Fin 10,octOk [dg a,dg b,dg c]=numOk [dg a,dg b,dg c]:=by decide+kernel
theorem itoa255:∀n:Fin 256,(zat (n.val:Int)).length≤3:=by decide+kernel
theorem oct_num(x:Str):octOk x=numOk x:=by
 cases hd:x.all adc with
 |false=>rw [octOk_no1 x hd,numOk,hd];simp
 |true=>
  have hall:=List.all_eq_true.1 hd
  match x,hd,hall with
  |[],_,_=>rfl
  |[a],_,hall=>
   obtain⟨n,rfl⟩:=dg_of a (hall a (by simp))
   exact oct1 n
  |[a,b],_,hall=>
   obtain⟨n,rfl⟩:=dg_of a (hall a (by simp))
   obtain⟨m,rfl⟩:=dg_of b (hall b (by simp))
   exact oct2 n m
  |[a,b,c],_,hall=>
   obtain⟨n,rfl⟩:=dg_of a (hall a (by simp))
   obtain⟨m,rfl⟩:=dg_of b (hall b (by simp))
   obtain⟨k,rfl⟩:=dg_of c (hall c (by simp))
   exact oct3 n m k
  |a::b::c::d::l,hd,_=>
   have h1:numOk (a::b::c::d::l)=false:=by
    unfold numOk
    rw [show decide ((a::b::c::d::l).length≤3)=false by(rw [decide_eq_false_iff_not];simp only [zad];omega)];simp
   rw [h1]
   by_cases hv:ajd (a::b::c::d::l)≤255
   ·refine octOk_no2 _ (.inr fun h=> ?_)
    have:=itoa255 ⟨ajd (a::b::c::d::l),by omega⟩
    simp only at this
    rw [←h]at this
    simp only [zad]at this
    omega
   ·exact octOk_no2 _ (.inl (.inr omg))
def brkB(s:Str):Bool:=decide (2≤s.length)&&(at_ s 0==91)&&(at_ s ((s.length:Int)-1)==93)
def acq(s:Str):Str×Bool:=
 if brkB s=true then(if(ara (sub s 1 ((s.length:Int)-1))).2=true then([91]++(ara (sub s 1 ((s.length:Int)-1))).1++[93],true)else([],false))
 else if numsP s=true then(s,true)else if avw s=true then(aau s,true)else([],false)
theorem brk_eq(s:Str)(hs:s.length≤4194304):(if(2:Int)≤(s.length:Int)then(gd (0≤(0:Int)∧(0:Int)<(s.length:Int))<|(if(at_ s (0:Int))=(91:UInt8)then(gd (abt ((s.length:Int)-(1:Int)))<|(gd (0≤((s.length:Int)-(1:Int))∧((s.length:Int)-(1:Int))<(s.length:Int))<|some (decide ((at_ s ((s.length:Int)-(1:Int)))=(93:UInt8)))))else some false))else some false)=some (brkB s):=by
 unfold brkB
 by_cases h1:(2:Int)≤(s.length:Int)
 ·rw [if_pos h1,show decide (2≤s.length)=true by(rw [decide_eq_true_eq];omega),zaS,aaa omg]
  by_cases h2:at_ s 0=91
  ·rw [if_pos h2,show(at_ s 0==91)=true by simpa using h2,zaS,aaa (aef _ omg omg),aaa omg];rfl
  ·rw [if_neg h2,show(at_ s 0==91)=false by simpa using h2];rfl
 ·rw [if_neg h1,show decide (2≤s.length)=false by(rw [decide_eq_false_iff_not];omega)];rfl
theorem brk_len{s:Str}(h:brkB s=true):2≤s.length:=by
 unfold brkB at h
 simp only [zai,decide_eq_true_eq]at h
 exact h.1.1
theorem grpsP_len(s:Str):(ara s).1.length≤60000000:=by
 unfold ara
 by_cases h39:39<s.length
 ·rw [if_pos h39];simp
 ·rw [if_neg h39]
  have hc:=cut_len s [58,58]
  have j1:=joinL0 (zaW s [58,58]).1 omg
  have j2:=joinL0 (zaW s [58,58]).2.1 omg
  split
  ·have h1:=awg s
   have h2:=asp [58] 4 (agu s).1 h1.2
   simp only [zae]at h2⊢
   omega
  ·split
   ·simp
   ·simp only [zab,zad,zaj];omega
theorem awj(s:Str)(hs:s.length≤4194304):agr FU s=some (acq s):=by
 unfold agr acq
 rw [brk_eq s hs,zaa]
 cases hb:brkB s with
 |true=>
  have h2:=brk_len hb
  have hl:=grpsP_len (sub s 1 ((s.length:Int)-1))
  rw [cond_true,aaa (aef _ omg omg),aaa omg,adGroups_eq,zaa,if_pos rfl]
  cases hg:(ara (sub s 1 ((s.length:Int)-1))).2 with
  |false=>rfl
  |true=>rw [zaz,cond_false,aaa (by simp only [zae];omega),aaa (by simp only [zab,zae];omega),if_pos rfl]
 |false=>
  rw [cond_false,adNumbers_eq,zaa,if_neg (show¬(false=true)by decide)]
  cases hn:numsP s with
  |true=>rfl
  |false=>
   rw [cond_false,adNamed_eq s hs,zaa,if_neg (show¬(false=true)by decide)]
   cases hm:avw s with
   |true=>rw [cond_true,anr s hs];rfl
   |false=>rfl
theorem atf(c:UInt8)(p:UInt8→Bool):∀s:Str,(∀x∈spl c s,x.all p=true)→∀b∈s,p b=true∨b=c
 |[],_,b,hb=>by simp at hb
 |d::l,h,b,hb=>by
  by_cases hd:d=c
  ·subst hd
   rw [auf]at h
   rcases List.mem_cons.1 hb with rfl|hb
   ·exact .inr rfl
   ·exact atf d p l (fun x hx=>h x (zaf _ hx)) b hb
  ·rw [asa c d l hd]at h
   cases hx:spl c l with
   |nil=>exact absurd hx (spl_ne c l)
   |cons y r=>
    rw [hx]at h
    have h0:=h ([d]++y) zak
    rw [List.all_append,zai]at h0
    rcases List.mem_cons.1 hb with rfl|hb
    ·left;simpa using h0.1
    ·refine atf c p l (fun x hx'=> ?_) b hb
     rw [hx]at hx'
     rcases List.mem_cons.1 hx' with rfl|hx'
     ·exact h0.2
     ·exact h x (zaf _ hx')
theorem num_parts(x:Str)(h:numOk x=true):1≤x.length∧x.length≤3∧x.all adc=true:=by
 unfold numOk at h
 simp only [zai,decide_eq_true_eq]at h
 exact⟨h.1.1.1.1,h.1.1.1.2,h.1.2⟩
theorem at_mem(x:Str)(k:Nat)(h:k<x.length):at_ x (k:Int)∈x:=by
 simp [at_,h]
theorem lowerL_id(s:Str)(h:∀b∈s,aer b=b):aau s=s:=by
 unfold aau
 conv=>rhs;rw [←List.map_id s]
 exact zbn fun b hb=>h b hb
theorem hostP_len(s:Str):(acq s).1.length≤60000002+s.length:=by
 have:=grpsP_len (sub s 1 ((s.length:Int)-1))
 unfold acq
 split
 ·split
  ·simp only [zab,zae];omega
  ·simp
 ·split
  ·show s.length≤_;omega
  ·split
   ·simp [aau]
   ·simp
open Bool renaming and_eq_true → zai, not_false → zaH, not_true → zaz
open Go.Lib renaming indexAny → zbf
open List renaming eq_nil_of_length_eq_zero → zap, length_append → zab, length_cons → zad, length_drop → zaq, length_nil → zaj, length_singleton → zae
open Nat renaming le_refl → zao
theorem unqL_bd(n:Nat):∀(l:Str) (k:Nat) (acc:Str),l.length≤n→(unqL l k acc).1.length≤acc.length+l.length∧((unqL l k acc).2.2=0→(k:Int)+1≤(unqL l k acc).2.1∧(unqL l k acc).2.1≤((k+l.length:Nat):Int)):=by
 induction n with
 |zero=>
  intro l k acc hl
  obtain rfl:l=[]:=zap omg
  exact⟨by simp [unqL],fun h=>absurd h (show¬((6:UInt8)=0)by decide)⟩
 |succ n ih=>
  intro l k acc hl
  cases l with
  |nil=>exact⟨by simp [unqL],fun h=>absurd h (show¬((6:UInt8)=0)by decide)⟩
  |cons c l=>
   simp only [zad]at hl
   rw [aud]
   by_cases h1:c=34
   ·rw [if_pos h1];exact⟨by simp,fun _=>⟨by simp,by simp only [zad];omega⟩⟩
   ·rw [if_neg h1]
    by_cases h2:c=92
    ·rw [if_pos h2]
     by_cases h3:l=[]
     ·rw [if_pos h3];exact⟨by simp,fun h=>absurd h (show¬((6:UInt8)=0)by decide)⟩
     ·rw [if_neg h3]
      have hpos:0<l.length:=List.length_pos_iff.2 h3
      cases h4:asr (at_ l 0)with
      |true=>
       rw [if_pos rfl]
       have:=ih (l.drop 1) (k+2) (acc++[at_ l 0]) (by rw [zaq];omega)
       rw [zab,zae,zaq]at this
       exact⟨by simp only [zad];omega,fun h=>⟨by have:=(this.2 h).1;omega,by have:=(this.2 h).2;simp only [zad];omega⟩⟩
      |false=>rw [if_neg (by decide)];exact⟨by simp,fun h=>absurd h (show¬((5:UInt8)=0)by decide)⟩
    ·rw [if_neg h2]
     cases h4:aax c with
     |true=>rw [if_pos rfl];exact⟨by simp,fun h=>absurd h (show¬((5:UInt8)=0)by decide)⟩
     |false=>
      rw [if_neg (by decide)]
      have:=ih l (k+1) (acc++[c]) omg
      rw [zab,zae]at this
      exact⟨by simp only [zad];omega,fun h=>⟨by have:=(this.2 h).1;omega,by have:=(this.2 h).2;simp only [zad];omega⟩⟩
theorem unqP8_bd(s:Str)(k:Nat)(h34:at_ s (k:Int)=34)(hk:k<s.length):(auc s (k:Int)).1.length≤s.length∧((auc s (k:Int)).2.2=0→(k:Int)+2≤(auc s (k:Int)).2.1∧(auc s (k:Int)).2.1≤(s.length:Int)):=by
 unfold auc
 rw [if_neg omg,if_neg (by rintro(h|h);omega;exact h h34)]
 have e:((k:Int).toNat+1)=k+1:=by omega
 rw [e]
 have:=unqL_bd _ (s.drop (k+1)) (k+1) [] (zao _)
 rw [zaq,zaj]at this
 exact⟨by omega,fun h=>⟨by have:=(this.2 h).1;omega,by have:=(this.2 h).2;omega⟩⟩
theorem aqo(s:Str)(hs:s.length≤4194304)(i:Int):acs FU (s,i)=some (s,((aap aac s i:Nat):Int)):=by
 unfold acs;simp only;rw [blanks_eq s hs];rfl
theorem ended_eq(s:Str)(i:Int):adx FU (s,i)=some (decide ((s.length:Int)≤i)):=rfl
def aep(s:Str)(k:Nat)(b:UInt8):Bool:=decide (k<s.length)&&(at_ s (k:Int)==b)
theorem apf(s:Str)(k:Nat)(b:UInt8):aag FU (s,(k:Int)) b=some (aep s k b):=by
 unfold aag aep
 rw [ended_eq,zaa]
 by_cases h:k<s.length
 ·rw [decide_eq_false (show¬(s.length:Int)≤(k:Int)by omega),zaH,cond_true,aaa (by simp only;omega),decide_eq_true h];rfl
 ·rw [decide_eq_true (show(s.length:Int)≤(k:Int)by omega),decide_eq_false h];rfl
theorem tokEndP_eq(s:Str)(hs:s.length≤4194304)(i:Int):afw FU s i=some ((aap aaf s i:Nat):Int):=by
 unfold afw;rw [skipTok_eq s omg];rfl
theorem aiv(p:UInt8→Bool)(s:Str)(k:Nat)(h:k≤s.length):k≤aap p s (k:Int):=by
 unfold aap;rw [aks k _ h];omega
theorem token2_eq(s:Str)(hs:s.length≤4194304)(k:Nat)(hk:k≤s.length):afq FU (s,(k:Int))=some (sub s (k:Int) ((aap aaf s (k:Int):Nat):Int),(s,((aap aaf s (k:Int):Nat):Int))):=by
 have h1:=aiv aaf s k hk
 have h2:=ada aaf s (k:Int)
 unfold afq
 simp only
 rw [tokEndP_eq s hs,zaa,aaa omg]
theorem arz(s:Str)(a b:Nat)(h:b≤s.length)(hab:a≤b):sub s (a:Int) (b:Int)=[]↔b=a:=by
 have:=aqc s (a:Int) (b:Int)
 constructor
 ·intro h';rw [h']at this;simp at this;omega
 ·intro h';apply zap;rw [this];omega
theorem span_not_ixb(c:UInt8)(l:Str):(if(0:Int)≤ixb (·==c) l then ixb (·==c) l else(l.length:Int))=(ahv (fun b=> !(b==c)) l:Int):=by
 rcases atq (·==c) l with⟨h1,h2⟩|⟨h1,h2,h3⟩
 ·rw [if_neg omg,h2]
 ·rw [if_pos h1,h3]
theorem contains1(c:UInt8):(fun b=>([c]:Str).contains b)=(·==c):=by
 funext b
 simp [List.contains_cons]
 rfl
theorem until1_eq(s:Str)(hs:s.length≤4194304)(k:Nat)(hk:k≤s.length)(c:UInt8)(hc:c.toNat<128):aav FU s (k:Int) [c]=some ((k+ahv (fun b=> !(b==c)) (s.drop k):Nat):Int):=by
 have e:((k:Nat):Int).toNat=k:=by omega
 have hd:(s.drop k).length=s.length-k:=zaq
 have h1:=span_not_ixb c (s.drop k)
 have hi:zbf (s.drop k) [c]=ixb (·==c) (s.drop k):=by rw [aql,contains1]
 have hsp:=atq (·==c) (s.drop k)
 unfold aav
 rw [aaa omg,e,aaa ⟨by omega,by simp,by simpa using hc⟩,hi]
 by_cases h:(0:Int)≤ixb (·==c) (s.drop k)
 ·rw [if_pos h]at h1⊢
  rw [aaa (aef _ omg omg),h1];rfl
 ·rw [if_neg h]at h1⊢
  congr 1
  omega
def valP(s:Str)(k:Nat):Str×Int×UInt8:=
 if aep s k 34=true then auc s (k:Int)
 else if aep s k 91=true then
  (if(acq (sub s (k:Int) (min ((k+ahv (fun b=> !(b==93)) (s.drop k):Nat)+1:Int) (s.length:Int)))).2=true then
   ((acq (sub s (k:Int) (min ((k+ahv (fun b=> !(b==93)) (s.drop k):Nat)+1:Int) (s.length:Int)))).1,((k+ahv (fun b=> !(b==93)) (s.drop k):Nat):Int)+1,0)else([],(k:Int),5))
 else if aap aaf s (k:Int)=k then([],(k:Int),5)else(sub s (k:Int) ((aap aaf s (k:Int):Nat):Int),((aap aaf s (k:Int):Nat):Int),0)
theorem ags{s:Str}{k:Nat}{b:UInt8}(h:aep s k b=true):k<s.length∧at_ s (k:Int)=b:=by
 unfold aep at h
 simp only [zai,decide_eq_true_eq,beq_iff_eq]at h
 exact h
theorem valP_bd(s:Str)(hs:s.length≤4194304)(k:Nat)(hk:k≤s.length):(valP s k).1.length≤90000000∧((valP s k).2.2=0→(k:Int)+1≤(valP s k).2.1∧(valP s k).2.1≤(s.length:Int)+1):=by
 unfold valP
 have h1:=aiv aaf s k hk
 have h2:=ada aaf s (k:Int)
 have hsp:=ape (fun b=> !(b==93)) (s.drop k)
 rw [zaq]at hsp
 split
 ·rename_i h
  have:=unqP8_bd s k (ags h).2 (ags h).1
  exact⟨by omega,fun h=>⟨by have:=(this.2 h).1;omega,by have:=(this.2 h).2;omega⟩⟩
 ·split
  ·split
   ·have hh:=hostP_len (sub s (k:Int) (min ((k+ahv (fun b=> !(b==93)) (s.drop k):Nat)+1:Int) (s.length:Int)))
    rw [aqc]at hh
    exact⟨by simp only;omega,fun _=>⟨by simp only;omega,by simp only;omega⟩⟩
   ·exact⟨by simp,fun h=>absurd h (show¬((5:UInt8)=0)by decide)⟩
  ·split
   ·exact⟨by simp,fun h=>absurd h (show¬((5:UInt8)=0)by decide)⟩
   ·rename_i h
    exact⟨by simp only [aqc];omega,fun _=>⟨by simp only;omega,by simp only;omega⟩⟩
theorem rfSees(s:Str)(k:Nat)(b:UInt8):(if(k:Int)<(s.length:Int)then(gd (0≤(k:Int)∧(k:Int)<(s.length:Int))<|some (decide ((at_ s (k:Int))=b)))else some false)=some (aep s k b):=by
 unfold aep
 by_cases h:k<s.length
 ·rw [if_pos omg,aaa omg,decide_eq_true h];rfl
 ·rw [if_neg omg,decide_eq_false h];rfl
theorem lower_nil(l:Str):aau l=[]↔l=[]:=by unfold aau;simp
theorem skip_add1(p:UInt8→Bool)(s:Str)(y:Nat):aap p s ((y:Int)+1)=aap p s ((y+1:Nat):Int):=rfl
def zPrm:Str×Str×Bool:=([],[],false)
def aqe(s:Str)(b:Nat):PQ×Int×UInt8×(Str×Int):=
 if aap aaf s (b:Int)=b then(zPrm,(b:Int),5,(s,(b:Int)))
 else if aep s (aap aac s ((aap aaf s (b:Int):Nat):Int)) 61=false then((aau (sub s (b:Int) ((aap aaf s (b:Int):Nat):Int)),[],false),0,0,(s,((aap aac s ((aap aaf s (b:Int):Nat):Int):Nat):Int)))
 else if(valP s (aap aac s ((aap aac s ((aap aaf s (b:Int):Nat):Int)+1:Nat):Int))).2.2=0 then((aau (sub s (b:Int) ((aap aaf s (b:Int):Nat):Int)),(valP s (aap aac s ((aap aac s ((aap aaf s (b:Int):Nat):Int)+1:Nat):Int))).1,true),0,0,(s,(valP s (aap aac s ((aap aac s ((aap aaf s (b:Int):Nat):Int)+1:Nat):Int))).2.1))
 else(zPrm,(valP s (aap aac s ((aap aac s ((aap aaf s (b:Int):Nat):Int)+1:Nat):Int))).2.1,(valP s (aap aac s ((aap aac s ((aap aaf s (b:Int):Nat):Int)+1:Nat):Int))).2.2,(s,((aap aac s ((aap aac s ((aap aaf s (b:Int):Nat):Int)+1:Nat):Int):Nat):Int)))
theorem listed_eq(s:Str)(hs:s.length≤4194304)(b:Nat)(hb:b≤s.length):ajc FU (s,(b:Int))=some (aqe s b):=by
 unfold ajc aqe
 have ht1:=aiv aaf s b hb
 have ht2:=ada aaf s (b:Int)
 rw [token2_eq s hs b hb,zaa]
 simp only
 generalize ht:aap aaf s (b:Int)=t at ht1 ht2⊢
 have hy2:=ada aac s (t:Int)
 have hy1:=aiv aac s t ht2
 rw [anr _ (by rw [aqc];omega),zaa]
 by_cases hn:t=b
 ·have:aau (sub s (b:Int) (t:Int))=[]:=(lower_nil _).2 ((arz s b t ht2 ht1).2 hn)
  rw [if_pos this,if_pos hn,hn];rfl
 ·have:¬aau (sub s (b:Int) (t:Int))=[]:=fun h=>hn ((arz s b t ht2 ht1).1 ((lower_nil _).1 h))
  rw [if_neg this,if_neg hn,aqo s hs,zaa]
  generalize hy:aap aac s (t:Int)=y at hy1 hy2⊢
  rw [apf,zaa]
  cases h61:aep s y 61 with
  |false=>rw [zaH,cond_true,if_pos rfl]
  |true=>
   rw [zaz,cond_false,if_neg (show¬(true=false)by decide),gok,aqo s hs,zaa,skip_add1]
   have hz2:=ada aac s ((y+1:Nat):Int)
   generalize hz:aap aac s ((y+1:Nat):Int)=z at hz2⊢
   have hq1:=aiv aaf s z hz2
   have hq2:=ada aaf s (z:Int)
   have hsp:=ape (fun b=> !(b==93)) (s.drop z)
   rw [zaq]at hsp
   rw [apf,zaa]
   unfold valP
   cases h34:aep s z 34 with
   |true=>
    rw [cond_true,if_pos rfl,unquote_eq s hs,zaa]
    by_cases he:(auc s (z:Int)).2.2=0
    ·rw [if_pos he,if_pos he]
    ·rw [if_neg he,if_neg he];rfl
   |false=>
    rw [cond_false,if_neg (show¬(false=true)by decide),apf,zaa]
    cases h91:aep s z 91 with
    |true=>
     rw [cond_true,if_pos rfl,until1_eq s hs z hz2 93 (by decide),zaa]
     simp only
     rw [gok,aaa omg,awj _ (by rw [aqc];omega),zaa]
     cases hh:(acq (sub s (z:Int) (min ((z+ahv (fun b=> !(b==93)) (s.drop z):Nat)+1:Int) (s.length:Int)))).2 with
     |false=>rw [zaH,cond_true,if_neg (show¬(false=true)by decide),if_neg (show¬((5:UInt8)=0)by decide)];rfl
     |true=>rw [zaz,cond_false,gok,if_pos rfl,if_pos rfl]
    |false=>
     rw [cond_false,if_neg (show¬(false=true)by decide),token2_eq s hs z hz2,zaa]
     simp only
     by_cases hq:aap aaf s (z:Int)=z
     ·rw [if_pos ((arz s z _ hq2 hq1).2 hq),if_pos hq,if_neg (show¬((5:UInt8)=0)by decide),hq];rfl
     ·rw [if_neg (fun h=>hq ((arz s z _ hq2 hq1).1 h)),if_neg hq,if_pos rfl]
open List renaming drop → zaC, drop_zero → zbs, length_append → zab, length_drop → zaq, length_map → zaK, length_singleton → zae, map_congr_left → zbn, take → zbt
abbrev PP:=Str×Str×Bool
theorem find_gen{α:Type}[Inhabited α](p:α→Bool)(l:List α)(F:Nat→Int→Option (Unit⊕Int))
  (h0:∀fk,F (fk+1) (l.length:Int)=some (.inl ()))
  (h1:∀fk (k:Nat),k<l.length→p (el l k)=true→F (fk+1) (k:Int)=some (.inr (k:Int)))
  (h2:∀fk (k:Nat),k<l.length→p (el l k)=false→F (fk+1) (k:Int)=F fk ((k:Int)+1)) (n:Nat):
  ∀(k fk:Nat),k+n=l.length→n<fk→F fk (k:Int)=some (match(l.drop k).findIdx? p with|none=>.inl ()|some j=>.inr ((k+j:Nat):Int)):=by
 induction n with
 |zero=>
  intro k fk hk hf
  obtain⟨fk,rfl⟩:=fkx fk
  obtain rfl:k=l.length:=by omega
  rw [h0,List.drop_length];rfl
 |succ n ih=>
  intro k fk hk hf
  obtain⟨fk,rfl⟩:=fkx fk
  have hlt:k<l.length:=by omega
  have hd:l.drop k=el l (k:Int)::l.drop (k+1):=by rw [el_nat _ _ hlt,List.drop_eq_getElem_cons hlt]
  rw [hd,List.findIdx?_cons]
  cases h:p (el l (k:Int))with
  |true=>rw [h1 fk k hlt h];rfl
  |false=>
   rw [h2 fk k hlt h,ahl,ih (k+1) fk omg omg]
   cases(l.drop (k+1)).findIdx? p with
   |none=>rfl
   |some j=>
    show some (Sum.inr _)=some (Sum.inr _)
    congr 2
    show((k+1+j:Nat):Int)=((k+(j+1):Nat):Int)
    omega
theorem find_gen0{α:Type}[Inhabited α](p:α→Bool)(l:List α)(hl:l.length≤4194304)(F:Nat→Int→Option (Unit⊕Int))
  (h0:∀fk,F (fk+1) (l.length:Int)=some (.inl ()))
  (h1:∀fk (k:Nat),k<l.length→p (el l k)=true→F (fk+1) (k:Int)=some (.inr (k:Int)))
  (h2:∀fk (k:Nat),k<l.length→p (el l k)=false→F (fk+1) (k:Int)=F fk ((k:Int)+1)):F FU 0=some (match l.findIdx? p with|none=>.inl ()|some j=>.inr ((j:Nat):Int)):=by
 have:=find_gen p l F h0 h1 h2 l.length 0 FU omg (by rw [ahy];omega)
 rw [zbs]at this
 have this':F FU (0:Int)=_:=this
 rw [this']
 cases l.findIdx? p with
 |none=>rfl
 |some j=>
  show some (Sum.inr _)=some (Sum.inr _)
  congr 2
  show((0+j:Nat):Int)=_
  omega
def fIdx(o:Option Nat):Int:=match o with|none=> -1|some j=>(j:Int)
theorem fIdx_any{α:Type}(p:α→Bool)(l:List α):decide ((0:Int)≤fIdx (l.findIdx? p))=l.any p:=by
 rw [←List.findIdx?_isSome]
 cases l.findIdx? p with
 |none=>rfl
 |some j=>show decide ((0:Int)≤(j:Int))=true;rw [decide_eq_true_eq];omega
theorem holds_eq(l:List PP)(hl:l.length≤4194304)(name:Str):amn FU l name=some (l.any fun p=>p.1==name):=by
 have h:=find_gen0 (fun p:PP=>p.1==name) l hl (acw FU l name)
  (fun fk=>by rw [adw,abq,if_neg omg])
  (fun fk k hk h=>by
   have h':(el l (k:Int)).1=name:=by simpa using h
   rw [adw,abq,if_pos omg,aaa omg,aaa omg]
   unfold apb
   rw [zaa,decide_eq_true h',cond_true])
  (fun fk k hk h=>by
   have h':¬(el l (k:Int)).1=name:=by simpa using h
   rw [adw,abq,if_pos omg,aaa omg,aaa omg]
   unfold apb
   rw [zaa,decide_eq_false h',cond_false,gok])
 unfold amn aek aew
 rw [h,zaa]
 have e:zaO (fun(v38:Unit)=>some (-1:Int)) (fun q=>some q) (match l.findIdx? (fun p:PP=>p.1==name)with|none=>(Sum.inl ():Unit⊕Int)|some j=>Sum.inr ((j:Nat):Int))=some (fIdx (l.findIdx? (fun p:PP=>p.1==name))):=by
  cases l.findIdx? (fun p:PP=>p.1==name)<;>rfl
 rw [e,zaa,fIdx_any];rfl
def asb(l:List PP)(name:Str):UInt8:=if(l.any fun p=>p.1==name)=true then 7 else if 16≤l.length then 4 else 0
theorem room_eq(l:List PP)(hl:l.length≤4194304)(name:Str):ans FU l name=some (asb l name):=by
 unfold ans asb
 rw [holds_eq l hl,zaa]
 cases l.any fun p=>p.1==name with
 |true=>rfl
 |false=>
  rw [cond_false,if_neg (show¬(false=true)by decide)]
  by_cases h:16≤l.length
  ·rw [if_pos omg,if_pos h]
  ·rw [if_neg omg,if_neg h]
theorem el_mem2(l:List PP)(k:Nat)(h:k<l.length):el l (k:Int)∈l:=el_mem' l k h
def parM (s : Str) : Nat → List PP → Nat → List PP × Int × UInt8
  | 0, _, _ => ([], 0, 0)
  | f + 1, l, i =>
    if s.length ≤ aap aac s (i : Int) then (l, 0, 0)
    else if ¬ at_ s ((aap aac s (i : Int) : Nat) : Int) = 59 then ([], ((aap aac s (i : Int) : Nat) : Int), 5)
    else if (aqe s (aap aac s ((aap aac s (i : Int) + 1 : Nat) : Int))).2.2.1 = 0 then
      (if asb l (aqe s (aap aac s ((aap aac s (i : Int) + 1 : Nat) : Int))).1.1 = 0 then parM s f (l ++ [(aqe s (aap aac s ((aap aac s (i : Int) + 1 : Nat) : Int))).1]) (aqe s (aap aac s ((aap aac s (i : Int) + 1 : Nat) : Int))).2.2.2.2.toNat
       else ([], ((aap aac s ((aap aac s (i : Int) + 1 : Nat) : Int) : Nat) : Int), asb l (aqe s (aap aac s ((aap aac s (i : Int) + 1 : Nat) : Int))).1.1))
    else ([], (aqe s (aap aac s ((aap aac s (i : Int) + 1 : Nat) : Int))).2.1, (aqe s (aap aac s ((aap aac s (i : Int) + 1 : Nat) : Int))).2.2.1)
theorem low2:∀c:UInt8,aer (aer c)=aer c:=aae _ (by decide+kernel)
theorem lowlowL(l:Str):aau (aau l)=aau l:=by
 unfold aau
 rw [List.map_map]
 apply zbn
 intro c _
 exact low2 c
theorem listP_bd(s:Str)(hs:s.length≤4194304)(b:Nat)(hb:b≤s.length)(h0:(aqe s b).2.2.1=0):(aqe s b).2.2.2.1=s∧(b:Int)+1≤(aqe s b).2.2.2.2∧(aqe s b).2.2.2.2≤(s.length:Int)+1∧aau (aqe s b).1.1=(aqe s b).1.1∧(aqe s b).1.1.length≤s.length∧(aqe s b).1.2.1.length≤90000000:=by
 have ht1:=aiv aaf s b hb
 have ht2:=ada aaf s (b:Int)
 unfold aqe at h0⊢
 generalize ht:aap aaf s (b:Int)=t at ht1 ht2 h0⊢
 have hy2:=ada aac s (t:Int)
 have hy1:=aiv aac s t ht2
 have hlen:(aau (sub s (b:Int) (t:Int))).length≤s.length:=by
  unfold aau;rw [zaK,aqc];omega
 by_cases hn:t=b
 ·rw [if_pos hn]at h0;exact absurd h0 (show¬((5:UInt8)=0)by decide)
 ·rw [if_neg hn]at h0⊢
  generalize hy:aap aac s (t:Int)=y at hy1 hy2 h0⊢
  cases h61:aep s y 61 with
  |false=>
   rw [if_pos rfl]
   exact⟨rfl,by simp only;omega,by simp only;omega,lowlowL _,hlen,by simp⟩
  |true=>
   have hyl:=(ags h61).1
   rw [h61,if_neg (show¬(true=false)by decide)]at h0
   rw [if_neg (show¬(true=false)by decide)]
   have hz1:=aiv aac s (y+1) omg
   have hz2:=ada aac s ((y+1:Nat):Int)
   generalize hz:aap aac s ((y+1:Nat):Int)=z at hz1 hz2 h0⊢
   by_cases hv:(valP s z).2.2=0
   ·have:=valP_bd s hs z hz2
    rw [if_pos hv]
    exact⟨rfl,by simp only;have:=(this.2 hv).1;omega,by simp only;exact(this.2 hv).2,lowlowL _,hlen,this.1⟩
   ·rw [if_neg hv]at h0
    exact absurd h0 hv
theorem params_lp(s:Str)(hs:s.length≤4194304)(n:Nat):∀(k fk:Nat) (l:List PP),s.length-k≤n→n<fk→k≤4194305→l.length≤16→
  aly FU fk l s (k:Int)=some (parM s (n+1) l k):=by
 have ff:¬(false=true):=by decide
 induction n with
 |zero=>
  intro k fk l hn hf hk hl
  obtain⟨fk,rfl⟩:=fkx fk
  have h1:=ada aac s (k:Int)
  have h2:s.length≤aap aac s (k:Int):=by
   unfold aap are
   omega
  rw [arw,alc,aqo s hs,zaa,ended_eq,zaa,decide_eq_true omg,cond_true,parM,if_pos h2]
 |succ n ih=>
  intro k fk l hn hf hk hl
  obtain⟨fk,rfl⟩:=fkx fk
  have h1:=ada aac s (k:Int)
  have hge:k≤s.length→k≤aap aac s (k:Int):=aiv aac s k
  rw [parM,arw,alc,aqo s hs,zaa,ended_eq,zaa]
  generalize hj:aap aac s (k:Int)=j at h1 hge⊢
  by_cases he:s.length≤j
  ·rw [decide_eq_true omg,cond_true,if_pos he]
  ·have hkl:k≤s.length:=by
    rcases Nat.lt_or_ge s.length k with h|h
    ·exfalso
     have:aap aac s (k:Int)=s.length:=by
      have a:=ada aac s (k:Int)
      unfold aap are at a⊢
      omega
     omega
    ·exact h
   rw [decide_eq_false omg,cond_false,if_neg he,apf,zaa]
   have hjl:j<s.length:=by omega
   unfold aep
   rw [decide_eq_true hjl,zaS]
   by_cases h59:at_ s (j:Int)=59
   ·have e59:(at_ s (j:Int)==59)=true:=by simpa using h59
    rw [e59,zaz,cond_false,if_neg (by simpa using h59)]
    simp only
    rw [gok,aqo s hs,zaa,skip_add1]
    have hb2:=ada aac s ((j+1:Nat):Int)
    have hb1:=aiv aac s (j+1) omg
    generalize hb:aap aac s ((j+1:Nat):Int)=b at hb1 hb2⊢
    rw [listed_eq s hs b hb2,zaa]
    by_cases h0:(aqe s b).2.2.1=0
    ·obtain⟨g1,g2,g3,g4,g5,g6⟩:=listP_bd s hs b hb2 h0
     rw [if_pos h0,if_pos h0,room_eq l omg,zaa,zaa]
     by_cases hr:asb l (aqe s b).1.1=0
     ·have hl16:l.length<16:=by
       unfold asb at hr
       split at hr
       ·exact absurd hr (by decide)
       ·split at hr
        ·exact absurd hr (by decide)
        ·omega
      have ee:(aqe s b).2.2.2.2=(((aqe s b).2.2.2.2.toNat:Nat):Int):=by omega
      rw [if_pos hr]
      try simp only
      rw [if_pos hr,aaa (by simp only [zae];omega),g1,ee]
      have:=ih (aqe s b).2.2.2.2.toNat fk (l++[(aqe s b).1]) omg omg omg (by simp only [zab,zae];omega)
      rw [this]
      congr 2
     ·rw [if_neg hr]
      try simp only
      rw [if_neg hr]
    ·rw [if_neg h0,if_neg h0,zaa]
     simp only
     rw [if_neg h0]
   ·have e59:(at_ s (j:Int)==59)=false:=by simpa using h59
    rw [e59,zaH,cond_true,if_pos h59]
def parP(s:Str):List PP×Int×UInt8:=parM s (s.length+1) [] 0
theorem params_eq(s:Str)(hs:s.length≤4194304):ahj FU s=some (parP s):=by
 unfold ahj
 exact params_lp s hs s.length 0 FU [] omg (by rw [ahy];omega) omg (by simp)
def itemE(s:Str):Nat:=if aap aaf s 0=0 then 0 else if aep s (aap aaf s 0) 47=true then(if aap aaf s ((aap aaf s 0+1:Nat):Int)=aap aaf s 0+1 then 0 else aap aaf s ((aap aaf s 0+1:Nat):Int))else aap aaf s 0
def aur(v:Str):(Str×List PP)×UInt8:=
 if itemE (aat v)=0 then(([],[]),5)
 else if(parP ((aat v).drop (itemE (aat v)))).2.2=0 then(((aat v).take (itemE (aat v)),(parP ((aat v).drop (itemE (aat v)))).1),0)
 else(([],[]),(parP ((aat v).drop (itemE (aat v)))).2.2)
theorem item_eq(v:Str)(hv:v.length≤4194304):atw FU v=some (aur v):=by
 have hl:=anj v
 have h1:=ada aaf (aat v) 0
 unfold atw aur itemE
 rw [trim_eq v hv,zaa,tokEndP_eq _ omg,zaa]
 generalize aat v=s at hl h1⊢
 have fin:∀e:Nat,e≤s.length→e≠0→zaO (fun(v41:Int)=>(gd (0≤v41∧v41≤(s.length:Int))<|((ahj FU (zaC (zan v41) s)).bind fun(y66:((List PP)×Int×UInt8))=>(if y66.2.2=(0:UInt8)then(gd (0≤v41∧v41≤(s.length:Int))<|some ((zbt (zan v41) s,y66.1),(0:UInt8)))else some ((([]:Str),([]:List PP)),y66.2.2))))) (fun q=>some q) (.inl (e:Int):Int⊕((Str×List PP)×UInt8))=some (if e=0 then(([],[]),5)else if(parP (s.drop e)).2.2=0 then((s.take e,(parP (s.drop e)).1),0)else(([],[]),(parP (s.drop e)).2.2)):=by
  intro e he h0
  have et:((e:Nat):Int).toNat=e:=by omega
  rw [zaA,aaa omg,et,params_eq _ (by rw [zaq];omega),zaa,if_neg h0]
  by_cases hp:(parP (s.drop e)).2.2=0
  ·rw [if_pos hp,if_pos hp,aaa omg]
  ·rw [if_neg hp,if_neg hp]
 generalize aap aaf s 0=k at h1⊢
 by_cases h0:k=0
 ·subst h0;rfl
 ·rw [if_neg omg,rfSees,zaa,if_neg h0]
  cases h47:aep s k 47 with
  |true=>
   have hk:=(ags h47).1
   have h2:=ada aaf s ((k+1:Nat):Int)
   have h3:=aiv aaf s (k+1) omg
   rw [cond_true,gok,tokEndP_eq _ omg,zaa,gok,skip_add1,if_pos rfl]
   by_cases he:aap aaf s ((k+1:Nat):Int)=k+1
   ·rw [if_pos omg,if_pos he];rfl
   ·rw [if_neg omg,if_neg he,zaa,fin _ h2 omg]
  |false=>
   rw [cond_false,zaa,if_neg (show¬(false=true)by decide),fin _ h1 h0]
open Bool renaming and_eq_true → zai, not_false → zaH, not_true → zaz, true_and → zaS
open Go.Lib renaming join → zau
open List renaming any_cons → zbo, append_nil → zam, flatMap_cons → zas, intercalate → zbw, length → zbl, length_append → zab, length_cons → zad, length_nil → zaj, length_singleton → zae, mem_cons_of_mem → zaf, mem_cons_self → zak, nil_append → zax, take → zbt
open Option renaming bind_some → zaa, map_eq_some_iff → zbb
open Sum renaming elim_inl → zaA, elim_inr → zbg
def quoT(s:Str):Str:=34::(s.flatMap amy++[34])
def quoM(s:Str):Str×UInt8:=if s.any aax=true then([],5)else(quoT s,0)
theorem qstep_len(c:UInt8):(amy c).length≤2:=by unfold amy;split<;>simp
theorem qflat_len:∀s:Str,(s.flatMap amy).length≤2*s.length
 |[]=>by simp
 |c::l=>by
  have h1:=qstep_len c
  have h2:=qflat_len l
  rw [zas,zab,zad];omega
theorem quo_lp(s:Str)(hs:s.length≤4194304)(l:Str):∀(p:Str) (fk:Nat),s=p++l→l.length<fk→
  ajo FU s fk (34::p.flatMap amy) (p.length:Int)=some (if l.any aax=true then .inr ([],5)else .inl (34::s.flatMap amy)):=by
 induction l with
 |nil=>
  intro p fk h hf
  obtain⟨fk,rfl⟩:=fkx fk
  rw [zam]at h
  subst h
  rw [auv,aod,if_neg omg];rfl
 |cons c l ih=>
  intro p fk h hf
  obtain⟨fk,rfl⟩:=fkx fk
  have hl:=congrArg zbl h
  simp only [zab,zad]at hl hf
  have hb:(0:Int)≤(p.length:Int)∧(p.length:Int)<(s.length:Int):=by omega
  have ha:at_ s (p.length:Int)=c:=by rw [h,at_mid]
  have hq:=qflat_len p
  have hih:=ih (p++[c]) fk (by rw [h];simp) omg
  rw [←aso p c,List.flatMap_append,List.flatMap_singleton]at hih
  rw [auv,aod,if_pos hb.2,aaa hb,ha,char_control,zaa,zbo]
  cases hc:aax c with
  |true=>rw [cond_true,Bool.true_or,if_pos rfl]
  |false=>
   rw [cond_false,Bool.false_or]
   have hq34:∀b:Bool,amy c=(bif b then [92,c]else [c])→(bif b then gd (((34::p.flatMap amy).length+([(92:UInt8)]:List UInt8).length)*1≤140737488355328) (some ((34::p.flatMap amy)++([(92:UInt8)]:List UInt8)))else some (34::p.flatMap amy))=some ((34::p.flatMap amy)++(bif b then [92]else [])):=by
    intro b _
    cases b with
    |true=>rw [cond_true,cond_true,aaa (by simp only [zad,zaj];omega)]
    |false=>rw [cond_false,cond_false,zam]
   have fin:∀b:Bool,amy c=(bif b then [92,c]else [c])→((some ((34::p.flatMap amy)++(bif b then [92]else []))).bind fun(v394:List UInt8)=>(gd (0≤(p.length:Int)∧(p.length:Int)<(s.length:Int))<|(gd ((v394.length+([c]:List UInt8).length)*1≤140737488355328)<|(gd (abt ((p.length:Int)+(1:Int)))<|(ajo FU s fk (v394++([c]:List UInt8)) ((p.length:Int)+(1:Int)))))))=some (if l.any aax=true then .inr ([],5)else .inl (34::s.flatMap amy)):=by
    intro b hqb
    rw [zaa,aaa hb,aaa (by cases b<;>simp only [cond_true,cond_false,zab,zad,zaj]<;>omega),aaa (aef _ omg omg),←hih,hqb]
    cases b<;>simp
   by_cases h34:c=34
   ·have e:amy c=(bif true then [92,c]else [c]):=by rw [h34];rfl
    rw [if_pos h34,zaa,hq34 true e,fin true e]
   ·rw [if_neg h34,zaa]
    by_cases h92:c=92
    ·have e:amy c=(bif true then [92,c]else [c]):=by rw [h92];rfl
     rw [decide_eq_true h92,hq34 true e,fin true e]
    ·have e:amy c=(bif false then [92,c]else [c]):=by unfold amy;rw [if_neg (by simp [h34,h92])];rfl
     rw [decide_eq_false h92,hq34 false e,fin false e]
theorem gd_mk{α:Type}{p:Prop}{ip:Decidable p}(h:p){x:Option α}: @gd _ p ip x=x:=by unfold gd;exact if_pos h
theorem quote_eq(s:Str)(hs:s.length≤4194304):aow FU s=some (quoM s):=by
 have:=quo_lp s hs s [] FU (by simp) (by rw [ahy];omega)
 have this':ajo FU s FU (([]:List UInt8)++([(34:UInt8)]:List UInt8)) (0:Int)=_:=this
 have hq:=qflat_len s
 unfold aow quoM
 rw [aaa (aef _ omg omg),gd_mk omg,aaa (by decide),this',zaa]
 cases s.any aax with
 |true=>rfl
 |false=>rw [if_neg (show¬(false=true)by decide),zaA,aaa (by simp only [zad,zaj];omega),if_neg (show¬(false=true)by decide)];rfl
theorem quoT_len(s:Str):(quoT s).length≤2*s.length+2:=by
 have:=qflat_len s
 unfold quoT
 rw [zad,zab,zae];omega
theorem tok_nc:∀c:UInt8,aaf c=true→aax c=false:=aae _ (by decide+kernel)
theorem hex_nc:∀c:UInt8,hexB c=true→aax (aer c)=false:=aae _ (by decide+kernel)
theorem lab_nc:∀c:UInt8,labB c=true→aax (aer c)=false:=aae _ (by decide+kernel)
theorem dig_nc:∀c:UInt8,adc c=true→aax c=false:=aae _ (by decide+kernel)
theorem any_f(l:Str)(h:∀c∈l,aax c=false):l.any aax=false:=by
 rw [List.any_eq_false];intro c hc;rw [h c hc];decide
theorem isTok_nc(s:Str)(h:ahi s=true):s.any aax=false:=by
 unfold ahi at h
 rw [zai]at h
 exact any_f s fun c hc=>tok_nc c (List.all_eq_true.1 h.2 c hc)
theorem grpN_nc(g:Str)(h:arb g=true):∀c∈aus g,aax c=false:=by
 have hx:g.all hexB=true:=by unfold arb at h;simp only [zai]at h;exact h.2
 intro c hc
 unfold aus at hc
 split at hc
 ·rw [List.mem_singleton.1 hc];decide
 ·have hm:c∈lowP g:=(List.dropWhile_suffix _).subset hc
  obtain⟨d,hd,rfl⟩:=List.mem_map.1 hm
  exact hex_nc d (List.all_eq_true.1 hx d hd)
theorem join_nc:∀(l:List Str),(∀x∈l,∀c∈x,aax c=false)→∀c∈zau l [58],aax c=false
 |[],_,c,hc=>by simp [zau,zbw]at hc
 |[a],h,c,hc=>by
  simp [zau,zbw]at hc
  exact h a (by simp) c hc
 |a::b::l,h,c,hc=>by
  have e:zau (a::b::l) [58]=a++(58::zau (b::l) [58]):=by simp [zau,zbw,List.intersperse]
  rw [e]at hc
  rcases List.mem_append.1 hc with hc|hc
  ·exact h a (by simp) c hc
  ·rcases List.mem_cons.1 hc with rfl|hc
   ·decide
   ·exact join_nc (b::l) (fun x hx=>h x (zaf _ hx)) c hc
theorem grpList_nc(s:Str):∀x∈(agu s).1,∀c∈x,aax c=false:=by
 intro x hx
 unfold agu at hx
 split at hx
 ·rename_i ha
  obtain⟨y,hy,rfl⟩:=List.mem_map.1 hx
  exact grpN_nc y (List.all_eq_true.1 ha y hy)
 ·simp at hx
theorem grpL0_nc(s:Str):∀x∈(ann s).1,∀c∈x,aax c=false:=by
 intro x hx
 unfold ann at hx
 split at hx
 ·simp at hx
 ·exact grpList_nc s x hx
theorem grpsP_nc(s:Str):∀c∈(ara s).1,aax c=false:=by
 intro c hc
 unfold ara at hc
 split at hc
 ·simp at hc
 ·split at hc
  ·exact join_nc _ (grpList_nc s) c hc
  ·split at hc
   ·simp at hc
   ·rcases List.mem_append.1 hc with hc|hc
    ·rcases List.mem_append.1 hc with hc|hc
     ·exact join_nc _ (grpL0_nc _) c hc
     ·have h58:c=58:=by simpa using hc
      rw [h58];decide
    ·exact join_nc _ (grpL0_nc _) c hc
theorem hostP_nc(s:Str):((acq s).1).any aax=false:=by
 refine any_f _ fun c hc=> ?_
 unfold acq at hc
 split at hc
 ·split at hc
  ·rcases List.mem_append.1 hc with hc|hc
   ·rcases List.mem_append.1 hc with hc|hc
    ·rw [List.mem_singleton.1 hc];decide
    ·exact grpsP_nc _ c hc
   ·rw [List.mem_singleton.1 hc];decide
  ·simp at hc
 ·split at hc
  ·rename_i hn
   unfold numsP at hn
   simp only [zai]at hn
   rcases atf 46 adc s (fun x hx=>(num_parts x (by rw [←oct_num];exact List.all_eq_true.1 hn.1.2 x hx)).2.2) c hc with h|h
   ·exact dig_nc c h
   ·rw [h];decide
  ·split at hc
   ·rename_i hn
    unfold avw at hn
    simp only [zai]at hn
    obtain⟨d,hd,rfl⟩:=List.mem_map.1 hc
    rcases atf 46 labB s (fun x hx=>by
     have:=List.all_eq_true.1 hn.1.2 x hx
     unfold avm at this
     simp only [zai]at this
     exact this.2) d hd with h|h
    ·exact lab_nc d h
    ·rw [h];decide
   ·simp at hc
def brV(v:Str):Bool:=(acq v).2&&decide ((acq v).1=v)&&(at_ v 0==91)
def okN(pre:List PP)(p:PP):Bool:=ahi p.1&&decide (aau p.1=p.1)&& !(pre.any fun q=>q.1==p.1)
def okV(p:PP):Bool:=bif p.2.2 then !p.2.1.any aax else decide (p.2.1=[])
def txt(p:PP):Str:=bif p.2.2 then 61::(bif ahi p.2.1||brV p.2.1 then p.2.1 else quoT p.2.1)else []
def ppL:List PP→List PP→Option Str
 |_,[]=>some []
 |pre,p::r=>bif okN pre p&&okV p then(ppL (pre++[p]) r).map fun t=>59::(p.1++(txt p++t))else none
def ppM(l:List PP):Str×UInt8:=if 16<l.length then([],2)else match ppL [] l with|some t=>(t,0)|none=>([],2)
theorem brV_nc(v:Str)(h:brV v=true):v.any aax=false:=by
 unfold brV at h
 simp only [zai,decide_eq_true_eq]at h
 rw [←h.1.2];exact hostP_nc v
theorem host_ne(v:Str)(h:(acq v).2=true)(h2:(acq v).1=v):v≠[]:=by
 intro e
 subst e
 exact absurd h (by decide)
theorem txt_len(p:PP)(h1:p.2.1.length≤4194304):(txt p).length≤8388611:=by
 have:=quoT_len p.2.1
 unfold txt
 cases p.2.2 with
 |false=>simp
 |true=>
  rw [cond_true,zad]
  cases(ahi p.2.1||brV p.2.1)with
  |true=>rw [cond_true];omega
  |false=>rw [cond_false];omega
theorem pp_lp(l:List PP)(hl:l.length≤16)(hb:∀p∈l,p.1.length≤4194304∧p.2.1.length≤4194304)(r:List PP):∀(pre:List PP) (fk:Nat) (out:Str),l=pre++r→r.length<fk→out.length≤pre.length*16000000→
  aeq FU l fk (pre.length:Int) () out=some (match ppL pre r with|some t=>.inl ((),out++t)|none=>.inr ([],2)):=by
 induction r with
 |nil=>
  intro pre fk out h hf ho
  obtain⟨fk,rfl⟩:=fkx fk
  rw [zam]at h
  rw [aor,ahn,if_neg (by rw [h];omega)];simp [ppL]
 |cons p r ih=>
  intro pre fk out h hf ho
  obtain⟨fk,rfl⟩:=fkx fk
  have hlen:=congrArg zbl h
  simp only [zab,zad]at hlen hf
  have hin:(0:Int)≤(pre.length:Int)∧(pre.length:Int)<(l.length:Int):=by omega
  have he:el l (pre.length:Int)=p:=by rw [h];simp [el]
  have htk:zbt (zan (pre.length:Int)) l=pre:=by rw [h];simp
  have hbp:=hb p (by rw [h];simp)
  have ht:=txt_len p hbp.2
  have hok:abt ((pre.length:Int)+1):=aef _ omg omg
  have next:∀o:Str,o=out++(59::(p.1++txt p))→okN pre p=true→okV p=true→aeq FU l fk ((pre.length:Int)+1) () o=some (match ppL pre (p::r)with|some t=>.inl ((),out++t)|none=>.inr ([],2)):=by
   intro o ho' h1 h2
   have hih:=ih (pre++[p]) fk o (by rw [h];simp) omg (by rw [ho'];simp only [zab,zad,zaj];omega)
   rw [show((pre++[p]).length:Int)=(pre.length:Int)+1 by simp]at hih
   rw [hih,ppL,h1,h2,zaS,cond_true]
   cases ppL (pre++[p]) r with
   |none=>rfl
   |some t=>rw [ho'];simp
  have bad:okN pre p=false∨okV p=false→ppL pre (p::r)=none:=by
   rintro(h|h)
   ·rw [ppL,h];rfl
   ·rw [ppL,h,Bool.and_false];rfl
  rw [aor,ahn,if_pos hin.2,aaa hin,aaa hin,he,awm _ omg,zaa]
  cases h1:ahi p.1 with
  |false=>
   rw [bad (.inl (by unfold okN;rw [h1];rfl))];rfl
  |true=>
   rw [zaz,cond_false,anr _ hbp.1,zaa]
   by_cases h2:p.1=aau p.1
   ·rw [if_pos h2,aaa omg,htk,holds_eq pre omg,zaa,zaa]
    cases h3:pre.any fun q=>q.1==p.1 with
    |true=>rw [bad (.inl (by unfold okN;rw [h3];simp))];rfl
    |false=>
     have hN:okN pre p=true:=by unfold okN;rw [h1,h3,decide_eq_true h2.symm];rfl
     rw [cond_false,aaa (by simp only [zae];omega)]
     unfold aad
     rw [aaa (by simp only [zab,zae];omega),zaa]
     simp only
     cases h4:p.2.2 with
     |false=>
      rw [zaH,cond_true]
      by_cases h5:p.2.1=[]
      ·have hV:okV p=true:=by unfold okV;rw [h4,cond_false];exact decide_eq_true h5
       rw [if_pos h5,aaa hok]
       refine next _ ?_ hN hV
       have:txt p=[]:=by unfold txt;rw [h4];rfl
       rw [this];simp
      ·have hV:okV p=false:=by unfold okV;rw [h4,cond_false];exact decide_eq_false h5
       rw [if_neg h5,bad (.inr hV)]
     |true=>
      have hVe:okV p= !p.2.1.any aax:=by unfold okV;rw [h4];rfl
      rw [zaz,cond_false,awj _ hbp.2,zaa,awm _ omg,zaa]
      have e:(bif (!ahi p.2.1)then(bif (acq p.2.1).2 then(if(acq p.2.1).1=p.2.1 then(gd (0≤(0:Int)∧(0:Int)<(p.2.1.length:Int))<|some (!decide ((at_ p.2.1 (0:Int))=(91:UInt8))))else some true)else some true)else some false)=some (!(ahi p.2.1||brV p.2.1)):=by
       unfold brV
       cases ahi p.2.1 with
       |true=>rfl
       |false=>
        rw [zaH,cond_true,Bool.false_or]
        cases h6:(acq p.2.1).2 with
        |false=>rfl
        |true=>
         rw [cond_true,zaS]
         by_cases h7:(acq p.2.1).1=p.2.1
         ·have:=List.length_pos_iff.2 (host_ne p.2.1 h6 h7)
          rw [if_pos h7,decide_eq_true h7,aaa omg,zaS];rfl
         ·rw [if_neg h7,decide_eq_false h7];rfl
      rw [e,zaa]
      cases h5:(ahi p.2.1||brV p.2.1)with
      |true=>
       have hnc:p.2.1.any aax=false:=by
        rcases Bool.or_eq_true_iff.1 h5 with h|h
        ·exact isTok_nc _ h
        ·exact brV_nc _ h
       rw [zaz,cond_false,zaa,zaA,aaa (by simp only [zae];omega),aaa (by simp only [zab,zae];omega),zaa,aaa hok]
       refine next _ ?_ hN (by rw [hVe,hnc];rfl)
       have:txt p=61::p.2.1:=by unfold txt;rw [h4,h5];rfl
       rw [this];simp
      |false=>
       rw [zaH,cond_true,quote_eq _ hbp.2,zaa]
       unfold quoM
       have hq:=quoT_len p.2.1
       cases h6:p.2.1.any aax with
       |true=>
        rw [if_pos rfl,if_neg (show¬((5:UInt8)=0)by decide),zaa,zbg,bad (.inr (by rw [hVe,h6];rfl))]
       |false=>
        rw [if_neg (show¬(false=true)by decide),if_pos rfl,zaa,zaA]
        simp only
        rw [aaa (by simp only [zae];omega),aaa (by simp only [zab,zae];omega),zaa,aaa hok]
        refine next _ ?_ hN (by rw [hVe,h6];rfl)
        have:txt p=61::quoT p.2.1:=by unfold txt;rw [h4,h5];rfl
        rw [this];simp
   ·rw [if_neg h2,zaa,cond_true,bad (.inl (by unfold okN;rw [decide_eq_false (fun h=>h2 h.symm)];simp))]
theorem ppL_len:∀(r pre:List PP) (t:Str),(∀p∈r,p.1.length≤4194304∧p.2.1.length≤4194304)→ppL pre r=some t→t.length≤r.length*16000000
 |[],_,t,_,h=>by simp [ppL]at h;subst h;simp
 |p::r,pre,t,hb,h=>by
  rw [ppL]at h
  cases hk:okN pre p&&okV p with
  |false=>rw [hk]at h;cases h
  |true=>
   rw [hk,cond_true,zbb]at h
   obtain⟨u,hu,rfl⟩:=h
   have:=ppL_len r _ u (fun q hq=>hb q (zaf _ hq)) hu
   have hbp:=hb p zak
   have ht:=txt_len p hbp.2
   simp only [zad,zab]
   omega
theorem avj(l:List PP)(hb:∀p∈l,p.1.length≤4194304∧p.2.1.length≤4194304):abr FU l=some (ppM l):=by
 unfold abr ppM
 by_cases h:16<l.length
 ·rw [if_pos omg,if_pos h]
 ·have:=pp_lp l omg hb l [] FU [] (by simp) (by rw [ahy];omega) (by simp)
  have this':aeq FU l FU (0:Int) () []=_:=this
  rw [if_neg omg,if_neg h,this',zaa]
  cases hp:ppL [] l with
  |none=>rfl
  |some t=>
   have:=ppL_len l [] t hb hp
   rw [zaA]
   simp only [zax]
   rw [aaa omg]
open Go.Op renaming bytesLess → zaL
open List renaming length_cons → zad, singleton_append → zaM
open UInt8 renaming lt_iff_toNat_lt → zbe
theorem room0(pre:List PP)(nm:Str):(asb pre nm=0)↔((pre.any fun q=>q.1==nm)=false∧pre.length<16):=by
 unfold asb
 cases pre.any fun q=>q.1==nm with
 |true=>simp
 |false=>
  rw [if_neg (show¬(false=true)by decide)]
  by_cases h:16≤pre.length
  ·rw [if_pos h];simp;omega
  ·rw [if_neg h];simp;omega
theorem pp_eta(x:PP):(x.1,x.2.1,x.2.2)=x:=rfl
theorem less_tri:∀x y:Str,zaL x y= !(zaL y x||y==x)
 |[],[]=>rfl
 |[],b::y=>rfl
 |a::x,[]=>rfl
 |a::x,b::y=>by
  have ih:=less_tri x y
  rw [zaL,zaL,ih]
  rcases Nat.lt_trichotomy a.toNat b.toNat with h|h|h
  ·have h1:a<b:=h
   have h2:¬b<a:=by rw [zbe];omega
   have h3:¬a=b:=fun e=>by subst e;omega
   have h4:(b::y==a::x)=false:=by simp;intro e;exact absurd e.symm h3
   rw [h4]
   simp [h1,h2,h3]
   exact .inl fun e=>h3 e.symm
  ·have e:a=b:=UInt8.toNat_inj.1 h
   subst e
   have h1:¬a<a:=by rw [zbe];omega
   have h4:(a::y==a::x)=(y==x):=by simp [List.cons_beq_cons]
   rw [h4]
   simp [h1]
  ·have h1:b<a:=h
   have h2:¬a<b:=by rw [zbe];omega
   have h3:¬a=b:=fun e=>by subst e;omega
   simp [h1,h2,h3]
def gtN(a b:Str):Bool:= !(zaL a b||a==b)
def insV(x:PP):List PP→List PP
 |[]=>[x]
 |a::V=>bif gtN a.1 x.1 then a::insV x V else x::a::V
def insR(x:PP)(l:List PP):List PP:=(insV x l.reverse).reverse
theorem insR_snoc(x a:PP)(l:List PP):insR x (l++[a])=bif gtN a.1 x.1 then insR x l++[a]else l++[a,x]:=by
 unfold insR
 rw [List.reverse_append,List.reverse_singleton,zaM,insV]
 cases gtN a.1 x.1<;>simp
theorem insV_len(x:PP):∀V:List PP,(insV x V).length=V.length+1
 |[]=>rfl
 |a::V=>by
  rw [insV]
  cases gtN a.1 x.1 with
  |true=>rw [cond_true,zad,insV_len x V,zad]
  |false=>rfl
theorem insR_len(x:PP)(l:List PP):(insR x l).length=l.length+1:=by
 unfold insR;rw [List.length_reverse,insV_len,List.length_reverse]
theorem insV_mem(x y:PP):∀V:List PP,y∈insV x V→y=x∨y∈V
 |[],h=>by left;simpa [insV] using h
 |a::V,h=>by
  rw [insV]at h
  cases hg:gtN a.1 x.1 with
  |true=>
   rw [hg,cond_true]at h
   rcases List.mem_cons.1 h with rfl|h
   ·right;simp
   ·rcases insV_mem x y V h with h|h
    ·exact .inl h
    ·right;simp [h]
  |false=>
   rw [hg,cond_false]at h
   rcases List.mem_cons.1 h with rfl|h
   ·left;rfl
   ·right;exact h
theorem insR_mem(x y:PP)(l:List PP)(h:y∈insR x l):y=x∨y∈l:=by
 unfold insR at h
 rcases insV_mem x y _ (List.mem_reverse.1 h)with h|h
 ·exact .inl h
 ·exact .inr (List.mem_reverse.1 h)
def acl(l:List PP):List PP:=l.foldl (fun out x=>insR x out) []
theorem fold_len:∀(q p:List PP),(q.foldl (fun out x=>insR x out) p).length=p.length+q.length
 |[],p=>by simp
 |a::q,p=>by rw [List.foldl_cons,fold_len q,insR_len,zad];omega
theorem fold_mem(y:PP):∀(q p:List PP),y∈q.foldl (fun out x=>insR x out) p→y∈p∨y∈q
 |[],p,h=>.inl h
 |a::q,p,h=>by
  rw [List.foldl_cons]at h
  rcases fold_mem y q _ h with h|h
  ·rcases insR_mem a y p h with h|h
   ·right;simp [h]
   ·exact .inl h
  ·right;simp [h]
theorem isort_len(l:List PP):(acl l).length=l.length:=by unfold acl;rw [fold_len];simp
theorem awe(l:List PP)(y:PP)(h:y∈acl l):y∈l:=by
 rcases fold_mem y l [] h with h|h
 ·simp at h
 ·exact h
end Go.Wk
