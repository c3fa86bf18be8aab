/-
  The law HeaderAddresses (part 1 of 8).
-/
import Derived.Tactics2
import Derived.Scope
import Derived.Below
import Derived.KernelRfl
import Derived.RangeFuncCalls
import Derived.RangeFuncLeaves
import Derived.TacticsIn
import Derived.Laws.Strings3
import Derived.Laws.Concat
import Derived.Laws.Small
import Derived.Laws.Slices
import Derived.Laws.BitsLemmas
import Derived.Laws.OwnMore
import Derived.Laws.AppendOwn
import Derived.Laws.CopyRow
import Derived.StillTail
import Derived.OrdersHeld
import Derived.Laws.BytesString
import Derived.Laws.MakeOwn
import Derived.WalkSmall
import Derived.Laws.Cover3
import Derived.Laws.StructEq
import Derived.Lib.Bytealg
import Derived.Lib.IndexAny
import Derived.Lib.LastIndexByte
import Derived.Lib.IndexMore
import Derived.Lib.SlTrimSet
import Derived.Lib.TrimByte
import Derived.Lib.Strings
import Derived.Lib.ItoaNum
import Derived.Lib.Join
import Derived.Sort.Grow
import Derived.Lib.SplitLaws
import Derived.Lib.Split
set_option linter.unusedVariables false
namespace Go.Wk
open Go.RowKit (Below)
open List renaming any_cons → zbm, map_cons → zaE
open Nat renaming beq → zau, blt → zbf, eq_of_beq_eq_true → zaf, le_of_ble_eq_true → zaG
def upd(F:Nat→Value)(d:Nat)(v:Value):Nat→Value:=fun t=>bif zau t d then v else F t
structure Md where
 n:Nat
 D:List Deferred
 ro:Option (Option Nat)
def fr(n:Md)(F:Nat→Value):Act:={tmps:=Array.ofFn (n:=n.n) fun i=>F i.val,defers:=n.D}
def evn(n:Md)(F:Nat→Value):Operand→Value
 |.tmp t=>bif zbf t n.n then F t else undef
 |.const v=>v
 |.global g=>.pointer (some ⟨g,0,none⟩)
 |.func f=>.func (.func f) #[] #[]
def argF(l:List Value):Nat→Value:=fun t=>l.getD t undef
theorem _root_.Go.krf.{u}{α:Sort u}{a b:α}(h:a=b:=by kernel_rfl):a=b:=h
theorem nzz{α:Type}{x:α}{C:Prop}(h:none=some x):C:=nomatch h
theorem lsz{p:Prop}(h:p:=by(try simp only [List.length_set])<;>first|rfl|omega):p:=h
theorem lsy{p:Prop}(h:p:=by(try simp only [List.length_set])<;>first|rfl|omega|simp):p:=h
theorem nbe{a b:Nat}(h:Nat.ble a b=true:=by rfl):a≤b:=zaG h
theorem ksf{α:Type}{a b:α}(h:a=b:=by kernel_rfl):some a=some b:=congrArg some h
theorem fkx(fk:Nat)(h:0<fk:=by omega):∃m,fk=m+1:=⟨fk-1,by omega⟩
theorem omg{p:Prop}(h:p:=by omega):p:=h
theorem fr_get(n:Md)(F:Nat→Value)(t:Nat):(fr n F).tmps.getD t undef=bif zbf t n.n then F t else undef:=by
 unfold fr
 by_cases h:t<n.n
 ·have hb:zbf t n.n=true:=by simpa [Nat.blt_eq] using h
  simp [h,hb]
 ·have hb:zbf t n.n=false:=by
   cases hx:zbf t n.n
   ·rfl
   ·exact absurd (by simpa [Nat.blt_eq] using hx) h
  simp [h,hb]
theorem ash(n:Md)(F:Nat→Value):(fr n F).eval=evn n F:=by
 funext o
 cases o with
 |tmp t=>exact fr_get n F t
 |const v=>rfl
 |global g=>rfl
 |func f=>rfl
theorem avb(F:Nat→Value)(d:Nat)(v:Value):upd F d v d=v:=by simp [upd]
theorem upd_ne(F:Nat→Value)(d:Nat)(v:Value)(t:Nat)(h:t≠d):upd F d v t=F t:=by
 have:zau t d=false:=by
  cases hx:zau t d
  ·rfl
  ·exact absurd (zaf hx) h
 simp [upd,this]
theorem fr_put(n:Md)(F:Nat→Value)(d:Nat)(v:Value):(fr n F).put (some d) v=fr n (upd F d v):=by
 unfold fr Act.put
 simp only [Act.mk.injEq,and_true]
 apply Array.ext
 ·simp
 ·intro i h1 h2
  simp at h1 h2
  by_cases hid:i=d
  ·subst hid;simp [avb]
  ·rw [Array.getElem_setIfInBounds_ne (by simpa using h1) (fun e=>hid e.symm)];simp [upd_ne _ _ _ _ hid]
theorem fr_args(args:List Value)(n:Nat)(h:args.length≤n):
  ({tmps:=args.toArray++Array.replicate (n-args.toArray.size) undef,defers:=[]}:Act)=fr ⟨n,[],none⟩ (argF args):=by
 unfold fr argF
 simp only [Act.mk.injEq,and_true]
 apply Array.ext
 ·simp;omega
 ·intro i h1 h2
  simp at h1 h2
  simp only [Array.getElem_append,Array.getElem_ofFn,List.getElem_toArray,Array.getElem_replicate]
  by_cases hi:i<args.length
  ·simp [hi]
  ·simp [hi]
abbrev fen(x:Option Nat):Fence:={Fence.wide with round:=x}
def WR(P:Program)(r:Option (Option Nat))(ops:Array Oper)(Q:Exit→Act→World→Prop)(l:List Oper)(a:Act)(w:World):Prop:=
 match r with
 |none=>wpList P ops Q l a w
 |some x=>wpListIn (fen x) 0 P ops Q l a w
def CC(P:Program)(r:Option (Option Nat))(Q:Exit→Act→World→Prop)(c:Code)(a:Act)(w:World):Prop:=
 match r with
 |none=>c.wp P Q a w
 |some x=>c.wpIn (fen x) 0 P Q a w
def W(P:Program)(n:Md)(ops:Array Oper)(Q:Exit→Act→World→Prop)(l:List Oper)(F:Nat→Value)(w:World):Prop:=WR P n.ro ops Q l (fr n F) w
def C(P:Program)(n:Md)(Q:Exit→Act→World→Prop)(c:Code)(F:Nat→Value)(w:World):Prop:=CC P n.ro Q c (fr n F) w
def SeqQ(P:Program)(n:Md)(y:Code)(Q:Exit→Act→World→Prop):Exit→Act→World→Prop:=Exit.then (CC P n.ro Q y) Q
def CR(P:Program)(f:FuncId)(args:List Value)(w:World)(R:Value→World→Prop):Prop:=
 Calls P f args.toArray w fun e w'=>∃v,e=.returned v∧R v w'
theorem CR.mono{P:Program}{f:FuncId}{args:List Value}{w:World}{R R':Value→World→Prop}(h:CR P f args w R)(hr:∀v w',R v w'→R' v w'):CR P f args w R':=
 Calls.mono h fun _ _ ⟨v,e,r⟩=>⟨v,e,hr v _ r⟩
section
variable {P : Program} {n : Md} {ops : Array Oper} {Q : Exit → Act → World → Prop} {F : Nat → Value} {w : World}
theorem cc_mono{r:Option (Option Nat)}{c:Code}{Q':Exit→Act→World→Prop}{a:Act}(h:CC P r Q c a w)(hq:∀e a w,Q e a w→Q' e a w):CC P r Q' c a w:=by
 cases r with
 |none=>exact wp_mono h hq
 |some x=>exact wpIn_mono h hq
theorem enter{k:Nat}{f:FuncId}{fn:Func}{c:Code}{args:List Value}{R:Value→World→Prop}(hf:P.funcs[f]? =some fn)(hb:fn.body=some c)(hn:fn.ntmps=k)(hl:args.length≤k)
  (h:C P ⟨k,[],none⟩ (bodyPost P fn fun e w'=>∃v,e=.returned v∧R v w') c (argF args) w):CR P f args w R:=by
 refine calls_of_wp hf hb ?_
 rw [hn,fr_args args k hl]
 exact h
theorem c_seq{x y:Code}(h:C P n (SeqQ P n y Q) x F w):C P n Q (.seq x y) F w:=by
 obtain⟨k,D,ro⟩:=n
 cases ro with
 |none=>exact wp_seq h
 |some r=>exact wpIn_seq h
theorem c_skip(h:Q .normal (fr n F) w):C P n Q .skip F w:=by
 obtain⟨k,D,ro⟩:=n
 cases ro with
 |none=>exact wp_skip h
 |some r=>exact wpIn_skip h
theorem c_label{l:Nat}(h:Q .normal (fr n F) w):C P n Q (.label l) F w:=by
 obtain⟨k,D,ro⟩:=n
 cases ro with
 |none=>exact wp_label h
 |some r=>exact wpIn_label h
theorem c_exit{id:Nat}(h:Q (.exit id) (fr n F) w):C P n Q (.exit id) F w:=by
 obtain⟨k,D,ro⟩:=n
 cases ro with
 |none=>exact wp_exit h
 |some r=>exact wpIn_exit h
theorem c_ret(h:Q .ret (fr n F) w):C P n Q .ret F w:=by
 obtain⟨k,D,ro⟩:=n
 cases ro with
 |none=>exact wp_ret h
 |some r=>exact wpIn_ret h
theorem c_block{id:Nat}{c:Code}(h:C P n (Exit.inBlock id Q) c F w):C P n Q (.block id c) F w:=by
 obtain⟨k,D,ro⟩:=n
 cases ro with
 |none=>exact wp_block h
 |some r=>exact wpIn_block h
theorem c_scope{k:Nat}{D:List Deferred}{c:Code}(h:C P ⟨k,D,none⟩ (Exit.noGoto Q) c F w):C P ⟨k,D,none⟩ Q (.scope c) F w:=wp_scope_straight h
theorem n_normal(h:Q .normal (fr n F) w):Exit.noGoto Q .normal (fr n F) w:=h
theorem n_ret(h:Q .ret (fr n F) w):Exit.noGoto Q .ret (fr n F) w:=h
theorem n_exit{id:Nat}(h:Q (.exit id) (fr n F) w):Exit.noGoto Q (.exit id) (fr n F) w:=h
theorem asm{id:Nat}{l:List Oper}(h:W P n l.toArray Q l F w):C P n Q (.region id l.toArray false) F w:=by
 obtain⟨k,D,ro⟩:=n
 cases ro with
 |none=>exact wp_region_lit h
 |some r=>exact wpIn_region_lit h
theorem c_true{c:Operand}{x y:Code}(hc:evn n F c=.bool true)(h:C P n Q x F w):C P n Q (.cond c x y) F w:=by
 obtain⟨k,D,ro⟩:=n
 cases ro with
 |none=>exact wp_cond_true (by rw [ash];exact hc) h
 |some r=>exact wpIn_cond_true (by rw [ash];exact hc) h
theorem c_false{c:Operand}{x y:Code}(hc:evn n F c=.bool false)(h:C P n Q y F w):C P n Q (.cond c x y) F w:=by
 obtain⟨k,D,ro⟩:=n
 cases ro with
 |none=>exact wp_cond_false (by rw [ash];exact hc) h
 |some r=>exact wpIn_cond_false (by rw [ash];exact hc) h
theorem c_bool{c:Operand}{x y:Code}{b:Bool}(hc:evn n F c=.bool b)(ht:b=true→C P n Q x F w)(hf:b=false→C P n Q y F w):C P n Q (.cond c x y) F w:=by
 cases b with
 |true=>exact c_true hc (ht rfl)
 |false=>exact c_false hc (hf rfl)
theorem c_dec{c:Operand}{x y:Code}{p:Prop}[Decidable p](hc:evn n F c=.bool (decide p))(ht:p→C P n Q x F w)(hf:¬p→C P n Q y F w):C P n Q (.cond c x y) F w:=
 c_bool hc (fun h=>ht (of_decide_eq_true h)) (fun h=>hf (of_decide_eq_false h))
theorem c_ndec{c:Operand}{x y:Code}{p:Prop}[Decidable p](hc:evn n F c=.bool (!decide p))(ht:¬p→C P n Q x F w)(hf:p→C P n Q y F w):C P n Q (.cond c x y) F w:=
 c_bool hc (fun h=>ht (by simpa using h)) (fun h=>hf (by simpa using h))
theorem q_next{k k':Nat}{D D':List Deferred}{ro:Option (Option Nat)}{y:Code}(h:C P ⟨k,D,ro⟩ Q y F w):SeqQ P ⟨k',D',ro⟩ y Q .normal (fr ⟨k,D,ro⟩ F) w:=h
theorem s_ret{m:Md}{y:Code}(h:Q .ret (fr n F) w):SeqQ P m y Q .ret (fr n F) w:=h
theorem s_exit{m:Md}{y:Code}{id:Nat}(h:Q (.exit id) (fr n F) w):SeqQ P m y Q (.exit id) (fr n F) w:=h
theorem q_loop{K:Act→World→Prop}(h:K (fr n F) w):Exit.then K Q .normal (fr n F) w:=h
theorem q_ret{K:Act→World→Prop}(h:Q .ret (fr n F) w):Exit.then K Q .ret (fr n F) w:=h
theorem q_exit{K:Act→World→Prop}{id:Nat}(h:Q (.exit id) (fr n F) w):Exit.then K Q (.exit id) (fr n F) w:=h
theorem b_normal{id:Nat}(h:Q .normal (fr n F) w):Exit.inBlock id Q .normal (fr n F) w:=h
theorem b_ret{id:Nat}(h:Q .ret (fr n F) w):Exit.inBlock id Q .ret (fr n F) w:=h
theorem b_here{id:Nat}(h:Q .normal (fr n F) w):Exit.inBlock id Q (.exit id) (fr n F) w:=by simpa [Exit.inBlock] using h
theorem b_past{id id':Nat}(hne:zau id' id=false)(h:Q (.exit id') (fr n F) w):Exit.inBlock id Q (.exit id') (fr n F) w:=by
 have:¬id'=id:=fun e=>by subst e;simp at hne
 simpa [Exit.inBlock,this] using h
def agrees(F:Nat→Value):List (Nat×Value)→Prop
 |[]=>True
 |(t,v)::l=>F t=v∧agrees F l
def app:List (Nat×Value)→(Nat→Value)→Nat→Value
 |[],G=>G
 |(t,v)::l,G=>upd (app l G) t v
theorem upd_eq{F:Nat→Value}{t:Nat}{v:Value}(h:F t=v):upd F t v=F:=by
 funext s
 by_cases hs:s=t
 ·subst hs;rw [avb,h]
 ·rw [upd_ne _ _ _ _ hs]
theorem app_eq:∀(l:List (Nat×Value)) (F:Nat→Value),agrees F l→app l F=F
 |[],_,_=>rfl
 |(t,v)::l,F,h=>by simp only [app];rw [app_eq l F h.2];exact upd_eq h.1
theorem c_loop{σ:Type}{c:Code}(L:σ→List (Nat×Value))(wd:σ→World→Prop)(m:σ→Nat)(s0:σ)(h0:agrees F (L s0))(hw0:wd s0 w)
  (round:∀s w G,wd s w→C P n (Exit.then (fun a' w'=>∃s' F',a'=fr n F'∧agrees F' (L s')∧wd s' w'∧m s'<m s) Q) c (app (L s) G) w):
  C P n Q (.loop c) F w:=by
 obtain⟨nn,D,ro⟩:=n
 cases ro with
 |none=>
  have key:∀k:Nat,∀(b:Frame) (kk:List Item) (cs:List Frame) (s:σ) (F:Nat→Value) (w:World),m s=k→agrees F (L s)→wd s w→
    ∃e a' w',Q e a' w'∧Arrives P (lone (b.at (fr ⟨nn,D,none⟩ F) (.code c::.inLoop c::kk)) cs w) b kk cs e a' w':=by
   intro k
   induction k using Nat.strongRecOn with
   |_ k ih=>
    intro b kk cs s F w hk ha hw
    have hr:=round s w F hw
    rw [app_eq _ _ ha]at hr
    obtain⟨e,a₁,w₁,hq,harr⟩:=hr b (.inLoop c::kk) cs
    cases e with
    |normal=>
     obtain⟨s',F',rfl,ha',hw',hlt⟩:=hq
     obtain⟨e₂,a₂,w₂,hq₂,harr₂⟩:=ih (m s') (hk▸hlt) b kk cs s' F' w₁ rfl ha' hw'
     exact⟨e₂,a₂,w₂,hq₂,.of_steps (Steps.trans harr (.one step_inLoop)) harr₂⟩
    |exit id=>exact⟨_,a₁,w₁,hq,.pass (x:=.inLoop c) rfl (fun _ _=>.inl (by simp)) harr⟩
    |goto l=>exact⟨_,a₁,w₁,hq,.pass (x:=.inLoop c) rfl (fun _ _=>.inl (by simp)) harr⟩
    |ret=>exact⟨_,a₁,w₁,hq,.pass (x:=.inLoop c) rfl (fun _ _=>.inl (by simp)) harr⟩
    |panic ch=>exact⟨_,a₁,w₁,hq,.pass (x:=.inLoop c) rfl (fun _ _=>.inl (by simp)) harr⟩
    |outgrown=>exact⟨_,a₁,w₁,hq,.pass (x:=.inLoop c) rfl (fun _ _=>.inl (by simp)) harr⟩
  intro b kk cs
  obtain⟨e,a',w',hq,harr⟩:=key _ b kk cs s0 F w rfl h0 hw0
  exact⟨e,a',w',hq,.of_steps (.one step_loop) harr⟩
 |some x=>
  intro b kk cs hro hb hr
  have key:∀k:Nat,∀(s:σ) (F:Nat→Value) (w:World),m s=k→agrees F (L s)→wd s w→
    ∃e a' w',Q e a' w'∧ArrivesIn (Machine.fenced P (fen x)) P (lone (b.atR (fr ⟨nn,D,some x⟩ F) (.code c::.inLoop c::kk)) cs w) b kk cs e a' w':=by
   intro k
   induction k using Nat.strongRecOn with
   |_ k ih=>
    intro s F w hk ha hw
    have hr2:=round s w F hw
    rw [app_eq _ _ ha]at hr2
    obtain⟨e,a₁,w₁,hq,harr⟩:=hr2 b (.inLoop c::kk) cs hro hb hr
    cases e with
    |normal=>
     obtain⟨s',F',rfl,ha',hw',hlt⟩:=hq
     obtain⟨e₂,a₂,w₂,hq₂,harr₂⟩:=ih (m s') (hk▸hlt) s' F' w₁ rfl ha' hw'
     exact⟨e₂,a₂,w₂,hq₂,.of_steps (StepsIn.trans harr (.one (fenced_calm hb hr rfl) stepR_inLoop)) harr₂⟩
    |exit id=>exact⟨_,a₁,w₁,hq,.pass (x:=.inLoop c) rfl (fun _ _=>.inl (by simp)) harr⟩
    |goto l=>exact⟨_,a₁,w₁,hq,.pass (x:=.inLoop c) rfl (fun _ _=>.inl (by simp)) harr⟩
    |ret=>exact⟨_,a₁,w₁,hq,.pass (x:=.inLoop c) rfl (fun _ _=>.inl (by simp)) harr⟩
    |panic ch=>exact⟨_,a₁,w₁,hq,.pass (x:=.inLoop c) rfl (fun _ _=>.inl (by simp)) harr⟩
    |outgrown=>exact⟨_,a₁,w₁,hq,.pass (x:=.inLoop c) rfl (fun _ _=>.inl (by simp)) harr⟩
  obtain⟨e,a',w',hq,harr⟩:=key _ s0 F w rfl h0 hw0
  exact⟨e,a',w',hq,.of_steps (.one (fenced_calm hb hr rfl) stepR_loop) harr⟩
theorem c_mono{c:Code}{Q':Exit→Act→World→Prop}(h:C P n Q c F w)(hq:∀e a w,Q e a w→Q' e a w):C P n Q' c F w:=cc_mono h hq
def keepL(lv:List Nat)(A G:Nat→Value):Nat→Value:=fun t=>bif lv.any (zau t)then A t else G t
theorem keepL_eq{A:Nat→Value}:∀{lv:List Nat} {F:Nat→Value},lv.map F=lv.map A→keepL lv A F=F:=by
 intro lv F h
 funext t
 unfold keepL
 cases ht:lv.any (zau t)with
 |false=>rfl
 |true=>
  obtain⟨x,hx,hb⟩:=List.any_eq_true.1 ht
  have:=zaf hb
  subst this
  exact((List.map_inj_left.1 h) t hx).symm
theorem cut{σ:Type}{x y:Code}(lv:List Nat)(L:σ→List (Nat×Value))(wd:σ→World→Prop)
  (hx:C P n (Exit.then (fun a' w'=>∃s' F',a'=fr n F'∧lv.map F'=lv.map (app (L s') F)∧wd s' w') Q) x F w)
  (hy:∀s w G,wd s w→C P n Q y (keepL lv (app (L s) F) G) w):C P n Q (.seq x y) F w:=by
 refine c_seq (cc_mono hx fun e a w' h=> ?_)
 cases e with
 |normal=>
  obtain⟨s',F',rfl,ha,hw⟩:=h
  have:=hy s' w' F' hw
  rw [keepL_eq ha]at this
  exact this
 |exit id=>exact h
 |goto l=>exact h
 |ret=>exact h
 |panic ch=>exact h
 |outgrown=>exact h
theorem lpG{σ:Type}{c:Code}(lv:List Nat)(L:σ→List (Nat×Value))(wd:σ→World→Prop)(m:σ→Nat)(s0:σ)(hw0:wd s0 w)
  (round:∀s w G,wd s w→C P n (Exit.then (fun a' w'=>∃s' F',a'=fr n F'∧lv.map F'=lv.map (app (L s') F)∧wd s' w'∧m s'<m s) Q) c (keepL lv (app (L s) F) G) w)
  (h0:lv.map F=lv.map (app (L s0) F):=by kernel_rfl):C P n Q (.loop c) F w:=by
 have ag:∀(A:Nat→Value) (l:List Nat) (G:Nat→Value),agrees G (l.map fun t=>(t,A t))↔l.map G=l.map A:=by
  intro A l G
  induction l with
  |nil=>simp [agrees]
  |cons t l ih=>simp [agrees,ih]
 have ap:∀(A:Nat→Value) (l:List Nat) (G:Nat→Value),app (l.map fun t=>(t,A t)) G=keepL l A G:=by
  intro A l G
  induction l with
  |nil=>rfl
  |cons t l ih=>
   funext u
   simp only [zaE,app,upd,ih,keepL,zbm]
   by_cases hut:u=t
   ·subst hut;simp
   ·have:zau u t=false:=by
     cases hx:zau u t
     ·rfl
     ·exact absurd (zaf hx) hut
    simp [this]
 refine c_loop (σ:=σ) (fun s=>lv.map fun t=>(t,app (L s) F t)) wd m s0 ((ag _ _ _).2 h0) hw0 fun s w G hw=> ?_
 rw [ap]
 refine cc_mono (round s w G hw) fun e a w' h=> ?_
 cases e with
 |normal=>
  obtain⟨s',F',h1,h2,h3,h4⟩:=h
  exact⟨s',F',h1,(ag _ _ _).2 h2,h3,h4⟩
 |exit id=>exact h
 |goto l=>exact h
 |ret=>exact h
 |panic ch=>exact h
 |outgrown=>exact h
theorem w_nil(h:Q .normal (fr n F) w):W P n ops Q [] F w:=by
 obtain⟨k,D,ro⟩:=n
 cases ro with
 |none=>exact h
 |some r=>exact h
theorem semAt_run{o:Oper}{ρ:Operand→Value}{x:Next}{w':World}(ro:Option Nat)(h:(execOp ρ o).run P w=.ok x w')(hx:∀d,x≠.defer d):o.semAt ro ρ=execOp ρ o:=by
 refine Oper.semAt_eq ro ρ o fun c hc=> ?_
 unfold execOp at h
 rw [hc]at h
 simp only [Sem.run_bind]at h
 cases hr:(resolve ρ c o.type).run P w with
 |ok d w1=>rw [hr]at h;simp [Result.andThen]at h;exact hx d h.1.symm
 |halt d w1=>rw [hr]at h;simp [Result.andThen]at h
theorem aht{o:Oper}{rest:List Oper}{d:Nat}{v:Value}{w':World}(hg:o.guard=none)(hd:o.dst=some d)
  (hrun:(execOp (evn n F) o).run P w=.ok (.value v) w') (h:W P n ops Q rest (upd F d v) w'):W P n ops Q (o::rest) F w:=by
 obtain⟨k,D,ro⟩:=n
 cases ro with
 |none=>
  refine wpList_plain hg fun K hK=> ?_
  unfold Oper.wp
  rw [ash,hrun,Oper.upon_value,hd]
  refine hK _ _ ?_
  rw [fr_put];exact h
 |some r=>
  refine wpListIn_plain hg fun K hK=>⟨fun _ _=>trivial, ?_⟩
  rw [ash,semAt_run _ hrun (fun d e=>by cases e),hrun,Oper.uponIn_value,hd]
  refine hK _ _ ?_
  rw [fr_put];exact h
theorem w_skip{o:Oper}{rest:List Oper}{w':World}(hg:o.guard=none)(hd:o.dst=none)
  (hrun:(execOp (evn n F) o).run P w=.ok .skip w') (h:W P n ops Q rest F w'):W P n ops Q (o::rest) F w:=by
 obtain⟨k,D,ro⟩:=n
 cases ro with
 |none=>
  refine wpList_plain hg fun K hK=> ?_
  unfold Oper.wp
  rw [ash,hrun,Oper.upon_skip,hd]
  exact hK _ _ h
 |some r=>
  refine wpListIn_plain hg fun K hK=>⟨fun _ _=>trivial, ?_⟩
  rw [ash,semAt_run _ hrun (fun d e=>by cases e),hrun,Oper.uponIn_skip,hd]
  exact hK _ _ h
theorem w_enter{o:Oper}{rest:List Oper}{f:FuncId}{vs:List Value}{R:Value→World→Prop}(hg:o.guard=none)
  (hrun:(execOp (evn n F) o).run P w=.ok (.enter f vs.toArray) w) (hc:CR P f vs w R) (h:∀v w',R v w'→WR P n.ro ops Q rest ((fr n F).put o.dst v) w'):W P n ops Q (o::rest) F w:=by
 obtain⟨k,D,ro⟩:=n
 cases ro with
 |none=>
  refine wpList_plain hg fun K hK=> ?_
  unfold Oper.wp
  rw [ash,hrun,Oper.upon_enter]
  refine Calls.mono hc ?_
  rintro e w' ⟨v,rfl,hv⟩
  exact hK _ _ (h v w' hv)
 |some r=>
  refine wpListIn_plain hg fun K hK=>⟨fun _ _=>trivial, ?_⟩
  rw [ash,semAt_run _ hrun (fun d e=>by cases e),hrun,Oper.uponIn_enter]
  refine⟨fun h=>absurd h Bool.false_ne_true, ?_⟩
  refine(callsIn_wide (n:=0)).2 (Calls.mono hc ?_)
  rintro e w' ⟨v,rfl,hv⟩
  exact hK _ _ (h v w' hv)
theorem avm(ops:Array Oper)(g:Nat)(dg:Nat)(h1:(ops[g]?).bind (·.dst)=some dg)(h3:zbf dg n.n=true):
  yielded ops (fr n F).tmps g=match F dg with|.bool b=>some b|_=>none:=by
 have hlt:dg<n.n:=by simpa [Nat.blt_eq] using h3
 unfold yielded
 simp [h1,fr,hlt]
 cases F dg<;>rfl
theorem w_gyes{dst:Option Nat}{op:Op}{ty:TypeId}{pos:String}{after:Array Edge}{g:Nat}{b:Bool}{rest:List Oper}(dg:Nat)
  (h1:(ops[g]?).bind (·.dst)=some dg) (h3:zbf dg n.n=true) (hv:F dg=.bool b)
  (h:W P n ops Q (⟨dst,op,ty,pos,after,none⟩::rest) F w):W P n ops Q (⟨dst,op,ty,pos,after,some (g,b)⟩::rest) F w:=by
 have hw:Region.wanted ⟨dst,op,ty,pos,after,some (g,b)⟩ (yielded ops (fr n F).tmps)=true:=by
  unfold Region.wanted
  simp only [avm ops g dg h1 h3,hv]
  simp
 obtain⟨k,D,ro⟩:=n
 cases ro with
 |none=>
  simp only [W,WR]at h⊢
  unfold wpList at h⊢
  rw [if_pos hw]
  rw [if_pos (by simp [Region.wanted])]at h
  exact h
 |some r=>
  simp only [W,WR]at h⊢
  unfold wpListIn at h⊢
  rw [if_pos hw]
  rw [if_pos (by simp [Region.wanted])]at h
  exact h
theorem w_gno{d:Nat}{op:Op}{ty:TypeId}{pos:String}{after:Array Edge}{g:Nat}{b:Bool}{rest:List Oper}(dg:Nat)
  (h1:(ops[g]?).bind (·.dst)=some dg) (h3:zbf dg n.n=true) (hv:F dg=.bool (!b))
  (h:W P n ops Q rest (upd F d undef) w):W P n ops Q (⟨some d,op,ty,pos,after,some (g,b)⟩::rest) F w:=by
 have hw:¬Region.wanted ⟨some d,op,ty,pos,after,some (g,b)⟩ (yielded ops (fr n F).tmps)=true:=by
  unfold Region.wanted
  simp only [avm ops g dg h1 h3,hv];simp
 obtain⟨k,D,ro⟩:=n
 cases ro with
 |none=>
  simp only [W,WR]at h⊢
  unfold wpList
  rw [if_neg hw]
  show wpList P ops Q rest ((fr ⟨k,D,none⟩ F).put (some d) undef) w
  rw [fr_put];exact h
 |some r=>
  simp only [W,WR]at h⊢
  unfold wpListIn
  rw [if_neg hw]
  refine⟨fun _ _=>trivial, ?_⟩
  show wpListIn (fen r) 0 P ops Q rest ((fr ⟨k,D,some r⟩ F).put (some d) undef) w
  rw [fr_put];exact h
theorem w_gun{d:Nat}{op:Op}{ty:TypeId}{pos:String}{after:Array Edge}{g:Nat}{b:Bool}{rest:List Oper}(dg:Nat)
  (h1:(ops[g]?).bind (·.dst)=some dg) (h3:zbf dg n.n=true) (hv:F dg=undef)
  (h:W P n ops Q rest (upd F d undef) w):W P n ops Q (⟨some d,op,ty,pos,after,some (g,b)⟩::rest) F w:=by
 have hw:¬Region.wanted ⟨some d,op,ty,pos,after,some (g,b)⟩ (yielded ops (fr n F).tmps)=true:=by
  unfold Region.wanted
  simp only [avm ops g dg h1 h3,hv];simp [undef]
 obtain⟨k,D,ro⟩:=n
 cases ro with
 |none=>
  simp only [W,WR]at h⊢
  unfold wpList
  rw [if_neg hw]
  show wpList P ops Q rest ((fr ⟨k,D,none⟩ F).put (some d) undef) w
  rw [fr_put];exact h
 |some r=>
  simp only [W,WR]at h⊢
  unfold wpListIn
  rw [if_neg hw]
  refine⟨fun _ _=>trivial, ?_⟩
  show wpListIn (fen r) 0 P ops Q rest ((fr ⟨k,D,some r⟩ F).put (some d) undef) w
  rw [fr_put];exact h
section
variable {d : Nat} {ty : TypeId} {pos : String} {after : Array Edge} {rest : List Oper}
theorem w_move{x:Operand}(v:Value)(hx:evn n F x=v)(h:W P n ops Q rest (upd F d v) w):W P n ops Q (⟨some d,.move x,ty,pos,after,none⟩::rest) F w:=
 aht rfl rfl (by rw [←hx];rfl) h
theorem w_assign{x:Operand}(v:Value)(hx:evn n F x=v)(h:W P n ops Q rest (upd F d v) w):W P n ops Q (⟨some d,.assign x,ty,pos,after,none⟩::rest) F w:=
 aht rfl rfl (by rw [←hx];rfl) h
theorem w_move_bool{x:Operand}(b:Bool)(hx:evn n F x=.bool b)(ht:b=true→W P n ops Q rest (upd F d (.bool true)) w)(hf:b=false→W P n ops Q rest (upd F d (.bool false)) w):
  W P n ops Q (⟨some d,.move x,ty,pos,after,none⟩::rest) F w:=by
 cases b with
 |true=>exact w_move _ hx (ht rfl)
 |false=>exact w_move _ hx (hf rfl)
theorem w_move_dec{x:Operand}(p:Prop)[Decidable p](hx:evn n F x=.bool (decide p))(ht:p→W P n ops Q rest (upd F d (.bool true)) w)(hf:¬p→W P n ops Q rest (upd F d (.bool false)) w):
  W P n ops Q (⟨some d,.move x,ty,pos,after,none⟩::rest) F w:=
 w_move_bool _ hx (fun h=>ht (of_decide_eq_true h)) (fun h=>hf (of_decide_eq_false h))
theorem x_pick{c a b:Operand}(t:Bool)(v:Value)(hc:evn n F c=.bool t)(hv:(bif t then evn n F a else evn n F b)=v):(execOp (evn n F) (⟨some d,.pick c a b,ty,pos,after,none⟩:Oper)).run P w=.ok (.value v) w:=by
 simp only [execOp,hc]
 rw [←hv]
 cases t<;>rfl
theorem x_not{x:Operand}{t:TypeId}(b:Bool)(hx:evn n F x=.bool b):(execOp (evn n F) (⟨some d,.unOp .not t x,ty,pos,after,none⟩:Oper)).run P w=.ok (.value (.bool (!b))) w:=by
 simp only [execOp,hx];rfl
theorem x_nnot{x:Operand}{t:TypeId}(b:Bool)(hx:evn n F x=.bool (!b)):(execOp (evn n F) (⟨some d,.unOp .not t x,ty,pos,after,none⟩:Oper)).run P w=.ok (.value (.bool b)) w:=by
 simp only [execOp,hx]
 cases b<;>rfl
structure aap (a:Int):Prop where
 lo: -9223372036854775808≤a
 hi:a≤9223372036854775807
theorem axz{x:Int}(h1: -9223372036854775808≤x)(h2:x≤9223372036854775807):IntKind.i64.wrap x=x:=by
 rw [IntKind.wrap_i64]
 omega
theorem x_add{x y:Operand}{t t':TypeId}(k:IntKind)(a b:Int)(hx:evn n F x=.int k a)(hy:evn n F y=.int k b):(execOp (evn n F) (⟨some d,.binOp .add t x y t',ty,pos,after,none⟩:Oper)).run P w=.ok (.value (.int k (k.wrap (a+b)))) w:=by
 simp only [execOp,hx,hy,binOp,ne_eq,not_true_eq_false,if_false];rfl
theorem x_add64{x y:Operand}{t t':TypeId}(a b:Int)(hx:evn n F x=.int .i64 a)(hy:evn n F y=.int .i64 b)(h1:aap (a+b)):(execOp (evn n F) (⟨some d,.binOp .add t x y t',ty,pos,after,none⟩:Oper)).run P w=.ok (.value (.int .i64 (a+b))) w:=by
 rw [x_add .i64 a b hx hy,axz h1.1 h1.2]
theorem ayv{x y:Operand}{t t':TypeId}(a b:Int)(hx:evn n F x=.int .i64 a)(hy:evn n F y=.int .i64 b)(h1:aap (a+b))(h:W P n ops Q rest (upd F d (.int .i64 (a+b))) w):W P n ops Q (⟨some d,.binOp .add t x y t',ty,pos,after,none⟩::rest) F w:=
 aht rfl rfl (x_add64 a b hx hy h1) h
theorem x_sub{x y:Operand}{t t':TypeId}(k:IntKind)(a b:Int)(hx:evn n F x=.int k a)(hy:evn n F y=.int k b):(execOp (evn n F) (⟨some d,.binOp .sub t x y t',ty,pos,after,none⟩:Oper)).run P w=.ok (.value (.int k (k.wrap (a-b)))) w:=by
 simp only [execOp,hx,hy,binOp,ne_eq,not_true_eq_false,if_false];rfl
theorem x_sub64{x y:Operand}{t t':TypeId}(a b:Int)(hx:evn n F x=.int .i64 a)(hy:evn n F y=.int .i64 b)(h1:aap (a-b)):(execOp (evn n F) (⟨some d,.binOp .sub t x y t',ty,pos,after,none⟩:Oper)).run P w=.ok (.value (.int .i64 (a-b))) w:=by
 rw [x_sub .i64 a b hx hy,axz h1.1 h1.2]
theorem w_sub64{x y:Operand}{t t':TypeId}(a b:Int)(hx:evn n F x=.int .i64 a)(hy:evn n F y=.int .i64 b)(h1:aap (a-b))(h:W P n ops Q rest (upd F d (.int .i64 (a-b))) w):W P n ops Q (⟨some d,.binOp .sub t x y t',ty,pos,after,none⟩::rest) F w:=
 aht rfl rfl (x_sub64 a b hx hy h1) h
theorem x_mul{x y:Operand}{t t':TypeId}(k:IntKind)(a b:Int)(hx:evn n F x=.int k a)(hy:evn n F y=.int k b):(execOp (evn n F) (⟨some d,.binOp .mul t x y t',ty,pos,after,none⟩:Oper)).run P w=.ok (.value (.int k (k.wrap (a*b)))) w:=by
 simp only [execOp,hx,hy,binOp,ne_eq,not_true_eq_false,if_false];rfl
theorem x_mul64{x y:Operand}{t t':TypeId}(a b:Int)(hx:evn n F x=.int .i64 a)(hy:evn n F y=.int .i64 b)(h1:aap (a*b)):(execOp (evn n F) (⟨some d,.binOp .mul t x y t',ty,pos,after,none⟩:Oper)).run P w=.ok (.value (.int .i64 (a*b))) w:=by
 rw [x_mul .i64 a b hx hy,axz h1.1 h1.2]
theorem x_lss{x y:Operand}{t t':TypeId}(k:IntKind)(a b:Int)(hx:evn n F x=.int k a)(hy:evn n F y=.int k b):(execOp (evn n F) (⟨some d,.binOp .lss t x y t',ty,pos,after,none⟩:Oper)).run P w=.ok (.value (.bool (decide (a<b)))) w:=by
 simp only [execOp,hx,hy,binOp,ne_eq,not_true_eq_false,if_false];rfl
theorem x_leq{x y:Operand}{t t':TypeId}(k:IntKind)(a b:Int)(hx:evn n F x=.int k a)(hy:evn n F y=.int k b):(execOp (evn n F) (⟨some d,.binOp .leq t x y t',ty,pos,after,none⟩:Oper)).run P w=.ok (.value (.bool (decide (a≤b)))) w:=by
 simp only [execOp,hx,hy,binOp,ne_eq,not_true_eq_false,if_false];rfl
theorem x_gtr{x y:Operand}{t t':TypeId}(k:IntKind)(a b:Int)(hx:evn n F x=.int k a)(hy:evn n F y=.int k b):(execOp (evn n F) (⟨some d,.binOp .gtr t x y t',ty,pos,after,none⟩:Oper)).run P w=.ok (.value (.bool (decide (b<a)))) w:=by
 simp only [execOp,hx,hy,binOp,ne_eq,not_true_eq_false,if_false];rfl
theorem x_geq{x y:Operand}{t t':TypeId}(k:IntKind)(a b:Int)(hx:evn n F x=.int k a)(hy:evn n F y=.int k b):(execOp (evn n F) (⟨some d,.binOp .geq t x y t',ty,pos,after,none⟩:Oper)).run P w=.ok (.value (.bool (decide (b≤a)))) w:=by
 simp only [execOp,hx,hy,binOp,ne_eq,not_true_eq_false,if_false];rfl
theorem x_eql{x y:Operand}{t t':TypeId}(k:IntKind)(a b:Int)(hx:evn n F x=.int k a)(hy:evn n F y=.int k b):(execOp (evn n F) (⟨some d,.binOp .eql t x y t',ty,pos,after,none⟩:Oper)).run P w=.ok (.value (.bool (decide (a=b)))) w:=by
 simp only [execOp,hx,hy,binOp,ne_eq,not_true_eq_false,if_false];rfl
theorem x_neq{x y:Operand}{t t':TypeId}(k:IntKind)(a b:Int)(hx:evn n F x=.int k a)(hy:evn n F y=.int k b):(execOp (evn n F) (⟨some d,.binOp .neq t x y t',ty,pos,after,none⟩:Oper)).run P w=.ok (.value (.bool (!decide (a=b)))) w:=by
 simp only [execOp,hx,hy,binOp,ne_eq,not_true_eq_false,if_false];rfl
end
end
attribute [irreducible] W C SeqQ WR CC
def at_(l:List UInt8)(i:Int):UInt8:=l.getD i.toNat 0
def sub(l:List UInt8)(i j:Int):List UInt8:=(l.drop i.toNat).take (j.toNat-i.toNat)
end Go.Wk
set_option linter.unusedSimpArgs false
namespace Go.Wk
open Go.Op renaming bytesLess → zaL
open List renaming drop_zero → zbt, map_cons → zaE
open Option renaming map_some → zaP
def str(l:List UInt8):Value:=.string ⟨l.toArray⟩
def bt(c:UInt8):Value:=.int .u8 (c.toNat:Int)
def Enters(P : Program)(f : FuncId) : Prop := ∃ fn c, P.funcs[f]? = some fn ∧ fn.body = some c ∧ (fn.name == "runtime.NumGoroutine") = false
theorem Enters.run{P:Program}{f:FuncId}(h:Enters P f)(args:Array Value)(w:World):(callFunc f args).run P w=.ok (.enter f args) w:=by
 obtain⟨fn,c,h1,h2,h3⟩:=h
 unfold callFunc
 show Sem.run P (match P.funcs[f]? with|none=>_|some fn=>_) w=_
 rw [h1]
 simp only [h3,h2]
 rfl
section
variable {P : Program} {n : Md} {ops : Array Oper} {Q : Exit → Act → World → Prop} {F : Nat → Value} {w : World}
theorem r_one{kk:Nat}{ro:Option (Option Nat)}{fn:Func}{R:Value→World→Prop}{t:Nat}(v:Value)(hr:fn.results= #[.tmp t])(hv:evn ⟨kk,[],ro⟩ F (.tmp t)=v)(h:R v w):
  bodyPost P fn (fun e w'=>∃v,e=.returned v∧R v w') .ret (fr ⟨kk,[],ro⟩ F) w:=
 ⟨rfl,v,by rw [results_tmp hr,fr_get];exact congrArg (fun x=>Result.ok x w) hv,v,rfl,h⟩
theorem r_none{kk:Nat}{ro:Option (Option Nat)}{fn:Func}{R:Value→World→Prop}(hr:fn.results= #[])(h:R (.tuple #[]) w):
  bodyPost P fn (fun e w'=>∃v,e=.returned v∧R v w') .ret (fr ⟨kk,[],ro⟩ F) w:=
 ⟨rfl,_,results_none hr _ _ _,_,rfl,h⟩
theorem r_none'{kk:Nat}{ro:Option (Option Nat)}{fn:Func}{R:Value→World→Prop}(hr:fn.results= #[])(h:R (.tuple #[]) w):
  bodyPost P fn (fun e w'=>∃v,e=.returned v∧R v w') .normal (fr ⟨kk,[],ro⟩ F) w:=
 ⟨rfl,_,results_none hr _ _ _,_,rfl,h⟩
section
variable {d : Nat} {ty : TypeId} {pos : String} {after : Array Edge} {rest : List Oper}
theorem w_call{fo:Operand}{azq:Array Operand}{ats:Array TypeId}(f:FuncId)(cap:Array Value)(vs:List Value)(R:Value→World→Prop)(hE:Enters P f)
  (hf:evn n F fo=.func (.func f) #[] cap) (ha: #[]++azq.map (evn n F)++cap=vs.toArray) (hc:CR P f vs w R) (h:∀v w',R v w'→W P n ops Q rest (upd F d v) w'):
  W P n ops Q (⟨some d,.call ⟨.value fo,azq,ats⟩,ty,pos,after,none⟩::rest) F w:=by
 refine w_enter rfl ?_ hc (fun v w' hv=> ?_)
 ·simp only [execOp,resolve,hf,Deferred.ofValue]
  show Sem.run P (callFunc f (#[]++azq.map (evn n F)++cap)) w=_
  rw [ha]
  exact hE.run _ _
 ·have:=h v w' hv
  unfold W at this
  rw [←fr_put]at this
  exact this
theorem w_call0{fo:Operand}{azq:Array Operand}{ats:Array TypeId}(f:FuncId)(cap:Array Value)(vs:List Value)(R:Value→World→Prop)(hE:Enters P f)
  (hf:evn n F fo=.func (.func f) #[] cap) (ha: #[]++azq.map (evn n F)++cap=vs.toArray) (hc:CR P f vs w R) (h:∀v w',R v w'→W P n ops Q rest F w'):
  W P n ops Q (⟨none,.call ⟨.value fo,azq,ats⟩,ty,pos,after,none⟩::rest) F w:=by
 refine w_enter rfl ?_ hc (fun v w' hv=> ?_)
 ·simp only [execOp,resolve,hf,Deferred.ofValue]
  show Sem.run P (callFunc f (#[]++azq.map (evn n F)++cap)) w=_
  rw [ha]
  exact hE.run _ _
 ·have:=h v w' hv
  unfold W at this
  exact this
theorem x_min{x y:Operand}{ats:Array TypeId}(k:IntKind)(a b:Int)(hx:evn n F x=.int k a)(hy:evn n F y=.int k b):(execOp (evn n F) (⟨some d,.call ⟨.builtin .min, #[x,y],ats⟩,ty,pos,after,none⟩:Oper)).run P w=.ok (.value (.int k (min a b))) w:=by
 have e:(execOp (evn n F) (⟨some d,.call ⟨.builtin .min, #[x,y],ats⟩,ty,pos,after,none⟩:Oper)).run P w=.ok (.value (.int k (if b<a then b else a))) w:=by
  simp only [execOp,resolve,List.map_toArray,zaE,List.map_nil,hx,hy]
  rfl
 rw [e]
 congr 3
 split<;>omega
theorem x_max{x y:Operand}{ats:Array TypeId}(k:IntKind)(a b:Int)(hx:evn n F x=.int k a)(hy:evn n F y=.int k b):(execOp (evn n F) (⟨some d,.call ⟨.builtin .max, #[x,y],ats⟩,ty,pos,after,none⟩:Oper)).run P w=.ok (.value (.int k (max a b))) w:=by
 have e:(execOp (evn n F) (⟨some d,.call ⟨.builtin .max, #[x,y],ats⟩,ty,pos,after,none⟩:Oper)).run P w=.ok (.value (.int k (if a<b then b else a))) w:=by
  simp only [execOp,resolve,List.map_toArray,zaE,List.map_nil,hx,hy]
  rfl
 rw [e]
 congr 3
 split<;>omega
theorem x_len{x:Operand}{t:TypeId}(l:List UInt8)(ht:P.underlying t=some .string)(hx:evn n F x=str l):(execOp (evn n F) (⟨some d,.call ⟨.builtin .len, #[x], #[t]⟩,ty,pos,after,none⟩:Oper)).run P w=.ok (.value (.int .i64 (l.length:Int))) w:=by
 simp [execOp,resolve,invoke,builtin,hx,str,run_len_string _ _ _ _ ht,goInt]
 rfl
theorem x_streq{x y:Operand}{t t':TypeId}(a b:List UInt8)(hx:evn n F x=str a)(hy:evn n F y=str b):(execOp (evn n F) (⟨some d,.binOp .eql t x y t',ty,pos,after,none⟩:Oper)).run P w=.ok (.value (.bool (decide (a=b)))) w:=by
 have e:(a==b)=decide (a=b):=by rw [Bool.eq_iff_iff];simp
 simp [execOp,hx,hy,str,eqGuard,binOp_string_eql,e]
theorem x_strne{x y:Operand}{t t':TypeId}(a b:List UInt8)(hx:evn n F x=str a)(hy:evn n F y=str b):(execOp (evn n F) (⟨some d,.binOp .neq t x y t',ty,pos,after,none⟩:Oper)).run P w=.ok (.value (.bool (!decide (a=b)))) w:=by
 have e:(a==b)=decide (a=b):=by rw [Bool.eq_iff_iff];simp
 simp [execOp,hx,hy,str,eqGuard,binOp_string_neq,e]
theorem x_strlt{x y:Operand}{t t':TypeId}(a b:List UInt8)(hx:evn n F x=str a)(hy:evn n F y=str b):(execOp (evn n F) (⟨some d,.binOp .lss t x y t',ty,pos,after,none⟩:Oper)).run P w=.ok (.value (.bool (zaL a b))) w:=by
 simp [execOp,hx,hy,str,eqGuard,binOp_string_lss]
theorem x_strgt{x y:Operand}{t t':TypeId}(a b:List UInt8)(hx:evn n F x=str a)(hy:evn n F y=str b):(execOp (evn n F) (⟨some d,.binOp .gtr t x y t',ty,pos,after,none⟩:Oper)).run P w=.ok (.value (.bool (!(zaL a b||a==b)))) w:=by
 simp [execOp,hx,hy,str,eqGuard,binOp,Op.stringOp]
theorem x_strcat{x y:Operand}{t t':TypeId}(a b:List UInt8)(hx:evn n F x=str a)(hy:evn n F y=str b)(hlen:a.length+b.length≤9223372036854775807)
  :(execOp (evn n F) (⟨some d,.binOp .add t x y t',ty,pos,after,none⟩:Oper)).run P w=.ok (.value (str (a++b))) w:=by
 simp [execOp,hx,hy,str,eqGuard,binOp_string_add,run_string_add_sum (P:=P) w ⟨a.toArray⟩ ⟨b.toArray⟩ hlen,ByteArray.mk_append_mk]
theorem x_index{x ix:Operand}{t:TypeId}(l:List UInt8)(k:IntKind)(i:Int)(ht:P.underlying t=some .string)(hx:evn n F x=str l)(hi:evn n F ix=.int k i)
  (hb:0≤i∧i<(l.length:Int)):(execOp (evn n F) (⟨some d,.index t x ix,ty,pos,after,none⟩:Oper)).run P w=.ok (.value (bt (at_ l i))) w:=by
 have hb':0≤i∧i<(⟨l.toArray⟩:ByteArray).size:=hb
 have hl:i.toNat<l.length:=by omega
 have e:=run_index_string (P:=P) w t ⟨l.toArray⟩ k i ht
 rw [dif_pos hb']at e
 simp only [execOp,hx,hi,str,Sem.run_bind,e,Result.andThen_ok]
 show Result.ok (Next.value (.int .u8 ((l[i.toNat]).toNat:Int))) w=_
 simp [bt,at_,hl]
theorem w_index{x ix:Operand}{t:TypeId}(l:List UInt8)(k:IntKind)(i:Int)(ht:P.underlying t=some .string)(hx:evn n F x=str l)(hi:evn n F ix=.int k i)
  (hb:0≤i∧i<(l.length:Int)) (h:W P n ops Q rest (upd F d (bt (at_ l i))) w):W P n ops Q (⟨some d,.index t x ix,ty,pos,after,none⟩::rest) F w:=
 aht rfl rfl (x_index l k i ht hx hi hb) h
theorem x_slice{x lo hi:Operand}{t:TypeId}(l:List UInt8)(k k':IntKind)(i j:Int)(ht:P.underlying t=some .string)(hx:evn n F x=str l)(hlo:evn n F lo=.int k i)(hhi:evn n F hi=.int k' j)
  (hb:0≤i∧i≤j∧j≤(l.length:Int)):(execOp (evn n F) (⟨some d,.slice t x (some lo) (some hi) none,ty,pos,after,none⟩:Oper)).run P w=.ok (.value (str (sub l i j))) w:=by
 have e:=run_slice_string (P:=P) w t ⟨l.toArray⟩ k k' i j ht hb.1 hb.2.1 hb.2.2
 simp only [execOp,hx,hlo,hhi,str,Sem.run_bind,zaP,Option.map_none,run_sliceAt_string w t _ _ _ _ ht,e,Result.andThen_ok,ByteArray.extract_mk]
 rfl
theorem x_slice_from{x lo:Operand}{t:TypeId}(l:List UInt8)(k:IntKind)(i:Int)(ht:P.underlying t=some .string)(hx:evn n F x=str l)(hlo:evn n F lo=.int k i)
  (hb:0≤i∧i≤(l.length:Int)):(execOp (evn n F) (⟨some d,.slice t x (some lo) none none,ty,pos,after,none⟩:Oper)).run P w=.ok (.value (str (l.drop i.toNat))) w:=by
 have e:=run_slice_string_l (P:=P) (w:=w) (t:=t) (s:=⟨l.toArray⟩) ht k i hb.1 hb.2
 simp only [execOp,hx,hlo,str,Sem.run_bind,zaP,Option.map_none,run_sliceAt_string w t _ _ _ _ ht,e,Result.andThen_ok,ByteArray.extract_mk]
 have e2:(l.drop i.toNat).take ((⟨l.toArray⟩:ByteArray).size-i.toNat)=l.drop i.toNat:=List.take_of_length_le (by
  show(l.drop i.toNat).length≤l.length-i.toNat
  simp)
 rw [e2];rfl
theorem w_slice_from{x lo:Operand}{t:TypeId}(l:List UInt8)(k:IntKind)(i:Int)(ht:P.underlying t=some .string)(hx:evn n F x=str l)(hlo:evn n F lo=.int k i)
  (hb:0≤i∧i≤(l.length:Int)) (h:W P n ops Q rest (upd F d (str (l.drop i.toNat))) w):W P n ops Q (⟨some d,.slice t x (some lo) none none,ty,pos,after,none⟩::rest) F w:=
 aht rfl rfl (x_slice_from l k i ht hx hlo hb) h
theorem x_slice_to{x hi:Operand}{t:TypeId}(l:List UInt8)(k:IntKind)(j:Int)(ht:P.underlying t=some .string)(hx:evn n F x=str l)(hhi:evn n F hi=.int k j)
  (hb:0≤j∧j≤(l.length:Int)):(execOp (evn n F) (⟨some d,.slice t x none (some hi) none,ty,pos,after,none⟩:Oper)).run P w=.ok (.value (str (l.take j.toNat))) w:=by
 have e:=run_slice_string_h (P:=P) (w:=w) (t:=t) (s:=⟨l.toArray⟩) ht k j hb.1 hb.2
 simp only [execOp,hx,hhi,str,Sem.run_bind,zaP,Option.map_none,run_sliceAt_string w t _ _ _ _ ht,e,Result.andThen_ok,ByteArray.extract_mk,zbt,Nat.sub_zero]
 rfl
theorem w_slice_to{x hi:Operand}{t:TypeId}(l:List UInt8)(k:IntKind)(j:Int)(ht:P.underlying t=some .string)(hx:evn n F x=str l)(hhi:evn n F hi=.int k j)
  (hb:0≤j∧j≤(l.length:Int)) (h:W P n ops Q rest (upd F d (str (l.take j.toNat))) w):W P n ops Q (⟨some d,.slice t x none (some hi) none,ty,pos,after,none⟩::rest) F w:=
 aht rfl rfl (x_slice_to l k j ht hx hhi hb) h
theorem x_conv{x:Operand}{s t:TypeId}(k k':IntKind)(a:Int)(hs:P.underlying s=some (.int k'))(ht:P.underlying t=some (.int k))(hx:evn n F x=.int k' a):(execOp (evn n F) (⟨some d,.convert s t x,ty,pos,after,none⟩:Oper)).run P w=.ok (.value (.int k (k.wrap a))) w:=by
 simp [execOp,hx,convert,run_underlying hs,run_underlying ht,Conv.intToInt]
theorem x_convx{x:Operand}{s t:TypeId}(k k':IntKind)(a:Int)(hs:P.underlying s=some (.int k'))(ht:P.underlying t=some (.int k))(hx:evn n F x=.int k' a)(hw:k.wrap a=a):(execOp (evn n F) (⟨some d,.convert s t x,ty,pos,after,none⟩:Oper)).run P w=.ok (.value (.int k a)) w:=by
 rw [x_conv k k' a hs ht hx,hw]
theorem w_convx{x:Operand}{s t:TypeId}(k k':IntKind)(a:Int)(hs:P.underlying s=some (.int k'))(ht:P.underlying t=some (.int k))(hx:evn n F x=.int k' a)(hw:k.wrap a=a)(h:W P n ops Q rest (upd F d (.int k a)) w):W P n ops Q (⟨some d,.convert s t x,ty,pos,after,none⟩::rest) F w:=
 aht rfl rfl (x_convx k k' a hs ht hx hw) h
theorem x_convstr{x:Operand}{s t:TypeId}(l:List UInt8)(hs:P.underlying s=some .string)(ht:P.underlying t=some .string)(hx:evn n F x=str l):(execOp (evn n F) (⟨some d,.convert s t x,ty,pos,after,none⟩:Oper)).run P w=.ok (.value (str l)) w:=by
 simp [execOp,hx,str,convert,run_underlying hs,run_underlying ht]
theorem x_eqb{x y:Operand}{t t':TypeId}(a b:Bool)(ht:P.underlying t=some .bool)(hx:evn n F x=.bool a)(hy:evn n F y=.bool b):(execOp (evn n F) (⟨some d,.binOp .eql t x y t',ty,pos,after,none⟩:Oper)).run P w=.ok (.value (.bool (a==b))) w:=by
 simp [execOp,hx,hy,eqGuard,run_eql_bool _ _ _ _ ht]
theorem x_neb{x y:Operand}{t t':TypeId}(a b:Bool)(ht:P.underlying t=some .bool)(hx:evn n F x=.bool a)(hy:evn n F y=.bool b):(execOp (evn n F) (⟨some d,.binOp .neq t x y t',ty,pos,after,none⟩:Oper)).run P w=.ok (.value (.bool (!(a==b)))) w:=by
 simp [execOp,hx,hy,eqGuard,run_neq_bool _ _ _ _ ht]
theorem x_extract{x:Operand}{i:Nat}(vs:Array Value)(v:Value)(hx:evn n F x=.tuple vs)(hv:vs[i]? =some v):(execOp (evn n F) (⟨some d,.extract x i,ty,pos,after,none⟩:Oper)).run P w=.ok (.value v) w:=by
 simp [execOp,hx,Instr.extract,hv]
end
end
open Nat renaming le_refl → zam, le_trans → zaM, lt_of_lt_of_le → zbn
structure Res where
 own:Option Nat
 ok:Option Obj→Prop
def Res.holds(r:Res)(w:World):Prop:=r.ok (r.own.bind fun b=>w.heap[b]?)
def blk(b:Nat)(cs:List Value)(e:TypeId):Res:=⟨some b,fun o=>o=some (.cells cs.toArray e (0,0))⟩
def row(v:Value)(e:TypeId)(sz n:Nat)(xs:List Value):Res:=
 ⟨v.ownBlock,fun o=>xs.length=n*sz∧((v=.slice none 0 0∧n=0)∨
  ∃g cap cur,v=.slice (some ⟨g,0,none⟩) n cap∧o=some (.cells cur e (0,0))∧n≤cap∧cap≤maxLen∧cur.size=cap*sz∧cur.toList.take (n*sz)=xs)⟩
def brow(v:Value)(n:Nat)(l:List UInt8):Res:=
 ⟨v.ownBlock,fun o=>l.length=n∧∃g cap cur e fz,v=.slice (some ⟨g,0,none⟩) n cap∧o=some (.cells cur e fz)∧n≤cap∧cap≤cur.size∧cur.toList.take n=l.map bt∧cur.size≤fz.1⟩
structure Hp (w0:World) (S:List Nat) (L:List Res) (w:World):Prop where
 os:w.os=w0.os
 tape:w.tape=w0.tape
 output:w.output=w0.output
 size:w0.heap.size≤w.heap.size
 below:∀k,k<w0.heap.size→k∉S→w.heap[k]? =w0.heap[k]?
 res:∀r∈L,r.holds w∧∀b,r.own=some b→b<w.heap.size∧(w0.heap.size≤b∨b∈S)
 sep:L.Pairwise fun r r'=>∀b,r.own=some b→r'.own≠some b
theorem Hp.refl(w:World):Hp w [] [] w:=⟨rfl,rfl,rfl,zam _,fun _ _ _=>rfl,fun _ h=>by simp at h,List.Pairwise.nil⟩
theorem Hp.toBelow{w0 w:World}{L:List Res}(h:Hp w0 [] L w):RowKit.Below w0.heap.size w0 w:=⟨h.os,h.tape,h.output,h.size,fun k hk=>h.below k hk (by simp)⟩
theorem Hp.ofBelow{w w':World}(h:RowKit.Below w.heap.size w w'):Hp w [] [] w':=⟨h.os,h.tape,h.output,h.size,fun k hk _=>h.block k hk,fun _ h=>by simp at h,List.Pairwise.nil⟩
theorem Res.holds_of{r:Res}{w w':World}(h:r.holds w)(hb:∀b,r.own=some b→w'.heap[b]? =w.heap[b]?):r.holds w':=by
 unfold Res.holds at*
 cases ho:r.own with
 |none=>simpa [ho] using h
 |some b=>simpa [ho,hb b ho] using h
theorem Hp.sub{w0 w:World}{S:List Nat}{L L':List Res}(h:Hp w0 S L w)(hs:L'.Sublist L):Hp w0 S L' w:=
 ⟨h.os,h.tape,h.output,h.size,h.below,fun r hr=>h.res r (hs.subset hr),h.sep.sublist hs⟩
theorem Hp.nil{w0 w:World}{S:List Nat}{L:List Res}(h:Hp w0 S L w):Hp w0 S [] w:=h.sub (List.nil_sublist _)
theorem Hp.perm{w0 w:World}{S:List Nat}{L L':List Res}(h:Hp w0 S L w)(hp:L.Perm L'):Hp w0 S L' w:=
 ⟨h.os,h.tape,h.output,h.size,h.below,fun r hr=>h.res r (hp.symm.subset hr),hp.pairwise h.sep (fun h b hb hb'=>h b hb' hb)⟩
theorem Hp.callL{w0 w w':World}{S:List Nat}{L L':List Res}(h:Hp w0 S L w)(h':Hp w [] L' w'):Hp w0 S (L'++L) w':=by
 have hb:∀b,b<w.heap.size→w'.heap[b]? =w.heap[b]? :=fun b hb=>h'.below b hb (by simp)
 refine⟨h'.os.trans h.os,h'.tape.trans h.tape,h'.output.trans h.output,zaM h.size h'.size,fun k hk hS=> ?_,fun r hr=> ?_, ?_⟩
 ·rw [hb k (zbn hk h.size)];exact h.below k hk hS
 ·rcases List.mem_append.1 hr with hr|hr
  ·refine⟨(h'.res r hr).1,fun b e=> ?_⟩
   have:=(h'.res r hr).2 b e
   simp at this
   exact⟨this.1,.inl (zaM h.size this.2)⟩
  ·refine⟨Res.holds_of (h.res r hr).1 fun b e=>hb b ((h.res r hr).2 b e).1,fun b e=> ?_⟩
   have:=(h.res r hr).2 b e
   exact⟨zbn this.1 h'.size,this.2⟩
 ·refine List.pairwise_append.2 ⟨h'.sep,h.sep,fun r hr r' hr' b e e'=> ?_⟩
  have h1:=(h'.res r hr).2 b e
  have h2:=(h.res r' hr').2 b e'
  simp at h1
  omega
theorem Hp.call{w0 w w':World}{S:List Nat}{L:List Res}(h:Hp w0 S L w)(h':Hp w [] [] w'):Hp w0 S L w':=h.callL h'
theorem Hp.change{w0 w w':World}{S:List Nat}{L:List Res}(h:Hp w0 S L w)(k:Nat)(r r':Res)(hk:L[k]? =some r)(ho:w'.os=w.os)(ht:w'.tape=w.tape)(hu:w'.output=w.output)
  (hz:w.heap.size≤w'.heap.size) (hb:∀j,j<w.heap.size→some j≠r.own→w'.heap[j]? =w.heap[j]?) (hr:r'.holds w')
  (hn:∀b,r'.own=some b→(r.own=some b∨w.heap.size≤b)∧b<w'.heap.size):Hp w0 S (L.set k r') w':=by
 have hmem:r∈L:=List.mem_of_getElem? hk
 have hlt:k<L.length:=(List.getElem?_eq_some_iff.1 hk).1
 have hsep:∀x,x∈L.eraseIdx k→∀b,x.own=some b→r.own≠some b:=by
  intro x hx b hxb hrb
  obtain⟨j,hj,hjk,hxe⟩:∃j,∃(hj:j<L.length),j≠k∧L[j]=x:=by
   rw [List.mem_eraseIdx_iff_getElem]at hx
   obtain⟨j,hj,hjk,e⟩:=hx
   exact⟨j,hj,hjk,e⟩
  have hke:L[k]=r:=(List.getElem?_eq_some_iff.1 hk).2
  have hp:=List.pairwise_iff_getElem.1 h.sep
  rcases Nat.lt_or_ge j k with hl|hl
  ·exact hp j k hj hlt hl b (by rw [hxe];exact hxb) (by rw [hke];exact hrb)
  ·exact hp k j hlt hj (by omega) b (by rw [hke];exact hrb) (by rw [hxe];exact hxb)
 have hmemset:∀x,x∈L.set k r'→x=r'∨x∈L.eraseIdx k:=by
  intro x hx
  obtain⟨j,hj,e⟩:=List.getElem_of_mem hx
  by_cases hjk:j=k
  ·subst hjk;left;simpa using e.symm
  ·right
   rw [List.mem_eraseIdx_iff_getElem]
   refine⟨j,by simpa using hj,hjk, ?_⟩
   rw [List.getElem_set_ne (fun e=>hjk e.symm)]at e
   exact e
 have hother:∀x∈L.eraseIdx k,∀b,x.own=some b→w'.heap[b]? =w.heap[b]? :=fun x hx b e=>
  hb b ((h.res x (List.mem_of_mem_eraseIdx hx)).2 b e).1 (fun e'=>hsep x hx b e e'.symm)
 refine⟨ho.trans h.os,ht.trans h.tape,hu.trans h.output,zaM h.size hz,fun j hj hS=> ?_,fun x hx=> ?_, ?_⟩
 ·rw [hb j (zbn hj h.size) (fun e=> ?_)];exact h.below j hj hS
  have:=((h.res r hmem).2 j e.symm).2
  rcases this with h1|h1
  ·omega
  ·exact hS h1
 ·rcases hmemset x hx with rfl|hx
  ·refine⟨hr,fun b e=>⟨(hn b e).2, ?_⟩⟩
   rcases(hn b e).1 with h1|h1
   ·exact((h.res r hmem).2 b h1).2
   ·exact .inl (zaM h.size h1)
  ·have hxL:=List.mem_of_mem_eraseIdx hx
   exact⟨Res.holds_of (h.res x hxL).1 (hother x hx),fun b e=>⟨zbn ((h.res x hxL).2 b e).1 hz,((h.res x hxL).2 b e).2⟩⟩
 ·have hfar:∀x∈L.eraseIdx k,∀b,r'.own=some b→x.own≠some b:=by
   intro x hx b e e'
   rcases(hn b e).1 with h1|h1
   ·exact hsep x hx b e' h1
   ·have:=((h.res x (List.mem_of_mem_eraseIdx hx)).2 b e').1
    omega
  have hp:=List.pairwise_iff_getElem.1 h.sep
  refine List.pairwise_iff_getElem.2 fun i j hi hj hij b=> ?_
  have hi':i<L.length:=by simpa using hi
  have hj':j<L.length:=by simpa using hj
  by_cases hik:i=k
  ·subst hik
   have hjn:j≠i:=by omega
   rw [List.getElem_set_self,List.getElem_set_ne (fun e=>hjn e.symm)]
   intro e
   exact hfar _ (by rw [List.mem_eraseIdx_iff_getElem];exact⟨j,hj',hjn,rfl⟩) b e
  ·by_cases hjk:j=k
   ·subst hjk
    rw [List.getElem_set_self,List.getElem_set_ne (fun e=>hik e.symm)]
    intro e e'
    exact hfar _ (by rw [List.mem_eraseIdx_iff_getElem];exact⟨i,hi',hik,rfl⟩) b e' e
   ·rw [List.getElem_set_ne (fun e=>hik e.symm),List.getElem_set_ne (fun e=>hjk e.symm)]
    exact hp i j hi' hj' hij b
theorem Hp.alloc{w0 w:World}{S:List Nat}{L:List Res}(h:Hp w0 S L w)(cs:List Value)(e:TypeId):Hp w0 S (blk w.heap.size cs e::L) (w.alloc (.cells cs.toArray e (0,0))):=by
 have h2:Hp w [] [blk w.heap.size cs e] (w.alloc (.cells cs.toArray e (0,0))):=by
  refine⟨rfl,rfl,rfl,by simp,fun k hk _=>RowKit.Below.heap_alloc w _ k hk,fun r hr=> ?_,by simp⟩
  simp at hr
  subst hr
  refine⟨?_,fun b e=> ?_⟩
  ·show(w.heap.push (.cells cs.toArray e (0,0)))[w.heap.size]? =_
   simp
  ·simp [blk]at e
   subst e
   simp
 exact h.callL h2
theorem Hp.blkAt{w0 w:World}{S:List Nat}{L:List Res}(h:Hp w0 S L w)(k:Nat){b:Nat}{cs:List Value}{e:TypeId}(hk:L[k]? =some (blk b cs e)):
  w.heap[b]? =some (.cells cs.toArray e (0,0)):=(h.res _ (List.mem_of_getElem? hk)).1
section
variable {P : Program} {n : Md} {ops : Array Oper} {Q : Exit → Act → World → Prop} {F : Nat → Value} {w w0 : World} {S : List Nat} {L : List Res}
variable {d : Nat} {ty : TypeId} {pos : String} {after : Array Edge} {rest : List Oper}
theorem w_new{o:Oper}(hH:Hp w0 S L w)(cs:List Value)(e:TypeId)(V:Nat→Value)(hg:o.guard=none)(hd:o.dst=some d)
  (hrun:(execOp (evn n F) o).run P w=.ok (.value (V w.heap.size)) (w.alloc (.cells cs.toArray e (0,0))))
  (h:∀b w',Hp w0 S (blk b cs e::L) w'→W P n ops Q rest (upd F d (V b)) w'):W P n ops Q (o::rest) F w:=
 aht hg hd hrun (h _ _ (hH.alloc cs e))
theorem cell_blk{b off:Nat}{cs:List Value}{e:TypeId}{fz:Nat×Nat}(h:w.heap[b]? =some (.cells cs.toArray e fz)):w.cell? ⟨b,off,none⟩=cs[off]? :=by
 simp [World.cell?,h]
theorem w_ld1{x:Operand}{t:TypeId}(hH:Hp w0 S L w)(k b off:Nat)(cs:List Value)(e:TypeId)(v:Value)(hk:L[k]? =some (blk b cs e))(hv:cs[off]? =some v)
  (hx:evn n F x=.pointer (some ⟨b,off,none⟩)) (ha:(isAgg t).run P w=.ok false w) (h:W P n ops Q rest (upd F d v) w):
  W P n ops Q (⟨some d,.load t x,ty,pos,after,none⟩::rest) F w:=by
 refine aht (w':=w) rfl rfl ?_ h
 have hc:=cell_blk (off:=off) (hH.blkAt k hk)
 rw [hv]at hc
 simp [execOp,hx,Instr.loadAt,Instr.sureAddr,loadVar,ha,hc]
theorem amw(b off i:Nat):(⟨b,off,none⟩:Addr).add i=⟨b,off+i,none⟩:=by
 unfold Addr.add
 by_cases hi:i=0
 ·subst hi;simp
 ·simp [hi]
def auu(cs:List Value)(off:Nat)(vs:List Value):List Value:=cs.take off++vs++cs.drop (off+vs.length)
theorem Hp.stored{k b off:Nat}{cs vs:List Value}{e:TypeId}(hH:Hp w0 S L w)(hk:L[k]? =some (blk b cs e))(ho:off+vs.length≤cs.length)(h1:∀v∈vs,v.oneCell'=true):
  ∃w',(storeCells ⟨b,off,none⟩ vs).run P w=.ok () w'∧Hp w0 S (L.set k (blk b (auu cs off vs) e)) w':=by
 have hb:=hH.blkAt k hk
 have hst:=run_storeCells_at P b off e vs 0 cs.toArray w hb (by simpa using ho) h1
 refine⟨_,hst,hH.change k (blk b cs e) _ hk rfl rfl rfl (by simp) (fun j hj hne=>setRow_other w b j _ (fun e=>hne (by simp [blk,e]))) ?_ ?_⟩
 ·show(w.setRow b _).heap[b]? =_
  rw [setRow_heap w b cs.toArray _ e _ hb]
  simp [auu]
 ·intro b' e'
  simp [blk]at e'
  subst e'
  refine⟨.inl rfl, ?_⟩
  have:=(Array.getElem?_eq_some_iff.1 hb).1
  simpa using this
theorem w_st1{x y:Operand}{t:TypeId}(hH:Hp w0 S L w)(k b off:Nat)(cs:List Value)(e:TypeId)(v:Value)(L':List Res)(hk:L[k]? =some (blk b cs e))(ho:off<cs.length)
  (hx:evn n F x=.pointer (some ⟨b,off,none⟩)) (hy:evn n F y=v) (h1:v.oneCell'=true) (hs:(sizeOf t).run P w=.ok 1 w) (hL:L.set k (blk b (cs.set off v) e)=L')
  (h:∀w',Hp w0 S L' w'→W P n ops Q rest F w'):
  W P n ops Q (⟨none,.store t x y,ty,pos,after,none⟩::rest) F w:=by
 have hcells:v.cells= #[v]:=by cases v<;>first|rfl|simp [Value.oneCell']at h1
 obtain⟨w',hr,hH'⟩:=hH.stored (P:=P) (vs:=[v]) (off:=off) hk (by simp;omega) (by simpa using h1)
 have hsp:auu cs off [v]=cs.set off v:=by
  unfold auu
  rw [List.set_eq_take_append_cons_drop,if_pos ho]
  simp
 rw [hsp,hL]at hH'
 refine w_skip (w':=w') rfl rfl ?_ (h w' hH')
 simp [execOp,hx,hy,Instr.storeAt,Instr.sureAddr,storeVar,hs,hcells,hr]
end
open Bool renaming and_eq_true → zas
open Nat renaming beq → zau, blt → zbf, eq_of_beq_eq_true → zaf, zero_add → zba
section
variable {P : Program} {ops : Array Oper} {Q : Exit → Act → World → Prop} {md : Region.Mode} {S : Nat → World → World → Prop}
def Keep(D:List Nat)(f:World→Prop)(j:Nat)(w w':World):Prop:=D.contains j=false→f w→f w'
theorem Keep.same{D:List Nat}{f:World→Prop}{j:Nat}{w:World}:Keep D f j w w:=fun _ h=>h
theorem Keep.out{D:List Nat}{f:World→Prop}{j:Nat}{w w':World}(h:D.contains j=true):Keep D f j w w':=fun h'=>by rw [h]at h';cases h'
def wpPre(P:Program)(md:Region.Mode)(ops:Array Oper)(Q:Exit→Act→World→Prop)(S:Nat→World→World→Prop)(k:Nat)(Z:Act→World→Prop):Nat→Array Bool→Act→World→Prop
 |0,listed,a,w=>Region.seqB md ops (ops.size-k) k listed=true∧Z a w
 |f+1,listed,a,w=>Region.ready md ops listed≠[]∧∀i∈Region.ready md ops listed,i<k∧wpOp P ops Q i (fun a' w'=>S i w w'∧wpPre P md ops Q S k Z f (listed.setIfInBounds i true) a' w') a w
theorem pre_any{k:Nat}{Z:Act→World→Prop}(hk:k≤ops.size)(hZ:∀a w,Z a w→wpList P ops Q (ops.toList.drop k) a w):
  ∀(f:Nat) (listed:Array Bool) (a:Act) (w:World),wpPre P md ops Q S k Z f listed a w→wpAny P md ops Q (f+(ops.size-k)) listed a w
 |0,listed,a,w,h=>by
  have hl:(ops.toList.drop k).length=ops.size-k:=by simp
  have:=wpAny_of_seq (md:=md) (Q':=Q) (ops.toList.drop k) k listed a w (fun j=>by simp [List.getElem?_drop]) (by rw [hl];exact h.1) (hZ a w h.2)
  rw [hl]at this
  rw [zba];exact this
 |f+1,listed,a,w,h=>by
  rw [show f+1+(ops.size-k)=(f+(ops.size-k))+1 by omega]
  exact⟨fun h0=>absurd h0 h.1,fun i hi=>wpOp_mono (fun a' w' h'=>pre_any hk hZ f _ a' w' h'.2) (h.2 i hi).2⟩
def descB(md:Region.Mode)(ops:Array Oper)(i:Nat)(D:List Nat):Bool:=
 D.all fun j=>match ops[j]? with
  |some o=>o.after.any fun e=>Region.binds md e&&zbf e.on j&&(zau e.on i||D.contains e.on)
  |none=>true
theorem desc_unlisted{k i:Nat}{D:List Nat}{listed:Array Bool}(hD:descB md ops i D=true)(inv:HeadInv md ops k listed)(hun:listed.getD i true=false):∀j,j∈D→j<ops.size→listed.getD j true=false:=by
 intro j
 induction j using Nat.strongRecOn with
 |_ j ih=>
  intro hj hlt
  cases hl:listed.getD j false with
  |false=>exact getD_in (by rw [inv.size];exact hlt) hl
  |true=>
   exfalso
   have h1:=List.all_eq_true.1 hD j hj
   rw [Array.getElem?_eq_getElem hlt]at h1
   simp only [Array.any_eq_true']at h1
   obtain⟨e,he,h2⟩:=h1
   simp only [zas,Bool.or_eq_true]at h2
   have hdone:=inv.closed j ops[j] (Array.getElem?_eq_getElem hlt) hl e he h2.1.1
   rcases h2.2 with h3|h3
   ·rw [zaf h3]at hdone
    have:=getD_both hun
    rw [this]at hdone
    cases hdone
   ·have hlt2:e.on<j:=by simpa [Nat.blt_eq] using h2.1.2
    have h4:=ih e.on hlt2 (by simpa using h3) (by omega)
    have:=getD_both h4
    rw [this]at hdone
    cases hdone
theorem desc_ready{k i j:Nat}{D:List Nat}{listed:Array Bool}(hD:descB md ops i D=true)(inv:HeadInv md ops k listed)(hun:listed.getD i true=false)(hj:j∈Region.ready md ops listed):j∉D:=by
 intro hjD
 obtain⟨hjun,oj,hoj,hall⟩:=mem_ready.1 hj
 have hlt:j<ops.size:=(Array.getElem?_eq_some_iff.1 hoj).1
 have h1:=List.all_eq_true.1 hD j hjD
 rw [hoj]at h1
 simp only [Array.any_eq_true']at h1
 obtain⟨e,he,h2⟩:=h1
 simp only [zas,Bool.or_eq_true]at h2
 have hdone:=hall e he h2.1.1
 rcases h2.2 with h3|h3
 ·rw [zaf h3,getD_both hun]at hdone
  cases hdone
 ·have hlt2:e.on<j:=by simpa [Nat.blt_eq] using h2.1.2
  have h4:=desc_unlisted hD inv hun e.on (by simpa using h3) (by omega)
  rw [getD_both h4]at hdone
  cases hdone
theorem pre_first{k i:Nat}{Z:Act→World→Prop}{oi:Oper}{v:Value}(Si:World→Prop)(D:List Nat)(hD:descB md ops i D=true)(hSi:∀j w w',S j w w'→Keep D Si j w w')(hi:ops[i]? =some oi)(hsel:∀(j:Nat) (o:Oper) cs b,ops[j]? =some o→o.op≠.select cs b)
  (hQ:∀c a w,Q (.panic c) (a.put oi.dst v) w→Q (.panic c) a w) (hik:i<k)
  (hready:∀listed:Array Bool,HeadInv md ops k listed→listed.getD i true=false→∀t,k≤t→t∉Region.ready md ops listed):
  ∀(f:Nat) (listed:Array Bool) (a:Act) (w:World),HeadInv md ops k listed→
   (∀j oj,ops[j]? =some oj→j≠i→listed.getD j true=false→(∀e∈oj.after,Region.binds md e=true→e.on≠i)→oi.apart ops oj=true)→
   i∈Region.ready md ops listed→YieldsIf P ops Si oi v a→Si w→(∀j w,S j w w)→
   wpPre P md ops Q S k Z f (listed.setIfInBounds i true) (a.put oi.dst v) w→wpPre P md ops Q S k Z (f+1) listed a w:=by
 intro f
 induction f with
 |zero=>
  intro listed a w inv hfree hr hy hS hii H
  have hun:=(mem_ready.1 hr).1
  refine⟨fun h0=>(by rw [h0]at hr;cases hr),fun j hj=> ?_⟩
  have hjk:j<k:=by
   rcases Nat.lt_or_ge j k with h|h
   ·exact h
   ·exact absurd hj (hready listed inv hun j h)
  by_cases hji:j=i
  ·subst hji;exact⟨hjk,hy.wpOp hi hS ⟨hii _ _,H⟩⟩
  ·have h1:=seqB_ready H.1 j (ready_mono hj hji)
   omega
 |succ f ih=>
  intro listed a w inv hfree hr hy hS hii H
  have hun:=(mem_ready.1 hr).1
  refine⟨fun h0=>(by rw [h0]at hr;cases hr),fun j hj=> ?_⟩
  have hjk:j<k:=by
   rcases Nat.lt_or_ge j k with h|h
   ·exact h
   ·exact absurd hj (hready listed inv hun j h)
  by_cases hji:j=i
  ·subst hji;exact⟨hjk,hy.wpOp hi hS ⟨hii _ _,H⟩⟩
  ·have h1:=(H.2 j (ready_mono hj hji)).2
   have hjD:=desc_ready hD inv hun hj
   obtain⟨hjun,oj,hoj,hall⟩:=mem_ready.1 hj
   have hnot:∀e∈oj.after,Region.binds md e=true→e.on≠i:=fun e he hb heq=>by
    have h2:=hall e he hb
    rw [heq,getD_both hun]at h2
    cases h2
   have h2:=wpOp_putIf hoj (hfree j oj hoj hji hjun hnot) (fun cs b=>hsel i oi cs b hi) (fun cs b=>hsel j oj cs b hoj) hQ hy h1
   refine⟨hjk,wpOp_mono (fun a' w' h3=>⟨h3.2.1,ih (listed.setIfInBounds j true) a' w' (inv.set hj hjk) (fun m om hm hmi hum hno=>hfree m om hm hmi ?_ hno) (ready_mono hr (Ne.symm hji)) h3.1 (hSi j _ w' h3.2.1 (by simpa using hjD) hS) hii ?_⟩) h2⟩
   ·by_cases hjm:j=m
    ·subst hjm;exact hjun
    ·rw [getD_set_ne true hjm]at hum;exact hum
   ·rw [Array.setIfInBounds_comm _ _ hji]
    exact h3.2.2
def auv(ops:Array Oper)(k:Nat):Bool:=Region.noSelect ops&&decide (k≤ops.size)&&(decide (k=ops.size)||(Region.sinkB .any ops k&&Region.chainB .any ops k))
theorem shape_ready{k i:Nat}(h:auv ops k=true)(hik:i<k):∀listed:Array Bool,HeadInv .any ops k listed→listed.getD i true=false→∀t,k≤t→t∉Region.ready .any ops listed:=by
 intro listed inv hun t ht hr
 simp only [auv,zas,Bool.or_eq_true,decide_eq_true_eq]at h
 have htlt:t<ops.size:=by obtain⟨_,o,ho,_⟩:=mem_ready.1 hr;exact(Array.getElem?_eq_some_iff.1 ho).1
 rcases h.2 with h2|h2
 ·omega
 ·exact tail_waits h2.1 h2.2 (by omega) inv (k-i) i rfl hik hun t ht hr
end
section
variable {P : Program} {kn : Nat} {kD : List Deferred} {ops : Array Oper} {Q : Exit → Act → World → Prop} {S : Nat → World → World → Prop} {Si : World → Prop} {F : Nat → Value} {w : World}
def NoP(Q:Exit→Act→World→Prop):Prop:=∀c a w,¬Q (.panic c) a w
def R(P:Program)(n:Md)(ops:Array Oper)(Q:Exit→Act→World→Prop)(S:Nat→World→World→Prop)(k f:Nat)(listed:List Bool)(F:Nat→Value)(w:World):Prop:=
 HeadInv .any ops k listed.toArray→(∀j w,S j w w)→NoP Q→wpPre P .any ops Q S k (fun a w=>wpList P ops Q (ops.toList.drop k) a w) f listed.toArray (fr n F) w
def RK(P:Program)(n:Md)(ops:Array Oper)(Q:Exit→Act→World→Prop)(S:Nat→World→World→Prop)(k f:Nat)(listed:List Bool)(i:Nat)(w:World):Exit→Act→World→Prop:=
 Exit.then (fun a' w'=>∃F',a'=fr n F'∧S i w w'∧R P n ops Q S k f listed F' w') Q
theorem Hp.drewn{w0 w:World}{S0:List Nat}{L:List Res}(h:Hp w0 S0 L w):Hp w0 S0 L {w with drawn:=w.drawn+1}:=
 ⟨h.os,h.tape,h.output,h.size,h.below,h.res,h.sep⟩
theorem c_drawn{w0:World}{S0:List Nat}{L:List Res}{id:Nat}{l:List Oper}(k:Nat)(S:Nat→World→World→Prop)(listed:List Bool)(hrefl:∀j w,S j w w)(hm:P.follows .mixedOrders=true)(hs:auv l.toArray k=true)
  (hH:Hp w0 S0 L w) (hl:List.replicate l.length false=listed) (hQ:NoP Q) (h:∀w',Hp w0 S0 L w'→R P ⟨kn,kD,none⟩ l.toArray Q S k k listed F w'):C P ⟨kn,kD,none⟩ Q (.region id l.toArray true) F w:=by
 unfold C CC
 have hk:k≤l.toArray.size:=by
  simp only [auv,zas,decide_eq_true_eq]at hs
  exact hs.1.2
 have inv0:HeadInv .any l.toArray k (Array.replicate l.toArray.size false):=
  ⟨by simp,fun j oj _ hl=>(by rw [getD_replicate_false]at hl;cases hl),fun t _ ht=>getD_in (by simpa using ht) (getD_replicate_false _ _)⟩
 have e:listed.toArray=Array.replicate l.toArray.size false:=by
  subst hl
  apply Array.toList_inj.1
  simp
 refine wp_region_any hm ?_
 have h1:=h _ hH.drewn (by rw [e];exact inv0) hrefl hQ
 have h2:=pre_any (S:=S) hk (fun a w h=>h) k _ _ _ h1
 rw [e,show k+(l.toArray.size-k)=l.toArray.size by omega]at h2
 exact h2
theorem np_body{fn:Func}{R':Value→World→Prop}:NoP (bodyPost P fn fun e w'=>∃v,e=.returned v∧R' v w'):=by
 intro c a w h
 obtain⟨_,v,hv,_⟩:=h
 cases hv
theorem np_seq{y:Code}(h:NoP Q):NoP (SeqQ P ⟨kn,kD,none⟩ y Q):=by unfold SeqQ;exact h
theorem ahi{id:Nat}(h:NoP Q):NoP (Exit.inBlock id Q):=h
theorem np_scope(h:NoP Q):NoP (Exit.noGoto Q):=h
theorem alk{K:Act→World→Prop}(h:NoP Q):NoP (Exit.then K Q):=h
theorem y_val{o:Oper}{v:Value}(hg:o.guard=none)(hrun:∀w,Si w→(execOp (evn ⟨kn,kD,none⟩ F) o).run P w=.ok (.value v) w):YieldsIf P ops Si o v (fr ⟨kn,kD,none⟩ F):=
 .inl ⟨by simp [Region.wanted,hg],fun w hw=>by rw [ash];exact hrun w hw⟩
theorem y_gyes{dst:Option Nat}{op:Op}{ty:TypeId}{pos:String}{after:Array Edge}{g:Nat}{b:Bool}{v:Value}(dg:Nat)
  (h1:(ops[g]?).bind (·.dst)=some dg) (h3:zbf dg kn=true) (hv:F dg=.bool b)
  (hrun:∀w,Si w→(execOp (evn ⟨kn,kD,none⟩ F) (⟨dst,op,ty,pos,after,none⟩:Oper)).run P w=.ok (.value v) w):YieldsIf P ops Si ⟨dst,op,ty,pos,after,some (g,b)⟩ v (fr ⟨kn,kD,none⟩ F):=by
 refine .inl ⟨?_,fun w hw=> ?_⟩
 ·unfold Region.wanted
  simp only [avm (n:=⟨kn,kD,none⟩) ops g dg h1 h3,hv];simp
 ·rw [ash];exact hrun w hw
theorem y_gno{dst:Option Nat}{op:Op}{ty:TypeId}{pos:String}{after:Array Edge}{g:Nat}{b:Bool}(dg:Nat)
  (h1:(ops[g]?).bind (·.dst)=some dg) (h3:zbf dg kn=true) (hv:F dg=.bool (!b)):YieldsIf P ops Si ⟨dst,op,ty,pos,after,some (g,b)⟩ undef (fr ⟨kn,kD,none⟩ F):=by
 refine .inr ⟨?_,rfl⟩
 unfold Region.wanted
 simp only [avm (n:=⟨kn,kD,none⟩) ops g dg h1 h3,hv]
 cases b<;>rfl
theorem y_gun{dst:Option Nat}{op:Op}{ty:TypeId}{pos:String}{after:Array Edge}{g:Nat}{b:Bool}(dg:Nat)
  (h1:(ops[g]?).bind (·.dst)=some dg) (h3:zbf dg kn=true) (hv:F dg=undef):YieldsIf P ops Si ⟨dst,op,ty,pos,after,some (g,b)⟩ undef (fr ⟨kn,kD,none⟩ F):=by
 refine .inr ⟨?_,rfl⟩
 unfold Region.wanted
 simp only [avm (n:=⟨kn,kD,none⟩) ops g dg h1 h3,hv]
 simp [undef]
theorem set_listed(listed:List Bool)(i:Nat):listed.toArray.setIfInBounds i true=(listed.set i true).toArray:=by simp
theorem azc{k f:Nat}{listed:List Bool}(listed':List Bool)(i d:Nat)(v:Value)(D:List Nat)(hSi:∀j w w',S j w w'→Keep D Si j w w')(o:Oper)(ho:ops[i]? =some o)(hd:o.dst=some d)(hs:auv ops k=true)(hD:descB .any ops i D=true)(hfree:Region.free .any ops listed.toArray i=true)
  (hr:(Region.ready .any ops listed.toArray).contains i=true) (hik:zbf i k=true) (hl:listed.set i true=listed') (hy:YieldsIf P ops Si o v (fr ⟨kn,kD,none⟩ F)) (hS:Si w)
  (h:R P ⟨kn,kD,none⟩ ops Q S k f listed' (upd F d v) w):R P ⟨kn,kD,none⟩ ops Q S k (f+1) listed F w:=by
 intro inv hrefl hQ
 have hik':i<k:=by simpa [Nat.blt_eq] using hik
 have hr':i∈Region.ready .any ops listed.toArray:=by simpa using hr
 have hsel:Region.noSelect ops=true:=by
  simp only [auv,zas]at hs
  exact hs.1.1
 refine pre_first Si D hD hSi ho (Region.noSelect_spec hsel) (fun c a w h=>absurd h (hQ c _ w)) hik' (shape_ready hs hik') f _ _ _ inv (Region.free_spec ho hfree) hr' hy hS hrefl ?_
 have inv':=inv.set hr' hik'
 rw [set_listed,hl]at inv'⊢
 have:=h inv' hrefl hQ
 rw [←fr_put,←hd]at this
 exact this
theorem r_take{k f:Nat}{listed:List Bool}(listed':List Bool)(i d:Nat)(v:Value)(o:Oper)(ho:ops[i]? =some o)(hd:o.dst=some d)(hs:auv ops k=true)(hfree:Region.free .any ops listed.toArray i=true)
  (hr:(Region.ready .any ops listed.toArray).contains i=true) (hik:zbf i k=true) (hl:listed.set i true=listed') (hy:YieldsIf P ops (fun _=>True) o v (fr ⟨kn,kD,none⟩ F))
  (h:R P ⟨kn,kD,none⟩ ops Q S k f listed' (upd F d v) w):R P ⟨kn,kD,none⟩ ops Q S k (f+1) listed F w:=
 azc (Si:=fun _=>True) listed' i d v [] (fun _ _ _ _ _ _=>trivial) o ho hd hs rfl hfree hr hik hl hy trivial h
theorem op_of_list{i:Nat}{o:Oper}{K:Act→World→Prop}{a:Act}(ho:ops[i]? =some o)(h:wpList P ops (Exit.then K Q) [o] a w):wpOp P ops Q i K a w:=by
 unfold wpOp
 simp only [ho]
 unfold wpList at h
 split
 ·rename_i hw
  rw [if_pos hw]at h
  rcases h with h|h
  ·refine .inl ?_
   unfold Oper.wp at*
   generalize(execOp a.eval o).run P w=r at*
   cases r with
   |ok x w'=>cases x<;>exact h
   |halt x w'=>cases x<;>exact h
  ·exact .inr h
 ·rename_i hw
  rw [if_neg hw]at h
  exact h
theorem r_step{k f:Nat}{listed:List Bool}(listed':List Bool)(i:Nat)(o:Oper)(ho:ops[i]? =some o)(hl:listed.set i true=listed')(inv:HeadInv .any ops k listed.toArray)(hrefl:∀j w,S j w w)(hQ:NoP Q)
  (hr:i∈Region.ready .any ops listed.toArray) (hik:i<k) (h:W P ⟨kn,kD,none⟩ ops (RK P ⟨kn,kD,none⟩ ops Q S k f listed' i w) [o] F w):
  i<k∧wpOp P ops Q i (fun a' w'=>S i w w'∧wpPre P .any ops Q S k (fun a w=>wpList P ops Q (ops.toList.drop k) a w) f (listed.toArray.setIfInBounds i true) a' w') (fr ⟨kn,kD,none⟩ F) w:=by
 refine⟨hik, ?_⟩
 have inv':=inv.set hr hik
 rw [set_listed,hl]at inv'⊢
 unfold W WR RK at h
 refine wpOp_mono ?_ (op_of_list ho h)
 rintro a' w' ⟨F',rfl,hS,hR⟩
 exact⟨hS,hR inv' hrefl hQ⟩
theorem r_one1{k f:Nat}{listed:List Bool}(listed':List Bool)(i:Nat)(o:Oper)(ho:ops[i]? =some o)(hr:Region.ready .any ops listed.toArray=[i])(hik:zbf i k=true)(hl:listed.set i true=listed')
  (h:W P ⟨kn,kD,none⟩ ops (RK P ⟨kn,kD,none⟩ ops Q S k f listed' i w) [o] F w):R P ⟨kn,kD,none⟩ ops Q S k (f+1) listed F w:=by
 intro inv hrefl hQ
 refine⟨by rw [hr];simp,fun j hj=> ?_⟩
 rw [hr]at hj
 obtain rfl:j=i:=by simpa using hj
 exact r_step listed' j o ho hl inv hrefl hQ (by rw [hr];simp) (by simpa [Nat.blt_eq] using hik) h
theorem r_zero{k:Nat}{listed:List Bool}(hseq:Region.seqB .any ops (ops.size-k) k listed.toArray=true)(h:W P ⟨kn,kD,none⟩ ops Q (ops.toList.drop k) F w):R P ⟨kn,kD,none⟩ ops Q S k 0 listed F w:=by
 intro _ _ _
 unfold W WR at h
 exact⟨hseq,h⟩
end
attribute [irreducible] R RK
open Go.Value renaming ownBlock → zaQ
open List renaming drop → zaA, drop_drop → zbo, eq_nil_of_length_eq_zero → zao, flatMap_cons → zaJ, length_append → zab, length_cons → zac, length_map → zaF, length_take → zaw, map_cons → zaE, take → zaW
open Nat renaming add_assoc → zaN, add_comm → zaV, add_zero → zaK, blt → zbf, le_refl → zam, zero_add → zba, zero_le → zak
open UInt8 renaming ofNat → zbi
def ea(a:Option Addr)(j:Nat):Addr:=match a with
 |some p=>p.add j
 |none=>⟨0,j,none⟩
theorem add_add(p:Addr)(j k:Nat):(p.add j).add k=p.add (j+k):=by
 unfold Addr.add
 by_cases hj:j=0
 ·subst hj;simp
 ·by_cases hk:k=0
  ·subst hk;simp
  ·simp [hj,hk,zaN]
theorem ea_add(a:Option Addr)(j k:Nat):(ea a j).add k=ea a (j+k):=by
 cases a with
 |none=>exact amw 0 j k
 |some p=>exact add_add p j k
def Rd(w:World)(a:Option Addr)(xs:List Value):Prop:=∀j v,xs[j]? =some v→∃p,a=some p∧w.cell? (p.add j)=some v
theorem cell_lt{w:World}{p:Addr}{v:Value}(h:w.cell? p=some v):p.block<w.heap.size:=by
 unfold World.cell? at h
 cases hb:w.heap[p.block]? with
 |none=>simp [hb]at h
 |some o=>exact(Array.getElem?_eq_some_iff.1 hb).1
theorem add_block(p:Addr)(j:Nat):(p.add j).block=p.block:=by unfold Addr.add;split<;>rfl
theorem cell_same{w w':World}{p:Addr}(h:w'.heap[p.block]? =w.heap[p.block]?):w'.cell? p=w.cell? p:=by simp only [World.cell?,h]
theorem Rd.mono{w w':World}{a:Option Addr}{xs:List Value}(h:Rd w a xs)(hb:∀b,b<w.heap.size→w'.heap[b]? =w.heap[b]?):Rd w' a xs:=by
 intro j v hv
 obtain⟨p,hp,hc⟩:=h j v hv
 refine⟨p,hp, ?_⟩
 rw [cell_same (hb _ (cell_lt hc))];exact hc
theorem Rd.hp{w0 w:World}{L:List Res}{a:Option Addr}{xs:List Value}(h:Rd w0 a xs)(hH:Hp w0 [] L w):Rd w a xs:=h.mono fun b hb=>hH.below b hb (by simp)
theorem Rd.hpS{w0 w:World}{S:List Nat}{L:List Res}{a:Option Addr}{xs:List Value}(h:Rd w0 a xs)(hH:Hp w0 S L w)(hne:∀p,a=some p→p.block∉S):Rd w a xs:=by
 intro j v hv
 obtain⟨p,hp,hc⟩:=h j v hv
 refine⟨p,hp, ?_⟩
 have hl:=cell_lt hc
 rw [add_block]at hl
 have hs:w.heap[(p.add j).block]? =w0.heap[(p.add j).block]? :=by rw [add_block];exact hH.below _ hl (hne p hp)
 rw [cell_same hs];exact hc
theorem Rd.nil(w:World)(a:Option Addr):Rd w a []:=fun j v h=>by simp at h
theorem Rd.some_{w:World}{a:Option Addr}{xs:List Value}(h:Rd w a xs)(hn:0<xs.length):a≠none:=by
 obtain⟨p,hp,_⟩:=h 0 xs[0] (by simp)
 rw [hp];simp
theorem Rd.take{w:World}{a:Option Addr}{xs:List Value}(h:Rd w a xs)(k:Nat):Rd w a (xs.take k):=by
 intro j v hv
 rw [List.getElem?_take]at hv
 split at hv
 ·exact h j v hv
 ·cases hv
theorem Rd.drop{w:World}{p:Addr}{xs:List Value}(h:Rd w (some p) xs)(k:Nat):Rd w (some (p.add k)) (xs.drop k):=by
 intro j v hv
 rw [List.getElem?_drop]at hv
 obtain⟨q,hq,hc⟩:=h _ v hv
 simp at hq
 subst hq
 exact⟨_,rfl,by rw [add_add];exact hc⟩
theorem Hp.rdbrow{w0 w:World}{S:List Nat}{L:List Res}{a:Option Addr}{m cap:Nat}{l:List UInt8}(h:Hp w0 S L w)(k:Nat)(hk:L[k]? =some (brow (.slice a m cap) m l)):Rd w a (l.map bt):=by
 obtain⟨h1,_⟩:=h.res _ (List.mem_of_getElem? hk)
 obtain⟨hln,g,cap',cur,e,fz,hv0,ho,hnc,hcs,htk,hfz⟩:=h1
 intro j v hv
 simp at hv0
 obtain⟨rfl,rfl⟩:=hv0
 refine⟨_,rfl, ?_⟩
 rw [amw]
 have hb:w.heap[g]? =some (.cells cur e fz):=by simpa [brow,zaQ] using ho
 simp only [World.cell?,hb,zba]
 rw [←htk,List.getElem?_take]at hv
 split at hv
 ·simpa using hv
 ·cases hv
theorem Hp.rdblk{w0 w:World}{S:List Nat}{L:List Res}{b e:Nat}{cs:List Value}(h:Hp w0 S L w)(k:Nat)(hk:L[k]? =some (blk b cs e)):Rd w (some ⟨b,0,none⟩) cs:=by
 intro j v hv
 refine⟨_,rfl, ?_⟩
 rw [amw,cell_blk (h.blkAt k hk)]
 simpa using hv
theorem Hp.browlen{w0 w:World}{S:List Nat}{L:List Res}{v:Value}{m:Nat}{l:List UInt8}(h:Hp w0 S L w)(k:Nat)(hk:L[k]? =some (brow v m l)):l.length=m:=(h.res _ (List.mem_of_getElem? hk)).1.1
theorem Hp.tail{w0 w:World}{S:List Nat}{r:Res}{L:List Res}(h:Hp w0 S (r::L) w):Hp w0 S L w:=h.sub (List.sublist_cons_self r L)
def TI(P:Program)(e sz by_:Nat):Prop:=(P.info? e).map (fun i=>(i.zero.map (fun z=>z.cells.size),i.size,i.bytes))=some (some sz,sz,by_)
theorem TI.parts{P:Program}{e sz by_:Nat}(h:TI P e sz by_):∃i z,P.info? e=some i∧i.zero=some z∧i.size=sz∧i.bytes=by_∧z.cells.size=sz:=by
 unfold TI at h
 cases hi:P.info? e with
 |none=>simp [hi]at h
 |some i=>
  simp [hi]at h
  obtain⟨⟨z,hz,hzs⟩,h2,h3⟩:=h
  exact⟨i,z,rfl,hz,h2,h3,hzs⟩
section
variable {P : Program} {n : Md} {ops : Array Oper} {Q : Exit → Act → World → Prop} {F : Nat → Value} {w w0 : World} {S : List Nat} {L : List Res}
variable {d : Nat} {ty : TypeId} {pos : String} {after : Array Edge} {rest : List Oper}
theorem x_ld1{x:Operand}{t:TypeId}(b off:Nat)(cs:List Value)(e:TypeId)(v:Value)(hb:w.heap[b]? =some (.cells cs.toArray e (0,0)))(hv:cs[off]? =some v)
  (hx:evn n F x=.pointer (some ⟨b,off,none⟩)) (ha:(isAgg t).run P w=.ok false w):(execOp (evn n F) (⟨some d,.load t x,ty,pos,after,none⟩:Oper)).run P w=.ok (.value v) w:=by
 have hc:=cell_blk (off:=off) hb
 rw [hv]at hc
 simp [execOp,hx,Instr.loadAt,Instr.sureAddr,loadVar,ha,hc]
theorem x_rd1{x:Operand}{t:TypeId}(a:Option Addr)(xs:List Value)(j:Nat)(v:Value)(hR:Rd w a xs)(hv:xs[j]? =some v)(hx:evn n F x=.pointer (some (ea a j)))
  (ha:(isAgg t).run P w=.ok false w):(execOp (evn n F) (⟨some d,.load t x,ty,pos,after,none⟩:Oper)).run P w=.ok (.value v) w:=by
 obtain⟨p,rfl,hc⟩:=hR j v hv
 have hx':evn n F x=.pointer (some (p.add j)):=hx
 simp [execOp,hx',Instr.loadAt,Instr.sureAddr,loadVar,ha,hc]
theorem x_ldN{x:Operand}{t:TypeId}(b off m:Nat)(cs vs:List Value)(e:TypeId)(hb:w.heap[b]? =some (.cells cs.toArray e (0,0)))(hv:(cs.drop off).take m=vs)(hl:vs.length=m)
  (hx:evn n F x=.pointer (some ⟨b,off,none⟩)) (ha:(isAgg t).run P w=.ok true w) (hs:(sizeOf t).run P w=.ok m w):
  (execOp (evn n F) (⟨some d,.load t x,ty,pos,after,none⟩:Oper)).run P w=.ok (.value (.agg vs.toArray)) w:=by
 have hc:(loadCells ⟨b,off,none⟩ m).run P w=.ok vs.toArray w:=by
  rw [←hl]
  refine run_loadCells_list w ⟨b,off,none⟩ vs fun j v hj=> ?_
  rw [amw,cell_blk hb]
  rw [←hv]at hj
  have hlt:j<m:=by
   have:=(List.getElem?_eq_some_iff.1 hj).1
   simp at this;omega
  rw [List.getElem?_take,if_pos hlt,List.getElem?_drop]at hj
  exact hj
 simp [execOp,hx,Instr.loadAt,Instr.sureAddr,loadVar,ha,hs,hc]
theorem x_rdN{x:Operand}{t:TypeId}(a:Option Addr)(xs vs:List Value)(j m:Nat)(hR:Rd w a xs)(hv:(xs.drop j).take m=vs)(hl:vs.length=m)(hm:0<m)(hx:evn n F x=.pointer (some (ea a j)))
  (ha:(isAgg t).run P w=.ok true w) (hs:(sizeOf t).run P w=.ok m w):
  (execOp (evn n F) (⟨some d,.load t x,ty,pos,after,none⟩:Oper)).run P w=.ok (.value (.agg vs.toArray)) w:=by
 have hget:∀i v,vs[i]? =some v→xs[j+i]? =some v:=by
  intro i v hi
  rw [←hv]at hi
  have hlt:i<m:=by
   have:=(List.getElem?_eq_some_iff.1 hi).1
   simp at this;omega
  rw [List.getElem?_take,if_pos hlt,List.getElem?_drop]at hi
  exact hi
 have h0:vs[0]? =some (vs[0]'(by omega)):=by simp
 obtain⟨p,rfl,_⟩:=hR _ _ (hget 0 _ h0)
 have hx':evn n F x=.pointer (some (p.add j)):=hx
 have hc:(loadCells (p.add j) m).run P w=.ok vs.toArray w:=by
  rw [←hl]
  refine run_loadCells_list w (p.add j) vs fun i v hi=> ?_
  obtain⟨q,hq,hcc⟩:=hR _ _ (hget i v hi)
  simp at hq
  subst hq
  rw [add_add];exact hcc
 simp [execOp,hx',Instr.loadAt,Instr.sureAddr,loadVar,ha,hs,hc]
theorem x_lenS{x:Operand}{t:TypeId}(a:Option Addr)(k c e:Nat)(ht:P.underlying t=some (.slice e))(hx:evn n F x=.slice a k c):
  (execOp (evn n F) (⟨some d,.call ⟨.builtin .len, #[x], #[t]⟩,ty,pos,after,none⟩:Oper)).run P w=.ok (.value (.int .i64 (k:Int))) w:=by
 simp [execOp,resolve,invoke,builtin,hx,Builtin.len_,run_underlying ht,goInt]
theorem x_ixa{x ix:Operand}{t:TypeId}(a:Option Addr)(k c e sz:Nat)(q:IntKind)(i:Int)(ht:P.underlying t=some (.slice e))(hs:(sizeOf e).run P w=.ok sz w)(hx:evn n F x=.slice a k c)(hi:evn n F ix=.int q i)
  (hb:0≤i∧i<(k:Int)) (ha:a≠none):(execOp (evn n F) (⟨some d,.indexAddr t x ix,ty,pos,after,none⟩:Oper)).run P w=.ok (.value (.pointer (some (ea a (i.toNat*sz))))) w:=by
 cases a with
 |none=>exact absurd rfl ha
 |some p=>simp [execOp,hx,hi,Instr.indexAt,asIntOf,run_underlying ht,hs,hb.1,hb.2,ea]
theorem x_fld{x:Operand}{t f:Nat}(A:Addr)(off:Nat)(hx:evn n F x=.pointer (some A))(hrun:(Instr.fieldAt t (.pointer (some A)) f).run P w=.ok (.pointer (some (A.add off))) w):
  (execOp (evn n F) (⟨some d,.fieldAddr t x f,ty,pos,after,none⟩:Oper)).run P w=.ok (.value (.pointer (some (A.add off)))) w:=by
 simp [execOp,hx,hrun]
theorem x_fldE{x:Operand}{t f:Nat}(a:Option Addr)(j off:Nat)(hx:evn n F x=.pointer (some (ea a j)))(hrun:(Instr.fieldAt t (.pointer (some (ea a j))) f).run P w=.ok (.pointer (some ((ea a j).add off))) w):
  (execOp (evn n F) (⟨some d,.fieldAddr t x f,ty,pos,after,none⟩:Oper)).run P w=.ok (.value (.pointer (some (ea a (j+off))))) w:=by
 rw [x_fld (ea a j) off hx hrun,ea_add]
theorem w_tobytesR{x:Operand}{s t:TypeId}(hH:Hp w0 S L w)(l:List UInt8)(e:TypeId)(hs:P.underlying s=some .string)(ht:P.underlying t=some (.slice e))(he:P.underlying e=some (.int .u8))(hx:evn n F x=str l)
  (h:∀a cap w',(execOp (evn n F) (⟨some d,.convert s t x,ty,pos,after,none⟩:Oper)).run P w=.ok (.value (.slice a l.length cap)) w'→Hp w0 S (brow (.slice a l.length cap) l.length l::L) w'→W P n ops Q rest (upd F d (.slice a l.length cap)) w'):
  W P n ops Q (⟨some d,.convert s t x,ty,pos,after,none⟩::rest) F w:=by
 let cap:=Question.cut (.appendCap l.length 0 e) (w.tape w.drawn (.appendCap l.length 0 e))
 have hcap:l.length≤cap:=by show _≤_+_;omega
 let cells:Array Value:=(l.toArray.map fun b=>.int .u8 b.toNat)++Array.replicate (cap-l.length) (.int .u8 0)
 have hcs:cells.size=cap:=by simp [cells];omega
 let w1:World:={w with drawn:=w.drawn+1,heap:=w.heap.push (.cells cells e (cap,cap+1))}
 have hrun:(execOp (evn n F) (⟨some d,.convert s t x,ty,pos,after,none⟩:Oper)).run P w=.ok (.value (.slice (some ⟨w.heap.size,0,none⟩) l.length cap)) w1:=by
  have e1:(convert s t (str l)).run P w=(Conv.stringToBytes e ⟨l.toArray⟩).run P w:=by
   simp [convert,str,run_underlying hs,run_underlying ht,run_underlying he]
  have e2:(Conv.stringToBytes e ⟨l.toArray⟩).run P w=.ok (.slice (some ⟨w.heap.size,0,none⟩) l.length cap) w1:=by
   have hsz:(⟨l.toArray⟩:ByteArray).size=l.length:=rfl
   unfold Conv.stringToBytes markStringish
   simp only [Sem.run_bind,hsz]
   show Result.andThen (Result.ok cap {w with drawn:=w.drawn+1}) _=_
   simp only [Result.andThen_ok,newRow,Sem.run_bind,run_newObj,Sem.run_pure]
   show Result.andThen (Result.andThen (Result.ok (World.shape? {w with drawn:=w.drawn+1,heap:=w.heap.push (.cells cells e (0,0))} w.heap.size) _) _) _=_
   have hsh:World.shape? {w with drawn:=w.drawn+1,heap:=w.heap.push (.cells cells e (0,0))} w.heap.size=some (e,cap):=by
    simp [World.shape?,hcs]
   rw [hsh]
   simp only [Result.andThen_ok]
   show Result.andThen (Result.ok () (World.freeze {w with drawn:=w.drawn+1,heap:=w.heap.push (.cells cells e (0,0))} ⟨w.heap.size,cap,none⟩ 1)) _=_
   simp only [Result.andThen_ok,Sem.run_pure,World.freeze]
   congr 1
   simp only [Nat.one_ne_zero,if_false]
   refine congrArg (fun h=>({w with drawn:=w.drawn+1,heap:=h}:World)) ?_
   apply Array.ext
   ·simp
   ·intro i h1 h2
    have hlt:i<w.heap.size+1:=by simpa using h2
    rw [Array.getElem_modify]
    by_cases hi:w.heap.size=i
    ·subst hi;simp
    ·have hl2:i<w.heap.size:=by omega
     simp [hi,Array.getElem_push,hl2]
  simp [execOp,hx,e1,e2]
 refine aht rfl rfl hrun (h _ _ _ hrun ?_)
 have h2:Hp w [] [brow (.slice (some ⟨w.heap.size,0,none⟩) l.length cap) l.length l] w1:=by
  refine⟨rfl,rfl,rfl,by simp [w1],fun k hk _=> ?_,fun r hr=> ?_,by simp⟩
  ·show(w.heap.push _)[k]? =_
   rw [Array.getElem?_push,if_neg (by omega)]
  ·simp at hr
   subst hr
   refine⟨⟨rfl,w.heap.size,cap,cells,e,(cap,cap+1),rfl, ?_,hcap,by omega, ?_,by omega⟩,fun b hb=> ?_⟩
   ·simp [brow,zaQ,w1]
   ·simp [cells,bt]
   ·simp [brow,zaQ]at hb
    subst hb
    simp [w1]
 exact hH.callL h2
theorem x_tostr{x:Operand}{s t:TypeId}(l:List UInt8)(a:Option Addr)(m cap:Nat)(e:TypeId)(hR:Rd w a (l.map bt))(hm:l.length=m)(hs:P.underlying s=some (.slice e))(ht:P.underlying t=some .string)(he:P.underlying e=some (.int .u8))(hx:evn n F x=.slice a m cap):
  (execOp (evn n F) (⟨some d,.convert s t x,ty,pos,after,none⟩:Oper)).run P w=.ok (.value (str l)) w:=by
 subst hm
 have e1:(convert s t (.slice a l.length cap)).run P w=(Conv.bytesToString (.slice a l.length cap)).run P w:=by
  simp [convert,run_underlying hs,run_underlying ht,run_underlying he]
 have e2:(Conv.bytesToString (.slice a l.length cap)).run P w=.ok (str l) w:=by
  cases a with
  |none=>
   have:l=[]:=by
    cases l with
    |nil=>rfl
    |cons c l=>obtain⟨p,hp,_⟩:=hR 0 (bt c) (by simp);cases hp
   subst this
   rfl
  |some p=>
   have hload:(loadCells p l.length).run P w=.ok ((l.map fun c=>(c.toNat:Int)).map (Value.int .u8)).toArray w:=by
    have:=run_loadCells_list (P:=P) w p (l.map bt) (fun j v hj=>by
     obtain⟨q,hq,hcell⟩:=hR j v hj
     simp at hq
     subst hq
     exact hcell)
    simp only [zaF]at this
    rw [this]
    simp [bt,Function.comp_def]
   have:=run_bytesToString (P:=P) w p l.length cap _ hload
   rw [this]
   congr 1
   unfold str
   congr 1
   have hf:∀(l:List UInt8) (r:ByteArray),(l.map fun c=>(c.toNat:Int)).foldl (fun r n=>r.push (zbi n.toNat)) r=⟨r.data++l.toArray⟩:=by
    intro l
    induction l with
    |nil=>intro r;simp
    |cons c l ih=>
     intro r
     simp only [zaE,List.foldl_cons]
     rw [ih]
     apply ByteArray.ext
     simp [ByteArray.push]
   rw [hf]
   apply ByteArray.ext
   show(#[]:Array UInt8)++l.toArray=l.toArray
   simp
 simp [execOp,hx,e1,e2]
theorem Hp.grown{w':World}{a a':Option Addr}{k m cap cap' e sz:Nat}{xs ys:List Value}(hH:Hp w0 S L w)(hk:L[k]? =some (row (.slice a m cap) e sz m xs)){m':Nat}
  (hg:w.grownBy w' (Value.slice a m cap).ownBlock) (ho:w'.ownsRow 0 e sz (.slice a' m' cap') m' ys) (hn:∀p,a'=some p→(∃q,a=some q∧q.block=p.block)∨w.heap.size≤p.block):
  Hp w0 S (L.set k (row (.slice a' m' cap') e sz m' ys)) w':=by
 have hrow:(row (.slice a' m' cap') e sz m' ys).holds w':=by
  obtain⟨hl,hr⟩:=ho
  refine⟨hl, ?_⟩
  rcases hr with hr|⟨g,c,cur,hv,_,hb,h1,h2,h3,h4⟩
  ·exact .inl hr
  ·refine .inr ⟨g,c,cur,hv, ?_,h1,h2,h3,h4⟩
   simp only [Value.slice.injEq]at hv
   obtain⟨rfl,-,rfl⟩:=hv
   exact hb
 refine hH.change k _ _ hk hg.os hg.tape hg.output hg.size (fun j hj hne=>hg.block j hj (fun e=>hne (by rw [e];rfl))) hrow ?_
 intro b hb
 cases a' with
 |none=>simp [row,zaQ]at hb
 |some p=>
  simp [row,zaQ]at hb
  subst hb
  refine⟨?_,(ho.lt p.block rfl).2⟩
  rcases hn p rfl with⟨q,rfl,hq⟩|h2
  ·left;simp [row,zaQ,hq]
  ·exact .inr h2
theorem Hp.ownsRow{a:Option Addr}{k m cap e sz:Nat}{xs:List Value}(hH:Hp w0 S L w)(hk:L[k]? =some (row (.slice a m cap) e sz m xs)):w.ownsRow 0 e sz (.slice a m cap) m xs:=by
 obtain⟨⟨hl,hr⟩,_⟩:=hH.res _ (List.mem_of_getElem? hk)
 refine⟨hl, ?_⟩
 rcases hr with hr|⟨g,c,cur,hv,hb,h1,h2,h3,h4⟩
 ·exact .inl hr
 ·refine .inr ⟨g,c,cur,hv,zak _, ?_,h1,h2,h3,h4⟩
  simp only [Value.slice.injEq]at hv
  obtain⟨rfl,-,rfl⟩:=hv
  exact hb
theorem run_app{a ax:Option Addr}{m cap mx cx e sz by_:Nat}{xs news:List Value}(t:TypeId)(ht:P.underlying t=some (.slice e))(hT:TI P e sz by_)(hsz:0<sz)(hown:w.ownsRow 0 e sz (.slice a m cap) m xs)
  (hR:Rd w ax news) (hl:news.length=mx*sz) (h1:∀u∈news,u.oneCell'=true) (h63:m+mx≤maxLen) (hby:(m+mx)*by_≤140737488355328):
  ∃a' cap' w',(Builtin.append_ #[t,t] ty #[.slice a m cap,.slice ax mx cx]).run P w=.ok (.slice a' (m+mx) cap') w'∧w'.ownsRow 0 e sz (.slice a' (m+mx) cap') (m+mx) (xs++news)∧
   w.grownBy w' (Value.slice a m cap).ownBlock∧∀p,a'=some p→(∃q,a=some q∧q.block=p.block)∨w.heap.size≤p.block:=by
 obtain⟨i,z,hi,hz,hs,hb,hzs⟩:=hT.parts
 have hax:∀{ax},ax=none→Rd w ax news→mx=0∧news=[]:=by
  rintro _ rfl hR
  have:news=[]:=by
   cases news with
   |nil=>rfl
   |cons u us=>obtain⟨p,hp,_⟩:=hR 0 u (by simp);cases hp
  subst this
  refine⟨?_,rfl⟩
  rcases Nat.eq_zero_or_pos mx with h|h
  ·exact h
  ·have:=Nat.mul_pos h hsz
   simp at hl;omega
 by_cases hm:mx=0
 ·
  subst hm
  have hn:news=[]:=zao (by simpa using hl)
  subst hn
  refine⟨a,cap,w, ?_,by simpa using hown,⟨rfl,rfl,rfl,zam _,fun _ _ _=>rfl⟩,fun p hp=>.inl ⟨p,hp,rfl⟩⟩
  have hmc:m+0≤cap:=by
   rcases hown.2 with⟨hv,hm0⟩|⟨g,c,cur,hv,_,_,hc,_⟩
   ·subst hm0;omega
   ·simp only [Value.slice.injEq]at hv;omega
  have hfirst:(Builtin.firstCells i.size 0 (.slice ax 0 cx)).run P w=.ok #[] w:=by
   cases ax with
   |none=>simp [Builtin.firstCells]
   |some p=>simp [Builtin.firstCells,loadCells,loadCellsFrom]
  have hst:∀q:Addr,(storeCells q []).run P w=.ok () w:=fun q=>rfl
  cases a with
  |none=>simp [Builtin.append_,run_underlying ht,sizeOf,typeInfo,hi,Builtin.lenOf,hmc,hfirst];omega
  |some p=>
   have:m≤cap:=by omega
   simp [Builtin.append_,run_underlying ht,sizeOf,typeInfo,hi,Builtin.lenOf,this,hfirst,storeCells]
 ·cases ax with
  |none=>exact absurd (hax rfl hR).1 hm
  |some p=>
   have hnews:∀j u,news[j]? =some u→w.cell? (p.add j)=some u:=by
    intro j u hu
    obtain⟨q,hq,hc⟩:=hR j u hu
    simp at hq
    subst hq
    exact hc
   obtain⟨v',w',hr,ho,hg,hnil⟩:=run_append_own (P:=P) w 0 t ty e i z sz by_ ht hi hz hs hb hzs hsz (.slice a m cap) m xs hown p mx cx news hl hnews h1 h63 hby (zak _)
   have hv':∃a' cap',v'=.slice a' (m+mx) cap'∧∀p,a'=some p→(∃q,a=some q∧q.block=p.block)∨w.heap.size≤p.block:=by
    subst hs
    subst hb
    have h63':((m+mx:Nat):Int)≤9223372036854775807:=by simp only [maxLen]at h63;omega
    rcases hown.2 with⟨hv,hm0⟩|⟨g,c,cur,hv,_,hgb,hc,_,hcs,_⟩
    ·simp only [Value.slice.injEq]at hv
     obtain⟨rfl,rfl,rfl⟩:=hv
     have:=run_append_nil (P:=P) w t ty e i z ht hi hz p mx cx news hl hnews (by omega) (by simpa using h63') (by simp at hby;omega)
     rw [this]at hr
     simp only [Result.ok.injEq]at hr
     refine⟨_,_,by rw [←hr.1,zba],fun p hp=>.inr ?_⟩
     simp at hp
     subst hp
     simp
    ·simp only [Value.slice.injEq]at hv
     obtain⟨rfl,-,rfl⟩:=hv
     by_cases hroom:m+mx≤cap
     ·have hfit:m*i.size+news.length≤cur.size:=by rw [hl,hcs,←Nat.add_mul];exact Nat.mul_le_mul_right _ hroom
      have:=run_append_room (P:=P) w t ty e i ht hi g m cap cur hgb p mx cx news hl hnews h1 hroom hfit
      rw [this]at hr
      simp only [Result.ok.injEq]at hr
      refine⟨_,_,hr.1.symm,fun p hp=>.inl ?_⟩
      simp at hp
      subst hp
      exact⟨_,rfl,rfl⟩
     ·have holds:∀j u,xs[j]? =some u→w.cell? ((⟨g,0,none⟩:Addr).add j)=some u:=hown.cells (g:=g) rfl
      have:=run_append_grow (P:=P) w t ty e i z ht hi hz ⟨g,0,none⟩ m cap xs hown.1 holds p mx cx news hl hnews (by omega) h63' (growslice_fits (by omega) hby)
      rw [this]at hr
      simp only [Result.ok.injEq]at hr
      refine⟨_,_,hr.1.symm,fun p hp=>.inr ?_⟩
      simp at hp
      subst hp
      simp
   obtain⟨a',cap',rfl,hn⟩:=hv'
   exact⟨a',cap',w',hr,ho,hg,hn⟩
theorem w_append{x y:Operand}{t:TypeId}(hH:Hp w0 S L w)(k:Nat)(a ax:Option Addr)(m cap mx cx e sz by_:Nat)(xs news:List Value)(hk:L[k]? =some (row (.slice a m cap) e sz m xs))(ht:P.underlying t=some (.slice e))(hT:TI P e sz by_)(hsz:0<sz)
  (hx:evn n F x=.slice a m cap) (hy:evn n F y=.slice ax mx cx) (hR:Rd w ax news) (hl:news.length=mx*sz) (h1:∀u∈news,u.oneCell'=true) (hb:(m+mx)*by_≤140737488355328) (h63:m+mx≤9223372036854775807)
  (h:∀a' cap' w',Hp w0 S (L.set k (row (.slice a' (m+mx) cap') e sz (m+mx) (xs++news))) w'→W P n ops Q rest (upd F d (.slice a' (m+mx) cap')) w'):
  W P n ops Q (⟨some d,.call ⟨.builtin .append, #[x,y], #[t,t]⟩,ty,pos,after,none⟩::rest) F w:=by
 obtain⟨a',cap',w',hr,ho,hg,hn⟩:=run_app (P:=P) (ty:=ty) (cx:=cx) t ht hT hsz (hH.ownsRow hk) hR hl h1 (by unfold maxLen;omega) hb
 refine aht (w':=w') rfl rfl ?_ (h a' cap' w' (hH.grown hk hg ho hn))
 simp [execOp,resolve,invoke,builtin,hx,hy,hr]
theorem w_make0{x y:Operand}{t:TypeId}(hH:Hp w0 S L w)(e sz by_:Nat)(kl kc:IntKind)(c:Int)(ht:P.underlying t=some (.slice e))(hT:TI P e sz by_)(hx:evn n F x=.int kl 0)(hy:evn n F y=.int kc c)
  (h0:0≤c) (hb:(by_:Int)*c≤281474976710656) (h63:c≤9223372036854775807)
  (h:∀a cap w',Hp w0 S (row (.slice a 0 cap) e sz 0 []::L) w'→W P n ops Q rest (upd F d (.slice a 0 cap)) w'):
  W P n ops Q (⟨some d,.makeSlice t x y,ty,pos,after,none⟩::rest) F w:=by
 obtain⟨i,z,hi,hz,hs,hby,hzs⟩:=hT.parts
 obtain⟨cn,rfl⟩:=Int.eq_ofNat_of_zero_le h0
 have hb':i.bytes*cn≤281474976710656:=by
  rw [hby]
  have hb2:((by_*cn:Nat):Int)≤281474976710656:=by rw [Int.natCast_mul];exact hb
  omega
 obtain⟨w',hr,ho,hg⟩:=run_make_own (P:=P) w 0 t e i z sz ht hi hz hs kl kc cn hb' (by simp only [maxLen];omega) (zak _)
 obtain⟨w',hr,ho,hg⟩:=run_make_own (P:=P) w w.heap.size t e i z sz ht hi hz hs kl kc cn hb' (by simp only [maxLen];omega) (zam _)
 refine aht (w':=w') rfl rfl ?_ (h (some ⟨w.heap.size,0,none⟩) cn w' ?_)
 ·simp [execOp,hx,hy,hr]
 ·have h2:Hp w [] [row (.slice (some ⟨w.heap.size,0,none⟩) 0 cn) e sz 0 []] w':=by
   refine⟨hg.os,hg.tape,hg.output,hg.size,fun k hk _=>hg.block k hk (by simp),fun r hr=> ?_,by simp⟩
   simp at hr
   subst hr
   have hlt:=ho.lt w.heap.size rfl
   refine⟨?_,fun b hb=> ?_⟩
   ·obtain⟨hl,hr⟩:=ho
    refine⟨hl, ?_⟩
    rcases hr with hr|⟨g,c,cur,hv,_,hb,h1,h2,h3,h4⟩
    ·exact .inl hr
    ·refine .inr ⟨g,c,cur,hv, ?_,h1,h2,h3,h4⟩
     simp only [Value.slice.injEq,Option.some.injEq,Addr.mk.injEq]at hv
     obtain⟨⟨rfl,-⟩,-,rfl⟩:=hv
     exact hb
   ·simp [row,zaQ]at hb
    subst hb
    exact⟨hlt.2,.inl (zam _)⟩
  exact hH.callL h2
theorem Hp.strow{k m cap e sz j:Nat}{a:Option Addr}{xs vs:List Value}(hH:Hp w0 S L w)(hk:L[k]? =some (row (.slice a m cap) e sz m xs))(hj:j+vs.length≤xs.length)(h1:∀v∈vs,v.oneCell'=true)(h0:vs≠[]):
  ∃w',(storeCells (ea a j) vs).run P w=.ok () w'∧Hp w0 S (L.set k (row (.slice a m cap) e sz m (auu xs j vs))) w':=by
 have hlen:0<vs.length:=List.length_pos_iff.2 h0
 obtain⟨hl,hr⟩:=hH.ownsRow hk
 rcases hr with⟨hv,hm⟩|⟨g,c,cur,hv,_,hb,hc1,hc2,hcs,htk⟩
 ·exfalso;subst hm;rw [Nat.zero_mul]at hl;omega
 ·simp only [Value.slice.injEq]at hv
  obtain⟨rfl,-,rfl⟩:=hv
  have hxl:xs.length≤cur.size:=by rw [hl,hcs];exact Nat.mul_le_mul_right _ hc1
  have hst:=run_storeCells_at P g j e vs 0 cur w hb (by omega) h1
  have hea:ea (some ⟨g,0,none⟩) j=⟨g,j,none⟩:=by show(⟨g,0,none⟩:Addr).add j=_;rw [amw,zba]
  rw [hea]
  refine⟨_,hst,hH.change k _ _ hk rfl rfl rfl (by simp) (fun i hi hne=>setRow_other w g i _ (fun e=>hne (by simp [row,zaQ,e]))) ?_ ?_⟩
  ·refine⟨by rw [←hl];unfold auu;simp;omega,.inr ⟨g,cap,(zaW (j+0) cur.toList++vs++zaA (j+0+vs.length) cur.toList).toArray,rfl, ?_,hc1,hc2, ?_, ?_⟩⟩
   ·show(w.setRow g _).heap[g]? =_
    rw [setRow_heap w g cur _ e _ hb]
   ·rw [←hcs];simp;omega
   ·rw [←hl]
    simp only [zaK]
    have e1:xs=cur.toList.take xs.length:=by rw [hl];exact htk.symm
    unfold auu
    rw [List.take_append,List.take_append]
    simp only [zab,zaw,Array.length_toList]
    have h3:min j cur.size=j:=by omega
    rw [h3]
    rw [List.take_take,List.take_of_length_le (l:=vs) (by omega)]
    have h4:min xs.length j=j:=by omega
    rw [h4,List.take_drop]
    have h5:j+vs.length+(xs.length-(j+vs.length))=xs.length:=by omega
    rw [h5]
    have h6:zaW j xs=zaW j cur.toList:=by
     conv=>lhs;rw [e1]
     rw [List.take_take,Nat.min_eq_left (by omega)]
    rw [h6]
    have h7:zaA (j+vs.length) xs=zaA (j+vs.length) (zaW xs.length cur.toList):=by rw [←e1]
    rw [h7]
  ·intro b hb'
   simp [row,zaQ]at hb'
   subst hb'
   refine⟨.inl (by simp [row,zaQ]), ?_⟩
   have:=(Array.getElem?_eq_some_iff.1 hb).1
   simpa using this
theorem w_stbrow{x y:Operand}{t:TypeId}(hH:Hp w0 S L w)(k:Nat)(a:Option Addr)(m cap j:Nat)(l:List UInt8)(c:UInt8)(hk:L[k]? =some (brow (.slice a m cap) m l))(hj:j<m)
  (hx:evn n F x=.pointer (some (ea a j))) (hy:evn n F y=bt c) (hs:(sizeOf t).run P w=.ok 1 w)
  (h:∀w',Hp w0 S (L.set k (brow (.slice a m cap) m (l.set j c))) w'→W P n ops Q rest F w'):W P n ops Q (⟨none,.store t x y,ty,pos,after,none⟩::rest) F w:=by
 obtain⟨⟨hln,g,cap',cur,e,fz,hv,ho,hc1,hc2,htk,hfz⟩,hown⟩:=hH.res _ (List.mem_of_getElem? hk)
 simp only [Value.slice.injEq]at hv
 obtain⟨rfl,-,rfl⟩:=hv
 have hb:w.heap[g]? =some (.cells cur e fz):=by simpa [brow,zaQ] using ho
 have hea:ea (some ⟨g,0,none⟩) j=⟨g,j,none⟩:=by show(⟨g,0,none⟩:Addr).add j=_;rw [amw,zba]
 rw [hea]at hx
 have hcell:w.cell? ⟨g,j,none⟩=some (cur[j]'(by omega)):=by
  simp only [World.cell?,hb]
  have:j<cur.size:=by omega
  simp [this]
 have hfroz:w.frozen? ⟨g,j,none⟩=false:=by
  simp only [World.frozen?,hb]
  have:¬fz.1≤j:=by omega
  simp [this]
 have hst:(storeCells ⟨g,j,none⟩ [bt c]).run P w=.ok () (w.setCell ⟨g,j,none⟩ (bt c)):=by
  simp only [storeCells,Sem.run_bind,amw,zaK,store]
  simp only [Sem.run,bt,hcell,hfroz]
  rfl
 have hblk:(w.setCell ⟨g,j,none⟩ (bt c)).heap[g]? =some (.cells (cur.setIfInBounds j (bt c)) e fz):=by
  simp [World.setCell,Array.getElem?_modify,hb]
 refine w_skip (w':=w.setCell ⟨g,j,none⟩ (bt c)) rfl rfl ?_ (h _ ?_)
 ·simp [execOp,hx,hy,Instr.storeAt,Instr.sureAddr,storeVar,hs,bt,Value.cells]
  have hst':=hst
  simp only [bt]at hst'
  rw [hst']
  rfl
 ·refine hH.change k _ _ hk rfl rfl rfl (by simp [World.setCell]) (fun i hi hne=>RowKit.Below.heap_setCell w ⟨g,j,none⟩ _ i (fun e=>hne (by simp [brow,zaQ,e]))) ?_ ?_
  ·refine⟨by simpa using hln,g,cap,_,e,fz,rfl,hblk,hc1,by simpa using hc2, ?_,by simpa using hfz⟩
   rw [List.map_set,←htk,←List.take_set]
   simp
  ·intro b hb'
   simp [brow,zaQ]at hb'
   subst hb'
   refine⟨.inl (by simp [brow,zaQ]), ?_⟩
   have:=(Array.getElem?_eq_some_iff.1 hb).1
   simpa [World.setCell] using this
end
theorem run_mapM{α:Type}{P:Program}{w:World}(f:α→Sem Value):∀(l:List α) (vs:List Value),l.length=vs.length→(∀(i:Nat) (x:α) (v:Value),l[i]? =some x→vs[i]? =some v→(f x).run P w=.ok v w)→(l.mapM f).run P w=.ok vs w
 |[],[],_,_=>by simp
 |[],_::_,h,_=>by simp at h
 |_::_,[],h,_=>by simp at h
 |x::l,v::vs,h,hf=>by
  rw [List.mapM_cons]
  simp only [Sem.run_bind,hf 0 x v rfl rfl,Result.andThen_ok]
  rw [run_mapM f l vs (by simpa using h) (fun i y u hy hu=>hf (i+1) y u (by simpa using hy) (by simpa using hu))]
  simp
def ROk(P:Program)(kk:Nat)(F:Nat→Value)(w:World):ResultVar→Value→Prop
 |.tmp t,v=>evn ⟨kk,[],none⟩ F (.tmp t)=v
 |.cell a t,v=>∃(b e:Nat) (cs:List Value),evn ⟨kk,[],none⟩ F (.tmp a)=.pointer (some ⟨b,0,none⟩)∧w.heap[b]? =some (.cells cs.toArray e (0,0))∧
   (((isAgg t).run P w=.ok true w∧(sizeOf t).run P w=.ok cs.length w∧v=.agg cs.toArray)∨((isAgg t).run P w=.ok false w∧cs=[v]))
def resOf(tmps:Array Value):ResultVar→Sem Value
 |.tmp t=>pure (tmps.getD t undef)
 |.cell a t=>do loadVar t (←asAddr (tmps.getD a undef))
theorem rok_run{P:Program}{kk:Nat}{F:Nat→Value}{w:World}{r:ResultVar}{v:Value}(h:ROk P kk F w r v):(resOf (fr ⟨kk,[],none⟩ F).tmps r).run P w=.ok v w:=by
 unfold resOf
 cases r with
 |tmp t=>
  have h':(bif zbf t kk then F t else undef)=v:=h
  simp only [fr_get,h',Sem.run_pure]
 |cell a t=>
  obtain⟨b,e,cs,ha,hb,hc⟩:=h
  have h':(bif zbf a kk then F a else undef)=.pointer (some ⟨b,0,none⟩):=ha
  simp only [fr_get,h',asAddr,Sem.run_bind,Sem.run_pure,Result.andThen_ok]
  rcases hc with⟨h1,h2,rfl⟩|⟨h1,rfl⟩
  ·have hl:(loadCells ⟨b,0,none⟩ cs.length).run P w=.ok cs.toArray w:=
    run_loadCells_list w ⟨b,0,none⟩ cs fun j u hj=>by rw [amw,cell_blk hb,zba];exact hj
   simp [loadVar,h1,h2,hl]
  ·have hcell:w.cell? ⟨b,0,none⟩=some v:=by rw [cell_blk hb];rfl
   simp [loadVar,h1,hcell]
theorem results_run{P:Program}{kk:Nat}{F:Nat→Value}{w:World}{fn:Func}(l:List ResultVar)(vs:List Value)(hr:fn.results=l.toArray)(hl:l.length=vs.length)
  (hv:∀(i:Nat) (x:ResultVar) (v:Value),l[i]? =some x→vs[i]? =some v→ROk P kk F w x v) (v:Value) (hone:(match vs with|[u]=>u|us=>.tuple us.toArray)=v):
  (results fn (fr ⟨kk,[],none⟩ F).tmps).run P w=.ok v w:=by
 have hm:=run_mapM (P:=P) (w:=w) (resOf (fr ⟨kk,[],none⟩ F).tmps) l vs hl (fun i x v h1 h2=>rok_run (hv i x v h1 h2))
 unfold results
 rw [hr]
 change Sem.run P (do let vs←l.toArray.mapM (resOf (fr ⟨kk,[],none⟩ F).tmps);pure (if h:vs.size=1 then vs[0]else .tuple vs)) w=_
 simp only [List.mapM_toArray,Sem.run_bind,Sem.run_map]
 rw [hm]
 simp only [Result.andThen_ok,Sem.run_pure]
 subst hone
 congr 1
 cases vs with
 |nil=>simp
 |cons u us=>cases us with
  |nil=>simp
  |cons u' us=>simp
theorem rok_nil{P:Program}{kk:Nat}{F:Nat→Value}{w:World}:∀(i:Nat) (x:ResultVar) (v:Value),([]:List ResultVar)[i]? =some x→([]:List Value)[i]? =some v→ROk P kk F w x v:=fun i x v h=>by simp at h
theorem rok_cons{P:Program}{kk:Nat}{F:Nat→Value}{w:World}{r:ResultVar}{u:Value}{l:List ResultVar}{vs:List Value}(h0:ROk P kk F w r u)
  (h:∀(i:Nat) (x:ResultVar) (v:Value),l[i]? =some x→vs[i]? =some v→ROk P kk F w x v):∀(i:Nat) (x:ResultVar) (v:Value),(r::l)[i]? =some x→(u::vs)[i]? =some v→ROk P kk F w x v
 |0,x,v,hx,hv=>by simp at hx hv;subst hx;subst hv;exact h0
 |i+1,x,v,hx,hv=>h i x v (by simpa using hx) (by simpa using hv)
theorem rok_tmp{P:Program}{kk:Nat}{F:Nat→Value}{w:World}{t:Nat}{v:Value}(h:evn ⟨kk,[],none⟩ F (.tmp t)=v):ROk P kk F w (.tmp t) v:=h
theorem rok_one{P:Program}{kk:Nat}{F:Nat→Value}{w w0:World}{S:List Nat}{L:List Res}{a t:Nat}(hH:Hp w0 S L w)(k b e:Nat)(v:Value)(hk:L[k]? =some (blk b [v] e))(ha:evn ⟨kk,[],none⟩ F (.tmp a)=.pointer (some ⟨b,0,none⟩))
  (h1:(isAgg t).run P w=.ok false w):ROk P kk F w (.cell a t) v:=⟨b,e,[v],ha,hH.blkAt k hk,.inr ⟨h1,rfl⟩⟩
theorem slice_len{a:Option Addr}{m k cap:Nat}(h:m=k):Value.slice a m cap=Value.slice a k cap:=by rw [h]
def el{α:Type}[Inhabited α](l:List α)(i:Int):α:=l.getD i.toNat default
theorem flat_drop{α:Type}(f:α→List Value)(sz:Nat)(hf:∀x,(f x).length=sz):∀(l:List α) (i:Nat),(l.flatMap f).drop (i*sz)=(l.drop i).flatMap f
 |l,0=>by simp
 |[],i+1=>by simp
 |x::l,i+1=>by
  rw [zaJ,List.drop_succ_cons,←flat_drop f sz hf l i,Nat.succ_mul,zaV,←zbo]
  congr 1
  rw [←hf x];simp
theorem flat_at{α:Type}[Inhabited α](f:α→List Value)(sz:Nat)(hf:∀x,(f x).length=sz)(l:List α)(i:Int)(h0:0≤i∧i<(l.length:Int)):((l.flatMap f).drop (i.toNat*sz)).take sz=f (el l i):=by
 have hi:i.toNat<l.length:=by omega
 rw [flat_drop f sz hf,List.drop_eq_getElem_cons hi,zaJ]
 rw [show f (el l i)=f l[i.toNat]by simp [el,hi]]
 rw [←hf l[i.toNat]];simp
theorem flat_get{α:Type}[Inhabited α](f:α→List Value)(sz k:Nat)(hf:∀x,(f x).length=sz)(l:List α)(i:Int)(v:Value)(h0:0≤i∧i<(l.length:Int))(hk:k<sz)(hv:(f (el l i))[k]? =some v):(l.flatMap f)[i.toNat*sz+k]? =some v:=by
 rw [←flat_at f sz hf l i h0,List.getElem?_take,if_pos hk,List.getElem?_drop]at hv
 exact hv
theorem flat_len{α:Type}(f:α→List Value)(sz:Nat)(hf:∀x,(f x).length=sz)(l:List α):(l.flatMap f).length=l.length*sz:=by
 induction l with
 |nil=>simp
 |cons x l ih=>rw [zaJ,zab,ih,hf,zac,Nat.succ_mul,zaV]
open Nat renaming le_refl → zam, le_trans → zaM, lt_of_lt_of_le → zbn
def axy(L:List Res):List Nat:=L.filterMap (·.own)
theorem mem_owns{L:List Res}{b:Nat}(h:b∈axy L):∃r∈L,r.own=some b:=by
 unfold axy at h
 obtain⟨r,hr,e⟩:=List.mem_filterMap.1 h
 exact⟨r,hr,e⟩
theorem Hp.callK{w0 w w':World}{S:List Nat}{L1 L2 L1':List Res}(h:Hp w0 S (L1++L2) w)(h':Hp w (axy L1) L1' w'):Hp w0 S (L1'++L2) w':=by
 have hown:∀b,b∈axy L1→b<w.heap.size∧(w0.heap.size≤b∨b∈S):=by
  intro b hb
  obtain⟨r,hr,e⟩:=mem_owns hb
  exact(h.res r (List.mem_append.2 (.inl hr))).2 b e
 have hsep:=List.pairwise_append.1 h.sep
 have hfar:∀r∈L2,∀b,r.own=some b→b∉axy L1:=by
  intro r hr b e hb
  obtain⟨q,hq,e'⟩:=mem_owns hb
  exact hsep.2.2 q hq r hr b e' e
 refine⟨h'.os.trans h.os,h'.tape.trans h.tape,h'.output.trans h.output,zaM h.size h'.size,fun k hk hS=> ?_,fun r hr=> ?_, ?_⟩
 ·rw [h'.below k (zbn hk h.size) (fun hm=> ?_)];exact h.below k hk hS
  rcases(hown k hm).2 with h1|h1
  ·omega
  ·exact hS h1
 ·rcases List.mem_append.1 hr with hr|hr
  ·refine⟨(h'.res r hr).1,fun b e=> ?_⟩
   have:=(h'.res r hr).2 b e
   refine⟨this.1, ?_⟩
   rcases this.2 with h1|h1
   ·exact .inl (zaM h.size h1)
   ·exact(hown b h1).2
  ·have hL:=List.mem_append.2 (.inr hr:r∈L1∨r∈L2)
   refine⟨Res.holds_of (h.res r hL).1 fun b e=>h'.below b ((h.res r hL).2 b e).1 (hfar r hr b e),fun b e=> ?_⟩
   have:=(h.res r hL).2 b e
   exact⟨zbn this.1 h'.size,this.2⟩
 ·refine List.pairwise_append.2 ⟨h'.sep,hsep.2.1,fun r hr r' hr' b e e'=> ?_⟩
  have h1:=(h'.res r hr).2 b e
  have h2:=(h.res r' (List.mem_append.2 (.inr hr'))).2 b e'
  rcases h1.2 with h3|h3
  ·omega
  ·exact hfar r' hr' b e' h3
theorem Hp.front{w0 w:World}{S:List Nat}{L:List Res}(h:Hp w0 S L w)(k:Nat)(r:Res)(hk:L[k]? =some r):Hp w0 S (r::L.eraseIdx k) w:=by
 refine h.perm ?_
 clear h
 induction L generalizing k with
 |nil=>simp at hk
 |cons x L ih=>
  cases k with
  |zero=>simp at hk;subst hk;simp
  |succ k=>
   simp at hk
   simp only [List.eraseIdx_cons_succ]
   exact(List.Perm.cons x (ih k hk)).trans (List.Perm.swap r x _)
theorem Hp.keep{w0 w:World}{S:List Nat}{L1 L2:List Res}(h:Hp w0 S (L1++L2) w):Hp w0 S L1 w:=h.sub (List.sublist_append_left _ _)
theorem Hp.hand{w0 w:World}{S:List Nat}{L1 L2:List Res}(h:Hp w0 S (L1++L2) w):Hp w (axy L1) L1 w:=
 ⟨rfl,rfl,rfl,zam _,fun _ _ _=>rfl,fun r hr=>by
  have:=h.res r (List.mem_append.2 (.inl hr))
  exact⟨this.1,fun b e=>⟨(this.2 b e).1,.inr (List.mem_filterMap.2 ⟨r,hr,e⟩)⟩⟩,(List.pairwise_append.1 h.sep).1⟩
theorem cr_below{P:Program}{f:FuncId}{args:List Value}{w:World}{v:Value}(h:Calls P f args.toArray w fun e w'=>e=.returned v∧RowKit.Below w.heap.size w w'):CR P f args w fun u w'=>u=v∧Hp w [] [] w':=
 Calls.mono h fun _ _ ⟨e,hb⟩=>⟨v,e,rfl,Hp.ofBelow hb⟩
theorem azq{P:Program}{f:FuncId}{args:List Value}{w:World}{v:Value}(h:Calls P f args.toArray w fun e w'=>e=.returned v∧w'=w):CR P f args w fun u w'=>u=v∧Hp w [] [] w':=
 Calls.mono h fun _ _ ⟨e,hb⟩=>⟨v,e,rfl,hb▸Hp.refl w⟩
theorem hp_drew{w:World}(k:Nat):Hp w [] [] (w.drewN k):=Hp.ofBelow ⟨rfl,rfl,rfl,zam _,fun _ _=>rfl⟩
theorem cr_drew{P:Program}{f:FuncId}{args:List Value}{w:World}{v:Value}(h:Calls P f args.toArray w fun e w'=>e=.returned v∧∃k,w'=w.drewN k):CR P f args w fun u w'=>u=v∧Hp w [] [] w':=
 Calls.mono h fun _ _ ⟨e,k,hb⟩=>⟨v,e,rfl,hb▸hp_drew k⟩
def sit(b:Nat)(l:List UInt8)(pos:Nat):Res:=⟨some b,fun o=>o=some (.stringIter ⟨l.toArray⟩ pos)⟩
theorem Hp.allocIt{w0 w:World}{S:List Nat}{L:List Res}(h:Hp w0 S L w)(l:List UInt8)(pos:Nat):Hp w0 S (sit w.heap.size l pos::L) (w.alloc (.stringIter ⟨l.toArray⟩ pos)):=by
 have h2:Hp w [] [sit w.heap.size l pos] (w.alloc (.stringIter ⟨l.toArray⟩ pos)):=by
  refine⟨rfl,rfl,rfl,by simp,fun k hk _=>RowKit.Below.heap_alloc w _ k hk,fun r hr=> ?_,by simp⟩
  simp at hr
  subst hr
  refine⟨?_,fun b hb=> ?_⟩
  ·show(w.heap.push (.stringIter ⟨l.toArray⟩ pos))[w.heap.size]? =_
   simp
  ·simp [sit]at hb
   subst hb
   simp
 exact h.callL h2
theorem Hp.setIt{w0 w:World}{S:List Nat}{L:List Res}(h:Hp w0 S L w)(k b:Nat)(l:List UInt8)(pos pos':Nat)(hk:L[k]? =some (sit b l pos)):
  Hp w0 S (L.set k (sit b l pos')) {w with heap:=w.heap.setIfInBounds b (.stringIter ⟨l.toArray⟩ pos')}:=by
 have hb:=((h.res _ (List.mem_of_getElem? hk)).2 b rfl).1
 refine h.change k _ _ hk rfl rfl rfl (by simp) (fun j hj hne=> ?_) ?_ (fun c hc=> ?_)
 ·show(w.heap.setIfInBounds b _)[j]? =_
  rw [Array.getElem?_setIfInBounds_ne (fun e=>hne (by rw [e];rfl))]
 ·show(w.heap.setIfInBounds b _)[b]? =_
  simp [hb]
 ·cases hc
  exact⟨.inl rfl,by simpa using hb⟩
section
variable {P : Program} {n : Md} {ops : Array Oper} {Q : Exit → Act → World → Prop} {F : Nat → Value} {w : World}
variable {d : Nat} {ty : TypeId} {pos : String} {after : Array Edge} {rest : List Oper}
theorem x_quo{x y:Operand}{t t':TypeId}(k:IntKind)(a b:Int)(hx:evn n F x=.int k a)(hy:evn n F y=.int k b)(h0:0≤a)(hb:0<b)(hw:k.wrap (a/b)=a/b):
  (execOp (evn n F) (⟨some d,.binOp .quo t x y t',ty,pos,after,none⟩:Oper)).run P w=.ok (.value (.int k (a/b))) w:=by
 have e:a.tdiv b=a/b:=Int.tdiv_eq_ediv_of_nonneg h0
 have hb':¬b=0:=by omega
 simp [execOp,hx,hy,binOp,eqGuard,Op.intDiv,hb',e,hw]
theorem x_rem{x y:Operand}{t t':TypeId}(k:IntKind)(a b:Int)(hx:evn n F x=.int k a)(hy:evn n F y=.int k b)(h0:0≤a)(hb:0<b)(hw:k.wrap (a%b)=a%b):
  (execOp (evn n F) (⟨some d,.binOp .rem t x y t',ty,pos,after,none⟩:Oper)).run P w=.ok (.value (.int k (a%b))) w:=by
 have e:a.tmod b=a%b:=Int.tmod_eq_emod_of_nonneg h0
 have hb':¬b=0:=by omega
 simp [execOp,hx,hy,binOp,eqGuard,Op.intDiv,hb',e,hw]
def andI(k:IntKind)(a b:Int):Int:=k.wrap ((BitVec.ofInt k.bits a&&&BitVec.ofInt k.bits b).toNat:Int)
def orI(k:IntKind)(a b:Int):Int:=k.wrap ((BitVec.ofInt k.bits a|||BitVec.ofInt k.bits b).toNat:Int)
theorem x_and{x y:Operand}{t t':TypeId}(k:IntKind)(a b:Int)(hx:evn n F x=.int k a)(hy:evn n F y=.int k b):(execOp (evn n F) (⟨some d,.binOp .and t x y t',ty,pos,after,none⟩:Oper)).run P w=.ok (.value (.int k (andI k a b))) w:=by
 simp only [execOp,hx,hy,binOp,ne_eq,not_true_eq_false,if_false];rfl
theorem x_or{x y:Operand}{t t':TypeId}(k:IntKind)(a b:Int)(hx:evn n F x=.int k a)(hy:evn n F y=.int k b):(execOp (evn n F) (⟨some d,.binOp .or t x y t',ty,pos,after,none⟩:Oper)).run P w=.ok (.value (.int k (orI k a b))) w:=by
 simp only [execOp,hx,hy,binOp,ne_eq,not_true_eq_false,if_false];rfl
theorem x_shl{x y:Operand}{t t':TypeId}(k k':IntKind)(a b p:Int)(hx:evn n F x=.int k a)(hy:evn n F y=.int k' b)(h0:0≤b)(hp:2^(min b.toNat k.bits)=p):(execOp (evn n F) (⟨some d,.binOp .shl t x y t',ty,pos,after,none⟩:Oper)).run P w=.ok (.value (.int k (k.wrap (a*p)))) w:=by
 have hb:¬b<0:=by omega
 rw [←hp]
 simp [execOp,hx,hy,binOp,eqGuard,Op.shift,hb]
theorem x_shr{x y:Operand}{t t':TypeId}(k k':IntKind)(a b p:Int)(hx:evn n F x=.int k a)(hy:evn n F y=.int k' b)(h0:0≤b)(hp:2^(min b.toNat k.bits)=p)(hp0:0<p):(execOp (evn n F) (⟨some d,.binOp .shr t x y t',ty,pos,after,none⟩:Oper)).run P w=.ok (.value (.int k (a/p))) w:=by
 have hb:¬b<0:=by omega
 have e:a.fdiv p=a/p:=Int.fdiv_eq_ediv_of_nonneg _ (by omega)
 rw [←e,←hp]
 simp [execOp,hx,hy,binOp,eqGuard,Op.shift,hb]
theorem x_snil{x y:Operand}{t t':TypeId}(a:Option Addr)(m c e:Nat)(ht:P.underlying t=some (.slice e))(hx:evn n F x=.slice a m c)(hy:evn n F y=.slice none 0 0):(execOp (evn n F) (⟨some d,.binOp .eql t x y t',ty,pos,after,none⟩:Oper)).run P w=.ok (.value (.bool a.isNone)) w:=by
 have e:(binOp .eql t (.slice a m c) (.slice none 0 0)).run P w=.ok (.bool a.isNone) w:=by simp only [binOp];simp [run_equal_slice_nil w t e a m c ht]
 simp [execOp,hx,hy,eqGuard,e]
theorem w_snil{x y:Operand}{t t':TypeId}(a:Option Addr)(m c e:Nat)(ht:P.underlying t=some (.slice e))(hx:evn n F x=.slice a m c)(hy:evn n F y=.slice none 0 0)(h:W P n ops Q rest (upd F d (.bool a.isNone)) w):W P n ops Q (⟨some d,.binOp .eql t x y t',ty,pos,after,none⟩::rest) F w:=
 aht rfl rfl (x_snil a m c e ht hx hy) h
theorem x_ixaA{x ix:Operand}{t:TypeId}(p:Addr)(k e sz:Nat)(q:IntKind)(i:Int)(ht:P.underlying t=some (.array k e))(hs:(sizeOf e).run P w=.ok sz w)(hx:evn n F x=.pointer (some p))(hi:evn n F ix=.int q i)
  (hb:0≤i∧i<(k:Int)) (hk:2≤k):(execOp (evn n F) (⟨some d,.indexAddr t x ix,ty,pos,after,none⟩:Oper)).run P w=.ok (.value (.pointer (some (ea (some p) (i.toNat*sz))))) w:=by
 simp [execOp,hx,hi,Instr.indexAt,Instr.sureAddr,asIntOf,run_underlying ht,hs,hb.1,hb.2,ea]
theorem w_range{x:Operand}{t:TypeId}{w0:World}{S:List Nat}{L:List Res}(hH:Hp w0 S L w)(l:List UInt8)(ht:P.underlying t=some .string)(hx:evn n F x=str l)
  (h:∀b w',Hp w0 S (sit b l 0::L) w'→W P n ops Q rest (upd F d (.pointer (some ⟨b,0,none⟩))) w'):W P n ops Q (⟨some d,.range t x,ty,pos,after,none⟩::rest) F w:=by
 refine aht (v:=.pointer (some ⟨w.heap.size,0,none⟩)) (w':=w.alloc (.stringIter ⟨l.toArray⟩ 0)) rfl rfl ?_ (h _ _ (hH.allocIt l 0))
 simp [execOp,hx,str,Instr.range,run_underlying ht]
theorem w_next{x:Operand}{w0:World}{S:List Nat}{L:List Res}(hH:Hp w0 S L w)(k b:Nat)(l:List UInt8)(p:Nat)(hk:L[k]? =some (sit b l p))(hx:evn n F x=.pointer (some ⟨b,0,none⟩))
  (h1:p<l.length→∀w',Hp w0 S (L.set k (sit b l (p+(Utf8.decode ⟨l.toArray⟩ p).2))) w'→W P n ops Q rest (upd F d (.tuple #[.bool true,.int .i64 (p:Int),.int .i32 ((Utf8.decode ⟨l.toArray⟩ p).1:Int)])) w')
  (h2:¬p<l.length→W P n ops Q rest (upd F d (.tuple #[.bool false])) w):W P n ops Q (⟨some d,.next x true,ty,pos,after,none⟩::rest) F w:=by
 have hb:w.heap[b]? =some (.stringIter ⟨l.toArray⟩ p):=(hH.res _ (List.mem_of_getElem? hk)).1
 have hlt:=((hH.res _ (List.mem_of_getElem? hk)).2 b rfl).1
 have hg:(getObj b).run P w=.ok (.stringIter ⟨l.toArray⟩ p) w:=by simp [getObj,Sem.run,hb]
 have hs:∀o,(setObj b o).run P w=.ok () {w with heap:=w.heap.setIfInBounds b o}:=fun o=>by simp [setObj,Sem.run,hb]
 by_cases hp:p<l.length
 ·have hp':p<(⟨l.toArray⟩:ByteArray).size:=hp
  refine aht (v:=.tuple #[.bool true,.int .i64 (p:Int),.int .i32 ((Utf8.decode ⟨l.toArray⟩ p).1:Int)]) (w':={w with heap:=w.heap.setIfInBounds b (.stringIter ⟨l.toArray⟩ (p+(Utf8.decode ⟨l.toArray⟩ p).2))}) rfl rfl ?_ (h1 hp _ (hH.setIt k b l p _ hk))
  simp [execOp,hx,Instr.next,hg,hs,hp',goInt]
 ·have hp':¬p<(⟨l.toArray⟩:ByteArray).size:=hp
  refine aht (v:=.tuple #[.bool false]) (w':=w) rfl rfl ?_ (h2 hp)
  simp [execOp,hx,Instr.next,hg,hp']
theorem x_runestr{x:Operand}{s t:TypeId}(k k':IntKind)(a:Int)(hs:P.underlying s=some (.int k'))(ht:P.underlying t=some .string)(hx:evn n F x=.int k a):(execOp (evn n F) (⟨some d,.convert s t x,ty,pos,after,none⟩:Oper)).run P w=.ok (.value (str (Utf8.encode a).data.toList)) w:=by
 simp [execOp,hx,convert,run_underlying hs,run_underlying ht,Conv.intToString,str]
theorem w_runestr{x:Operand}{s t:TypeId}(k k':IntKind)(a:Int)(hs:P.underlying s=some (.int k'))(ht:P.underlying t=some .string)(hx:evn n F x=.int k a)(h:W P n ops Q rest (upd F d (str (Utf8.encode a).data.toList)) w):W P n ops Q (⟨some d,.convert s t x,ty,pos,after,none⟩::rest) F w:=
 aht rfl rfl (x_runestr k k' a hs ht hx) h
end
open Go.IntKind renaming wrap → zae
open Go.Value renaming ownBlock → zaQ
open List renaming drop_eq_nil_of_le → zaI, eq_nil_of_length_eq_zero → zao, flatMap_append → zbp, flatMap_cons → zaJ, length_append → zab, take_append_drop → zbs
open Nat renaming le_of_ble_eq_true → zaG, le_refl → zam, zero_add → zba
open Option renaming map_some → zaP
open UInt8 renaming lt_iff_toNat_lt → zbd, ofNat → zbi, toNat_lt → zbk
abbrev Str:=List UInt8
abbrev PQ:=Str×Str×Bool
abbrev LQ:=List PQ
abbrev UQ:=Str×Str×Str×Int×LQ×LQ
abbrev AQ:=Str×UQ×LQ
def gd{α:Type}(p:Prop)[Decidable p](k:Option α):Option α:=if p then k else none
theorem gd_inv{α:Type}{p:Prop}[Decidable p]{k:Option α}{r:α}(h:gd p k=some r):p∧k=some r:=by
 unfold gd at h
 split at h
 ·exact⟨by assumption,h⟩
 ·cases h
theorem aaa{α:Type}{p:Prop}[Decidable p]{k:Option α}(h:p):gd p k=k:=if_pos h
theorem bind_inv{α β:Type}{o:Option α}{f:α→Option β}{r:β}(h:o.bind f=some r):∃y,o=some y∧f y=some r:=by
 cases o with
 |none=>cases h
 |some y=>exact⟨y,rfl,h⟩
theorem ift{α:Type}{p:Prop}[Decidable p]{a b r:α}(h:p)(e:(if p then a else b)=r):a=r:=by rw [←e,if_pos h]
theorem ifn{α:Type}{p:Prop}[Decidable p]{a b r:α}(h:¬p)(e:(if p then a else b)=r):b=r:=by rw [←e,if_neg h]
theorem cft{α:Type}{c:Bool}{a b r:α}(h:c=true)(e:cond c a b=r):a=r:=by rw [←e,h];rfl
theorem cff{α:Type}{c:Bool}{a b r:α}(h:c=false)(e:cond c a b=r):b=r:=by rw [←e,h];rfl
def dMk(b:Nat):(c:Int)→Decidable (0≤c∧(b:Int)*c≤281474976710656)
 |.ofNat n=>match h:Nat.ble (b*n) 281474976710656 with
  |true=>.isTrue ⟨Int.natCast_nonneg n,by
   have h1:=zaG h
   have h2:((b*n:Nat):Int)≤((281474976710656:Nat):Int):=Int.ofNat_le.2 h1
   rw [Int.natCast_mul]at h2
   exact h2⟩
  |false=>.isFalse fun⟨_,h2⟩=>by
   have h3:((b*n:Nat):Int)≤((281474976710656:Nat):Int):=by rw [Int.natCast_mul];exact h2
   rw [Nat.ble_eq_true_of_le (Int.ofNat_le.1 h3)]at h
   cases h
 |.negSucc n=>.isFalse fun⟨h1,_⟩=>absurd h1 (by omega)
instance instOk64:(a:Int)→Decidable (aap a)
 |.ofNat n=>if h:Nat.ble n 9223372036854775807=true then .isTrue (show aap (n:Int)from⟨by omega,by have:=zaG h;omega⟩)else .isFalse fun q=>h (Nat.ble_eq▸(by have:(n:Int)≤9223372036854775807:=q.hi;omega))
 |.negSucc n=>if h:Nat.ble n 9223372036854775807=true then .isTrue ⟨by have:=zaG h;rw [Int.negSucc_eq];omega,by rw [Int.negSucc_eq];omega⟩else .isFalse fun q=>h (Nat.ble_eq▸(by have:=q.lo;rw [Int.negSucc_eq]at this;omega))
structure Enc {α:Type} (f:α→List Value) (sz:Nat):Prop where
 len:∀x,(f x).length=sz
 one:∀x,∀v∈f x,v.oneCell'=true
def eS(s:Str):List Value:=[str s]
def eB(c:UInt8):List Value:=[bt c]
theorem enc_S:Enc eS 1:=⟨fun _=>rfl,fun x v h=>by simp [eS]at h;subst h;rfl⟩
theorem enc_B:Enc eB 1:=⟨fun _=>rfl,fun x v h=>by simp [eB]at h;subst h;rfl⟩
theorem flat_eB(l:List UInt8):l.flatMap eB=l.map bt:=by induction l with
 |nil=>rfl
 |cons c l ih=>rw [zaJ,ih];rfl
theorem Enc.flat{α:Type}{f:α→List Value}{sz:Nat}(h:Enc f sz)(l:List α):(l.flatMap f).length=l.length*sz:=flat_len f sz h.len l
theorem Enc.cells{α:Type}{f:α→List Value}{sz:Nat}(h:Enc f sz)(l:List α):∀v∈l.flatMap f,v.oneCell'=true:=by
 intro v hv
 obtain⟨x,_,hx⟩:=List.mem_flatMap.1 hv
 exact h.one x v hx
def rwt{α:Type}(f:α→List Value)(e sz:Nat)(o:Option Nat)(a:Option Addr)(cap:Nat)(l:List α):Res:=
 ⟨o,fun ob=>(o=none∧l=[]∧cap=0∧a=none)∨
  ∃g cur,o=some g∧a=some ⟨g,0,none⟩∧ob=some (.cells cur e (0,0))∧l.length≤cap∧cap≤maxLen∧cur.size=cap*sz∧cur.toList.take (l.length*sz)=l.flatMap f⟩
theorem Hp.nilrw{w0 w:World}{S:List Nat}{L:List Res}(h:Hp w0 S L w){α:Type}(f:α→List Value)(e sz:Nat)(a:Option Addr):Hp w0 S (rwt f e sz none none 0 []::L) w:=by
 refine⟨h.os,h.tape,h.output,h.size,h.below,fun r hr=> ?_, ?_⟩
 ·rcases List.mem_cons.1 hr with rfl|hr
  ·exact⟨.inl ⟨rfl,rfl,rfl,rfl⟩,fun b hb=>by simp [rwt]at hb⟩
  ·exact h.res r hr
 ·refine List.Pairwise.cons (fun r _ b hb=>by simp [rwt]at hb) h.sep
theorem Hp.rdrw{w0 w:World}{S:List Nat}{L:List Res}{α:Type}{f:α→List Value}{e sz cap:Nat}{o:Option Nat}{a:Option Addr}{l:List α}(h:Hp w0 S L w)(k:Nat)(hk:L[k]? =some (rwt f e sz o a cap l)):Rd w a (l.flatMap f):=by
 obtain⟨h1,_⟩:=h.res _ (List.mem_of_getElem? hk)
 rcases h1 with⟨_,rfl,_⟩|⟨g,cur,ho,rfl,hob,_,_,_,htk⟩
 ·exact Rd.nil _ _
 ·intro j v hv
  refine⟨_,rfl, ?_⟩
  rw [amw]
  have hb:w.heap[g]? =some (.cells cur e (0,0)):=by
   have ho':o=some g:=ho
   subst ho'
   simpa [rwt] using hob
  simp only [World.cell?,hb,zba]
  rw [←htk,List.getElem?_take]at hv
  split at hv
  ·simpa using hv
  ·cases hv
theorem Hp.rwrow{w0 w:World}{S:List Nat}{L:List Res}{α:Type}{f:α→List Value}{e sz cap g:Nat}{a:Option Addr}{l:List α}(h:Hp w0 S L w)(hE:Enc f sz)(k:Nat)(hk:L[k]? =some (rwt f e sz (some g) a cap l)):
  a=some ⟨g,0,none⟩∧Hp w0 S (L.set k (row (.slice a l.length cap) e sz l.length (l.flatMap f))) w:=by
 obtain⟨h1,h2⟩:=h.res _ (List.mem_of_getElem? hk)
 rcases h1 with⟨hn,_⟩|⟨g',cur,ho,rfl,hob,hc1,hc2,hc3,htk⟩
 ·cases hn
 ·cases ho
  refine⟨rfl,h.change k _ _ hk rfl rfl rfl (zam _) (fun _ _ _=>rfl) ?_ ?_⟩
  ·exact⟨hE.flat l,.inr ⟨g,cap,cur,rfl,hob,hc1,hc2,hc3,htk⟩⟩
  ·intro b hb
   simp [row,zaQ]at hb
   subst hb
   exact⟨.inl rfl,(h2 g rfl).1⟩
theorem Hp.rowrw{w0 w:World}{S:List Nat}{L:List Res}{α:Type}{f:α→List Value}{e sz cap:Nat}{a:Option Addr}{l:List α}(h:Hp w0 S L w)(k:Nat)(hk:L[k]? =some (row (.slice a l.length cap) e sz l.length (l.flatMap f))):
  ∃o,Hp w0 S (L.set k (rwt f e sz o a cap l)) w:=by
 obtain⟨h1,h2⟩:=h.res _ (List.mem_of_getElem? hk)
 obtain⟨hl,hr⟩:=h1
 rcases hr with⟨hv,hn⟩|⟨g,cap',cur,hv,ho,hc1,hc2,hc3,htk⟩
 ·simp only [Value.slice.injEq]at hv
  obtain⟨rfl,-,rfl⟩:=hv
  refine⟨none,h.change k _ _ hk rfl rfl rfl (zam _) (fun _ _ _=>rfl) (.inl ⟨rfl,zao hn,rfl,rfl⟩) (fun b hb=>by simp [rwt]at hb)⟩
 ·simp only [Value.slice.injEq]at hv
  obtain⟨rfl,-,rfl⟩:=hv
  refine⟨some g,h.change k _ _ hk rfl rfl rfl (zam _) (fun _ _ _=>rfl) (.inr ⟨g,cur,rfl,rfl,ho,hc1,hc2,hc3,htk⟩) (fun b hb=> ?_)⟩
  simp [rwt]at hb
  subst hb
  exact⟨.inl (by simp [row,zaQ]),(h2 g (by simp [row,zaQ])).1⟩
theorem Hp.blkrw{w0 w:World}{S:List Nat}{L:List Res}{b e:Nat}{cs:List Value}{α:Type}{f:α→List Value}(h:Hp w0 S L w)(k sz m:Nat)(l:List α)(hk:L[k]? =some (blk b cs e))(hE:Enc f sz)(hcs:l.flatMap f=cs)(hl:l.length=m)(hm:m≤maxLen):
  Hp w0 S (L.set k (rwt f e sz (some b) (some ⟨b,0,none⟩) m l)) w:=by
 have hb:=h.blkAt k hk
 subst hcs
 subst hl
 refine h.change k _ _ hk rfl rfl rfl (zam _) (fun _ _ _=>rfl) ?_ ?_
 ·exact .inr ⟨b,_,rfl,rfl,hb,zam _,hm,by simpa using hE.flat l,by rw [←hE.flat l];exact List.take_length⟩
 ·intro b' hb'
  simp [rwt]at hb'
  subst hb'
  exact⟨.inl rfl,(Array.getElem?_eq_some_iff.1 hb).1⟩
section
variable {P : Program} {n : Md} {ops : Array Oper} {Q : Exit → Act → World → Prop} {F : Nat → Value} {w w0 : World} {S : List Nat} {L : List Res}
variable {d : Nat} {ty : TypeId} {pos : String} {after : Array Edge} {rest : List Oper} {α : Type} {f : α → List Value}
theorem ajk{β:Type}(l:List β)(k:Nat)(x y:β):(l.set k x).set k y=l.set k y:=by simp
theorem avq{x y:Operand}{t:TypeId}(hH:Hp w0 S L w)(k:Nat)(o:Option Nat)(a ax:Option Addr)(cap cx e sz by_:Nat)(l l2:List α)(hE:Enc f sz)(hk:L[k]? =some (rwt f e sz o a cap l))(ht:P.underlying t=some (.slice e))(hT:TI P e sz by_)(hsz:0<sz)(hby:0<by_)
  (hx:evn n F x=.slice a l.length cap) (hy:evn n F y=.slice ax l2.length cx) (hR:Rd w ax (l2.flatMap f)) (hb:(l.length+l2.length)*by_≤140737488355328)
  (h:∀o' a' cap' w',Hp w0 S (L.set k (rwt f e sz o' a' cap' (l++l2))) w'→W P n ops Q rest (upd F d (.slice a' (l++l2).length cap')) w'):
  W P n ops Q (⟨some d,.call ⟨.builtin .append, #[x,y], #[t,t]⟩,ty,pos,after,none⟩::rest) F w:=by
 have h63:l.length+l2.length≤9223372036854775807:=by
  have:l.length+l2.length≤(l.length+l2.length)*by_:=Nat.le_mul_of_pos_right _ hby
  omega
 have fin:∀a' cap' w',Hp w0 S (L.set k (row (.slice a' (l.length+l2.length) cap') e sz (l.length+l2.length) (l.flatMap f++l2.flatMap f))) w'→W P n ops Q rest (upd F d (.slice a' (l.length+l2.length) cap')) w':=by
  intro a' cap' w' h1
  rw [←zab,←zbp]at h1
  rw [←zab]
  have hlt:k<L.length:=(List.getElem?_eq_some_iff.1 hk).1
  obtain⟨o',h2⟩:=h1.rowrw k (List.getElem?_set_self hlt)
  rw [ajk]at h2
  exact h o' a' cap' w' h2
 have hlt:k<L.length:=(List.getElem?_eq_some_iff.1 hk).1
 cases o with
 |some g=>
  obtain⟨rfl,h1⟩:=hH.rwrow hE k hk
  refine w_append h1 k (some ⟨g,0,none⟩) ax l.length cap l2.length cx e sz by_ (l.flatMap f) (l2.flatMap f) (List.getElem?_set_self hlt) ht hT hsz hx hy hR (hE.flat l2) (hE.cells l2) hb h63 ?_
  intro a' cap' w' h2
  rw [ajk]at h2
  exact fin a' cap' w' h2
 |none=>
  obtain⟨h1,_⟩:=hH.res _ (List.mem_of_getElem? hk)
  have h1':l=[]∧cap=0:=by
   rcases h1 with⟨_,h2,h3,_⟩|⟨g,cur,h2,_⟩
   ·exact⟨h2,h3⟩
   ·cases h2
  obtain⟨rfl,rfl⟩:=h1'
  have hnil:Hp w0 S (L.set k (row (.slice none 0 0) e sz 0 [])) w:=hH.change k _ _ hk rfl rfl rfl (zam _) (fun _ _ _=>rfl) ⟨by simp,.inl ⟨rfl,rfl⟩⟩ (fun b hb=>by simp [row,zaQ]at hb)
  cases a with
  |none=>
   refine w_append hnil k none ax 0 0 l2.length cx e sz by_ [] (l2.flatMap f) (List.getElem?_set_self hlt) ht hT hsz hx hy hR (hE.flat l2) (hE.cells l2) (by simpa using hb) (by simpa using h63) ?_
   intro a' cap' w' h2
   rw [ajk]at h2
   exact fin a' cap' w' (by simpa using h2)
  |some p=>
   obtain⟨i,z,hi,hz,hs,hbb,hzs⟩:=hT.parts
   subst hs
   subst hbb
   by_cases hm:l2=[]
   ·subst hm
    have hfirst:(Builtin.firstCells i.size 0 (.slice ax 0 cx)).run P w=.ok #[] w:=by
     cases ax with
     |none=>simp [Builtin.firstCells]
     |some p=>simp [Builtin.firstCells,loadCells,loadCellsFrom]
    have hrun:(Builtin.append_ #[t,t] ty #[.slice (some p) 0 0,.slice ax 0 cx]).run P w=.ok (.slice (some p) 0 0) w:=by
     simp [Builtin.append_,run_underlying ht,sizeOf,typeInfo,hi,Builtin.lenOf,hfirst,storeCells]
    refine aht (w':=w) rfl rfl ?_ (h none (some p) 0 w ?_)
    ·have hy':evn n F y=.slice ax 0 cx:=hy
     have hx':evn n F x=.slice (some p) 0 0:=hx
     simp [execOp,resolve,invoke,builtin,hx',hy',hrun]
    ·have e:L.set k (rwt f e i.size none (some p) 0 ([]++[]))=L:=by
      apply List.ext_getElem?
      intro j
      by_cases hjk:j=k
      ·subst hjk;simp [hlt,hk]
       have:=hk
       rw [List.getElem?_eq_getElem hlt]at this
       exact(Option.some.inj this).symm
      ·rw [List.getElem?_set_ne (fun e=>hjk e.symm)]
     rw [e];exact hH
   ·have hpos:0<l2.length:=List.length_pos_iff.2 hm
    cases ax with
    |none=>
     have:l2.flatMap f=[]:=by
      cases hq:l2.flatMap f with
      |nil=>rfl
      |cons u us=>obtain⟨p,hp,_⟩:=hR 0 u (by rw [hq];rfl);cases hp
     have:=hE.flat l2
     rename_i h0
     rw [h0]at this
     have:=Nat.mul_pos hpos hsz
     simp at*
     omega
    |some q=>
     have hnews:∀j u,(l2.flatMap f)[j]? =some u→w.cell? (q.add j)=some u:=by
      intro j u hu
      obtain⟨q',hq,hc⟩:=hR j u hu
      simp at hq
      subst hq
      exact hc
     have hgrow:=run_append_grow (P:=P) w t ty e i z ht hi hz p 0 0 [] (by simp) (fun j u hu=>by simp at hu) q l2.length cx (l2.flatMap f) (hE.flat l2) hnews (by omega) (by simp at h63⊢;omega) (growslice_fits (by omega) (by simpa using hb))
     have hgn:=run_append_nil (P:=P) w t ty e i z ht hi hz q l2.length cx (l2.flatMap f) (hE.flat l2) hnews (by omega) (by simp at h63⊢;omega) (by simp at hb;omega)
     have hsame:(Builtin.append_ #[t,t] ty #[.slice (some p) 0 0,.slice (some q) l2.length cx]).run P w=(Builtin.append_ #[t,t] ty #[.slice none 0 0,.slice (some q) l2.length cx]).run P w:=by
      rw [hgn,hgrow];simp
     obtain⟨a',cap',w',hr,ho,hg,hn⟩:=run_app (P:=P) (ty:=ty) (cx:=cx) t ht hT hsz (hnil.ownsRow (k:=k) (List.getElem?_set_self hlt)) hR (hE.flat l2) (hE.cells l2) (by unfold maxLen;simp at h63⊢;omega) (by simpa using hb)
     have h2:=hnil.grown (k:=k) (List.getElem?_set_self hlt) hg ho hn
     rw [ajk]at h2
     have h3:=fin a' cap' w' (by simpa using h2)
     refine aht (w':=w') rfl rfl ?_ (by simpa using h3)
     have hx':evn n F x=.slice (some p) 0 0:=hx
     rw [←hsame]at hr
     simp [execOp,resolve,invoke,builtin,hx',hy,hr]
theorem w_makeT{x y:Operand}{t:TypeId}(hH:Hp w0 S L w)(e sz by_:Nat)(kl kc:IntKind)(c:Int)(ht:P.underlying t=some (.slice e))(hT:TI P e sz by_)(hby:0<by_)(hx:evn n F x=.int kl 0)(hy:evn n F y=.int kc c)
  (hb:0≤c∧(by_:Int)*c≤281474976710656)
  (h:∀o a cap w',Hp w0 S (rwt f e sz o a cap []::L) w'→W P n ops Q rest (upd F d (.slice a 0 cap)) w'):
  W P n ops Q (⟨some d,.makeSlice t x y,ty,pos,after,none⟩::rest) F w:=by
 have hc:c≤9223372036854775807:=by
  have h1:(1:Int)*c≤by_*c:=Int.mul_le_mul_of_nonneg_right (by omega) hb.1
  omega
 refine w_make0 hH e sz by_ kl kc c ht hT hx hy hb.1 hb.2 hc ?_
 intro a cap w' h1
 obtain⟨o,h2⟩:=h1.rowrw (f:=f) (l:=([]:List α)) 0 rfl
 exact h o a cap w' h2
theorem x_ixT{x ix:Operand}{t:TypeId}(a:Option Addr)(m c e sz:Nat)(q:IntKind)(i:Int)(ht:P.underlying t=some (.slice e))(hs:(sizeOf e).run P w=.ok sz w)(hx:evn n F x=.slice a m c)(hi:evn n F ix=.int q i)
  (l:List α) (hn:m=l.length) (hb:0≤i∧i<(l.length:Int)) (hR:Rd w a (l.flatMap f)) (hE:Enc f sz) (hsz:0<sz):
  (execOp (evn n F) (⟨some d,.indexAddr t x ix,ty,pos,after,none⟩:Oper)).run P w=.ok (.value (.pointer (some (ea a (i.toNat*sz))))) w:=by
 subst hn
 refine x_ixa a l.length c e sz q i ht hs hx hi hb (hR.some_ ?_)
 rw [hE.flat]
 exact Nat.mul_pos (by omega) hsz
theorem w_ixT{x ix:Operand}{t:TypeId}(a:Option Addr)(m c e sz:Nat)(q:IntKind)(i:Int)(ht:P.underlying t=some (.slice e))(hs:(sizeOf e).run P w=.ok sz w)(hx:evn n F x=.slice a m c)(hi:evn n F ix=.int q i)
  (l:List α) (hn:m=l.length) (hb:0≤i∧i<(l.length:Int)) (hR:Rd w a (l.flatMap f)) (hE:Enc f sz) (hsz:0<sz) (h:W P n ops Q rest (upd F d (.pointer (some (ea a (i.toNat*sz))))) w):
  W P n ops Q (⟨some d,.indexAddr t x ix,ty,pos,after,none⟩::rest) F w:=aht rfl rfl (x_ixT a m c e sz q i ht hs hx hi l hn hb hR hE hsz) h
theorem x_ldE[Inhabited α]{x:Operand}{t:TypeId}(a:Option Addr)(f:α→List Value)(l:List α)(sz:Nat)(i:Int)(hE:Enc f sz)(hR:Rd w a (l.flatMap f))(vs:List Value)(hb:0≤i∧i<(l.length:Int))(hv:f (el l i)=vs)
  (hx:evn n F x=.pointer (some (ea a (i.toNat*sz)))) (ha:(isAgg t).run P w=.ok true w) (hs:(sizeOf t).run P w=.ok sz w) (hsz:0<sz):
  (execOp (evn n F) (⟨some d,.load t x,ty,pos,after,none⟩:Oper)).run P w=.ok (.value (.agg vs.toArray)) w:=
 x_rdN a (l.flatMap f) vs (i.toNat*sz) sz hR (by rw [flat_at f sz hE.len l i hb,hv]) (by rw [←hv];exact hE.len _) hsz hx ha hs
theorem w_ldE[Inhabited α]{x:Operand}{t:TypeId}(a:Option Addr)(f:α→List Value)(l:List α)(sz:Nat)(i:Int)(hE:Enc f sz)(hR:Rd w a (l.flatMap f))(vs:List Value)(hb:0≤i∧i<(l.length:Int))(hv:f (el l i)=vs)
  (hx:evn n F x=.pointer (some (ea a (i.toNat*sz)))) (ha:(isAgg t).run P w=.ok true w) (hs:(sizeOf t).run P w=.ok sz w) (hsz:0<sz) (h:W P n ops Q rest (upd F d (.agg vs.toArray)) w):
  W P n ops Q (⟨some d,.load t x,ty,pos,after,none⟩::rest) F w:=aht rfl rfl (x_ldE a f l sz i hE hR vs hb hv hx ha hs hsz) h
theorem x_ldF[Inhabited α]{x:Operand}{t:TypeId}(a:Option Addr)(f:α→List Value)(l:List α)(sz:Nat)(i:Int)(off:Nat)(hE:Enc f sz)(hR:Rd w a (l.flatMap f))(v:Value)(hb:0≤i∧i<(l.length:Int))(ho:off<sz)(hv:(f (el l i))[off]? =some v)
  (hx:evn n F x=.pointer (some (ea a (i.toNat*sz+off)))) (ha:(isAgg t).run P w=.ok false w):
  (execOp (evn n F) (⟨some d,.load t x,ty,pos,after,none⟩:Oper)).run P w=.ok (.value v) w:=
 x_rd1 a (l.flatMap f) (i.toNat*sz+off) v hR (flat_get f sz off hE.len l i v hb ho hv) hx ha
theorem w_stB{x y:Operand}{t:TypeId}(hH:Hp w0 S L w)(k:Nat)(a:Option Addr)(m cap:Nat)(i:Int)(l:List UInt8)(c:UInt8)(hk:L[k]? =some (brow (.slice a m cap) m l))(hb:0≤i∧i<(l.length:Int))
  (hx:evn n F x=.pointer (some (ea a (i.toNat*1)))) (hy:evn n F y=bt c) (hs:(sizeOf t).run P w=.ok 1 w)
  (h:∀w',Hp w0 S (L.set k (brow (.slice a m cap) m (l.set i.toNat c))) w'→W P n ops Q rest F w'):W P n ops Q (⟨none,.store t x y,ty,pos,after,none⟩::rest) F w:=
 w_stbrow hH k a m cap (i.toNat*1) l c hk (by have:=hH.browlen k hk;omega) hx hy hs (by simpa using h)
theorem bt_inj{a b:UInt8}:((a.toNat:Int)=(b.toNat:Int))↔a=b:=by
 constructor
 ·intro h;exact UInt8.toNat_inj.1 (by omega)
 ·intro h;rw [h]
theorem x8_eql{x y:Operand}{t t':TypeId}(a b:UInt8)(hx:evn n F x=bt a)(hy:evn n F y=bt b):(execOp (evn n F) (⟨some d,.binOp .eql t x y t',ty,pos,after,none⟩:Oper)).run P w=.ok (.value (.bool (decide (a=b)))) w:=by
 rw [x_eql .u8 _ _ hx hy];congr 3;exact decide_eq_decide.2 bt_inj
theorem x8_neq{x y:Operand}{t t':TypeId}(a b:UInt8)(hx:evn n F x=bt a)(hy:evn n F y=bt b):(execOp (evn n F) (⟨some d,.binOp .neq t x y t',ty,pos,after,none⟩:Oper)).run P w=.ok (.value (.bool (!decide (a=b)))) w:=by
 rw [x_neq .u8 _ _ hx hy];congr 4;exact decide_eq_decide.2 bt_inj
theorem x8_lss{x y:Operand}{t t':TypeId}(a b:UInt8)(hx:evn n F x=bt a)(hy:evn n F y=bt b):(execOp (evn n F) (⟨some d,.binOp .lss t x y t',ty,pos,after,none⟩:Oper)).run P w=.ok (.value (.bool (decide (a<b)))) w:=by
 rw [x_lss .u8 _ _ hx hy];congr 3;exact decide_eq_decide.2 (by rw [zbd];omega)
theorem x8_leq{x y:Operand}{t t':TypeId}(a b:UInt8)(hx:evn n F x=bt a)(hy:evn n F y=bt b):(execOp (evn n F) (⟨some d,.binOp .leq t x y t',ty,pos,after,none⟩:Oper)).run P w=.ok (.value (.bool (decide (a≤b)))) w:=by
 rw [x_leq .u8 _ _ hx hy];congr 3;exact decide_eq_decide.2 (by rw [UInt8.le_iff_toNat_le];omega)
theorem x8_gtr{x y:Operand}{t t':TypeId}(a b:UInt8)(hx:evn n F x=bt a)(hy:evn n F y=bt b):(execOp (evn n F) (⟨some d,.binOp .gtr t x y t',ty,pos,after,none⟩:Oper)).run P w=.ok (.value (.bool (decide (b<a)))) w:=by
 rw [x_gtr .u8 _ _ hx hy];congr 3;exact decide_eq_decide.2 (by rw [zbd];omega)
theorem x8_geq{x y:Operand}{t t':TypeId}(a b:UInt8)(hx:evn n F x=bt a)(hy:evn n F y=bt b):(execOp (evn n F) (⟨some d,.binOp .geq t x y t',ty,pos,after,none⟩:Oper)).run P w=.ok (.value (.bool (decide (b≤a)))) w:=by
 rw [x_geq .u8 _ _ hx hy];congr 3;exact decide_eq_decide.2 (by rw [UInt8.le_iff_toNat_le];omega)
theorem x8_add{x y:Operand}{t t':TypeId}(a b:UInt8)(hx:evn n F x=bt a)(hy:evn n F y=bt b):(execOp (evn n F) (⟨some d,.binOp .add t x y t',ty,pos,after,none⟩:Oper)).run P w=.ok (.value (bt (a+b))) w:=by
 rw [x_add .u8 _ _ hx hy];unfold bt;rw [UInt8.toNat_add,IntKind.wrap_u8];congr 3
theorem x8_sub{x y:Operand}{t t':TypeId}(a b:UInt8)(hx:evn n F x=bt a)(hy:evn n F y=bt b):(execOp (evn n F) (⟨some d,.binOp .sub t x y t',ty,pos,after,none⟩:Oper)).run P w=.ok (.value (bt (a-b))) w:=by
 rw [x_sub .u8 _ _ hx hy];unfold bt;rw [UInt8.toNat_sub,IntKind.wrap_u8];congr 3;have:=zbk a;have:=zbk b;omega
theorem x8_mul{x y:Operand}{t t':TypeId}(a b:UInt8)(hx:evn n F x=bt a)(hy:evn n F y=bt b):(execOp (evn n F) (⟨some d,.binOp .mul t x y t',ty,pos,after,none⟩:Oper)).run P w=.ok (.value (bt (a*b))) w:=by
 rw [x_mul .u8 _ _ hx hy];unfold bt;rw [UInt8.toNat_mul,IntKind.wrap_u8];congr 3
theorem ofInt_u8(a:UInt8):BitVec.ofInt 8 (a.toNat:Int)=a.toBitVec:=by
 apply BitVec.eq_of_toNat_eq
 have:=zbk a
 simp
theorem x8_and{x y:Operand}{t t':TypeId}(a b:UInt8)(hx:evn n F x=bt a)(hy:evn n F y=bt b):(execOp (evn n F) (⟨some d,.binOp .and t x y t',ty,pos,after,none⟩:Oper)).run P w=.ok (.value (bt (a&&&b))) w:=by
 rw [x_and .u8 _ _ hx hy];unfold bt andI;congr 3
 show IntKind.u8.wrap ((BitVec.ofInt 8 (a.toNat:Int)&&&BitVec.ofInt 8 (b.toNat:Int)).toNat:Int)=_
 rw [ofInt_u8,ofInt_u8,IntKind.wrap_u8]
 have:(a&&&b).toNat=(a.toBitVec&&&b.toBitVec).toNat:=rfl
 have:=zbk (a&&&b)
 omega
theorem x8_or{x y:Operand}{t t':TypeId}(a b:UInt8)(hx:evn n F x=bt a)(hy:evn n F y=bt b):(execOp (evn n F) (⟨some d,.binOp .or t x y t',ty,pos,after,none⟩:Oper)).run P w=.ok (.value (bt (a|||b))) w:=by
 rw [x_or .u8 _ _ hx hy];unfold bt orI;congr 3
 show IntKind.u8.wrap ((BitVec.ofInt 8 (a.toNat:Int)|||BitVec.ofInt 8 (b.toNat:Int)).toNat:Int)=_
 rw [ofInt_u8,ofInt_u8,IntKind.wrap_u8]
 have:(a|||b).toNat=(a.toBitVec|||b.toBitVec).toNat:=rfl
 have:=zbk (a|||b)
 omega
def shr8(c:UInt8)(i:Int):UInt8:=zbi (c.toNat/2^(min i.toNat 8))
def shl8(c:UInt8)(i:Int):UInt8:=zbi (c.toNat*2^(min i.toNat 8))
def u8i(i:Int):UInt8:=zbi (i%256).toNat
theorem x8_shr{x y:Operand}{t t':TypeId}(k:IntKind)(a:UInt8)(b:Int)(hx:evn n F x=bt a)(hy:evn n F y=.int k b)(h0:0≤b):(execOp (evn n F) (⟨some d,.binOp .shr t x y t',ty,pos,after,none⟩:Oper)).run P w=.ok (.value (bt (shr8 a b))) w:=by
 have hp:(0:Int)<2^(min b.toNat IntKind.u8.bits):=Int.pow_pos (by decide)
 rw [x_shr .u8 k _ b _ hx hy h0 rfl hp]
 unfold bt shr8
 congr 3
 show(a.toNat:Int)/2^(min b.toNat 8)=_
 have h1:=zbk a
 have h2:a.toNat/2^(min b.toNat 8)≤a.toNat:=Nat.div_le_self _ _
 rw [UInt8.toNat_ofNat',Nat.mod_eq_of_lt (by omega)]
 simp
theorem x8_shl{x y:Operand}{t t':TypeId}(k:IntKind)(a:UInt8)(b:Int)(hx:evn n F x=bt a)(hy:evn n F y=.int k b)(h0:0≤b):(execOp (evn n F) (⟨some d,.binOp .shl t x y t',ty,pos,after,none⟩:Oper)).run P w=.ok (.value (bt (shl8 a b))) w:=by
 rw [x_shl .u8 k _ b _ hx hy h0 rfl]
 unfold bt shl8
 congr 3
theorem x_toU8{x:Operand}{s t:TypeId}(k:IntKind)(a:Int)(hs:P.underlying s=some (.int k))(ht:P.underlying t=some (.int .u8))(hx:evn n F x=.int k a):(execOp (evn n F) (⟨some d,.convert s t x,ty,pos,after,none⟩:Oper)).run P w=.ok (.value (bt (u8i a))) w:=by
 rw [x_conv .u8 k a hs ht hx];unfold bt u8i;rw [IntKind.wrap_u8];congr 3
 have h1:0≤a%256:=Int.emod_nonneg _ (by decide)
 have h2:a%256<256:=Int.emod_lt_of_pos _ (by decide)
 rw [UInt8.toNat_ofNat',Nat.mod_eq_of_lt (by omega)];omega
theorem w8_eql{x y:Operand}{t t':TypeId}(a b:UInt8)(hx:evn n F x=bt a)(hy:evn n F y=bt b)(h:W P n ops Q rest (upd F d (.bool (decide (a=b)))) w):W P n ops Q (⟨some d,.binOp .eql t x y t',ty,pos,after,none⟩::rest) F w:=aht rfl rfl (x8_eql a b hx hy) h
theorem w8_neq{x y:Operand}{t t':TypeId}(a b:UInt8)(hx:evn n F x=bt a)(hy:evn n F y=bt b)(h:W P n ops Q rest (upd F d (.bool (!decide (a=b)))) w):W P n ops Q (⟨some d,.binOp .neq t x y t',ty,pos,after,none⟩::rest) F w:=aht rfl rfl (x8_neq a b hx hy) h
theorem w_toU8{x:Operand}{s t:TypeId}(k:IntKind)(a:Int)(hs:P.underlying s=some (.int k))(ht:P.underlying t=some (.int .u8))(hx:evn n F x=.int k a)(h:W P n ops Q rest (upd F d (bt (u8i a))) w):W P n ops Q (⟨some d,.convert s t x,ty,pos,after,none⟩::rest) F w:=aht rfl rfl (x_toU8 k a hs ht hx) h
theorem wrap_u8_i64(c:UInt8):zae .i64 (c.toNat:Int)=c.toNat:=by rw [IntKind.wrap_i64];have:=zbk c;omega
theorem x_quoT{x y:Operand}{t t':TypeId}(a b:Int)(hx:evn n F x=.int .i64 a)(hy:evn n F y=.int .i64 b)(g:0≤a∧0<b∧aap a):(execOp (evn n F) (⟨some d,.binOp .quo t x y t',ty,pos,after,none⟩:Oper)).run P w=.ok (.value (.int .i64 (a/b))) w:=
 x_quo .i64 a b hx hy g.1 g.2.1 (axz (by have:=Int.ediv_nonneg g.1 (Int.le_of_lt g.2.1);omega) (by have:=Int.ediv_le_self b g.1;have:=g.2.2.2;omega))
theorem x_remT{x y:Operand}{t t':TypeId}(a b:Int)(hx:evn n F x=.int .i64 a)(hy:evn n F y=.int .i64 b)(g:0≤a∧0<b∧aap a):(execOp (evn n F) (⟨some d,.binOp .rem t x y t',ty,pos,after,none⟩:Oper)).run P w=.ok (.value (.int .i64 (a%b))) w:=
 x_rem .i64 a b hx hy g.1 g.2.1 (axz (by have:=Int.emod_nonneg a (show b≠0 by omega);omega) (by have:=Int.emod_nonneg a (show b≠0 by omega);have:a%b≤a:=(by rw [Int.emod_def];have:=Int.mul_nonneg (Int.le_of_lt g.2.1) (Int.ediv_nonneg g.1 (Int.le_of_lt g.2.1));omega);have:=g.2.2.2;omega))
end
theorem Hp.rwcap{w0 w:World}{S:List Nat}{L:List Res}{α:Type}{f:α→List Value}{e sz cap:Nat}{o:Option Nat}{a:Option Addr}{l:List α}(h:Hp w0 S L w)(k:Nat)(hk:L[k]? =some (rwt f e sz o a cap l)):l.length≤cap:=by
 obtain⟨h1,_⟩:=h.res _ (List.mem_of_getElem? hk)
 rcases h1 with⟨_,rfl,rfl,_⟩|⟨g,cur,_,_,_,h2,_⟩
 ·exact zam _
 ·exact h2
section
variable {P : Program} {n : Md} {ops : Array Oper} {Q : Exit → Act → World → Prop} {F : Nat → Value} {w w0 : World} {S : List Nat} {L : List Res}
variable {d : Nat} {ty : TypeId} {pos : String} {after : Array Edge} {rest : List Oper} {α : Type} {f : α → List Value}
theorem elem_of{t e:TypeId}(ht:P.underlying t=some (.slice e)):P.elem t=e:=by simp [Program.elem,ht]
theorem x_slTo{x hi:Operand}{t:TypeId}(a:Option Addr)(m c e sz:Nat)(k:IntKind)(j:Int)(ht:P.underlying t=some (.slice e))(hs:(sizeOf e).run P w=.ok sz w)(hx:evn n F x=.slice a m c)(hhi:evn n F hi=.int k j)(l:List α)(hn:m=l.length)
  (hb:0≤j∧j≤(l.length:Int)) (hc:m≤c):(execOp (evn n F) (⟨some d,.slice t x none (some hi) none,ty,pos,after,none⟩:Oper)).run P w=.ok (.value (.slice a j.toNat c)) w:=by
 have he:=elem_of ht
 have ht':P.underlying t=some (.slice (P.elem t)):=by rw [he];exact ht
 have e1:=run_slice_h (P:=P) w t a m c ht' k j hb.1 (by omega)
 rw [he,hs]at e1
 simp only [execOp,hx,hhi,Sem.run_bind,zaP,Option.map_none,run_sliceAt_slice w t _ _ _ _ ht',e1,Result.andThen_ok,sliced]
 simp
 intro _
 cases a<;>simp [Addr.add]
theorem w_slTo{x hi:Operand}{t:TypeId}(a:Option Addr)(m c e sz:Nat)(k:IntKind)(j:Int)(ht:P.underlying t=some (.slice e))(hs:(sizeOf e).run P w=.ok sz w)(hx:evn n F x=.slice a m c)(hhi:evn n F hi=.int k j)(l:List α)(hn:m=l.length)
  (hb:0≤j∧j≤(l.length:Int)) (hc:m≤c) (h:W P n ops Q rest (upd F d (.slice a j.toNat c)) w):W P n ops Q (⟨some d,.slice t x none (some hi) none,ty,pos,after,none⟩::rest) F w:=
 aht rfl rfl (x_slTo a m c e sz k j ht hs hx hhi l hn hb hc) h
def slF(a:Option Addr)(cap lo sz:Nat):Option Addr:=if cap=lo then a else a.map (·.add (lo*sz))
theorem x_slFrom{x lo:Operand}{t:TypeId}(a:Option Addr)(m c e sz:Nat)(k:IntKind)(j:Int)(ht:P.underlying t=some (.slice e))(hs:(sizeOf e).run P w=.ok sz w)(hx:evn n F x=.slice a m c)(hlo:evn n F lo=.int k j)(l:List α)(hn:m=l.length)
  (hb:0≤j∧j≤(l.length:Int)):(execOp (evn n F) (⟨some d,.slice t x (some lo) none none,ty,pos,after,none⟩:Oper)).run P w=.ok (.value (.slice (slF a c j.toNat sz) (m-j.toNat) (c-j.toNat))) w:=by
 have he:=elem_of ht
 have ht':P.underlying t=some (.slice (P.elem t)):=by rw [he];exact ht
 have e1:=run_slice_l (P:=P) w t a m c ht' k j hb.1 (by omega)
 rw [he,hs]at e1
 simp only [execOp,hx,hlo,Sem.run_bind,zaP,Option.map_none,run_sliceAt_slice w t _ _ _ _ ht',e1,Result.andThen_ok,sliced,slF,Sem.run_pure]
theorem w_slFrom{x lo:Operand}{t:TypeId}(a:Option Addr)(m c e sz:Nat)(k:IntKind)(j:Int)(ht:P.underlying t=some (.slice e))(hs:(sizeOf e).run P w=.ok sz w)(hx:evn n F x=.slice a m c)(hlo:evn n F lo=.int k j)(l:List α)(hn:m=l.length)
  (hb:0≤j∧j≤(l.length:Int)) (h:W P n ops Q rest (upd F d (.slice (slF a c j.toNat sz) (m-j.toNat) (c-j.toNat))) w):W P n ops Q (⟨some d,.slice t x (some lo) none none,ty,pos,after,none⟩::rest) F w:=
 aht rfl rfl (x_slFrom a m c e sz k j ht hs hx hlo l hn hb) h
theorem x_ixA[Inhabited α]{x ix:Operand}{t e:TypeId}(f:α→List Value)(l:List α)(m:Nat)(k:IntKind)(i:Int)(cs:List Value)(v:Value)(hl:l.map f=cs.map (fun c=>[c]))(ht:P.underlying t=some (.array m e))(hm:l.length=m)(ha:(isAgg e).run P w=.ok false w)(hs:(sizeOf e).run P w=.ok 1 w)
  (hx:evn n F x=.agg cs.toArray) (hi:evn n F ix=.int k i) (hv:f (el l i)=[v]) (hb:0≤i∧i<(l.length:Int)):(execOp (evn n F) (⟨some d,.index t x ix,ty,pos,after,none⟩:Oper)).run P w=.ok (.value v) w:=by
 have h1:i.toNat<l.length:=by omega
 have h2:(cs.map (fun c=>[c]))[i.toNat]? =some [v]:=by rw [←hl,List.getElem?_map,List.getElem?_eq_getElem h1];simp only [zaP];rw [←hv];simp [el,h1]
 have h3:cs[i.toNat]? =some v:=by
  rw [List.getElem?_map]at h2
  cases hc:cs[i.toNat]? with
  |none=>rw [hc]at h2;simp at h2
  |some c=>rw [hc]at h2;simp at h2;rw [h2]
 have hb':0≤i∧i<(m:Int):=by omega
 simp [execOp,hx,hi,Instr.index,asIntOf,run_underlying ht,hb',hs,part,ha,h3]
theorem eqi_str{w:World}(d:Nat){t:TypeId}(a b:Str)(h:P.underlying t=some .string):(Op.equalIn (d+1) t (str a) (str b)).run P w=.ok (decide (a=b)) w:=by
 have e:((⟨a.toArray⟩:ByteArray).toList==(⟨b.toArray⟩:ByteArray).toList)=decide (a=b):=by rw [ByteArray.toList_eq,ByteArray.toList_eq,Bool.eq_iff_iff];simp
 unfold str
 rw [run_equalIn_string w d t _ _ h,e]
def EqF(P:Program)(w:World)(xs ys:List Value):List Field→List Bool→Prop
 |[],[]=>True
 | f :: fs, b :: bs => f.name ≠ "_" ∧ (∃ u v, (part f.type xs.toArray f.offset).run P w = .ok u w ∧ (part f.type ys.toArray f.offset).run P w = .ok v w ∧ ∀ d, (Op.equalIn (d + 1) f.type u v).run P w = .ok b w) ∧ EqF P w xs ys fs bs
 |_,_=>False
theorem eqF_run{w:World}{xs ys:List Value}(d:Nat):∀(fs:List Field) (bs:List Bool),EqF P w xs ys fs bs→(Op.eqFields (d+1) xs.toArray ys.toArray fs).run P w=.ok (bs.all id) w
 |[],[],_=>rfl
 |[],_::_,h=>h.elim
 |_::_,[],h=>h.elim
 |f::fs,b::bs,⟨h1,⟨u,v,h2,h3,h4⟩,h5⟩=>by
  have ih:=eqF_run d fs bs h5
  simp only [Op.eqFields,h1,ne_eq,not_false_eq_true,if_true,Sem.run_bind,h2,h3,h4 d,Result.andThen_ok]
  cases b with
  |true=>simpa using ih
  |false=>simp
theorem x_aggneq{x y:Operand}{t t':TypeId}{fs:List Field}(xs ys:List Value)(bs:List Bool)(r:Bool)(ht:P.underlying t=some (.struct fs.toArray))(hp:P.stoodInHeld t=false)(hm:P.eqGuardType P.depth t=false)(hx:evn n F x=.agg xs.toArray)(hy:evn n F y=.agg ys.toArray)
  (hf:EqF P w xs ys fs bs) (hr:bs.all id=r):(execOp (evn n F) (⟨some d,.binOp .neq t x y t',ty,pos,after,none⟩:Oper)).run P w=.ok (.value (.bool (!r))) w:=by
 have hfs:P.fieldsOf t=fs.toArray:=by simp [Program.fieldsOf,ht]
 have h1:=run_equalIn_agg (P:=P) w 9999 t xs.toArray ys.toArray (by rw [hfs];exact ht) hp
 rw [hfs]at h1
 have h2:=eqF_run 9998 fs bs hf
 simp only [execOp,hx,hy,Sem.run_bind,run_eqGuard_agg w .neq t x y _ _ hm,Result.andThen_ok,run_neq_struct,h1,h2,hr]
 simp
theorem w_aggneq{x y:Operand}{t t':TypeId}{fs:List Field}(xs ys:List Value)(bs:List Bool)(r:Bool)(ht:P.underlying t=some (.struct fs.toArray))(hp:P.stoodInHeld t=false)(hm:P.eqGuardType P.depth t=false)(hx:evn n F x=.agg xs.toArray)(hy:evn n F y=.agg ys.toArray)
  (hf:EqF P w xs ys fs bs) (hr:bs.all id=r) (h:W P n ops Q rest (upd F d (.bool (!r))) w):W P n ops Q (⟨some d,.binOp .neq t x y t',ty,pos,after,none⟩::rest) F w:=aht rfl rfl (x_aggneq xs ys bs r ht hp hm hx hy hf hr) h
end
theorem Rd.bytes{w:World}{a:Option Addr}{l:List UInt8}(h:Rd w a (l.flatMap eB)):Rd w a (l.map bt):=flat_eB l▸h
theorem Rd.ofbytes{w:World}{a:Option Addr}{l:List UInt8}(h:Rd w a (l.map bt)):Rd w a (l.flatMap eB):=(flat_eB l).symm▸h
theorem Rd.takeT{w:World}{a:Option Addr}{α:Type}{f:α→List Value}{sz:Nat}{l:List α}(hE:Enc f sz)(m:Nat)(h:Rd w a (l.flatMap f)):Rd w a ((l.take m).flatMap f):=by
 have e:(l.take m).flatMap f=(l.flatMap f).take ((l.take m).length*sz):=by
  have:l.flatMap f=(l.take m).flatMap f++(l.drop m).flatMap f:=by rw [←zbp,zbs]
  rw [this,←hE.flat (l.take m),List.take_left]
 rw [e];exact h.take _
theorem Rd.hpN{w0 w:World}{S:List Nat}{L:List Res}{a:Option Addr}{xs:List Value}(h:Rd w0 a xs)(hH:Hp w0 S L w)(hne:xs≠[]→∀p,a=some p→p.block∉S):Rd w a xs:=by
 cases xs with
 |nil=>exact Rd.nil _ _
 |cons x xs=>exact h.hpS hH (hne (by simp))
theorem Rd.dropT{w:World}{a:Option Addr}{α:Type}{f:α→List Value}{sz:Nat}{l:List α}(hE:Enc f sz)(cap k:Nat)(hc:l.length≤cap)(h:Rd w a (l.flatMap f)):Rd w (slF a cap k sz) ((l.drop k).flatMap f):=by
 unfold slF
 split
 ·rename_i e
  rw [zaI (by omega)]
  exact Rd.nil _ _
 ·rw [←flat_drop f sz hE.len l k]
  cases a with
  |none=>
   intro j v hv
   rw [List.getElem?_drop]at hv
   obtain⟨p,hp,_⟩:=h _ v hv
   cases hp
  |some p=>exact h.drop (k*sz)
end Go.Wk
namespace Go.Px
open Go.Wk
def aae(c:UInt8):Bool:=c==32||c==9
def abf(c:UInt8):Bool:=(decide (c<32)&&c !=9)||c==127
def azd(c:UInt8):Bool:=(decide (97≤c)&&decide (c≤122))||(decide (65≤c)&&decide (c≤90))
def aby(c:UInt8):Bool:=decide (48≤c)&&decide (c≤57)
def aaq(c:UInt8):Bool:=azd c||aby c||c==45||c==46||c==33||c==37||c==42||c==95||c==43||c==39||c==126||c==96
def aft(c:UInt8):UInt8:=if 65≤c∧c≤90 then c+32 else c
def alj(p:UInt8→Bool):List UInt8→Nat
 |[]=>0
 |c::l=>if p c then alj p l+1 else 0
def anj(i:Int)(n:Nat):Nat:=(min (max i 0) (n:Int)).toNat
def aai(p:UInt8→Bool)(s:List UInt8)(i:Int):Nat:=anj i s.length+alj p (s.drop (anj i s.length))
theorem arw(p:UInt8→Bool):∀l,alj p l≤l.length
 |[]=>Nat.le_refl _
 |c::l=>by simp only [alj];have:=arw p l;split<;>simp<;>omega
theorem clampN_le(i:Int)(n:Nat):anj i n≤n:=by unfold anj;omega
theorem abg(p:UInt8→Bool)(s:List UInt8)(i:Int):aai p s i≤s.length:=by
 unfold aai
 have h1:=arw p (s.drop (anj i s.length));have h2:=clampN_le i s.length
 simp at h1;omega
theorem asl(k n:Nat)(h:k≤n):anj (k:Int) n=k:=by unfold anj;omega
theorem aln(s:List UInt8)(k:Nat)(h:k<s.length):s.drop k=at_ s k::s.drop (k+1):=by
 rw [List.drop_eq_getElem_cons h];simp [at_,h]
theorem skipL_stop(p:UInt8→Bool)(s:List UInt8)(k:Nat)(h:k<s.length)(hp:p (at_ s k)=false):aai p s (k:Int)=k:=by
 unfold aai
 rw [asl k _ (by omega)]
 have hd:=aln s k h
 rw [hd];simp only [alj,hp];simp
theorem skipL_end(p:UInt8→Bool)(s:List UInt8):aai p s (s.length:Int)=s.length:=by
 unfold aai
 rw [asl _ _ (Nat.le_refl _)]
 simp [alj]
theorem aaz(p:UInt8→Prop)(h:∀i:Fin 256,p (UInt8.ofFin i)):∀c,p c:=fun c=>h c.toFin
set_option maxRecDepth 10000
theorem digitB_iff(c:UInt8):aby c=true↔48≤(c.toNat:Int)∧(c.toNat:Int)≤57:=by revert c;exact aaz _ (by decide)
def asi(c:UInt8):Bool:=decide (32≤c)&&decide (c≤126)
theorem span_eq_iff(p:UInt8→Bool):∀l,alj p l=l.length↔l.all p=true
 |[]=>by simp [alj]
 |c::l=>by
  have h1:=span_eq_iff p l
  have h2:=arw p l
  simp only [alj,List.length_cons,List.all_cons,Bool.and_eq_true]
  split
  ·rename_i hp;simp [hp,h1]
  ·rename_i hp;simp [hp]
def aef(s:List UInt8):Nat:=s.foldl (fun n c=>10*n+(c.toNat-48)) 0
theorem ato(s:List UInt8)(c:UInt8):aef (s++[c])=10*aef s+(c.toNat-48):=by simp [aef,List.foldl_append]
theorem take_snoc(s:List UInt8)(k:Nat)(h:k<s.length):s.take (k+1)=s.take k++[at_ s k]:=by
 rw [List.take_succ_eq_append_getElem h];simp [at_,h]
theorem decVal_lt:∀(n:Nat) (s:List UInt8),s.length≤n→s.all aby=true→aef s<10^n:=by
 intro n
 induction n with
 |zero=>intro s hs _;have:s=[]:=List.eq_nil_of_length_eq_zero (by omega);subst this;decide
 |succ n ih=>
  intro s hs ha
  rcases List.eq_nil_or_concat s with rfl|⟨l,c,rfl⟩
  ·simp [aef];exact Nat.pow_pos (by omega)
  ·simp only [List.concat_eq_append]at*
   rw [ato]
   rw [List.all_append]at ha
   simp only [Bool.and_eq_true,List.all_cons,List.all_nil,Bool.and_true]at ha
   have h1:=ih l (by simp at hs;omega) ha.1
   have h2:=(digitB_iff c).1 ha.2
   rw [Nat.pow_succ];omega
def aab(s:List UInt8):List UInt8:=s.map aft
def qstep(c:UInt8):List UInt8:=if c=34∨c=92 then [92,c]else [c]
def ixb(p:UInt8→Bool):List UInt8→Int
 |[]=> -1
 |b::l=>if p b then 0 else if ixb p l= -1 then-1 else ixb p l+1
theorem ixb_ge(p:UInt8→Bool):∀l,-1≤ixb p l
 |[]=>by simp [ixb]
 |b::l=>by have:=ixb_ge p l;unfold ixb;split;(·omega);(·split<;>omega)
theorem ixb_span(p:UInt8→Bool):∀l,ixb p l=if alj (fun c=> !p c) l=l.length then(-1:Int)else(alj (fun c=> !p c) l:Int)
 |[]=>by simp [ixb,alj]
 |b::l=>by
  have ih:=ixb_span p l
  have hle:=arw (fun c=> !p c) l
  unfold ixb alj
  cases hp:p b
  ·simp only [Bool.not_false,if_true,Bool.false_eq_true,if_false,List.length_cons]
   rw [ih]
   by_cases h:alj (fun c=> !p c) l=l.length
   ·rw [if_pos h,if_pos rfl,if_pos (by omega)]
   ·rw [if_neg h,if_neg (by omega),if_neg (by omega)];omega
  ·simp
theorem ixb_spec(p:UInt8→Bool)(l:List UInt8):(ixb p l= -1∧alj (fun c=> !p c) l=l.length)∨(0≤ixb p l∧ixb p l<(l.length:Int)∧ixb p l=(alj (fun c=> !p c) l:Int)):=by
 have:=arw (fun c=> !p c) l
 rw [ixb_span]
 split
 ·exact .inl ⟨rfl,by assumption⟩
 ·exact .inr ⟨by omega,by omega,rfl⟩
theorem indexByte_ixb(c:UInt8):∀l,Lib.indexByte l c=ixb (·==c) l
 |[]=>rfl
 |b::l=>by unfold Lib.indexByte ixb;rw [indexByte_ixb c l];simp
theorem axa(cs:List UInt8):∀l,Lib.indexAny l cs=ixb (cs.contains ·) l
 |[]=>rfl
 |b::l=>by unfold Lib.indexAny ixb;rw [axa cs l];simp
def lixb(p:UInt8→Bool):List UInt8→Int
 |[]=> -1
 |b::l=>if lixb p l= -1 then(if p b then 0 else-1)else lixb p l+1
theorem lixb_snoc(p:UInt8→Bool)(b:UInt8):∀l:List UInt8,lixb p (l++[b])=if p b then(l.length:Int)else lixb p l
 |[]=>by simp [lixb]
 |a::l=>by
  rw [List.cons_append,lixb,lixb_snoc p b l]
  cases hp:p b
  ·simp [lixb]
  ·simp
theorem lastIdx_lixb(s:List UInt8)(c:UInt8):∀k:Nat,k≤s.length→Lib.lastIdx ⟨s.toArray⟩ (c.toNat:Int) k=lixb (·==c) (s.take k)
 |0,_=>by simp [Lib.lastIdx,lixb]
 |k+1,h=>by
  rw [take_snoc s k (by omega),lixb_snoc,Lib.lastIdx,lastIdx_lixb s c k (by omega)]
  have e:(⟨s.toArray⟩:ByteArray).data[k]! =at_ s k:=by simp [at_,show k<s.length by omega]
  rw [e]
  by_cases hc:at_ s k=c
  ·rw [if_pos (by rw [hc]),if_pos (by simp [hc])];simp;omega
  ·rw [if_neg (fun h=>hc (UInt8.toNat_inj.1 (by omega))),if_neg (by simpa using hc)]
theorem lastIndexByte_lixb(s:List UInt8)(c:UInt8):Lib.lastIndexByte ⟨s.toArray⟩ (c.toNat:Int)=lixb (·==c) s:=by
 unfold Lib.lastIndexByte
 have:=lastIdx_lixb s c s.length (Nat.le_refl _)
 rw [List.take_length]at this
 exact this
theorem cut_len(s t:List UInt8):(Lib.cut s t).1.length≤s.length∧(Lib.cut s t).2.1.length≤s.length:=by
 unfold Lib.cut;split<;>simp<;>omega
theorem trimPrefix_len(s t:List UInt8):(Lib.trimPrefix s t).length≤s.length:=by unfold Lib.trimPrefix;split<;>simp
theorem azp(p:UInt8→Bool)(l:List UInt8):(l.dropWhile p).length≤l.length:=(List.dropWhile_suffix p).length_le
theorem trimLeftS_len(s t:List UInt8):(Lib.trimLeftS s t).length≤s.length:=azp _ _
theorem ajd(l:List UInt8)(i j:Int):(sub l i j).length=min (j.toNat-i.toNat) (l.length-i.toNat):=by simp [sub]
theorem hp_grow{w:World}(k:Nat)(os:Array Obj):Hp w [] [] (Sort.grow (w.drewN k) os):=Hp.ofBelow ⟨rfl,rfl,rfl,by simp [Sort.grow,World.drewN],fun k hk=>by
 have:k<w.heap.size:=hk
 show(w.heap++os)[k]? =w.heap[k]?
 rw [Array.getElem?_append_left this]⟩
abbrev Pce:=Int×List UInt8
abbrev Prm:=List UInt8×List UInt8×Bool
section
variable (s : List UInt8) (sep : UInt8) (f k b : Nat) (acc : List Pce)
end
open Go.Wk
def unresL:List UInt8:=[45,95,46,33,126,42,39,40,41]
def classL(k:Int):List UInt8:=if k=0 then [38,61,43,36,44,59,63,47]else if k=1 then [91,93,47,58,38,43,36]else if k=2 then [91,93,47,63,58,43,36]else []
def aoa(l:List UInt8)(c:UInt8):Bool:=l.any (·==c)
def inC(c:UInt8)(k:Int):Bool:=azd c||aby c||aoa unresL c||aoa (classL k) c
theorem ixb_has(l:List UInt8)(c:UInt8):(0≤ixb (·==c) l)↔aoa l c=true:=by
 induction l with
 |nil=>simp [ixb,aoa]
 |cons b l ih=>
  have h:=ixb_ge (·==c) l
  unfold ixb aoa
  rw [List.any_cons]
  by_cases hb:(b==c)=true
  ·simp [hb]
  ·rw [if_neg hb]
   simp only [hb,Bool.false_or]
   unfold aoa at ih
   rw [←ih]
   split<;>omega
theorem ixb_has_dec(l:List UInt8)(c:UInt8):decide (0≤ixb (·==c) l)=aoa l c:=by rw [Bool.eq_iff_iff,decide_eq_true_eq,ixb_has]
def hexB(c:UInt8):Bool:=aby c||decide (97≤(c.toNat:Int)∧(c.toNat:Int)≤102)||decide (65≤(c.toNat:Int)∧(c.toNat:Int)≤70)
section
variable (s : List UInt8) (f k : Nat) (acc : List UInt8)
end
def hexU(n:Int):UInt8:=at_ [48,49,50,51,52,53,54,55,56,57,65,66,67,68,69,70] n
def escC(k:Int)(c:UInt8):List UInt8:=if inC c k then [c]else [37,hexU ((c.toNat:Int)/16),hexU ((c.toNat:Int)%16)]
def escP(s:List UInt8)(k:Int):List UInt8:=s.flatMap (escC k)
abbrev lowP(s:List UInt8):List UInt8:=s.map aft
def getP(l:List Prm)(name:List UInt8):List UInt8×Bool:=match l.find? (fun p=>lowP p.1==lowP name)with|some p=>(p.2.1,true)|none=>([],false)
theorem el_nat{α:Type}[Inhabited α](l:List α)(k:Nat)(h:k<l.length):el l (k:Int)=l[k]:=by simp [el,h]
theorem take_snoc'{α:Type}[Inhabited α](l:List α)(k:Nat)(h:k<l.length):l.take (k+1)=l.take k++[el l (k:Int)]:=by
 rw [List.take_succ_eq_append_getElem h,el_nat l k h]
end Go.Px
def _root_.Go.Wk.loopF{σ ρ:Type}(f:(σ→Option ρ)→σ→Option ρ):Nat→σ→Option ρ
 |0,_=>none
 |n+1,v=>f (Go.Wk.loopF f n) v
namespace Go.Px
open Go.Wk
def spl(c:UInt8):List UInt8→List (List UInt8)
 |[]=>[[]]
 |b::l=>if b=c then []::spl c l else match spl c l with|x::r=>(b::x)::r|[]=>[[b]]
theorem spl_ne(c:UInt8):∀l,spl c l≠[]
 |[]=>by simp [spl]
 |b::l=>by unfold spl;split;simp;split<;>simp
theorem splitK_spl(c:UInt8):∀(s:List UInt8) (k:Nat),s.count c≤k→Lib.splitK [c] 0 k s=spl c s
 |[],k,_=>by cases k<;>simp [Lib.splitK,Lib.index,spl]
 |b::l,k,h=>by
  by_cases hb:b=c
  ·subst hb
   obtain⟨k,rfl⟩:∃j,k=j+1:=⟨k-1,by simp at h;omega⟩
   have ih:=splitK_spl b l k (by simp at h;omega)
   simp [Lib.splitK,Lib.index,spl,ih]
  ·have hc:(b::l).count c=l.count c:=by simp [List.count_cons,hb]
   rw [hc]at h
   have ih:=splitK_spl c l k h
   unfold spl
   rw [if_neg hb,←ih]
   cases k with
   |zero=>simp [Lib.splitK]
   |succ k=>
    have hi:Lib.index (b::l) [c]=if Lib.index l [c]== -1 then-1 else Lib.index l [c]+1:=by
     conv=>lhs;unfold Lib.index
     rw [if_neg (by simp;exact fun h=>hb h.symm)]
    have hg:=Lib.index_ge l [c]
    unfold Lib.splitK
    rw [hi]
    by_cases h1:Lib.index l [c]= -1
    ·simp [h1]
    ·have h2:¬(Lib.index l [c]+1)= -1:=by omega
     have h3:(Lib.index l [c]+1).toNat=(Lib.index l [c]).toNat+1:=by omega
     simp [h1,h2,h3]
theorem split_spl(s:List UInt8)(c:UInt8):(Lib.splitB ⟨#[c]⟩ 0 (Lib.countB ⟨s.toArray⟩ ⟨#[c]⟩) ⟨s.toArray⟩).map Value.string=(spl c s).map str:=by
 have h:=Lib.splitB_data ⟨#[c]⟩ 0 (Lib.countB ⟨s.toArray⟩ ⟨#[c]⟩) ⟨s.toArray⟩
 have e:Lib.splitK [c] 0 (Lib.countB ⟨s.toArray⟩ ⟨#[c]⟩) s=spl c s:=splitK_spl c s _ (Nat.le_of_eq (Lib.count_one c s).symm)
 have h':(Lib.splitB ⟨#[c]⟩ 0 (Lib.countB ⟨s.toArray⟩ ⟨#[c]⟩) ⟨s.toArray⟩).map (·.data.toList)=spl c s:=h.trans e
 rw [←h',List.map_map]
 refine List.map_congr_left fun x _=> ?_
 rfl
theorem split_spl_len(s:List UInt8)(c:UInt8):Lib.countB ⟨s.toArray⟩ ⟨#[c]⟩+1=(spl c s).length:=by
 have:∀s:List UInt8,s.count c+1=(spl c s).length:=by
  intro s
  induction s with
  |nil=>rfl
  |cons b l ih=>
   unfold spl
   by_cases hb:b=c
   ·subst hb;simp;omega
   ·rw [if_neg hb]
    have hc:(b::l).count c=l.count c:=by simp [List.count_cons,hb]
    rw [hc,ih]
    split
    ·rename_i h;rw [h];simp
    ·rename_i h;exact absurd h (spl_ne c l)
 show Lib.count s [c]+1=_
 rw [Lib.count_one,this]
theorem ayy(c:UInt8):∀s:List UInt8,(spl c s).length≤s.length+1∧∀x∈spl c s,x.length≤s.length
 |[]=>by simp [spl]
 |b::l=>by
  have ih:=ayy c l
  unfold spl
  split
  ·simp;exact⟨ih.1,fun x hx=>by have:=ih.2 x hx;omega⟩
  ·split
   ·rename_i x r h
    rw [h]at ih
    simp at ih⊢
    exact⟨by omega,by omega,fun a ha=>by have:=ih.2.2 a ha;omega⟩
   ·simp
theorem row_strs{w:World}(a:Addr)(xs:List (List UInt8))(h:Rd w (some a) (xs.map str)):∀(j:Nat) x,(xs.map fun l=>(⟨l.toArray⟩:ByteArray))[j]? =some x→w.cell? (a.add j)=some (.string x):=by
 intro j x hx
 simp only [List.getElem?_map,Option.map_eq_some_iff]at hx
 obtain⟨l,hl,rfl⟩:=hx
 obtain⟨p,e,hc⟩:=h j (str l) (by simp [hl])
 cases e
 exact hc
theorem rd_spot{w:World}{p:Addr}{v:Value}(h:w.cell? p=some v):p.spot=none:=by
 unfold World.cell? at h
 split at h
 ·by_cases hs:p.spot.isSome=true
  ·simp [hs]at h
  ·simpa using hs
 ·simp at h
theorem asf(sep:List UInt8)(m:Nat):∀xs:List (List UInt8),(∀x∈xs,x.length≤m)→(Lib.join xs sep).length≤xs.length*(m+sep.length)
 |[],_=>by simp [Lib.join_nil]
 |x::r,h=>by
  rw [Lib.join_cons]
  have hr:(Lib.joinTail sep r).length≤r.length*(m+sep.length):=by
   have hr':∀y∈r,y.length≤m:=fun y hy=>h y (List.mem_cons_of_mem _ hy)
   clear h
   induction r with
   |nil=>simp [Lib.joinTail]
   |cons y r ih=>
    have:=ih (fun z hz=>hr' z (List.mem_cons_of_mem _ hz))
    have hy:=hr' y (by simp)
    simp only [Lib.joinTail,List.map_cons,List.flatten_cons,List.length_append,List.length_cons,Nat.add_mul,Nat.one_mul]at*
    omega
  have hx:=h x (by simp)
  rw [List.length_append,List.length_cons,Nat.add_mul,Nat.one_mul]
  omega
def aob(g:List UInt8):Bool:=decide (1≤g.length)&&decide (g.length≤4)&&g.all hexB
def aum(g:List UInt8):List UInt8:=if Lib.trimLeftS (lowP g) [48]=[]then [48]else Lib.trimLeftS (lowP g) [48]
theorem grpN_len(g:List UInt8)(h:aob g=true):(aum g).length≤4:=by
 unfold aob at h
 simp only [Bool.and_eq_true,decide_eq_true_eq]at h
 unfold aum
 split
 ·simp
 ·have:=trimLeftS_len (lowP g) [48];simp at this;omega
def afq(s:List UInt8):List (List UInt8)×Bool:=if(spl 58 s).all aob then((spl 58 s).map aum,true)else([],false)
theorem aym(s:List UInt8):(afq s).1.length≤s.length+1∧∀x∈(afq s).1,x.length≤4:=by
 have h:=ayy 58 s
 unfold afq
 split
 ·rename_i ha
  refine⟨by simp;exact h.1,fun x hx=> ?_⟩
  simp at hx
  obtain⟨y,hy,rfl⟩:=hx
  exact grpN_len y (List.all_eq_true.1 ha y hy)
 ·simp
theorem el_app{α:Type}[Inhabited α](a b:List α)(k:Nat)(h:a.length=k):el (a++b) (k:Int)=el b 0:=by
 subst h;simp only [el,Int.toNat_natCast,List.getD_eq_getElem?_getD];rw [List.getElem?_append_right (Nat.le_refl _)];simp
theorem el_drop0{α:Type}[Inhabited α](l:List α)(k:Nat):el (l.drop k) 0=el l (k:Int):=by simp [el]
def axb(X:List (List UInt8))(k:Nat):List (List UInt8):=List.map aum (List.take k X)++List.drop k X
theorem grpMix_len(X:List (List UInt8))(k:Nat)(h:k≤X.length):(axb X k).length=X.length:=by simp [axb];omega
theorem grpMix_zero(X:List (List UInt8)):axb X 0=X:=by simp [axb]
theorem grpMix_all(X:List (List UInt8)):axb X X.length=X.map aum:=by simp [axb]
theorem grp_step(X:List (List UInt8))(k:Nat)(v:List UInt8)(h:k<X.length)(hv:v=aum (el X (k:Int))):
  axb X (k+1)=List.set (axb X k) (k:Int).toNat v:=by
 unfold axb
 have hl:(List.map aum (List.take k X)).length=k:=by simp;omega
 rw [Int.toNat_natCast,List.set_append_right _ _ (by omega),hl,Nat.sub_self,take_snoc' X k h,hv]
 rw [List.drop_eq_getElem_cons h]
 simp only [List.map_append,List.map_cons,List.map_nil,List.append_assoc,List.cons_append,List.nil_append,List.set_cons_zero]
theorem grp_el(X:List (List UInt8))(k:Nat)(h:k<X.length):el (axb X k) (k:Int)=el X (k:Int):=by
 unfold axb
 rw [el_app _ _ k (by simp;omega),el_drop0]
theorem grpN_zero(g:List UInt8)(h:Lib.trimLeftS (g.map aft) [48]=[]):[48]=aum g:=by unfold aum;rw [if_pos h]
theorem grpN_else(g:List UInt8)(h:¬Lib.trimLeftS (g.map aft) [48]=[]):Lib.trimLeftS (g.map aft) [48]=aum g:=by unfold aum;rw [if_neg h]
theorem grpOk_no1(g:List UInt8)(h:(g.length:Int)<1∨4<(g.length:Int)):aob g=false:=by
 unfold aob
 rcases h with h|h
 ·rw [show decide (1≤g.length)=false by(rw [decide_eq_false_iff_not];omega)];rfl
 ·rw [show decide (g.length≤4)=false by(rw [decide_eq_false_iff_not];omega)];simp
theorem grpOk_no2(g:List UInt8)(h:g.all hexB=false):aob g=false:=by unfold aob;rw [h];simp
theorem grpOk_yes(g:List UInt8)(h1:¬(g.length:Int)<1)(h2:¬4<(g.length:Int))(h:g.all hexB=true):aob g=true:=by
 unfold aob;rw [h,show decide (1≤g.length)=true by(rw [decide_eq_true_eq];omega),show decide (g.length≤4)=true by(rw [decide_eq_true_eq];omega)];rfl
theorem all_take_snoc'{α:Type}[Inhabited α](p:α→Bool)(s:List α)(k:Nat)(h:k<s.length)(ha:(s.take k).all p=true)(hc:p (el s (k:Int))=true):(s.take (k+1)).all p=true:=by
 rw [take_snoc' s k h,List.all_append,ha];simpa using hc
theorem all_false_at'{α:Type}[Inhabited α](p:α→Bool)(s:List α)(k:Nat)(h:k<s.length)(hc:p (el s (k:Int))=false):s.all p=false:=by
 rw [Bool.eq_false_iff];intro ha
 have:=List.all_eq_true.1 ha (el s (k:Int)) (by simp [el,h])
 rw [this]at hc;cases hc
theorem grpList_no(s:List UInt8)(h:(spl 58 s).all aob=false):afq s=([],false):=by unfold afq;rw [h];rfl
theorem grpList_yes(s:List UInt8)(h:(spl 58 s).all aob=true):afq s=((spl 58 s).map aum,true):=by unfold afq;rw [h];rfl
theorem join_grp(s:List UInt8)(h:s.length≤1000000000):(Lib.join (afq s).1 [58]).length≤100000000000:=by
 have h1:=aym s
 have h2:=asf [58] 4 (afq s).1 h1.2
 simp at h2;omega
def afz(x:List UInt8):List (List UInt8)×Bool:=if x=[]then([],true)else afq x
theorem grpL0_nil(x:List UInt8)(h:x=[]):afz x=([],true):=by unfold afz;rw [if_pos h]
theorem ayn(x:List UInt8)(h:¬x=[]):afz x=afq x:=by unfold afz;rw [if_neg h]
def asy(s:List UInt8):List UInt8×Bool:=
 if 39<s.length then([],false)
 else if(Lib.cut s [58,58]).2.2=false then(Lib.join (afq s).1 [58],(afq s).2&&decide (((afq s).1.length:Int)=8))
 else if(!(afz (Lib.cut s [58,58]).1).2|| !(afz (Lib.cut s [58,58]).2.1).2||decide (7<((afz (Lib.cut s [58,58]).1).1.length:Int)+((afz (Lib.cut s [58,58]).2.1).1.length:Int)))=true then([],false)
 else(Lib.join (afz (Lib.cut s [58,58]).1).1 [58]++[58,58]++Lib.join (afz (Lib.cut s [58,58]).2.1).1 [58],true)
def octOk(n:List UInt8):Bool:=n.all aby&& !(n==[])&&decide (aef n≤255)&&(n==Lib.itoa (aef n:Int))
def ayd(s:List UInt8):Bool:=decide (s.length≤15)&&(spl 46 s).all octOk&&decide ((spl 46 s).length=4)
theorem octOk_no1(n:List UInt8)(h:n.all aby=false):octOk n=false:=by unfold octOk;rw [h];rfl
theorem octOk_no2(n:List UInt8)(h:(n=[]∨255<(aef n:Int))∨¬n=Lib.itoa (aef n:Int)):octOk n=false:=by
 unfold octOk
 rcases h with(h|h)|h
 ·subst h;rfl
 ·rw [show decide (aef n≤255)=false by(rw [decide_eq_false_iff_not];omega)];simp
 ·rw [show(n==Lib.itoa (aef n:Int))=false by simpa using h];simp
theorem octOk_yes(n:List UInt8)(h:n.all aby=true)(h1:¬n=[])(h2:¬255<(aef n:Int))(h3:n=Lib.itoa (aef n:Int)):octOk n=true:=by
 unfold octOk
 rw [h,show decide (aef n≤255)=true by(rw [decide_eq_true_eq];omega),show(n==Lib.itoa (aef n:Int))=true by rw [beq_iff_eq];exact h3,show(n==[])=false by simpa using h1];rfl
theorem numsP_long(s:List UInt8)(h:15<(s.length:Int)):ayd s=false:=by
 unfold ayd;rw [show decide (s.length≤15)=false by(rw [decide_eq_false_iff_not];omega)];rfl
theorem numsP_no(s:List UInt8)(h:(spl 46 s).all octOk=false):ayd s=false:=by unfold ayd;rw [h];simp
theorem numsP_fin(s:List UInt8)(h0:¬15<(s.length:Int))(h:(spl 46 s).all octOk=true):ayd s=decide (((spl 46 s).length:Int)=4):=by
 unfold ayd;rw [h,show decide (s.length≤15)=true by(rw [decide_eq_true_eq];omega)]
 rw [Bool.eq_iff_iff];simp;omega
theorem el_mem'{α:Type}[Inhabited α](l:List α)(k:Nat)(h:k<l.length):el l (k:Int)∈l:=by rw [el_nat l k h];exact List.getElem_mem h
end Go.Px
namespace Go.Wk
open Go.Px
open Go.Value renaming slice → Vs, int → Vi, bool → Vb, pointer → Vp
def enamekind(x:(Str×Int)):List Value:=[(str x.1),(Vi .i64 x.2)]
def aaf(x:PQ):List Value:=[(str x.1),(str x.2.1),(Vb x.2.2)]
theorem aav:Enc aaf 3:=⟨fun _=>rfl,fun x v h=>by
 simp only [aaf,List.mem_cons,List.not_mem_nil,or_false]at h
 rcases h with h|h|h<;>subst h<;>rfl⟩
def ark:List Str:=[[67,97,108,108,45,73,68],[67,83,101,113],[77,73,77,69,45,86,101,114,115,105,111,110],[77,105,110,45,83,69],[82,65,99,107],[82,83,101,113],[87,87,87,45,65,117,116,104,101,110,116,105,99,97,116,101]]
def axc:List (Str×Int):=[([70,114,111,109],1),([84,111],1),([67,111,110,116,97,99,116],1),([82,111,117,116,101],1),([82,101,99,111,114,100,45,82,111,117,116,101],1),([80,97,116,104],1),([83,101,114,118,105,99,101,45,82,111,117,116,101],1),([82,101,102,101,114,45,84,111],1),([82,101,102,101,114,114,101,100,45,66,121],1),([82,101,112,108,121,45,84,111],1),([86,105,97],2),([67,83,101,113],3),([82,65,99,107],4),([67,111,110,116,101,110,116,45,76,101,110,103,116,104],5),([69,120,112,105,114,101,115],5),([77,97,120,45,70,111,114,119,97,114,100,115],5),([77,105,110,45,69,120,112,105,114,101,115],5),([82,83,101,113],5),([67,111,110,116,101,110,116,45,68,105,115,112,111,115,105,116,105,111,110],6),([67,111,110,116,101,110,116,45,84,121,112,101],6),([69,118,101,110,116],6),([77,105,110,45,83,69],6),([83,101,115,115,105,111,110,45,69,120,112,105,114,101,115],6),([83,117,98,115,99,114,105,112,116,105,111,110,45,83,116,97,116,101],6),([65,99,99,101,112,116],7),([65,108,108,111,119],7),([65,108,108,111,119,45,69,118,101,110,116,115],7),([80,114,111,120,121,45,82,101,113,117,105,114,101],7),([82,101,113,117,105,114,101],7),([83,117,112,112,111,114,116,101,100],7),([85,110,115,117,112,112,111,114,116,101,100],7)]
def ana:List Str:=[[38,61,43,36,44,59,63,47],[91,93,47,58,38,43,36],[91,93,47,63,58,43,36]]
end Go.Wk
set_option maxRecDepth 20000
set_option maxHeartbeats 1000000
namespace Go.Wk
open Go.Px
def akb(fu:Nat)(a0:Str):Option Str:=
 (gd (a0.length≤1000000000)<|gd (([32,9]:Str).length≤1000∧([32,9]:Str).all (fun b=>decide (b.toNat<128))=true)<|some (Lib.trimS a0 ([32,9]:Str)))
def ajz(fu:Nat)(a0:UInt8):Option Bool:=
 (((if a0=(32:UInt8)then some true else some (decide (a0=(9:UInt8))))).bind fun(v5:Bool)=>some v5)
def abz(fu:Nat)(a1:Str)(a2:Int→Option Int)(a0:Int):Option Int:=
 (((if a0<(a1.length:Int)then(gd (0≤a0∧a0<(a1.length:Int))<|((ajz fu (at_ a1 a0)).bind fun(a3:Bool)=>some a3))else some false)).bind fun(a4:Bool)=>(bif a4 then(gd (aap (a0+(1:Int)))<|(a2 (a0+(1:Int))))else some a0))
def adb(fu:Nat)(a1:Str):Nat→Int→Option Int:=fun k_ a0=>loopF (fun(g:Int→Option Int) v=>abz fu a1 (fun a0=>g a0) v) k_ a0
theorem aeh{fu:Nat}{a0:Str}{k_:Nat}{a1:Int}:adb fu a0 (k_+1) a1=abz fu a0 (adb fu a0 k_) a1:=rfl
def agy(fu:Nat)(a0:Str)(a1:Int):Option Int:=
 (((adb fu a0 fu (min (max a1 (0:Int)) (a0.length:Int)))).bind fun(a2:Int)=>some a2)
def akp(fu:Nat)(a0:Str)(a1:Int):Option Int:=
 ((agy fu a0 a1).bind fun(y1:Int)=>some y1)
def abn(fu:Nat)(a0:(Str×Int)):Option (Str×Int):=
 ((akp fu a0.1 a0.2).bind fun(y1:Int)=>some (a0.1,y1))
def ach(fu:Nat)(a0:(Str×Int)):Option Bool:=
 some (decide ((a0.1.length:Int)≤a0.2))
def aad(fu:Nat)(a0:(Str×Int))(a1:UInt8):Option Bool:=
 ((((ach fu a0).bind fun(a2:Bool)=>(bif (!a2)then(gd (0≤a0.2∧a0.2<(a0.1.length:Int))<|some (decide ((at_ a0.1 a0.2)=a1)))else some false))).bind fun(a3:Bool)=>some a3)
def ald(fu:Nat)(a0:UInt8):Option Bool:=
 (((if(32:UInt8)≤a0 then some (decide (a0≤(126:UInt8)))else some false)).bind fun(v5:Bool)=>some v5)
open Go.Lib renaming join → zar
open Sum renaming elim → zaD
def ahd(fu:Nat)(a0:UInt8):Option Bool:=
 (((if a0<(32:UInt8)then(if a0=(9:UInt8)then some (decide (a0=(127:UInt8)))else some true)else some (decide (a0=(127:UInt8))))).bind fun(v6:Bool)=>some v6)
def ahe(fu:Nat)(a1:Str)(a3:(List UInt8)→Int→Option (((List UInt8)×Int)⊕(Str×Int×UInt8)))(a2:List UInt8)(a0:Int):Option (((List UInt8)×Int)⊕(Str×Int×UInt8)):=
 (if a0<(a1.length:Int)then(gd (0≤a0∧a0<(a1.length:Int))<|(if(at_ a1 a0)=(34:UInt8)then some (.inl (a2,a0))else(if(at_ a1 a0)=(92:UInt8)then(gd (aap (a0+(1:Int)))<|(if(a0+(1:Int))=(a1.length:Int)then some (.inr (([]:Str),(a1.length:Int),(6:UInt8)))else(gd (aap (a0+(1:Int)))<|(gd (0≤(a0+(1:Int))∧(a0+(1:Int))<(a1.length:Int))<|((ald fu (at_ a1 (a0+(1:Int)))).bind fun(a4:Bool)=>(bif (!a4)then some (.inr (([]:Str),a0,(5:UInt8)))else(gd (aap (a0+(1:Int)))<|(gd (0≤(a0+(1:Int))∧(a0+(1:Int))<(a1.length:Int))<|(gd ((a2.length+([at_ a1 (a0+(1:Int))]:List UInt8).length)*1≤140737488355328)<|(gd (aap ((a0+(1:Int))+(1:Int)))<|(a3 (a2++([at_ a1 (a0+(1:Int))]:List UInt8)) ((a0+(1:Int))+(1:Int)))))))))))))else((ahd fu (at_ a1 a0)).bind fun(a5:Bool)=>(bif a5 then some (.inr (([]:Str),a0,(5:UInt8)))else(gd (0≤a0∧a0<(a1.length:Int))<|(gd ((a2.length+([at_ a1 a0]:List UInt8).length)*1≤140737488355328)<|(gd (aap (a0+(1:Int)))<|(a3 (a2++([at_ a1 a0]:List UInt8)) (a0+(1:Int)))))))))))else some (.inl (a2,a0)))
def amr(fu:Nat)(a2:Str):Nat→(List UInt8)→Int→Option (((List UInt8)×Int)⊕(Str×Int×UInt8)):=fun k_ a0 a1=>loopF (fun(g:((List UInt8)×Int)→Option (((List UInt8)×Int)⊕(Str×Int×UInt8))) v=>ahe fu a2 (fun a0 a1=>g (a0,a1)) v.1 v.2) k_ (a0,a1)
theorem aoo{fu:Nat}{a0:Str}{k_:Nat}{a1:List UInt8}{a2:Int}:amr fu a0 (k_+1) a1 a2=ahe fu a0 (amr fu a0 k_) a1 a2:=rfl
def aop(fu:Nat)(a1:Str)(a0:Int):Option (Str×Int×UInt8):=
 (((if a0<(0:Int)then some true else some (decide ((a1.length:Int)<a0)))).bind fun(v5:Bool)=>(bif v5 then some (([]:Str),(0:Int),(2:UInt8))else(((if a0=(a1.length:Int)then some true else(gd (0≤a0∧a0<(a1.length:Int))<|some (!decide ((at_ a1 a0)=(34:UInt8)))))).bind fun(a3:Bool)=>(bif a3 then some (([]:Str),a0,(5:UInt8))else(gd (aap (a0+(1:Int)))<|(((amr fu a1 fu ([]:List UInt8) (a0+(1:Int)))).bind fun(a4:(((List UInt8)×Int)⊕(Str×Int×UInt8)))=>zaD (fun(a2:((List UInt8)×Int))=>(if(a1.length:Int)≤a2.2 then some (([]:Str),(a1.length:Int),(6:UInt8))else(gd (aap (a2.2+(1:Int)))<|some (a2.1,a2.2+(1:Int),(0:UInt8))))) (fun q=>some q) a4))))))
def afi(fu:Nat)(a1:(Str×Int))(a0:AQ):Option (Int×UInt8×(Str×Int)×AQ):=
 ((aop fu a1.1 a1.2).bind fun(y1:(Str×Int×UInt8))=>(if y1.2.2=(0:UInt8)then((abn fu (a1.1,y1.2.1)).bind fun(a2:(Str×Int))=>((aad fu a2 (60:UInt8)).bind fun(a3:Bool)=>(bif (!a3)then some (a2.2,(5:UInt8),a2,(y1.1,a0.2.1,a0.2.2))else some ((0:Int),(0:UInt8),a2,(y1.1,a0.2.1,a0.2.2)))))else some (y1.2.1,y1.2.2,a1,a0)))
def anv(fu:Nat)(a0:UInt8):Option Bool:=
 (((((if(97:UInt8)≤a0 then some (decide (a0≤(122:UInt8)))else some false)).bind fun(a1:Bool)=>(bif a1 then(bif a1 then some (.inr true)else some (.inl ()))else(((if(65:UInt8)≤a0 then some (decide (a0≤(90:UInt8)))else some false)).bind fun(a2:Bool)=>(bif a2 then(bif a2 then some (.inr true)else some (.inl ()))else(if(48:UInt8)≤a0 then(if a0≤(57:UInt8)then some (.inr true)else some (.inl ()))else some (.inl ()))))))).bind fun(a3:(Unit⊕Bool))=>zaD (fun(a4:Unit)=>(if a0=(45:UInt8)then(if a0=(45:UInt8)then some true else some false)else(if a0=(46:UInt8)then(if a0=(46:UInt8)then some true else some false)else(if a0=(33:UInt8)then(if a0=(33:UInt8)then some true else some false)else(if a0=(37:UInt8)then(if a0=(37:UInt8)then some true else some false)else(if a0=(42:UInt8)then(if a0=(42:UInt8)then some true else some false)else(if a0=(95:UInt8)then(if a0=(95:UInt8)then some true else some false)else(if a0=(43:UInt8)then(if a0=(43:UInt8)then some true else some false)else(if a0=(39:UInt8)then(if a0=(39:UInt8)then some true else some false)else(if a0=(126:UInt8)then(if a0=(126:UInt8)then some true else some false)else(if a0=(96:UInt8)then some true else some false))))))))))) (fun q=>some q) a3)
def acy(fu:Nat)(a1:Str)(a2:Int→Option Int)(a0:Int):Option Int:=
 (((if a0<(a1.length:Int)then(gd (0≤a0∧a0<(a1.length:Int))<|((anv fu (at_ a1 a0)).bind fun(a3:Bool)=>some a3))else some false)).bind fun(a4:Bool)=>(bif a4 then(gd (aap (a0+(1:Int)))<|(a2 (a0+(1:Int))))else some a0))
def ada(fu:Nat)(a1:Str):Nat→Int→Option Int:=fun k_ a0=>loopF (fun(g:Int→Option Int) v=>acy fu a1 (fun a0=>g a0) v) k_ a0
theorem aiu{fu:Nat}{a0:Str}{k_:Nat}{a1:Int}:ada fu a0 (k_+1) a1=acy fu a0 (ada fu a0 k_) a1:=rfl
def aed(fu:Nat)(a0:Str)(a1:Int):Option Int:=
 (((ada fu a0 fu (min (max a1 (0:Int)) (a0.length:Int)))).bind fun(a2:Int)=>some a2)
def afo(fu:Nat)(a0:Str)(a1:Int):Option Int:=
 ((aed fu a0 a1).bind fun(y1:Int)=>some y1)
def ady(fu:Nat)(a0:(Str×Int)):Option (Str×(Str×Int)):=
 ((afo fu a0.1 a0.2).bind fun(y1:Int)=>(gd (0≤a0.2∧a0.2≤y1∧y1≤(a0.1.length:Int))<|some (sub a0.1 a0.2 y1,(a0.1,y1))))
def adp(fu:Nat)(a5:AQ)(a6:(List Str)→Str→Int→Option (((List Str)×Str×Int)⊕(Int×UInt8×(Str×Int)×AQ)))(a1:List Str)(a2:Str)(a3:Int):Option (((List Str)×Str×Int)⊕(Int×UInt8×(Str×Int)×AQ)):=
 ((aad fu (a2,a3) (60:UInt8)).bind fun(a7:Bool)=>(bif (!a7)then((ady fu (a2,a3)).bind fun(a0:(Str×(Str×Int)))=>(if a0.1=([]:Str)then some (.inr (a0.2.2,(5:UInt8),a0.2,a5))else(gd ((a1.length+([a0.1]:List Str).length)*16≤140737488355328)<|((abn fu a0.2).bind fun(a4:(Str×Int))=>(a6 (a1++([a0.1]:List Str)) a4.1 a4.2)))))else some (.inl (a1,a2,a3))))
def adv(fu:Nat)(a3:AQ):Nat→(List Str)→Str→Int→Option (((List Str)×Str×Int)⊕(Int×UInt8×(Str×Int)×AQ)):=fun k_ a0 a1 a2=>loopF (fun(g:((List Str)×Str×Int)→Option (((List Str)×Str×Int)⊕(Int×UInt8×(Str×Int)×AQ))) v=>adp fu a3 (fun a0 a1 a2=>g (a0,a1,a2)) v.1 v.2.1 v.2.2) k_ (a0,a1,a2)
theorem aku{fu:Nat}{a0:AQ}{k_:Nat}{a1:List Str}{a2:Str}{a3:Int}:adv fu a0 (k_+1) a1 a2 a3=adp fu a0 (adv fu a0 k_) a1 a2 a3:=rfl
def aco(fu:Nat)(a2:(Str×Int))(a1:AQ):Option (Int×UInt8×(Str×Int)×AQ):=
 (((adv fu a1 fu ([]:List Str) a2.1 a2.2)).bind fun(a3:(((List Str)×Str×Int)⊕(Int×UInt8×(Str×Int)×AQ)))=>zaD (fun(a0:((List Str)×Str×Int))=>(gd (a0.1.length≤1000000000∧(zar a0.1 ([32]:Str)).length≤100000000000)<|some ((0:Int),(0:UInt8),a0.2,(zar a0.1 ([32]:Str),a1.2.1,a1.2.2)))) (fun q=>some q) a3)
open Go.Lib renaming indexAny → zaX
open Int renaming toNat → zai
open List renaming drop → zaA, set → zbj
def aak(fu:Nat)(a1:Str)(a0:Int)(a2:Str):Option Int:=
 (gd (0≤a0∧a0≤(a1.length:Int))<|(gd ((zaA (zai a0) a1).length≤1000000000∧a2.length≤1000∧a2.all (fun b=>decide (b.toNat<128))=true)<|(if(0:Int)≤(zaX (zaA (zai a0) a1) a2)then(gd (aap (a0+(zaX (zaA (zai a0) a1) a2)))<|some (a0+(zaX (zaA (zai a0) a1) a2)))else some (a1.length:Int))))
def ale(fu:Nat)(a3:Str)(a2:Str→Int→Option Str)(a1:Str)(a0:Int):Option Str:=
 (if a0<(a3.length:Int)then(gd (0≤a0∧a0<(a1.length:Int))<|(gd (0≤a0∧a0<(a1.length:Int))<|(((if(65:UInt8)≤(at_ a1 a0)then some (decide ((at_ a1 a0)≤(90:UInt8)))else some false)).bind fun(a4:Bool)=>(bif a4 then(gd (0≤a0∧a0<(a1.length:Int))<|(gd (0≤a0∧a0<(a1.length:Int))<|(gd (aap (a0+(1:Int)))<|(a2 (zbj a1 (zai a0) ((at_ a1 a0)+(32:UInt8))) (a0+(1:Int))))))else(gd (aap (a0+(1:Int)))<|(a2 a1 (a0+(1:Int))))))))else some a1)
def ams(fu:Nat)(a2:Str):Nat→Str→Int→Option Str:=fun k_ a0 a1=>loopF (fun(g:(Str×Int)→Option Str) v=>ale fu a2 (fun a0 a1=>g (a0,a1)) v.1 v.2) k_ (a0,a1)
theorem auh{fu:Nat}{a0:Str}{k_:Nat}{a1:Str}{a2:Int}:ams fu a0 (k_+1) a1 a2=ale fu a0 (ams fu a0 k_) a1 a2:=rfl
def ack(fu:Nat)(a0:Str):Option Str:=
 (((ams fu a0 fu a0 (0:Int))).bind fun(a1:Str)=>some a1)
def aji(fu:Nat)(a0:UInt8):Option Bool:=
 (((if(97:UInt8)≤a0 then(if a0≤(122:UInt8)then some true else(if(65:UInt8)≤a0 then some (decide (a0≤(90:UInt8)))else some false))else(if(65:UInt8)≤a0 then some (decide (a0≤(90:UInt8)))else some false))).bind fun(v8:Bool)=>some v8)
def acw(fu:Nat)(a0:UInt8):Option Bool:=
 (((if(48:UInt8)≤a0 then some (decide (a0≤(57:UInt8)))else some false)).bind fun(v5:Bool)=>some v5)
def alw(fu:Nat)(a1:UInt8)(a0:Int):Option Bool:=
 ((((aji fu a1).bind fun(a2:Bool)=>(bif a2 then some true else((acw fu a1).bind fun(a3:Bool)=>(bif a3 then some true else some (decide ((0:Int)≤(ixb (·==a1) ([45,95,46,33,126,42,39,40,41]:Str))))))))).bind fun(a4:Bool)=>(bif a4 then some true else(((if(0:Int)≤a0 then(if a0≤(2:Int)then(gd (0≤a0∧a0<(3:Int))<|(gd (0≤a0∧a0<(ana.length:Int))<|some (decide ((0:Int)≤(ixb (·==a1) (el ana a0))))))else some false)else some false)).bind fun(a5:Bool)=>some a5)))
def adu(fu:Nat)(a0:UInt8):Option (UInt8×Bool):=
 ((acw fu a0).bind fun(y1:Bool)=>(bif y1 then some (a0-(48:UInt8),true)else(((if(97:UInt8)≤a0 then some (decide (a0≤(102:UInt8)))else some false)).bind fun(a1:Bool)=>(bif a1 then some ((a0-(97:UInt8))+(10:UInt8),true)else(((if(65:UInt8)≤a0 then some (decide (a0≤(70:UInt8)))else some false)).bind fun(a2:Bool)=>(bif a2 then some ((a0-(65:UInt8))+(10:UInt8),true)else some ((0:UInt8),false)))))))
def akd(fu:Nat)(a1:Str)(a0:Int):Option (UInt8×Bool):=
 (((gd (aap (a0+(2:Int)))<|(if(a1.length:Int)≤(a0+(2:Int))then some true else(gd (0≤a0∧a0<(a1.length:Int))<|some (!decide ((at_ a1 a0)=(37:UInt8))))))).bind fun(v7:Bool)=>(bif v7 then some ((0:UInt8),false)else(gd (aap (a0+(1:Int)))<|(gd (0≤(a0+(1:Int))∧(a0+(1:Int))<(a1.length:Int))<|((adu fu (at_ a1 (a0+(1:Int)))).bind fun(a2:(UInt8×Bool))=>(gd (aap (a0+(2:Int)))<|(gd (0≤(a0+(2:Int))∧(a0+(2:Int))<(a1.length:Int))<|((adu fu (at_ a1 (a0+(2:Int)))).bind fun(a3:(UInt8×Bool))=>(((bif a2.2 then some a3.2 else some false)).bind fun(a4:Bool)=>some ((shl8 a2.1 (4:Int))|||a3.1,a4))))))))))
def apo(fu:Nat)(a0:UInt8):Option Bool:=
 (((if a0<(32:UInt8)then(if a0=(9:UInt8)then some (decide (a0=(127:UInt8)))else some true)else some (decide (a0=(127:UInt8))))).bind fun(v6:Bool)=>some v6)
open Go.Lib renaming cut → zbe, join → zar, trimLeftS → zaS
open List renaming set → zbj, take → zaW
def adj(fu:Nat)(a1:(Str×Int))(a2:Int)(a5:Int)(a3:Int→Option (Unit⊕(Int×Bool)))(a0:Int):Option (Unit⊕(Int×Bool)):=
 (if a0<a2 then(gd (0≤a0∧a0<(a1.1.length:Int))<|((alw fu (at_ a1.1 a0) a5).bind fun(a6:Bool)=>(bif a6 then(gd (aap (a0+(1:Int)))<|(a3 (a0+(1:Int))))else(gd (0≤a2∧a2≤(a1.1.length:Int))<|((akd fu (zaW (zai a2) a1.1) a0).bind fun(a4:(UInt8×Bool))=>(((bif (!a4.2)then some true else((apo fu a4.1).bind fun(a7:Bool)=>some a7))).bind fun(a8:Bool)=>(bif a8 then some (.inr (a0,true))else(gd (aap (a0+(2:Int)))<|(gd (aap ((a0+(2:Int))+(1:Int)))<|(a3 ((a0+(2:Int))+(1:Int))))))))))))else some (.inl ()))
def afs(fu:Nat)(a1:(Str×Int))(a2:Int)(a3:Int):Nat→Int→Option (Unit⊕(Int×Bool)):=fun k_ a0=>loopF (fun(g:Int→Option (Unit⊕(Int×Bool))) v=>adj fu a1 a2 a3 (fun a0=>g a0) v) k_ a0
theorem ahp{fu:Nat}{a0:(Str×Int)}{a1:Int}{a2:Int}{k_:Nat}{a3:Int}:afs fu a0 a1 a2 (k_+1) a3=adj fu a0 a1 a2 (afs fu a0 a1 a2 k_) a3:=rfl
def adx(fu:Nat)(a0:(Str×Int))(a1:Int)(a2:Int):Option (Int×Bool):=
 (((afs fu a0 a1 a2 fu a0.2)).bind fun(a3:(Unit⊕(Int×Bool)))=>zaD (fun(a4:Unit)=>some ((0:Int),false)) (fun q=>some q) a3)
def afk(fu:Nat)(a1:Str)(a4:(List UInt8)→Int→Option ((List UInt8)⊕(Str×Int×UInt8)))(a2:List UInt8)(a0:Int):Option ((List UInt8)⊕(Str×Int×UInt8)):=
 (if a0<(a1.length:Int)then(gd (0≤a0∧a0<(a1.length:Int))<|(if(at_ a1 a0)=(37:UInt8)then((akd fu a1 a0).bind fun(a3:(UInt8×Bool))=>(bif (!a3.2)then some (.inr (([]:Str),a0,(5:UInt8)))else(gd ((a2.length+([a3.1]:List UInt8).length)*1≤140737488355328)<|(gd (aap (a0+(2:Int)))<|(gd (aap ((a0+(2:Int))+(1:Int)))<|(a4 (a2++([a3.1]:List UInt8)) ((a0+(2:Int))+(1:Int))))))))else(gd (0≤a0∧a0<(a1.length:Int))<|(gd ((a2.length+([at_ a1 a0]:List UInt8).length)*1≤140737488355328)<|(gd (aap (a0+(1:Int)))<|(a4 (a2++([at_ a1 a0]:List UInt8)) (a0+(1:Int))))))))else some (.inl a2))
def afw(fu:Nat)(a2:Str):Nat→(List UInt8)→Int→Option ((List UInt8)⊕(Str×Int×UInt8)):=fun k_ a0 a1=>loopF (fun(g:((List UInt8)×Int)→Option ((List UInt8)⊕(Str×Int×UInt8))) v=>afk fu a2 (fun a0 a1=>g (a0,a1)) v.1 v.2) k_ (a0,a1)
theorem alz{fu:Nat}{a0:Str}{k_:Nat}{a1:List UInt8}{a2:Int}:afw fu a0 (k_+1) a1 a2=afk fu a0 (afw fu a0 k_) a1 a2:=rfl
def asw(fu:Nat)(a0:Str):Option (Str×Int×UInt8):=
 (@gd _ (0≤(a0.length:Int)∧(1:Int)*(a0.length:Int)≤281474976710656) (dMk 1 (a0.length:Int))<|(((afw fu a0 fu ([]:List UInt8) (0:Int))).bind fun(a1:((List UInt8)⊕(Str×Int×UInt8)))=>zaD (fun(a2:List UInt8)=>some (a2,(0:Int),(0:UInt8))) (fun q=>some q) a1))
def aic(fu:Nat)(a0:Str):Option Str:=
 ((asw fu a0).bind fun(y1:(Str×Int×UInt8))=>some y1.1)
def aet(fu:Nat)(a1:List Str)(a2:Int)(a3:Int→Option (Unit⊕((List Str)×Bool)))(a0:Int):Option (Unit⊕((List Str)×Bool)):=
 (if a0<((el a1 a2).length:Int)then(gd (0≤a0∧a0<((el a1 a2).length:Int))<|((adu fu (at_ (el a1 a2) a0)).bind fun(a4:(UInt8×Bool))=>(bif (!a4.2)then some (.inr (([]:List Str),false))else(gd (aap (a0+(1:Int)))<|(a3 (a0+(1:Int)))))))else some (.inl ()))
def afg(fu:Nat)(a1:List Str)(a2:Int):Nat→Int→Option (Unit⊕((List Str)×Bool)):=fun k_ a0=>loopF (fun(g:Int→Option (Unit⊕((List Str)×Bool))) v=>aet fu a1 a2 (fun a0=>g a0) v) k_ a0
theorem akr{fu:Nat}{a0:List Str}{a1:Int}{k_:Nat}{a2:Int}:afg fu a0 a1 (k_+1) a2=aet fu a0 a1 (afg fu a0 a1 k_) a2:=rfl
def agx(fu:Nat)(a3:Str)(a4:(List Str)→Int→Option ((List Str)⊕((List Str)×Bool)))(a1:List Str)(a0:Int):Option ((List Str)⊕((List Str)×Bool)):=
 (if a0<((spl 58 a3).length:Int)then(((gd (0≤a0∧a0<(a1.length:Int))<|(gd (0≤a0∧a0<(a1.length:Int))<|(((if((el a1 a0).length:Int)<(1:Int)then some true else some (decide ((4:Int)<((el a1 a0).length:Int))))).bind fun(a5:Bool)=>(bif a5 then some (.inr (([]:List Str),false))else(((afg fu a1 a0 fu (0:Int))).bind fun(a6:(Unit⊕((List Str)×Bool)))=>zaD (fun(a9:Unit)=>((ack fu (el a1 a0)).bind fun(a2:Str)=>(gd (a2.length≤1000000000)<|gd (([48]:Str).length≤1000∧([48]:Str).all (fun b=>decide (b.toNat<128))=true)<|(if(zaS a2 ([48]:Str))=([]:Str)then(gd (0≤a0∧a0<(a1.length:Int))<|(gd (0≤a0∧a0<(a1.length:Int))<|some (.inl (zbj a1 (zai a0) ([48]:Str)))))else(gd (0≤a0∧a0<(a1.length:Int))<|(gd (0≤a0∧a0<(a1.length:Int))<|some (.inl (zbj a1 (zai a0) (zaS a2 ([48]:Str)))))))))) (fun q=>some (.inr q)) a6)))))).bind fun(a7:((List Str)⊕((List Str)×Bool)))=>zaD (fun(a8:List Str)=>(gd (aap (a0+(1:Int)))<|(a4 a8 (a0+(1:Int))))) (fun q=>some (.inr q)) a7)else some (.inl a1))
def ado(fu:Nat)(a2:Str):Nat→(List Str)→Int→Option ((List Str)⊕((List Str)×Bool)):=fun k_ a0 a1=>loopF (fun(g:((List Str)×Int)→Option ((List Str)⊕((List Str)×Bool))) v=>agx fu a2 (fun a0 a1=>g (a0,a1)) v.1 v.2) k_ (a0,a1)
theorem aqn{fu:Nat}{a0:Str}{k_:Nat}{a1:List Str}{a2:Int}:ado fu a0 (k_+1) a1 a2=agx fu a0 (ado fu a0 k_) a1 a2:=rfl
def aei(fu:Nat)(a0:Str):Option ((List Str)×Bool):=
 (gd (a0.length≤1000000000)<|(((ado fu a0 fu (spl 58 a0) (0:Int))).bind fun(a1:((List Str)⊕((List Str)×Bool)))=>zaD (fun(a2:List Str)=>some (a2,true)) (fun q=>some q) a1))
def aqx(fu:Nat)(a0:Str):Option (Str×Bool):=
 (if(39:Int)<(a0.length:Int)then some (([]:Str),false)else(gd (a0.length≤1000000000)<|(bif (!((zbe a0 ([58,58]:Str)).2.2))then((aei fu a0).bind fun(y7:((List Str)×Bool))=>(((gd (y7.1.length≤1000000000∧(zar y7.1 ([58]:Str)).length≤100000000000)<|(bif y7.2 then some (zar y7.1 ([58]:Str),(decide ((y7.1.length:Int)=(8:Int))))else some (zar y7.1 ([58]:Str),false)))).bind fun(a3:(Str×Bool))=>some (a3.1,a3.2)))else(((if((zbe a0 ([58,58]:Str)).1)=([]:Str)then some (([]:List Str),true)else((aei fu ((zbe a0 ([58,58]:Str)).1)).bind fun(a4:((List Str)×Bool))=>some (a4.1,a4.2)))).bind fun(a1:((List Str)×Bool))=>(((if((zbe a0 ([58,58]:Str)).2.1)=([]:Str)then some (([]:List Str),true)else((aei fu ((zbe a0 ([58,58]:Str)).2.1)).bind fun(a5:((List Str)×Bool))=>some (a5.1,a5.2)))).bind fun(a2:((List Str)×Bool))=>(((bif (!a1.2)then some true else(bif (!a2.2)then some true else(gd (aap ((a1.1.length:Int)+(a2.1.length:Int)))<|some (decide ((7:Int)<((a1.1.length:Int)+(a2.1.length:Int)))))))).bind fun(a6:Bool)=>(bif a6 then some (([]:Str),false)else(gd (a1.1.length≤1000000000∧(zar a1.1 ([58]:Str)).length≤100000000000)<|(gd ((zar a1.1 ([58]:Str)).length+([58,58]:Str).length≤9223372036854775807)<|(gd (a2.1.length≤1000000000∧(zar a2.1 ([58]:Str)).length≤100000000000)<|(gd (((zar a1.1 ([58]:Str))++([58,58]:Str)).length+(zar a2.1 ([58]:Str)).length≤9223372036854775807)<|some (((zar a1.1 ([58]:Str))++([58,58]:Str))++(zar a2.1 ([58]:Str)),true))))))))))))
def aiw(fu:Nat)(a1:Str)(a2:Int)(a4:Int→Int→Option (Int⊕Bool))(a3:Int)(a0:Int):Option (Int⊕Bool):=
 (if a0<((el (spl 46 a1) a2).length:Int)then(gd (0≤a0∧a0<((el (spl 46 a1) a2).length:Int))<|((acw fu (at_ (el (spl 46 a1) a2) a0)).bind fun(a5:Bool)=>(bif (!a5)then some (.inr false)else(gd (aap ((10:Int)*a3))<|(gd (0≤a0∧a0<((el (spl 46 a1) a2).length:Int))<|(gd (aap (((10:Int)*a3)+(((at_ (el (spl 46 a1) a2) a0)-(48:UInt8)).toNat:Int)))<|(gd (aap (a0+(1:Int)))<|(a4 (((10:Int)*a3)+(((at_ (el (spl 46 a1) a2) a0)-(48:UInt8)).toNat:Int)) (a0+(1:Int))))))))))else some (.inl a3))
def agl(fu:Nat)(a2:Str)(a3:Int):Nat→Int→Int→Option (Int⊕Bool):=fun k_ a0 a1=>loopF (fun(g:(Int×Int)→Option (Int⊕Bool)) v=>aiw fu a2 a3 (fun a0 a1=>g (a0,a1)) v.1 v.2) k_ (a0,a1)
theorem asu{fu:Nat}{a0:Str}{a1:Int}{k_:Nat}{a2:Int}{a3:Int}:agl fu a0 a1 (k_+1) a2 a3=aiw fu a0 a1 (agl fu a0 a1 k_) a2 a3:=rfl
def aix(fu:Nat)(a1:Str)(a3:Int→Option (Unit⊕Bool))(a0:Int):Option (Unit⊕Bool):=
 (if a0<((spl 46 a1).length:Int)then(((gd (0≤a0∧a0<((spl 46 a1).length:Int))<|(gd (0≤a0∧a0<((spl 46 a1).length:Int))<|(((agl fu a1 a0 fu (0:Int) (0:Int))).bind fun(a4:(Int⊕Bool))=>zaD (fun(a2:Int)=>(((if(el (spl 46 a1) a0)=([]:Str)then some true else(if(255:Int)<a2 then some true else(gd (aap a2)<|some (!decide ((el (spl 46 a1) a0)=(Lib.itoa a2))))))).bind fun(a5:Bool)=>(bif a5 then some (.inr false)else some (.inl ())))) (fun q=>some (.inr q)) a4)))).bind fun(a6:(Unit⊕Bool))=>zaD (fun(a7:Unit)=>(gd (aap (a0+(1:Int)))<|(a3 (a0+(1:Int))))) (fun q=>some (.inr q)) a6)else some (.inl ()))
def agm(fu:Nat)(a1:Str):Nat→Int→Option (Unit⊕Bool):=fun k_ a0=>loopF (fun(g:Int→Option (Unit⊕Bool)) v=>aix fu a1 (fun a0=>g a0) v) k_ a0
theorem asv{fu:Nat}{a0:Str}{k_:Nat}{a1:Int}:agm fu a0 (k_+1) a1=aix fu a0 (agm fu a0 k_) a1:=rfl
def apm(fu:Nat)(a0:Str):Option Bool:=
 (if(15:Int)<(a0.length:Int)then some false else(gd (a0.length≤1000000000)<|(((agm fu a0 fu (0:Int))).bind fun(a1:(Unit⊕Bool))=>zaD (fun(a2:Unit)=>some (decide (((spl 46 a0).length:Int)=(4:Int)))) (fun q=>some q) a1)))
def ank(fu:Nat)(a0:Str)(a1:Str)(a2:Int):Option (Str×Str×Int):=
 some (a1,a0,a2)
def anl(fu:Nat)(a0:Str)(a1:Str):Option (Str×Str×Int):=
 ((ank fu a0 a1 (0:Int)).bind fun(y1:(Str×Str×Int))=>some (y1.1,y1.2.1,y1.2.2))
open Go.Lib renaming index → zaB, trimPrefix → zaq
open List renaming drop → zaA, take → zaW
def aes(fu:Nat)(a1:Str)(a4:Bool)(a3:Int→Bool→Option ((Nat×Bool×Bool)))(a0:Int)(a2:Bool):Option ((Nat×Bool×Bool)):=
 (if a0<(a1.length:Int)then(gd (0≤a0∧a0<(a1.length:Int))<|((((aji fu (at_ a1 a0)).bind fun(a5:Bool)=>(bif (!a5)then((acw fu (at_ a1 a0)).bind fun(a6:Bool)=>(bif (!a6)then some (!decide ((at_ a1 a0)=(45:UInt8)))else some false))else some false))).bind fun(a7:Bool)=>(bif a7 then some (1,a2,false)else(bif a2 then(gd (aap (a0+(1:Int)))<|(a3 (a0+(1:Int)) true))else((acw fu (at_ a1 a0)).bind fun(a8:Bool)=>(gd (aap (a0+(1:Int)))<|(a3 (a0+(1:Int)) (!a8))))))))else some (0,a2,a4))
def abr(fu:Nat)(a2:Str)(a3:Bool):Nat→Int→Bool→Option ((Nat×Bool×Bool)):=fun k_ a0 a1=>loopF (fun(g:(Int×Bool)→Option ((Nat×Bool×Bool))) v=>aes fu a2 a3 (fun a0 a1=>g (a0,a1)) v.1 v.2) k_ (a0,a1)
theorem akq{fu:Nat}{a0:Str}{a1:Bool}{k_:Nat}{a2:Int}{a3:Bool}:abr fu a0 a1 (k_+1) a2 a3=aes fu a0 a1 (abr fu a0 a1 k_) a2 a3:=rfl
def acu(fu:Nat)(a0:Str)(a1:Bool)(a2:Bool):Option (Nat×Bool×Bool):=
 (((if(a0.length:Int)<(1:Int)then some true else(if(63:Int)<(a0.length:Int)then some true else(gd (0≤(0:Int)∧(0:Int)<(a0.length:Int))<|(if(at_ a0 (0:Int))=(45:UInt8)then some true else(gd (aap ((a0.length:Int)-(1:Int)))<|(gd (0≤((a0.length:Int)-(1:Int))∧((a0.length:Int)-(1:Int))<(a0.length:Int))<|some (decide ((at_ a0 ((a0.length:Int)-(1:Int)))=(45:UInt8)))))))))).bind fun(a3:Bool)=>(bif a3 then some (1,a1,false)else(abr fu a0 a2 fu (0:Int) a1)))
def acq(fu:Nat)(a0:Str)(a1:Option Unit):Option Unit:=
 (if(0:Int)<(a0.length:Int)then none else some ())
def abt(fu:Nat)(a0:Str):Nat→Option Unit:=fun k_=>loopF (fun(g:Unit→Option Unit) v=>acq fu a0 (g ())) k_ ()
theorem amd{fu:Nat}{a0:Str}{k_:Nat}:abt fu a0 (k_+1)=acq fu a0 (abt fu a0 k_):=rfl
def aba(fu:Nat)(a1:Str)(a3:Int)(a6:Bool→Bool→Str→Option ((Bool×Bool×Str)⊕(Bool×Bool×Str×Nat)))(a4:Bool)(a5:Bool)(a0:Str):Option ((Bool×Bool×Str)⊕(Bool×Bool×Str×Nat)):=
 (gd (a0.length≤1000000000)<|(if(zaB a0 a1)<(0:Int)then some (.inl (a4,a5,a0))else(gd (aap ((zaB a0 a1)+a3))<|(gd (0≤((zaB a0 a1)+a3)∧((zaB a0 a1)+a3)≤(a0.length:Int))<|((acu fu (zaW (zai ((zaB a0 a1)+a3)) a0) a4 a5).bind fun(a2:(Nat×Bool×Bool))=>(if a2.1=0 then(gd (aap ((zaB a0 a1)+(a1.length:Int)))<|(gd (0≤((zaB a0 a1)+(a1.length:Int))∧((zaB a0 a1)+(a1.length:Int))≤(a0.length:Int))<|(a6 a2.2.1 a2.2.2 (zaA (zai ((zaB a0 a1)+(a1.length:Int))) a0))))else some (.inr (a2.2.1,a2.2.2,a0,a2.1))))))))
def abc(fu:Nat)(a3:Str)(a4:Int):Nat→Bool→Bool→Str→Option ((Bool×Bool×Str)⊕(Bool×Bool×Str×Nat)):=fun k_ a0 a1 a2=>loopF (fun(g:(Bool×Bool×Str)→Option ((Bool×Bool×Str)⊕(Bool×Bool×Str×Nat))) v=>aba fu a3 a4 (fun a0 a1 a2=>g (a0,a1,a2)) v.1 v.2.1 v.2.2) k_ (a0,a1,a2)
theorem acm{fu:Nat}{a0:Str}{a1:Int}{k_:Nat}{a2:Bool}{a3:Bool}{a4:Str}:abc fu a0 a1 (k_+1) a2 a3 a4=aba fu a0 a1 (abc fu a0 a1 k_) a2 a3 a4:=rfl
def acd(fu:Nat)(a3:Bool)(a4:Bool)(a5:Str)(a2:Str)(a6:Int):Option (Bool×Bool×Str×Nat):=
 (((if(a5.length:Int)=(0:Int)then(((abt fu a2 fu)).bind fun(a9:Unit)=>some (.inr (a3,a4,a2,0)))else some (.inl ()))).bind fun(a7:(Unit⊕(Bool×Bool×Str×Nat)))=>zaD (fun(b0:Unit)=>(((abc fu a5 a6 fu a3 a4 a2)).bind fun(a8:((Bool×Bool×Str)⊕(Bool×Bool×Str×Nat)))=>zaD (fun(a1:(Bool×Bool×Str))=>((acu fu a1.2.2 a1.1 a1.2.1).bind fun(a0:(Nat×Bool×Bool))=>(if a0.1=0 then some (a0.2.1,a0.2.2,a1.2.2,0)else some (a0.2.1,a0.2.2,a1.2.2,a0.1)))) (fun q=>some q) a8)) (fun q=>some q) a7)
def alv(fu:Nat)(a1:Str):Option Bool:=
 (((if(a1.length:Int)<(1:Int)then some true else some (decide ((255:Int)<(a1.length:Int))))).bind fun(v8:Bool)=>(bif v8 then some false else((anl fu a1 ([46]:Str)).bind fun(a2:(Str×Str×Int))=>((acd fu false false a2.1 a2.2.1 a2.2.2).bind fun(a0:(Bool×Bool×Str×Nat))=>(if a0.2.2.2=0 then some a0.1 else(if a0.2.2.2=1 then some a0.2.1 else none))))))
def age(fu:Nat)(a0:Str):Option (Str×Bool):=
 (((if(2:Int)≤(a0.length:Int)then(gd (0≤(0:Int)∧(0:Int)<(a0.length:Int))<|(if(at_ a0 (0:Int))=(91:UInt8)then(gd (aap ((a0.length:Int)-(1:Int)))<|(gd (0≤((a0.length:Int)-(1:Int))∧((a0.length:Int)-(1:Int))<(a0.length:Int))<|some (decide ((at_ a0 ((a0.length:Int)-(1:Int)))=(93:UInt8)))))else some false))else some false)).bind fun(v9:Bool)=>(bif v9 then(gd (aap ((a0.length:Int)-(1:Int)))<|(gd (0≤(1:Int)∧(1:Int)≤((a0.length:Int)-(1:Int))∧((a0.length:Int)-(1:Int))≤(a0.length:Int))<|((aqx fu (sub a0 (1:Int) ((a0.length:Int)-(1:Int)))).bind fun(a1:(Str×Bool))=>(bif (!a1.2)then some (([]:Str),false)else(gd (([91]:Str).length+a1.1.length≤9223372036854775807)<|(gd ((([91]:Str)++a1.1).length+([93]:Str).length≤9223372036854775807)<|some ((([91]:Str)++a1.1)++([93]:Str),true)))))))else((apm fu a0).bind fun(a2:Bool)=>(bif a2 then some (a0,true)else((alv fu a0).bind fun(a3:Bool)=>(bif a3 then((ack fu a0).bind fun(a4:Str)=>some (a4,true))else some (([]:Str),false)))))))
def aiv(fu:Nat)(a1:Str)(a3:Int→Int→Option (Int⊕(Int×UInt8)))(a2:Int)(a0:Int):Option (Int⊕(Int×UInt8)):=
 (if a0<(a1.length:Int)then(((gd (0≤a0∧a0<(a1.length:Int))<|(if(at_ a1 a0)<(48:UInt8)then some true else(gd (0≤a0∧a0<(a1.length:Int))<|some (decide ((57:UInt8)<(at_ a1 a0))))))).bind fun(a4:Bool)=>(bif a4 then some (.inr ((0:Int),(5:UInt8)))else(gd (aap ((10:Int)*a2))<|(gd (0≤a0∧a0<(a1.length:Int))<|(gd (aap (((10:Int)*a2)+(((at_ a1 a0)-(48:UInt8)).toNat:Int)))<|(gd (aap (a0+(1:Int)))<|(a3 (((10:Int)*a2)+(((at_ a1 a0)-(48:UInt8)).toNat:Int)) (a0+(1:Int)))))))))else some (.inl a2))
def aka(fu:Nat)(a2:Str):Nat→Int→Int→Option (Int⊕(Int×UInt8)):=fun k_ a0 a1=>loopF (fun(g:(Int×Int)→Option (Int⊕(Int×UInt8))) v=>aiv fu a2 (fun a0 a1=>g (a0,a1)) v.1 v.2) k_ (a0,a1)
theorem apx{fu:Nat}{a0:Str}{k_:Nat}{a1:Int}{a2:Int}:aka fu a0 (k_+1) a1 a2=aiv fu a0 (aka fu a0 k_) a1 a2:=rfl
def ako(fu:Nat)(a0:Str):Option (Int×UInt8):=
 (((if(a0.length:Int)<(1:Int)then some true else some (decide ((10:Int)<(a0.length:Int))))).bind fun(v5:Bool)=>(bif v5 then some ((0:Int),(5:UInt8))else(((aka fu a0 fu (0:Int) (0:Int))).bind fun(a2:(Int⊕(Int×UInt8)))=>zaD (fun(a1:Int)=>(if(2147483647:Int)<a1 then some ((0:Int),(3:UInt8))else some (a1,(0:UInt8)))) (fun q=>some q) a2)))
def aiy(fu:Nat)(a0:(Str×Int))(a1:UQ):Option (Int×UInt8×(Str×Int)×UQ):=
 (((gd (0≤a0.2∧a0.2≤(a0.1.length:Int))<|(if(0:Int)≤(ixb (·==(64:UInt8)) (zaA (zai a0.2) a0.1))then(gd (aap (a0.2+(ixb (·==(64:UInt8)) (zaA (zai a0.2) a0.1))))<|((adx fu a0 (a0.2+(ixb (·==(64:UInt8)) (zaA (zai a0.2) a0.1))) (0:Int)).bind fun(a4:(Int×Bool))=>(bif a4.2 then(gd (0≤a4.1∧a4.1<(a0.1.length:Int))<|(if(at_ a0.1 a4.1)=(58:UInt8)then some (.inr (a4.1,(15:UInt8),a0,a1))else some (.inr (a4.1,(5:UInt8),a0,a1))))else(if(ixb (·==(64:UInt8)) (zaA (zai a0.2) a0.1))=(0:Int)then some (.inr (a0.2+(ixb (·==(64:UInt8)) (zaA (zai a0.2) a0.1)),(5:UInt8),a0,a1))else(gd (0≤a0.2∧a0.2≤(a0.2+(ixb (·==(64:UInt8)) (zaA (zai a0.2) a0.1)))∧(a0.2+(ixb (·==(64:UInt8)) (zaA (zai a0.2) a0.1)))≤(a0.1.length:Int))<|((aic fu (sub a0.1 a0.2 (a0.2+(ixb (·==(64:UInt8)) (zaA (zai a0.2) a0.1))))).bind fun(b0:Str)=>(gd (aap ((a0.2+(ixb (·==(64:UInt8)) (zaA (zai a0.2) a0.1)))+(1:Int)))<|some (.inl ((a0.2+(ixb (·==(64:UInt8)) (zaA (zai a0.2) a0.1)))+(1:Int),b0)))))))))else some (.inl (a0.2,a1.2.1))))).bind fun(b1:((Int×Str)⊕(Int×UInt8×(Str×Int)×UQ)))=>zaD (fun(a3:(Int×Str))=>((aak fu a0.1 a3.1 ([58,59,63]:Str)).bind fun(b2:Int)=>((((aad fu (a0.1,a3.1) (91:UInt8)).bind fun(b3:Bool)=>(bif b3 then((aak fu a0.1 a3.1 ([93]:Str)).bind fun(a8:Int)=>(gd (aap (a8+(1:Int)))<|some (min (a8+(1:Int)) (a0.1.length:Int))))else some b2))).bind fun(a2:Int)=>(gd (0≤a3.1∧a3.1≤a2∧a2≤(a0.1.length:Int))<|((age fu (sub a0.1 a3.1 a2)).bind fun(a5:(Str×Bool))=>(bif (!a5.2)then some (a3.1,(5:UInt8),(a0.1,a3.1),(a1.1,a3.2,a1.2.2.1,a1.2.2.2.1,a1.2.2.2.2.1,a1.2.2.2.2.2))else((aad fu (a0.1,a2) (58:UInt8)).bind fun(b4:Bool)=>(bif b4 then(gd (aap (a2+(1:Int)))<|((aak fu a0.1 (a2+(1:Int)) ([59,63]:Str)).bind fun(a7:Int)=>(gd (0≤(a2+(1:Int))∧(a2+(1:Int))≤a7∧a7≤(a0.1.length:Int))<|((ako fu (sub a0.1 (a2+(1:Int)) a7)).bind fun(a6:(Int×UInt8))=>(((((if a6.2=(0:UInt8)then(if a6.1<(1:Int)then some true else some (decide ((65535:Int)<a6.1)))else some false)).bind fun(b5:Bool)=>(bif b5 then some (3:UInt8)else some a6.2))).bind fun(a9:UInt8)=>(if a9=(0:UInt8)then some ((0:Int),(0:UInt8),(a0.1,a7),(a1.1,a3.2,a5.1,a6.1,a1.2.2.2.2.1,a1.2.2.2.2.2))else some (a2+(1:Int),a9,(a0.1,a2+(1:Int)),(a1.1,a3.2,a5.1,a1.2.2.2.1,a1.2.2.2.2.1,a1.2.2.2.2.2))))))))else((((ach fu (a0.1,a2)).bind fun(b6:Bool)=>(bif (!b6)then((aad fu (a0.1,a2) (59:UInt8)).bind fun(b7:Bool)=>(bif (!b7)then((aad fu (a0.1,a2) (63:UInt8)).bind fun(b8:Bool)=>some (!b8))else some false))else some false))).bind fun(b9:Bool)=>(bif b9 then some (a2,(5:UInt8),(a0.1,a2),(a1.1,a3.2,a5.1,a1.2.2.2.1,a1.2.2.2.2.1,a1.2.2.2.2.2))else some ((0:Int),(0:UInt8),(a0.1,a2),(a1.1,a3.2,a5.1,a1.2.2.2.1,a1.2.2.2.2.1,a1.2.2.2.2.2)))))))))))) (fun q=>some q) b1)
def aeu(fu:Nat)(a1:(Str×Int))(a4:UQ)(y1:Int)(y6:Bool)(a5:(List UInt8)→Int→Option (((List UInt8)×Int)⊕(Int×UInt8×(Str×Int)×UQ)))(a2:List UInt8)(a0:Int):Option (((List UInt8)×Int)⊕(Int×UInt8×(Str×Int)×UQ)):=
 (if a0<y1 then(((gd (0≤a0∧a0<(a1.1.length:Int))<|(((((if(48:UInt8)≤(at_ a1.1 a0)then some (decide ((at_ a1.1 a0)≤(57:UInt8)))else some false)).bind fun(a3:Bool)=>(bif a3 then some a3 else(bif (!y6)then(if(at_ a1.1 a0)=(42:UInt8)then some true else some (decide ((at_ a1.1 a0)=(35:UInt8))))else some false)))).bind fun(a6:Bool)=>(bif a6 then(gd ((a2.length+([at_ a1.1 a0]:List UInt8).length)*1≤140737488355328)<|some (.inl (a2++([at_ a1.1 a0]:List UInt8))))else(((if(at_ a1.1 a0)=(45:UInt8)then some false else(if(at_ a1.1 a0)=(46:UInt8)then some false else(if(at_ a1.1 a0)=(40:UInt8)then some false else some (!decide ((at_ a1.1 a0)=(41:UInt8))))))).bind fun(a7:Bool)=>(bif a7 then some (.inr (a0,(5:UInt8),(a1.1,a0),a4))else some (.inl a2))))))).bind fun(a8:((List UInt8)⊕(Int×UInt8×(Str×Int)×UQ)))=>zaD (fun(a9:List UInt8)=>(gd (aap (a0+(1:Int)))<|(a5 a9 (a0+(1:Int))))) (fun q=>some (.inr q)) a8)else some (.inl (a2,a0)))
def afj(fu:Nat)(a2:(Str×Int))(a3:UQ)(y1:Int)(y6:Bool):Nat→(List UInt8)→Int→Option (((List UInt8)×Int)⊕(Int×UInt8×(Str×Int)×UQ)):=fun k_ a0 a1=>loopF (fun(g:((List UInt8)×Int)→Option (((List UInt8)×Int)⊕(Int×UInt8×(Str×Int)×UQ))) v=>aeu fu a2 a3 y1 y6 (fun a0 a1=>g (a0,a1)) v.1 v.2) k_ (a0,a1)
theorem amz{fu:Nat}{a0:(Str×Int)}{a1:UQ}{y1:Int}{y6:Bool}{k_:Nat}{a2:List UInt8}{a3:Int}:afj fu a0 a1 y1 y6 (k_+1) a2 a3=aeu fu a0 a1 y1 y6 (afj fu a0 a1 y1 y6 k_) a2 a3:=rfl
def ahq(fu:Nat)(a1:(Str×Int))(a0:UQ):Option (Int×UInt8×(Str×Int)×UQ):=
 ((aak fu a1.1 a1.2 ([59]:Str)).bind fun(y1:Int)=>((aad fu a1 (43:UInt8)).bind fun(y6:Bool)=>(((bif y6 then(gd ((([]:List UInt8).length+([(43:UInt8)]:List UInt8).length)*1≤140737488355328)<|(gd (aap (a1.2+(1:Int)))<|some (([]:List UInt8)++([(43:UInt8)]:List UInt8),a1.2+(1:Int))))else some (([]:List UInt8),a1.2))).bind fun(a3:((List UInt8)×Int))=>(((afj fu a1 a0 y1 y6 fu a3.1 a3.2)).bind fun(a4:(((List UInt8)×Int)⊕(Int×UInt8×(Str×Int)×UQ)))=>zaD (fun(a2:((List UInt8)×Int))=>(if(zaq a2.1 ([43]:Str))=([]:Str)then some (a1.2,(5:UInt8),(a1.1,a2.2),(a0.1,a2.1,a0.2.2.1,a0.2.2.2.1,a0.2.2.2.2.1,a0.2.2.2.2.2))else(if(30:Int)<((zaq a2.1 ([43]:Str)).length:Int)then some (a1.2,(4:UInt8),(a1.1,a2.2),(a0.1,a2.1,a0.2.2.1,a0.2.2.2.1,a0.2.2.2.2.1,a0.2.2.2.2.2))else some ((0:Int),(0:UInt8),(a1.1,a2.2),(a0.1,a2.1,a0.2.2.1,a0.2.2.2.1,a0.2.2.2.2.1,a0.2.2.2.2.2))))) (fun q=>some q) a4))))
def apn(fu:Nat)(a0:PQ)(a1:Str):Option Bool:=
 some (decide (a0.1=a1))
open Go.Op renaming bytesLess → zaL
def aay(fu:Nat)(a1:LQ)(a2:Str)(a3:Int→Option (Unit⊕Int))(a0:Int):Option (Unit⊕Int):=
 (if a0<(a1.length:Int)then(gd (0≤a0∧a0<(a1.length:Int))<|(gd (0≤a0∧a0<(a1.length:Int))<|((apn fu ((el a1 a0).1,(el a1 a0).2.1,((el a1 a0).2.2)) a2).bind fun(a4:Bool)=>(bif a4 then some (.inr a0)else(gd (aap (a0+(1:Int)))<|(a3 (a0+(1:Int))))))))else some (.inl ()))
def abp(fu:Nat)(a1:LQ)(a2:Str):Nat→Int→Option (Unit⊕Int):=fun k_ a0=>loopF (fun(g:Int→Option (Unit⊕Int)) v=>aay fu a1 a2 (fun a0=>g a0) v) k_ a0
theorem acf{fu:Nat}{a0:LQ}{a1:Str}{k_:Nat}{a2:Int}:abp fu a0 a1 (k_+1) a2=aay fu a0 a1 (abp fu a0 a1 k_) a2:=rfl
def adc(fu:Nat)(a0:LQ)(a1:Str):Option Int:=
 (((abp fu a0 a1 fu (0:Int))).bind fun(a2:(Unit⊕Int))=>zaD (fun(a3:Unit)=>some (-1:Int)) (fun q=>some q) a2)
def acr(fu:Nat)(a0:LQ)(a1:Str):Option Bool:=
 ((adc fu a0 a1).bind fun(y1:Int)=>some (decide ((0:Int)≤y1)))
def alx(fu:Nat)(a0:LQ)(a1:Str):Option Bool:=
 ((acr fu a0 a1).bind fun(y4:Bool)=>some y4)
def anc(fu:Nat)(a0:LQ)(a1:Str):Option UInt8:=
 ((alx fu a0 a1).bind fun(y1:Bool)=>(bif y1 then some (7:UInt8)else(if(16:Int)≤(a0.length:Int)then some (4:UInt8)else some (0:UInt8))))
def afv(fu:Nat)(a0:(Str×Int))(a5:LQ)(a1:Int)(a3:Int):Option (LQ×Int×UInt8×(Str×Int)):=
 (gd (0≤a0.2∧a0.2≤a1∧a1≤(a0.1.length:Int))<|(((if(0:Int)≤(ixb (·==(61:UInt8)) (sub a0.1 a0.2 a1))then(gd (aap (a0.2+(ixb (·==(61:UInt8)) (sub a0.1 a0.2 a1))))<|some (a0.2+(ixb (·==(61:UInt8)) (sub a0.1 a0.2 a1))))else some a1)).bind fun(a2:Int)=>((adx fu a0 a2 a3).bind fun(a7:(Int×Bool))=>(bif a7.2 then some (([]:LQ),a7.1,(5:UInt8),a0)else(if a2=a0.2 then some (([]:LQ),a0.2,(5:UInt8),a0)else(gd (0≤a0.2∧a0.2≤a2∧a2≤(a0.1.length:Int))<|((aic fu (sub a0.1 a0.2 a2)).bind fun(b0:Str)=>((ack fu b0).bind fun(a6:Str)=>(((if(0:Int)≤(ixb (·==(61:UInt8)) (sub a0.1 a0.2 a1))then(gd (aap (a2+(1:Int)))<|((adx fu (a0.1,a2+(1:Int)) a1 a3).bind fun(a8:(Int×Bool))=>(bif a8.2 then some (.inr (([]:LQ),a8.1,(5:UInt8),(a0.1,a2+(1:Int))))else(((if(a2+(1:Int))=a1 then some (decide (a3=(1:Int)))else some false)).bind fun(b1:Bool)=>(bif b1 then some (.inr (([]:LQ),a1,(5:UInt8),(a0.1,a2+(1:Int))))else(gd (0≤(a2+(1:Int))∧(a2+(1:Int))≤a1∧a1≤(a0.1.length:Int))<|((aic fu (sub a0.1 (a2+(1:Int)) a1)).bind fun(b2:Str)=>some (.inl (a1,b2)))))))))else(if a3=(2:Int)then some (.inr (([]:LQ),a1,(5:UInt8),(a0.1,a1)))else some (.inl (a1,([]:Str)))))).bind fun(b3:((Int×Str)⊕(LQ×Int×UInt8×(Str×Int))))=>zaD (fun(a4:(Int×Str))=>((anc fu a5 a6).bind fun(a9:UInt8)=>(if a9=(0:UInt8)then(gd ((a5.length+([(a6,a4.2,(decide ((0:Int)≤(ixb (·==(61:UInt8)) (sub a0.1 a0.2 a1)))))]:LQ).length)*40≤140737488355328)<|some (a5++([(a6,a4.2,(decide ((0:Int)≤(ixb (·==(61:UInt8)) (sub a0.1 a0.2 a1)))))]:LQ),(0:Int),(0:UInt8),(a0.1,a4.1)))else some (([]:LQ),a0.2,a9,(a0.1,a4.1))))) (fun q=>some q) b3)))))))))
def anx(fu:Nat)(a0:Str):Option Bool:=
 some (!decide (a0=a0))
def apz(fu:Nat)(a0:Str)(a1:Str):Option Int:=
 ((anx fu a0).bind fun(y1:Bool)=>((anx fu a1).bind fun(y6:Bool)=>(bif y1 then(bif y6 then some (0:Int)else some (-1:Int))else(bif y6 then some (1:Int)else(bif (zaL a0 a1)then some (-1:Int)else(bif (!(zaL a0 a1||a0==a1))then some (1:Int)else some (0:Int)))))))
def aff(fu:Nat)(a0:PQ)(a1:PQ):Option Int:=
 ((apz fu a0.1 a1.1).bind fun(y7:Int)=>some y7)
open Go.IntKind renaming wrap → zae
def aat(fu:Nat)(a2:Int)(a3:LQ→Int→Option LQ)(a1:LQ)(a0:Int):Option LQ:=
 (((if a2<a0 then(gd (0≤a0∧a0<(a1.length:Int))<|(gd (0≤a0∧a0<(a1.length:Int))<|(gd (aap (a0-(1:Int)))<|(gd (0≤(a0-(1:Int))∧(a0-(1:Int))<(a1.length:Int))<|(gd (0≤(a0-(1:Int))∧(a0-(1:Int))<(a1.length:Int))<|((aff fu ((el a1 a0).1,(el a1 a0).2.1,((el a1 a0).2.2)) ((el a1 (a0-(1:Int))).1,(el a1 (a0-(1:Int))).2.1,((el a1 (a0-(1:Int))).2.2))).bind fun(a4:Int)=>some (decide (a4<(0:Int)))))))))else some false)).bind fun(a5:Bool)=>(bif a5 then(gd (aap (a0-(1:Int)))<|(gd (aap (a0-(1:Int)))<|(gd (0≤(a0-(1:Int))∧(a0-(1:Int))<(a1.length:Int))<|(gd (0≤(a0-(1:Int))∧(a0-(1:Int))<(a1.length:Int))<|(gd (0≤a0∧a0<(a1.length:Int))<|(gd (0≤a0∧a0<(a1.length:Int))<|(gd (0≤a0∧a0<(a1.length:Int))<|(gd (0≤a0∧a0<(a1.length:Int))<|(gd (0≤(a0-(1:Int))∧(a0-(1:Int))<((zbj a1 (zai a0) ((el a1 (a0-(1:Int))).1,(el a1 (a0-(1:Int))).2.1,((el a1 (a0-(1:Int))).2.2))).length:Int))<|(gd (0≤(a0-(1:Int))∧(a0-(1:Int))<((zbj a1 (zai a0) ((el a1 (a0-(1:Int))).1,(el a1 (a0-(1:Int))).2.1,((el a1 (a0-(1:Int))).2.2))).length:Int))<|(gd (aap (a0-(1:Int)))<|(a3 (zbj (zbj a1 (zai a0) ((el a1 (a0-(1:Int))).1,(el a1 (a0-(1:Int))).2.1,((el a1 (a0-(1:Int))).2.2))) (zai (a0-(1:Int))) ((el a1 a0).1,(el a1 a0).2.1,((el a1 a0).2.2))) (a0-(1:Int))))))))))))))else some a1))
def aaw(fu:Nat)(a2:Int):Nat→LQ→Int→Option LQ:=fun k_ a0 a1=>loopF (fun(g:(LQ×Int)→Option LQ) v=>aat fu a2 (fun a0 a1=>g (a0,a1)) v.1 v.2) k_ (a0,a1)
theorem acl{fu:Nat}{a0:Int}{k_:Nat}{a1:LQ}{a2:Int}:aaw fu a0 (k_+1) a1 a2=aat fu a0 (aaw fu a0 k_) a1 a2:=rfl
def aal(fu:Nat)(a2:Int)(a3:Int)(a4:LQ→Int→Option LQ)(a1:LQ)(a0:Int):Option LQ:=
 (if a0<a3 then(((aaw fu a2 fu a1 a0)).bind fun(a5:LQ)=>(gd (aap (a0+(1:Int)))<|(a4 a5 (a0+(1:Int)))))else some a1)
def aah(fu:Nat)(a2:Int)(a3:Int):Nat→LQ→Int→Option LQ:=fun k_ a0 a1=>loopF (fun(g:(LQ×Int)→Option LQ) v=>aal fu a2 a3 (fun a0 a1=>g (a0,a1)) v.1 v.2) k_ (a0,a1)
theorem abm{fu:Nat}{a0:Int}{a1:Int}{k_:Nat}{a2:LQ}{a3:Int}:aah fu a0 a1 (k_+1) a2 a3=aal fu a0 a1 (aah fu a0 a1 k_) a2 a3:=rfl
def aao(fu:Nat)(a1:LQ)(a0:Int)(a2:Int):Option LQ:=
 (gd (aap (a0+(1:Int)))<|(aah fu a0 a2 fu a1 (a0+(1:Int))))
def ahm(fu:Nat)(a3:Int)(a2:Int)(a4:Int)(a5:LQ→Int→Option LQ)(a1:LQ)(a0:Int):Option LQ:=
 (if a0<a4 then(gd (aap (a3+a0))<|(gd (aap (a2+a0))<|(gd (aap (a2+a0))<|(gd (0≤(a2+a0)∧(a2+a0)<(a1.length:Int))<|(gd (0≤(a2+a0)∧(a2+a0)<(a1.length:Int))<|(gd (aap (a3+a0))<|(gd (0≤(a3+a0)∧(a3+a0)<(a1.length:Int))<|(gd (0≤(a3+a0)∧(a3+a0)<(a1.length:Int))<|(gd (0≤(a3+a0)∧(a3+a0)<(a1.length:Int))<|(gd (0≤(a3+a0)∧(a3+a0)<(a1.length:Int))<|(gd (0≤(a2+a0)∧(a2+a0)<((zbj a1 (zai (a3+a0)) ((el a1 (a2+a0)).1,(el a1 (a2+a0)).2.1,((el a1 (a2+a0)).2.2))).length:Int))<|(gd (0≤(a2+a0)∧(a2+a0)<((zbj a1 (zai (a3+a0)) ((el a1 (a2+a0)).1,(el a1 (a2+a0)).2.1,((el a1 (a2+a0)).2.2))).length:Int))<|(gd (aap (a0+(1:Int)))<|(a5 (zbj (zbj a1 (zai (a3+a0)) ((el a1 (a2+a0)).1,(el a1 (a2+a0)).2.1,((el a1 (a2+a0)).2.2))) (zai (a2+a0)) ((el a1 (a3+a0)).1,(el a1 (a3+a0)).2.1,((el a1 (a3+a0)).2.2))) (a0+(1:Int))))))))))))))))else some a1)
def aia(fu:Nat)(a2:Int)(a3:Int)(a4:Int):Nat→LQ→Int→Option LQ:=fun k_ a0 a1=>loopF (fun(g:(LQ×Int)→Option LQ) v=>ahm fu a2 a3 a4 (fun a0 a1=>g (a0,a1)) v.1 v.2) k_ (a0,a1)
def abh(fu:Nat)(a0:LQ)(a1:Int)(a2:Int)(a3:Int):Option LQ:=
 (aia fu a1 a2 a3 fu a0 (0:Int))
def ajc(fu:Nat)(a2:Int)(a4:LQ→Int→Int→Option (LQ×Int))(a3:LQ)(a0:Int)(a1:Int):Option (LQ×Int):=
 (if a0=a1 then some (a3,a0)else(if a1<a0 then(gd (aap (a2-a0))<|((abh fu a3 (a2-a0) a2 a1).bind fun(a5:LQ)=>(gd (aap (a0-a1))<|(a4 a5 (a0-a1) a1))))else(gd (aap (a2-a0))<|(gd (aap (a2+a1))<|(gd (aap ((a2+a1)-a0))<|((abh fu a3 (a2-a0) ((a2+a1)-a0) a0).bind fun(a6:LQ)=>(gd (aap (a1-a0))<|(a4 a6 a0 (a1-a0)))))))))
def ajg(fu:Nat)(a3:Int):Nat→LQ→Int→Int→Option (LQ×Int):=fun k_ a0 a1 a2=>loopF (fun(g:(LQ×Int×Int)→Option (LQ×Int)) v=>ajc fu a3 (fun a0 a1 a2=>g (a0,a1,a2)) v.1 v.2.1 v.2.2) k_ (a0,a1,a2)
def aep(fu:Nat)(a4:LQ)(a2:Int)(a0:Int)(a3:Int):Option LQ:=
 (gd (aap (a0-a2))<|(gd (aap (a3-a0))<|(((ajg fu a0 fu a4 (a0-a2) (a3-a0))).bind fun(a1:(LQ×Int))=>(gd (aap (a0-a1.2))<|((abh fu a1.1 (a0-a1.2) a0 a1.2).bind fun(a5:LQ)=>some a5)))))
def ahz(fu:Nat)(a2:LQ)(a3:Int)(a4:Int→Int→Option Int)(a0:Int)(a1:Int):Option Int:=
 (if a0<a1 then(gd (aap (a0+a1))<|(gd (0≤(zae .i64 ((zae .u64 (a0+a1))/2))∧(zae .i64 ((zae .u64 (a0+a1))/2))<(a2.length:Int))<|(gd (0≤(zae .i64 ((zae .u64 (a0+a1))/2))∧(zae .i64 ((zae .u64 (a0+a1))/2))<(a2.length:Int))<|(gd (0≤a3∧a3<(a2.length:Int))<|(gd (0≤a3∧a3<(a2.length:Int))<|((aff fu ((el a2 (zae .i64 ((zae .u64 (a0+a1))/2))).1,(el a2 (zae .i64 ((zae .u64 (a0+a1))/2))).2.1,((el a2 (zae .i64 ((zae .u64 (a0+a1))/2))).2.2)) ((el a2 a3).1,(el a2 a3).2.1,((el a2 a3).2.2))).bind fun(a5:Int)=>(if a5<(0:Int)then(gd (aap ((zae .i64 ((zae .u64 (a0+a1))/2))+(1:Int)))<|(a4 ((zae .i64 ((zae .u64 (a0+a1))/2))+(1:Int)) a1))else(a4 a0 (zae .i64 ((zae .u64 (a0+a1))/2))))))))))else some a0)
def aij(fu:Nat)(a2:LQ)(a3:Int):Nat→Int→Int→Option Int:=fun k_ a0 a1=>loopF (fun(g:(Int×Int)→Option Int) v=>ahz fu a2 a3 (fun a0 a1=>g (a0,a1)) v.1 v.2) k_ (a0,a1)
def ahy(fu:Nat)(a2:Int)(a3:LQ→Int→Option LQ)(a1:LQ)(a0:Int):Option LQ:=
 (gd (aap (a2-(1:Int)))<|(if a0<(a2-(1:Int))then(gd (aap (a0+(1:Int)))<|(gd (aap (a0+(1:Int)))<|(gd (0≤(a0+(1:Int))∧(a0+(1:Int))<(a1.length:Int))<|(gd (0≤(a0+(1:Int))∧(a0+(1:Int))<(a1.length:Int))<|(gd (0≤a0∧a0<(a1.length:Int))<|(gd (0≤a0∧a0<(a1.length:Int))<|(gd (0≤a0∧a0<(a1.length:Int))<|(gd (0≤a0∧a0<(a1.length:Int))<|(gd (0≤(a0+(1:Int))∧(a0+(1:Int))<((zbj a1 (zai a0) ((el a1 (a0+(1:Int))).1,(el a1 (a0+(1:Int))).2.1,((el a1 (a0+(1:Int))).2.2))).length:Int))<|(gd (0≤(a0+(1:Int))∧(a0+(1:Int))<((zbj a1 (zai a0) ((el a1 (a0+(1:Int))).1,(el a1 (a0+(1:Int))).2.1,((el a1 (a0+(1:Int))).2.2))).length:Int))<|(gd (aap (a0+(1:Int)))<|(a3 (zbj (zbj a1 (zai a0) ((el a1 (a0+(1:Int))).1,(el a1 (a0+(1:Int))).2.1,((el a1 (a0+(1:Int))).2.2))) (zai (a0+(1:Int))) ((el a1 a0).1,(el a1 a0).2.1,((el a1 a0).2.2))) (a0+(1:Int))))))))))))))else some a1))
def aii(fu:Nat)(a2:Int):Nat→LQ→Int→Option LQ:=fun k_ a0 a1=>loopF (fun(g:(LQ×Int)→Option LQ) v=>ahy fu a2 (fun a0 a1=>g (a0,a1)) v.1 v.2) k_ (a0,a1)
def ahx(fu:Nat)(a2:LQ)(a3:Int)(a4:Int→Int→Option Int)(a0:Int)(a1:Int):Option Int:=
 (if a0<a1 then(gd (aap (a0+a1))<|(gd (0≤a3∧a3<(a2.length:Int))<|(gd (0≤a3∧a3<(a2.length:Int))<|(gd (0≤(zae .i64 ((zae .u64 (a0+a1))/2))∧(zae .i64 ((zae .u64 (a0+a1))/2))<(a2.length:Int))<|(gd (0≤(zae .i64 ((zae .u64 (a0+a1))/2))∧(zae .i64 ((zae .u64 (a0+a1))/2))<(a2.length:Int))<|((aff fu ((el a2 a3).1,(el a2 a3).2.1,((el a2 a3).2.2)) ((el a2 (zae .i64 ((zae .u64 (a0+a1))/2))).1,(el a2 (zae .i64 ((zae .u64 (a0+a1))/2))).2.1,((el a2 (zae .i64 ((zae .u64 (a0+a1))/2))).2.2))).bind fun(a5:Int)=>(if a5<(0:Int)then(a4 a0 (zae .i64 ((zae .u64 (a0+a1))/2)))else(gd (aap ((zae .i64 ((zae .u64 (a0+a1))/2))+(1:Int)))<|(a4 ((zae .i64 ((zae .u64 (a0+a1))/2))+(1:Int)) a1)))))))))else some a0)
def aih(fu:Nat)(a2:LQ)(a3:Int):Nat→Int→Int→Option Int:=fun k_ a0 a1=>loopF (fun(g:(Int×Int)→Option Int) v=>ahx fu a2 a3 (fun a0 a1=>g (a0,a1)) v.1 v.2) k_ (a0,a1)
def ahw(fu:Nat)(a2:Int)(a3:LQ→Int→Option LQ)(a1:LQ)(a0:Int):Option LQ:=
 (if a2<a0 then(gd (aap (a0-(1:Int)))<|(gd (aap (a0-(1:Int)))<|(gd (0≤(a0-(1:Int))∧(a0-(1:Int))<(a1.length:Int))<|(gd (0≤(a0-(1:Int))∧(a0-(1:Int))<(a1.length:Int))<|(gd (0≤a0∧a0<(a1.length:Int))<|(gd (0≤a0∧a0<(a1.length:Int))<|(gd (0≤a0∧a0<(a1.length:Int))<|(gd (0≤a0∧a0<(a1.length:Int))<|(gd (0≤(a0-(1:Int))∧(a0-(1:Int))<((zbj a1 (zai a0) ((el a1 (a0-(1:Int))).1,(el a1 (a0-(1:Int))).2.1,((el a1 (a0-(1:Int))).2.2))).length:Int))<|(gd (0≤(a0-(1:Int))∧(a0-(1:Int))<((zbj a1 (zai a0) ((el a1 (a0-(1:Int))).1,(el a1 (a0-(1:Int))).2.1,((el a1 (a0-(1:Int))).2.2))).length:Int))<|(gd (aap (a0-(1:Int)))<|(a3 (zbj (zbj a1 (zai a0) ((el a1 (a0-(1:Int))).1,(el a1 (a0-(1:Int))).2.1,((el a1 (a0-(1:Int))).2.2))) (zai (a0-(1:Int))) ((el a1 a0).1,(el a1 a0).2.1,((el a1 a0).2.2))) (a0-(1:Int))))))))))))))else some a1)
def aig(fu:Nat)(a2:Int):Nat→LQ→Int→Option LQ:=fun k_ a0 a1=>loopF (fun(g:(LQ×Int)→Option LQ) v=>ahw fu a2 (fun a0 a1=>g (a0,a1)) v.1 v.2) k_ (a0,a1)
def ahv(fu:Nat)(a2:LQ)(a3:Int)(a4:Int)(a5:Int)(a6:Int→Int→Option Int)(a0:Int)(a1:Int):Option Int:=
 (if a0<a1 then(gd (aap (a0+a1))<|(gd (aap ((((zae .i64 ((zae .u64 (a3+a5))/2))+a4)-(1:Int))-(zae .i64 ((zae .u64 (a0+a1))/2))))<|(gd (0≤((((zae .i64 ((zae .u64 (a3+a5))/2))+a4)-(1:Int))-(zae .i64 ((zae .u64 (a0+a1))/2)))∧((((zae .i64 ((zae .u64 (a3+a5))/2))+a4)-(1:Int))-(zae .i64 ((zae .u64 (a0+a1))/2)))<(a2.length:Int))<|(gd (0≤((((zae .i64 ((zae .u64 (a3+a5))/2))+a4)-(1:Int))-(zae .i64 ((zae .u64 (a0+a1))/2)))∧((((zae .i64 ((zae .u64 (a3+a5))/2))+a4)-(1:Int))-(zae .i64 ((zae .u64 (a0+a1))/2)))<(a2.length:Int))<|(gd (0≤(zae .i64 ((zae .u64 (a0+a1))/2))∧(zae .i64 ((zae .u64 (a0+a1))/2))<(a2.length:Int))<|(gd (0≤(zae .i64 ((zae .u64 (a0+a1))/2))∧(zae .i64 ((zae .u64 (a0+a1))/2))<(a2.length:Int))<|((aff fu ((el a2 ((((zae .i64 ((zae .u64 (a3+a5))/2))+a4)-(1:Int))-(zae .i64 ((zae .u64 (a0+a1))/2)))).1,(el a2 ((((zae .i64 ((zae .u64 (a3+a5))/2))+a4)-(1:Int))-(zae .i64 ((zae .u64 (a0+a1))/2)))).2.1,((el a2 ((((zae .i64 ((zae .u64 (a3+a5))/2))+a4)-(1:Int))-(zae .i64 ((zae .u64 (a0+a1))/2)))).2.2)) ((el a2 (zae .i64 ((zae .u64 (a0+a1))/2))).1,(el a2 (zae .i64 ((zae .u64 (a0+a1))/2))).2.1,((el a2 (zae .i64 ((zae .u64 (a0+a1))/2))).2.2))).bind fun(a7:Int)=>(if a7<(0:Int)then(a6 a0 (zae .i64 ((zae .u64 (a0+a1))/2)))else(gd (aap ((zae .i64 ((zae .u64 (a0+a1))/2))+(1:Int)))<|(a6 ((zae .i64 ((zae .u64 (a0+a1))/2))+(1:Int)) a1))))))))))else some a0)
def aif(fu:Nat)(a2:LQ)(a3:Int)(a4:Int)(a5:Int):Nat→Int→Int→Option Int:=fun k_ a0 a1=>loopF (fun(g:(Int×Int)→Option Int) v=>ahv fu a2 a3 a4 a5 (fun a0 a1=>g (a0,a1)) v.1 v.2) k_ (a0,a1)
def aan:Nat→LQ→Int→Int→Int→Option LQ
 |0,_,_,_,_=>none
 |fu+1,a4,a0,a2,a1=>(((gd (aap (a2-a0))<|(if(a2-a0)=(1:Int)then(((aij fu a4 a0 fu a2 a1)).bind fun(a8:Int)=>(((aii fu a8 fu a4 a0)).bind fun(a9:LQ)=>some (.inr a9)))else some (.inl ())))).bind fun(b0:(Unit⊕LQ))=>zaD (fun(c0:Unit)=>(((gd (aap (a1-a2))<|(if(a1-a2)=(1:Int)then(((aih fu a4 a2 fu a0 a2)).bind fun(b1:Int)=>(((aig fu b1 fu a4 a2)).bind fun(b2:LQ)=>some (.inr b2)))else some (.inl ())))).bind fun(b3:(Unit⊕LQ))=>zaD (fun(c1:Unit)=>(gd (aap (a0+a1))<|(gd (aap ((zae .i64 ((zae .u64 (a0+a1))/2))+a2))<|(((if(zae .i64 ((zae .u64 (a0+a1))/2))<a2 then(gd (aap (((zae .i64 ((zae .u64 (a0+a1))/2))+a2)-a1))<|some (((zae .i64 ((zae .u64 (a0+a1))/2))+a2)-a1,zae .i64 ((zae .u64 (a0+a1))/2)))else some (a0,a2))).bind fun(a5:(Int×Int))=>(gd (aap (((zae .i64 ((zae .u64 (a0+a1))/2))+a2)-(1:Int)))<|(((aif fu a4 a0 a2 a1 fu a5.1 a5.2)).bind fun(a3:Int)=>(gd (aap (((zae .i64 ((zae .u64 (a0+a1))/2))+a2)-a3))<|(((((if a3<a2 then some (decide (a2<(((zae .i64 ((zae .u64 (a0+a1))/2))+a2)-a3)))else some false)).bind fun(b4:Bool)=>(bif b4 then((aep fu a4 a3 a2 (((zae .i64 ((zae .u64 (a0+a1))/2))+a2)-a3)).bind fun(b5:LQ)=>some b5)else some a4))).bind fun(a6:LQ)=>(((((if a0<a3 then some (decide (a3<(zae .i64 ((zae .u64 (a0+a1))/2))))else some false)).bind fun(b6:Bool)=>(bif b6 then((aan fu a6 a0 a3 (zae .i64 ((zae .u64 (a0+a1))/2))).bind fun(b7:LQ)=>some b7)else some a6))).bind fun(a7:LQ)=>(((if(zae .i64 ((zae .u64 (a0+a1))/2))<(((zae .i64 ((zae .u64 (a0+a1))/2))+a2)-a3)then some (decide ((((zae .i64 ((zae .u64 (a0+a1))/2))+a2)-a3)<a1))else some false)).bind fun(b8:Bool)=>(bif b8 then((aan fu a7 (zae .i64 ((zae .u64 (a0+a1))/2)) (((zae .i64 ((zae .u64 (a0+a1))/2))+a2)-a3) a1).bind fun(b9:LQ)=>some b9)else some a7))))))))))) (fun q=>some q) b3)) (fun q=>some q) b0)
def abw(fu:Nat)(a3:Int)(a4:LQ→Int→Int→Option (LQ×Int))(a1:LQ)(a2:Int)(a0:Int):Option (LQ×Int):=
 (if a0≤a3 then((aao fu a1 a2 a0).bind fun(a5:LQ)=>(gd (aap (a0+(20:Int)))<|(a4 a5 a0 (a0+(20:Int)))))else some (a1,a2))
def aas(fu:Nat)(a3:Int):Nat→LQ→Int→Int→Option (LQ×Int):=fun k_ a0 a1 a2=>loopF (fun(g:(LQ×Int×Int)→Option (LQ×Int)) v=>abw fu a3 (fun a0 a1 a2=>g (a0,a1,a2)) v.1 v.2.1 v.2.2) k_ (a0,a1,a2)
theorem ail{fu:Nat}{a0:Int}{k_:Nat}{a1:LQ}{a2:Int}{a3:Int}:aas fu a0 (k_+1) a1 a2 a3=abw fu a0 (aas fu a0 k_) a1 a2 a3:=rfl
def ajb(fu:Nat)(a4:Int)(a0:Int)(a5:LQ→Int→Int→Option (LQ×Int))(a3:LQ)(a2:Int)(a1:Int):Option (LQ×Int):=
 (if a1≤a4 then(gd (aap (a2+a0))<|((aan fu a3 a2 (a2+a0) a1).bind fun(a6:LQ)=>(gd (aap ((2:Int)*a0))<|(gd (aap (a1+((2:Int)*a0)))<|(a5 a6 a1 (a1+((2:Int)*a0)))))))else some (a3,a2))
def ajf(fu:Nat)(a3:Int)(a4:Int):Nat→LQ→Int→Int→Option (LQ×Int):=fun k_ a0 a1 a2=>loopF (fun(g:(LQ×Int×Int)→Option (LQ×Int)) v=>ajb fu a3 a4 (fun a0 a1 a2=>g (a0,a1,a2)) v.1 v.2.1 v.2.2) k_ (a0,a1,a2)
def abv(fu:Nat)(a2:Int)(a3:LQ→Int→Option LQ)(a4:LQ)(a0:Int):Option LQ:=
 (if a0<a2 then(gd (aap ((2:Int)*a0))<|(((ajf fu a2 a0 fu a4 (0:Int) ((2:Int)*a0))).bind fun(a1:(LQ×Int))=>(gd (aap (a1.2+a0))<|(if(a1.2+a0)<a2 then((aan fu a1.1 a1.2 (a1.2+a0) a2).bind fun(a5:LQ)=>(gd (aap (a0*(2:Int)))<|(a3 a5 (a0*(2:Int)))))else(gd (aap (a0*(2:Int)))<|(a3 a1.1 (a0*(2:Int))))))))else some a4)
def aar(fu:Nat)(a2:Int):Nat→LQ→Int→Option LQ:=fun k_ a0 a1=>loopF (fun(g:(LQ×Int)→Option LQ) v=>abv fu a2 (fun a0 a1=>g (a0,a1)) v.1 v.2) k_ (a0,a1)
theorem aik{fu:Nat}{a0:Int}{k_:Nat}{a1:LQ}{a2:Int}:aar fu a0 (k_+1) a1 a2=abv fu a0 (aar fu a0 k_) a1 a2:=rfl
def acj(fu:Nat)(a2:LQ)(a0:Int):Option LQ:=
 (((aas fu a0 fu a2 (0:Int) (20:Int))).bind fun(a1:(LQ×Int))=>((aao fu a1.1 a1.2 a0).bind fun(a3:LQ)=>(aar fu a0 fu a3 (20:Int))))
def ace(fu:Nat)(a0:LQ):Option LQ:=
 ((acj fu a0 (a0.length:Int)).bind fun(y1:LQ)=>some y1)
def aee(fu:Nat)(a0:LQ):Option LQ:=
 (gd ((0+a0.length)*40≤140737488355328)<|((ace fu a0).bind fun(y8:LQ)=>some y8))
def afm(fu:Nat)(a5:(Int×UInt8×Str×Str×Int×Str×Str×Str×Int×LQ×LQ))(a6:Int→UInt8→Str→Int→LQ→Option (Int×UInt8×Str×Int×LQ))(a7:Int)(a3:UInt8)(a2:Str)(a0:Int)(a4:LQ):Option (Int×UInt8×Str×Int×LQ):=
 (((if a3=(0:UInt8)then((aad fu (a2,a0) (59:UInt8)).bind fun(a8:Bool)=>some a8)else some false)).bind fun(a9:Bool)=>(bif a9 then(gd (aap (a0+(1:Int)))<|((aak fu a2 (a0+(1:Int)) a5.2.2.1).bind fun(b0:Int)=>((afv fu (a2,a0+(1:Int)) a4 b0 (1:Int)).bind fun(a1:(LQ×Int×UInt8×(Str×Int)))=>(a6 a1.2.1 a1.2.2.1 a1.2.2.2.1 a1.2.2.2.2 a1.1))))else some (a7,a3,a2,a0,a4)))
def agc(fu:Nat)(a5:(Int×UInt8×Str×Str×Int×Str×Str×Str×Int×LQ×LQ)):Nat→Int→UInt8→Str→Int→LQ→Option (Int×UInt8×Str×Int×LQ):=fun k_ a0 a1 a2 a3 a4=>loopF (fun(g:(Int×UInt8×Str×Int×LQ)→Option (Int×UInt8×Str×Int×LQ)) v=>afm fu a5 (fun a0 a1 a2 a3 a4=>g (a0,a1,a2,a3,a4)) v.1 v.2.1 v.2.2.1 v.2.2.2.1 v.2.2.2.2) k_ (a0,a1,a2,a3,a4)
theorem akf{fu:Nat}{a0:(Int×UInt8×Str×Str×Int×Str×Str×Str×Int×LQ×LQ)}{k_:Nat}{a1:Int}{a2:UInt8}{a3:Str}{a4:Int}{a5:LQ}:agc fu a0 (k_+1) a1 a2 a3 a4 a5=afm fu a0 (agc fu a0 k_) a1 a2 a3 a4 a5:=rfl
def afl(fu:Nat)(a5:Int→UInt8→Str→Int→LQ→Option (Int×UInt8×Str×Int×LQ))(a6:Int)(a3:UInt8)(a2:Str)(a0:Int)(a4:LQ):Option (Int×UInt8×Str×Int×LQ):=
 (((if a3=(0:UInt8)then((ach fu (a2,a0)).bind fun(a7:Bool)=>some (!a7))else some false)).bind fun(a8:Bool)=>(bif a8 then(gd (aap (a0+(1:Int)))<|((aak fu a2 (a0+(1:Int)) ([38]:Str)).bind fun(a9:Int)=>((afv fu (a2,a0+(1:Int)) a4 a9 (2:Int)).bind fun(a1:(LQ×Int×UInt8×(Str×Int)))=>(a5 a1.2.1 a1.2.2.1 a1.2.2.2.1 a1.2.2.2.2 a1.1))))else some (a6,a3,a2,a0,a4)))
def agb(fu:Nat):Nat→Int→UInt8→Str→Int→LQ→Option (Int×UInt8×Str×Int×LQ):=fun k_ a0 a1 a2 a3 a4=>loopF (fun(g:(Int×UInt8×Str×Int×LQ)→Option (Int×UInt8×Str×Int×LQ)) v=>afl fu (fun a0 a1 a2 a3 a4=>g (a0,a1,a2,a3,a4)) v.1 v.2.1 v.2.2.1 v.2.2.2.1 v.2.2.2.2) k_ (a0,a1,a2,a3,a4)
theorem ake{fu:Nat}{k_:Nat}{a0:Int}{a1:UInt8}{a2:Str}{a3:Int}{a4:LQ}:agb fu (k_+1) a0 a1 a2 a3 a4=afl fu (agb fu k_) a0 a1 a2 a3 a4:=rfl
def aou(fu:Nat)(a0:Str):Option (UQ×Int×UInt8):=
 (if(1024:Int)<(a0.length:Int)then some ((([]:Str),([]:Str),([]:Str),(0:Int),([]:LQ),([]:LQ)),(1024:Int),(4:UInt8))else(if(ixb (·==(58:UInt8)) a0)<(0:Int)then some ((([]:Str),([]:Str),([]:Str),(0:Int),([]:LQ),([]:LQ)),(a0.length:Int),(5:UInt8))else(gd (aap ((ixb (·==(58:UInt8)) a0)+(1:Int)))<|(gd (0≤(ixb (·==(58:UInt8)) a0)∧(ixb (·==(58:UInt8)) a0)≤(a0.length:Int))<|((ack fu (zaW (zai (ixb (·==(58:UInt8)) a0)) a0)).bind fun(a4:Str)=>(((((if a4=([115,105,112]:Str)then some (decide (a4=([115,105,112]:Str)))else some (decide (a4=([115,105,112,115]:Str))))).bind fun(a7:Bool)=>(bif a7 then((aiy fu (a0,(ixb (·==(58:UInt8)) a0)+(1:Int)) (a4,([]:Str),([]:Str),(0:Int),([]:LQ),([]:LQ))).bind fun(a2:(Int×UInt8×(Str×Int)×UQ))=>some (a2.1,a2.2.1,([59,63]:Str),a2.2.2.1.1,a2.2.2.1.2,a2.2.2.2.1,a2.2.2.2.2.1,a2.2.2.2.2.2.1,a2.2.2.2.2.2.2.1,a2.2.2.2.2.2.2.2.1,a2.2.2.2.2.2.2.2.2))else(if a4=([116,101,108]:Str)then((ahq fu (a0,(ixb (·==(58:UInt8)) a0)+(1:Int)) (a4,([]:Str),([]:Str),(0:Int),([]:LQ),([]:LQ))).bind fun(a3:(Int×UInt8×(Str×Int)×UQ))=>some (a3.1,a3.2.1,([59]:Str),a3.2.2.1.1,a3.2.2.1.2,a3.2.2.2.1,a3.2.2.2.2.1,a3.2.2.2.2.2.1,a3.2.2.2.2.2.2.1,a3.2.2.2.2.2.2.2.1,a3.2.2.2.2.2.2.2.2))else some ((0:Int),(15:UInt8),([59,63]:Str),a0,(ixb (·==(58:UInt8)) a0)+(1:Int),a4,([]:Str),([]:Str),(0:Int),([]:LQ),([]:LQ)))))).bind fun(a1:(Int×UInt8×Str×Str×Int×Str×Str×Str×Int×LQ×LQ))=>(((agc fu a1 fu a1.1 a1.2.1 a1.2.2.2.1 a1.2.2.2.2.1 a1.2.2.2.2.2.2.2.2.2.1)).bind fun(a5:(Int×UInt8×Str×Int×LQ))=>(((agb fu fu a5.1 a5.2.1 a5.2.2.1 a5.2.2.2.1 a1.2.2.2.2.2.2.2.2.2.2)).bind fun(a6:(Int×UInt8×Str×Int×LQ))=>(if a6.2.1=(0:UInt8)then((aee fu a5.2.2.2.2).bind fun(a8:LQ)=>((aee fu a6.2.2.2.2).bind fun(a9:LQ)=>some ((a1.2.2.2.2.2.1,a1.2.2.2.2.2.2.1,a1.2.2.2.2.2.2.2.1,a1.2.2.2.2.2.2.2.2.1,a8,a9),(0:Int),(0:UInt8))))else some ((([]:Str),([]:Str),([]:Str),(0:Int),([]:LQ),([]:LQ)),a6.1,a6.2.1))))))))))
def afh(fu:Nat)(a0:(Str×Int))(a2:AQ):Option (Int×UInt8×(Str×Int)×AQ):=
 ((((aad fu a0 (60:UInt8)).bind fun(a7:Bool)=>(bif a7 then(gd (aap (a0.2+(1:Int)))<|((aak fu a0.1 (a0.2+(1:Int)) ([62]:Str)).bind fun(a3:Int)=>(if a3=(a0.1.length:Int)then some (.inr (a3,(5:UInt8),a0,a2))else(gd (aap (a3+(1:Int)))<|some (.inl (a0.2+(1:Int),a3,a3+(1:Int)))))))else((aak fu a0.1 a0.2 ([59,32,9]:Str)).bind fun(a5:Int)=>((aak fu a0.1 a0.2 ([63,44]:Str)).bind fun(a6:Int)=>(if a6<a5 then some (.inr (a6,(5:UInt8),a0,a2))else some (.inl (a0.2,a5,a5)))))))).bind fun(a8:((Int×Int×Int)⊕(Int×UInt8×(Str×Int)×AQ)))=>zaD (fun(a1:(Int×Int×Int))=>(gd (0≤a1.1∧a1.1≤a1.2.1∧a1.2.1≤(a0.1.length:Int))<|((aou fu (sub a0.1 a1.1 a1.2.1)).bind fun(a4:(UQ×Int×UInt8))=>(if a4.2.2=(0:UInt8)then some ((0:Int),(0:UInt8),(a0.1,a1.2.2),(a2.1,a4.1,a2.2.2))else(gd (aap (a1.1+a4.2.1))<|some (a1.1+a4.2.1,a4.2.2,a0,a2)))))) (fun q=>some q) a8)
def ahr(fu:Nat)(a7:(Str×Int)):Option (PQ×Int×UInt8×(Str×Int)):=
 ((ady fu a7).bind fun(y4:(Str×(Str×Int)))=>((ack fu y4.1).bind fun(a2:Str)=>(if a2=([]:Str)then some ((([]:Str),([]:Str),false),y4.2.2,(5:UInt8),y4.2)else((abn fu y4.2).bind fun(a3:(Str×Int))=>((aad fu a3 (61:UInt8)).bind fun(a8:Bool)=>(bif (!a8)then some ((a2,([]:Str),false),(0:Int),(0:UInt8),a3)else(gd (aap (a3.2+(1:Int)))<|((abn fu (a3.1,a3.2+(1:Int))).bind fun(a0:(Str×Int))=>((aad fu a0 (34:UInt8)).bind fun(a9:Bool)=>(bif a9 then((aop fu a0.1 a0.2).bind fun(a4:(Str×Int×UInt8))=>(if a4.2.2=(0:UInt8)then some ((a2,a4.1,true),(0:Int),(0:UInt8),(a0.1,a4.2.1))else some ((([]:Str),([]:Str),false),a4.2.1,a4.2.2,a0)))else((aad fu a0 (91:UInt8)).bind fun(b0:Bool)=>(bif b0 then((aak fu a0.1 a0.2 ([93]:Str)).bind fun(a1:Int)=>(gd (aap (a1+(1:Int)))<|(gd (0≤a0.2∧a0.2≤(min (a1+(1:Int)) (a0.1.length:Int))∧(min (a1+(1:Int)) (a0.1.length:Int))≤(a0.1.length:Int))<|((age fu (sub a0.1 a0.2 (min (a1+(1:Int)) (a0.1.length:Int)))).bind fun(a6:(Str×Bool))=>(bif (!a6.2)then some ((([]:Str),([]:Str),false),a0.2,(5:UInt8),a0)else(gd (aap (a1+(1:Int)))<|some ((a2,a6.1,true),(0:Int),(0:UInt8),(a0.1,a1+(1:Int)))))))))else((ady fu a0).bind fun(a5:(Str×(Str×Int)))=>(if a5.1=([]:Str)then some ((([]:Str),([]:Str),false),a5.2.2,(5:UInt8),a5.2)else some ((a2,a5.1,true),(0:Int),(0:UInt8),a5.2)))))))))))))))
def akg(fu:Nat)(a5:LQ→Str→Int→Option (LQ×Int×UInt8))(a2:LQ)(a6:Str)(a7:Int):Option (LQ×Int×UInt8):=
 ((abn fu (a6,a7)).bind fun(a1:(Str×Int))=>((ach fu a1).bind fun(a8:Bool)=>(bif a8 then some (a2,(0:Int),(0:UInt8))else((aad fu a1 (59:UInt8)).bind fun(a9:Bool)=>(bif (!a9)then some (([]:LQ),a1.2,(5:UInt8))else(gd (aap (a1.2+(1:Int)))<|((abn fu (a1.1,a1.2+(1:Int))).bind fun(a4:(Str×Int))=>((ahr fu a4).bind fun(a0:(PQ×Int×UInt8×(Str×Int)))=>(((if a0.2.2.1=(0:UInt8)then((anc fu a2 a0.1.1).bind fun(b0:UInt8)=>some (a4.2,b0))else some (a0.2.1,a0.2.2.1))).bind fun(a3:(Int×UInt8))=>(if a3.2=(0:UInt8)then(gd ((a2.length+([a0.1]:LQ).length)*40≤140737488355328)<|(a5 (a2++([a0.1]:LQ)) a0.2.2.2.1 a0.2.2.2.2))else some (([]:LQ),a3.1,a3.2)))))))))))
def ali(fu:Nat):Nat→LQ→Str→Int→Option (LQ×Int×UInt8):=fun k_ a0 a1 a2=>loopF (fun(g:(LQ×Str×Int)→Option (LQ×Int×UInt8)) v=>akg fu (fun a0 a1 a2=>g (a0,a1,a2)) v.1 v.2.1 v.2.2) k_ (a0,a1,a2)
theorem ate{fu:Nat}{k_:Nat}{a0:LQ}{a1:Str}{a2:Int}:ali fu (k_+1) a0 a1 a2=akg fu (ali fu k_) a0 a1 a2:=rfl
def agz(fu:Nat)(a0:Str):Option (LQ×Int×UInt8):=
 (ali fu fu ([]:LQ) a0 (0:Int))
def aiz(fu:Nat)(a5:Str):Option (AQ×Int×UInt8):=
 (if(1024:Int)<(a5.length:Int)then some ((([]:Str),(([]:Str),([]:Str),([]:Str),(0:Int),([]:LQ),([]:LQ)),([]:LQ)),(1024:Int),(4:UInt8))else((abn fu (a5,(0:Int))).bind fun(a6:(Str×Int))=>((((aad fu a6 (34:UInt8)).bind fun(a9:Bool)=>(bif a9 then((afi fu a6 (([]:Str),(([]:Str),([]:Str),([]:Str),(0:Int),([]:LQ),([]:LQ)),([]:LQ))).bind fun(a2:(Int×UInt8×(Str×Int)×AQ))=>some (a2.1,a2.2.1,a2.2.2.1.1,a2.2.2.1.2,a2.2.2.2.1,a2.2.2.2.2.1.1,a2.2.2.2.2.1.2.1,a2.2.2.2.2.1.2.2.1,a2.2.2.2.2.1.2.2.2.1,a2.2.2.2.2.1.2.2.2.2.1,a2.2.2.2.2.1.2.2.2.2.2,a2.2.2.2.2.2))else(gd (a5.length≤1000000000)<|(bif (Lib.contains a5 ([60]:Str))then((aco fu a6 (([]:Str),(([]:Str),([]:Str),([]:Str),(0:Int),([]:LQ),([]:LQ)),([]:LQ))).bind fun(a3:(Int×UInt8×(Str×Int)×AQ))=>some (a3.1,a3.2.1,a3.2.2.1.1,a3.2.2.1.2,a3.2.2.2.1,a3.2.2.2.2.1.1,a3.2.2.2.2.1.2.1,a3.2.2.2.2.1.2.2.1,a3.2.2.2.2.1.2.2.2.1,a3.2.2.2.2.1.2.2.2.2.1,a3.2.2.2.2.1.2.2.2.2.2,a3.2.2.2.2.2))else some ((0:Int),(0:UInt8),a6.1,a6.2,([]:Str),([]:Str),([]:Str),([]:Str),(0:Int),([]:LQ),([]:LQ),([]:LQ))))))).bind fun(a0:(Int×UInt8×Str×Int×Str×Str×Str×Str×Int×LQ×LQ×LQ))=>(((if a0.2.1=(0:UInt8)then((afh fu (a0.2.2.1,a0.2.2.2.1) (a0.2.2.2.2.1,(a0.2.2.2.2.2.1,a0.2.2.2.2.2.2.1,a0.2.2.2.2.2.2.2.1,a0.2.2.2.2.2.2.2.2.1,a0.2.2.2.2.2.2.2.2.2.1,a0.2.2.2.2.2.2.2.2.2.2.1),a0.2.2.2.2.2.2.2.2.2.2.2)).bind fun(a4:(Int×UInt8×(Str×Int)×AQ))=>some (a4.1,a4.2.1,a4.2.2.1.1,a4.2.2.1.2,a4.2.2.2.1,a4.2.2.2.2.1.1,a4.2.2.2.2.1.2.1,a4.2.2.2.2.1.2.2.1,a4.2.2.2.2.1.2.2.2.1,a4.2.2.2.2.1.2.2.2.2.1,a4.2.2.2.2.1.2.2.2.2.2,a4.2.2.2.2.2))else some (a0.1,a0.2.1,a0.2.2.1,a0.2.2.2.1,a0.2.2.2.2.1,a0.2.2.2.2.2.1,a0.2.2.2.2.2.2.1,a0.2.2.2.2.2.2.2.1,a0.2.2.2.2.2.2.2.2.1,a0.2.2.2.2.2.2.2.2.2.1,a0.2.2.2.2.2.2.2.2.2.2.1,a0.2.2.2.2.2.2.2.2.2.2.2))).bind fun(a1:(Int×UInt8×Str×Int×Str×Str×Str×Str×Int×LQ×LQ×LQ))=>(((if a1.2.1=(0:UInt8)then(gd (0≤a1.2.2.2.1∧a1.2.2.2.1≤(a5.length:Int))<|((agz fu (zaA (zai a1.2.2.2.1) a5)).bind fun(a7:(LQ×Int×UInt8))=>(gd (aap (a7.2.1+a1.2.2.2.1))<|some (a7.2.1+a1.2.2.2.1,a7.2.2,a7.1))))else some (a1.1,a1.2.1,a1.2.2.2.2.2.2.2.2.2.2.2))).bind fun(a8:(Int×UInt8×LQ))=>(if a8.2.1=(0:UInt8)then some ((a1.2.2.2.2.1,(a1.2.2.2.2.2.1,a1.2.2.2.2.2.2.1,a1.2.2.2.2.2.2.2.1,a1.2.2.2.2.2.2.2.2.1,a1.2.2.2.2.2.2.2.2.2.1,a1.2.2.2.2.2.2.2.2.2.2.1),a8.2.2),(0:Int),(0:UInt8))else some ((([]:Str),(([]:Str),([]:Str),([]:Str),(0:Int),([]:LQ),([]:LQ)),([]:LQ)),a8.1,a8.2.1)))))))
def afp(fu:Nat)(a0:Str):Option (AQ×UInt8):=
 ((akb fu a0).bind fun(y4:Str)=>((aiz fu y4).bind fun(y9:(AQ×Int×UInt8))=>some (y9.1,y9.2.2)))
def amq(fu:Nat)(a0:UInt8):Option Bool:=
 (((if a0=(32:UInt8)then some true else some (decide (a0=(9:UInt8))))).bind fun(v5:Bool)=>some v5)
def ait(fu:Nat)(a1:Str)(a2:Int→Option Int)(a0:Int):Option Int:=
 (((if a0<(a1.length:Int)then(gd (0≤a0∧a0<(a1.length:Int))<|((amq fu (at_ a1 a0)).bind fun(a3:Bool)=>some a3))else some false)).bind fun(a4:Bool)=>(bif a4 then(gd (aap (a0+(1:Int)))<|(a2 (a0+(1:Int))))else some a0))
def anu(fu:Nat)(a1:Str):Nat→Int→Option Int:=fun k_ a0=>loopF (fun(g:Int→Option Int) v=>ait fu a1 (fun a0=>g a0) v) k_ a0
theorem apw{fu:Nat}{a0:Str}{k_:Nat}{a1:Int}:anu fu a0 (k_+1) a1=ait fu a0 (anu fu a0 k_) a1:=rfl
def adk(fu:Nat)(a0:Str)(a1:Int):Option Int:=
 (((anu fu a0 fu (min (max a1 (0:Int)) (a0.length:Int)))).bind fun(a2:Int)=>some a2)
def api(fu:Nat)(a1:Str)(y1:Int)(a2:Int→Option Int)(a0:Int):Option Int:=
 (((if(0:Int)<a0 then(gd (aap (a0-(1:Int)))<|(gd (0≤(a0-(1:Int))∧(a0-(1:Int))<((zaA (zai y1) a1).length:Int))<|((amq fu (at_ (zaA (zai y1) a1) (a0-(1:Int)))).bind fun(a3:Bool)=>some a3)))else some false)).bind fun(a4:Bool)=>(bif a4 then(gd (aap (a0-(1:Int)))<|(a2 (a0-(1:Int))))else some a0))
def aqw(fu:Nat)(a1:Str)(y1:Int):Nat→Int→Option Int:=fun k_ a0=>loopF (fun(g:Int→Option Int) v=>api fu a1 y1 (fun a0=>g a0) v) k_ a0
theorem axk{fu:Nat}{a0:Str}{y1:Int}{k_:Nat}{a1:Int}:aqw fu a0 y1 (k_+1) a1=api fu a0 y1 (aqw fu a0 y1 k_) a1:=rfl
def aug(fu:Nat)(a0:Str):Option Str:=
 ((adk fu a0 (0:Int)).bind fun(y1:Int)=>(gd (0≤y1∧y1≤(a0.length:Int))<|(((aqw fu a0 y1 fu ((zaA (zai y1) a0).length:Int))).bind fun(a1:Int)=>(gd (0≤a1∧a1≤((zaA (zai y1) a0).length:Int))<|some (zaW (zai a1) (zaA (zai y1) a0))))))
open List renaming set → zbj
def anr(fu:Nat)(a1:Str)(a2:UInt8)(a3:Int→Option (Unit⊕Int))(a0:Int):Option (Unit⊕Int):=
 (if a0<(a1.length:Int)then(gd (0≤a0∧a0<(a1.length:Int))<|(if(at_ a1 a0)=a2 then some (.inr a0)else(gd (aap (a0+(1:Int)))<|(a3 (a0+(1:Int))))))else some (.inl ()))
def apa(fu:Nat)(a1:Str)(a2:UInt8):Nat→Int→Option (Unit⊕Int):=fun k_ a0=>loopF (fun(g:Int→Option (Unit⊕Int)) v=>anr fu a1 a2 (fun a0=>g a0) v) k_ a0
theorem awo{fu:Nat}{a0:Str}{a1:UInt8}{k_:Nat}{a2:Int}:apa fu a0 a1 (k_+1) a2=anr fu a0 a1 (apa fu a0 a1 k_) a2:=rfl
def apb(fu:Nat)(a0:Str)(a1:Int)(a2:UInt8):Option Int:=
 (((apa fu a0 a2 fu a1)).bind fun(a3:(Unit⊕Int))=>zaD (fun(a4:Unit)=>some (-1:Int)) (fun q=>some q) a3)
def agk(fu:Nat)(a1:Str)(a2:UInt8)(a3:Int→Option (Unit⊕Bool))(a0:Int):Option (Unit⊕Bool):=
 (if a0<(a1.length:Int)then(gd (0≤a0∧a0<(a1.length:Int))<|(if(at_ a1 a0)=a2 then some (.inr true)else(gd (aap (a0+(1:Int)))<|(a3 (a0+(1:Int))))))else some (.inl ()))
def alb(fu:Nat)(a1:Str)(a2:UInt8):Nat→Int→Option (Unit⊕Bool):=fun k_ a0=>loopF (fun(g:Int→Option (Unit⊕Bool)) v=>agk fu a1 a2 (fun a0=>g a0) v) k_ a0
theorem anf{fu:Nat}{a0:Str}{a1:UInt8}{k_:Nat}{a2:Int}:alb fu a0 a1 (k_+1) a2=agk fu a0 a1 (alb fu a0 a1 k_) a2:=rfl
def aci(fu:Nat)(a0:Str)(a1:UInt8):Option Bool:=
 (((alb fu a0 a1 fu (0:Int))).bind fun(a2:(Unit⊕Bool))=>zaD (fun(a3:Unit)=>some false) (fun q=>some q) a2)
def aea(fu:Nat)(a1:(Str×Int×Int×UInt8))(a2:Str)(a3:Int→Option Int)(a0:Int):Option Int:=
 (((if a0<(a1.1.length:Int)then(gd (0≤a0∧a0<(a1.1.length:Int))<|((aci fu a2 (at_ a1.1 a0)).bind fun(a4:Bool)=>some (!a4)))else some false)).bind fun(a5:Bool)=>(bif a5 then(gd (aap (a0+(1:Int)))<|(a3 (a0+(1:Int))))else some a0))
def ags(fu:Nat)(a1:(Str×Int×Int×UInt8))(a2:Str):Nat→Int→Option Int:=fun k_ a0=>loopF (fun(g:Int→Option Int) v=>aea fu a1 a2 (fun a0=>g a0) v) k_ a0
theorem ajh{fu:Nat}{a0:(Str×Int×Int×UInt8)}{a1:Str}{k_:Nat}{a2:Int}:ags fu a0 a1 (k_+1) a2=aea fu a0 a1 (ags fu a0 a1 k_) a2:=rfl
def abk(fu:Nat)(a0:(Str×Int×Int×UInt8))(a1:Str):Option Int:=
 (((ags fu a0 a1 fu a0.2.1)).bind fun(a2:Int)=>some a2)
def ant(fu:Nat)(a3:Str)(a2:Str→Int→Option Str)(a1:Str)(a0:Int):Option Str:=
 (if a0<(a3.length:Int)then(((gd (0≤a0∧a0<(a1.length:Int))<|(gd (0≤a0∧a0<(a1.length:Int))<|(if(65:UInt8)≤(at_ a1 a0)then(gd (0≤a0∧a0<(a1.length:Int))<|(gd (0≤a0∧a0<(a1.length:Int))<|some (decide ((at_ a1 a0)≤(90:UInt8)))))else some false)))).bind fun(a4:Bool)=>(bif a4 then(gd (0≤a0∧a0<(a1.length:Int))<|(gd (0≤a0∧a0<(a1.length:Int))<|(gd (0≤a0∧a0<(a1.length:Int))<|(gd (0≤a0∧a0<(a1.length:Int))<|(gd (aap (a0+(1:Int)))<|(a2 (zbj a1 (zai a0) ((at_ a1 a0)+(32:UInt8))) (a0+(1:Int))))))))else(gd (aap (a0+(1:Int)))<|(a2 a1 (a0+(1:Int))))))else some a1)
def apg(fu:Nat)(a2:Str):Nat→Str→Int→Option Str:=fun k_ a0 a1=>loopF (fun(g:(Str×Int)→Option Str) v=>ant fu a2 (fun a0 a1=>g (a0,a1)) v.1 v.2) k_ (a0,a1)
theorem awq{fu:Nat}{a0:Str}{k_:Nat}{a1:Str}{a2:Int}:apg fu a0 (k_+1) a1 a2=ant fu a0 (apg fu a0 k_) a1 a2:=rfl
def aec(fu:Nat)(a0:Str):Option Str:=
 (((apg fu a0 fu a0 (0:Int))).bind fun(a1:Str)=>some a1)
def adn(fu:Nat)(a0:UInt8):Option Bool:=
 (((if(48:UInt8)≤a0 then some (decide (a0≤(57:UInt8)))else some false)).bind fun(v5:Bool)=>some v5)
def akl(fu:Nat)(a0:UInt8):Option Int:=
 ((adn fu a0).bind fun(y1:Bool)=>(bif y1 then some ((a0-(48:UInt8)).toNat:Int)else(((if(65:UInt8)≤a0 then some (decide (a0≤(70:UInt8)))else some false)).bind fun(a1:Bool)=>(bif a1 then(gd (aap (((a0-(65:UInt8)).toNat:Int)+(10:Int)))<|some (((a0-(65:UInt8)).toNat:Int)+(10:Int)))else(((if(97:UInt8)≤a0 then some (decide (a0≤(102:UInt8)))else some false)).bind fun(a2:Bool)=>(bif a2 then(gd (aap (((a0-(97:UInt8)).toNat:Int)+(10:Int)))<|some (((a0-(97:UInt8)).toNat:Int)+(10:Int)))else some (-1:Int)))))))
def atu(fu:Nat)(a1:Str)(a0:Int):Option Int:=
 (((gd (aap (a0+(2:Int)))<|(if(a1.length:Int)≤(a0+(2:Int))then some true else(gd (0≤a0∧a0<(a1.length:Int))<|(if(at_ a1 a0)=(37:UInt8)then(gd (aap (a0+(1:Int)))<|(gd (0≤(a0+(1:Int))∧(a0+(1:Int))<(a1.length:Int))<|((akl fu (at_ a1 (a0+(1:Int)))).bind fun(a4:Int)=>(if a4<(0:Int)then some true else(gd (aap (a0+(2:Int)))<|(gd (0≤(a0+(2:Int))∧(a0+(2:Int))<(a1.length:Int))<|((akl fu (at_ a1 (a0+(2:Int)))).bind fun(a5:Int)=>some (decide (a5<(0:Int))))))))))else some true))))).bind fun(a6:Bool)=>(bif a6 then some (-1:Int)else(gd (aap (a0+(1:Int)))<|(gd (0≤(a0+(1:Int))∧(a0+(1:Int))<(a1.length:Int))<|((akl fu (at_ a1 (a0+(1:Int)))).bind fun(a2:Int)=>(gd (aap ((16:Int)*a2))<|(gd (aap (a0+(2:Int)))<|(gd (0≤(a0+(2:Int))∧(a0+(2:Int))<(a1.length:Int))<|((akl fu (at_ a1 (a0+(2:Int)))).bind fun(a3:Int)=>(gd (aap (((16:Int)*a2)+a3))<|some (((16:Int)*a2)+a3)))))))))))
def alu(fu:Nat)(a0:UInt8):Option Bool:=
 (((if a0<(32:UInt8)then(if a0=(9:UInt8)then some (decide (a0=(127:UInt8)))else some true)else some (decide (a0=(127:UInt8))))).bind fun(v6:Bool)=>some v6)
def aag(fu:Nat)(a0:(Str×Int×Int×UInt8))(a1:Int)(a2:UInt8):Option (Str×Int×Int×UInt8):=
 (if a0.2.2.2=(0:UInt8)then some (a0.1,a0.2.1,a1,a2)else some a0)
def aqk(fu:Nat)(a0:UInt8):Option Bool:=
 (((if(65:UInt8)≤a0 then(if a0≤(90:UInt8)then some true else(if(97:UInt8)≤a0 then some (decide (a0≤(122:UInt8)))else some false))else(if(97:UInt8)≤a0 then some (decide (a0≤(122:UInt8)))else some false))).bind fun(v8:Bool)=>some v8)
def ayr(fu:Nat)(a0:UInt8)(a1:Int):Option Bool:=
 ((((aqk fu a0).bind fun(a2:Bool)=>(bif a2 then some true else((adn fu a0).bind fun(a3:Bool)=>(bif a3 then some true else((aci fu ([45,95,46,33,126,42,39,40,41]:Str) a0).bind fun(a4:Bool)=>some a4)))))).bind fun(a5:Bool)=>(bif a5 then some true else(if a1=(0:Int)then((aci fu ([38,61,43,36,44,59,63,47]:Str) a0).bind fun(a6:Bool)=>some a6)else(if a1=(1:Int)then((aci fu ([91,93,47,58,38,43,36]:Str) a0).bind fun(a7:Bool)=>some a7)else(if a1=(2:Int)then((aci fu ([91,93,47,63,58,43,36]:Str) a0).bind fun(a8:Bool)=>some a8)else some false)))))
def adi(fu:Nat)(a1:(Str×Int×Int×UInt8))(a2:Int)(a6:Int)(a7:(List UInt8)→Int→Option ((List UInt8)⊕(Str×(Str×Int×Int×UInt8))))(a4:List UInt8)(a0:Int):Option ((List UInt8)⊕(Str×(Str×Int×Int×UInt8))):=
 (if a0<a2 then(gd (0≤a0∧a0<(a1.1.length:Int))<|(((if((at_ a1.1 a0).toNat:Int)=(37:Int)then(gd (0≤a2∧a2≤(a1.1.length:Int))<|((atu fu (zaW (zai a2) a1.1) a0).bind fun(a5:Int)=>(((if a5<(0:Int)then some true else((alu fu (u8i a5)).bind fun(a8:Bool)=>some a8))).bind fun(a9:Bool)=>(bif a9 then((aag fu a1 a0 (5:UInt8)).bind fun(b0:(Str×Int×Int×UInt8))=>some (.inr (([]:Str),b0)))else(gd (aap (a0+(2:Int)))<|some (.inl (a0+(2:Int),a5)))))))else((ayr fu (u8i ((at_ a1.1 a0).toNat:Int)) a6).bind fun(b1:Bool)=>(bif (!b1)then((aag fu a1 a0 (5:UInt8)).bind fun(b2:(Str×Int×Int×UInt8))=>some (.inr (([]:Str),b2)))else some (.inl (a0,((at_ a1.1 a0).toNat:Int))))))).bind fun(b3:((Int×Int)⊕(Str×(Str×Int×Int×UInt8))))=>zaD (fun(a3:(Int×Int))=>(gd ((a4.length+([u8i a3.2]:List UInt8).length)*1≤140737488355328)<|(gd (aap (a3.1+(1:Int)))<|(a7 (a4++([u8i a3.2]:List UInt8)) (a3.1+(1:Int)))))) (fun q=>some (.inr q)) b3))else some (.inl a4))
def afr(fu:Nat)(a2:(Str×Int×Int×UInt8))(a3:Int)(a4:Int):Nat→(List UInt8)→Int→Option ((List UInt8)⊕(Str×(Str×Int×Int×UInt8))):=fun k_ a0 a1=>loopF (fun(g:((List UInt8)×Int)→Option ((List UInt8)⊕(Str×(Str×Int×Int×UInt8)))) v=>adi fu a2 a3 a4 (fun a0 a1=>g (a0,a1)) v.1 v.2) k_ (a0,a1)
theorem ahn{fu:Nat}{a0:(Str×Int×Int×UInt8)}{a1:Int}{a2:Int}{k_:Nat}{a3:List UInt8}{a4:Int}:afr fu a0 a1 a2 (k_+1) a3 a4=adi fu a0 a1 a2 (afr fu a0 a1 a2 k_) a3 a4:=rfl
def acg(fu:Nat)(a0:(Str×Int×Int×UInt8))(a1:Int)(a2:Int):Option (Str×(Str×Int×Int×UInt8)):=
 (((afr fu a0 a1 a2 fu ([]:List UInt8) a0.2.1)).bind fun(a3:((List UInt8)⊕(Str×(Str×Int×Int×UInt8))))=>zaD (fun(a4:List UInt8)=>some (a4,(a0.1,a1,a0.2.2.1,a0.2.2.2))) (fun q=>some q) a3)
def agr(fu:Nat)(a1:(Str×Int×Int×UInt8))(y1:Int)(a3:Int→Option (Unit⊕(Str×(Str×Int×Int×UInt8))))(a0:Int):Option (Unit⊕(Str×(Str×Int×Int×UInt8))):=
 (if a0<y1 then(gd (0≤a0∧a0<(a1.1.length:Int))<|(if(at_ a1.1 a0)=(58:UInt8)then((acg fu (a1.1,a1.2.1,(0:Int),(0:UInt8)) a0 (0:Int)).bind fun(a2:(Str×(Str×Int×Int×UInt8)))=>((aag fu a1 a2.2.2.2.1 a2.2.2.2.2).bind fun(a4:(Str×Int×Int×UInt8))=>((aag fu a4 a0 (15:UInt8)).bind fun(a5:(Str×Int×Int×UInt8))=>some (.inr (([]:Str),a5)))))else(gd (aap (a0+(1:Int)))<|(a3 (a0+(1:Int))))))else some (.inl ()))
def afc(fu:Nat)(a1:(Str×Int×Int×UInt8))(y1:Int):Nat→Int→Option (Unit⊕(Str×(Str×Int×Int×UInt8))):=fun k_ a0=>loopF (fun(g:Int→Option (Unit⊕(Str×(Str×Int×Int×UInt8)))) v=>agr fu a1 y1 (fun a0=>g a0) v) k_ a0
theorem aqh{fu:Nat}{a0:(Str×Int×Int×UInt8)}{y1:Int}{k_:Nat}{a1:Int}:afc fu a0 y1 (k_+1) a1=agr fu a0 y1 (afc fu a0 y1 k_) a1:=rfl
def ain(fu:Nat)(a0:(Str×Int×Int×UInt8)):Option (Str×(Str×Int×Int×UInt8)):=
 ((abk fu a0 ([64]:Str)).bind fun(y1:Int)=>(if y1=(a0.1.length:Int)then some (([]:Str),a0)else(((afc fu a0 y1 fu a0.2.1)).bind fun(a3:(Unit⊕(Str×(Str×Int×Int×UInt8))))=>zaD (fun(a5:Unit)=>(((if y1=a0.2.1 then((aag fu a0 y1 (5:UInt8)).bind fun(a1:(Str×Int×Int×UInt8))=>some (a1.1,a1.2.1,a1.2.2.1,a1.2.2.2))else some (a0.1,a0.2.1,a0.2.2.1,a0.2.2.2))).bind fun(a4:(Str×Int×Int×UInt8))=>((acg fu a4 y1 (0:Int)).bind fun(a2:(Str×(Str×Int×Int×UInt8)))=>(gd (aap (y1+(1:Int)))<|some (a2.1,(a2.2.1,y1+(1:Int),a2.2.2.2.1,a2.2.2.2.2)))))) (fun q=>some q) a3)))
def abj(fu:Nat)(a0:(Str×Int×Int×UInt8))(a1:UInt8):Option Bool:=
 (((if a0.2.2.2=(0:UInt8)then(if a0.2.1<(a0.1.length:Int)then(gd (0≤a0.2.1∧a0.2.1<(a0.1.length:Int))<|some (decide ((at_ a0.1 a0.2.1)=a1)))else some false)else some false)).bind fun(a2:Bool)=>some a2)
def ami(fu:Nat)(a1:Str)(a5:UInt8)(a4:(List Str)→Int→Int→Option ((List Str)×Int))(a3:List Str)(a2:Int)(a0:Int):Option ((List Str)×Int):=
 (if a0<(a1.length:Int)then(gd (0≤a0∧a0<(a1.length:Int))<|(if(at_ a1 a0)=a5 then(gd (0≤a2∧a2≤a0∧a0≤(a1.length:Int))<|(gd ((a3.length+([sub a1 a2 a0]:List Str).length)*16≤140737488355328)<|(gd (aap (a0+(1:Int)))<|(gd (aap (a0+(1:Int)))<|(a4 (a3++([sub a1 a2 a0]:List Str)) (a0+(1:Int)) (a0+(1:Int)))))))else(gd (aap (a0+(1:Int)))<|(a4 a3 a2 (a0+(1:Int))))))else some (a3,a2))
def ajr(fu:Nat)(a3:Str)(a4:UInt8):Nat→(List Str)→Int→Int→Option ((List Str)×Int):=fun k_ a0 a1 a2=>loopF (fun(g:((List Str)×Int×Int)→Option ((List Str)×Int)) v=>ami fu a3 a4 (fun a0 a1 a2=>g (a0,a1,a2)) v.1 v.2.1 v.2.2) k_ (a0,a1,a2)
theorem auw{fu:Nat}{a0:Str}{a1:UInt8}{k_:Nat}{a2:List Str}{a3:Int}{a4:Int}:ajr fu a0 a1 (k_+1) a2 a3 a4=ami fu a0 a1 (ajr fu a0 a1 k_) a2 a3 a4:=rfl
def aqj(fu:Nat)(a1:Str)(a2:UInt8):Option (List Str):=
 (((ajr fu a1 a2 fu ([]:List Str) (0:Int) (0:Int))).bind fun(a0:((List Str)×Int))=>(gd (0≤a0.2∧a0.2≤(a1.length:Int))<|(gd ((a0.1.length+([zaA (zai a0.2) a1]:List Str).length)*16≤140737488355328)<|some (a0.1++([zaA (zai a0.2) a1]:List Str)))))
def ajt(fu:Nat)(a1:Str)(a2:Int→Option (Unit⊕(Str×Bool)))(a0:Int):Option (Unit⊕(Str×Bool)):=
 (if a0<(a1.length:Int)then(gd (0≤a0∧a0<(a1.length:Int))<|((akl fu (at_ a1 a0)).bind fun(a3:Int)=>(if a3<(0:Int)then some (.inr (([]:Str),false))else(gd (aap (a0+(1:Int)))<|(a2 (a0+(1:Int)))))))else some (.inl ()))
def apd(fu:Nat)(a1:Str):Nat→Int→Option (Unit⊕(Str×Bool)):=fun k_ a0=>loopF (fun(g:Int→Option (Unit⊕(Str×Bool))) v=>ajt fu a1 (fun a0=>g a0) v) k_ a0
theorem aro{fu:Nat}{a0:Str}{k_:Nat}{a1:Int}:apd fu a0 (k_+1) a1=ajt fu a0 (apd fu a0 k_) a1:=rfl
def ans(fu:Nat)(a1:Str→Option Str)(a0:Str):Option Str:=
 (((if(1:Int)<(a0.length:Int)then(gd (0≤(0:Int)∧(0:Int)<(a0.length:Int))<|some (decide ((at_ a0 (0:Int))=(48:UInt8))))else some false)).bind fun(a2:Bool)=>(bif a2 then(gd (0≤(1:Int)∧(1:Int)≤(a0.length:Int))<|(a1 (zaA (zai (1:Int)) a0)))else some a0))
def apc(fu:Nat):Nat→Str→Option Str:=fun k_ a0=>loopF (fun(g:Str→Option Str) v=>ans fu (fun a0=>g a0) v) k_ a0
theorem awp{fu:Nat}{k_:Nat}{a0:Str}:apc fu (k_+1) a0=ans fu (apc fu k_) a0:=rfl
def avi(fu:Nat)(a0:Str):Option (Str×Bool):=
 (((if(a0.length:Int)<(1:Int)then some true else some (decide ((4:Int)<(a0.length:Int))))).bind fun(v5:Bool)=>(bif v5 then some (([]:Str),false)else(((apd fu a0 fu (0:Int))).bind fun(a1:(Unit⊕(Str×Bool)))=>zaD (fun(a4:Unit)=>(((apc fu fu a0)).bind fun(a2:Str)=>((aec fu a2).bind fun(a3:Str)=>some (a3,true)))) (fun q=>some q) a1)))
end Go.Wk
