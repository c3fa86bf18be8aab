/-
  The law MessageKeeps holds for a message and texts of at most 1048576 letters together (part 1 of 8).
-/
import Derived.Tactics2
import Derived.Scope
import Derived.Below
import Derived.KernelRfl
import Derived.RangeFuncCalls
import Derived.RangeFuncLeaves
import Derived.TacticsIn
import Derived.Laws.Strings3
import Derived.Laws.Concat
import Derived.Laws.Small
import Derived.Laws.Slices
import Derived.Laws.BitsLemmas
import Derived.Laws.OwnMore
import Derived.Laws.AppendOwn
import Derived.Laws.CopyRow
import Derived.StillTail
import Derived.OrdersHeld
import Derived.Laws.BytesString
import Derived.Laws.MakeOwn
import Derived.WalkSmall
import Derived.Laws.Cover3
import Derived.Laws.StructEq
import Derived.RangeFuncRecord
import Derived.Lib.AppendStr
import Derived.Lib.Builder
import Derived.Lib.AppendZerosOnto
import Derived.Lib.Overlaps
import Derived.Lib.Bytealg
import Derived.Lib.IndexAny
import Derived.Lib.LastIndexByte
import Derived.Lib.IndexMore
import Derived.Lib.SlTrimSet
import Derived.Lib.TrimByte
import Derived.Lib.Strings
import Derived.Lib.ItoaNum
import Derived.Lib.Join
import Derived.Sort.Grow
set_option linter.unusedVariables false
namespace Go.Wk
open Go.RowKit (Below)
open List renaming map_cons -> zao
open Nat renaming beq -> zai, ble -> zam, blt -> zay, eq_of_beq_eq_true -> zaU, le_of_ble_eq_true -> zaP
def upd(F:Nat->Value)(d:Nat)(v:Value):Nat->Value:=fun t=>bif zai t d then v else F t
structure Md where
 n:Nat
 D:List Deferred
 ro:Option (Option Nat)
def fr(n:Md)(F:Nat->Value):Act:={tmps:=Array.ofFn (n:=n.n) fun i=>F i.val,defers:=n.D}
def evn(n:Md)(F:Nat->Value):Operand->Value
 |.tmp t=>bif zay t n.n then F t else undef
 |.const v=>v
 |.global g=>.pointer (some ⟨g,0,none⟩)
 |.func f=>.func (.func f) #[] #[]
def argF(l:List Value):Nat->Value:=fun t=>l.getD t undef
theorem _root_.Go.krf.{u}{α:Sort u}{a b:α}(h:a=b:=by kernel_rfl):a=b:=h
theorem nzz{α:Type}{x:α}{C:Prop}(h:none=some x):C:=nomatch h
theorem lsz{p:Prop}(h:p:=by(try simp only [List.length_set])<;>first|rfl|omega):p:=h
theorem lsy{p:Prop}(h:p:=by(try simp only [List.length_set])<;>first|rfl|omega|simp):p:=h
theorem nbe{a b:Nat}(h:zam a b=true:=by rfl):a<=b:=zaP h
theorem ksf{α:Type}{a b:α}(h:a=b:=by kernel_rfl):some a=some b:=congrArg some h
theorem fkx(fk:Nat)(h:0<fk:=by omega):∃m,fk=m+1:=⟨fk-1,by omega⟩
theorem omg{p:Prop}(h:p:=by omega):p:=h
theorem fr_get(n:Md)(F:Nat->Value)(t:Nat):(fr n F).tmps.getD t undef=bif zay t n.n then F t else undef:=by
 unfold fr;by_cases h:t<n.n
 ·have hb:zay t n.n=true:=by simpa [Nat.blt_eq] using h
  simp [h,hb]
 ·have hb:zay t n.n=false:=by
   cases hx:zay t n.n
   ·rfl
   ·exact absurd (by simpa [Nat.blt_eq] using hx) h
  simp [h,hb]
theorem afa(n:Md)(F:Nat->Value):(fr n F).eval=evn n F:=by
 funext o
 cases o with
 |tmp t=>exact fr_get n F t
 |const v=>rfl
 |global g=>rfl
 |func f=>rfl
theorem upd_same(F:Nat->Value)(d:Nat)(v:Value):upd F d v d=v:=by simp [upd]
theorem upd_ne(F:Nat->Value)(d:Nat)(v:Value)(t:Nat)(h:t≠d):upd F d v t=F t:=by
 have:zai t d=false:=by
  cases hx:zai t d
  ·rfl
  ·exact absurd (zaU hx) h
 simp [upd,this]
theorem fr_put(n:Md)(F:Nat->Value)(d:Nat)(v:Value):(fr n F).put (some d) v=fr n (upd F d v):=by
 unfold fr Act.put;simp only [Act.mk.injEq,and_true];apply Array.ext
 ·simp
 ·intro i h1 h2;simp at h1 h2
  by_cases hid:i=d
  ·subst hid;simp [upd_same]
  ·rw [Array.getElem_setIfInBounds_ne (by simpa using h1) (fun e=>hid e.symm)];simp [upd_ne _ _ _ _ hid]
theorem fr_args(args:List Value)(n:Nat)(h:args.length<=n):
  ({tmps:=args.toArray++Array.replicate (n-args.toArray.size) undef,defers:=[]}:Act)=fr ⟨n,[],none⟩ (argF args):=by
 unfold fr argF;simp only [Act.mk.injEq,and_true];apply Array.ext
 ·simp;omega
 ·intro i h1 h2;simp at h1 h2
  simp only [Array.getElem_append,Array.getElem_ofFn,List.getElem_toArray,Array.getElem_replicate];by_cases hi:i<args.length
  ·simp [hi]
  ·simp [hi]
abbrev fen(x:Option Nat):Fence:={Fence.wide with round:=x}
def WR(P:Program)(r:Option (Option Nat))(ops:Array Oper)(Q:Exit->Act->World->Prop)(l:List Oper)(a:Act)(w:World):Prop:=
 match r with
 |none=>wpList P ops Q l a w
 |some x=>wpListIn (fen x) 0 P ops Q l a w
def CC(P:Program)(r:Option (Option Nat))(Q:Exit->Act->World->Prop)(c:Code)(a:Act)(w:World):Prop:=
 match r with
 |none=>c.wp P Q a w
 |some x=>c.wpIn (fen x) 0 P Q a w
def W(P:Program)(n:Md)(ops:Array Oper)(Q:Exit->Act->World->Prop)(l:List Oper)(F:Nat->Value)(w:World):Prop:=WR P n.ro ops Q l (fr n F) w
def C(P:Program)(n:Md)(Q:Exit->Act->World->Prop)(c:Code)(F:Nat->Value)(w:World):Prop:=CC P n.ro Q c (fr n F) w
def SeqQ(P:Program)(n:Md)(y:Code)(Q:Exit->Act->World->Prop):Exit->Act->World->Prop:=Exit.then (CC P n.ro Q y) Q
def CR(P:Program)(f:FuncId)(args:List Value)(w:World)(R:Value->World->Prop):Prop:=
 Calls P f args.toArray w fun e w'=>∃v,e=.returned v/\R v w'
theorem CR.mono{P:Program}{f:FuncId}{args:List Value}{w:World}{R R':Value->World->Prop}(h:CR P f args w R)(hr:∀v w',R v w'->R' v w'):CR P f args w R':=
 Calls.mono h fun _ _ ⟨v,e,r⟩=>⟨v,e,hr v _ r⟩
section
variable {P : Program} {n : Md} {ops : Array Oper} {Q : Exit -> Act -> World -> Prop} {F : Nat -> Value} {w : World}
theorem cc_mono{r:Option (Option Nat)}{c:Code}{Q':Exit->Act->World->Prop}{a:Act}(h:CC P r Q c a w)(hq:∀e a w,Q e a w->Q' e a w):CC P r Q' c a w:=by
 cases r with
 |none=>exact wp_mono h hq
 |some x=>exact wpIn_mono h hq
theorem enter{k:Nat}{f:FuncId}{fn:Func}{c:Code}{args:List Value}{R:Value->World->Prop}(hf:P.funcs[f]? =some fn)(hb:fn.body=some c)(hn:fn.ntmps=k)(hl:args.length<=k)
  (h:C P ⟨k,[],none⟩ (bodyPost P fn fun e w'=>∃v,e=.returned v/\R v w') c (argF args) w):CR P f args w R:=by
 refine calls_of_wp hf hb ?_;rw [hn,fr_args args k hl];exact h
theorem ael{x y:Code}(h:C P n (SeqQ P n y Q) x F w):C P n Q (.seq x y) F w:=by
 obtain⟨k,D,ro⟩:=n;cases ro with
 |none=>exact wp_seq h
 |some r=>exact wpIn_seq h
theorem c_skip(h:Q .normal (fr n F) w):C P n Q .skip F w:=by
 obtain⟨k,D,ro⟩:=n;cases ro with
 |none=>exact wp_skip h
 |some r=>exact wpIn_skip h
theorem c_label{l:Nat}(h:Q .normal (fr n F) w):C P n Q (.label l) F w:=by
 obtain⟨k,D,ro⟩:=n;cases ro with
 |none=>exact wp_label h
 |some r=>exact wpIn_label h
theorem adz{id:Nat}(h:Q (.exit id) (fr n F) w):C P n Q (.exit id) F w:=by
 obtain⟨k,D,ro⟩:=n;cases ro with
 |none=>exact wp_exit h
 |some r=>exact wpIn_exit h
theorem c_ret(h:Q .ret (fr n F) w):C P n Q .ret F w:=by
 obtain⟨k,D,ro⟩:=n;cases ro with
 |none=>exact wp_ret h
 |some r=>exact wpIn_ret h
theorem c_block{id:Nat}{c:Code}(h:C P n (Exit.inBlock id Q) c F w):C P n Q (.block id c) F w:=by
 obtain⟨k,D,ro⟩:=n;cases ro with
 |none=>exact wp_block h
 |some r=>exact wpIn_block h
theorem c_scope{k:Nat}{D:List Deferred}{c:Code}(h:C P ⟨k,D,none⟩ (Exit.noGoto Q) c F w):C P ⟨k,D,none⟩ Q (.scope c) F w:=wp_scope_straight h
theorem n_normal(h:Q .normal (fr n F) w):Exit.noGoto Q .normal (fr n F) w:=h
theorem n_ret(h:Q .ret (fr n F) w):Exit.noGoto Q .ret (fr n F) w:=h
theorem n_exit{id:Nat}(h:Q (.exit id) (fr n F) w):Exit.noGoto Q (.exit id) (fr n F) w:=h
theorem abg{id:Nat}{l:List Oper}(h:W P n l.toArray Q l F w):C P n Q (.region id l.toArray false) F w:=by
 obtain⟨k,D,ro⟩:=n;cases ro with
 |none=>exact wp_region_lit h
 |some r=>exact wpIn_region_lit h
theorem c_true{c:Operand}{x y:Code}(hc:evn n F c=.bool true)(h:C P n Q x F w):C P n Q (.cond c x y) F w:=by
 obtain⟨k,D,ro⟩:=n;cases ro with
 |none=>exact wp_cond_true (by rw [afa];exact hc) h
 |some r=>exact wpIn_cond_true (by rw [afa];exact hc) h
theorem c_false{c:Operand}{x y:Code}(hc:evn n F c=.bool false)(h:C P n Q y F w):C P n Q (.cond c x y) F w:=by
 obtain⟨k,D,ro⟩:=n;cases ro with
 |none=>exact wp_cond_false (by rw [afa];exact hc) h
 |some r=>exact wpIn_cond_false (by rw [afa];exact hc) h
theorem c_bool{c:Operand}{x y:Code}{b:Bool}(hc:evn n F c=.bool b)(ht:b=true->C P n Q x F w)(hf:b=false->C P n Q y F w):C P n Q (.cond c x y) F w:=by
 cases b with
 |true=>exact c_true hc (ht rfl)
 |false=>exact c_false hc (hf rfl)
theorem c_kt{c:Operand}{x y:Code}{b:Bool}(hc:evn n F c=.bool b)(hb:b=true)(h:C P n Q x F w):C P n Q (.cond c x y) F w:=c_true (by rw [hc,hb]) h
theorem c_kf{c:Operand}{x y:Code}{b:Bool}(hc:evn n F c=.bool b)(hb:b=false)(h:C P n Q y F w):C P n Q (.cond c x y) F w:=c_false (by rw [hc,hb]) h
theorem c_dec{c:Operand}{x y:Code}{p:Prop}[Decidable p](hc:evn n F c=.bool (decide p))(ht:p->C P n Q x F w)(hf:¬p->C P n Q y F w):C P n Q (.cond c x y) F w:=
 c_bool hc (fun h=>ht (of_decide_eq_true h)) (fun h=>hf (of_decide_eq_false h))
theorem c_ndec{c:Operand}{x y:Code}{p:Prop}[Decidable p](hc:evn n F c=.bool (!decide p))(ht:¬p->C P n Q x F w)(hf:p->C P n Q y F w):C P n Q (.cond c x y) F w:=
 c_bool hc (fun h=>ht (by simpa using h)) (fun h=>hf (by simpa using h))
theorem acg{k k':Nat}{D D':List Deferred}{ro:Option (Option Nat)}{y:Code}(h:C P ⟨k,D,ro⟩ Q y F w):SeqQ P ⟨k',D',ro⟩ y Q .normal (fr ⟨k,D,ro⟩ F) w:=h
theorem s_ret{m:Md}{y:Code}(h:Q .ret (fr n F) w):SeqQ P m y Q .ret (fr n F) w:=h
theorem aej{m:Md}{y:Code}{id:Nat}(h:Q (.exit id) (fr n F) w):SeqQ P m y Q (.exit id) (fr n F) w:=h
theorem q_loop{K:Act->World->Prop}(h:K (fr n F) w):Exit.then K Q .normal (fr n F) w:=h
theorem acm{K:Act->World->Prop}(h:Q .ret (fr n F) w):Exit.then K Q .ret (fr n F) w:=h
theorem afq{K:Act->World->Prop}{id:Nat}(h:Q (.exit id) (fr n F) w):Exit.then K Q (.exit id) (fr n F) w:=h
theorem b_normal{id:Nat}(h:Q .normal (fr n F) w):Exit.inBlock id Q .normal (fr n F) w:=h
theorem b_ret{id:Nat}(h:Q .ret (fr n F) w):Exit.inBlock id Q .ret (fr n F) w:=h
theorem aek{id:Nat}(h:Q .normal (fr n F) w):Exit.inBlock id Q (.exit id) (fr n F) w:=by simpa [Exit.inBlock] using h
theorem b_past{id id':Nat}(hne:zai id' id=false)(h:Q (.exit id') (fr n F) w):Exit.inBlock id Q (.exit id') (fr n F) w:=by
 have:¬id'=id:=fun e=>by subst e;simp at hne
 simpa [Exit.inBlock,this] using h
def agrees(F:Nat->Value):List (Nat×Value)->Prop
 |[]=>True
 |(t,v)::l=>F t=v/\agrees F l
def app:List (Nat×Value)->(Nat->Value)->Nat->Value
 |[],G=>G
 |(t,v)::l,G=>upd (app l G) t v
theorem upd_eq{F:Nat->Value}{t:Nat}{v:Value}(h:F t=v):upd F t v=F:=by
 funext s
 by_cases hs:s=t
 ·subst hs;rw [upd_same,h]
 ·rw [upd_ne _ _ _ _ hs]
theorem app_eq:∀(l:List (Nat×Value)) (F:Nat->Value),agrees F l->app l F=F
 |[],_,_=>rfl
 |(t,v)::l,F,h=>by simp only [app];rw [app_eq l F h.2];exact upd_eq h.1
theorem c_loop{σ:Type}{c:Code}(L:σ->List (Nat×Value))(wd:σ->World->Prop)(m:σ->Nat)(s0:σ)(h0:agrees F (L s0))(hw0:wd s0 w)
  (round:∀s w G,wd s w->C P n (Exit.then (fun a' w'=>∃s' F',a'=fr n F'/\agrees F' (L s')/\wd s' w'/\m s'<m s) Q) c (app (L s) G) w):
  C P n Q (.loop c) F w:=by
 obtain⟨nn,D,ro⟩:=n;cases ro with
 |none=>
  have key:∀k:Nat,∀(b:Frame) (kk:List Item) (cs:List Frame) (s:σ) (F:Nat->Value) (w:World),m s=k->agrees F (L s)->wd s w->
    ∃e a' w',Q e a' w'/\Arrives P (lone (b.at (fr ⟨nn,D,none⟩ F) (.code c::.inLoop c::kk)) cs w) b kk cs e a' w':=by
   intro k;induction k using Nat.strongRecOn with
   |_ k ih=>
    intro b kk cs s F w hk ha hw;have hr:=round s w F hw;rw [app_eq _ _ ha]at hr;obtain⟨e,a₁,w₁,hq,harr⟩:=hr b (.inLoop c::kk) cs;cases e with
    |normal=>
     obtain⟨s',F',rfl,ha',hw',hlt⟩:=hq;obtain⟨e₂,a₂,w₂,hq₂,harr₂⟩:=ih (m s') (hk▸hlt) b kk cs s' F' w₁ rfl ha' hw';exact⟨e₂,a₂,w₂,hq₂,.of_steps (Steps.trans harr (.one step_inLoop)) harr₂⟩
    |exit id=>exact⟨_,a₁,w₁,hq,.pass (x:=.inLoop c) rfl (fun _ _=>.inl (by simp)) harr⟩
    |goto l=>exact⟨_,a₁,w₁,hq,.pass (x:=.inLoop c) rfl (fun _ _=>.inl (by simp)) harr⟩
    |ret=>exact⟨_,a₁,w₁,hq,.pass (x:=.inLoop c) rfl (fun _ _=>.inl (by simp)) harr⟩
    |panic ch=>exact⟨_,a₁,w₁,hq,.pass (x:=.inLoop c) rfl (fun _ _=>.inl (by simp)) harr⟩
    |outgrown=>exact⟨_,a₁,w₁,hq,.pass (x:=.inLoop c) rfl (fun _ _=>.inl (by simp)) harr⟩
  intro b kk cs;obtain⟨e,a',w',hq,harr⟩:=key _ b kk cs s0 F w rfl h0 hw0;exact⟨e,a',w',hq,.of_steps (.one step_loop) harr⟩
 |some x=>
  intro b kk cs hro hb hr;have key:∀k:Nat,∀(s:σ) (F:Nat->Value) (w:World),m s=k->agrees F (L s)->wd s w->
    ∃e a' w',Q e a' w'/\ArrivesIn (Machine.fenced P (fen x)) P (lone (b.atR (fr ⟨nn,D,some x⟩ F) (.code c::.inLoop c::kk)) cs w) b kk cs e a' w':=by
   intro k;induction k using Nat.strongRecOn with
   |_ k ih=>
    intro s F w hk ha hw;have hr2:=round s w F hw;rw [app_eq _ _ ha]at hr2;obtain⟨e,a₁,w₁,hq,harr⟩:=hr2 b (.inLoop c::kk) cs hro hb hr;cases e with
    |normal=>
     obtain⟨s',F',rfl,ha',hw',hlt⟩:=hq;obtain⟨e₂,a₂,w₂,hq₂,harr₂⟩:=ih (m s') (hk▸hlt) s' F' w₁ rfl ha' hw';exact⟨e₂,a₂,w₂,hq₂,.of_steps (StepsIn.trans harr (.one (fenced_calm hb hr rfl) stepR_inLoop)) harr₂⟩
    |exit id=>exact⟨_,a₁,w₁,hq,.pass (x:=.inLoop c) rfl (fun _ _=>.inl (by simp)) harr⟩
    |goto l=>exact⟨_,a₁,w₁,hq,.pass (x:=.inLoop c) rfl (fun _ _=>.inl (by simp)) harr⟩
    |ret=>exact⟨_,a₁,w₁,hq,.pass (x:=.inLoop c) rfl (fun _ _=>.inl (by simp)) harr⟩
    |panic ch=>exact⟨_,a₁,w₁,hq,.pass (x:=.inLoop c) rfl (fun _ _=>.inl (by simp)) harr⟩
    |outgrown=>exact⟨_,a₁,w₁,hq,.pass (x:=.inLoop c) rfl (fun _ _=>.inl (by simp)) harr⟩
  obtain⟨e,a',w',hq,harr⟩:=key _ s0 F w rfl h0 hw0;exact⟨e,a',w',hq,.of_steps (.one (fenced_calm hb hr rfl) stepR_loop) harr⟩
theorem c_mono{c:Code}{Q':Exit->Act->World->Prop}(h:C P n Q c F w)(hq:∀e a w,Q e a w->Q' e a w):C P n Q' c F w:=cc_mono h hq
def keepL(lv:List Nat)(A G:Nat->Value):Nat->Value:=fun t=>bif lv.any (zai t)then A t else G t
theorem keepL_eq{A:Nat->Value}:∀{lv:List Nat} {F:Nat->Value},lv.map F=lv.map A->keepL lv A F=F:=by
 intro lv F h
 funext t
 unfold keepL;cases ht:lv.any (zai t)with
 |false=>rfl
 |true=>
  obtain⟨x,hx,hb⟩:=List.any_eq_true.1 ht
  have:=zaU hb
  subst this;exact((List.map_inj_left.1 h) t hx).symm
theorem cut{σ:Type}{x y:Code}(lv:List Nat)(L:σ->List (Nat×Value))(wd:σ->World->Prop)
  (hx:C P n (Exit.then (fun a' w'=>∃s' F',a'=fr n F'/\lv.map F'=lv.map (app (L s') F)/\wd s' w') Q) x F w)
  (hy:∀s w G,wd s w->C P n Q y (keepL lv (app (L s) F) G) w):C P n Q (.seq x y) F w:=by
 refine ael (cc_mono hx fun e a w' h=> ?_);cases e with
 |normal=>
  obtain⟨s',F',rfl,ha,hw⟩:=h
  have:=hy s' w' F' hw
  rw [keepL_eq ha]at this;exact this
 |exit id=>exact h
 |goto l=>exact h
 |ret=>exact h
 |panic ch=>exact h
 |outgrown=>exact h
theorem lpG{σ:Type}{c:Code}(lv:List Nat)(L:σ->List (Nat×Value))(wd:σ->World->Prop)(m:σ->Nat)(s0:σ)(hw0:wd s0 w)
  (round:∀s w G,wd s w->C P n (Exit.then (fun a' w'=>∃s' F',a'=fr n F'/\lv.map F'=lv.map (app (L s') F)/\wd s' w'/\m s'<m s) Q) c (keepL lv (app (L s) F) G) w)
  (h0:lv.map F=lv.map (app (L s0) F):=by kernel_rfl):C P n Q (.loop c) F w:=by
 have ag:∀(A:Nat->Value) (l:List Nat) (G:Nat->Value),agrees G (l.map fun t=>(t,A t))↔l.map G=l.map A:=by
  intro A l G;induction l with
  |nil=>simp [agrees]
  |cons t l ih=>simp [agrees,ih]
 have ap:∀(A:Nat->Value) (l:List Nat) (G:Nat->Value),app (l.map fun t=>(t,A t)) G=keepL l A G:=by
  intro A l G;induction l with
  |nil=>rfl
  |cons t l ih=>
   funext u
   simp only [zao,app,upd,ih,keepL,List.any_cons];by_cases hut:u=t
   ·subst hut;simp
   ·have:zai u t=false:=by
     cases hx:zai u t
     ·rfl
     ·exact absurd (zaU hx) hut
    simp [this]
 refine c_loop (σ:=σ) (fun s=>lv.map fun t=>(t,app (L s) F t)) wd m s0 ((ag _ _ _).2 h0) hw0 fun s w G hw=> ?_
 rw [ap];refine cc_mono (round s w G hw) fun e a w' h=> ?_
 cases e with
 |normal=>
  obtain⟨s',F',h1,h2,h3,h4⟩:=h;exact⟨s',F',h1,(ag _ _ _).2 h2,h3,h4⟩
 |exit id=>exact h
 |goto l=>exact h
 |ret=>exact h
 |panic ch=>exact h
 |outgrown=>exact h
theorem aeo(h:Q .normal (fr n F) w):W P n ops Q [] F w:=by
 obtain⟨k,D,ro⟩:=n;cases ro with
 |none=>exact h
 |some r=>exact h
theorem ajg{o:Oper}{ρ:Operand->Value}{x:Next}{w':World}(ro:Option Nat)(h:(execOp ρ o).run P w=.ok x w')(hx:∀d,x≠.defer d):o.semAt ro ρ=execOp ρ o:=by
 refine Oper.semAt_eq ro ρ o fun c hc=> ?_
 unfold execOp at h;rw [hc]at h;simp only [Sem.run_bind]at h;cases hr:(resolve ρ c o.type).run P w with
 |ok d w1=>rw [hr]at h;simp [Result.andThen]at h;exact hx d h.1.symm
 |halt d w1=>rw [hr]at h;simp [Result.andThen]at h
theorem abn{o:Oper}{rest:List Oper}{d:Nat}{v:Value}{w':World}(hg:o.guard=none)(hd:o.dst=some d)
  (hrun:(execOp (evn n F) o).run P w=.ok (.value v) w') (h:W P n ops Q rest (upd F d v) w'):W P n ops Q (o::rest) F w:=by
 obtain⟨k,D,ro⟩:=n;cases ro with
 |none=>
  refine wpList_plain hg fun K hK=> ?_
  unfold Oper.wp;rw [afa,hrun,Oper.upon_value,hd];refine hK _ _ ?_;rw [fr_put];exact h
 |some r=>
  refine wpListIn_plain hg fun K hK=>⟨fun _ _=>trivial, ?_⟩
  rw [afa,ajg _ hrun (fun d e=>by cases e),hrun,Oper.uponIn_value,hd];refine hK _ _ ?_;rw [fr_put];exact h
theorem w_skip{o:Oper}{rest:List Oper}{w':World}(hg:o.guard=none)(hd:o.dst=none)
  (hrun:(execOp (evn n F) o).run P w=.ok .skip w') (h:W P n ops Q rest F w'):W P n ops Q (o::rest) F w:=by
 obtain⟨k,D,ro⟩:=n;cases ro with
 |none=>
  refine wpList_plain hg fun K hK=> ?_
  unfold Oper.wp;rw [afa,hrun,Oper.upon_skip,hd];exact hK _ _ h
 |some r=>
  refine wpListIn_plain hg fun K hK=>⟨fun _ _=>trivial, ?_⟩
  rw [afa,ajg _ hrun (fun d e=>by cases e),hrun,Oper.uponIn_skip,hd];exact hK _ _ h
theorem w_enter{o:Oper}{rest:List Oper}{f:FuncId}{vs:List Value}{R:Value->World->Prop}(hg:o.guard=none)
  (hrun:(execOp (evn n F) o).run P w=.ok (.enter f vs.toArray) w) (hc:CR P f vs w R) (h:∀v w',R v w'->WR P n.ro ops Q rest ((fr n F).put o.dst v) w'):W P n ops Q (o::rest) F w:=by
 obtain⟨k,D,ro⟩:=n;cases ro with
 |none=>
  refine wpList_plain hg fun K hK=> ?_
  unfold Oper.wp;rw [afa,hrun,Oper.upon_enter];refine Calls.mono hc ?_;rintro e w' ⟨v,rfl,hv⟩
  exact hK _ _ (h v w' hv)
 |some r=>
  refine wpListIn_plain hg fun K hK=>⟨fun _ _=>trivial, ?_⟩
  rw [afa,ajg _ hrun (fun d e=>by cases e),hrun,Oper.uponIn_enter];refine⟨fun h=>absurd h Bool.false_ne_true, ?_⟩
  refine(callsIn_wide (n:=0)).2 (Calls.mono hc ?_)
  rintro e w' ⟨v,rfl,hv⟩
  exact hK _ _ (h v w' hv)
theorem ahv(ops:Array Oper)(g:Nat)(dg:Nat)(h1:(ops[g]?).bind (·.dst)=some dg)(h3:zay dg n.n=true):
  yielded ops (fr n F).tmps g=match F dg with|.bool b=>some b|_=>none:=by
 have hlt:dg<n.n:=by simpa [Nat.blt_eq] using h3
 unfold yielded;simp [h1,fr,hlt]
 cases F dg<;>rfl
theorem w_gyes{dst:Option Nat}{op:Op}{ty:TypeId}{pos:String}{after:Array Edge}{g:Nat}{b:Bool}{rest:List Oper}(dg:Nat)
  (h1:(ops[g]?).bind (·.dst)=some dg) (h3:zay dg n.n=true) (hv:F dg=.bool b)
  (h:W P n ops Q (⟨dst,op,ty,pos,after,none⟩::rest) F w):W P n ops Q (⟨dst,op,ty,pos,after,some (g,b)⟩::rest) F w:=by
 have hw:Region.wanted ⟨dst,op,ty,pos,after,some (g,b)⟩ (yielded ops (fr n F).tmps)=true:=by
  unfold Region.wanted;simp only [ahv ops g dg h1 h3,hv];simp
 obtain⟨k,D,ro⟩:=n;cases ro with
 |none=>
  simp only [W,WR]at h⊢;unfold wpList at h⊢;rw [if_pos hw];rw [if_pos (by simp [Region.wanted])]at h;exact h
 |some r=>
  simp only [W,WR]at h⊢;unfold wpListIn at h⊢;rw [if_pos hw];rw [if_pos (by simp [Region.wanted])]at h;exact h
theorem w_gno{d:Nat}{op:Op}{ty:TypeId}{pos:String}{after:Array Edge}{g:Nat}{b:Bool}{rest:List Oper}(dg:Nat)
  (h1:(ops[g]?).bind (·.dst)=some dg) (h3:zay dg n.n=true) (hv:F dg=.bool (!b))
  (h:W P n ops Q rest (upd F d undef) w):W P n ops Q (⟨some d,op,ty,pos,after,some (g,b)⟩::rest) F w:=by
 have hw:¬Region.wanted ⟨some d,op,ty,pos,after,some (g,b)⟩ (yielded ops (fr n F).tmps)=true:=by
  unfold Region.wanted;simp only [ahv ops g dg h1 h3,hv];simp
 obtain⟨k,D,ro⟩:=n;cases ro with
 |none=>
  simp only [W,WR]at h⊢;unfold wpList;rw [if_neg hw];show wpList P ops Q rest ((fr ⟨k,D,none⟩ F).put (some d) undef) w;rw [fr_put];exact h
 |some r=>
  simp only [W,WR]at h⊢;unfold wpListIn;rw [if_neg hw];refine⟨fun _ _=>trivial, ?_⟩
  show wpListIn (fen r) 0 P ops Q rest ((fr ⟨k,D,some r⟩ F).put (some d) undef) w;rw [fr_put];exact h
theorem w_gun{d:Nat}{op:Op}{ty:TypeId}{pos:String}{after:Array Edge}{g:Nat}{b:Bool}{rest:List Oper}(dg:Nat)
  (h1:(ops[g]?).bind (·.dst)=some dg) (h3:zay dg n.n=true) (hv:F dg=undef)
  (h:W P n ops Q rest (upd F d undef) w):W P n ops Q (⟨some d,op,ty,pos,after,some (g,b)⟩::rest) F w:=by
 have hw:¬Region.wanted ⟨some d,op,ty,pos,after,some (g,b)⟩ (yielded ops (fr n F).tmps)=true:=by
  unfold Region.wanted;simp only [ahv ops g dg h1 h3,hv];simp [undef]
 obtain⟨k,D,ro⟩:=n;cases ro with
 |none=>
  simp only [W,WR]at h⊢;unfold wpList;rw [if_neg hw];show wpList P ops Q rest ((fr ⟨k,D,none⟩ F).put (some d) undef) w;rw [fr_put];exact h
 |some r=>
  simp only [W,WR]at h⊢;unfold wpListIn;rw [if_neg hw];refine⟨fun _ _=>trivial, ?_⟩
  show wpListIn (fen r) 0 P ops Q rest ((fr ⟨k,D,some r⟩ F).put (some d) undef) w;rw [fr_put];exact h
section
variable {d : Nat} {ty : TypeId} {pos : String} {after : Array Edge} {rest : List Oper}
theorem abj{x:Operand}(v:Value)(hx:evn n F x=v)(h:W P n ops Q rest (upd F d v) w):W P n ops Q (⟨some d,.move x,ty,pos,after,none⟩::rest) F w:=
 abn rfl rfl (by rw [<-hx];rfl) h
theorem aem{x:Operand}(v:Value)(hx:evn n F x=v)(h:W P n ops Q rest (upd F d v) w):W P n ops Q (⟨some d,.assign x,ty,pos,after,none⟩::rest) F w:=
 abn rfl rfl (by rw [<-hx];rfl) h
theorem w_move_bool{x:Operand}(b:Bool)(hx:evn n F x=.bool b)(ht:b=true->W P n ops Q rest (upd F d (.bool true)) w)(hf:b=false->W P n ops Q rest (upd F d (.bool false)) w):
  W P n ops Q (⟨some d,.move x,ty,pos,after,none⟩::rest) F w:=by
 cases b with
 |true=>exact abj _ hx (ht rfl)
 |false=>exact abj _ hx (hf rfl)
theorem w_move_dec{x:Operand}(p:Prop)[Decidable p](hx:evn n F x=.bool (decide p))(ht:p->W P n ops Q rest (upd F d (.bool true)) w)(hf:¬p->W P n ops Q rest (upd F d (.bool false)) w):
  W P n ops Q (⟨some d,.move x,ty,pos,after,none⟩::rest) F w:=
 w_move_bool _ hx (fun h=>ht (of_decide_eq_true h)) (fun h=>hf (of_decide_eq_false h))
theorem w_move_ndec{x:Operand}(p:Prop)[Decidable p](hx:evn n F x=.bool (!decide p))(ht:¬p->W P n ops Q rest (upd F d (.bool true)) w)(hf:p->W P n ops Q rest (upd F d (.bool false)) w):
  W P n ops Q (⟨some d,.move x,ty,pos,after,none⟩::rest) F w:=
 w_move_bool _ hx (fun h=>ht (by simpa using h)) (fun h=>hf (by simpa using h))
theorem x_pick{c a b:Operand}(t:Bool)(v:Value)(hc:evn n F c=.bool t)(hv:(bif t then evn n F a else evn n F b)=v):(execOp (evn n F) (⟨some d,.pick c a b,ty,pos,after,none⟩:Oper)).run P w=.ok (.value v) w:=by
 simp only [execOp,hc];rw [<-hv];cases t<;>rfl
theorem x_not{x:Operand}{t:TypeId}(b:Bool)(hx:evn n F x=.bool b):(execOp (evn n F) (⟨some d,.unOp .not t x,ty,pos,after,none⟩:Oper)).run P w=.ok (.value (.bool (!b))) w:=by
 simp only [execOp,hx];rfl
theorem w_not{x:Operand}{t:TypeId}(b:Bool)(hx:evn n F x=.bool b)(h:W P n ops Q rest (upd F d (.bool (!b))) w):W P n ops Q (⟨some d,.unOp .not t x,ty,pos,after,none⟩::rest) F w:=
 abn rfl rfl (x_not b hx) h
structure afr (a:Int):Prop where
 lo: -9223372036854775808<=a
 hi:a<=9223372036854775807
theorem wrap64_id{x:Int}(h1: -9223372036854775808<=x)(h2:x<=9223372036854775807):IntKind.i64.wrap x=x:=by
 rw [IntKind.wrap_i64];omega
theorem x_add{x y:Operand}{t t':TypeId}(k:IntKind)(a b:Int)(hx:evn n F x=.int k a)(hy:evn n F y=.int k b):(execOp (evn n F) (⟨some d,.binOp .add t x y t',ty,pos,after,none⟩:Oper)).run P w=.ok (.value (.int k (k.wrap (a+b)))) w:=by
 simp only [execOp,hx,hy,binOp,ne_eq,not_true_eq_false,if_false];rfl
theorem x_add64{x y:Operand}{t t':TypeId}(a b:Int)(hx:evn n F x=.int .i64 a)(hy:evn n F y=.int .i64 b)(h1:afr (a+b)):(execOp (evn n F) (⟨some d,.binOp .add t x y t',ty,pos,after,none⟩:Oper)).run P w=.ok (.value (.int .i64 (a+b))) w:=by
 rw [x_add .i64 a b hx hy,wrap64_id h1.1 h1.2]
theorem aar{x y:Operand}{t t':TypeId}(a b:Int)(hx:evn n F x=.int .i64 a)(hy:evn n F y=.int .i64 b)(h1:afr (a+b))(h:W P n ops Q rest (upd F d (.int .i64 (a+b))) w):W P n ops Q (⟨some d,.binOp .add t x y t',ty,pos,after,none⟩::rest) F w:=
 abn rfl rfl (x_add64 a b hx hy h1) h
theorem x_sub{x y:Operand}{t t':TypeId}(k:IntKind)(a b:Int)(hx:evn n F x=.int k a)(hy:evn n F y=.int k b):(execOp (evn n F) (⟨some d,.binOp .sub t x y t',ty,pos,after,none⟩:Oper)).run P w=.ok (.value (.int k (k.wrap (a-b)))) w:=by
 simp only [execOp,hx,hy,binOp,ne_eq,not_true_eq_false,if_false];rfl
theorem x_sub64{x y:Operand}{t t':TypeId}(a b:Int)(hx:evn n F x=.int .i64 a)(hy:evn n F y=.int .i64 b)(h1:afr (a-b)):(execOp (evn n F) (⟨some d,.binOp .sub t x y t',ty,pos,after,none⟩:Oper)).run P w=.ok (.value (.int .i64 (a-b))) w:=by
 rw [x_sub .i64 a b hx hy,wrap64_id h1.1 h1.2]
theorem w_sub64{x y:Operand}{t t':TypeId}(a b:Int)(hx:evn n F x=.int .i64 a)(hy:evn n F y=.int .i64 b)(h1:afr (a-b))(h:W P n ops Q rest (upd F d (.int .i64 (a-b))) w):W P n ops Q (⟨some d,.binOp .sub t x y t',ty,pos,after,none⟩::rest) F w:=
 abn rfl rfl (x_sub64 a b hx hy h1) h
theorem x_mul{x y:Operand}{t t':TypeId}(k:IntKind)(a b:Int)(hx:evn n F x=.int k a)(hy:evn n F y=.int k b):(execOp (evn n F) (⟨some d,.binOp .mul t x y t',ty,pos,after,none⟩:Oper)).run P w=.ok (.value (.int k (k.wrap (a*b)))) w:=by
 simp only [execOp,hx,hy,binOp,ne_eq,not_true_eq_false,if_false];rfl
theorem x_lss{x y:Operand}{t t':TypeId}(k:IntKind)(a b:Int)(hx:evn n F x=.int k a)(hy:evn n F y=.int k b):(execOp (evn n F) (⟨some d,.binOp .lss t x y t',ty,pos,after,none⟩:Oper)).run P w=.ok (.value (.bool (decide (a<b)))) w:=by
 simp only [execOp,hx,hy,binOp,ne_eq,not_true_eq_false,if_false];rfl
theorem x_leq{x y:Operand}{t t':TypeId}(k:IntKind)(a b:Int)(hx:evn n F x=.int k a)(hy:evn n F y=.int k b):(execOp (evn n F) (⟨some d,.binOp .leq t x y t',ty,pos,after,none⟩:Oper)).run P w=.ok (.value (.bool (decide (a<=b)))) w:=by
 simp only [execOp,hx,hy,binOp,ne_eq,not_true_eq_false,if_false];rfl
theorem x_gtr{x y:Operand}{t t':TypeId}(k:IntKind)(a b:Int)(hx:evn n F x=.int k a)(hy:evn n F y=.int k b):(execOp (evn n F) (⟨some d,.binOp .gtr t x y t',ty,pos,after,none⟩:Oper)).run P w=.ok (.value (.bool (decide (b<a)))) w:=by
 simp only [execOp,hx,hy,binOp,ne_eq,not_true_eq_false,if_false];rfl
theorem w_gtr{x y:Operand}{t t':TypeId}(k:IntKind)(a b:Int)(hx:evn n F x=.int k a)(hy:evn n F y=.int k b)(h:W P n ops Q rest (upd F d (.bool (decide (b<a)))) w):W P n ops Q (⟨some d,.binOp .gtr t x y t',ty,pos,after,none⟩::rest) F w:=
 abn rfl rfl (x_gtr k a b hx hy) h
theorem x_geq{x y:Operand}{t t':TypeId}(k:IntKind)(a b:Int)(hx:evn n F x=.int k a)(hy:evn n F y=.int k b):(execOp (evn n F) (⟨some d,.binOp .geq t x y t',ty,pos,after,none⟩:Oper)).run P w=.ok (.value (.bool (decide (b<=a)))) w:=by
 simp only [execOp,hx,hy,binOp,ne_eq,not_true_eq_false,if_false];rfl
theorem x_eql{x y:Operand}{t t':TypeId}(k:IntKind)(a b:Int)(hx:evn n F x=.int k a)(hy:evn n F y=.int k b):(execOp (evn n F) (⟨some d,.binOp .eql t x y t',ty,pos,after,none⟩:Oper)).run P w=.ok (.value (.bool (decide (a=b)))) w:=by
 simp only [execOp,hx,hy,binOp,ne_eq,not_true_eq_false,if_false];rfl
theorem w_eql{x y:Operand}{t t':TypeId}(k:IntKind)(a b:Int)(hx:evn n F x=.int k a)(hy:evn n F y=.int k b)(h:W P n ops Q rest (upd F d (.bool (decide (a=b)))) w):W P n ops Q (⟨some d,.binOp .eql t x y t',ty,pos,after,none⟩::rest) F w:=
 abn rfl rfl (x_eql k a b hx hy) h
theorem x_neq{x y:Operand}{t t':TypeId}(k:IntKind)(a b:Int)(hx:evn n F x=.int k a)(hy:evn n F y=.int k b):(execOp (evn n F) (⟨some d,.binOp .neq t x y t',ty,pos,after,none⟩:Oper)).run P w=.ok (.value (.bool (!decide (a=b)))) w:=by
 simp only [execOp,hx,hy,binOp,ne_eq,not_true_eq_false,if_false];rfl
end
end
attribute [irreducible] W C SeqQ WR CC
def at_(l:List UInt8)(i:Int):UInt8:=l.getD i.toNat 0
def sub(l:List UInt8)(i j:Int):List UInt8:=(l.drop i.toNat).take (j.toNat-i.toNat)
end Go.Wk
set_option linter.unusedSimpArgs false
namespace Go.Wk
open Bool renaming eq_iff_iff -> zbb
open List renaming map_cons -> zao, take_of_length_le -> zaG
open Nat renaming blt -> zay
open Option renaming map_some -> zaJ
def str(l:List UInt8):Value:=.string ⟨l.toArray⟩
def bt(c:UInt8):Value:=.int .u8 (c.toNat:Int)
def Enters(P : Program)(f : FuncId) : Prop := ∃ fn c, P.funcs[f]? = some fn /\ fn.body = some c /\ (fn.name == "runtime.NumGoroutine") = false
theorem Enters.run{P:Program}{f:FuncId}(h:Enters P f)(args:Array Value)(w:World):(callFunc f args).run P w=.ok (.enter f args) w:=by
 obtain⟨fn,c,h1,h2,h3⟩:=h;unfold callFunc;show Sem.run P (match P.funcs[f]? with|none=>_|some fn=>_) w=_;rw [h1];simp only [h3,h2];rfl
section
variable {P : Program} {n : Md} {ops : Array Oper} {Q : Exit -> Act -> World -> Prop} {F : Nat -> Value} {w : World}
theorem ajh{kk:Nat}{ro:Option (Option Nat)}{fn:Func}{R:Value->World->Prop}{t:Nat}(v:Value)(hr:fn.results= #[.tmp t])(hv:evn ⟨kk,[],ro⟩ F (.tmp t)=v)(h:R v w):
  bodyPost P fn (fun e w'=>∃v,e=.returned v/\R v w') .ret (fr ⟨kk,[],ro⟩ F) w:=
 ⟨rfl,v,by rw [results_tmp hr,fr_get];exact congrArg (fun x=>Result.ok x w) hv,v,rfl,h⟩
theorem r_none'{kk:Nat}{ro:Option (Option Nat)}{fn:Func}{R:Value->World->Prop}(hr:fn.results= #[])(h:R (.tuple #[]) w):
  bodyPost P fn (fun e w'=>∃v,e=.returned v/\R v w') .normal (fr ⟨kk,[],ro⟩ F) w:=
 ⟨rfl,_,results_none hr _ _ _,_,rfl,h⟩
theorem r_two{kk:Nat}{ro:Option (Option Nat)}{fn:Func}{R:Value->World->Prop}{t u:Nat}(v v':Value)(hr:fn.results= #[.tmp t,.tmp u])(hv:evn ⟨kk,[],ro⟩ F (.tmp t)=v)(hv':evn ⟨kk,[],ro⟩ F (.tmp u)=v')(h:R (.tuple #[v,v']) w):
  bodyPost P fn (fun e w'=>∃v,e=.returned v/\R v w') .ret (fr ⟨kk,[],ro⟩ F) w:=by
 refine⟨rfl,_, ?_,_,rfl,h⟩
 rw [results_tmp2 hr,fr_get,fr_get];have e1:(bif zay t kk then F t else undef)=v:=hv;have e2:(bif zay u kk then F u else undef)=v':=hv';rw [e1,e2]
theorem r_three{kk:Nat}{ro:Option (Option Nat)}{fn:Func}{R:Value->World->Prop}{t u s:Nat}(v v' v'':Value)(hr:fn.results= #[.tmp t,.tmp u,.tmp s])(hv:evn ⟨kk,[],ro⟩ F (.tmp t)=v)(hv':evn ⟨kk,[],ro⟩ F (.tmp u)=v')(hv'':evn ⟨kk,[],ro⟩ F (.tmp s)=v'')
  (h:R (.tuple #[v,v',v'']) w):bodyPost P fn (fun e w'=>∃v,e=.returned v/\R v w') .ret (fr ⟨kk,[],ro⟩ F) w:=by
 refine⟨rfl,_, ?_,_,rfl,h⟩
 have e1:(bif zay t kk then F t else undef)=v:=hv;have e2:(bif zay u kk then F u else undef)=v':=hv';have e3:(bif zay s kk then F s else undef)=v'':=hv'';simp [results,hr,fr_get,e1,e2,e3,-Array.getD_eq_getD_getElem?]
section
variable {d : Nat} {ty : TypeId} {pos : String} {after : Array Edge} {rest : List Oper}
theorem abo{fo:Operand}{azq:Array Operand}{ats:Array TypeId}(f:FuncId)(cap:Array Value)(vs:List Value)(R:Value->World->Prop)(hE:Enters P f)
  (hf:evn n F fo=.func (.func f) #[] cap) (ha: #[]++azq.map (evn n F)++cap=vs.toArray) (hc:CR P f vs w R) (h:∀v w',R v w'->W P n ops Q rest (upd F d v) w'):
  W P n ops Q (⟨some d,.call ⟨.value fo,azq,ats⟩,ty,pos,after,none⟩::rest) F w:=by
 refine w_enter rfl ?_ hc (fun v w' hv=> ?_)
 ·simp only [execOp,resolve,hf,Deferred.ofValue];show Sem.run P (callFunc f (#[]++azq.map (evn n F)++cap)) w=_;rw [ha];exact hE.run _ _
 ·have:=h v w' hv
  unfold W at this;rw [<-fr_put]at this;exact this
theorem w_call0{fo:Operand}{azq:Array Operand}{ats:Array TypeId}(f:FuncId)(cap:Array Value)(vs:List Value)(R:Value->World->Prop)(hE:Enters P f)
  (hf:evn n F fo=.func (.func f) #[] cap) (ha: #[]++azq.map (evn n F)++cap=vs.toArray) (hc:CR P f vs w R) (h:∀v w',R v w'->W P n ops Q rest F w'):
  W P n ops Q (⟨none,.call ⟨.value fo,azq,ats⟩,ty,pos,after,none⟩::rest) F w:=by
 refine w_enter rfl ?_ hc (fun v w' hv=> ?_)
 ·simp only [execOp,resolve,hf,Deferred.ofValue];show Sem.run P (callFunc f (#[]++azq.map (evn n F)++cap)) w=_;rw [ha];exact hE.run _ _
 ·have:=h v w' hv
  unfold W at this;exact this
theorem x_min{x y:Operand}{ats:Array TypeId}(k:IntKind)(a b:Int)(hx:evn n F x=.int k a)(hy:evn n F y=.int k b):(execOp (evn n F) (⟨some d,.call ⟨.builtin .min, #[x,y],ats⟩,ty,pos,after,none⟩:Oper)).run P w=.ok (.value (.int k (min a b))) w:=by
 have e:(execOp (evn n F) (⟨some d,.call ⟨.builtin .min, #[x,y],ats⟩,ty,pos,after,none⟩:Oper)).run P w=.ok (.value (.int k (if b<a then b else a))) w:=by
  simp only [execOp,resolve,List.map_toArray,zao,List.map_nil,hx,hy];rfl
 rw [e];congr 3
 split<;>omega
theorem w_min{x y:Operand}{ats:Array TypeId}(k:IntKind)(a b:Int)(hx:evn n F x=.int k a)(hy:evn n F y=.int k b)(h:W P n ops Q rest (upd F d (.int k (min a b))) w):W P n ops Q (⟨some d,.call ⟨.builtin .min, #[x,y],ats⟩,ty,pos,after,none⟩::rest) F w:=
 abn rfl rfl (x_min k a b hx hy) h
theorem x_max{x y:Operand}{ats:Array TypeId}(k:IntKind)(a b:Int)(hx:evn n F x=.int k a)(hy:evn n F y=.int k b):(execOp (evn n F) (⟨some d,.call ⟨.builtin .max, #[x,y],ats⟩,ty,pos,after,none⟩:Oper)).run P w=.ok (.value (.int k (max a b))) w:=by
 have e:(execOp (evn n F) (⟨some d,.call ⟨.builtin .max, #[x,y],ats⟩,ty,pos,after,none⟩:Oper)).run P w=.ok (.value (.int k (if a<b then b else a))) w:=by
  simp only [execOp,resolve,List.map_toArray,zao,List.map_nil,hx,hy];rfl
 rw [e];congr 3
 split<;>omega
theorem w_max{x y:Operand}{ats:Array TypeId}(k:IntKind)(a b:Int)(hx:evn n F x=.int k a)(hy:evn n F y=.int k b)(h:W P n ops Q rest (upd F d (.int k (max a b))) w):W P n ops Q (⟨some d,.call ⟨.builtin .max, #[x,y],ats⟩,ty,pos,after,none⟩::rest) F w:=
 abn rfl rfl (x_max k a b hx hy) h
theorem x_len{x:Operand}{t:TypeId}(l:List UInt8)(ht:P.underlying t=some .string)(hx:evn n F x=str l):(execOp (evn n F) (⟨some d,.call ⟨.builtin .len, #[x], #[t]⟩,ty,pos,after,none⟩:Oper)).run P w=.ok (.value (.int .i64 (l.length:Int))) w:=by
 simp [execOp,resolve,invoke,builtin,hx,str,run_len_string _ _ _ _ ht,goInt]
 rfl
theorem x_streq{x y:Operand}{t t':TypeId}(a b:List UInt8)(hx:evn n F x=str a)(hy:evn n F y=str b):(execOp (evn n F) (⟨some d,.binOp .eql t x y t',ty,pos,after,none⟩:Oper)).run P w=.ok (.value (.bool (decide (a=b)))) w:=by
 have e:(a==b)=decide (a=b):=by rw [zbb];simp
 simp [execOp,hx,hy,str,eqGuard,binOp_string_eql,e]
theorem x_strne{x y:Operand}{t t':TypeId}(a b:List UInt8)(hx:evn n F x=str a)(hy:evn n F y=str b):(execOp (evn n F) (⟨some d,.binOp .neq t x y t',ty,pos,after,none⟩:Oper)).run P w=.ok (.value (.bool (!decide (a=b)))) w:=by
 have e:(a==b)=decide (a=b):=by rw [zbb];simp
 simp [execOp,hx,hy,str,eqGuard,binOp_string_neq,e]
theorem x_strlt{x y:Operand}{t t':TypeId}(a b:List UInt8)(hx:evn n F x=str a)(hy:evn n F y=str b):(execOp (evn n F) (⟨some d,.binOp .lss t x y t',ty,pos,after,none⟩:Oper)).run P w=.ok (.value (.bool (Op.bytesLess a b))) w:=by
 simp [execOp,hx,hy,str,eqGuard,binOp_string_lss]
theorem x_strgt{x y:Operand}{t t':TypeId}(a b:List UInt8)(hx:evn n F x=str a)(hy:evn n F y=str b):(execOp (evn n F) (⟨some d,.binOp .gtr t x y t',ty,pos,after,none⟩:Oper)).run P w=.ok (.value (.bool (!(Op.bytesLess a b||a==b)))) w:=by
 simp [execOp,hx,hy,str,eqGuard,binOp,Op.stringOp]
theorem x_strcat{x y:Operand}{t t':TypeId}(a b:List UInt8)(hx:evn n F x=str a)(hy:evn n F y=str b)(hlen:a.length+b.length<=9223372036854775807)
  :(execOp (evn n F) (⟨some d,.binOp .add t x y t',ty,pos,after,none⟩:Oper)).run P w=.ok (.value (str (a++b))) w:=by
 simp [execOp,hx,hy,str,eqGuard,binOp_string_add,run_string_add_sum (P:=P) w ⟨a.toArray⟩ ⟨b.toArray⟩ hlen,ByteArray.mk_append_mk]
theorem x_index{x ix:Operand}{t:TypeId}(l:List UInt8)(k:IntKind)(i:Int)(ht:P.underlying t=some .string)(hx:evn n F x=str l)(hi:evn n F ix=.int k i)
  (hb:0<=i/\i<(l.length:Int)):(execOp (evn n F) (⟨some d,.index t x ix,ty,pos,after,none⟩:Oper)).run P w=.ok (.value (bt (at_ l i))) w:=by
 have hb':0<=i/\i<(⟨l.toArray⟩:ByteArray).size:=hb;have hl:i.toNat<l.length:=by omega
 have e:=run_index_string (P:=P) w t ⟨l.toArray⟩ k i ht;rw [dif_pos hb']at e;simp only [execOp,hx,hi,str,Sem.run_bind,e,Result.andThen_ok];show Result.ok (Next.value (.int .u8 ((l[i.toNat]).toNat:Int))) w=_;simp [bt,at_,hl]
theorem aha{x ix:Operand}{t:TypeId}(l:List UInt8)(k:IntKind)(i:Int)(ht:P.underlying t=some .string)(hx:evn n F x=str l)(hi:evn n F ix=.int k i)
  (hb:0<=i/\i<(l.length:Int)) (h:W P n ops Q rest (upd F d (bt (at_ l i))) w):W P n ops Q (⟨some d,.index t x ix,ty,pos,after,none⟩::rest) F w:=
 abn rfl rfl (x_index l k i ht hx hi hb) h
theorem x_slice{x lo hi:Operand}{t:TypeId}(l:List UInt8)(k k':IntKind)(i j:Int)(ht:P.underlying t=some .string)(hx:evn n F x=str l)(hlo:evn n F lo=.int k i)(hhi:evn n F hi=.int k' j)
  (hb:0<=i/\i<=j/\j<=(l.length:Int)):(execOp (evn n F) (⟨some d,.slice t x (some lo) (some hi) none,ty,pos,after,none⟩:Oper)).run P w=.ok (.value (str (sub l i j))) w:=by
 have e:=run_slice_string (P:=P) w t ⟨l.toArray⟩ k k' i j ht hb.1 hb.2.1 hb.2.2;simp only [execOp,hx,hlo,hhi,str,Sem.run_bind,zaJ,Option.map_none,run_sliceAt_string w t _ _ _ _ ht,e,Result.andThen_ok,ByteArray.extract_mk];rfl
theorem w_slice{x lo hi:Operand}{t:TypeId}(l:List UInt8)(k k':IntKind)(i j:Int)(ht:P.underlying t=some .string)(hx:evn n F x=str l)(hlo:evn n F lo=.int k i)(hhi:evn n F hi=.int k' j)
  (hb:0<=i/\i<=j/\j<=(l.length:Int)) (h:W P n ops Q rest (upd F d (str (sub l i j))) w):W P n ops Q (⟨some d,.slice t x (some lo) (some hi) none,ty,pos,after,none⟩::rest) F w:=
 abn rfl rfl (x_slice l k k' i j ht hx hlo hhi hb) h
theorem x_slice_from{x lo:Operand}{t:TypeId}(l:List UInt8)(k:IntKind)(i:Int)(ht:P.underlying t=some .string)(hx:evn n F x=str l)(hlo:evn n F lo=.int k i)
  (hb:0<=i/\i<=(l.length:Int)):(execOp (evn n F) (⟨some d,.slice t x (some lo) none none,ty,pos,after,none⟩:Oper)).run P w=.ok (.value (str (l.drop i.toNat))) w:=by
 have e:=run_slice_string_l (P:=P) (w:=w) (t:=t) (s:=⟨l.toArray⟩) ht k i hb.1 hb.2;simp only [execOp,hx,hlo,str,Sem.run_bind,zaJ,Option.map_none,run_sliceAt_string w t _ _ _ _ ht,e,Result.andThen_ok,ByteArray.extract_mk];have e2:(l.drop i.toNat).take ((⟨l.toArray⟩:ByteArray).size-i.toNat)=l.drop i.toNat:=zaG (by
  show(l.drop i.toNat).length<=l.length-i.toNat
  simp)
 rw [e2];rfl
theorem w_slice_from{x lo:Operand}{t:TypeId}(l:List UInt8)(k:IntKind)(i:Int)(ht:P.underlying t=some .string)(hx:evn n F x=str l)(hlo:evn n F lo=.int k i)
  (hb:0<=i/\i<=(l.length:Int)) (h:W P n ops Q rest (upd F d (str (l.drop i.toNat))) w):W P n ops Q (⟨some d,.slice t x (some lo) none none,ty,pos,after,none⟩::rest) F w:=
 abn rfl rfl (x_slice_from l k i ht hx hlo hb) h
theorem x_conv{x:Operand}{s t:TypeId}(k k':IntKind)(a:Int)(hs:P.underlying s=some (.int k'))(ht:P.underlying t=some (.int k))(hx:evn n F x=.int k' a):(execOp (evn n F) (⟨some d,.convert s t x,ty,pos,after,none⟩:Oper)).run P w=.ok (.value (.int k (k.wrap a))) w:=by
 simp [execOp,hx,convert,run_underlying hs,run_underlying ht,Conv.intToInt]
theorem x_convstr{x:Operand}{s t:TypeId}(l:List UInt8)(hs:P.underlying s=some .string)(ht:P.underlying t=some .string)(hx:evn n F x=str l):(execOp (evn n F) (⟨some d,.convert s t x,ty,pos,after,none⟩:Oper)).run P w=.ok (.value (str l)) w:=by
 simp [execOp,hx,str,convert,run_underlying hs,run_underlying ht]
theorem x_extract{x:Operand}{i:Nat}(vs:Array Value)(v:Value)(hx:evn n F x=.tuple vs)(hv:vs[i]? =some v):(execOp (evn n F) (⟨some d,.extract x i,ty,pos,after,none⟩:Oper)).run P w=.ok (.value v) w:=by
 simp [execOp,hx,Instr.extract,hv]
end
end
open List renaming set_eq_take_append_cons_drop -> zbk
open Nat renaming le_refl -> zab, le_trans -> zau, lt_of_lt_of_le -> zal
structure Res where
 own:Option Nat
 ok:Option Obj->Prop
def Res.holds(r:Res)(w:World):Prop:=r.ok (r.own.bind fun b=>w.heap[b]?)
def blk(b:Nat)(cs:List Value)(e:TypeId):Res:=⟨some b,fun o=>o=some (.cells cs.toArray e (0,0))⟩
def row(v:Value)(e:TypeId)(sz n:Nat)(xs:List Value):Res:=
 ⟨v.ownBlock,fun o=>xs.length=n*sz/\((v=.slice none 0 0/\n=0)\/
  ∃g cap cur,v=.slice (some ⟨g,0,none⟩) n cap/\o=some (.cells cur e (0,0))/\n<=cap/\cap<=maxLen/\cur.size=cap*sz/\cur.toList.take (n*sz)=xs)⟩
def brow(v:Value)(n:Nat)(l:List UInt8):Res:=
 ⟨v.ownBlock,fun o=>l.length=n/\∃g cap cur e fz,v=.slice (some ⟨g,0,none⟩) n cap/\o=some (.cells cur e fz)/\n<=cap/\cap<=cur.size/\cur.toList.take n=l.map bt/\cur.size<=fz.1⟩
structure Hp (w0:World) (S:List Nat) (L:List Res) (w:World):Prop where
 os:w.os=w0.os
 tape:w.tape=w0.tape
 output:w.output=w0.output
 size:w0.heap.size<=w.heap.size
 below:∀k,k<w0.heap.size->k∉S->w.heap[k]? =w0.heap[k]?
 res:∀r∈L,r.holds w/\∀b,r.own=some b->b<w.heap.size/\(w0.heap.size<=b\/b∈S)
 sep:L.Pairwise fun r r'=>∀b,r.own=some b->r'.own≠some b
theorem Hp.refl(w:World):Hp w [] [] w:=⟨rfl,rfl,rfl,zab _,fun _ _ _=>rfl,fun _ h=>by simp at h,List.Pairwise.nil⟩
theorem Hp.toBelow{w0 w:World}{L:List Res}(h:Hp w0 [] L w):RowKit.Below w0.heap.size w0 w:=⟨h.os,h.tape,h.output,h.size,fun k hk=>h.below k hk (by simp)⟩
theorem Hp.ofBelow{w w':World}(h:RowKit.Below w.heap.size w w'):Hp w [] [] w':=⟨h.os,h.tape,h.output,h.size,fun k hk _=>h.block k hk,fun _ h=>by simp at h,List.Pairwise.nil⟩
theorem Res.holds_of{r:Res}{w w':World}(h:r.holds w)(hb:∀b,r.own=some b->w'.heap[b]? =w.heap[b]?):r.holds w':=by
 unfold Res.holds at*;cases ho:r.own with
 |none=>simpa [ho] using h
 |some b=>simpa [ho,hb b ho] using h
theorem Hp.sub{w0 w:World}{S:List Nat}{L L':List Res}(h:Hp w0 S L w)(hs:L'.Sublist L):Hp w0 S L' w:=
 ⟨h.os,h.tape,h.output,h.size,h.below,fun r hr=>h.res r (hs.subset hr),h.sep.sublist hs⟩
theorem Hp.nil{w0 w:World}{S:List Nat}{L:List Res}(h:Hp w0 S L w):Hp w0 S [] w:=h.sub (List.nil_sublist _)
theorem Hp.perm{w0 w:World}{S:List Nat}{L L':List Res}(h:Hp w0 S L w)(hp:L.Perm L'):Hp w0 S L' w:=
 ⟨h.os,h.tape,h.output,h.size,h.below,fun r hr=>h.res r (hp.symm.subset hr),hp.pairwise h.sep (fun h b hb hb'=>h b hb' hb)⟩
theorem Hp.callL{w0 w w':World}{S:List Nat}{L L':List Res}(h:Hp w0 S L w)(h':Hp w [] L' w'):Hp w0 S (L'++L) w':=by
 have hb:∀b,b<w.heap.size->w'.heap[b]? =w.heap[b]? :=fun b hb=>h'.below b hb (by simp)
 refine⟨h'.os.trans h.os,h'.tape.trans h.tape,h'.output.trans h.output,zau h.size h'.size,fun k hk hS=> ?_,fun r hr=> ?_, ?_⟩
 ·rw [hb k (zal hk h.size)];exact h.below k hk hS
 ·rcases List.mem_append.1 hr with hr|hr
  ·refine⟨(h'.res r hr).1,fun b e=> ?_⟩
   have:=(h'.res r hr).2 b e
   simp at this
   exact⟨this.1,.inl (zau h.size this.2)⟩
  ·refine⟨Res.holds_of (h.res r hr).1 fun b e=>hb b ((h.res r hr).2 b e).1,fun b e=> ?_⟩
   have:=(h.res r hr).2 b e
   exact⟨zal this.1 h'.size,this.2⟩
 ·refine List.pairwise_append.2 ⟨h'.sep,h.sep,fun r hr r' hr' b e e'=> ?_⟩;have h1:=(h'.res r hr).2 b e;have h2:=(h.res r' hr').2 b e';simp at h1
  omega
theorem Hp.call{w0 w w':World}{S:List Nat}{L:List Res}(h:Hp w0 S L w)(h':Hp w [] [] w'):Hp w0 S L w':=h.callL h'
theorem Hp.change{w0 w w':World}{S:List Nat}{L:List Res}(h:Hp w0 S L w)(k:Nat)(r r':Res)(hk:L[k]? =some r)(ho:w'.os=w.os)(ht:w'.tape=w.tape)(hu:w'.output=w.output)
  (hz:w.heap.size<=w'.heap.size) (hb:∀j,j<w.heap.size->some j≠r.own->w'.heap[j]? =w.heap[j]?) (hr:r'.holds w')
  (hn:∀b,r'.own=some b->(r.own=some b\/w.heap.size<=b)/\b<w'.heap.size):Hp w0 S (L.set k r') w':=by
 have hmem:r∈L:=List.mem_of_getElem? hk;have hlt:k<L.length:=(List.getElem?_eq_some_iff.1 hk).1;have hsep:∀x,x∈L.eraseIdx k->∀b,x.own=some b->r.own≠some b:=by
  intro x hx b hxb hrb;obtain⟨j,hj,hjk,hxe⟩:∃j,∃(hj:j<L.length),j≠k/\L[j]=x:=by
   rw [List.mem_eraseIdx_iff_getElem]at hx;obtain⟨j,hj,hjk,e⟩:=hx;exact⟨j,hj,hjk,e⟩
  have hke:L[k]=r:=(List.getElem?_eq_some_iff.1 hk).2;have hp:=List.pairwise_iff_getElem.1 h.sep;rcases Nat.lt_or_ge j k with hl|hl
  ·exact hp j k hj hlt hl b (by rw [hxe];exact hxb) (by rw [hke];exact hrb)
  ·exact hp k j hlt hj (by omega) b (by rw [hke];exact hrb) (by rw [hxe];exact hxb)
 have hmemset:∀x,x∈L.set k r'->x=r'\/x∈L.eraseIdx k:=by
  intro x hx;obtain⟨j,hj,e⟩:=List.getElem_of_mem hx;by_cases hjk:j=k
  ·subst hjk;left;simpa using e.symm
  ·right
   rw [List.mem_eraseIdx_iff_getElem];refine⟨j,by simpa using hj,hjk, ?_⟩
   rw [List.getElem_set_ne (fun e=>hjk e.symm)]at e;exact e
 have hother:∀x∈L.eraseIdx k,∀b,x.own=some b->w'.heap[b]? =w.heap[b]? :=fun x hx b e=>
  hb b ((h.res x (List.mem_of_mem_eraseIdx hx)).2 b e).1 (fun e'=>hsep x hx b e e'.symm)
 refine⟨ho.trans h.os,ht.trans h.tape,hu.trans h.output,zau h.size hz,fun j hj hS=> ?_,fun x hx=> ?_, ?_⟩
 ·rw [hb j (zal hj h.size) (fun e=> ?_)];exact h.below j hj hS
  have:=((h.res r hmem).2 j e.symm).2
  rcases this with h1|h1
  ·omega
  ·exact hS h1
 ·rcases hmemset x hx with rfl|hx
  ·refine⟨hr,fun b e=>⟨(hn b e).2, ?_⟩⟩
   rcases(hn b e).1 with h1|h1
   ·exact((h.res r hmem).2 b h1).2
   ·exact .inl (zau h.size h1)
  ·have hxL:=List.mem_of_mem_eraseIdx hx;exact⟨Res.holds_of (h.res x hxL).1 (hother x hx),fun b e=>⟨zal ((h.res x hxL).2 b e).1 hz,((h.res x hxL).2 b e).2⟩⟩
 ·have hfar:∀x∈L.eraseIdx k,∀b,r'.own=some b->x.own≠some b:=by
   intro x hx b e e'
   rcases(hn b e).1 with h1|h1
   ·exact hsep x hx b e' h1
   ·have:=((h.res x (List.mem_of_mem_eraseIdx hx)).2 b e').1
    omega
  have hp:=List.pairwise_iff_getElem.1 h.sep;refine List.pairwise_iff_getElem.2 fun i j hi hj hij b=> ?_
  have hi':i<L.length:=by simpa using hi
  have hj':j<L.length:=by simpa using hj
  by_cases hik:i=k
  ·subst hik;have hjn:j≠i:=by omega
   rw [List.getElem_set_self,List.getElem_set_ne (fun e=>hjn e.symm)];intro e;exact hfar _ (by rw [List.mem_eraseIdx_iff_getElem];exact⟨j,hj',hjn,rfl⟩) b e
  ·by_cases hjk:j=k
   ·subst hjk;rw [List.getElem_set_self,List.getElem_set_ne (fun e=>hik e.symm)];intro e e';exact hfar _ (by rw [List.mem_eraseIdx_iff_getElem];exact⟨i,hi',hik,rfl⟩) b e' e
   ·rw [List.getElem_set_ne (fun e=>hik e.symm),List.getElem_set_ne (fun e=>hjk e.symm)];exact hp i j hi' hj' hij b
theorem Hp.alloc{w0 w:World}{S:List Nat}{L:List Res}(h:Hp w0 S L w)(cs:List Value)(e:TypeId):Hp w0 S (blk w.heap.size cs e::L) (w.alloc (.cells cs.toArray e (0,0))):=by
 have h2:Hp w [] [blk w.heap.size cs e] (w.alloc (.cells cs.toArray e (0,0))):=by
  refine⟨rfl,rfl,rfl,by simp,fun k hk _=>RowKit.Below.heap_alloc w _ k hk,fun r hr=> ?_,by simp⟩
  simp at hr
  subst hr;refine⟨?_,fun b e=> ?_⟩
  ·show(w.heap.push (.cells cs.toArray e (0,0)))[w.heap.size]? =_
   simp
  ·simp [blk]at e
   subst e;simp
 exact h.callL h2
theorem Hp.blkAt{w0 w:World}{S:List Nat}{L:List Res}(h:Hp w0 S L w)(k:Nat){b:Nat}{cs:List Value}{e:TypeId}(hk:L[k]? =some (blk b cs e)):
  w.heap[b]? =some (.cells cs.toArray e (0,0)):=(h.res _ (List.mem_of_getElem? hk)).1
section
variable {P : Program} {n : Md} {ops : Array Oper} {Q : Exit -> Act -> World -> Prop} {F : Nat -> Value} {w w0 : World} {S : List Nat} {L : List Res}
variable {d : Nat} {ty : TypeId} {pos : String} {after : Array Edge} {rest : List Oper}
theorem afl{o:Oper}(hH:Hp w0 S L w)(cs:List Value)(e:TypeId)(V:Nat->Value)(hg:o.guard=none)(hd:o.dst=some d)
  (hrun:(execOp (evn n F) o).run P w=.ok (.value (V w.heap.size)) (w.alloc (.cells cs.toArray e (0,0))))
  (h:∀b w',Hp w0 S (blk b cs e::L) w'->W P n ops Q rest (upd F d (V b)) w'):W P n ops Q (o::rest) F w:=
 abn hg hd hrun (h _ _ (hH.alloc cs e))
theorem ajw{b off:Nat}{cs:List Value}{e:TypeId}{fz:Nat×Nat}(h:w.heap[b]? =some (.cells cs.toArray e fz)):w.cell? ⟨b,off,none⟩=cs[off]? :=by
 simp [World.cell?,h]
theorem adw{x:Operand}{t:TypeId}(hH:Hp w0 S L w)(k b off:Nat)(cs:List Value)(e:TypeId)(v:Value)(hk:L[k]? =some (blk b cs e))(hv:cs[off]? =some v)
  (hx:evn n F x=.pointer (some ⟨b,off,none⟩)) (ha:(isAgg t).run P w=.ok false w) (h:W P n ops Q rest (upd F d v) w):
  W P n ops Q (⟨some d,.load t x,ty,pos,after,none⟩::rest) F w:=by
 refine abn (w':=w) rfl rfl ?_ h;have hc:=ajw (off:=off) (hH.blkAt k hk);rw [hv]at hc;simp [execOp,hx,Instr.loadAt,Instr.sureAddr,loadVar,ha,hc]
theorem abb(b off i:Nat):(⟨b,off,none⟩:Addr).add i=⟨b,off+i,none⟩:=by
 unfold Addr.add;by_cases hi:i=0
 ·subst hi;simp
 ·simp [hi]
theorem afd{x:Operand}{t:TypeId}(hH:Hp w0 S L w)(k b off m:Nat)(cs vs:List Value)(e:TypeId)(hk:L[k]? =some (blk b cs e))(hv:(cs.drop off).take m=vs)(hl:vs.length=m)
  (hx:evn n F x=.pointer (some ⟨b,off,none⟩)) (ha:(isAgg t).run P w=.ok true w) (hs:(sizeOf t).run P w=.ok m w) (h:W P n ops Q rest (upd F d (.agg vs.toArray)) w):
  W P n ops Q (⟨some d,.load t x,ty,pos,after,none⟩::rest) F w:=by
 refine abn (w':=w) rfl rfl ?_ h;have hb:=hH.blkAt k hk;have hc:(loadCells ⟨b,off,none⟩ m).run P w=.ok vs.toArray w:=by
  rw [<-hl];refine run_loadCells_list w ⟨b,off,none⟩ vs fun j v hj=> ?_
  rw [abb,ajw hb];rw [<-hv]at hj;have hlt:j<m:=by
   have:=(List.getElem?_eq_some_iff.1 hj).1
   simp at this;omega
  rw [List.getElem?_take,if_pos hlt,List.getElem?_drop]at hj;exact hj
 simp [execOp,hx,Instr.loadAt,Instr.sureAddr,loadVar,ha,hs,hc]
def abk(cs:List Value)(off:Nat)(vs:List Value):List Value:=cs.take off++vs++cs.drop (off+vs.length)
theorem Hp.stored{k b off:Nat}{cs vs:List Value}{e:TypeId}(hH:Hp w0 S L w)(hk:L[k]? =some (blk b cs e))(ho:off+vs.length<=cs.length)(h1:∀v∈vs,v.oneCell'=true):
  ∃w',(storeCells ⟨b,off,none⟩ vs).run P w=.ok () w'/\Hp w0 S (L.set k (blk b (abk cs off vs) e)) w':=by
 have hb:=hH.blkAt k hk;have hst:=run_storeCells_at P b off e vs 0 cs.toArray w hb (by simpa using ho) h1;refine⟨_,hst,hH.change k (blk b cs e) _ hk rfl rfl rfl (by simp) (fun j hj hne=>setRow_other w b j _ (fun e=>hne (by simp [blk,e]))) ?_ ?_⟩
 ·show(w.setRow b _).heap[b]? =_
  rw [setRow_heap w b cs.toArray _ e _ hb];simp [abk]
 ·intro b' e';simp [blk]at e'
  subst e';refine⟨.inl rfl, ?_⟩
  have:=(Array.getElem?_eq_some_iff.1 hb).1
  simpa using this
theorem ajf{x y:Operand}{t:TypeId}(hH:Hp w0 S L w)(k b off:Nat)(cs:List Value)(e:TypeId)(v:Value)(L':List Res)(hk:L[k]? =some (blk b cs e))(ho:off<cs.length)
  (hx:evn n F x=.pointer (some ⟨b,off,none⟩)) (hy:evn n F y=v) (h1:v.oneCell'=true) (hs:(sizeOf t).run P w=.ok 1 w) (hL:L.set k (blk b (cs.set off v) e)=L')
  (h:∀w',Hp w0 S L' w'->W P n ops Q rest F w'):
  W P n ops Q (⟨none,.store t x y,ty,pos,after,none⟩::rest) F w:=by
 have hcells:v.cells= #[v]:=by cases v<;>first|rfl|simp [Value.oneCell']at h1
 obtain⟨w',hr,hH'⟩:=hH.stored (P:=P) (vs:=[v]) (off:=off) hk (by simp;omega) (by simpa using h1);have hsp:abk cs off [v]=cs.set off v:=by
  unfold abk;rw [zbk,if_pos ho];simp
 rw [hsp,hL]at hH';refine w_skip (w':=w') rfl rfl ?_ (h w' hH');simp [execOp,hx,hy,Instr.storeAt,Instr.sureAddr,storeVar,hs,hcells,hr]
theorem ahw{x y:Operand}{t:TypeId}(hH:Hp w0 S L w)(k b off:Nat)(cs vs:List Value)(e:TypeId)(L':List Res)(hk:L[k]? =some (blk b cs e))(ho:off+vs.length<=cs.length)
  (hx:evn n F x=.pointer (some ⟨b,off,none⟩)) (hy:evn n F y=.agg vs.toArray) (h1:vs.all (·.oneCell')=true) (hs:(sizeOf t).run P w=.ok vs.length w) (hL:L.set k (blk b (abk cs off vs) e)=L')
  (h:∀w',Hp w0 S L' w'->W P n ops Q rest F w'):
  W P n ops Q (⟨none,.store t x y,ty,pos,after,none⟩::rest) F w:=by
 obtain⟨w',hr,hH'⟩:=hH.stored (P:=P) (vs:=vs) (off:=off) hk ho (by simpa using h1);rw [hL]at hH';refine w_skip (w':=w') rfl rfl ?_ (h w' hH');simp [execOp,hx,hy,Instr.storeAt,Instr.sureAddr,storeVar,hs,Value.cells,hr]
end
open Bool renaming and_eq_true -> zas
open List renaming replicate -> zag
open Nat renaming beq -> zai, blt -> zay, eq_of_beq_eq_true -> zaU, zero_add -> zaT
section
variable {P : Program} {ops : Array Oper} {Q : Exit -> Act -> World -> Prop} {md : Region.Mode} {S : Nat -> World -> World -> Prop}
def abp(D:List Nat)(f:World->Prop)(j:Nat)(w w':World):Prop:=D.contains j=false->f w->f w'
theorem abp.same{D:List Nat}{f:World->Prop}{j:Nat}{w:World}:abp D f j w w:=fun _ h=>h
theorem abp.out{D:List Nat}{f:World->Prop}{j:Nat}{w w':World}(h:D.contains j=true):abp D f j w w':=fun h'=>by rw [h]at h';cases h'
theorem abp.new{D:List Nat}{f:World->Prop}{j:Nat}{w w':World}(h:f w'):abp D f j w w':=fun _ _=>h
def wpPre(P:Program)(md:Region.Mode)(ops:Array Oper)(Q:Exit->Act->World->Prop)(S:Nat->World->World->Prop)(k:Nat)(Z:Act->World->Prop):Nat->Array Bool->Act->World->Prop
 |0,listed,a,w=>Region.seqB md ops (ops.size-k) k listed=true/\Z a w
 |f+1,listed,a,w=>Region.ready md ops listed≠[]/\∀i∈Region.ready md ops listed,i<k/\wpOp P ops Q i (fun a' w'=>S i w w'/\wpPre P md ops Q S k Z f (listed.setIfInBounds i true) a' w') a w
theorem pre_any{k:Nat}{Z:Act->World->Prop}(hk:k<=ops.size)(hZ:∀a w,Z a w->wpList P ops Q (ops.toList.drop k) a w):
  ∀(f:Nat) (listed:Array Bool) (a:Act) (w:World),wpPre P md ops Q S k Z f listed a w->wpAny P md ops Q (f+(ops.size-k)) listed a w
 |0,listed,a,w,h=>by
  have hl:(ops.toList.drop k).length=ops.size-k:=by simp
  have:=wpAny_of_seq (md:=md) (Q':=Q) (ops.toList.drop k) k listed a w (fun j=>by simp [List.getElem?_drop]) (by rw [hl];exact h.1) (hZ a w h.2)
  rw [hl]at this;rw [zaT];exact this
 |f+1,listed,a,w,h=>by
  rw [show f+1+(ops.size-k)=(f+(ops.size-k))+1 by omega];exact⟨fun h0=>absurd h0 h.1,fun i hi=>wpOp_mono (fun a' w' h'=>pre_any hk hZ f _ a' w' h'.2) (h.2 i hi).2⟩
def descB(md:Region.Mode)(ops:Array Oper)(i:Nat)(D:List Nat):Bool:=
 D.all fun j=>match ops[j]? with
  |some o=>o.after.any fun e=>Region.binds md e&&zay e.on j&&(zai e.on i||D.contains e.on)
  |none=>true
theorem desc_unlisted{k i:Nat}{D:List Nat}{listed:Array Bool}(hD:descB md ops i D=true)(inv:HeadInv md ops k listed)(hun:listed.getD i true=false):∀j,j∈D->j<ops.size->listed.getD j true=false:=by
 intro j;induction j using Nat.strongRecOn with
 |_ j ih=>
  intro hj hlt;cases hl:listed.getD j false with
  |false=>exact getD_in (by rw [inv.size];exact hlt) hl
  |true=>
   exfalso;have h1:=List.all_eq_true.1 hD j hj;rw [Array.getElem?_eq_getElem hlt]at h1;simp only [Array.any_eq_true']at h1;obtain⟨e,he,h2⟩:=h1;simp only [zas,Bool.or_eq_true]at h2;have hdone:=inv.closed j ops[j] (Array.getElem?_eq_getElem hlt) hl e he h2.1.1;rcases h2.2 with h3|h3
   ·rw [zaU h3]at hdone
    have:=getD_both hun
    rw [this]at hdone;cases hdone
   ·have hlt2:e.on<j:=by simpa [Nat.blt_eq] using h2.1.2
    have h4:=ih e.on hlt2 (by simpa using h3) (by omega)
    have:=getD_both h4
    rw [this]at hdone;cases hdone
theorem desc_ready{k i j:Nat}{D:List Nat}{listed:Array Bool}(hD:descB md ops i D=true)(inv:HeadInv md ops k listed)(hun:listed.getD i true=false)(hj:j∈Region.ready md ops listed):j∉D:=by
 intro hjD;obtain⟨hjun,oj,hoj,hall⟩:=mem_ready.1 hj;have hlt:j<ops.size:=(Array.getElem?_eq_some_iff.1 hoj).1;have h1:=List.all_eq_true.1 hD j hjD;rw [hoj]at h1;simp only [Array.any_eq_true']at h1;obtain⟨e,he,h2⟩:=h1;simp only [zas,Bool.or_eq_true]at h2;have hdone:=hall e he h2.1.1;rcases h2.2 with h3|h3
 ·rw [zaU h3,getD_both hun]at hdone;cases hdone
 ·have hlt2:e.on<j:=by simpa [Nat.blt_eq] using h2.1.2
  have h4:=desc_unlisted hD inv hun e.on (by simpa using h3) (by omega);rw [getD_both h4]at hdone;cases hdone
theorem pre_first{k i:Nat}{Z:Act->World->Prop}{oi:Oper}{v:Value}(Si:World->Prop)(D:List Nat)(hD:descB md ops i D=true)(hSi:∀j w w',S j w w'->abp D Si j w w')(hi:ops[i]? =some oi)(hsel:∀(j:Nat) (o:Oper) cs b,ops[j]? =some o->o.op≠.select cs b)
  (hQ:∀c a w,Q (.panic c) (a.put oi.dst v) w->Q (.panic c) a w) (hik:i<k)
  (hready:∀listed:Array Bool,HeadInv md ops k listed->listed.getD i true=false->∀t,k<=t->t∉Region.ready md ops listed):
  ∀(f:Nat) (listed:Array Bool) (a:Act) (w:World),HeadInv md ops k listed->
   (∀j oj,ops[j]? =some oj->j≠i->listed.getD j true=false->(∀e∈oj.after,Region.binds md e=true->e.on≠i)->oi.apart ops oj=true)->
   i∈Region.ready md ops listed->YieldsIf P ops Si oi v a->Si w->(∀j w,S j w w)->
   wpPre P md ops Q S k Z f (listed.setIfInBounds i true) (a.put oi.dst v) w->wpPre P md ops Q S k Z (f+1) listed a w:=by
 intro f;induction f with
 |zero=>
  intro listed a w inv hfree hr hy hS hii H;have hun:=(mem_ready.1 hr).1;refine⟨fun h0=>(by rw [h0]at hr;cases hr),fun j hj=> ?_⟩
  have hjk:j<k:=by
   rcases Nat.lt_or_ge j k with h|h
   ·exact h
   ·exact absurd hj (hready listed inv hun j h)
  by_cases hji:j=i
  ·subst hji;exact⟨hjk,hy.wpOp hi hS ⟨hii _ _,H⟩⟩
  ·have h1:=seqB_ready H.1 j (ready_mono hj hji);omega
 |succ f ih=>
  intro listed a w inv hfree hr hy hS hii H;have hun:=(mem_ready.1 hr).1;refine⟨fun h0=>(by rw [h0]at hr;cases hr),fun j hj=> ?_⟩
  have hjk:j<k:=by
   rcases Nat.lt_or_ge j k with h|h
   ·exact h
   ·exact absurd hj (hready listed inv hun j h)
  by_cases hji:j=i
  ·subst hji;exact⟨hjk,hy.wpOp hi hS ⟨hii _ _,H⟩⟩
  ·have h1:=(H.2 j (ready_mono hj hji)).2;have hjD:=desc_ready hD inv hun hj;obtain⟨hjun,oj,hoj,hall⟩:=mem_ready.1 hj;have hnot:∀e∈oj.after,Region.binds md e=true->e.on≠i:=fun e he hb heq=>by
    have h2:=hall e he hb;rw [heq,getD_both hun]at h2;cases h2
   have h2:=wpOp_putIf hoj (hfree j oj hoj hji hjun hnot) (fun cs b=>hsel i oi cs b hi) (fun cs b=>hsel j oj cs b hoj) hQ hy h1;refine⟨hjk,wpOp_mono (fun a' w' h3=>⟨h3.2.1,ih (listed.setIfInBounds j true) a' w' (inv.set hj hjk) (fun m om hm hmi hum hno=>hfree m om hm hmi ?_ hno) (ready_mono hr (Ne.symm hji)) h3.1 (hSi j _ w' h3.2.1 (by simpa using hjD) hS) hii ?_⟩) h2⟩
   ·by_cases hjm:j=m
    ·subst hjm;exact hjun
    ·rw [getD_set_ne true hjm]at hum;exact hum
   ·rw [Array.setIfInBounds_comm _ _ hji];exact h3.2.2
def aft(ops:Array Oper)(k:Nat):Bool:=Region.noSelect ops&&decide (k<=ops.size)&&(decide (k=ops.size)||(Region.sinkB .any ops k&&Region.chainB .any ops k))
theorem shape_ready{k i:Nat}(h:aft ops k=true)(hik:i<k):∀listed:Array Bool,HeadInv .any ops k listed->listed.getD i true=false->∀t,k<=t->t∉Region.ready .any ops listed:=by
 intro listed inv hun t ht hr;simp only [aft,zas,Bool.or_eq_true,decide_eq_true_eq]at h;have htlt:t<ops.size:=by obtain⟨_,o,ho,_⟩:=mem_ready.1 hr;exact(Array.getElem?_eq_some_iff.1 ho).1
 rcases h.2 with h2|h2
 ·omega
 ·exact tail_waits h2.1 h2.2 (by omega) inv (k-i) i rfl hik hun t ht hr
end
section
variable {P : Program} {kn : Nat} {kD : List Deferred} {ops : Array Oper} {Q : Exit -> Act -> World -> Prop} {S : Nat -> World -> World -> Prop} {Si : World -> Prop} {F : Nat -> Value} {w : World}
def NoP(Q:Exit->Act->World->Prop):Prop:=∀c a w,¬Q (.panic c) a w
def R(P:Program)(n:Md)(ops:Array Oper)(Q:Exit->Act->World->Prop)(S:Nat->World->World->Prop)(k f:Nat)(listed:List Bool)(F:Nat->Value)(w:World):Prop:=
 HeadInv .any ops k listed.toArray->(∀j w,S j w w)->NoP Q->wpPre P .any ops Q S k (fun a w=>wpList P ops Q (ops.toList.drop k) a w) f listed.toArray (fr n F) w
def RK(P:Program)(n:Md)(ops:Array Oper)(Q:Exit->Act->World->Prop)(S:Nat->World->World->Prop)(k f:Nat)(listed:List Bool)(i:Nat)(w:World):Exit->Act->World->Prop:=
 Exit.then (fun a' w'=>∃F',a'=fr n F'/\S i w w'/\R P n ops Q S k f listed F' w') Q
theorem Hp.drewn{w0 w:World}{S0:List Nat}{L:List Res}(h:Hp w0 S0 L w):Hp w0 S0 L {w with drawn:=w.drawn+1}:=
 ⟨h.os,h.tape,h.output,h.size,h.below,h.res,h.sep⟩
theorem afm{w0:World}{S0:List Nat}{L:List Res}{id:Nat}{l:List Oper}(k:Nat)(S:Nat->World->World->Prop)(listed:List Bool)(hrefl:∀j w,S j w w)(hm:P.follows .mixedOrders=true)(hs:aft l.toArray k=true)
  (hH:Hp w0 S0 L w) (hl:zag l.length false=listed) (hQ:NoP Q) (h:∀w',Hp w0 S0 L w'->R P ⟨kn,kD,none⟩ l.toArray Q S k k listed F w'):C P ⟨kn,kD,none⟩ Q (.region id l.toArray true) F w:=by
 unfold C CC;have hk:k<=l.toArray.size:=by
  simp only [aft,zas,decide_eq_true_eq]at hs;exact hs.1.2
 have inv0:HeadInv .any l.toArray k (Array.replicate l.toArray.size false):=
  ⟨by simp,fun j oj _ hl=>(by rw [getD_replicate_false]at hl;cases hl),fun t _ ht=>getD_in (by simpa using ht) (getD_replicate_false _ _)⟩
 have e:listed.toArray=Array.replicate l.toArray.size false:=by
  subst hl;apply Array.toList_inj.1
  simp
 refine wp_region_any hm ?_;have h1:=h _ hH.drewn (by rw [e];exact inv0) hrefl hQ;have h2:=pre_any (S:=S) hk (fun a w h=>h) k _ _ _ h1;rw [e,show k+(l.toArray.size-k)=l.toArray.size by omega]at h2;exact h2
theorem aeq{fn:Func}{R':Value->World->Prop}:NoP (bodyPost P fn fun e w'=>∃v,e=.returned v/\R' v w'):=by
 intro c a w h;obtain⟨_,v,hv,_⟩:=h;cases hv
theorem aep{y:Code}(h:NoP Q):NoP (SeqQ P ⟨kn,kD,none⟩ y Q):=by unfold SeqQ;exact h
theorem afy{id:Nat}(h:NoP Q):NoP (Exit.inBlock id Q):=h
theorem np_scope(h:NoP Q):NoP (Exit.noGoto Q):=h
theorem ahd{K:Act->World->Prop}(h:NoP Q):NoP (Exit.then K Q):=h
theorem adv{o:Oper}{v:Value}(hg:o.guard=none)(hrun:∀w,Si w->(execOp (evn ⟨kn,kD,none⟩ F) o).run P w=.ok (.value v) w):YieldsIf P ops Si o v (fr ⟨kn,kD,none⟩ F):=
 .inl ⟨by simp [Region.wanted,hg],fun w hw=>by rw [afa];exact hrun w hw⟩
theorem y_gyes{dst:Option Nat}{op:Op}{ty:TypeId}{pos:String}{after:Array Edge}{g:Nat}{b:Bool}{v:Value}(dg:Nat)
  (h1:(ops[g]?).bind (·.dst)=some dg) (h3:zay dg kn=true) (hv:F dg=.bool b)
  (hrun:∀w,Si w->(execOp (evn ⟨kn,kD,none⟩ F) (⟨dst,op,ty,pos,after,none⟩:Oper)).run P w=.ok (.value v) w):YieldsIf P ops Si ⟨dst,op,ty,pos,after,some (g,b)⟩ v (fr ⟨kn,kD,none⟩ F):=by
 refine .inl ⟨?_,fun w hw=> ?_⟩
 ·unfold Region.wanted;simp only [ahv (n:=⟨kn,kD,none⟩) ops g dg h1 h3,hv];simp
 ·rw [afa];exact hrun w hw
theorem y_gno{dst:Option Nat}{op:Op}{ty:TypeId}{pos:String}{after:Array Edge}{g:Nat}{b:Bool}(dg:Nat)
  (h1:(ops[g]?).bind (·.dst)=some dg) (h3:zay dg kn=true) (hv:F dg=.bool (!b)):YieldsIf P ops Si ⟨dst,op,ty,pos,after,some (g,b)⟩ undef (fr ⟨kn,kD,none⟩ F):=by
 refine .inr ⟨?_,rfl⟩;unfold Region.wanted;simp only [ahv (n:=⟨kn,kD,none⟩) ops g dg h1 h3,hv];cases b<;>rfl
theorem y_gun{dst:Option Nat}{op:Op}{ty:TypeId}{pos:String}{after:Array Edge}{g:Nat}{b:Bool}(dg:Nat)
  (h1:(ops[g]?).bind (·.dst)=some dg) (h3:zay dg kn=true) (hv:F dg=undef):YieldsIf P ops Si ⟨dst,op,ty,pos,after,some (g,b)⟩ undef (fr ⟨kn,kD,none⟩ F):=by
 refine .inr ⟨?_,rfl⟩;unfold Region.wanted;simp only [ahv (n:=⟨kn,kD,none⟩) ops g dg h1 h3,hv];simp [undef]
theorem set_listed(listed:List Bool)(i:Nat):listed.toArray.setIfInBounds i true=(listed.set i true).toArray:=by simp
theorem abr{k f:Nat}{listed:List Bool}(listed':List Bool)(i d:Nat)(v:Value)(D:List Nat)(hSi:∀j w w',S j w w'->abp D Si j w w')(o:Oper)(ho:ops[i]? =some o)(hd:o.dst=some d)(hs:aft ops k=true)(hD:descB .any ops i D=true)(hfree:Region.free .any ops listed.toArray i=true)
  (hr:(Region.ready .any ops listed.toArray).contains i=true) (hik:zay i k=true) (hl:listed.set i true=listed') (hy:YieldsIf P ops Si o v (fr ⟨kn,kD,none⟩ F)) (hS:Si w)
  (h:R P ⟨kn,kD,none⟩ ops Q S k f listed' (upd F d v) w):R P ⟨kn,kD,none⟩ ops Q S k (f+1) listed F w:=by
 intro inv hrefl hQ;have hik':i<k:=by simpa [Nat.blt_eq] using hik
 have hr':i∈Region.ready .any ops listed.toArray:=by simpa using hr
 have hsel:Region.noSelect ops=true:=by
  simp only [aft,zas]at hs;exact hs.1.1
 refine pre_first Si D hD hSi ho (Region.noSelect_spec hsel) (fun c a w h=>absurd h (hQ c _ w)) hik' (shape_ready hs hik') f _ _ _ inv (Region.free_spec ho hfree) hr' hy hS hrefl ?_;have inv':=inv.set hr' hik';rw [set_listed,hl]at inv'⊢
 have:=h inv' hrefl hQ
 rw [<-fr_put,<-hd]at this;exact this
theorem r_take{k f:Nat}{listed:List Bool}(listed':List Bool)(i d:Nat)(v:Value)(o:Oper)(ho:ops[i]? =some o)(hd:o.dst=some d)(hs:aft ops k=true)(hfree:Region.free .any ops listed.toArray i=true)
  (hr:(Region.ready .any ops listed.toArray).contains i=true) (hik:zay i k=true) (hl:listed.set i true=listed') (hy:YieldsIf P ops (fun _=>True) o v (fr ⟨kn,kD,none⟩ F))
  (h:R P ⟨kn,kD,none⟩ ops Q S k f listed' (upd F d v) w):R P ⟨kn,kD,none⟩ ops Q S k (f+1) listed F w:=
 abr (Si:=fun _=>True) listed' i d v [] (fun _ _ _ _ _ _=>trivial) o ho hd hs rfl hfree hr hik hl hy trivial h
theorem op_of_list{i:Nat}{o:Oper}{K:Act->World->Prop}{a:Act}(ho:ops[i]? =some o)(h:wpList P ops (Exit.then K Q) [o] a w):wpOp P ops Q i K a w:=by
 unfold wpOp;simp only [ho];unfold wpList at h;split
 ·rename_i hw;rw [if_pos hw]at h;rcases h with h|h
  ·refine .inl ?_;unfold Oper.wp at*
   generalize(execOp a.eval o).run P w=r at*
   cases r with
   |ok x w'=>cases x<;>exact h
   |halt x w'=>cases x<;>exact h
  ·exact .inr h
 ·rename_i hw;rw [if_neg hw]at h;exact h
theorem r_step{k f:Nat}{listed:List Bool}(listed':List Bool)(i:Nat)(o:Oper)(ho:ops[i]? =some o)(hl:listed.set i true=listed')(inv:HeadInv .any ops k listed.toArray)(hrefl:∀j w,S j w w)(hQ:NoP Q)
  (hr:i∈Region.ready .any ops listed.toArray) (hik:i<k) (h:W P ⟨kn,kD,none⟩ ops (RK P ⟨kn,kD,none⟩ ops Q S k f listed' i w) [o] F w):
  i<k/\wpOp P ops Q i (fun a' w'=>S i w w'/\wpPre P .any ops Q S k (fun a w=>wpList P ops Q (ops.toList.drop k) a w) f (listed.toArray.setIfInBounds i true) a' w') (fr ⟨kn,kD,none⟩ F) w:=by
 refine⟨hik, ?_⟩
 have inv':=inv.set hr hik;rw [set_listed,hl]at inv'⊢;unfold W WR RK at h;refine wpOp_mono ?_ (op_of_list ho h);rintro a' w' ⟨F',rfl,hS,hR⟩
 exact⟨hS,hR inv' hrefl hQ⟩
theorem r_one1{k f:Nat}{listed:List Bool}(listed':List Bool)(i:Nat)(o:Oper)(ho:ops[i]? =some o)(hr:Region.ready .any ops listed.toArray=[i])(hik:zay i k=true)(hl:listed.set i true=listed')
  (h:W P ⟨kn,kD,none⟩ ops (RK P ⟨kn,kD,none⟩ ops Q S k f listed' i w) [o] F w):R P ⟨kn,kD,none⟩ ops Q S k (f+1) listed F w:=by
 intro inv hrefl hQ;refine⟨by rw [hr];simp,fun j hj=> ?_⟩
 rw [hr]at hj;obtain rfl:j=i:=by simpa using hj
 exact r_step listed' j o ho hl inv hrefl hQ (by rw [hr];simp) (by simpa [Nat.blt_eq] using hik) h
theorem r_one2{k f:Nat}{listed:List Bool}(l1 l2:List Bool)(i j:Nat)(o o':Oper)(ho:ops[i]? =some o)(ho':ops[j]? =some o')(hr:Region.ready .any ops listed.toArray=[i,j])(hik:zay i k=true)(hjk:zay j k=true)
  (hl:listed.set i true=l1) (hl':listed.set j true=l2)
  (h:W P ⟨kn,kD,none⟩ ops (RK P ⟨kn,kD,none⟩ ops Q S k f l1 i w) [o] F w) (h':W P ⟨kn,kD,none⟩ ops (RK P ⟨kn,kD,none⟩ ops Q S k f l2 j w) [o'] F w):R P ⟨kn,kD,none⟩ ops Q S k (f+1) listed F w:=by
 intro inv hrefl hQ;refine⟨by rw [hr];simp,fun m hm=> ?_⟩
 have hm':=hm;rw [hr]at hm'
 have:m=i\/m=j:=by simpa using hm'
 rcases this with rfl|rfl
 ·exact r_step l1 m o ho hl inv hrefl hQ hm (by simpa [Nat.blt_eq] using hik) h
 ·exact r_step l2 m o' ho' hl' inv hrefl hQ hm (by simpa [Nat.blt_eq] using hjk) h'
theorem age{k f i:Nat}{w0:World}{listed:List Bool}(hS:S i w0 w)(h:R P ⟨kn,kD,none⟩ ops Q S k f listed F w):RK P ⟨kn,kD,none⟩ ops Q S k f listed i w0 .normal (fr ⟨kn,kD,none⟩ F) w:=⟨F,rfl,hS,h⟩
theorem agw{k:Nat}{listed:List Bool}(hseq:Region.seqB .any ops (ops.size-k) k listed.toArray=true)(h:W P ⟨kn,kD,none⟩ ops Q (ops.toList.drop k) F w):R P ⟨kn,kD,none⟩ ops Q S k 0 listed F w:=by
 intro _ _ _;unfold W WR at h;exact⟨hseq,h⟩
end
attribute [irreducible] R RK
open Go.Value renaming ownBlock -> zaB
open List renaming drop -> zaE, drop_succ_cons -> zbg, eq_nil_of_length_eq_zero -> zaA, flatMap_cons -> zar, length_append -> zae, length_cons -> zaf, length_map -> zax, length_take -> zac, map_cons -> zao, take_of_length_le -> zaG
open Nat renaming add_mul -> zaX, blt -> zay, le_refl -> zab, min_eq_left -> zaK, mul_le_mul_right -> zak, succ_mul -> zaV, zero_add -> zaT
open UInt8 renaming ofNat -> zaQ
def ea(a:Option Addr)(j:Nat):Addr:=match a with
 |some p=>p.add j
 |none=>⟨0,j,none⟩
theorem add_add(p:Addr)(j k:Nat):(p.add j).add k=p.add (j+k):=by
 unfold Addr.add;by_cases hj:j=0
 ·subst hj;simp
 ·by_cases hk:k=0
  ·subst hk;simp
  ·simp [hj,hk,Nat.add_assoc]
theorem ea_add(a:Option Addr)(j k:Nat):(ea a j).add k=ea a (j+k):=by
 cases a with
 |none=>exact abb 0 j k
 |some p=>exact add_add p j k
def Rd(w:World)(a:Option Addr)(xs:List Value):Prop:=∀j v,xs[j]? =some v->∃p,a=some p/\w.cell? (p.add j)=some v
theorem cell_lt{w:World}{p:Addr}{v:Value}(h:w.cell? p=some v):p.block<w.heap.size:=by
 unfold World.cell? at h;cases hb:w.heap[p.block]? with
 |none=>simp [hb]at h
 |some o=>exact(Array.getElem?_eq_some_iff.1 hb).1
theorem add_block(p:Addr)(j:Nat):(p.add j).block=p.block:=by unfold Addr.add;split<;>rfl
theorem cell_same{w w':World}{p:Addr}(h:w'.heap[p.block]? =w.heap[p.block]?):w'.cell? p=w.cell? p:=by simp only [World.cell?,h]
theorem Rd.mono{w w':World}{a:Option Addr}{xs:List Value}(h:Rd w a xs)(hb:∀b,b<w.heap.size->w'.heap[b]? =w.heap[b]?):Rd w' a xs:=by
 intro j v hv;obtain⟨p,hp,hc⟩:=h j v hv;refine⟨p,hp, ?_⟩
 rw [cell_same (hb _ (cell_lt hc))];exact hc
theorem Rd.hp{w0 w:World}{L:List Res}{a:Option Addr}{xs:List Value}(h:Rd w0 a xs)(hH:Hp w0 [] L w):Rd w a xs:=h.mono fun b hb=>hH.below b hb (by simp)
theorem Rd.hpS{w0 w:World}{S:List Nat}{L:List Res}{a:Option Addr}{xs:List Value}(h:Rd w0 a xs)(hH:Hp w0 S L w)(hne:∀p,a=some p->p.block∉S):Rd w a xs:=by
 intro j v hv;obtain⟨p,hp,hc⟩:=h j v hv;refine⟨p,hp, ?_⟩
 have hl:=cell_lt hc;rw [add_block]at hl;have hs:w.heap[(p.add j).block]? =w0.heap[(p.add j).block]? :=by rw [add_block];exact hH.below _ hl (hne p hp)
 rw [cell_same hs];exact hc
theorem Rd.nil(w:World)(a:Option Addr):Rd w a []:=fun j v h=>by simp at h
theorem Rd.some_{w:World}{a:Option Addr}{xs:List Value}(h:Rd w a xs)(hn:0<xs.length):a≠none:=by
 obtain⟨p,hp,_⟩:=h 0 xs[0] (by simp);rw [hp];simp
theorem Rd.take{w:World}{a:Option Addr}{xs:List Value}(h:Rd w a xs)(k:Nat):Rd w a (xs.take k):=by
 intro j v hv;rw [List.getElem?_take]at hv;split at hv
 ·exact h j v hv
 ·cases hv
theorem Rd.drop{w:World}{p:Addr}{xs:List Value}(h:Rd w (some p) xs)(k:Nat):Rd w (some (p.add k)) (xs.drop k):=by
 intro j v hv;rw [List.getElem?_drop]at hv;obtain⟨q,hq,hc⟩:=h _ v hv;simp at hq
 subst hq;exact⟨_,rfl,by rw [add_add];exact hc⟩
theorem Hp.rdbrow{w0 w:World}{S:List Nat}{L:List Res}{a:Option Addr}{m cap:Nat}{l:List UInt8}(h:Hp w0 S L w)(k:Nat)(hk:L[k]? =some (brow (.slice a m cap) m l)):Rd w a (l.map bt):=by
 obtain⟨h1,_⟩:=h.res _ (List.mem_of_getElem? hk);obtain⟨hln,g,cap',cur,e,fz,hv0,ho,hnc,hcs,htk,hfz⟩:=h1;intro j v hv;simp at hv0
 obtain⟨rfl,rfl⟩:=hv0;refine⟨_,rfl, ?_⟩
 rw [abb];have hb:w.heap[g]? =some (.cells cur e fz):=by simpa [brow,zaB] using ho
 simp only [World.cell?,hb,zaT];rw [<-htk,List.getElem?_take]at hv;split at hv
 ·simpa using hv
 ·cases hv
theorem Hp.rdblk{w0 w:World}{S:List Nat}{L:List Res}{b e:Nat}{cs:List Value}(h:Hp w0 S L w)(k:Nat)(hk:L[k]? =some (blk b cs e)):Rd w (some ⟨b,0,none⟩) cs:=by
 intro j v hv;refine⟨_,rfl, ?_⟩
 rw [abb,ajw (h.blkAt k hk)];simpa using hv
theorem Hp.browlen{w0 w:World}{S:List Nat}{L:List Res}{v:Value}{m:Nat}{l:List UInt8}(h:Hp w0 S L w)(k:Nat)(hk:L[k]? =some (brow v m l)):l.length=m:=(h.res _ (List.mem_of_getElem? hk)).1.1
theorem Hp.tail{w0 w:World}{S:List Nat}{r:Res}{L:List Res}(h:Hp w0 S (r::L) w):Hp w0 S L w:=h.sub (List.sublist_cons_self r L)
def TI(P:Program)(e sz by_:Nat):Prop:=(P.info? e).map (fun i=>(i.zero.map (fun z=>z.cells.size),i.size,i.bytes))=some (some sz,sz,by_)
theorem TI.parts{P:Program}{e sz by_:Nat}(h:TI P e sz by_):∃i z,P.info? e=some i/\i.zero=some z/\i.size=sz/\i.bytes=by_/\z.cells.size=sz:=by
 unfold TI at h;cases hi:P.info? e with
 |none=>simp [hi]at h
 |some i=>
  simp [hi]at h
  obtain⟨⟨z,hz,hzs⟩,h2,h3⟩:=h;exact⟨i,z,rfl,hz,h2,h3,hzs⟩
section
variable {P : Program} {n : Md} {ops : Array Oper} {Q : Exit -> Act -> World -> Prop} {F : Nat -> Value} {w w0 : World} {S : List Nat} {L : List Res}
variable {d : Nat} {ty : TypeId} {pos : String} {after : Array Edge} {rest : List Oper}
theorem x_ld1{x:Operand}{t:TypeId}(b off:Nat)(cs:List Value)(e:TypeId)(v:Value)(hb:w.heap[b]? =some (.cells cs.toArray e (0,0)))(hv:cs[off]? =some v)
  (hx:evn n F x=.pointer (some ⟨b,off,none⟩)) (ha:(isAgg t).run P w=.ok false w):(execOp (evn n F) (⟨some d,.load t x,ty,pos,after,none⟩:Oper)).run P w=.ok (.value v) w:=by
 have hc:=ajw (off:=off) hb;rw [hv]at hc;simp [execOp,hx,Instr.loadAt,Instr.sureAddr,loadVar,ha,hc]
theorem x_rd1{x:Operand}{t:TypeId}(a:Option Addr)(xs:List Value)(j:Nat)(v:Value)(hR:Rd w a xs)(hv:xs[j]? =some v)(hx:evn n F x=.pointer (some (ea a j)))
  (ha:(isAgg t).run P w=.ok false w):(execOp (evn n F) (⟨some d,.load t x,ty,pos,after,none⟩:Oper)).run P w=.ok (.value v) w:=by
 obtain⟨p,rfl,hc⟩:=hR j v hv;have hx':evn n F x=.pointer (some (p.add j)):=hx;simp [execOp,hx',Instr.loadAt,Instr.sureAddr,loadVar,ha,hc]
theorem x_ldN{x:Operand}{t:TypeId}(b off m:Nat)(cs vs:List Value)(e:TypeId)(hb:w.heap[b]? =some (.cells cs.toArray e (0,0)))(hv:(cs.drop off).take m=vs)(hl:vs.length=m)
  (hx:evn n F x=.pointer (some ⟨b,off,none⟩)) (ha:(isAgg t).run P w=.ok true w) (hs:(sizeOf t).run P w=.ok m w):
  (execOp (evn n F) (⟨some d,.load t x,ty,pos,after,none⟩:Oper)).run P w=.ok (.value (.agg vs.toArray)) w:=by
 have hc:(loadCells ⟨b,off,none⟩ m).run P w=.ok vs.toArray w:=by
  rw [<-hl];refine run_loadCells_list w ⟨b,off,none⟩ vs fun j v hj=> ?_
  rw [abb,ajw hb];rw [<-hv]at hj;have hlt:j<m:=by
   have:=(List.getElem?_eq_some_iff.1 hj).1
   simp at this;omega
  rw [List.getElem?_take,if_pos hlt,List.getElem?_drop]at hj;exact hj
 simp [execOp,hx,Instr.loadAt,Instr.sureAddr,loadVar,ha,hs,hc]
theorem x_rdN{x:Operand}{t:TypeId}(a:Option Addr)(xs vs:List Value)(j m:Nat)(hR:Rd w a xs)(hv:(xs.drop j).take m=vs)(hl:vs.length=m)(hm:0<m)(hx:evn n F x=.pointer (some (ea a j)))
  (ha:(isAgg t).run P w=.ok true w) (hs:(sizeOf t).run P w=.ok m w):
  (execOp (evn n F) (⟨some d,.load t x,ty,pos,after,none⟩:Oper)).run P w=.ok (.value (.agg vs.toArray)) w:=by
 have hget:∀i v,vs[i]? =some v->xs[j+i]? =some v:=by
  intro i v hi;rw [<-hv]at hi;have hlt:i<m:=by
   have:=(List.getElem?_eq_some_iff.1 hi).1
   simp at this;omega
  rw [List.getElem?_take,if_pos hlt,List.getElem?_drop]at hi;exact hi
 have h0:vs[0]? =some (vs[0]'(by omega)):=by simp
 obtain⟨p,rfl,_⟩:=hR _ _ (hget 0 _ h0);have hx':evn n F x=.pointer (some (p.add j)):=hx;have hc:(loadCells (p.add j) m).run P w=.ok vs.toArray w:=by
  rw [<-hl];refine run_loadCells_list w (p.add j) vs fun i v hi=> ?_
  obtain⟨q,hq,hcc⟩:=hR _ _ (hget i v hi);simp at hq
  subst hq;rw [add_add];exact hcc
 simp [execOp,hx',Instr.loadAt,Instr.sureAddr,loadVar,ha,hs,hc]
theorem w_rdN{x:Operand}{t:TypeId}(a:Option Addr)(xs vs:List Value)(j m:Nat)(hR:Rd w a xs)(hv:(xs.drop j).take m=vs)(hl:vs.length=m)(hm:0<m)(hx:evn n F x=.pointer (some (ea a j)))
  (ha:(isAgg t).run P w=.ok true w) (hs:(sizeOf t).run P w=.ok m w) (h:W P n ops Q rest (upd F d (.agg vs.toArray)) w):W P n ops Q (⟨some d,.load t x,ty,pos,after,none⟩::rest) F w:=
 abn rfl rfl (x_rdN a xs vs j m hR hv hl hm hx ha hs) h
theorem x_lenS{x:Operand}{t:TypeId}(a:Option Addr)(k c e:Nat)(ht:P.underlying t=some (.slice e))(hx:evn n F x=.slice a k c):
  (execOp (evn n F) (⟨some d,.call ⟨.builtin .len, #[x], #[t]⟩,ty,pos,after,none⟩:Oper)).run P w=.ok (.value (.int .i64 (k:Int))) w:=by
 simp [execOp,resolve,invoke,builtin,hx,Builtin.len_,run_underlying ht,goInt]
theorem w_lenS{x:Operand}{t:TypeId}(a:Option Addr)(k c e:Nat)(ht:P.underlying t=some (.slice e))(hx:evn n F x=.slice a k c)(h:W P n ops Q rest (upd F d (.int .i64 (k:Int))) w):
  W P n ops Q (⟨some d,.call ⟨.builtin .len, #[x], #[t]⟩,ty,pos,after,none⟩::rest) F w:=abn rfl rfl (x_lenS a k c e ht hx) h
theorem x_ixa{x ix:Operand}{t:TypeId}(a:Option Addr)(k c e sz:Nat)(q:IntKind)(i:Int)(ht:P.underlying t=some (.slice e))(hs:(sizeOf e).run P w=.ok sz w)(hx:evn n F x=.slice a k c)(hi:evn n F ix=.int q i)
  (hb:0<=i/\i<(k:Int)) (ha:a≠none):(execOp (evn n F) (⟨some d,.indexAddr t x ix,ty,pos,after,none⟩:Oper)).run P w=.ok (.value (.pointer (some (ea a (i.toNat*sz))))) w:=by
 cases a with
 |none=>exact absurd rfl ha
 |some p=>simp [execOp,hx,hi,Instr.indexAt,asIntOf,run_underlying ht,hs,hb.1,hb.2,ea]
theorem x_fld{x:Operand}{t f:Nat}(A:Addr)(off:Nat)(hx:evn n F x=.pointer (some A))(hrun:(Instr.fieldAt t (.pointer (some A)) f).run P w=.ok (.pointer (some (A.add off))) w):
  (execOp (evn n F) (⟨some d,.fieldAddr t x f,ty,pos,after,none⟩:Oper)).run P w=.ok (.value (.pointer (some (A.add off)))) w:=by
 simp [execOp,hx,hrun]
theorem x_fldE{x:Operand}{t f:Nat}(a:Option Addr)(j off:Nat)(hx:evn n F x=.pointer (some (ea a j)))(hrun:(Instr.fieldAt t (.pointer (some (ea a j))) f).run P w=.ok (.pointer (some ((ea a j).add off))) w):
  (execOp (evn n F) (⟨some d,.fieldAddr t x f,ty,pos,after,none⟩:Oper)).run P w=.ok (.value (.pointer (some (ea a (j+off))))) w:=by
 rw [x_fld (ea a j) off hx hrun,ea_add]
theorem w_fldE{x:Operand}{t f:Nat}(a:Option Addr)(j off:Nat)(hx:evn n F x=.pointer (some (ea a j)))(hrun:(Instr.fieldAt t (.pointer (some (ea a j))) f).run P w=.ok (.pointer (some ((ea a j).add off))) w)
  (h:W P n ops Q rest (upd F d (.pointer (some (ea a (j+off))))) w):W P n ops Q (⟨some d,.fieldAddr t x f,ty,pos,after,none⟩::rest) F w:=
 abn rfl rfl (x_fldE a j off hx hrun) h
theorem w_tobytesR{x:Operand}{s t:TypeId}(hH:Hp w0 S L w)(l:List UInt8)(e:TypeId)(hs:P.underlying s=some .string)(ht:P.underlying t=some (.slice e))(he:P.underlying e=some (.int .u8))(hx:evn n F x=str l)
  (h:∀a cap w',(execOp (evn n F) (⟨some d,.convert s t x,ty,pos,after,none⟩:Oper)).run P w=.ok (.value (.slice a l.length cap)) w'->Hp w0 S (brow (.slice a l.length cap) l.length l::L) w'->W P n ops Q rest (upd F d (.slice a l.length cap)) w'):
  W P n ops Q (⟨some d,.convert s t x,ty,pos,after,none⟩::rest) F w:=by
 let cap:=Question.cut (.appendCap l.length 0 e) (w.tape w.drawn (.appendCap l.length 0 e))
 have hcap:l.length<=cap:=by show _<=_+_;omega
 let cells:Array Value:=(l.toArray.map fun b=>.int .u8 b.toNat)++Array.replicate (cap-l.length) (.int .u8 0)
 have hcs:cells.size=cap:=by simp [cells];omega
 let w1:World:={w with drawn:=w.drawn+1,heap:=w.heap.push (.cells cells e (cap,cap+1))}
 have hrun:(execOp (evn n F) (⟨some d,.convert s t x,ty,pos,after,none⟩:Oper)).run P w=.ok (.value (.slice (some ⟨w.heap.size,0,none⟩) l.length cap)) w1:=by
  have e1:(convert s t (str l)).run P w=(Conv.stringToBytes e ⟨l.toArray⟩).run P w:=by
   simp [convert,str,run_underlying hs,run_underlying ht,run_underlying he]
  have e2:(Conv.stringToBytes e ⟨l.toArray⟩).run P w=.ok (.slice (some ⟨w.heap.size,0,none⟩) l.length cap) w1:=by
   have hsz:(⟨l.toArray⟩:ByteArray).size=l.length:=rfl;unfold Conv.stringToBytes markStringish;simp only [Sem.run_bind,hsz];show Result.andThen (Result.ok cap {w with drawn:=w.drawn+1}) _=_;simp only [Result.andThen_ok,newRow,Sem.run_bind,run_newObj,Sem.run_pure];show Result.andThen (Result.andThen (Result.ok (World.shape? {w with drawn:=w.drawn+1,heap:=w.heap.push (.cells cells e (0,0))} w.heap.size) _) _) _=_;have hsh:World.shape? {w with drawn:=w.drawn+1,heap:=w.heap.push (.cells cells e (0,0))} w.heap.size=some (e,cap):=by
    simp [World.shape?,hcs]
   rw [hsh];simp only [Result.andThen_ok];show Result.andThen (Result.ok () (World.freeze {w with drawn:=w.drawn+1,heap:=w.heap.push (.cells cells e (0,0))} ⟨w.heap.size,cap,none⟩ 1)) _=_;simp only [Result.andThen_ok,Sem.run_pure,World.freeze];congr 1
   simp only [Nat.one_ne_zero,if_false];refine congrArg (fun h=>({w with drawn:=w.drawn+1,heap:=h}:World)) ?_;apply Array.ext
   ·simp
   ·intro i h1 h2;have hlt:i<w.heap.size+1:=by simpa using h2
    rw [Array.getElem_modify];by_cases hi:w.heap.size=i
    ·subst hi;simp
    ·have hl2:i<w.heap.size:=by omega
     simp [hi,Array.getElem_push,hl2]
  simp [execOp,hx,e1,e2]
 refine abn rfl rfl hrun (h _ _ _ hrun ?_);have h2:Hp w [] [brow (.slice (some ⟨w.heap.size,0,none⟩) l.length cap) l.length l] w1:=by
  refine⟨rfl,rfl,rfl,by simp [w1],fun k hk _=> ?_,fun r hr=> ?_,by simp⟩
  ·show(w.heap.push _)[k]? =_
   rw [Array.getElem?_push,if_neg (by omega)]
  ·simp at hr
   subst hr;refine⟨⟨rfl,w.heap.size,cap,cells,e,(cap,cap+1),rfl, ?_,hcap,by omega, ?_,by omega⟩,fun b hb=> ?_⟩
   ·simp [brow,zaB,w1]
   ·simp [cells,bt]
   ·simp [brow,zaB]at hb
    subst hb;simp [w1]
 exact hH.callL h2
theorem w_tobytes{x:Operand}{s t:TypeId}(hH:Hp w0 S L w)(l:List UInt8)(e:TypeId)(hs:P.underlying s=some .string)(ht:P.underlying t=some (.slice e))(he:P.underlying e=some (.int .u8))(hx:evn n F x=str l)
  (h:∀a cap w',Hp w0 S (brow (.slice a l.length cap) l.length l::L) w'->W P n ops Q rest (upd F d (.slice a l.length cap)) w'):
  W P n ops Q (⟨some d,.convert s t x,ty,pos,after,none⟩::rest) F w:=w_tobytesR hH l e hs ht he hx fun a cap w' _=>h a cap w'
theorem ajm{x:Operand}{s t:TypeId}(l:List UInt8)(a:Option Addr)(m cap:Nat)(e:TypeId)(hR:Rd w a (l.map bt))(hm:l.length=m)(hs:P.underlying s=some (.slice e))(ht:P.underlying t=some .string)(he:P.underlying e=some (.int .u8))(hx:evn n F x=.slice a m cap):
  (execOp (evn n F) (⟨some d,.convert s t x,ty,pos,after,none⟩:Oper)).run P w=.ok (.value (str l)) w:=by
 subst hm;have e1:(convert s t (.slice a l.length cap)).run P w=(Conv.bytesToString (.slice a l.length cap)).run P w:=by
  simp [convert,run_underlying hs,run_underlying ht,run_underlying he]
 have e2:(Conv.bytesToString (.slice a l.length cap)).run P w=.ok (str l) w:=by
  cases a with
  |none=>
   have:l=[]:=by
    cases l with
    |nil=>rfl
    |cons c l=>obtain⟨p,hp,_⟩:=hR 0 (bt c) (by simp);cases hp
   subst this;rfl
  |some p=>
   have hload:(loadCells p l.length).run P w=.ok ((l.map fun c=>(c.toNat:Int)).map (Value.int .u8)).toArray w:=by
    have:=run_loadCells_list (P:=P) w p (l.map bt) (fun j v hj=>by
     obtain⟨q,hq,hcell⟩:=hR j v hj;simp at hq
     subst hq;exact hcell)
    simp only [zax]at this;rw [this];simp [bt,Function.comp_def]
   have:=run_bytesToString (P:=P) w p l.length cap _ hload
   rw [this];congr 1
   unfold str;congr 1
   have hf:∀(l:List UInt8) (r:ByteArray),(l.map fun c=>(c.toNat:Int)).foldl (fun r n=>r.push (zaQ n.toNat)) r=⟨r.data++l.toArray⟩:=by
    intro l;induction l with
    |nil=>intro r;simp
    |cons c l ih=>
     intro r;simp only [zao,List.foldl_cons];rw [ih];apply ByteArray.ext
     simp [ByteArray.push]
   rw [hf];apply ByteArray.ext
   show(#[]:Array UInt8)++l.toArray=l.toArray
   simp
 simp [execOp,hx,e1,e2]
theorem Hp.grown{w':World}{a a':Option Addr}{k m cap cap' e sz:Nat}{xs ys:List Value}(hH:Hp w0 S L w)(hk:L[k]? =some (row (.slice a m cap) e sz m xs)){m':Nat}
  (hg:w.grownBy w' (Value.slice a m cap).ownBlock) (ho:w'.ownsRow 0 e sz (.slice a' m' cap') m' ys) (hn:∀p,a'=some p->(∃q,a=some q/\q.block=p.block)\/w.heap.size<=p.block):
  Hp w0 S (L.set k (row (.slice a' m' cap') e sz m' ys)) w':=by
 have hrow:(row (.slice a' m' cap') e sz m' ys).holds w':=by
  obtain⟨hl,hr⟩:=ho;refine⟨hl, ?_⟩
  rcases hr with hr|⟨g,c,cur,hv,_,hb,h1,h2,h3,h4⟩
  ·exact .inl hr
  ·refine .inr ⟨g,c,cur,hv, ?_,h1,h2,h3,h4⟩;simp only [Value.slice.injEq]at hv;obtain⟨rfl,-,rfl⟩:=hv;exact hb
 refine hH.change k _ _ hk hg.os hg.tape hg.output hg.size (fun j hj hne=>hg.block j hj (fun e=>hne (by rw [e];rfl))) hrow ?_;intro b hb;cases a' with
 |none=>simp [row,zaB]at hb
 |some p=>
  simp [row,zaB]at hb
  subst hb;refine⟨?_,(ho.lt p.block rfl).2⟩
  rcases hn p rfl with⟨q,rfl,hq⟩|h2
  ·left;simp [row,zaB,hq]
  ·exact .inr h2
theorem Hp.ownsRow{a:Option Addr}{k m cap e sz:Nat}{xs:List Value}(hH:Hp w0 S L w)(hk:L[k]? =some (row (.slice a m cap) e sz m xs)):w.ownsRow 0 e sz (.slice a m cap) m xs:=by
 obtain⟨⟨hl,hr⟩,_⟩:=hH.res _ (List.mem_of_getElem? hk);refine⟨hl, ?_⟩
 rcases hr with hr|⟨g,c,cur,hv,hb,h1,h2,h3,h4⟩
 ·exact .inl hr
 ·refine .inr ⟨g,c,cur,hv,Nat.zero_le _, ?_,h1,h2,h3,h4⟩;simp only [Value.slice.injEq]at hv;obtain⟨rfl,-,rfl⟩:=hv;exact hb
theorem run_app{a ax:Option Addr}{m cap mx cx e sz by_:Nat}{xs news:List Value}(t:TypeId)(ht:P.underlying t=some (.slice e))(hT:TI P e sz by_)(hsz:0<sz)(hown:w.ownsRow 0 e sz (.slice a m cap) m xs)
  (hR:Rd w ax news) (hl:news.length=mx*sz) (h1:∀u∈news,u.oneCell'=true) (h63:m+mx<=maxLen) (hby:(m+mx)*by_<=140737488355328):
  ∃a' cap' w',(Builtin.append_ #[t,t] ty #[.slice a m cap,.slice ax mx cx]).run P w=.ok (.slice a' (m+mx) cap') w'/\w'.ownsRow 0 e sz (.slice a' (m+mx) cap') (m+mx) (xs++news)/\
   w.grownBy w' (Value.slice a m cap).ownBlock/\∀p,a'=some p->(∃q,a=some q/\q.block=p.block)\/w.heap.size<=p.block:=by
 obtain⟨i,z,hi,hz,hs,hb,hzs⟩:=hT.parts;have hax:∀{ax},ax=none->Rd w ax news->mx=0/\news=[]:=by
  rintro _ rfl hR
  have:news=[]:=by
   cases news with
   |nil=>rfl
   |cons u us=>obtain⟨p,hp,_⟩:=hR 0 u (by simp);cases hp
  subst this;refine⟨?_,rfl⟩
  rcases Nat.eq_zero_or_pos mx with h|h
  ·exact h
  ·have:=Nat.mul_pos h hsz
   simp at hl;omega
 by_cases hm:mx=0
 ·
  subst hm;have hn:news=[]:=zaA (by simpa using hl);subst hn;refine⟨a,cap,w, ?_,by simpa using hown,⟨rfl,rfl,rfl,zab _,fun _ _ _=>rfl⟩,fun p hp=>.inl ⟨p,hp,rfl⟩⟩
  have hmc:m+0<=cap:=by
   rcases hown.2 with⟨hv,hm0⟩|⟨g,c,cur,hv,_,_,hc,_⟩
   ·subst hm0;omega
   ·simp only [Value.slice.injEq]at hv;omega
  have hfirst:(Builtin.firstCells i.size 0 (.slice ax 0 cx)).run P w=.ok #[] w:=by
   cases ax with
   |none=>simp [Builtin.firstCells]
   |some p=>simp [Builtin.firstCells,loadCells,loadCellsFrom]
  have hst:∀q:Addr,(storeCells q []).run P w=.ok () w:=fun q=>rfl
  cases a with
  |none=>simp [Builtin.append_,run_underlying ht,sizeOf,typeInfo,hi,Builtin.lenOf,hmc,hfirst];omega
  |some p=>
   have:m<=cap:=by omega
   simp [Builtin.append_,run_underlying ht,sizeOf,typeInfo,hi,Builtin.lenOf,this,hfirst,storeCells]
 ·cases ax with
  |none=>exact absurd (hax rfl hR).1 hm
  |some p=>
   have hnews:∀j u,news[j]? =some u->w.cell? (p.add j)=some u:=by
    intro j u hu;obtain⟨q,hq,hc⟩:=hR j u hu;simp at hq
    subst hq;exact hc
   obtain⟨v',w',hr,ho,hg,hnil⟩:=run_append_own (P:=P) w 0 t ty e i z sz by_ ht hi hz hs hb hzs hsz (.slice a m cap) m xs hown p mx cx news hl hnews h1 h63 hby (Nat.zero_le _);have hv':∃a' cap',v'=.slice a' (m+mx) cap'/\∀p,a'=some p->(∃q,a=some q/\q.block=p.block)\/w.heap.size<=p.block:=by
    subst hs;subst hb;have h63':((m+mx:Nat):Int)<=9223372036854775807:=by simp only [maxLen]at h63;omega
    rcases hown.2 with⟨hv,hm0⟩|⟨g,c,cur,hv,_,hgb,hc,_,hcs,_⟩
    ·simp only [Value.slice.injEq]at hv;obtain⟨rfl,rfl,rfl⟩:=hv
     have:=run_append_nil (P:=P) w t ty e i z ht hi hz p mx cx news hl hnews (by omega) (by simpa using h63') (by simp at hby;omega)
     rw [this]at hr;simp only [Result.ok.injEq]at hr;refine⟨_,_,by rw [<-hr.1,zaT],fun p hp=>.inr ?_⟩
     simp at hp
     subst hp;simp
    ·simp only [Value.slice.injEq]at hv;obtain⟨rfl,-,rfl⟩:=hv;by_cases hroom:m+mx<=cap
     ·have hfit:m*i.size+news.length<=cur.size:=by rw [hl,hcs,<-zaX];exact zak _ hroom
      have:=run_append_room (P:=P) w t ty e i ht hi g m cap cur hgb p mx cx news hl hnews h1 hroom hfit
      rw [this]at hr;simp only [Result.ok.injEq]at hr;refine⟨_,_,hr.1.symm,fun p hp=>.inl ?_⟩
      simp at hp
      subst hp;exact⟨_,rfl,rfl⟩
     ·have holds:∀j u,xs[j]? =some u->w.cell? ((⟨g,0,none⟩:Addr).add j)=some u:=hown.cells (g:=g) rfl
      have:=run_append_grow (P:=P) w t ty e i z ht hi hz ⟨g,0,none⟩ m cap xs hown.1 holds p mx cx news hl hnews (by omega) h63' (growslice_fits (by omega) hby)
      rw [this]at hr;simp only [Result.ok.injEq]at hr;refine⟨_,_,hr.1.symm,fun p hp=>.inr ?_⟩
      simp at hp
      subst hp;simp
   obtain⟨a',cap',rfl,hn⟩:=hv';exact⟨a',cap',w',hr,ho,hg,hn⟩
theorem w_append{x y:Operand}{t:TypeId}(hH:Hp w0 S L w)(k:Nat)(a ax:Option Addr)(m cap mx cx e sz by_:Nat)(xs news:List Value)(hk:L[k]? =some (row (.slice a m cap) e sz m xs))(ht:P.underlying t=some (.slice e))(hT:TI P e sz by_)(hsz:0<sz)
  (hx:evn n F x=.slice a m cap) (hy:evn n F y=.slice ax mx cx) (hR:Rd w ax news) (hl:news.length=mx*sz) (h1:∀u∈news,u.oneCell'=true) (hb:(m+mx)*by_<=140737488355328) (h63:m+mx<=9223372036854775807)
  (h:∀a' cap' w',Hp w0 S (L.set k (row (.slice a' (m+mx) cap') e sz (m+mx) (xs++news))) w'->W P n ops Q rest (upd F d (.slice a' (m+mx) cap')) w'):
  W P n ops Q (⟨some d,.call ⟨.builtin .append, #[x,y], #[t,t]⟩,ty,pos,after,none⟩::rest) F w:=by
 obtain⟨a',cap',w',hr,ho,hg,hn⟩:=run_app (P:=P) (ty:=ty) (cx:=cx) t ht hT hsz (hH.ownsRow hk) hR hl h1 (by unfold maxLen;omega) hb;refine abn (w':=w') rfl rfl ?_ (h a' cap' w' (hH.grown hk hg ho hn));simp [execOp,resolve,invoke,builtin,hx,hy,hr]
theorem Hp.strow{k m cap e sz j:Nat}{a:Option Addr}{xs vs:List Value}(hH:Hp w0 S L w)(hk:L[k]? =some (row (.slice a m cap) e sz m xs))(hj:j+vs.length<=xs.length)(h1:∀v∈vs,v.oneCell'=true)(h0:vs≠[]):
  ∃w',(storeCells (ea a j) vs).run P w=.ok () w'/\Hp w0 S (L.set k (row (.slice a m cap) e sz m (abk xs j vs))) w':=by
 have hlen:0<vs.length:=List.length_pos_iff.2 h0;obtain⟨hl,hr⟩:=hH.ownsRow hk;rcases hr with⟨hv,hm⟩|⟨g,c,cur,hv,_,hb,hc1,hc2,hcs,htk⟩
 ·exfalso;subst hm;rw [Nat.zero_mul]at hl;omega
 ·simp only [Value.slice.injEq]at hv;obtain⟨rfl,-,rfl⟩:=hv;have hxl:xs.length<=cur.size:=by rw [hl,hcs];exact zak _ hc1
  have hst:=run_storeCells_at P g j e vs 0 cur w hb (by omega) h1;have hea:ea (some ⟨g,0,none⟩) j=⟨g,j,none⟩:=by show(⟨g,0,none⟩:Addr).add j=_;rw [abb,zaT]
  rw [hea];refine⟨_,hst,hH.change k _ _ hk rfl rfl rfl (by simp) (fun i hi hne=>setRow_other w g i _ (fun e=>hne (by simp [row,zaB,e]))) ?_ ?_⟩
  ·refine⟨by rw [<-hl];unfold abk;simp;omega,.inr ⟨g,cap,(List.take (j+0) cur.toList++vs++zaE (j+0+vs.length) cur.toList).toArray,rfl, ?_,hc1,hc2, ?_, ?_⟩⟩
   ·show(w.setRow g _).heap[g]? =_
    rw [setRow_heap w g cur _ e _ hb]
   ·rw [<-hcs];simp;omega
   ·rw [<-hl];simp only [Nat.add_zero];have e1:xs=cur.toList.take xs.length:=by rw [hl];exact htk.symm
    unfold abk;rw [List.take_append,List.take_append];simp only [zae,zac,Array.length_toList];have h3:min j cur.size=j:=by omega
    rw [h3];rw [List.take_take,zaG (l:=vs) (by omega)];have h4:min xs.length j=j:=by omega
    rw [h4,List.take_drop];have h5:j+vs.length+(xs.length-(j+vs.length))=xs.length:=by omega
    rw [h5];have h6:List.take j xs=List.take j cur.toList:=by
     conv=>lhs;rw [e1]
     rw [List.take_take,zaK (by omega)]
    rw [h6];have h7:zaE (j+vs.length) xs=zaE (j+vs.length) (List.take xs.length cur.toList):=by rw [<-e1]
    rw [h7]
  ·intro b hb';simp [row,zaB]at hb'
   subst hb';refine⟨.inl (by simp [row,zaB]), ?_⟩
   have:=(Array.getElem?_eq_some_iff.1 hb).1
   simpa using this
theorem w_stbrow{x y:Operand}{t:TypeId}(hH:Hp w0 S L w)(k:Nat)(a:Option Addr)(m cap j:Nat)(l:List UInt8)(c:UInt8)(hk:L[k]? =some (brow (.slice a m cap) m l))(hj:j<m)
  (hx:evn n F x=.pointer (some (ea a j))) (hy:evn n F y=bt c) (hs:(sizeOf t).run P w=.ok 1 w)
  (h:∀w',Hp w0 S (L.set k (brow (.slice a m cap) m (l.set j c))) w'->W P n ops Q rest F w'):W P n ops Q (⟨none,.store t x y,ty,pos,after,none⟩::rest) F w:=by
 obtain⟨⟨hln,g,cap',cur,e,fz,hv,ho,hc1,hc2,htk,hfz⟩,hown⟩:=hH.res _ (List.mem_of_getElem? hk);simp only [Value.slice.injEq]at hv;obtain⟨rfl,-,rfl⟩:=hv;have hb:w.heap[g]? =some (.cells cur e fz):=by simpa [brow,zaB] using ho
 have hea:ea (some ⟨g,0,none⟩) j=⟨g,j,none⟩:=by show(⟨g,0,none⟩:Addr).add j=_;rw [abb,zaT]
 rw [hea]at hx;have hcell:w.cell? ⟨g,j,none⟩=some (cur[j]'(by omega)):=by
  simp only [World.cell?,hb]
  have:j<cur.size:=by omega
  simp [this]
 have hfroz:w.frozen? ⟨g,j,none⟩=false:=by
  simp only [World.frozen?,hb]
  have:¬fz.1<=j:=by omega
  simp [this]
 have hst:(storeCells ⟨g,j,none⟩ [bt c]).run P w=.ok () (w.setCell ⟨g,j,none⟩ (bt c)):=by
  simp only [storeCells,Sem.run_bind,abb,Nat.add_zero,store];simp only [Sem.run,bt,hcell,hfroz];rfl
 have hblk:(w.setCell ⟨g,j,none⟩ (bt c)).heap[g]? =some (.cells (cur.setIfInBounds j (bt c)) e fz):=by
  simp [World.setCell,Array.getElem?_modify,hb]
 refine w_skip (w':=w.setCell ⟨g,j,none⟩ (bt c)) rfl rfl ?_ (h _ ?_)
 ·simp [execOp,hx,hy,Instr.storeAt,Instr.sureAddr,storeVar,hs,bt,Value.cells]
  have hst':=hst;simp only [bt]at hst';rw [hst'];rfl
 ·refine hH.change k _ _ hk rfl rfl rfl (by simp [World.setCell]) (fun i hi hne=>RowKit.Below.heap_setCell w ⟨g,j,none⟩ _ i (fun e=>hne (by simp [brow,zaB,e]))) ?_ ?_
  ·refine⟨by simpa using hln,g,cap,_,e,fz,rfl,hblk,hc1,by simpa using hc2, ?_,by simpa using hfz⟩
   rw [List.map_set,<-htk,<-List.take_set];simp
  ·intro b hb';simp [brow,zaB]at hb'
   subst hb';refine⟨.inl (by simp [brow,zaB]), ?_⟩
   have:=(Array.getElem?_eq_some_iff.1 hb).1
   simpa [World.setCell] using this
end
theorem run_mapM{α:Type}{P:Program}{w:World}(f:α->Sem Value):∀(l:List α) (vs:List Value),l.length=vs.length->(∀(i:Nat) (x:α) (v:Value),l[i]? =some x->vs[i]? =some v->(f x).run P w=.ok v w)->(l.mapM f).run P w=.ok vs w
 |[],[],_,_=>by simp
 |[],_::_,h,_=>by simp at h
 |_::_,[],h,_=>by simp at h
 |x::l,v::vs,h,hf=>by
  rw [List.mapM_cons];simp only [Sem.run_bind,hf 0 x v rfl rfl,Result.andThen_ok];rw [run_mapM f l vs (by simpa using h) (fun i y u hy hu=>hf (i+1) y u (by simpa using hy) (by simpa using hu))];simp
def ROk(P:Program)(kk:Nat)(F:Nat->Value)(w:World):ResultVar->Value->Prop
 |.tmp t,v=>evn ⟨kk,[],none⟩ F (.tmp t)=v
 |.cell a t,v=>∃(b e:Nat) (cs:List Value),evn ⟨kk,[],none⟩ F (.tmp a)=.pointer (some ⟨b,0,none⟩)/\w.heap[b]? =some (.cells cs.toArray e (0,0))/\
   (((isAgg t).run P w=.ok true w/\(sizeOf t).run P w=.ok cs.length w/\v=.agg cs.toArray)\/((isAgg t).run P w=.ok false w/\cs=[v]))
def resOf(tmps:Array Value):ResultVar->Sem Value
 |.tmp t=>pure (tmps.getD t undef)
 |.cell a t=>do loadVar t (<-asAddr (tmps.getD a undef))
theorem rok_run{P:Program}{kk:Nat}{F:Nat->Value}{w:World}{r:ResultVar}{v:Value}(h:ROk P kk F w r v):(resOf (fr ⟨kk,[],none⟩ F).tmps r).run P w=.ok v w:=by
 unfold resOf;cases r with
 |tmp t=>
  have h':(bif zay t kk then F t else undef)=v:=h;simp only [fr_get,h',Sem.run_pure]
 |cell a t=>
  obtain⟨b,e,cs,ha,hb,hc⟩:=h;have h':(bif zay a kk then F a else undef)=.pointer (some ⟨b,0,none⟩):=ha;simp only [fr_get,h',asAddr,Sem.run_bind,Sem.run_pure,Result.andThen_ok];rcases hc with⟨h1,h2,rfl⟩|⟨h1,rfl⟩
  ·have hl:(loadCells ⟨b,0,none⟩ cs.length).run P w=.ok cs.toArray w:=
    run_loadCells_list w ⟨b,0,none⟩ cs fun j u hj=>by rw [abb,ajw hb,zaT];exact hj
   simp [loadVar,h1,h2,hl]
  ·have hcell:w.cell? ⟨b,0,none⟩=some v:=by rw [ajw hb];rfl
   simp [loadVar,h1,hcell]
theorem results_run{P:Program}{kk:Nat}{F:Nat->Value}{w:World}{fn:Func}(l:List ResultVar)(vs:List Value)(hr:fn.results=l.toArray)(hl:l.length=vs.length)
  (hv:∀(i:Nat) (x:ResultVar) (v:Value),l[i]? =some x->vs[i]? =some v->ROk P kk F w x v) (v:Value) (hone:(match vs with|[u]=>u|us=>.tuple us.toArray)=v):
  (results fn (fr ⟨kk,[],none⟩ F).tmps).run P w=.ok v w:=by
 have hm:=run_mapM (P:=P) (w:=w) (resOf (fr ⟨kk,[],none⟩ F).tmps) l vs hl (fun i x v h1 h2=>rok_run (hv i x v h1 h2));unfold results;rw [hr];change Sem.run P (do let vs<-l.toArray.mapM (resOf (fr ⟨kk,[],none⟩ F).tmps);pure (if h:vs.size=1 then vs[0]else .tuple vs)) w=_
 simp only [List.mapM_toArray,Sem.run_bind,Sem.run_map];rw [hm];simp only [Result.andThen_ok,Sem.run_pure];subst hone;congr 1
 cases vs with
 |nil=>simp
 |cons u us=>cases us with
  |nil=>simp
  |cons u' us=>simp
theorem r_res{P:Program}{ro:Option (Option Nat)}{kk:Nat}{F:Nat->Value}{w:World}{fn:Func}{R:Value->World->Prop}(l:List ResultVar)(vs:List Value)(v:Value)(hr:fn.results=l.toArray)(hl:l.length=vs.length)
  (hv:∀(i:Nat) (x:ResultVar) (v:Value),l[i]? =some x->vs[i]? =some v->ROk P kk F w x v) (hone:(match vs with|[u]=>u|us=>.tuple us.toArray)=v) (h:R v w):
  bodyPost P fn (fun e w'=>∃v,e=.returned v/\R v w') .ret (fr ⟨kk,[],ro⟩ F) w:=
 ⟨rfl,v,results_run l vs hr hl hv v hone,v,rfl,h⟩
theorem rok_nil{P:Program}{kk:Nat}{F:Nat->Value}{w:World}:∀(i:Nat) (x:ResultVar) (v:Value),([]:List ResultVar)[i]? =some x->([]:List Value)[i]? =some v->ROk P kk F w x v:=fun i x v h=>by simp at h
theorem aix{P:Program}{kk:Nat}{F:Nat->Value}{w:World}{r:ResultVar}{u:Value}{l:List ResultVar}{vs:List Value}(h0:ROk P kk F w r u)
  (h:∀(i:Nat) (x:ResultVar) (v:Value),l[i]? =some x->vs[i]? =some v->ROk P kk F w x v):∀(i:Nat) (x:ResultVar) (v:Value),(r::l)[i]? =some x->(u::vs)[i]? =some v->ROk P kk F w x v
 |0,x,v,hx,hv=>by simp at hx hv;subst hx;subst hv;exact h0
 |i+1,x,v,hx,hv=>h i x v (by simpa using hx) (by simpa using hv)
theorem rok_tmp{P:Program}{kk:Nat}{F:Nat->Value}{w:World}{t:Nat}{v:Value}(h:evn ⟨kk,[],none⟩ F (.tmp t)=v):ROk P kk F w (.tmp t) v:=h
theorem rok_agg{P:Program}{kk:Nat}{F:Nat->Value}{w w0:World}{S:List Nat}{L:List Res}{a t:Nat}(hH:Hp w0 S L w)(k b e:Nat)(cs:List Value)(hk:L[k]? =some (blk b cs e))(ha:evn ⟨kk,[],none⟩ F (.tmp a)=.pointer (some ⟨b,0,none⟩))
  (h1:(isAgg t).run P w=.ok true w) (h2:(sizeOf t).run P w=.ok cs.length w):ROk P kk F w (.cell a t) (.agg cs.toArray):=⟨b,e,cs,ha,hH.blkAt k hk,.inl ⟨h1,h2,rfl⟩⟩
theorem aah{a:Option Addr}{m k cap:Nat}(h:m=k):Value.slice a m cap=Value.slice a k cap:=by rw [h]
def el{α:Type}[Inhabited α](l:List α)(i:Int):α:=l.getD i.toNat default
theorem aji{α:Type}(f:α->List Value)(sz:Nat)(hf:∀x,(f x).length=sz):∀(l:List α) (i:Nat),(l.flatMap f).drop (i*sz)=(l.drop i).flatMap f
 |l,0=>by simp
 |[],i+1=>by simp
 |x::l,i+1=>by
  rw [zar,zbg,<-aji f sz hf l i,zaV,Nat.add_comm,<-List.drop_drop];congr 1
  rw [<-hf x];simp
theorem flat_at{α:Type}[Inhabited α](f:α->List Value)(sz:Nat)(hf:∀x,(f x).length=sz)(l:List α)(i:Int)(h0:0<=i/\i<(l.length:Int)):((l.flatMap f).drop (i.toNat*sz)).take sz=f (el l i):=by
 have hi:i.toNat<l.length:=by omega
 rw [aji f sz hf,List.drop_eq_getElem_cons hi,zar];rw [show f (el l i)=f l[i.toNat]by simp [el,hi]];rw [<-hf l[i.toNat]];simp
theorem flat_get{α:Type}[Inhabited α](f:α->List Value)(sz k:Nat)(hf:∀x,(f x).length=sz)(l:List α)(i:Int)(v:Value)(h0:0<=i/\i<(l.length:Int))(hk:k<sz)(hv:(f (el l i))[k]? =some v):(l.flatMap f)[i.toNat*sz+k]? =some v:=by
 rw [<-flat_at f sz hf l i h0,List.getElem?_take,if_pos hk,List.getElem?_drop]at hv;exact hv
theorem flat_len{α:Type}(f:α->List Value)(sz:Nat)(hf:∀x,(f x).length=sz)(l:List α):(l.flatMap f).length=l.length*sz:=by
 induction l with
 |nil=>simp
 |cons x l ih=>rw [zar,zae,ih,hf,zaf,zaV,Nat.add_comm]
open Nat renaming le_refl -> zab, le_trans -> zau, lt_of_lt_of_le -> zal
def ahs(L:List Res):List Nat:=L.filterMap (·.own)
theorem mem_owns{L:List Res}{b:Nat}(h:b∈ahs L):∃r∈L,r.own=some b:=by
 unfold ahs at h;obtain⟨r,hr,e⟩:=List.mem_filterMap.1 h;exact⟨r,hr,e⟩
theorem Hp.callK{w0 w w':World}{S:List Nat}{L1 L2 L1':List Res}(h:Hp w0 S (L1++L2) w)(h':Hp w (ahs L1) L1' w'):Hp w0 S (L1'++L2) w':=by
 have hown:∀b,b∈ahs L1->b<w.heap.size/\(w0.heap.size<=b\/b∈S):=by
  intro b hb;obtain⟨r,hr,e⟩:=mem_owns hb;exact(h.res r (List.mem_append.2 (.inl hr))).2 b e
 have hsep:=List.pairwise_append.1 h.sep;have hfar:∀r∈L2,∀b,r.own=some b->b∉ahs L1:=by
  intro r hr b e hb;obtain⟨q,hq,e'⟩:=mem_owns hb;exact hsep.2.2 q hq r hr b e' e
 refine⟨h'.os.trans h.os,h'.tape.trans h.tape,h'.output.trans h.output,zau h.size h'.size,fun k hk hS=> ?_,fun r hr=> ?_, ?_⟩
 ·rw [h'.below k (zal hk h.size) (fun hm=> ?_)];exact h.below k hk hS
  rcases(hown k hm).2 with h1|h1
  ·omega
  ·exact hS h1
 ·rcases List.mem_append.1 hr with hr|hr
  ·refine⟨(h'.res r hr).1,fun b e=> ?_⟩
   have:=(h'.res r hr).2 b e
   refine⟨this.1, ?_⟩
   rcases this.2 with h1|h1
   ·exact .inl (zau h.size h1)
   ·exact(hown b h1).2
  ·have hL:=List.mem_append.2 (.inr hr:r∈L1\/r∈L2);refine⟨Res.holds_of (h.res r hL).1 fun b e=>h'.below b ((h.res r hL).2 b e).1 (hfar r hr b e),fun b e=> ?_⟩
   have:=(h.res r hL).2 b e
   exact⟨zal this.1 h'.size,this.2⟩
 ·refine List.pairwise_append.2 ⟨h'.sep,hsep.2.1,fun r hr r' hr' b e e'=> ?_⟩;have h1:=(h'.res r hr).2 b e;have h2:=(h.res r' (List.mem_append.2 (.inr hr'))).2 b e';rcases h1.2 with h3|h3
  ·omega
  ·exact hfar r' hr' b e' h3
theorem Hp.front{w0 w:World}{S:List Nat}{L:List Res}(h:Hp w0 S L w)(k:Nat)(r:Res)(hk:L[k]? =some r):Hp w0 S (r::L.eraseIdx k) w:=by
 refine h.perm ?_;clear h;induction L generalizing k with
 |nil=>simp at hk
 |cons x L ih=>
  cases k with
  |zero=>simp at hk;subst hk;simp
  |succ k=>
   simp at hk
   simp only [List.eraseIdx_cons_succ];exact(List.Perm.cons x (ih k hk)).trans (List.Perm.swap r x _)
theorem Hp.keep{w0 w:World}{S:List Nat}{L1 L2:List Res}(h:Hp w0 S (L1++L2) w):Hp w0 S L1 w:=h.sub (List.sublist_append_left _ _)
theorem Hp.start1{w:World}{b e:Nat}{cs:List Value}(h:w.heap[b]? =some (.cells cs.toArray e (0,0))):Hp w [b] [blk b cs e] w:=
 ⟨rfl,rfl,rfl,zab _,fun _ _ _=>rfl,fun r hr=>by
  simp at hr;subst hr
  refine⟨by simpa [Res.holds,blk] using h,fun k hk=> ?_⟩
  simp [blk]at hk;subst hk
  exact⟨(Array.getElem?_eq_some_iff.1 h).1,.inr (by simp)⟩,by simp⟩
theorem Hp.hand{w0 w:World}{S:List Nat}{L1 L2:List Res}(h:Hp w0 S (L1++L2) w):Hp w (ahs L1) L1 w:=
 ⟨rfl,rfl,rfl,zab _,fun _ _ _=>rfl,fun r hr=>by
  have:=h.res r (List.mem_append.2 (.inl hr))
  exact⟨this.1,fun b e=>⟨(this.2 b e).1,.inr (List.mem_filterMap.2 ⟨r,hr,e⟩)⟩⟩,(List.pairwise_append.1 h.sep).1⟩
theorem cr_below{P:Program}{f:FuncId}{args:List Value}{w:World}{v:Value}(h:Calls P f args.toArray w fun e w'=>e=.returned v/\RowKit.Below w.heap.size w w'):CR P f args w fun u w'=>u=v/\Hp w [] [] w':=
 Calls.mono h fun _ _ ⟨e,hb⟩=>⟨v,e,rfl,Hp.ofBelow hb⟩
theorem ajc{P:Program}{f:FuncId}{args:List Value}{w:World}{v:Value}(h:Calls P f args.toArray w fun e w'=>e=.returned v/\w'=w):CR P f args w fun u w'=>u=v/\Hp w [] [] w':=
 Calls.mono h fun _ _ ⟨e,hb⟩=>⟨v,e,rfl,hb▸Hp.refl w⟩
theorem hp_drew{w:World}(k:Nat):Hp w [] [] (w.drewN k):=Hp.ofBelow ⟨rfl,rfl,rfl,zab _,fun _ _=>rfl⟩
theorem cr_drew{P:Program}{f:FuncId}{args:List Value}{w:World}{v:Value}(h:Calls P f args.toArray w fun e w'=>e=.returned v/\∃k,w'=w.drewN k):CR P f args w fun u w'=>u=v/\Hp w [] [] w':=
 Calls.mono h fun _ _ ⟨e,k,hb⟩=>⟨v,e,rfl,hb▸hp_drew k⟩
def sit(b:Nat)(l:List UInt8)(pos:Nat):Res:=⟨some b,fun o=>o=some (.stringIter ⟨l.toArray⟩ pos)⟩
theorem Hp.setIt{w0 w:World}{S:List Nat}{L:List Res}(h:Hp w0 S L w)(k b:Nat)(l:List UInt8)(pos pos':Nat)(hk:L[k]? =some (sit b l pos)):
  Hp w0 S (L.set k (sit b l pos')) {w with heap:=w.heap.setIfInBounds b (.stringIter ⟨l.toArray⟩ pos')}:=by
 have hb:=((h.res _ (List.mem_of_getElem? hk)).2 b rfl).1;refine h.change k _ _ hk rfl rfl rfl (by simp) (fun j hj hne=> ?_) ?_ (fun c hc=> ?_)
 ·show(w.heap.setIfInBounds b _)[j]? =_
  rw [Array.getElem?_setIfInBounds_ne (fun e=>hne (by rw [e];rfl))]
 ·show(w.heap.setIfInBounds b _)[b]? =_
  simp [hb]
 ·cases hc
  exact⟨.inl rfl,by simpa using hb⟩
section
variable {P : Program} {n : Md} {ops : Array Oper} {Q : Exit -> Act -> World -> Prop} {F : Nat -> Value} {w : World}
variable {d : Nat} {ty : TypeId} {pos : String} {after : Array Edge} {rest : List Oper}
theorem x_shl{x y:Operand}{t t':TypeId}(k k':IntKind)(a b p:Int)(hx:evn n F x=.int k a)(hy:evn n F y=.int k' b)(h0:0<=b)(hp:2^(min b.toNat k.bits)=p):(execOp (evn n F) (⟨some d,.binOp .shl t x y t',ty,pos,after,none⟩:Oper)).run P w=.ok (.value (.int k (k.wrap (a*p)))) w:=by
 have hb:¬b<0:=by omega
 rw [<-hp];simp [execOp,hx,hy,binOp,eqGuard,Op.shift,hb]
theorem x_shr{x y:Operand}{t t':TypeId}(k k':IntKind)(a b p:Int)(hx:evn n F x=.int k a)(hy:evn n F y=.int k' b)(h0:0<=b)(hp:2^(min b.toNat k.bits)=p)(hp0:0<p):(execOp (evn n F) (⟨some d,.binOp .shr t x y t',ty,pos,after,none⟩:Oper)).run P w=.ok (.value (.int k (a/p))) w:=by
 have hb:¬b<0:=by omega
 have e:a.fdiv p=a/p:=Int.fdiv_eq_ediv_of_nonneg _ (by omega);rw [<-e,<-hp];simp [execOp,hx,hy,binOp,eqGuard,Op.shift,hb]
theorem x_snil{x y:Operand}{t t':TypeId}(a:Option Addr)(m c e:Nat)(ht:P.underlying t=some (.slice e))(hx:evn n F x=.slice a m c)(hy:evn n F y=.slice none 0 0):(execOp (evn n F) (⟨some d,.binOp .eql t x y t',ty,pos,after,none⟩:Oper)).run P w=.ok (.value (.bool a.isNone)) w:=by
 have e:(binOp .eql t (.slice a m c) (.slice none 0 0)).run P w=.ok (.bool a.isNone) w:=by simp only [binOp];simp [run_equal_slice_nil w t e a m c ht]
 simp [execOp,hx,hy,eqGuard,e]
theorem w_snil{x y:Operand}{t t':TypeId}(a:Option Addr)(m c e:Nat)(ht:P.underlying t=some (.slice e))(hx:evn n F x=.slice a m c)(hy:evn n F y=.slice none 0 0)(h:W P n ops Q rest (upd F d (.bool a.isNone)) w):W P n ops Q (⟨some d,.binOp .eql t x y t',ty,pos,after,none⟩::rest) F w:=
 abn rfl rfl (x_snil a m c e ht hx hy) h
theorem x_ixaA{x ix:Operand}{t:TypeId}(p:Addr)(k e sz:Nat)(q:IntKind)(i:Int)(ht:P.underlying t=some (.array k e))(hs:(sizeOf e).run P w=.ok sz w)(hx:evn n F x=.pointer (some p))(hi:evn n F ix=.int q i)
  (hb:0<=i/\i<(k:Int)) (hk:2<=k):(execOp (evn n F) (⟨some d,.indexAddr t x ix,ty,pos,after,none⟩:Oper)).run P w=.ok (.value (.pointer (some (ea (some p) (i.toNat*sz))))) w:=by
 simp [execOp,hx,hi,Instr.indexAt,Instr.sureAddr,asIntOf,run_underlying ht,hs,hb.1,hb.2,ea]
theorem w_ixaA{x ix:Operand}{t:TypeId}(p:Addr)(k e sz:Nat)(q:IntKind)(i:Int)(ht:P.underlying t=some (.array k e))(hs:(sizeOf e).run P w=.ok sz w)(hx:evn n F x=.pointer (some p))(hi:evn n F ix=.int q i)
  (hb:0<=i/\i<(k:Int)) (hk:2<=k) (h:W P n ops Q rest (upd F d (.pointer (some (ea (some p) (i.toNat*sz))))) w):W P n ops Q (⟨some d,.indexAddr t x ix,ty,pos,after,none⟩::rest) F w:=
 abn rfl rfl (x_ixaA p k e sz q i ht hs hx hi hb hk) h
end
open Bool renaming eq_iff_iff -> zbb
open Go.Value renaming ownBlock -> zaB
open List renaming append_assoc -> zaC, eq_nil_of_length_eq_zero -> zaA, flatMap_append -> zaF, flatMap_cons -> zar, length_append -> zae, mem_of_mem_take -> zaL, nil_append -> zaM, set_eq_take_append_cons_drop -> zbk, take_left -> zaW
open Nat renaming ble -> zam, le_mul_of_pos_right -> zbl, le_of_ble_eq_true -> zaP, le_refl -> zab, min_eq_left -> zaK, mul_le_mul_right -> zak, succ_mul -> zaV, zero_add -> zaT
open Option renaming map_some -> zaJ
abbrev Str:=List UInt8
abbrev PQ:=Str×Str×Bool
abbrev LQ:=List PQ
abbrev UQ:=Str×Str×Str×Int×LQ×LQ
abbrev AQ:=Str×UQ×LQ
def gd{α:Type}(p:Prop)[Decidable p](k:Option α):Option α:=if p then k else none
theorem gd_inv{α:Type}{p:Prop}[Decidable p]{k:Option α}{r:α}(h:gd p k=some r):p/\k=some r:=by
 unfold gd at h;split at h
 ·exact⟨by assumption,h⟩
 ·cases h
theorem aaf{α:Type}{p:Prop}[Decidable p]{k:Option α}(h:p):gd p k=k:=if_pos h
theorem bind_inv{α β:Type}{o:Option α}{f:α->Option β}{r:β}(h:o.bind f=some r):∃y,o=some y/\f y=some r:=by
 cases o with
 |none=>cases h
 |some y=>exact⟨y,rfl,h⟩
theorem ift{α:Type}{p:Prop}[Decidable p]{a b r:α}(h:p)(e:(if p then a else b)=r):a=r:=by rw [<-e,if_pos h]
theorem ifn{α:Type}{p:Prop}[Decidable p]{a b r:α}(h:¬p)(e:(if p then a else b)=r):b=r:=by rw [<-e,if_neg h]
theorem cft{α:Type}{c:Bool}{a b r:α}(h:c=true)(e:cond c a b=r):a=r:=by rw [<-e,h];rfl
theorem cff{α:Type}{c:Bool}{a b r:α}(h:c=false)(e:cond c a b=r):b=r:=by rw [<-e,h];rfl
def dMk(b:Nat):(c:Int)->Decidable (0<=c/\(b:Int)*c<=281474976710656)
 |.ofNat n=>match h:zam (b*n) 281474976710656 with
  |true=>.isTrue ⟨Int.natCast_nonneg n,by
   have h1:=zaP h;have h2:((b*n:Nat):Int)<=((281474976710656:Nat):Int):=Int.ofNat_le.2 h1;rw [Int.natCast_mul]at h2;exact h2⟩
  |false=>.isFalse fun⟨_,h2⟩=>by
   have h3:((b*n:Nat):Int)<=((281474976710656:Nat):Int):=by rw [Int.natCast_mul];exact h2
   rw [Nat.ble_eq_true_of_le (Int.ofNat_le.1 h3)]at h;cases h
 |.negSucc n=>.isFalse fun⟨h1,_⟩=>absurd h1 (by omega)
instance instOk64:(a:Int)->Decidable (afr a)
 |.ofNat n=>if h:zam n 9223372036854775807=true then .isTrue (show afr (n:Int)from⟨by omega,by have:=zaP h;omega⟩)else .isFalse fun q=>h (Nat.ble_eq▸(by have:(n:Int)<=9223372036854775807:=q.hi;omega))
 |.negSucc n=>if h:zam n 9223372036854775807=true then .isTrue ⟨by have:=zaP h;rw [Int.negSucc_eq];omega,by rw [Int.negSucc_eq];omega⟩else .isFalse fun q=>h (Nat.ble_eq▸(by have:=q.lo;rw [Int.negSucc_eq]at this;omega))
structure Enc {α:Type} (f:α->List Value) (sz:Nat):Prop where
 len:∀x,(f x).length=sz
 one:∀x,∀v∈f x,v.oneCell'=true
def eS(s:Str):List Value:=[str s]
def eB(c:UInt8):List Value:=[bt c]
def eI(k:IntKind)(i:Int):List Value:=[.int k i]
theorem ajv:Enc eS 1:=⟨fun _=>rfl,fun x v h=>by simp [eS]at h;subst h;rfl⟩
theorem agp:Enc eB 1:=⟨fun _=>rfl,fun x v h=>by simp [eB]at h;subst h;rfl⟩
theorem flat_eB(l:List UInt8):l.flatMap eB=l.map bt:=by induction l with
 |nil=>rfl
 |cons c l ih=>rw [zar,ih];rfl
theorem Enc.flat{α:Type}{f:α->List Value}{sz:Nat}(h:Enc f sz)(l:List α):(l.flatMap f).length=l.length*sz:=flat_len f sz h.len l
theorem Enc.cells{α:Type}{f:α->List Value}{sz:Nat}(h:Enc f sz)(l:List α):∀v∈l.flatMap f,v.oneCell'=true:=by
 intro v hv;obtain⟨x,_,hx⟩:=List.mem_flatMap.1 hv;exact h.one x v hx
def rwt{α:Type}(f:α->List Value)(e sz:Nat)(o:Option Nat)(a:Option Addr)(cap:Nat)(l:List α):Res:=
 ⟨o,fun ob=>(o=none/\l=[]/\cap=0/\a=none)\/
  ∃g cur,o=some g/\a=some ⟨g,0,none⟩/\ob=some (.cells cur e (0,0))/\l.length<=cap/\cap<=maxLen/\cur.size=cap*sz/\cur.toList.take (l.length*sz)=l.flatMap f⟩
theorem Hp.nilrw{w0 w:World}{S:List Nat}{L:List Res}(h:Hp w0 S L w){α:Type}(f:α->List Value)(e sz:Nat)(a:Option Addr):Hp w0 S (rwt f e sz none none 0 []::L) w:=by
 refine⟨h.os,h.tape,h.output,h.size,h.below,fun r hr=> ?_, ?_⟩
 ·rcases List.mem_cons.1 hr with rfl|hr
  ·exact⟨.inl ⟨rfl,rfl,rfl,rfl⟩,fun b hb=>by simp [rwt]at hb⟩
  ·exact h.res r hr
 ·refine List.Pairwise.cons (fun r _ b hb=>by simp [rwt]at hb) h.sep
theorem Hp.rdrw{w0 w:World}{S:List Nat}{L:List Res}{α:Type}{f:α->List Value}{e sz cap:Nat}{o:Option Nat}{a:Option Addr}{l:List α}(h:Hp w0 S L w)(k:Nat)(hk:L[k]? =some (rwt f e sz o a cap l)):Rd w a (l.flatMap f):=by
 obtain⟨h1,_⟩:=h.res _ (List.mem_of_getElem? hk);rcases h1 with⟨_,rfl,_⟩|⟨g,cur,ho,rfl,hob,_,_,_,htk⟩
 ·exact Rd.nil _ _
 ·intro j v hv;refine⟨_,rfl, ?_⟩
  rw [abb];have hb:w.heap[g]? =some (.cells cur e (0,0)):=by
   have ho':o=some g:=ho;subst ho';simpa [rwt] using hob
  simp only [World.cell?,hb,zaT];rw [<-htk,List.getElem?_take]at hv;split at hv
  ·simpa using hv
  ·cases hv
theorem Hp.rwrow{w0 w:World}{S:List Nat}{L:List Res}{α:Type}{f:α->List Value}{e sz cap g:Nat}{a:Option Addr}{l:List α}(h:Hp w0 S L w)(hE:Enc f sz)(k:Nat)(hk:L[k]? =some (rwt f e sz (some g) a cap l)):
  a=some ⟨g,0,none⟩/\Hp w0 S (L.set k (row (.slice a l.length cap) e sz l.length (l.flatMap f))) w:=by
 obtain⟨h1,h2⟩:=h.res _ (List.mem_of_getElem? hk);rcases h1 with⟨hn,_⟩|⟨g',cur,ho,rfl,hob,hc1,hc2,hc3,htk⟩
 ·cases hn
 ·cases ho
  refine⟨rfl,h.change k _ _ hk rfl rfl rfl (zab _) (fun _ _ _=>rfl) ?_ ?_⟩
  ·exact⟨hE.flat l,.inr ⟨g,cap,cur,rfl,hob,hc1,hc2,hc3,htk⟩⟩
  ·intro b hb;simp [row,zaB]at hb
   subst hb;exact⟨.inl rfl,(h2 g rfl).1⟩
theorem Hp.rowrw{w0 w:World}{S:List Nat}{L:List Res}{α:Type}{f:α->List Value}{e sz cap:Nat}{a:Option Addr}{l:List α}(h:Hp w0 S L w)(k:Nat)(hk:L[k]? =some (row (.slice a l.length cap) e sz l.length (l.flatMap f))):
  ∃o,Hp w0 S (L.set k (rwt f e sz o a cap l)) w:=by
 obtain⟨h1,h2⟩:=h.res _ (List.mem_of_getElem? hk);obtain⟨hl,hr⟩:=h1;rcases hr with⟨hv,hn⟩|⟨g,cap',cur,hv,ho,hc1,hc2,hc3,htk⟩
 ·simp only [Value.slice.injEq]at hv;obtain⟨rfl,-,rfl⟩:=hv;refine⟨none,h.change k _ _ hk rfl rfl rfl (zab _) (fun _ _ _=>rfl) (.inl ⟨rfl,zaA hn,rfl,rfl⟩) (fun b hb=>by simp [rwt]at hb)⟩
 ·simp only [Value.slice.injEq]at hv;obtain⟨rfl,-,rfl⟩:=hv;refine⟨some g,h.change k _ _ hk rfl rfl rfl (zab _) (fun _ _ _=>rfl) (.inr ⟨g,cur,rfl,rfl,ho,hc1,hc2,hc3,htk⟩) (fun b hb=> ?_)⟩
  simp [rwt]at hb
  subst hb;exact⟨.inl (by simp [row,zaB]),(h2 g (by simp [row,zaB])).1⟩
theorem Hp.blkrw{w0 w:World}{S:List Nat}{L:List Res}{b e:Nat}{cs:List Value}{α:Type}{f:α->List Value}(h:Hp w0 S L w)(k sz m:Nat)(l:List α)(hk:L[k]? =some (blk b cs e))(hE:Enc f sz)(hcs:l.flatMap f=cs)(hl:l.length=m)(hm:m<=maxLen):
  Hp w0 S (L.set k (rwt f e sz (some b) (some ⟨b,0,none⟩) m l)) w:=by
 have hb:=h.blkAt k hk;subst hcs;subst hl;refine h.change k _ _ hk rfl rfl rfl (zab _) (fun _ _ _=>rfl) ?_ ?_
 ·exact .inr ⟨b,_,rfl,rfl,hb,zab _,hm,by simpa using hE.flat l,by rw [<-hE.flat l];exact List.take_length⟩
 ·intro b' hb';simp [rwt]at hb'
  subst hb';exact⟨.inl rfl,(Array.getElem?_eq_some_iff.1 hb).1⟩
theorem Hp.cuts{w0 w:World}{S:List Nat}{L:List Res}{α:Type}{f:α->List Value}{e sz cap:Nat}{o:Option Nat}{a:Option Addr}{l:List α}(h:Hp w0 S L w)(hE:Enc f sz)(k:Nat)(hk:L[k]? =some (rwt f e sz o a cap l))(m:Nat):
  Hp w0 S (L.set k (rwt f e sz o a cap (l.take m))) w:=by
 obtain⟨h1,h2⟩:=h.res _ (List.mem_of_getElem? hk);refine h.change k _ _ hk rfl rfl rfl (zab _) (fun _ _ _=>rfl) ?_ (fun b hb=>⟨.inl hb,(h2 b hb).1⟩);rcases h1 with⟨rfl,rfl,rfl,rfl⟩|⟨g,cur,rfl,rfl,hob,hc1,hc2,hc3,htk⟩
 ·exact .inl ⟨rfl,by simp,rfl,rfl⟩
 ·refine .inr ⟨g,cur,rfl,rfl,hob,by simp;omega,hc2,hc3, ?_⟩;have e1:(l.take m).flatMap f=(l.flatMap f).take ((l.take m).length*sz):=by
   have:l.flatMap f=(l.take m).flatMap f++(l.drop m).flatMap f:=by rw [<-zaF,List.take_append_drop]
   rw [this,<-hE.flat (l.take m),zaW]
  rw [e1,<-htk,List.take_take,zaK (zak _ (by simp;omega))]
section
variable {P : Program} {n : Md} {ops : Array Oper} {Q : Exit -> Act -> World -> Prop} {F : Nat -> Value} {w w0 : World} {S : List Nat} {L : List Res}
variable {d : Nat} {ty : TypeId} {pos : String} {after : Array Edge} {rest : List Oper} {α : Type} {f : α -> List Value}
theorem ack{β:Type}(l:List β)(k:Nat)(x y:β):(l.set k x).set k y=l.set k y:=by simp
theorem agj{x y:Operand}{t:TypeId}(hH:Hp w0 S L w)(k:Nat)(o:Option Nat)(a ax:Option Addr)(cap cx e sz by_:Nat)(l l2:List α)(hE:Enc f sz)(hk:L[k]? =some (rwt f e sz o a cap l))(ht:P.underlying t=some (.slice e))(hT:TI P e sz by_)(hsz:0<sz)(hby:0<by_)
  (hx:evn n F x=.slice a l.length cap) (hy:evn n F y=.slice ax l2.length cx) (hR:Rd w ax (l2.flatMap f)) (hb:(l.length+l2.length)*by_<=140737488355328)
  (h:∀o' a' cap' w',Hp w0 S (L.set k (rwt f e sz o' a' cap' (l++l2))) w'->W P n ops Q rest (upd F d (.slice a' (l++l2).length cap')) w'):
  W P n ops Q (⟨some d,.call ⟨.builtin .append, #[x,y], #[t,t]⟩,ty,pos,after,none⟩::rest) F w:=by
 have h63:l.length+l2.length<=9223372036854775807:=by
  have:l.length+l2.length<=(l.length+l2.length)*by_:=zbl _ hby
  omega
 have fin:∀a' cap' w',Hp w0 S (L.set k (row (.slice a' (l.length+l2.length) cap') e sz (l.length+l2.length) (l.flatMap f++l2.flatMap f))) w'->W P n ops Q rest (upd F d (.slice a' (l.length+l2.length) cap')) w':=by
  intro a' cap' w' h1;rw [<-zae,<-zaF]at h1;rw [<-zae];have hlt:k<L.length:=(List.getElem?_eq_some_iff.1 hk).1;obtain⟨o',h2⟩:=h1.rowrw k (List.getElem?_set_self hlt);rw [ack]at h2;exact h o' a' cap' w' h2
 have hlt:k<L.length:=(List.getElem?_eq_some_iff.1 hk).1;cases o with
 |some g=>
  obtain⟨rfl,h1⟩:=hH.rwrow hE k hk;refine w_append h1 k (some ⟨g,0,none⟩) ax l.length cap l2.length cx e sz by_ (l.flatMap f) (l2.flatMap f) (List.getElem?_set_self hlt) ht hT hsz hx hy hR (hE.flat l2) (hE.cells l2) hb h63 ?_;intro a' cap' w' h2;rw [ack]at h2;exact fin a' cap' w' h2
 |none=>
  obtain⟨h1,_⟩:=hH.res _ (List.mem_of_getElem? hk);have h1':l=[]/\cap=0:=by
   rcases h1 with⟨_,h2,h3,_⟩|⟨g,cur,h2,_⟩
   ·exact⟨h2,h3⟩
   ·cases h2
  obtain⟨rfl,rfl⟩:=h1';have hnil:Hp w0 S (L.set k (row (.slice none 0 0) e sz 0 [])) w:=hH.change k _ _ hk rfl rfl rfl (zab _) (fun _ _ _=>rfl) ⟨by simp,.inl ⟨rfl,rfl⟩⟩ (fun b hb=>by simp [row,zaB]at hb);cases a with
  |none=>
   refine w_append hnil k none ax 0 0 l2.length cx e sz by_ [] (l2.flatMap f) (List.getElem?_set_self hlt) ht hT hsz hx hy hR (hE.flat l2) (hE.cells l2) (by simpa using hb) (by simpa using h63) ?_;intro a' cap' w' h2;rw [ack]at h2;exact fin a' cap' w' (by simpa using h2)
  |some p=>
   obtain⟨i,z,hi,hz,hs,hbb,hzs⟩:=hT.parts;subst hs;subst hbb;by_cases hm:l2=[]
   ·subst hm;have hfirst:(Builtin.firstCells i.size 0 (.slice ax 0 cx)).run P w=.ok #[] w:=by
     cases ax with
     |none=>simp [Builtin.firstCells]
     |some p=>simp [Builtin.firstCells,loadCells,loadCellsFrom]
    have hrun:(Builtin.append_ #[t,t] ty #[.slice (some p) 0 0,.slice ax 0 cx]).run P w=.ok (.slice (some p) 0 0) w:=by
     simp [Builtin.append_,run_underlying ht,sizeOf,typeInfo,hi,Builtin.lenOf,hfirst,storeCells]
    refine abn (w':=w) rfl rfl ?_ (h none (some p) 0 w ?_)
    ·have hy':evn n F y=.slice ax 0 cx:=hy;have hx':evn n F x=.slice (some p) 0 0:=hx;simp [execOp,resolve,invoke,builtin,hx',hy',hrun]
    ·have e:L.set k (rwt f e i.size none (some p) 0 ([]++[]))=L:=by
      apply List.ext_getElem?
      intro j;by_cases hjk:j=k
      ·subst hjk;simp [hlt,hk]
       have:=hk
       rw [List.getElem?_eq_getElem hlt]at this;exact(Option.some.inj this).symm
      ·rw [List.getElem?_set_ne (fun e=>hjk e.symm)]
     rw [e];exact hH
   ·have hpos:0<l2.length:=List.length_pos_iff.2 hm;cases ax with
    |none=>
     have:l2.flatMap f=[]:=by
      cases hq:l2.flatMap f with
      |nil=>rfl
      |cons u us=>obtain⟨p,hp,_⟩:=hR 0 u (by rw [hq];rfl);cases hp
     have:=hE.flat l2
     rename_i h0;rw [h0]at this
     have:=Nat.mul_pos hpos hsz
     simp at*
     omega
    |some q=>
     have hnews:∀j u,(l2.flatMap f)[j]? =some u->w.cell? (q.add j)=some u:=by
      intro j u hu;obtain⟨q',hq,hc⟩:=hR j u hu;simp at hq
      subst hq;exact hc
     have hgrow:=run_append_grow (P:=P) w t ty e i z ht hi hz p 0 0 [] (by simp) (fun j u hu=>by simp at hu) q l2.length cx (l2.flatMap f) (hE.flat l2) hnews (by omega) (by simp at h63⊢;omega) (growslice_fits (by omega) (by simpa using hb));have hgn:=run_append_nil (P:=P) w t ty e i z ht hi hz q l2.length cx (l2.flatMap f) (hE.flat l2) hnews (by omega) (by simp at h63⊢;omega) (by simp at hb;omega);have hsame:(Builtin.append_ #[t,t] ty #[.slice (some p) 0 0,.slice (some q) l2.length cx]).run P w=(Builtin.append_ #[t,t] ty #[.slice none 0 0,.slice (some q) l2.length cx]).run P w:=by
      rw [hgn,hgrow];simp
     obtain⟨a',cap',w',hr,ho,hg,hn⟩:=run_app (P:=P) (ty:=ty) (cx:=cx) t ht hT hsz (hnil.ownsRow (k:=k) (List.getElem?_set_self hlt)) hR (hE.flat l2) (hE.cells l2) (by unfold maxLen;simp at h63⊢;omega) (by simpa using hb);have h2:=hnil.grown (k:=k) (List.getElem?_set_self hlt) hg ho hn;rw [ack]at h2;have h3:=fin a' cap' w' (by simpa using h2);refine abn (w':=w') rfl rfl ?_ (by simpa using h3);have hx':evn n F x=.slice (some p) 0 0:=hx;rw [<-hsame]at hr;simp [execOp,resolve,invoke,builtin,hx',hy,hr]
theorem x_ixT{x ix:Operand}{t:TypeId}(a:Option Addr)(m c e sz:Nat)(q:IntKind)(i:Int)(ht:P.underlying t=some (.slice e))(hs:(sizeOf e).run P w=.ok sz w)(hx:evn n F x=.slice a m c)(hi:evn n F ix=.int q i)
  (l:List α) (hn:m=l.length) (hb:0<=i/\i<(l.length:Int)) (hR:Rd w a (l.flatMap f)) (hE:Enc f sz) (hsz:0<sz):
  (execOp (evn n F) (⟨some d,.indexAddr t x ix,ty,pos,after,none⟩:Oper)).run P w=.ok (.value (.pointer (some (ea a (i.toNat*sz))))) w:=by
 subst hn;refine x_ixa a l.length c e sz q i ht hs hx hi hb (hR.some_ ?_);rw [hE.flat];exact Nat.mul_pos (by omega) hsz
theorem agz{x ix:Operand}{t:TypeId}(a:Option Addr)(m c e sz:Nat)(q:IntKind)(i:Int)(ht:P.underlying t=some (.slice e))(hs:(sizeOf e).run P w=.ok sz w)(hx:evn n F x=.slice a m c)(hi:evn n F ix=.int q i)
  (l:List α) (hn:m=l.length) (hb:0<=i/\i<(l.length:Int)) (hR:Rd w a (l.flatMap f)) (hE:Enc f sz) (hsz:0<sz) (h:W P n ops Q rest (upd F d (.pointer (some (ea a (i.toNat*sz))))) w):
  W P n ops Q (⟨some d,.indexAddr t x ix,ty,pos,after,none⟩::rest) F w:=abn rfl rfl (x_ixT a m c e sz q i ht hs hx hi l hn hb hR hE hsz) h
theorem x_ldE[Inhabited α]{x:Operand}{t:TypeId}(a:Option Addr)(f:α->List Value)(l:List α)(sz:Nat)(i:Int)(hE:Enc f sz)(hR:Rd w a (l.flatMap f))(vs:List Value)(hb:0<=i/\i<(l.length:Int))(hv:f (el l i)=vs)
  (hx:evn n F x=.pointer (some (ea a (i.toNat*sz)))) (ha:(isAgg t).run P w=.ok true w) (hs:(sizeOf t).run P w=.ok sz w) (hsz:0<sz):
  (execOp (evn n F) (⟨some d,.load t x,ty,pos,after,none⟩:Oper)).run P w=.ok (.value (.agg vs.toArray)) w:=
 x_rdN a (l.flatMap f) vs (i.toNat*sz) sz hR (by rw [flat_at f sz hE.len l i hb,hv]) (by rw [<-hv];exact hE.len _) hsz hx ha hs
theorem w_ldE[Inhabited α]{x:Operand}{t:TypeId}(a:Option Addr)(f:α->List Value)(l:List α)(sz:Nat)(i:Int)(hE:Enc f sz)(hR:Rd w a (l.flatMap f))(vs:List Value)(hb:0<=i/\i<(l.length:Int))(hv:f (el l i)=vs)
  (hx:evn n F x=.pointer (some (ea a (i.toNat*sz)))) (ha:(isAgg t).run P w=.ok true w) (hs:(sizeOf t).run P w=.ok sz w) (hsz:0<sz) (h:W P n ops Q rest (upd F d (.agg vs.toArray)) w):
  W P n ops Q (⟨some d,.load t x,ty,pos,after,none⟩::rest) F w:=abn rfl rfl (x_ldE a f l sz i hE hR vs hb hv hx ha hs hsz) h
theorem x_ldF[Inhabited α]{x:Operand}{t:TypeId}(a:Option Addr)(f:α->List Value)(l:List α)(sz:Nat)(i:Int)(off:Nat)(hE:Enc f sz)(hR:Rd w a (l.flatMap f))(v:Value)(hb:0<=i/\i<(l.length:Int))(ho:off<sz)(hv:(f (el l i))[off]? =some v)
  (hx:evn n F x=.pointer (some (ea a (i.toNat*sz+off)))) (ha:(isAgg t).run P w=.ok false w):
  (execOp (evn n F) (⟨some d,.load t x,ty,pos,after,none⟩:Oper)).run P w=.ok (.value v) w:=
 x_rd1 a (l.flatMap f) (i.toNat*sz+off) v hR (flat_get f sz off hE.len l i v hb ho hv) hx ha
theorem w_ldF[Inhabited α]{x:Operand}{t:TypeId}(a:Option Addr)(f:α->List Value)(l:List α)(sz:Nat)(i:Int)(off:Nat)(hE:Enc f sz)(hR:Rd w a (l.flatMap f))(v:Value)(hb:0<=i/\i<(l.length:Int))(ho:off<sz)(hv:(f (el l i))[off]? =some v)
  (hx:evn n F x=.pointer (some (ea a (i.toNat*sz+off)))) (ha:(isAgg t).run P w=.ok false w) (h:W P n ops Q rest (upd F d v) w):
  W P n ops Q (⟨some d,.load t x,ty,pos,after,none⟩::rest) F w:=abn rfl rfl (x_ldF a f l sz i off hE hR v hb ho hv hx ha) h
theorem x_ldE1[Inhabited α]{x:Operand}{t:TypeId}(a:Option Addr)(f:α->List Value)(l:List α)(sz:Nat)(i:Int)(hE:Enc f sz)(hR:Rd w a (l.flatMap f))(v:Value)(hb:0<=i/\i<(l.length:Int))(ho:0<sz)(hv:(f (el l i))[0]? =some v)
  (hx:evn n F x=.pointer (some (ea a (i.toNat*sz)))) (ha:(isAgg t).run P w=.ok false w):
  (execOp (evn n F) (⟨some d,.load t x,ty,pos,after,none⟩:Oper)).run P w=.ok (.value v) w:=x_ldF a f l sz i 0 hE hR v hb ho hv hx ha
theorem aip[Inhabited α]{x:Operand}{t:TypeId}(a:Option Addr)(f:α->List Value)(l:List α)(sz:Nat)(i:Int)(hE:Enc f sz)(hR:Rd w a (l.flatMap f))(v:Value)(hb:0<=i/\i<(l.length:Int))(ho:0<sz)(hv:(f (el l i))[0]? =some v)
  (hx:evn n F x=.pointer (some (ea a (i.toNat*sz)))) (ha:(isAgg t).run P w=.ok false w) (h:W P n ops Q rest (upd F d v) w):
  W P n ops Q (⟨some d,.load t x,ty,pos,after,none⟩::rest) F w:=abn rfl rfl (x_ldE1 a f l sz i hE hR v hb ho hv hx ha) h
theorem flat_splice(sz:Nat)(hE:Enc f sz):∀(l:List α) (j:Nat) (y:α),j<l.length->abk (l.flatMap f) (j*sz) (f y)=(l.set j y).flatMap f
 |[],j,y,h=>by simp at h
 |x::l,0,y,h=>by
  unfold abk;simp only [Nat.zero_mul,List.take_zero,zaM,zaT,List.set_cons_zero,zar,hE.len];rw [<-hE.len x,List.drop_left]
 |x::l,j+1,y,h=>by
  have ih:=flat_splice sz hE l j y (by simpa using h);unfold abk at*;simp only [List.set_cons_succ,zar,<-ih];rw [zaV,Nat.add_comm (j*sz) sz,Nat.add_assoc sz,<-hE.len x,List.take_length_add_append,List.drop_length_add_append];simp [zaC]
theorem Hp.rwset{k e sz cap j:Nat}{o:Option Nat}{a:Option Addr}{l:List α}{y:α}(hH:Hp w0 S L w)(hE:Enc f sz)(hsz:0<sz)(hk:L[k]? =some (rwt f e sz o a cap l))(hj:j<l.length):
  ∃w',(storeCells (ea a (j*sz)) (f y)).run P w=.ok () w'/\Hp w0 S (L.set k (rwt f e sz o a cap (l.set j y))) w':=by
 cases o with
 |none=>
  exfalso;obtain⟨h1,_⟩:=hH.res _ (List.mem_of_getElem? hk);rcases h1 with⟨_,h2,_⟩|⟨g,cur,h2,_⟩
  ·subst h2;simp at hj
  ·cases h2
 |some g=>
  obtain⟨rfl,h1⟩:=hH.rwrow hE k hk;have hlt:k<L.length:=(List.getElem?_eq_some_iff.1 hk).1;have hjl:j*sz+sz<=l.length*sz:=by rw [<-zaV];exact zak _ hj
  obtain⟨w',hr,h2⟩:=h1.strow (P:=P) (k:=k) (vs:=f y) (j:=j*sz) (List.getElem?_set_self hlt) (by rw [hE.len,hE.flat];exact hjl) (hE.one y) (by intro h0;have:=hE.len y;rw [h0]at this;simp at this;omega);refine⟨w',hr, ?_⟩
  rw [ack,flat_splice sz hE l j y hj]at h2;have hl:l.length=(l.set j y).length:=by simp
  rw [hl]at h2;obtain⟨o',h5⟩:=h2.rowrw (k:=k) (l:=l.set j y) (List.getElem?_set_self hlt);rw [ack]at h5;have ho:o'=some g:=by
   obtain⟨h6,_⟩:=h5.res _ (List.mem_of_getElem? (List.getElem?_set_self hlt));rcases h6 with⟨h7,h8,_⟩|⟨g',cur,h7,h8,_⟩
   ·exfalso
    have:(l.set j y).length=0:=by
     have h9:l.set j y=[]:=h8;rw [h9];rfl
    simp at this
    subst this;simp at hj
   ·simp only [Option.some.injEq,Addr.mk.injEq,and_true]at h8;rw [h8];exact h7
  rw [ho]at h5;exact h5
theorem w_stE{x y:Operand}{t:TypeId}[Inhabited α](hH:Hp w0 S L w)(k:Nat)(o:Option Nat)(a:Option Addr)(cap e sz:Nat)(i:Int)(l:List α)(z:α)(hk:L[k]? =some (rwt f e sz o a cap l))(hE:Enc f sz)(vs:List Value)(hb:0<=i/\i<(l.length:Int))(hv:f z=vs)
  (hx:evn n F x=.pointer (some (ea a (i.toNat*sz)))) (hy:evn n F y=.agg vs.toArray) (hsz:0<sz) (hs:(sizeOf t).run P w=.ok sz w)
  (h:∀w',Hp w0 S (L.set k (rwt f e sz o a cap (l.set i.toNat z))) w'->W P n ops Q rest F w'):W P n ops Q (⟨none,.store t x y,ty,pos,after,none⟩::rest) F w:=by
 subst hv;obtain⟨w',hr,hH'⟩:=hH.rwset (P:=P) (y:=z) hE hsz hk (show i.toNat<l.length by omega);refine w_skip (w':=w') rfl rfl ?_ (h w' hH');have hl:=hE.len z;simp [execOp,hx,hy,Instr.storeAt,Instr.sureAddr,storeVar,hs,Value.cells,hr,hl]
theorem flat_set1(sz off:Nat)(hE:Enc f sz)[Inhabited α](l:List α)(j:Nat)(y:α)(v:Value)(hj:j<l.length)(ho:off<sz)(hy:f y=(f (l.getD j default)).set off v):abk (l.flatMap f) (j*sz+off) [v]=(l.set j y).flatMap f:=by
 have e1:abk (l.flatMap f) (j*sz+off) [v]=(l.flatMap f).set (j*sz+off) v:=by
  unfold abk;rw [zbk,if_pos (by rw [hE.flat];calc j*sz+off<j*sz+sz:=by omega
   _=(j+1)*sz:=by rw [zaV]
   _<=l.length*sz:=zak _ hj)]
  simp
 rw [e1];clear e1;induction l generalizing j with
 |nil=>simp at hj
 |cons x l ih=>
  cases j with
  |zero=>
   simp only [Nat.zero_mul,zaT,zar,List.set_cons_zero];simp at hy
   rw [hy,List.set_append_left _ _ (by rw [hE.len];exact ho)]
  |succ j=>
   simp only [zar,List.set_cons_succ];rw [zaV,List.set_append_right _ _ (by rw [hE.len];omega),hE.len];rw [show j*sz+sz+off-sz=j*sz+off by omega];rw [ih j (by simpa using hj) (by simpa using hy)]
theorem w_stF{x y:Operand}{t:TypeId}[Inhabited α](hH:Hp w0 S L w)(k:Nat)(o:Option Nat)(a:Option Addr)(cap e sz:Nat)(i:Int)(off:Nat)(l:List α)(z:α)(hk:L[k]? =some (rwt f e sz o a cap l))(hE:Enc f sz)(v:Value)(hb:0<=i/\i<(l.length:Int))
  (hv:f z=(f (el l i)).set off v) (hx:evn n F x=.pointer (some (ea a (i.toNat*sz+off)))) (hy:evn n F y=v) (hs:(sizeOf t).run P w=.ok 1 w) (ho:off<sz)
  (h:∀w',Hp w0 S (L.set k (rwt f e sz o a cap (l.set i.toNat z))) w'->W P n ops Q rest F w'):W P n ops Q (⟨none,.store t x y,ty,pos,after,none⟩::rest) F w:=by
 have hj:i.toNat<l.length:=by omega
 have h1:v.oneCell'=true:=hE.one z v (by rw [hv];exact List.mem_of_getElem? (List.getElem?_set_self (by rw [hE.len];exact ho)));have hcells:v.cells= #[v]:=by cases v<;>first|rfl|simp [Value.oneCell']at h1
 cases o with
 |none=>
  exfalso;obtain⟨h1,_⟩:=hH.res _ (List.mem_of_getElem? hk);rcases h1 with⟨_,h2,_⟩|⟨g,cur,h2,_⟩
  ·subst h2;simp at hj
  ·cases h2
 |some g=>
  obtain⟨rfl,h2⟩:=hH.rwrow hE k hk;have hlt:k<L.length:=(List.getElem?_eq_some_iff.1 hk).1;have hjl:i.toNat*sz+off+1<=l.length*sz:=by
   calc i.toNat*sz+off+1<=i.toNat*sz+sz:=by omega
    _=(i.toNat+1)*sz:=by rw [zaV]
    _<=l.length*sz:=zak _ hj
  obtain⟨w',hr,h3⟩:=h2.strow (P:=P) (k:=k) (vs:=[v]) (j:=i.toNat*sz+off) (List.getElem?_set_self hlt) (by rw [hE.flat];exact hjl) (by simpa using h1) (by simp);rw [ack,flat_set1 sz off hE l i.toNat z v hj ho hv,show l.length=(l.set i.toNat z).length by simp]at h3;obtain⟨o',h5⟩:=h3.rowrw (k:=k) (l:=l.set i.toNat z) (List.getElem?_set_self hlt);rw [ack]at h5;have ho':o'=some g:=by
   obtain⟨h6,_⟩:=h5.res _ (List.mem_of_getElem? (List.getElem?_set_self hlt));rcases h6 with⟨h7,h8,_⟩|⟨g',cur,h7,h8,_⟩
   ·exfalso;have h9:l.set i.toNat z=[]:=h8
    have:(l.set i.toNat z).length=0:=by rw [h9];rfl
    rw [List.length_set]at this;omega
   ·simp only [Option.some.injEq,Addr.mk.injEq,and_true]at h8;rw [h8];exact h7
  rw [ho']at h5;refine w_skip (w':=w') rfl rfl ?_ (h w' h5);simp [execOp,hx,hy,Instr.storeAt,Instr.sureAddr,storeVar,hs,hcells,hr]
theorem w_stB{x y:Operand}{t:TypeId}(hH:Hp w0 S L w)(k:Nat)(a:Option Addr)(m cap:Nat)(i:Int)(l:List UInt8)(c:UInt8)(hk:L[k]? =some (brow (.slice a m cap) m l))(hb:0<=i/\i<(l.length:Int))
  (hx:evn n F x=.pointer (some (ea a (i.toNat*1)))) (hy:evn n F y=bt c) (hs:(sizeOf t).run P w=.ok 1 w)
  (h:∀w',Hp w0 S (L.set k (brow (.slice a m cap) m (l.set i.toNat c))) w'->W P n ops Q rest F w'):W P n ops Q (⟨none,.store t x y,ty,pos,after,none⟩::rest) F w:=
 w_stbrow hH k a m cap (i.toNat*1) l c hk (by have:=hH.browlen k hk;omega) hx hy hs (by simpa using h)
theorem bt_inj{a b:UInt8}:((a.toNat:Int)=(b.toNat:Int))↔a=b:=by
 constructor
 ·intro h;exact UInt8.toNat_inj.1 (by omega)
 ·intro h;rw [h]
theorem x8_eql{x y:Operand}{t t':TypeId}(a b:UInt8)(hx:evn n F x=bt a)(hy:evn n F y=bt b):(execOp (evn n F) (⟨some d,.binOp .eql t x y t',ty,pos,after,none⟩:Oper)).run P w=.ok (.value (.bool (decide (a=b)))) w:=by
 rw [x_eql .u8 _ _ hx hy];congr 3;exact decide_eq_decide.2 bt_inj
theorem x8_neq{x y:Operand}{t t':TypeId}(a b:UInt8)(hx:evn n F x=bt a)(hy:evn n F y=bt b):(execOp (evn n F) (⟨some d,.binOp .neq t x y t',ty,pos,after,none⟩:Oper)).run P w=.ok (.value (.bool (!decide (a=b)))) w:=by
 rw [x_neq .u8 _ _ hx hy];congr 4;exact decide_eq_decide.2 bt_inj
theorem x8_lss{x y:Operand}{t t':TypeId}(a b:UInt8)(hx:evn n F x=bt a)(hy:evn n F y=bt b):(execOp (evn n F) (⟨some d,.binOp .lss t x y t',ty,pos,after,none⟩:Oper)).run P w=.ok (.value (.bool (decide (a<b)))) w:=by
 rw [x_lss .u8 _ _ hx hy];congr 3;exact decide_eq_decide.2 (by rw [UInt8.lt_iff_toNat_lt];omega)
theorem x8_leq{x y:Operand}{t t':TypeId}(a b:UInt8)(hx:evn n F x=bt a)(hy:evn n F y=bt b):(execOp (evn n F) (⟨some d,.binOp .leq t x y t',ty,pos,after,none⟩:Oper)).run P w=.ok (.value (.bool (decide (a<=b)))) w:=by
 rw [x_leq .u8 _ _ hx hy];congr 3;exact decide_eq_decide.2 (by rw [UInt8.le_iff_toNat_le];omega)
theorem x8_geq{x y:Operand}{t t':TypeId}(a b:UInt8)(hx:evn n F x=bt a)(hy:evn n F y=bt b):(execOp (evn n F) (⟨some d,.binOp .geq t x y t',ty,pos,after,none⟩:Oper)).run P w=.ok (.value (.bool (decide (b<=a)))) w:=by
 rw [x_geq .u8 _ _ hx hy];congr 3;exact decide_eq_decide.2 (by rw [UInt8.le_iff_toNat_le];omega)
theorem x8_add{x y:Operand}{t t':TypeId}(a b:UInt8)(hx:evn n F x=bt a)(hy:evn n F y=bt b):(execOp (evn n F) (⟨some d,.binOp .add t x y t',ty,pos,after,none⟩:Oper)).run P w=.ok (.value (bt (a+b))) w:=by
 rw [x_add .u8 _ _ hx hy];unfold bt;rw [UInt8.toNat_add,IntKind.wrap_u8];congr 3
theorem x8_sub{x y:Operand}{t t':TypeId}(a b:UInt8)(hx:evn n F x=bt a)(hy:evn n F y=bt b):(execOp (evn n F) (⟨some d,.binOp .sub t x y t',ty,pos,after,none⟩:Oper)).run P w=.ok (.value (bt (a-b))) w:=by
 rw [x_sub .u8 _ _ hx hy];unfold bt;rw [UInt8.toNat_sub,IntKind.wrap_u8];congr 3;have:=UInt8.toNat_lt a;have:=UInt8.toNat_lt b;omega
theorem abh{x y:Operand}{t t':TypeId}(a b:UInt8)(hx:evn n F x=bt a)(hy:evn n F y=bt b)(h:W P n ops Q rest (upd F d (.bool (decide (a=b)))) w):W P n ops Q (⟨some d,.binOp .eql t x y t',ty,pos,after,none⟩::rest) F w:=abn rfl rfl (x8_eql a b hx hy) h
theorem w8_neq{x y:Operand}{t t':TypeId}(a b:UInt8)(hx:evn n F x=bt a)(hy:evn n F y=bt b)(h:W P n ops Q rest (upd F d (.bool (!decide (a=b)))) w):W P n ops Q (⟨some d,.binOp .neq t x y t',ty,pos,after,none⟩::rest) F w:=abn rfl rfl (x8_neq a b hx hy) h
theorem w8_lss{x y:Operand}{t t':TypeId}(a b:UInt8)(hx:evn n F x=bt a)(hy:evn n F y=bt b)(h:W P n ops Q rest (upd F d (.bool (decide (a<b)))) w):W P n ops Q (⟨some d,.binOp .lss t x y t',ty,pos,after,none⟩::rest) F w:=abn rfl rfl (x8_lss a b hx hy) h
theorem aih{x y:Operand}{t t':TypeId}(a b:UInt8)(hx:evn n F x=bt a)(hy:evn n F y=bt b)(h:W P n ops Q rest (upd F d (.bool (decide (a<=b)))) w):W P n ops Q (⟨some d,.binOp .leq t x y t',ty,pos,after,none⟩::rest) F w:=abn rfl rfl (x8_leq a b hx hy) h
theorem aii{x y:Operand}{t t':TypeId}(a b:UInt8)(hx:evn n F x=bt a)(hy:evn n F y=bt b)(h:W P n ops Q rest (upd F d (.bool (decide (b<=a)))) w):W P n ops Q (⟨some d,.binOp .geq t x y t',ty,pos,after,none⟩::rest) F w:=abn rfl rfl (x8_geq a b hx hy) h
theorem w8_add{x y:Operand}{t t':TypeId}(a b:UInt8)(hx:evn n F x=bt a)(hy:evn n F y=bt b)(h:W P n ops Q rest (upd F d (bt (a+b))) w):W P n ops Q (⟨some d,.binOp .add t x y t',ty,pos,after,none⟩::rest) F w:=abn rfl rfl (x8_add a b hx hy) h
theorem w8_sub{x y:Operand}{t t':TypeId}(a b:UInt8)(hx:evn n F x=bt a)(hy:evn n F y=bt b)(h:W P n ops Q rest (upd F d (bt (a-b))) w):W P n ops Q (⟨some d,.binOp .sub t x y t',ty,pos,after,none⟩::rest) F w:=abn rfl rfl (x8_sub a b hx hy) h
end
theorem Hp.rwcap{w0 w:World}{S:List Nat}{L:List Res}{α:Type}{f:α->List Value}{e sz cap:Nat}{o:Option Nat}{a:Option Addr}{l:List α}(h:Hp w0 S L w)(k:Nat)(hk:L[k]? =some (rwt f e sz o a cap l)):l.length<=cap:=by
 obtain⟨h1,_⟩:=h.res _ (List.mem_of_getElem? hk);rcases h1 with⟨_,rfl,rfl,_⟩|⟨g,cur,_,_,_,h2,_⟩
 ·exact zab _
 ·exact h2
section
variable {P : Program} {n : Md} {ops : Array Oper} {Q : Exit -> Act -> World -> Prop} {F : Nat -> Value} {w w0 : World} {S : List Nat} {L : List Res}
variable {d : Nat} {ty : TypeId} {pos : String} {after : Array Edge} {rest : List Oper} {α : Type} {f : α -> List Value}
theorem elem_of{t e:TypeId}(ht:P.underlying t=some (.slice e)):P.elem t=e:=by simp [Program.elem,ht]
theorem x_slTo{x hi:Operand}{t:TypeId}(a:Option Addr)(m c e sz:Nat)(k:IntKind)(j:Int)(ht:P.underlying t=some (.slice e))(hs:(sizeOf e).run P w=.ok sz w)(hx:evn n F x=.slice a m c)(hhi:evn n F hi=.int k j)(l:List α)(hn:m=l.length)
  (hb:0<=j/\j<=(l.length:Int)) (hc:m<=c):(execOp (evn n F) (⟨some d,.slice t x none (some hi) none,ty,pos,after,none⟩:Oper)).run P w=.ok (.value (.slice a j.toNat c)) w:=by
 have he:=elem_of ht;have ht':P.underlying t=some (.slice (P.elem t)):=by rw [he];exact ht
 have e1:=run_slice_h (P:=P) w t a m c ht' k j hb.1 (by omega);rw [he,hs]at e1;simp only [execOp,hx,hhi,Sem.run_bind,zaJ,Option.map_none,run_sliceAt_slice w t _ _ _ _ ht',e1,Result.andThen_ok,sliced];simp
 intro _;cases a<;>simp [Addr.add]
theorem w_slTo{x hi:Operand}{t:TypeId}(a:Option Addr)(m c e sz:Nat)(k:IntKind)(j:Int)(ht:P.underlying t=some (.slice e))(hs:(sizeOf e).run P w=.ok sz w)(hx:evn n F x=.slice a m c)(hhi:evn n F hi=.int k j)(l:List α)(hn:m=l.length)
  (hb:0<=j/\j<=(l.length:Int)) (hc:m<=c) (h:W P n ops Q rest (upd F d (.slice a j.toNat c)) w):W P n ops Q (⟨some d,.slice t x none (some hi) none,ty,pos,after,none⟩::rest) F w:=
 abn rfl rfl (x_slTo a m c e sz k j ht hs hx hhi l hn hb hc) h
def slF(a:Option Addr)(cap lo sz:Nat):Option Addr:=if cap=lo then a else a.map (·.add (lo*sz))
theorem x_slFrom{x lo:Operand}{t:TypeId}(a:Option Addr)(m c e sz:Nat)(k:IntKind)(j:Int)(ht:P.underlying t=some (.slice e))(hs:(sizeOf e).run P w=.ok sz w)(hx:evn n F x=.slice a m c)(hlo:evn n F lo=.int k j)(l:List α)(hn:m=l.length)
  (hb:0<=j/\j<=(l.length:Int)):(execOp (evn n F) (⟨some d,.slice t x (some lo) none none,ty,pos,after,none⟩:Oper)).run P w=.ok (.value (.slice (slF a c j.toNat sz) (m-j.toNat) (c-j.toNat))) w:=by
 have he:=elem_of ht;have ht':P.underlying t=some (.slice (P.elem t)):=by rw [he];exact ht
 have e1:=run_slice_l (P:=P) w t a m c ht' k j hb.1 (by omega);rw [he,hs]at e1;simp only [execOp,hx,hlo,Sem.run_bind,zaJ,Option.map_none,run_sliceAt_slice w t _ _ _ _ ht',e1,Result.andThen_ok,sliced,slF,Sem.run_pure]
theorem w_slFrom{x lo:Operand}{t:TypeId}(a:Option Addr)(m c e sz:Nat)(k:IntKind)(j:Int)(ht:P.underlying t=some (.slice e))(hs:(sizeOf e).run P w=.ok sz w)(hx:evn n F x=.slice a m c)(hlo:evn n F lo=.int k j)(l:List α)(hn:m=l.length)
  (hb:0<=j/\j<=(l.length:Int)) (h:W P n ops Q rest (upd F d (.slice (slF a c j.toNat sz) (m-j.toNat) (c-j.toNat))) w):W P n ops Q (⟨some d,.slice t x (some lo) none none,ty,pos,after,none⟩::rest) F w:=
 abn rfl rfl (x_slFrom a m c e sz k j ht hs hx hlo l hn hb) h
theorem x_ixA[Inhabited α]{x ix:Operand}{t e:TypeId}(f:α->List Value)(l:List α)(m:Nat)(k:IntKind)(i:Int)(cs:List Value)(v:Value)(hl:l.map f=cs.map (fun c=>[c]))(ht:P.underlying t=some (.array m e))(hm:l.length=m)(ha:(isAgg e).run P w=.ok false w)(hs:(sizeOf e).run P w=.ok 1 w)
  (hx:evn n F x=.agg cs.toArray) (hi:evn n F ix=.int k i) (hv:f (el l i)=[v]) (hb:0<=i/\i<(l.length:Int)):(execOp (evn n F) (⟨some d,.index t x ix,ty,pos,after,none⟩:Oper)).run P w=.ok (.value v) w:=by
 have h1:i.toNat<l.length:=by omega
 have h2:(cs.map (fun c=>[c]))[i.toNat]? =some [v]:=by rw [<-hl,List.getElem?_map,List.getElem?_eq_getElem h1];simp only [zaJ];rw [<-hv];simp [el,h1]
 have h3:cs[i.toNat]? =some v:=by
  rw [List.getElem?_map]at h2;cases hc:cs[i.toNat]? with
  |none=>rw [hc]at h2;simp at h2
  |some c=>rw [hc]at h2;simp at h2;rw [h2]
 have hb':0<=i/\i<(m:Int):=by omega
 simp [execOp,hx,hi,Instr.index,asIntOf,run_underlying ht,hb',hs,part,ha,h3]
theorem w_ixA[Inhabited α]{x ix:Operand}{t e:TypeId}(f:α->List Value)(l:List α)(m:Nat)(k:IntKind)(i:Int)(cs:List Value)(v:Value)(hl:l.map f=cs.map (fun c=>[c]))(ht:P.underlying t=some (.array m e))(hm:l.length=m)(ha:(isAgg e).run P w=.ok false w)(hs:(sizeOf e).run P w=.ok 1 w)
  (hx:evn n F x=.agg cs.toArray) (hi:evn n F ix=.int k i) (hv:f (el l i)=[v]) (hb:0<=i/\i<(l.length:Int)) (h:W P n ops Q rest (upd F d v) w):W P n ops Q (⟨some d,.index t x ix,ty,pos,after,none⟩::rest) F w:=
 abn rfl rfl (x_ixA f l m k i cs v hl ht hm ha hs hx hi hv hb) h
theorem eqi_str{w:World}(d:Nat){t:TypeId}(a b:Str)(h:P.underlying t=some .string):(Op.equalIn (d+1) t (str a) (str b)).run P w=.ok (decide (a=b)) w:=by
 have e:((⟨a.toArray⟩:ByteArray).toList==(⟨b.toArray⟩:ByteArray).toList)=decide (a=b):=by rw [ByteArray.toList_eq,ByteArray.toList_eq,zbb];simp
 unfold str;rw [run_equalIn_string w d t _ _ h,e]
def EqF(P:Program)(w:World)(xs ys:List Value):List Field->List Bool->Prop
 |[],[]=>True
 | f :: fs, b :: bs => f.name ≠ "_" /\ (∃ u v, (part f.type xs.toArray f.offset).run P w = .ok u w /\ (part f.type ys.toArray f.offset).run P w = .ok v w /\ ∀ d, (Op.equalIn (d + 1) f.type u v).run P w = .ok b w) /\ EqF P w xs ys fs bs
 |_,_=>False
theorem eqF_run{w:World}{xs ys:List Value}(d:Nat):∀(fs:List Field) (bs:List Bool),EqF P w xs ys fs bs->(Op.eqFields (d+1) xs.toArray ys.toArray fs).run P w=.ok (bs.all id) w
 |[],[],_=>rfl
 |[],_::_,h=>h.elim
 |_::_,[],h=>h.elim
 |f::fs,b::bs,⟨h1,⟨u,v,h2,h3,h4⟩,h5⟩=>by
  have ih:=eqF_run d fs bs h5;simp only [Op.eqFields,h1,ne_eq,not_false_eq_true,if_true,Sem.run_bind,h2,h3,h4 d,Result.andThen_ok];cases b with
  |true=>simpa using ih
  |false=>simp
theorem x_aggneq{x y:Operand}{t t':TypeId}{fs:List Field}(xs ys:List Value)(bs:List Bool)(r:Bool)(ht:P.underlying t=some (.struct fs.toArray))(hp:P.stoodInHeld t=false)(hm:P.eqGuardType P.depth t=false)(hx:evn n F x=.agg xs.toArray)(hy:evn n F y=.agg ys.toArray)
  (hf:EqF P w xs ys fs bs) (hr:bs.all id=r):(execOp (evn n F) (⟨some d,.binOp .neq t x y t',ty,pos,after,none⟩:Oper)).run P w=.ok (.value (.bool (!r))) w:=by
 have hfs:P.fieldsOf t=fs.toArray:=by simp [Program.fieldsOf,ht]
 have h1:=run_equalIn_agg (P:=P) w 9999 t xs.toArray ys.toArray (by rw [hfs];exact ht) hp;rw [hfs]at h1;have h2:=eqF_run 9998 fs bs hf;simp only [execOp,hx,hy,Sem.run_bind,run_eqGuard_agg w .neq t x y _ _ hm,Result.andThen_ok,run_neq_struct,h1,h2,hr];simp
theorem w_aggneq{x y:Operand}{t t':TypeId}{fs:List Field}(xs ys:List Value)(bs:List Bool)(r:Bool)(ht:P.underlying t=some (.struct fs.toArray))(hp:P.stoodInHeld t=false)(hm:P.eqGuardType P.depth t=false)(hx:evn n F x=.agg xs.toArray)(hy:evn n F y=.agg ys.toArray)
  (hf:EqF P w xs ys fs bs) (hr:bs.all id=r) (h:W P n ops Q rest (upd F d (.bool (!r))) w):W P n ops Q (⟨some d,.binOp .neq t x y t',ty,pos,after,none⟩::rest) F w:=abn rfl rfl (x_aggneq xs ys bs r ht hp hm hx hy hf hr) h
end
theorem Rd.bytes{w:World}{a:Option Addr}{l:List UInt8}(h:Rd w a (l.flatMap eB)):Rd w a (l.map bt):=flat_eB l▸h
theorem Rd.ofbytes{w:World}{a:Option Addr}{l:List UInt8}(h:Rd w a (l.map bt)):Rd w a (l.flatMap eB):=(flat_eB l).symm▸h
theorem Rd.takeT{w:World}{a:Option Addr}{α:Type}{f:α->List Value}{sz:Nat}{l:List α}(hE:Enc f sz)(m:Nat)(h:Rd w a (l.flatMap f)):Rd w a ((l.take m).flatMap f):=by
 have e:(l.take m).flatMap f=(l.flatMap f).take ((l.take m).length*sz):=by
  have:l.flatMap f=(l.take m).flatMap f++(l.drop m).flatMap f:=by rw [<-zaF,List.take_append_drop]
  rw [this,<-hE.flat (l.take m),zaW]
 rw [e];exact h.take _
theorem Rd.hpN{w0 w:World}{S:List Nat}{L:List Res}{a:Option Addr}{xs:List Value}(h:Rd w0 a xs)(hH:Hp w0 S L w)(hne:xs≠[]->∀p,a=some p->p.block∉S):Rd w a xs:=by
 cases xs with
 |nil=>exact Rd.nil _ _
 |cons x xs=>exact h.hpS hH (hne (by simp))
theorem Rd.dropT{w:World}{a:Option Addr}{α:Type}{f:α->List Value}{sz:Nat}{l:List α}(hE:Enc f sz)(cap k:Nat)(hc:l.length<=cap)(h:Rd w a (l.flatMap f)):Rd w (slF a cap k sz) ((l.drop k).flatMap f):=by
 unfold slF;split
 ·rename_i e;rw [List.drop_eq_nil_of_le (by omega)];exact Rd.nil _ _
 ·rw [<-aji f sz hE.len l k];cases a with
  |none=>
   intro j v hv;rw [List.getElem?_drop]at hv;obtain⟨p,hp,_⟩:=h _ v hv;cases hp
  |some p=>exact h.drop (k*sz)
theorem Hp.apartRw{w0 w:World}{S:List Nat}{L L1:List Res}{α:Type}{f:α->List Value}{e sz cap:Nat}{o:Option Nat}{a:Option Addr}{l:List α}(h:Hp w0 S L w)(m k:Nat)(hk:L[k]? =some (rwt f e sz o a cap l))(hmk:zam m k=true)(hL:L.take m=L1):
  l.flatMap f≠[]->∀p,a=some p->p.block∉ahs L1:=by
 intro hne p hp hm;obtain⟨h1,_⟩:=h.res _ (List.mem_of_getElem? hk);have hmk':m<=k:=zaP hmk;rcases h1 with⟨_,rfl,_⟩|⟨g,cur,ho,rfl,_⟩
 ·exact hne rfl
 ·simp at hp
  subst hp;obtain⟨r,hr,hb⟩:=mem_owns hm;subst hL;obtain⟨j,hj,e⟩:=List.getElem_of_mem hr;have hjm:j<m:=by simp at hj;omega
  have hjl:j<L.length:=by simp at hj;omega
  have hkl:k<L.length:=(List.getElem?_eq_some_iff.1 hk).1;have hs:=List.pairwise_iff_getElem.1 h.sep j k hjl hkl (by omega) g;rw [List.getElem_take]at e;rw [e,(List.getElem?_eq_some_iff.1 hk).2]at hs;exact hs hb ho
theorem Hp.apartRd{w0 w:World}{S:List Nat}{L L1:List Res}{a:Option Addr}{xs:List Value}(h:Hp w0 S L w)(m:Nat)(hR:Rd w0 a xs)(hne:xs≠[]->∀p,a=some p->p.block∉S)(hL:L.take m=L1):
  xs≠[]->∀p,a=some p->p.block∉ahs L1:=by
 intro hx p hp hm;obtain⟨r,hr,hb⟩:=mem_owns hm;subst hL;have hres:=(h.res r (zaL hr)).2 p.block hb;rcases hres.2 with h1|h1
 ·cases xs with
  |nil=>exact hx rfl
  |cons x xs=>
   obtain⟨q,hq,hc⟩:=hR 0 x rfl;rw [hp]at hq;cases hq
   have:=cell_lt hc
   rw [add_block]at this;omega
 ·exact hne hx p hp h1
open Option renaming bind_some -> zaa
def jmp:Nat->Option Code
 |0=>none
 |1=>some .ret
 |n+2=>some (.exit n)
def lst(j:Nat):LoopState:=if j=0 then .ready else .done
def lrec(l j:Nat)(rc:Loop):Res:=⟨some l,fun o=>o=some (.loop {rc with state:=lst j,pending:=jmp j})⟩
def lbusy(l:Nat)(rc:Loop):Res:=⟨some l,fun o=>∃pd,o=some (.loop {rc with state:=.busy,pending:=pd})⟩
def dfr(r:Nat):Res:=⟨some r,fun o=>o=some (.deferred (some []))⟩
def gone(r:Nat):Res:=⟨some r,fun _=>True⟩
theorem Hp.put{w0 w:World}{S:List Nat}{L:List Res}(h:Hp w0 S L w)(k b:Nat)(r r':Res)(o:Obj)(hk:L[k]? =some r)(hr:r.own=some b)(hr':r'.own=some b)(ho:r'.ok (some o)):Hp w0 S (L.set k r') (w.putObj b o):=by
 have hb:=((h.res _ (List.mem_of_getElem? hk)).2 b hr).1;refine h.change k _ _ hk rfl rfl rfl (by simp) (fun j hj hne=>World.putObj_heap_other (fun e=>hne (by rw [hr,e]))) ?_ (fun c hc=> ?_)
 ·unfold Res.holds;rw [hr'];simp only [zaa];rw [World.putObj_heap_same hb];exact ho
 ·rw [hr']at hc;cases hc
  exact⟨.inl hr,by simpa using hb⟩
theorem Hp.allocR{w0 w:World}{S:List Nat}{L:List Res}(h:Hp w0 S L w)(o:Obj)(r:Res)(ho:r.own=some w.heap.size)(hr:r.ok (some o)):Hp w0 S (r::L) (w.alloc o):=by
 have h2:Hp w [] [r] (w.alloc o):=by
  refine⟨rfl,rfl,rfl,by simp,fun k hk _=>RowKit.Below.heap_alloc w _ k hk,fun x hx=> ?_,by simp⟩
  simp at hx
  subst hx;refine⟨?_,fun b hb=> ?_⟩
  ·unfold Res.holds;rw [ho];show x.ok ((w.heap.push o)[w.heap.size]?);simpa using hr
  ·rw [ho]at hb;cases hb
   simp
 exact h.callL h2
def YR(P:Program)(l:Nat)(args:List Value)(w:World)(R:Value->World->Prop):Prop:=
 ∃f tmps azq bd,(Instr.yield l args.toArray).run P w=.ok (.round l f tmps azq bd) w/\RoundIn Fence.wide 0 P l f tmps azq bd w (fun e w'=>∃v,e=.returned v/\R v w')
theorem YR.mono{P:Program}{l:Nat}{args:List Value}{w:World}{R R':Value->World->Prop}(h:YR P l args w R)(hr:∀v w',R v w'->R' v w'):YR P l args w R':=by
 obtain⟨f,tmps,azq,bd,h1,h2⟩:=h;exact⟨f,tmps,azq,bd,h1,h2.mono fun e w' ⟨v,hv,hq⟩=>⟨v,hv,hr v w' hq⟩⟩
section
variable {P : Program} {ops : Array Oper} {Q : Exit -> Act -> World -> Prop} {F : Nat -> Value} {w w0 : World} {S : List Nat} {L : List Res}
variable {d : Nat} {ty : TypeId} {pos : String} {after : Array Edge} {rest : List Oper} {k : Nat} {D : List Deferred} {ro : Option Nat}
theorem w_yield{fo:Operand}{azq:Array Operand}{ats:Array TypeId}(l:Nat)(vs:List Value)(R:Value->World->Prop)
  (hf:evn ⟨k,D,some ro⟩ F fo=.func (.yield l) #[] #[]) (ha: #[]++azq.map (evn ⟨k,D,some ro⟩ F)++ #[]=vs.toArray) (hc:YR P l vs w R) (h:∀v w',R v w'->W P ⟨k,D,some ro⟩ ops Q rest (upd F d v) w'):
  W P ⟨k,D,some ro⟩ ops Q (⟨some d,.call ⟨.value fo,azq,ats⟩,ty,pos,after,none⟩::rest) F w:=by
 obtain⟨f,tmps,asg,bd,h1,h2⟩:=hc;have hrun:(execOp (evn ⟨k,D,some ro⟩ F) (⟨some d,.call ⟨.value fo,azq,ats⟩,ty,pos,after,none⟩:Oper)).run P w=.ok (.round l f tmps asg bd) w:=by
  simp only [execOp,resolve,hf,Deferred.ofValue];show Sem.run P (Instr.yield l (#[]++azq.map (evn ⟨k,D,some ro⟩ F)++ #[])) w=_;rw [ha];exact h1
 unfold W WR;refine wpListIn_plain rfl fun K hK=>⟨fun _ _=>trivial, ?_⟩
 rw [afa,ajg _ hrun (fun d e=>by cases e),hrun,Oper.uponIn_round];refine⟨fun h=>absurd h Bool.false_ne_true, ?_⟩
 refine RoundIn.mono (F:=Fence.wide) (n:=0) h2 ?_;rintro e w' ⟨v,rfl,hv⟩
 refine hK _ _ ?_
 have:=h v w' hv
 unfold W WR at this;rw [<-fr_put]at this;exact this
theorem enterM{f:FuncId}{fn:Func}{c:Code}{args:List Value}{R:Value->World->Prop}(hf:P.funcs[f]? =some fn)(hb:fn.body=some c)(hn:fn.ntmps=k)(hl:args.length<=k)
  (h:C P ⟨k,[],some none⟩ (bodyPostM Fence.wide 0 P fn fun e w'=>∃v,e=.returned v/\R v w') c (argF args) w):CR P f args w R:=by
 refine(callsIn_wide (n:=0)).1 (callsIn_of_wp_marks hf hb trivial ?_)
 rw [hn,fr_args args k hl];unfold C CC at h;exact h
def mark(r:Nat):Deferred:={target:=.collected r,args:= #[]}
theorem m_res0{fn:Func}{R:Value->World->Prop}(h:∃v,(results fn (fr ⟨k,[],none⟩ F).tmps).run P w=.ok v w/\R v w):
  bodyPostM Fence.wide 0 P fn (fun e w'=>∃v,e=.returned v/\R v w') .ret (fr ⟨k,[],some none⟩ F) w:=by
 obtain⟨v,h1,h2⟩:=h;exact⟨v,h1,v,rfl,h2⟩
theorem m_res1{fn:Func}{R:Value->World->Prop}(hH:Hp w0 S L w)(kd r:Nat)(hk:L[kd]? =some (dfr r))(h:∀w',Hp w0 S (L.set kd (gone r)) w'->∃v,(results fn (fr ⟨k,[],none⟩ F).tmps).run P w'=.ok v w'/\R v w'):
  bodyPostM Fence.wide 0 P fn (fun e w'=>∃v,e=.returned v/\R v w') .ret (fr ⟨k,[mark r],some none⟩ F) w:=by
 have hb:w.heap[r]? =some (.deferred (some [])):=(hH.res _ (List.mem_of_getElem? hk)).1;obtain⟨v,h1,h2⟩:=h _ (hH.put kd r (dfr r) (gone r) (.deferred none) hk rfl rfl trivial);exact⟨by simp,.inl ⟨r,_,rfl,run_takeDeferred hb,v,h1,v,rfl,h2⟩⟩
theorem m_norm{fn:Func}{R:Ending->World->Prop}{a:Act}(h:bodyPostM Fence.wide 0 P fn R .ret a w):bodyPostM Fence.wide 0 P fn R .normal a w:=h
def RgQ(P:Program)(k r:Nat)(Q:Exit->Act->World->Prop)(F:Nat->Value)(j:Nat)(w:World):Prop:=
 match jmp j with
 |none=>Q .normal (fr ⟨k,[mark r],some none⟩ F) w
 |some c=>C P ⟨k,[mark r],some none⟩ Q c F w
theorem rg0{r j:Nat}(hj:j=0)(h:Q .normal (fr ⟨k,[mark r],some none⟩ F) w):RgQ P k r Q F j w:=by subst hj;exact h
theorem rg1{r j:Nat}(hj:j=1)(h:C P ⟨k,[mark r],some none⟩ Q .ret F w):RgQ P k r Q F j w:=by subst hj;exact h
theorem rgx{r j:Nat}(id:Nat)(hj:j=id+2)(h:C P ⟨k,[mark r],some none⟩ Q (.exit id) F w):RgQ P k r Q F j w:=by subst hj;exact h
def updL(F:Nat->Value):List Nat->List Value->Nat->Value
 |p::ps,v::vs=>updL (upd F p v) ps vs
 |_,_=>F
theorem updL_tmps(m:Md):∀(ps:List Nat) (vs:List Value) (F:Nat->Value),(ps.zip vs).foldl (fun t (x:Nat×Value)=>t.setIfInBounds x.1 x.2) (fr m F).tmps=(fr m (updL F ps vs)).tmps
 |[],_,F=>by simp [updL]
 |_::_,[],F=>by simp [updL]
 |p::ps,v::vs,F=>by
  simp only [List.zip_cons_cons,List.foldl_cons,updL];rw [<-updL_tmps m ps vs (upd F p v)];congr 1
  have:=fr_put m F p v
  unfold Act.put at this;exact congrArg Act.tmps this
def AsgQ(P:Program)(l:Nat)(bd:Code)(R:Value->World->Prop):Exit->Act->World->Prop:=
 Exit.then (fun a1 w1=>∃w2,(Instr.beginRound l).run P w1=.ok () w2/\bd.wpIn (fen (some l)) 0 P (roundPost P l fun e w'=>∃v,e=.returned v/\R v w') a1 w2) (fun _ _ _=>False)
def RndQ(P:Program)(l:Nat)(R:Value->World->Prop):Exit->Act->World->Prop:=roundPost P l fun e w'=>∃v,e=.returned v/\R v w'
theorem yr_intro{l:Nat}{rc:Loop}{R:Value->World->Prop}{ps:List Nat}{vs:List Value}{m:Option (Option Nat)}{asg bd:Code}(hH:Hp w0 S L w)(kl:Nat)(hk:L[kl]? =some (lrec l 0 rc))(ha:rc.assign=asg)(hb:rc.body=bd)(hp:rc.params=ps.toArray)(ht:rc.tmps=(fr ⟨k,[],m⟩ F).tmps)(hl:ps.length=vs.length)
  (h:C P ⟨k,[],some (some l)⟩ (AsgQ P l bd R) asg (updL F ps vs) w):YR P l vs w R:=by
 have hr:w.heap[l]? =some (.loop {rc with state:=lst 0,pending:=jmp 0}):=(hH.res _ (List.mem_of_getElem? hk)).1;subst ha;subst hb;refine⟨rc.fn,_,rc.assign,rc.body,run_yield (r:={rc with state:=lst 0,pending:=jmp 0}) hr (by simp [hp,hl]), ?_⟩
 refine roundIn_of_wpIn trivial ?_;have e:(({rc with state:=lst 0,pending:=jmp 0}:Loop).params.zip vs.toArray).foldl (fun tmps (x:Nat×Value)=>tmps.setIfInBounds x.1 x.2) ({rc with state:=lst 0,pending:=jmp 0}:Loop).tmps=(fr ⟨k,[],some (some l)⟩ (updL F ps vs)).tmps:=by
  show((rc.params.zip vs.toArray).foldl _ rc.tmps)=_
  rw [hp,ht]
  have:=updL_tmps ⟨k,[],m⟩ ps vs F
  rw [show(fr ⟨k,[],some (some l)⟩ (updL F ps vs)).tmps=(fr ⟨k,[],m⟩ (updL F ps vs)).tmps from rfl,<-this];simp
 unfold C CC at h;have e2:fr ⟨k,[],some (some l)⟩ (updL F ps vs)={tmps:=(fr ⟨k,[],some (some l)⟩ (updL F ps vs)).tmps,defers:=[]}:=rfl;rw [e2,<-e]at h;exact h
theorem asg_next{l:Nat}{rc:Loop}{R:Value->World->Prop}{bd:Code}(hH:Hp w0 S L w)(kl:Nat)(hk:L[kl]? =some (lrec l 0 rc))(h:∀w2,Hp w0 S (L.set kl (lbusy l rc)) w2->C P ⟨k,[],some (some l)⟩ (RndQ P l R) bd F w2):
  AsgQ P l bd R .normal (fr ⟨k,[],some (some l)⟩ F) w:=by
 have hr:w.heap[l]? =some (.loop {rc with state:=lst 0,pending:=jmp 0}):=(hH.res _ (List.mem_of_getElem? hk)).1;have h2:=h _ (hH.put kl l (lrec l 0 rc) (lbusy l rc) (.loop {rc with state:=.busy,pending:=jmp 0}) hk rfl rfl ⟨_,rfl⟩);unfold C CC RndQ at h2;exact⟨_,run_beginRound hr rfl,h2⟩
theorem rnd_end{l:Nat}{rc:Loop}{R:Value->World->Prop}(j:Nat)(hH:Hp w0 S L w)(kl:Nat)(hk:L[kl]? =some (lbusy l rc))(h:∀w',Hp w0 S (L.set kl (lrec l j rc)) w'->R (.bool (decide (j=0))) w'):
  ∃v w',(Instr.endRound l (jmp j)).run P w=.ok v w'/\∃u,Ending.returned v=.returned u/\R u w':=by
 obtain⟨pd,hr⟩:=(hH.res _ (List.mem_of_getElem? hk)).1;have hr':w.heap[l]? =some (.loop {rc with state:=.busy,pending:=pd}):=hr;have e1:(jmp j).isNone=decide (j=0):=by
  cases j with
  |zero=>rfl
  |succ n=>cases n<;>rfl
 have e2:(if(jmp j).isNone=true then LoopState.ready else .done)=lst j:=by
  rw [e1];unfold lst;simp
 refine⟨_,_,run_endRound (jmp j) hr',_,rfl, ?_⟩
 rw [e1];refine h _ ?_;have h3:=hH.put kl l (lbusy l rc) (lrec l j rc) (.loop {rc with state:=lst j,pending:=jmp j}) hk rfl rfl rfl;rw [<-e1,e2];exact h3
theorem rnd_normal{l:Nat}{rc:Loop}{R:Value->World->Prop}(hH:Hp w0 S L w)(kl:Nat)(hk:L[kl]? =some (lbusy l rc))(h:∀w',Hp w0 S (L.set kl (lrec l 0 rc)) w'->R (.bool true) w'):RndQ P l R .normal (fr ⟨k,[],some (some l)⟩ F) w:=rnd_end 0 hH kl hk h
theorem rnd_ret{l:Nat}{rc:Loop}{R:Value->World->Prop}(hH:Hp w0 S L w)(kl:Nat)(hk:L[kl]? =some (lbusy l rc))(h:∀w',Hp w0 S (L.set kl (lrec l 1 rc)) w'->R (.bool false) w'):RndQ P l R .ret (fr ⟨k,[],some (some l)⟩ F) w:=rnd_end 1 hH kl hk h
theorem rnd_exit{l id:Nat}{rc:Loop}{R:Value->World->Prop}(hH:Hp w0 S L w)(kl:Nat)(hk:L[kl]? =some (lbusy l rc))(h:∀w',Hp w0 S (L.set kl (lrec l (id+2) rc)) w'->R (.bool false) w'):RndQ P l R (.exit id) (fr ⟨k,[],some (some l)⟩ F) w:=rnd_end (id+2) hH kl hk (by simpa using h)
end
attribute [irreducible] RgQ AsgQ RndQ
open Go.Lib
open Nat renaming beq -> zai
section
variable {P : Program} {n : Md} {ops : Array Oper} {Q : Exit -> Act -> World -> Prop} {F : Nat -> Value} {w w0 : World} {S : List Nat} {L : List Res}
variable {d : Nat} {ty : TypeId} {pos : String} {after : Array Edge} {rest : List Oper}
theorem x_pnil{x y:Operand}{t t' e:TypeId}(p:Option Addr)(ht:P.underlying t=some (.pointer e))(hx:evn n F x=.pointer p)(hy:evn n F y=.pointer none):(execOp (evn n F) (⟨some d,.binOp .eql t x y t',ty,pos,after,none⟩:Oper)).run P w=.ok (.value (.bool p.isNone)) w:=by
 have he:P.pointee t=e:=by simp [Program.pointee,ht]
 have e1:=run_equal_pointer_nil (P:=P) w t p (by rw [he];exact ht);have e2:(binOp .eql t (.pointer p) (.pointer none)).run P w=.ok (.bool p.isNone) w:=by simp only [binOp];simp [e1]
 simp [execOp,hx,hy,eqGuard,e2]
theorem w_pnil{x y:Operand}{t t' e:TypeId}(p:Option Addr)(ht:P.underlying t=some (.pointer e))(hx:evn n F x=.pointer p)(hy:evn n F y=.pointer none)(h:W P n ops Q rest (upd F d (.bool p.isNone)) w):W P n ops Q (⟨some d,.binOp .eql t x y t',ty,pos,after,none⟩::rest) F w:=abn rfl rfl (x_pnil p ht hx hy) h
theorem w_pself{x y:Operand}{t t' e:TypeId}(a:Addr)(ht:P.underlying t=some (.pointer e))(hi:(P.info? e).isSome=true)(hx:evn n F x=.pointer (some a))(hy:evn n F y=.pointer (some a))(h:W P n ops Q rest (upd F d (.bool false)) w):W P n ops Q (⟨some d,.binOp .neq t x y t',ty,pos,after,none⟩::rest) F w:=by
 obtain⟨j,hj⟩:=Option.isSome_iff_exists.1 hi;have e2:=run_neq_ptr_same (P:=P) w a ht hj;refine abn (v:=.bool false) (w':=w) rfl rfl ?_ h;simp [execOp,hx,hy,eqGuard,e2]
theorem w_toUns{x:Operand}{s t u:TypeId}(hH:Hp w0 S L w)(k b off e:Nat)(cs:List Value)(hk:L[k]? =some (blk b cs e))(hs:P.underlying s=some (.pointer u))(ht:P.underlying t=some .unsafePointer)(hi:((P.info? u).map (fun i=>zai i.size 0))=some false)(ho:off<cs.length)(hx:evn n F x=.pointer (some ⟨b,off,none⟩))
  (h:W P n ops Q rest (upd F d (.pointer (some ⟨b,off,none⟩))) w):W P n ops Q (⟨some d,.convert s t x,ty,pos,after,none⟩::rest) F w:=by
 obtain⟨j,hj,hj2⟩:=Option.map_eq_some_iff.1 hi;have hj0:j.size≠0:=fun e0=>by rw [e0]at hj2;cases hj2
 have hb:=hH.blkAt k hk;have hsh:w.shape? b=some (e,cs.length):=by simp [World.shape?,hb]
 have e1:=run_to_unsafe (P:=P) w ⟨b,off,none⟩ hs ht hj hj0 hsh ho;refine abn (w':=w) rfl rfl ?_ h;simp [execOp,hx,e1]
theorem w_ofUns{x:Operand}{s t u:TypeId}(hH:Hp w0 S L w)(k b off e:Nat)(cs:List Value)(hk:L[k]? =some (blk b cs e))(hs:P.underlying s=some .unsafePointer)(ht:P.underlying t=some (.pointer u))(hi:(P.info? u).isSome=true)(hl:liesAt P P.depth e (cs.length/P.cellsOf e) off u 1=true)(hx:evn n F x=.pointer (some ⟨b,off,none⟩))
  (h:W P n ops Q rest (upd F d (.pointer (some ⟨b,off,none⟩))) w):W P n ops Q (⟨some d,.convert s t x,ty,pos,after,none⟩::rest) F w:=by
 obtain⟨j,hj⟩:=Option.isSome_iff_exists.1 hi;have hb:=hH.blkAt k hk;have hsh:w.shape? b=some (e,cs.length):=by simp [World.shape?,hb]
 have e1:=run_from_unsafe (P:=P) w ⟨b,off,none⟩ hs ht hj hsh hl;refine abn (w':=w) rfl rfl ?_ h;simp [execOp,hx,e1]
theorem w_noEsc{fo : Operand}{azq : Array Operand}{ats : Array TypeId}{fn : Func}(hH : Hp w0 S L w)(f : FuncId)(v : Value)(hf : evn n F fo = .func (.func f) #[] #[])(ha : #[] ++ azq.map (evn n F) ++ #[] = #[v])(h1 : P.funcs[f]? = some fn)(h2 : (fn.name == "runtime.NumGoroutine") = false)(h3 : fn.body.isNone = true)(h4 : Extern.findNext fn = none)(h5 : Extern.find fn = some Extern.AbiNoEscape.same)
  (h:∀w',Hp w0 S L w'->W P n ops Q rest (upd F d v) w'):W P n ops Q (⟨some d,.call ⟨.value fo,azq,ats⟩,ty,pos,after,none⟩::rest) F w:=by
 have e1:=run_callFunc_extern (P:=P) h1 h2 h3 h4 (e:=Extern.AbiNoEscape.same) h5 (args:= #[v]) (w:=w);rw [run_noEscape]at e1;refine abn (v:=v) (w':=w) rfl rfl ?_ (h w hH);simp only [execOp,resolve,hf,Deferred.ofValue];show Sem.run P (callFunc f (#[]++azq.map (evn n F)++ #[])) w=_;rw [ha,e1];rfl
end
open Bool renaming and_eq_true -> zas
open List renaming replicate -> zag
open Nat renaming blt -> zay, lt_succ_self -> zad
open Option renaming map_some -> zaJ
def sval{α:Type}(P:Program):Sem α->Option α
 |.pure a=>some a
 |.program k=>sval P (k P)
 |.mark _ k=>sval P k
 |_=>none
theorem ajp{α:Type}{P:Program}:∀{s:Sem α} {a:α},sval P s=some a->∀w,s.run P w=.ok a w:=by
 intro s;induction s with
 |pure a=>intro b h w;simp only [sval,Option.some.injEq]at h;subst h;rfl
 |program k ih=>intro b h w;exact ih P h w
 |mark m k ih=>intro b h w;exact ih h w
 |_=>intro b h;simp [sval]at h
def pbin(b:BinOp)(x y:Value):Option Value:=
 match x,y with
 |.string s,.string t=>
  match b with
  |.eql=>some (.bool (decide (s.data.toList=t.data.toList)))
  |.neq=>some (.bool (!decide (s.data.toList=t.data.toList)))
  |.lss=>some (.bool (Op.bytesLess s.data.toList t.data.toList))
  |.gtr=>some (.bool (!(Op.bytesLess s.data.toList t.data.toList||s.data.toList==t.data.toList)))
  |_=>none
 |.int k a,.int k' c=>
  if k=k' then
   match b with
   |.lss=>some (.bool (decide (a<c)))
   |.leq=>some (.bool (decide (a<=c)))
   |.gtr=>some (.bool (decide (c<a)))
   |.geq=>some (.bool (decide (c<=a)))
   |.eql=>some (.bool (decide (a=c)))
   |.neq=>some (.bool (!decide (a=c)))
   |_=>none
  else none
 |_,_=>none
def isLen:Callee->Bool
 |.builtin .len=>true
 |_=>false
def plen(P:Program)(n:Md)(F:Nat->Value)(c:Call):Option Value:=
 bif isLen c.callee then
  match c.args.toList with
  |[x]=>match c.argTypes.toList with
   |[t]=>match P.underlying t with
    |some .string=>match evn n F x with|.string s=>some (.int .i64 (s.data.toList.length:Int))|_=>none
    |some (.slice _)=>match evn n F x with|.slice _ m _=>some (.int .i64 (m:Int))|_=>none
    |_=>none
   |_=>none
  |_=>none
 else none
def pval(P:Program)(n:Md)(F:Nat->Value)(o:Oper):Option Value:=
 match o.op with
 |.move x=>some (evn n F x)
 |.assign x=>some (evn n F x)
 |.pick c a b=>match evn n F c with|.bool t=>some (bif t then evn n F a else evn n F b)|_=>none
 |.unOp .not _ x=>match evn n F x with|.bool b=>some (.bool (!b))|_=>none
 |.extract x i=>match evn n F x with|.tuple vs=>vs[i]? |_=>none
 |.binOp b _ x y _=>pbin b (evn n F x) (evn n F y)
 |.call c=>plen P n F c
 |_=>match sval P (execOp (evn n F) o)with|some (.value v)=>some v|_=>none
section
variable {P : Program} {n : Md} {ops : Array Oper} {Q : Exit -> Act -> World -> Prop} {F : Nat -> Value} {w : World}
theorem ex_eq(ρ : Operand -> Value)(dst : Option Nat)(op : Op)(ty : TypeId)(pos : String)(after : Array Edge)(g : Option (Nat × Bool)) : execOp ρ ⟨dst, op, ty, pos, after, g⟩ = execOp ρ ⟨some 0, op, ty, "", #[], none⟩ := rfl
theorem pbin_run{b:BinOp}{t t':TypeId}{x y:Operand}{dst:Option Nat}{ty:TypeId}{pos:String}{after:Array Edge}{g:Option (Nat×Bool)}{v:Value}(h:pbin b (evn n F x) (evn n F y)=some v)(w:World):
  (execOp (evn n F) (⟨dst,.binOp b t x y t',ty,pos,after,g⟩:Oper)).run P w=.ok (.value v) w:=by
 rw [ex_eq];generalize hx:evn n F x=a at h;generalize hy:evn n F y=c at h;cases a with
 |string s=>
  cases c with
  |string t2=>
   have hx':evn n F x=str s.data.toList:=hx;have hy':evn n F y=str t2.data.toList:=hy;cases b<;>simp only [pbin,Option.some.injEq,reduceCtorEq]at h<;>subst h
   ·exact x_streq _ _ hx' hy'
   ·exact x_strne _ _ hx' hy'
   ·exact x_strlt _ _ hx' hy'
   ·exact x_strgt _ _ hx' hy'
  |_=>simp [pbin]at h
 |int k a=>
  cases c with
  |int k' c=>
   by_cases hk:k=k'
   ·subst hk;cases b<;>simp only [pbin,if_true,Option.some.injEq,reduceCtorEq]at h<;>subst h
    ·exact x_eql k _ _ hx hy
    ·exact x_neq k _ _ hx hy
    ·exact x_lss k _ _ hx hy
    ·exact x_leq k _ _ hx hy
    ·exact x_gtr k _ _ hx hy
    ·exact x_geq k _ _ hx hy
   ·simp [pbin,hk]at h
  |_=>simp [pbin]at h
 |_=>simp [pbin]at h
theorem plen_run{c:Call}{dst:Option Nat}{ty:TypeId}{pos:String}{after:Array Edge}{g:Option (Nat×Bool)}{v:Value}(h:plen P n F c=some v)(w:World):
  (execOp (evn n F) (⟨dst,.call c,ty,pos,after,g⟩:Oper)).run P w=.ok (.value v) w:=by
 rw [ex_eq];obtain⟨cl,azq,ts⟩:=c;unfold plen at h;cases hl:isLen cl with
 |false=>rw [hl]at h;cases h
 |true=>
  obtain rfl:cl=.builtin .len:=by
   unfold isLen at hl;split at hl
   ·rfl
   ·cases hl
  rw [hl]at h;simp only [cond_true]at h;obtain⟨azq⟩:=azq;obtain⟨ts⟩:=ts
  match azq,ts,h with
  |[x],[t],h=>
   dsimp only at h;split at h
   ·rename_i ht;split at h
    ·rename_i s hx;cases h
     exact x_len s.data.toList ht hx
    ·cases h
   ·rename_i e ht;split at h
    ·rename_i a m c hx;cases h
     exact x_lenS a m c e ht hx
    ·cases h
   ·cases h
  |[],_,h=>cases h
  |[_],[],h=>cases h
  |[_],_::_::_,h=>cases h
  |_::_::_,_,h=>cases h
theorem pval_run{o:Oper}{v:Value}(h:pval P n F o=some v)(w:World):(execOp (evn n F) o).run P w=.ok (.value v) w:=by
 obtain⟨dst,op,ty,pos,after,g⟩:=o;unfold pval at h;dsimp only at h;split at h
 ·cases h;rfl
 ·cases h;rfl
 ·rename_i c a b;rw [ex_eq];split at h
  ·rename_i t hc;cases h
   exact x_pick t _ hc rfl
  ·cases h
 ·rw [ex_eq];split at h
  ·rename_i b hx;cases h
   exact x_not b hx
  ·cases h
 ·rw [ex_eq];split at h
  ·rename_i vs hx;exact x_extract vs v hx h
  ·cases h
 ·exact pbin_run h w
 ·exact plen_run h w
 ·split at h
  ·rename_i v' hs;cases h
   exact ajp hs w
  ·cases h
def gof(ops:Array Oper)(g:Nat):Option Nat:=(ops[g]?).bind (·.dst)
def pvl(P:Program)(n:Md)(ops:Array Oper)(F:Nat->Value)(o:Oper):Value:=
 match o.guard with
 |none=>(pval P n F o).getD undef
 |some (g,b)=>match gof ops g with
  |none=>undef
  |some dg=>match F dg with
   |.bool c=>bif c==b then(pval P n F o).getD undef else undef
   |_=>undef
def pput(P:Program)(n:Md)(ops:Array Oper)(F:Nat->Value)(o:Oper):Nat->Value:=
 match o.dst with
 |none=>F
 |some d=>upd F d (pvl P n ops F o)
def isUndef:Value->Bool
 |.tuple vs=>vs.toList.isEmpty
 |_=>false
theorem isUndef_eq{v:Value}(h:isUndef v=true):v=undef:=by
 unfold isUndef at h;split at h
 ·rename_i vs;obtain⟨l⟩:=vs;cases l with
  |nil=>rfl
  |cons a l=>cases h
 ·cases h
def pok(P:Program)(n:Md)(ops:Array Oper)(F:Nat->Value)(o:Oper):Bool:=
 match o.dst with
 |none=>false
 |some d=>match o.guard with
  |none=>(pval P n F o).isSome
  |some (g,b)=>match gof ops g with
   |none=>false
   |some dg=>zay dg n.n&&match F dg with
    |.bool c=>bif c==b then(pval P n F o).isSome else true
    |v=>isUndef v
def pF(P:Program)(n:Md)(ops:Array Oper):Nat->List Oper->(Nat->Value)->Nat->Value
 |0,_,F=>F
 |_+1,[],F=>F
 |m+1,o::l,F=>pF P n ops m l (pput P n ops F o)
def pOK(P:Program)(n:Md)(ops:Array Oper):Nat->List Oper->(Nat->Value)->Bool
 |0,_,_=>true
 |_+1,[],_=>false
 |m+1,o::l,F=>pok P n ops F o&&pOK P n ops m l (pput P n ops F o)
theorem w_pok{o:Oper}{rest:List Oper}(hok:pok P n ops F o=true)(h:W P n ops Q rest (pput P n ops F o) w):W P n ops Q (o::rest) F w:=by
 obtain⟨dst,op,ty,pos,after,gd⟩:=o;cases dst with
 |none=>simp [pok]at hok
 |some d=>
  cases gd with
  |none=>
   simp only [pok]at hok;cases hv:pval P n F ⟨some d,op,ty,pos,after,none⟩with
   |none=>rw [hv]at hok;cases hok
   |some v=>
    simp only [pput,pvl,hv,Option.getD_some]at h;exact abn rfl rfl (pval_run hv w) h
  |some gb=>
   obtain⟨g,b⟩:=gb;simp only [pok]at hok;cases hg:gof ops g with
   |none=>rw [hg]at hok;cases hok
   |some dg=>
    rw [hg]at hok;simp only [zas]at hok;simp only [pput,pvl,hg]at h;cases hF:F dg with
    |bool c=>
     rw [hF]at hok h;cases hc:c==b with
     |true=>
      have hcb:c=b:=by simpa using hc
      subst hcb;simp only [hc,cond_true]at hok h;cases hv:pval P n F ⟨some d,op,ty,pos,after,some (g,c)⟩with
      |none=>rw [hv]at hok;exact absurd hok.2 (by simp)
      |some v=>
       rw [hv]at h;exact w_gyes dg hg hok.1 hF (abn rfl rfl (pval_run (o:=⟨some d,op,ty,pos,after,none⟩) hv w) h)
     |false=>
      have hcb:c= !b:=by cases c<;>cases b<;>simp_all
      subst hcb;simp only [hc,cond_false]at h;exact w_gno dg hg hok.1 hF h
    |tuple vs=>
     rw [hF]at hok h;have hu:F dg=undef:=by
      rw [hF];have h2:isUndef (.tuple vs)=true:=hok.2;exact isUndef_eq h2
     exact w_gun dg hg hok.1 hu h
    |_=>rw [hF]at hok;exact absurd hok.2 (by simp [isUndef])
theorem wp_aux:∀(m:Nat) (l:List Oper) (F:Nat->Value),pOK P n ops m l F=true->W P n ops Q (l.drop m) (pF P n ops m l F) w->W P n ops Q l F w
 |0,l,F,_,h=>h
 |m+1,[],F,hok,_=>by simp [pOK]at hok
 |m+1,o::l,F,hok,h=>by
  simp only [pOK,zas]at hok;exact w_pok hok.1 (wp_aux m l _ hok.2 h)
theorem wp{l:List Oper}(m:Nat)(h:W P n ops Q (l.drop m) (pF P n ops m l F) w)(hok:pOK P n ops m l F=true:=by kernel_rfl):W P n ops Q l F w:=wp_aux m l F hok h
theorem y_pok{kn:Nat}{kD:List Deferred}{o:Oper}(hok:pok P ⟨kn,kD,none⟩ ops F o=true):YieldsIf P ops (fun _=>True) o (pvl P ⟨kn,kD,none⟩ ops F o) (fr ⟨kn,kD,none⟩ F):=by
 obtain⟨dst,op,ty,pos,after,gd⟩:=o;cases dst with
 |none=>simp [pok]at hok
 |some d=>
  cases gd with
  |none=>
   simp only [pok]at hok;cases hv:pval P ⟨kn,kD,none⟩ F ⟨some d,op,ty,pos,after,none⟩with
   |none=>rw [hv]at hok;cases hok
   |some v=>
    simp only [pvl,hv,Option.getD_some];exact adv rfl fun w _=>pval_run hv w
  |some gb=>
   obtain⟨g,b⟩:=gb;simp only [pok]at hok;cases hg:gof ops g with
   |none=>rw [hg]at hok;cases hok
   |some dg=>
    rw [hg]at hok;simp only [zas]at hok;simp only [pvl,hg];cases hF:F dg with
    |bool c=>
     rw [hF]at hok;cases hc:c==b with
     |true=>
      have hcb:c=b:=by simpa using hc
      subst hcb;simp only [hc,cond_true]at hok⊢;cases hv:pval P ⟨kn,kD,none⟩ F ⟨some d,op,ty,pos,after,some (g,c)⟩with
      |none=>rw [hv]at hok;exact absurd hok.2 (by simp)
      |some v=>exact y_gyes dg hg hok.1 hF fun w _=>pval_run (o:=⟨some d,op,ty,pos,after,none⟩) hv w
     |false=>
      have hcb:c= !b:=by cases c<;>cases b<;>simp_all
      subst hcb;simp only [hc,cond_false];exact y_gno dg hg hok.1 hF
    |tuple vs=>
     rw [hF]at hok;have h2:isUndef (.tuple vs)=true:=hok.2;have hu:F dg=undef:=by rw [hF];exact isUndef_eq h2
     exact y_gun dg hg hok.1 hu
    |_=>rw [hF]at hok;exact absurd hok.2 (by simp [isUndef])
def rF(P:Program)(n:Md)(ops:Array Oper):List Nat->(Nat->Value)->Nat->Value
 |[],F=>F
 |i::is,F=>rF P n ops is (match ops[i]? with|some o=>pput P n ops F o|none=>F)
def rL:List Nat->List Bool->List Bool
 |[],l=>l
 |i::is,l=>rL is (l.set i true)
def rOK(P:Program)(n:Md)(ops:Array Oper)(k:Nat):List Nat->List Bool->(Nat->Value)->Bool
 |[],_,_=>true
 |i::is,l,F=>(match ops[i]? with|some o=>pok P n ops F o|none=>false)&&Region.free .any ops l.toArray i&&(Region.ready .any ops l.toArray).contains i&&zay i k&&
   rOK P n ops k is (l.set i true) (match ops[i]? with|some o=>pput P n ops F o|none=>F)
theorem rp_aux{kn:Nat}{kD:List Deferred}{S:Nat->World->World->Prop}{k f':Nat}(hs:aft ops k=true):∀(is:List Nat) (l:List Bool) (F:Nat->Value),rOK P ⟨kn,kD,none⟩ ops k is l F=true->
  R P ⟨kn,kD,none⟩ ops Q S k f' (rL is l) (rF P ⟨kn,kD,none⟩ ops is F) w->R P ⟨kn,kD,none⟩ ops Q S k (f'+is.length) l F w
 |[],l,F,_,h=>h
 |i::is,l,F,hok,h=>by
  simp only [rOK,zas]at hok;obtain⟨⟨⟨⟨h1,h2⟩,h3⟩,h4⟩,h5⟩:=hok;cases ho:ops[i]? with
  |none=>rw [ho]at h1;cases h1
  |some o=>
   rw [ho]at h1 h5;simp only [rL,rF,ho]at h;have hd:∃d,o.dst=some d:=by
    cases hd:o.dst with
    |none=>simp [pok,hd]at h1
    |some d=>exact⟨d,rfl⟩
   obtain⟨d,hd⟩:=hd;have e:pput P ⟨kn,kD,none⟩ ops F o=upd F d (pvl P ⟨kn,kD,none⟩ ops F o):=by simp [pput,hd]
   refine r_take _ i d (pvl P ⟨kn,kD,none⟩ ops F o) o ho hd hs h2 h3 h4 rfl (y_pok h1) ?_;rw [<-e];exact rp_aux hs is (l.set i true) (pput P ⟨kn,kD,none⟩ ops F o) h5 h
theorem rp{kn:Nat}{kD:List Deferred}{S:Nat->World->World->Prop}{k f:Nat}{l:List Bool}(f':Nat)(is:List Nat)(h:R P ⟨kn,kD,none⟩ ops Q S k f' (rL is l) (rF P ⟨kn,kD,none⟩ ops is F) w)
  (hf:f=f'+is.length:=by kernel_rfl) (hs:aft ops k=true:=by kernel_rfl) (hok:rOK P ⟨kn,kD,none⟩ ops k is l F=true:=by kernel_rfl):R P ⟨kn,kD,none⟩ ops Q S k f l F w:=by
 subst hf;exact rp_aux hs is l F hok h
theorem rt{kn:Nat}{kD:List Deferred}{S:Nat->World->World->Prop}{k f d:Nat}{l:List Bool}{o:Oper}(i:Nat)(v:Value)(ho:ops[i]? =some o)(hd:o.dst=some d)(hy:YieldsIf P ops (fun _=>True) o v (fr ⟨kn,kD,none⟩ F))
  (h:R P ⟨kn,kD,none⟩ ops Q S k f (l.set i true) (upd F d v) w) (hs:aft ops k=true:=by kernel_rfl) (hfree:Region.free .any ops l.toArray i=true:=by kernel_rfl)
  (hr:(Region.ready .any ops l.toArray).contains i=true:=by kernel_rfl) (hik:zay i k=true:=by kernel_rfl):R P ⟨kn,kD,none⟩ ops Q S k (f+1) l F w:=r_take _ i d v o ho hd hs hfree hr hik rfl hy h
theorem ro{kn:Nat}{kD:List Deferred}{S:Nat->World->World->Prop}{k f:Nat}{l:List Bool}{o:Oper}(i:Nat)(ho:ops[i]? =some o)(h:W P ⟨kn,kD,none⟩ ops (RK P ⟨kn,kD,none⟩ ops Q S k f (l.set i true) i w) [o] F w)
  (hr:Region.ready .any ops l.toArray=[i]:=by kernel_rfl) (hik:zay i k=true:=by kernel_rfl):R P ⟨kn,kD,none⟩ ops Q S k (f+1) l F w:=r_one1 _ i o ho hr hik rfl h
theorem cdr{kn:Nat}{kD:List Deferred}{w0:World}{S0:List Nat}{L:List Res}{id:Nat}{l:List Oper}(k:Nat)(hH:Hp w0 S0 L w)(hQ:NoP Q)
  (h:∀w',Hp w0 S0 L w'->R P ⟨kn,kD,none⟩ l.toArray Q (fun _ _ _=>True) k k (zag l.length false) F w') (hm:P.follows .mixedOrders=true:=by kernel_rfl) (hs:aft l.toArray k=true:=by kernel_rfl):
  C P ⟨kn,kD,none⟩ Q (.region id l.toArray true) F w:=afm k _ _ (fun _ _=>trivial) hm hs hH rfl hQ h
section
variable {α : Type} {c : Operand} {x y : Code} {p : Prop} {ip : Decidable p} {a b r : α} {t : Bool}
theorem cd(hr:(if p then a else b)=r)(ht:p->a=r->C P n Q x F w)(hf:¬p->b=r->C P n Q y F w)(hc:evn n F c=.bool (decide p):=by kernel_rfl):C P n Q (.cond c x y) F w:=
 c_dec hc (fun h=>ht h (ift h hr)) (fun h=>hf h (ifn h hr))
theorem cn(hr:(if p then a else b)=r)(ht:¬p->b=r->C P n Q x F w)(hf:p->a=r->C P n Q y F w)(hc:evn n F c=.bool (!decide p):=by kernel_rfl):C P n Q (.cond c x y) F w:=
 c_ndec hc (fun h=>ht h (ifn h hr)) (fun h=>hf h (ift h hr))
theorem cb(hr:cond t a b=r)(ht:t=true->a=r->C P n Q x F w)(hf:t=false->b=r->C P n Q y F w)(hc:evn n F c=.bool t:=by kernel_rfl):C P n Q (.cond c x y) F w:=
 c_bool hc (fun h=>ht h (cft h hr)) (fun h=>hf h (cff h hr))
variable {d : Nat} {ty : TypeId} {pos : String} {after : Array Edge} {rest : List Oper} {o : Operand}
theorem wd(hr:(if p then a else b)=r)(ht:p->a=r->W P n ops Q rest (upd F d (.bool true)) w)(hf:¬p->b=r->W P n ops Q rest (upd F d (.bool false)) w)(hc:evn n F o=.bool (decide p):=by kernel_rfl):W P n ops Q (⟨some d,.move o,ty,pos,after,none⟩::rest) F w:=
 w_move_dec p hc (fun h=>ht h (ift h hr)) (fun h=>hf h (ifn h hr))
theorem wn(hr:(if p then a else b)=r)(ht:¬p->b=r->W P n ops Q rest (upd F d (.bool true)) w)(hf:p->a=r->W P n ops Q rest (upd F d (.bool false)) w)(hc:evn n F o=.bool (!decide p):=by kernel_rfl):W P n ops Q (⟨some d,.move o,ty,pos,after,none⟩::rest) F w:=
 w_move_ndec p hc (fun h=>ht h (ifn h hr)) (fun h=>hf h (ift h hr))
theorem wb(hr:cond t a b=r)(ht:t=true->a=r->W P n ops Q rest (upd F d (.bool true)) w)(hf:t=false->b=r->W P n ops Q rest (upd F d (.bool false)) w)(hc:evn n F o=.bool t:=by kernel_rfl):W P n ops Q (⟨some d,.move o,ty,pos,after,none⟩::rest) F w:=
 w_move_bool t hc (fun h=>ht h (cft h hr)) (fun h=>hf h (cff h hr))
end
theorem cut0{x y:Code}{w0:World}{S:List Nat}{R:List Res}(hH:Hp w0 S R w)(lv:List Nat)(L:List (Nat×Value))
  (hx:C P n (Exit.then (fun a' w'=>∃F',a'=fr n F'/\lv.map F'=lv.map (app L F)/\Hp w0 S R w') Q) x F w)
  (hy:∀w G,Hp w0 S R w->C P n Q y (keepL lv (app L F) G) w):C P n Q (.seq x y) F w:=
 cut (σ:=Unit) lv (fun _=>L) (fun _ w'=>Hp w0 S R w') (c_mono hx fun e a w' h=>by
  cases e with
  |normal=>obtain⟨F',h1,h2,h3⟩:=h;exact⟨(),F',h1,h2,h3⟩
  |exit id=>exact h
  |goto l=>exact h
  |ret=>exact h
  |panic ch=>exact h
  |outgrown=>exact h) (fun _ w G h=>hy w G h)
theorem je{w0 w1:World}{S:List Nat}{R:List Res}{lv:List Nat}{A F':Nat->Value}(hH:Hp w0 S R w1)(h:lv.map F'=lv.map A:=by kernel_rfl):∃F'',fr n F'=fr n F''/\lv.map F''=lv.map A/\Hp w0 S R w1:=⟨_,rfl,h,hH⟩
theorem cut1{σ ρ:Type}{x y:Code}{w0:World}{S:List Nat}{R:List Res}(hH:Hp w0 S R w)(j:σ⊕ρ)(lv:List Nat)(L:σ->List (Nat×Value))
  (hx:C P n (Exit.then (fun a' w'=>∃s' F',a'=fr n F'/\lv.map F'=lv.map (app (L s') F)/\Hp w0 S R w'/\j=.inl s') Q) x F w)
  (hy:∀s w G,Hp w0 S R w->j=.inl s->C P n Q y (keepL lv (app (L s) F) G) w):C P n Q (.seq x y) F w:=
 cut lv L (fun s w'=>Hp w0 S R w'/\j=.inl s) hx (fun s w G h=>hy s w G h.1 h.2)
theorem je1{σ ρ:Type}{w0 w1:World}{S:List Nat}{R:List Res}{j:σ⊕ρ}{s:σ}{lv:List Nat}{A F':Nat->Value}{L:σ->List (Nat×Value)}(hj:j=.inl s)(hH:Hp w0 S R w1)(h:lv.map F'=lv.map (app (L s) A):=by kernel_rfl):
  ∃s' F'',fr n F'=fr n F''/\lv.map F''=lv.map (app (L s') A)/\Hp w0 S R w1/\j=.inl s':=⟨s,_,rfl,h,hH,hj⟩
theorem mc{A B:Nat->Value}{t:Nat}{lv:List Nat}(h:A t=B t)(h':lv.map A=lv.map B):(t::lv).map A=(t::lv).map B:=by simp [h,h']
theorem lpS{τ ρ:Type}{c:Code}{w0:World}{S:List Nat}{R:List Res}{r:ρ}{fu:Nat}(g:Nat->τ->Option ρ)(s0:τ)(hH:Hp w0 S R w)(hr:g fu s0=some r)(lv:List Nat)(L:τ->List (Nat×Value))(g0:∀s,g 0 s=none)
  (round:∀fk s w G,Hp w0 S R w->g (fk+1) s=some r->C P n (Exit.then (fun a' w'=>∃s' F',a'=fr n F'/\lv.map F'=lv.map (app (L s') F)/\Hp w0 S R w'/\g fk s'=some r) Q) c (keepL lv (app (L s) F) G) w)
  (h0:lv.map F=lv.map (app (L s0) F):=by kernel_rfl):C P n Q (.loop c) F w:=by
 refine lpG (σ:=Nat×τ) lv (fun s=>L s.2) (fun s w'=>Hp w0 S R w'/\g s.1 s.2=some r) (fun s=>s.1) (fu,s0) ⟨hH,hr⟩ (fun s w G h=> ?_) h0;obtain⟨fk,s⟩:=s;obtain⟨h1,h2⟩:=h;cases fk with
 |zero=>rw [g0]at h2;cases h2
 |succ fk=>
  refine c_mono (round fk s w G h1 h2) fun e a w' h=> ?_
  cases e with
  |normal=>
   obtain⟨s',F',h1,h2,h3,h4⟩:=h;exact⟨(fk,s'),F',h1,h2,⟨h3,h4⟩,zad _⟩
  |exit id=>exact h
  |goto l=>exact h
  |ret=>exact h
  |panic ch=>exact h
  |outgrown=>exact h
theorem le'{τ ρ:Type}{w0 w1:World}{S:List Nat}{R:List Res}{r:ρ}{lv:List Nat}{A F':Nat->Value}{L:τ->List (Nat×Value)}{g:τ->Option ρ}(s:τ)(hH:Hp w0 S R w1)(hr:g s=some r)(h:lv.map F'=lv.map (app (L s) A):=by kernel_rfl):
  ∃s' F'',fr n F'=fr n F''/\lv.map F''=lv.map (app (L s') A)/\Hp w0 S R w1/\g s'=some r:=⟨s,_,rfl,h,hH,hr⟩
theorem Hp.kp{w0 w:World}{S:List Nat}{L L1:List Res}(h:Hp w0 S L w)(hL:L.take L1.length=L1:=by kernel_rfl):Hp w0 S L1 w:=h.sub (by rw [<-hL];exact List.take_sublist _ _)
theorem oi{α:Type}{a b:α}(h:some a=some b):a=b:=Option.some.inj h
section
variable {d : Nat} {ty : TypeId} {pos : String} {after : Array Edge} {rest : List Oper} {w0 : World} {S : List Nat} {L : List Res}
theorem wc{fo:Operand}{azq:Array Operand}{ats:Array TypeId}{f:FuncId}{vs:List Value}{V:Value}(hE:Enters P f)(hH:Hp w0 S L w)(hc:CR P f vs w fun v w'=>v=V/\Hp w [] [] w')
  (h:∀w',Hp w0 S L w'->W P n ops Q rest (upd F d V) w') (hf:evn n F fo=.func (.func f) #[] #[]:=by kernel_rfl) (ha: #[]++azq.map (evn n F)++ #[]=vs.toArray:=by kernel_rfl):
  W P n ops Q (⟨some d,.call ⟨.value fo,azq,ats⟩,ty,pos,after,none⟩::rest) F w:=by
 refine abo f #[] vs _ hE hf ha hc ?_;rintro _ w' ⟨rfl,hq⟩
 exact h w' (hH.call hq)
end
def rone(n:Md)(F:Nat->Value):ResultVar->Value
 |.tmp t=>evn n F (.tmp t)
 |.cell _ _=>undef
def rval(n:Md)(F:Nat->Value)(fn:Func):Value:=
 match fn.results.toList.map (rone n F)with
 |[u]=>u
 |us=>.tuple us.toArray
def allTmp(fn:Func):Bool:=fn.results.toList.all fun|.tmp _=>true|.cell _ _=>false
theorem rx_aux{kk:Nat}{ro:Option (Option Nat)}{fn:Func}(h:allTmp fn=true):(results fn (fr ⟨kk,[],ro⟩ F).tmps).run P w=.ok (rval ⟨kk,[],ro⟩ F fn) w:=by
 have key:∀vs:List Value,vs=fn.results.toList.map (rone ⟨kk,[],none⟩ F)->(results fn (fr ⟨kk,[],none⟩ F).tmps).run P w=.ok (match vs with|[u]=>u|us=>.tuple us.toArray) w:=by
  intro vs e;refine results_run (kk:=kk) (F:=F) fn.results.toList vs rfl (by simp [e]) ?_ _ (by cases vs with|nil=>rfl|cons a azq=>cases azq<;>rfl);intro i x v hx hv;subst e;simp only [List.getElem?_map,hx,zaJ,Option.some.injEq]at hv
  have:=List.all_eq_true.1 h x (List.mem_of_getElem? hx)
  cases x with
  |tmp t=>exact rok_tmp hv
  |cell a t=>cases this
 exact key _ rfl
theorem rx{kk:Nat}{ro:Option (Option Nat)}{fn:Func}{R:Value->World->Prop}(h:R (rval ⟨kk,[],ro⟩ F fn) w)(ha:allTmp fn=true:=by kernel_rfl):
  bodyPost P fn (fun e w'=>∃v,e=.returned v/\R v w') .ret (fr ⟨kk,[],ro⟩ F) w:=⟨rfl,_,rx_aux ha,_,rfl,h⟩
theorem rv{kk:Nat}{ro:Option (Option Nat)}{fn:Func}{V:Value}{w0:World}{S:List Nat}{L:List Res}(h:Hp w0 S L w)(hv:rval ⟨kk,[],ro⟩ F fn=V:=by kernel_rfl)(ha:allTmp fn=true:=by kernel_rfl):
  bodyPost P fn (fun e w'=>∃v,e=.returned v/\v=V/\Hp w0 S L w') .ret (fr ⟨kk,[],ro⟩ F) w:=rx ⟨hv,h⟩ ha
theorem bi{α β:Type}{o:Option α}{f:α->Option β}{r:β}{g:Prop}(h:o.bind f=some r)(k:∀y,o=some y->f y=some r->g):g:=let ⟨y,a,b⟩:=bind_inv h;k y a b
theorem gi{α:Type}{p:Prop}{ip:Decidable p}{o:Option α}{r:α}{g:Prop}(h:gd p o=some r)(k:p->o=some r->g):g:=let ⟨a,b⟩:=gd_inv h;k a b
theorem cs{x y:Code}(h:C P n (SeqQ P n y Q) x F w):C P n Q (.seq x y) F w:=ael h
theorem cr{id:Nat}{l:List Oper}(h:W P n l.toArray Q l F w):C P n Q (.region id l.toArray false) F w:=abg h
theorem wl(h:Q .normal (fr n F) w):W P n ops Q [] F w:=aeo h
theorem qn{k k':Nat}{D D':List Deferred}{ro:Option (Option Nat)}{y:Code}(h:C P ⟨k,D,ro⟩ Q y F w):SeqQ P ⟨k',D',ro⟩ y Q .normal (fr ⟨k,D,ro⟩ F) w:=acg h
theorem ct(h:Q .ret (fr n F) w):C P n Q .ret F w:=c_ret h
theorem ck(h:Q .normal (fr n F) w):C P n Q .skip F w:=c_skip h
theorem ce{id:Nat}{c:Code}(h:C P n (Exit.inBlock id Q) c F w):C P n Q (.block id c) F w:=c_block h
theorem ql{K:Act->World->Prop}(h:K (fr n F) w):Exit.then K Q .normal (fr n F) w:=h
theorem st{m:Md}{y:Code}(h:Q .ret (fr n F) w):SeqQ P m y Q .ret (fr n F) w:=s_ret h
theorem bt_{id:Nat}(h:Q .ret (fr n F) w):Exit.inBlock id Q .ret (fr n F) w:=h
theorem bn{id:Nat}(h:Q .normal (fr n F) w):Exit.inBlock id Q .normal (fr n F) w:=h
theorem gy{dst:Option Nat}{op:Op}{ty:TypeId}{pos:String}{after:Array Edge}{g:Nat}{b:Bool}{rest:List Oper}(dg:Nat)(h:W P n ops Q (⟨dst,op,ty,pos,after,none⟩::rest) F w)
  (h1:(ops[g]?).bind (·.dst)=some dg:=by kernel_rfl) (h3:zay dg n.n=true:=by kernel_rfl) (hv:F dg=.bool b:=by kernel_rfl):W P n ops Q (⟨dst,op,ty,pos,after,some (g,b)⟩::rest) F w:=w_gyes dg h1 h3 hv h
theorem sr{y:Code}{id:Nat}{l:List Oper}(h:W P n l.toArray (SeqQ P n y Q) l F w):C P n Q (.seq (.region id l.toArray false) y) F w:=ael (abg h)
theorem nq{k k':Nat}{D D':List Deferred}{ro:Option (Option Nat)}{y:Code}(h:C P ⟨k,D,ro⟩ Q y F w):W P ⟨k,D,ro⟩ ops (SeqQ P ⟨k',D',ro⟩ y Q) [] F w:=aeo (acg h)
end
open Bool renaming and_eq_true -> zas
open List renaming append_nil -> zaS, filter_cons -> zaH, foldr_cons -> zbm, length_cons -> zaf, length_map -> zax, map_cons -> zao, mem_cons_of_mem -> zat, mem_cons_self -> zav
open Nat renaming add -> zaN, beq -> zai, blt -> zay, eq_of_beq_eq_true -> zaU
abbrev Al:=Nat×Nat×List Value×TypeId
def alP(b:Nat):Value:=.pointer (some ⟨b,0,none⟩)
def alF(s:Nat->Option Nat)(azq:List Al)(X:Nat->Value):Nat->Value:=fun t=>azq.foldr (fun a r=>bif zai t a.2.1 then(s a.1).elim (X t) alP else r) (X t)
def alR(s:Nat->Option Nat):List Al->List Res
 |[]=>[]
 |a::azq=>((s a.1).elim [] fun b=>[blk b a.2.2.1 a.2.2.2])++alR s azq
def alD(s:Nat->Option Nat)(azq:List Al):List Nat:=(azq.filter fun a=>(s a.1).isSome).map (·.1)
def alN(s:Nat->Option Nat)(azq:List Al):Nat:=(azq.filter fun a=>(s a.1).isNone).length
def alS(ls:List Bool)(ds:List Nat):List Bool:=ds.foldl (fun l i=>l.set i true) ls
def alU(s:Nat->Option Nat)(i b:Nat):Nat->Option Nat:=fun j=>bif zai j i then some b else s j
def alB:List Nat->List (List Nat)
 |[]=>[[]]
 |a::l=>alB l++(alB l).map (a::·)
theorem al_rf(n:Nat):zai n n=true:=Nat.beq_refl n
theorem al_ne{n m:Nat}(h:n≠m):zai n m=false:=by
 cases e:zai n m with
 |false=>rfl
 |true=>exact absurd (zaU e) h
theorem alB_mem(p:Al->Bool):∀azq:List Al,(azq.filter p).map (·.1)∈alB (azq.map (·.1))
 |[]=>by simp [alB]
 |a::azq=>by
  have ih:=alB_mem p azq;rw [zaH,zao,alB];by_cases h:p a=true
  ·rw [if_pos h,zao];exact List.mem_append_right _ (List.mem_map_of_mem ih)
  ·rw [if_neg h];exact List.mem_append_left _ ih
theorem alS_len(ds:List Nat):∀ls:List Bool,(alS ls ds).length=ls.length:=by
 induction ds with
 |nil=>intro ls;rfl
 |cons d ds ih=>intro ls;show(alS (ls.set d true) ds).length=_;rw [ih,List.length_set]
theorem alS_at(ds:List Nat):∀(ls:List Bool) (j:Nat),(alS ls ds)[j]? =if j∈ds/\j<ls.length then some true else ls[j]? :=by
 induction ds with
 |nil=>intro ls j;simp [alS]
 |cons d ds ih=>
  intro ls j
  show(alS (ls.set d true) ds)[j]? =_
  rw [ih,List.length_set,List.getElem?_set];by_cases hl:j<ls.length
  ·by_cases hd:d=j
   ·subst hd;simp [hl]
   ·have:¬j=d:=fun h=>hd h.symm
    simp [hl,hd,this]
  ·have h0:ls[j]? =none:=List.getElem?_eq_none (by omega);by_cases hd:d=j
   ·subst hd;simp [hl]
   ·simp [hl,hd,h0]
theorem alS_eq{ls:List Bool}{d e:List Nat}(h:∀j,j∈d↔j∈e):alS ls d=alS ls e:=by
 apply List.ext_getElem?
 intro j;rw [alS_at,alS_at];simp only [h j]
theorem alS_set(ls:List Bool)(ds:List Nat)(i:Nat):(alS ls ds).set i true=alS ls (i::ds):=by
 apply List.ext_getElem?
 intro j;rw [List.getElem?_set,alS_at,alS_at,alS_len];by_cases h:i=j
 ·subst h;by_cases hl:i<ls.length
  ·simp [hl]
  ·have h0:ls[i]? =none:=List.getElem?_eq_none (by omega);simp [hl]
 ·have:¬j=i:=fun h'=>h h'.symm
  simp [h,this]
theorem alS_pre(ls:List Bool)(ds:List Nat)(i:Nat):(alS ls ds).set i true=alS (ls.set i true) ds:=alS_set ls ds i
theorem mem_alD{s:Nat->Option Nat}{azq:List Al}{j:Nat}:j∈alD s azq↔∃a∈azq,a.1=j/\(s j).isSome=true:=by
 unfold alD;constructor
 ·intro h;obtain⟨a,ha,rfl⟩:=List.mem_map.1 h;obtain⟨h1,h2⟩:=List.mem_filter.1 ha;exact⟨a,h1,rfl,h2⟩
 ·rintro⟨a,ha,rfl,h⟩
  exact List.mem_map.2 ⟨a,List.mem_filter.2 ⟨ha,h⟩,rfl⟩
theorem alD_up{s:Nat->Option Nat}{azq:List Al}{a:Al}{b:Nat}(ha:a∈azq)(j:Nat):j∈alD (alU s a.1 b) azq↔j∈a.1::alD s azq:=by
 rw [mem_alD,List.mem_cons,mem_alD];unfold alU;constructor
 ·rintro⟨x,hx,rfl,h⟩
  by_cases e:x.1=a.1
  ·exact .inl e
  ·rw [al_ne e]at h;exact .inr ⟨x,hx,rfl,h⟩
 ·rintro(rfl|⟨x,hx,rfl,h⟩)
  ·exact⟨a,ha,rfl,by rw [al_rf];rfl⟩
  ·refine⟨x,hx,rfl, ?_⟩
   by_cases e:x.1=a.1
   ·rw [e,al_rf];rfl
   ·rw [al_ne e];exact h
theorem al_off{s:Nat->Option Nat}{i b:Nat}:∀{azq:List Al},(∀a∈azq,a.1≠i)->(∀X,alF (alU s i b) azq X=alF s azq X)/\alR (alU s i b) azq=alR s azq/\alN (alU s i b) azq=alN s azq:=by
 intro azq h;have hs:∀a∈azq,alU s i b a.1=s a.1:=fun a ha=>by unfold alU;rw [al_ne (h a ha)];rfl
 clear h;induction azq with
 |nil=>exact⟨fun _=>rfl,rfl,rfl⟩
 |cons a azq ih=>
  obtain⟨h1,h2,h3⟩:=ih fun x hx=>hs x (zat _ hx)
  have h4:=hs a zav;refine⟨fun X=> ?_, ?_, ?_⟩
  ·funext t
   have:=congrFun (h1 X) t
   unfold alF at this⊢;rw [zbm,zbm,h4,this]
  ·unfold alR;rw [h4,h2]
  ·unfold alN at h3⊢;rw [zaH,zaH,h4];split<;>simp [h3]
theorem al_on{s:Nat->Option Nat}{b:Nat}{a:Al}:∀{azq:List Al},(azq.map (·.1)).Nodup->(azq.map (·.2.1)).Nodup->a∈azq->s a.1=none->
  (∀X,upd (alF s azq X) a.2.1 (alP b)=alF (alU s a.1 b) azq X)/\(blk b a.2.2.1 a.2.2.2::alR s azq).Perm (alR (alU s a.1 b) azq)/\alN s azq=alN (alU s a.1 b) azq+1:=by
 intro azq;induction azq with
 |nil=>intro _ _ h;cases h
 |cons x azq ih=>
  intro hn hm ha hs;rw [zao,List.nodup_cons]at hn hm;by_cases hx:a=x
  ·subst hx;have hoff:∀y∈azq,y.1≠a.1:=fun y hy e=>hn.1 (List.mem_map.2 ⟨y,hy,e⟩)
   have hof2:∀y∈azq,y.2.1≠a.2.1:=fun y hy e=>hm.1 (List.mem_map.2 ⟨y,hy,e⟩)
   obtain⟨h1,h2,h3⟩:=al_off (s:=s) (b:=b) hoff;have hsu:alU s a.1 b a.1=some b:=by unfold alU;rw [al_rf];rfl
   refine⟨fun X=> ?_, ?_, ?_⟩
   ·funext t
    have:=congrFun (h1 X) t
    unfold alF at this;unfold upd alF;rw [zbm,zbm,hsu,hs,this];cases zai t a.2.1<;>rfl
   ·show List.Perm _ (((alU s a.1 b a.1).elim [] fun b=>[blk b a.2.2.1 a.2.2.2])++alR (alU s a.1 b) azq);rw [hsu,h2];show List.Perm (_::(((s a.1).elim [] fun b=>[blk b a.2.2.1 a.2.2.2])++alR s azq)) _;rw [hs];exact List.Perm.refl _
   ·unfold alN at h3⊢;rw [zaH,zaH,hsu,hs];simp [h3]
  ·have ha':a∈azq:=(List.mem_cons.1 ha).resolve_left hx;obtain⟨h1,h2,h3⟩:=ih hn.2 hm.2 ha' hs;have hne:x.1≠a.1:=fun e=>hn.1 (List.mem_map.2 ⟨a,ha',e.symm⟩)
   have hne2:x.2.1≠a.2.1:=fun e=>hm.1 (List.mem_map.2 ⟨a,ha',e.symm⟩)
   have hsu:alU s a.1 b x.1=s x.1:=by unfold alU;rw [al_ne hne];rfl
   refine⟨fun X=> ?_, ?_, ?_⟩
   ·funext t
    have:=congrFun (h1 X) t
    unfold alF upd at this;unfold upd alF;rw [zbm,zbm,hsu,<-this];by_cases e:t=a.2.1
    ·subst e;rw [al_rf,al_ne (fun e=>hne2 e.symm)];rfl
    ·rw [al_ne e];rfl
   ·show List.Perm _ (((alU s a.1 b x.1).elim [] fun b=>[blk b x.2.2.1 x.2.2.2])++alR (alU s a.1 b) azq);rw [hsu];show List.Perm (_::(((s x.1).elim [] fun b=>[blk b x.2.2.1 x.2.2.2])++alR s azq)) _;exact(List.perm_middle.symm).trans (List.Perm.append_left _ h2)
   ·unfold alN at h3⊢;rw [zaH,zaH,hsu];split<;>simp [h3]
theorem upd_alF{s:Nat->Option Nat}{X:Nat->Value}{d:Nat}{v:Value}:∀(azq:List Al),azq.all (fun a=> !zai d a.2.1)=true->upd (alF s azq X) d v=alF s azq (upd X d v):=by
 intro azq;induction azq with
 |nil=>intro _;rfl
 |cons a azq ih=>
  intro h;rw [List.all_cons,zas]at h
  funext t
  have:=congrFun (ih h.2) t
  unfold upd alF at*;rw [zbm,zbm];have hd:¬d=a.2.1:=by
   intro e;have h1:=h.1;rw [e,al_rf]at h1;cases h1
  by_cases e:t=d
  ·subst e;rw [al_rf]at this⊢;rw [al_ne hd];exact this
  ·rw [al_ne e]at this⊢
   show(bif zai t a.2.1 then _ else _)=_
   cases zai t a.2.1 with
   |true=>simp [al_ne e]
   |false=>exact this
def alK(ops:Array Oper)(k:Nat)(azq:List Al)(ls:List Bool)(c:Option Nat):Bool:=
 (alB (azq.map (·.1))).all (fun ds=>let r:=Region.ready .any ops (alS ls ds).toArray
  (c.isNone&&ds.length==azq.length)||(!r.isEmpty&&r.all fun j=>(c==some j)||((azq.map (·.1)).contains j&& !ds.contains j)))&&
 azq.all (fun a=>zay a.1 k)&&(c.elim true fun c=>zay c k)&&decide ((azq.map (·.1)).Nodup)&&decide ((azq.map (·.2.1)).Nodup)
section
variable {P : Program} {kn : Nat} {kD : List Deferred} {ops : Array Oper} {Q : Exit -> Act -> World -> Prop} {S : Nat -> World -> World -> Prop} {k : Nat} {w0 : World} {S0 : List Nat} {L : List Res} {X : Nat -> Value} {w : World}
theorem alK_at{azq:List Al}{ls:List Bool}{c:Option Nat}(h:alK ops k azq ls c=true):(∀s:Nat->Option Nat,c.isSome=true\/alN s azq≠0->
  Region.ready .any ops (alS ls (alD s azq)).toArray≠[]/\∀j∈Region.ready .any ops (alS ls (alD s azq)).toArray,c=some j\/∃a∈azq,a.1=j/\s j=none)/\
  (∀a∈azq,a.1<k)/\(∀x,c=some x->x<k)/\(azq.map (·.1)).Nodup/\(azq.map (·.2.1)).Nodup:=by
 unfold alK at h;simp only [zas,decide_eq_true_eq]at h;obtain⟨⟨⟨⟨h1,h2⟩,h3⟩,h4⟩,h5⟩:=h;refine⟨fun s hc=> ?_,fun a ha=>by simpa [Nat.blt_eq] using List.all_eq_true.1 h2 a ha,fun x hx=>by subst hx;simpa [Nat.blt_eq] using h3,h4,h5⟩
 have h6:=List.all_eq_true.1 h1 (alD s azq) (alB_mem _ azq);simp only [zas,Bool.or_eq_true]at h6;have h6:(!(Region.ready .any ops (alS ls (alD s azq)).toArray).isEmpty)=true/\((Region.ready .any ops (alS ls (alD s azq)).toArray).all fun j=>(c==some j)||((azq.map (·.1)).contains j&& !(alD s azq).contains j))=true:=by
  rcases h6 with⟨h7,h8⟩|h6
  ·exfalso;have hc':c.isSome=false:=by rw [Option.isNone_iff_eq_none]at h7;rw [h7];rfl
   rcases hc with hc|hc
   ·rw [hc']at hc;cases hc
   ·apply hc
    have h8':(alD s azq).length=azq.length:=by simpa using h8
    unfold alD at h8';rw [zax]at h8';have h10:=List.filter_sublist (p:=fun a=>(s a.1).isSome) (l:=azq)|>.eq_of_length h8'
    unfold alN;rw [List.length_eq_zero_iff,List.filter_eq_nil_iff];intro a ha;rw [<-h10]at ha
    have:=(List.mem_filter.1 ha).2
    simp only [Option.isSome_iff_exists]at this;obtain⟨b,hb⟩:=this;simp [hb]
  ·exact h6
 obtain⟨h8,h9⟩:=h6;refine⟨fun e=> ?_,fun j hj=> ?_⟩
 ·rw [e]at h8;cases h8
 ·have h10:=List.all_eq_true.1 h9 j hj;rw [Bool.or_eq_true]at h10;rcases h10 with h10|h10
  ·exact .inl (by simpa using h10)
  ·rw [zas]at h10;obtain⟨h11,h12⟩:=h10;have h11':j∈azq.map (·.1):=by simpa using h11
   obtain⟨a,ha,rfl⟩:=List.mem_map.1 h11';refine .inr ⟨a,ha,rfl, ?_⟩;cases hs:s a.1 with
   |none=>rfl
   |some b=>
    have:a.1∈alD s azq:=mem_alD.2 ⟨a,ha,rfl,by rw [hs];rfl⟩
    simp [this]at h12
theorem r_al(azq:List Al)(ls:List Bool)(c:Nat)(o:Oper)(g:Nat)(ho:ops[c]? =some o)(hk:alK ops k azq ls (some c)=true)
  (hA:∀a∈azq,∃o,ops[a.1]? =some o/\o.guard=none/\o.dst=some a.2.1/\∀F w,(execOp (evn ⟨kn,kD,none⟩ F) o).run P w=.ok (.value (alP w.heap.size)) (w.alloc (.cells a.2.2.1.toArray a.2.2.2 (0,0))))
  (hS:∀a∈azq,∀s w w',Hp w0 S0 (L++alR s azq) w'->S a.1 w w')
  (hC:∀s w,Hp w0 S0 (L++alR s azq) w->W P ⟨kn,kD,none⟩ ops (RK P ⟨kn,kD,none⟩ ops Q S k (g+alN s azq) (alS (ls.set c true) (alD s azq)) c w) [o] (alF s azq X) w):
  ∀s w,Hp w0 S0 (L++alR s azq) w->R P ⟨kn,kD,none⟩ ops Q S k (g+1+alN s azq) (alS ls (alD s azq)) (alF s azq X) w:=by
 obtain⟨h1,h2,h3,h4,h5⟩:=alK_at hk;have main:∀n s w,alN s azq=n->Hp w0 S0 (L++alR s azq) w->R P ⟨kn,kD,none⟩ ops Q S k (g+1+alN s azq) (alS ls (alD s azq)) (alF s azq X) w:=by
  intro n;induction n with
  |zero=>
   intro s w hn hH;obtain⟨h6,h7⟩:=h1 s (.inl rfl);have hCs:=hC s w hH;rw [hn]at hCs⊢;unfold R;intro inv hrefl hQ;refine⟨fun e=>absurd e h6,fun j hj=> ?_⟩
   rcases h7 j hj with h8|⟨a,ha,rfl,h8⟩
   ·cases h8
    exact r_step _ c o ho (alS_pre ls (alD s azq) c) inv hrefl hQ hj (h3 c rfl) hCs
   ·have:=(al_on (b:=0) h4 h5 ha h8).2.2
    omega
  |succ n ih=>
   intro s w hn hH;obtain⟨h6,h7⟩:=h1 s (.inl rfl);have hCs:=hC s w hH;have e0:g+(n+1)=zaN (g+1) n:=by show g+(n+1)=g+1+n;omega
   rw [hn]at hCs⊢;rw [e0]at hCs;unfold R;intro inv hrefl hQ;refine⟨fun e=>absurd e h6,fun j hj=> ?_⟩
   rcases h7 j hj with h8|⟨a,ha,rfl,h8⟩
   ·cases h8
    exact r_step _ c o ho (alS_pre ls (alD s azq) c) inv hrefl hQ hj (h3 c rfl) hCs
   ·obtain⟨o',ho',hg,hd,hrun⟩:=hA a ha;refine r_step _ a.1 o' ho' (alS_set ls (alD s azq) a.1) inv hrefl hQ hj (h2 a ha) ?_;refine abn hg hd (hrun _ w) ?_;obtain⟨h9,h10,h11⟩:=al_on (b:=w.heap.size) h4 h5 ha h8;have hH':Hp w0 S0 (L++alR (alU s a.1 w.heap.size) azq) (w.alloc (.cells a.2.2.1.toArray a.2.2.2 (0,0))):=
     (hH.alloc a.2.2.1 a.2.2.2).perm ((List.perm_middle.symm).trans (List.Perm.append_left _ h10))
    refine aeo ?_;refine age (hS a ha _ w _ hH') ?_;rw [h9,alS_eq (fun j=>(alD_up (s:=s) (b:=w.heap.size) ha j).symm)];have h12:=ih (alU s a.1 w.heap.size) _ (by omega) hH';rw [show alN (alU s a.1 w.heap.size) azq=n by omega]at h12;exact h12
 exact fun s w hH=>main _ s w rfl hH
theorem r_alE(azq:List Al)(ls:List Bool)(g:Nat)(hk:alK ops k azq ls none=true)
  (hA:∀a∈azq,∃o,ops[a.1]? =some o/\o.guard=none/\o.dst=some a.2.1/\∀F w,(execOp (evn ⟨kn,kD,none⟩ F) o).run P w=.ok (.value (alP w.heap.size)) (w.alloc (.cells a.2.2.1.toArray a.2.2.2 (0,0))))
  (hS:∀a∈azq,∀s w w',Hp w0 S0 (L++alR s azq) w'->S a.1 w w')
  (hE:∀s w,alN s azq=0->Hp w0 S0 (L++alR s azq) w->R P ⟨kn,kD,none⟩ ops Q S k g (alS ls (alD s azq)) (alF s azq X) w):
  ∀s w,Hp w0 S0 (L++alR s azq) w->R P ⟨kn,kD,none⟩ ops Q S k (g+alN s azq) (alS ls (alD s azq)) (alF s azq X) w:=by
 obtain⟨h1,h2,h3,h4,h5⟩:=alK_at hk;have main:∀n s w,alN s azq=n->Hp w0 S0 (L++alR s azq) w->R P ⟨kn,kD,none⟩ ops Q S k (g+alN s azq) (alS ls (alD s azq)) (alF s azq X) w:=by
  intro n;induction n with
  |zero=>
   intro s w hn hH;rw [hn];exact hE s w hn hH
  |succ n ih=>
   intro s w hn hH;obtain⟨h6,h7⟩:=h1 s (.inr (by omega));rw [hn];unfold R;intro inv hrefl hQ;refine⟨fun e=>absurd e h6,fun j hj=> ?_⟩
   rcases h7 j hj with h8|⟨a,ha,rfl,h8⟩
   ·cases h8
   ·obtain⟨o',ho',hg,hd,hrun⟩:=hA a ha;refine r_step _ a.1 o' ho' (alS_set ls (alD s azq) a.1) inv hrefl hQ hj (h2 a ha) ?_;refine abn hg hd (hrun _ w) ?_;obtain⟨h9,h10,h11⟩:=al_on (b:=w.heap.size) h4 h5 ha h8;have hH':Hp w0 S0 (L++alR (alU s a.1 w.heap.size) azq) (w.alloc (.cells a.2.2.1.toArray a.2.2.2 (0,0))):=
     (hH.alloc a.2.2.1 a.2.2.2).perm ((List.perm_middle.symm).trans (List.Perm.append_left _ h10))
    refine aeo ?_;refine age (hS a ha _ w _ hH') ?_;rw [h9,alS_eq (fun j=>(alD_up (s:=s) (b:=w.heap.size) ha j).symm)];have h12:=ih (alU s a.1 w.heap.size) _ (by omega) hH';rw [show alN (alU s a.1 w.heap.size) azq=n by omega]at h12;exact h12
 exact fun s w hH=>main _ s w rfl hH
theorem none_al(azq:List Al):(∀X,alF (fun _=>none) azq X=X)/\alR (fun _=>none) azq=[]/\alD (fun _=>none) azq=[]/\alN (fun _=>none) azq=azq.length:=by
 induction azq with
 |nil=>exact⟨fun _=>rfl,rfl,rfl,rfl⟩
 |cons a azq ih=>
  obtain⟨h1,h2,h3,h4⟩:=ih;refine⟨fun X=> ?_, ?_, ?_, ?_⟩
  ·funext t
   have:=congrFun (h1 X) t
   unfold alF at*;rw [zbm,this];cases zai t a.2.1<;>rfl
  ·unfold alR;rw [h2];rfl
  ·unfold alD at*;rw [zaH];exact h3
  ·unfold alN at*;rw [zaH];simp only [Option.isNone_none,if_true,zaf]at*;omega
theorem al_start{f:Nat}{ls:List Bool}(azq:List Al)(g:Nat)(hH:Hp w0 S0 L w)(hf:f=g+azq.length)
  (h:∀s w,Hp w0 S0 (L++alR s azq) w->R P ⟨kn,kD,none⟩ ops Q S k (g+alN s azq) (alS ls (alD s azq)) (alF s azq X) w):R P ⟨kn,kD,none⟩ ops Q S k f ls X w:=by
 obtain⟨h1,h2,h3,h4⟩:=none_al azq;have h5:=h (fun _=>none) w (by rw [h2,zaS];exact hH);rw [h1,h3,h4,<-hf]at h5;exact h5
def alW:List Nat->List Al->List Res
 |b::bs,a::azq=>blk b a.2.2.1 a.2.2.2::alW bs azq
 |_,_=>[]
def alV:List Nat->List Al->(Nat->Value)->Nat->Value
 |b::bs,a::azq,X=>upd (alV bs azq X) a.2.1 (alP b)
 |_,_,X=>X
theorem al_all{s:Nat->Option Nat}:∀{azq:List Al},alN s azq=0->∃bs:List Nat,bs.length=azq.length/\alR s azq=alW bs azq/\(∀X,alF s azq X=alV bs azq X)/\alD s azq=azq.map (·.1):=by
 intro azq;induction azq with
 |nil=>intro _;exact⟨[],rfl,rfl,fun _=>rfl,rfl⟩
 |cons a azq ih=>
  intro h;unfold alN at h;rw [zaH]at h;cases hs:s a.1 with
  |none=>rw [hs]at h;simp at h
  |some b=>
   rw [hs]at h;have h':alN s azq=0:=h;obtain⟨bs,h1,h2,h3,h4⟩:=ih h';refine⟨b::bs,by simp [h1], ?_,fun X=> ?_, ?_⟩
   ·unfold alR alW;rw [hs,h2];rfl
   ·funext t
    have:=congrFun (h3 X) t
    unfold alF at this⊢;unfold alV upd;rw [zbm,hs,this];rfl
   ·unfold alD at h4⊢;rw [zaH,hs];simp [h4]
end
open Go.Value renaming ownBlock -> zaB
open Int renaming toNat_natCast -> zaq
open List renaming append_assoc -> zaC, append_nil -> zaS, drop -> zaE, drop_of_length_le -> zba, eq_nil_of_length_eq_zero -> zaA, flatMap_append -> zaF, flatMap_cons -> zar, length_append -> zae, length_drop -> zaI, length_take -> zac, nil_append -> zaM, replicate -> zag, take_left -> zaW, take_of_length_le -> zaG
open Nat renaming add_mul -> zaX, le_mul_of_pos_right -> zbl, le_refl -> zab, le_trans -> zau, min_eq_left -> zaK, mul_le_mul_right -> zak, succ_mul -> zaV, zero_add -> zaT
open Option renaming map_some -> zaJ
theorem Hp.openrw{w0 w:World}{S:List Nat}{L:List Res}{α:Type}{f:α->List Value}{e sz cap g:Nat}{a:Option Addr}{l:List α}(h:Hp w0 S L w)(k:Nat)(hk:L[k]? =some (rwt f e sz (some g) a cap l)):
  ∃cs:List Value,a=some ⟨g,0,none⟩/\cs.length=cap*sz/\cs.take (l.length*sz)=l.flatMap f/\l.length<=cap/\cap<=maxLen/\Hp w0 S (L.set k (blk g cs e)) w:=by
 obtain⟨h1,h2⟩:=h.res _ (List.mem_of_getElem? hk);rcases h1 with⟨hn,_⟩|⟨g',cur,ho,rfl,hob,hc1,hc2,hc3,htk⟩
 ·cases hn
 ·cases ho
  refine⟨cur.toList,rfl,by simpa using hc3,htk,hc1,hc2,h.change k _ _ hk rfl rfl rfl (zab _) (fun _ _ _=>rfl) ?_ ?_⟩
  ·show w.heap[g]? =_;simpa [rwt] using hob
  ·intro b hb;simp [blk]at hb
   subst hb;exact⟨.inl rfl,(h2 g rfl).1⟩
theorem Hp.closerw{w0 w:World}{S:List Nat}{L:List Res}{b e:Nat}{cs:List Value}{α:Type}{f:α->List Value}(h:Hp w0 S L w)(k sz cap:Nat)(l:List α)(hk:L[k]? =some (blk b cs e))(hcs:cs.length=cap*sz)(hl:l.length<=cap)(hc:cap<=maxLen)(ht:cs.take (l.length*sz)=l.flatMap f):
  Hp w0 S (L.set k (rwt f e sz (some b) (some ⟨b,0,none⟩) cap l)) w:=by
 have hb:=h.blkAt k hk;refine h.change k _ _ hk rfl rfl rfl (zab _) (fun _ _ _=>rfl) ?_ ?_
 ·exact .inr ⟨b,_,rfl,rfl,hb,hl,hc,by simpa using hcs,by simpa using ht⟩
 ·intro b' hb';simp [rwt]at hb'
  subst hb';exact⟨.inl rfl,(Array.getElem?_eq_some_iff.1 hb).1⟩
theorem Hp.nonerw{w0 w:World}{S:List Nat}{L:List Res}{α:Type}{f:α->List Value}{e sz cap:Nat}{a:Option Addr}{l:List α}(h:Hp w0 S L w)(k:Nat)(hk:L[k]? =some (rwt f e sz none a cap l)):l=[]/\cap=0/\a=none:=by
 obtain⟨h1,_⟩:=h.res _ (List.mem_of_getElem? hk);rcases h1 with⟨_,h2,h3,h4⟩|⟨g,cur,h2,_⟩
 ·exact⟨h2,h3,h4⟩
 ·cases h2
theorem Hp.rwcapM{w0 w:World}{S:List Nat}{L:List Res}{α:Type}{f:α->List Value}{e sz cap:Nat}{o:Option Nat}{a:Option Addr}{l:List α}(h:Hp w0 S L w)(k:Nat)(hk:L[k]? =some (rwt f e sz o a cap l)):cap<=maxLen:=by
 obtain⟨h1,_⟩:=h.res _ (List.mem_of_getElem? hk);rcases h1 with⟨_,_,rfl,_⟩|⟨g,cur,_,_,_,_,h2,_⟩
 ·exact Nat.zero_le _
 ·exact h2
theorem slF_at{g cap j sz:Nat}(h:cap≠j):slF (some ⟨g,0,none⟩) cap j sz=some ⟨g,j*sz,none⟩:=by unfold slF;rw [if_neg h];simp [abb]
theorem flat_rep{α:Type}(f:α->List Value)(sz:Nat)(z:α)(hf:(f z).length=sz):∀(n j:Nat),j<n*sz->((zag n z).flatMap f)[j]? =(f z)[j%sz]?
 |0,j,h=>by simp at h
 |n+1,j,h=>by
  rw [List.replicate_succ,zar];by_cases hj:j<sz
  ·rw [List.getElem?_append_left (by omega),Nat.mod_eq_of_lt hj]
  ·rw [List.getElem?_append_right (by omega),hf,flat_rep f sz z hf n (j-sz) (by rw [zaV]at h;omega)];congr 1
   rw [<-Nat.mod_eq_sub_mod (by omega)]
theorem made_flat{α:Type}(f:α->List Value)(sz:Nat)(z:α)(zc:Array Value)(hz:zc.toList=f z)(hs:zc.size=sz)(hsz:0<sz)(n:Nat):(madeCells zc (n*sz)).toList=(zag n z).flatMap f:=by
 have hf:(f z).length=sz:=by rw [<-hz];simpa using hs
 apply List.ext_getElem?
 intro j;by_cases hj:j<n*sz
 ·rw [flat_rep f sz z hf n j hj];have hm:j%sz<zc.size:=by rw [hs];exact Nat.mod_lt _ hsz
  simp [madeCells,hj,<-hz,hs]
  rw [Array.getElem?_eq_getElem hm,getElem!_pos zc _ hm]
 ·rw [List.getElem?_eq_none (by simp [madeCells];omega),List.getElem?_eq_none];rw [flat_len' f sz z hf];omega
where
 flat_len' {α:Type} (f:α->List Value) (sz:Nat) (z:α) (hf:(f z).length=sz) {n:Nat}:((zag n z).flatMap f).length=n*sz:=by
  induction n with
  |zero=>simp
  |succ n ih=>rw [List.replicate_succ,zar,zae,ih,hf,zaV];omega
def cpy{α:Type}(l l2:List α):List α:=l2.take l.length++l.drop l2.length
@[simp] theorem cpy_len {α:Type} (l l2:List α):(cpy l l2).length=l.length:=by unfold cpy;simp;omega
theorem cpy_full{α:Type}(l l2:List α)(h:l.length=l2.length):cpy l l2=l2:=by
 unfold cpy;rw [h,List.take_length,zba (by omega),zaS]
section
variable {P : Program} {n : Md} {ops : Array Oper} {Q : Exit -> Act -> World -> Prop} {F : Nat -> Value} {w w0 : World} {S : List Nat} {L : List Res}
variable {d : Nat} {ty : TypeId} {pos : String} {after : Array Edge} {rest : List Oper} {α : Type} {f : α -> List Value}
theorem x_cap{x:Operand}{t:TypeId}(a:Option Addr)(m c e:Nat)(ht:P.underlying t=some (.slice e))(hx:evn n F x=.slice a m c):
  (execOp (evn n F) (⟨some d,.call ⟨.builtin .cap, #[x], #[t]⟩,ty,pos,after,none⟩:Oper)).run P w=.ok (.value (.int .i64 (c:Int))) w:=by
 simp [execOp,resolve,invoke,builtin,hx,Builtin.cap_,run_underlying ht,goInt]
theorem w_cap{x:Operand}{t:TypeId}(a:Option Addr)(m c e:Nat)(ht:P.underlying t=some (.slice e))(hx:evn n F x=.slice a m c)(h:W P n ops Q rest (upd F d (.int .i64 (c:Int))) w):
  W P n ops Q (⟨some d,.call ⟨.builtin .cap, #[x], #[t]⟩,ty,pos,after,none⟩::rest) F w:=abn rfl rfl (x_cap a m c e ht hx) h
theorem w_makeN{x y:Operand}{t:TypeId}(hH:Hp w0 S L w)(e sz by_:Nat)(kl kc:IntKind)(c:Int)(z:α)(ht:P.underlying t=some (.slice e))(hT:TI P e sz by_)(hby:0<by_)(hsz:0<sz)
  (hz:((P.info? e).bind (·.zero)).map (·.cells)=some (f z).toArray) (hx:evn n F x=.int kl c) (hy:evn n F y=.int kc c)
  (hb:0<=c/\(by_:Int)*c<=281474976710656)
  (h:∀o a cap w',Hp w0 S (rwt f e sz o a cap (zag c.toNat z)::L) w'->W P n ops Q rest (upd F d (.slice a (zag c.toNat z).length cap)) w'):
  W P n ops Q (⟨some d,.makeSlice t x y,ty,pos,after,none⟩::rest) F w:=by
 obtain⟨i,zv,hi,hzi,hs,hbb,hzs⟩:=hT.parts;obtain⟨h0,hb1⟩:=hb;obtain⟨cn,rfl⟩:=Int.eq_ofNat_of_zero_le h0;have hb':i.bytes*cn<=281474976710656:=by
  rw [hbb];have hb2:((by_*cn:Nat):Int)<=281474976710656:=by rw [Int.natCast_mul];exact hb1
  omega
 have h63:cn<=maxLen:=by
  have:cn<=i.bytes*cn:=Nat.le_mul_of_pos_left _ (by rw [hbb];exact hby)
  simp only [maxLen];omega
 have hzc:zv.cells.toList=f z:=by
  rw [hi]at hz;simp [hzi]at hz
  rw [hz]
 obtain⟨w',hr,ho,hg⟩:=run_make_full (P:=P) w w.heap.size t e i zv sz ht hi hzi hs kl kc cn hb' h63 (zab _);rw [made_flat f sz z zv.cells hzc hzs hsz cn]at ho;have h2:Hp w [] [row (.slice (some ⟨w.heap.size,0,none⟩) cn cn) e sz cn ((zag cn z).flatMap f)] w':=by
  refine⟨hg.os,hg.tape,hg.output,hg.size,fun k hk _=>hg.block k hk (by simp),fun r hr=> ?_,by simp⟩
  simp at hr
  subst hr;have hlt:=ho.lt w.heap.size rfl;refine⟨?_,fun b hb=> ?_⟩
  ·obtain⟨hl,hr⟩:=ho;refine⟨hl, ?_⟩
   rcases hr with hr|⟨g,c,cur,hv,_,hb,h1,h2,h3,h4⟩
   ·exact .inl hr
   ·refine .inr ⟨g,c,cur,hv, ?_,h1,h2,h3,h4⟩;simp only [Value.slice.injEq,Option.some.injEq,Addr.mk.injEq]at hv;obtain⟨⟨rfl,-⟩,-,rfl⟩:=hv;exact hb
  ·simp [row,zaB]at hb
   subst hb;exact⟨hlt.2,.inl (zab _)⟩
 have h3:=hH.callL h2;have hlen:(zag cn z).length=cn:=by simp
 have h4:(row (.slice (some ⟨w.heap.size,0,none⟩) cn cn) e sz cn ((zag cn z).flatMap f))=row (.slice (some ⟨w.heap.size,0,none⟩) (zag cn z).length cn) e sz (zag cn z).length ((zag cn z).flatMap f):=by rw [hlen]
 rw [h4]at h3;obtain⟨o,h5⟩:=h3.rowrw (f:=f) (l:=zag cn z) 0 rfl;have h6:=h o _ cn w' h5;refine abn (w':=w') rfl rfl ?_ h6;simp [execOp,hx,hy,hr]
theorem run_copyB{t u:TypeId}(hH:Hp w0 S L w)(k g o dLen dCap:Nat)(ax:Option Addr)(sLen sCap e sz:Nat)(cs xs:List Value)(hk:L[k]? =some (blk g cs e))(ht:P.underlying t=some (.slice e))(hs:(sizeOf e).run P w=.ok sz w)
  (hR:Rd w ax xs) (hl:xs.length=Nat.min sLen dLen*sz) (hfit:o+xs.length<=cs.length) (h1:∀v∈xs,v.oneCell'=true):
  ∃w',(Builtin.copy_ #[t,u] ty #[.slice (some ⟨g,o,none⟩) dLen dCap,.slice ax sLen sCap]).run P w=.ok (goInt (Nat.min sLen dLen)) w'/\Hp w0 S (L.set k (blk g (abk cs o xs) e)) w':=by
 obtain⟨w',hr,h'⟩:=hH.stored (P:=P) (off:=o) (vs:=xs) hk hfit h1;refine⟨w', ?_,h'⟩
 have hf:(Builtin.firstCells sz (Nat.min sLen dLen) (.slice ax sLen sCap)).run P w=.ok xs.toArray w:=by
  cases ax with
  |none=>
   have:xs=[]:=by
    cases xs with
    |nil=>rfl
    |cons u us=>obtain⟨p,hp,_⟩:=hR 0 u (by simp);cases hp
   subst this;exact run_firstCells_none _ _ _ _ _
  |some p=>exact run_firstCells_some w sz _ p _ _ xs hl (fun j v hv=>by obtain⟨q,hq,hc⟩:=hR j v hv;cases hq;exact hc)
 simp [Builtin.copy_,run_underlying ht,Builtin.lenOf,hs,hf,hr]
theorem run_copyT{t u:TypeId}(hH:Hp w0 S L w)(k:Nat)(o:Option Nat)(a ax:Option Addr)(cap cx e sz:Nat)(l l2:List α)(hE:Enc f sz)(hk:L[k]? =some (rwt f e sz o a cap l))(ht:P.underlying t=some (.slice e))(hs:(sizeOf e).run P w=.ok sz w)
  (hR:Rd w ax (l2.flatMap f)):∃w',(Builtin.copy_ #[t,u] ty #[.slice a l.length cap,.slice ax l2.length cx]).run P w=.ok (goInt (Nat.min l2.length l.length)) w'/\Hp w0 S (L.set k (rwt f e sz o a cap (cpy l l2))) w':=by
 have hlt:k<L.length:=(List.getElem?_eq_some_iff.1 hk).1;cases o with
 |none=>
  obtain⟨rfl,rfl,rfl⟩:=hH.nonerw k hk;have hc:cpy ([]:List α) l2=[]:=zaA (by rw [cpy_len];rfl);have hL:L.set k (rwt f e sz none none 0 [])=L:=by
   apply List.ext_getElem?
   intro j;by_cases hjk:j=k
   ·subst hjk;rw [List.getElem?_set_self hlt,hk]
   ·rw [List.getElem?_set_ne (fun e=>hjk e.symm)]
  refine⟨w, ?_,by rw [hc,hL];exact hH⟩
  have hm:Nat.min l2.length ([]:List α).length=0:=Nat.min_zero _;rw [hm];have hf:(Builtin.firstCells sz 0 (.slice ax l2.length cx)).run P w=.ok #[] w:=by
   cases ax with
   |none=>exact run_firstCells_none _ _ _ _ _
   |some p=>exact run_firstCells_some w sz 0 p _ _ [] (by simp) (fun j v hv=>by simp at hv)
  simp [Builtin.copy_,run_underlying ht,Builtin.lenOf,hs,hf]
 |some g=>
  obtain⟨cs,rfl,hcl,htk,hlc,hcm,h1⟩:=hH.openrw k hk;have hmin:Nat.min l2.length l.length=min l2.length l.length:=rfl;have hxl:((l2.take l.length).flatMap f).length=Nat.min l2.length l.length*sz:=by rw [hE.flat,zac,hmin,Nat.min_comm]
  obtain⟨w',hr,h2⟩:=run_copyB (P:=P) (ty:=ty) (u:=u) (t:=t) h1 k g 0 l.length cap ax l2.length cx e sz cs ((l2.take l.length).flatMap f) (List.getElem?_set_self hlt) ht hs
   (by
    have e1:(l2.take l.length).flatMap f=(l2.flatMap f).take ((l2.take l.length).length*sz):=by
     have:l2.flatMap f=(l2.take l.length).flatMap f++(l2.drop l.length).flatMap f:=by rw [<-zaF,List.take_append_drop]
     rw [this,<-hE.flat (l2.take l.length),zaW]
    rw [e1];exact hR.take _) hxl
   (by rw [hxl,hcl,zaT];exact zak _ (zau (Nat.min_le_right _ _) hlc)) (hE.cells _)
  refine⟨w',hr, ?_⟩
  rw [ack]at h2;have h3:=h2.closerw (f:=f) k sz cap (cpy l l2) (List.getElem?_set_self hlt) (by
   unfold abk;simp only [zae,zac,zaI]
   have:((l2.take l.length).flatMap f).length<=cs.length:=by rw [hxl,hcl];exact zak _ (zau (Nat.min_le_right _ _) hlc)
   omega) (by rw [cpy_len];exact hlc) hcm (by
   rw [cpy_len];unfold abk cpy;rw [List.take_zero,zaM,zaT,zaF];have hle:((l2.take l.length).flatMap f).length<=l.length*sz:=by rw [hxl];exact zak _ (Nat.min_le_right _ _)
   rw [List.take_append,zaG hle];congr 1
   have e3:zaE ((l2.take l.length).flatMap f).length (l.flatMap f)=(l.drop l2.length).flatMap f:=by
    rw [hxl];by_cases hc:l2.length<=l.length
    ·rw [show Nat.min l2.length l.length=l2.length from zaK hc];exact aji f sz hE.len l l2.length
    ·rw [show Nat.min l2.length l.length=l.length from Nat.min_eq_right (by omega),aji f sz hE.len l l.length,zba (zab _),zba (by omega)]
   rw [<-e3,<-htk,List.drop_take])
  rw [ack]at h3;exact h3
theorem w_copyT{x y:Operand}{t u:TypeId}(hH:Hp w0 S L w)(k:Nat)(o:Option Nat)(a ax:Option Addr)(cap cx e sz:Nat)(l l2:List α)(hE:Enc f sz)(hk:L[k]? =some (rwt f e sz o a cap l))(ht:P.underlying t=some (.slice e))(hs:(sizeOf e).run P w=.ok sz w)
  (hx:evn n F x=.slice a l.length cap) (hy:evn n F y=.slice ax l2.length cx) (hR:Rd w ax (l2.flatMap f))
  (h:∀w',Hp w0 S (L.set k (rwt f e sz o a cap (cpy l l2))) w'->W P n ops Q rest (upd F d (goInt (Nat.min l2.length l.length))) w'):
  W P n ops Q (⟨some d,.call ⟨.builtin .copy, #[x,y], #[t,u]⟩,ty,pos,after,none⟩::rest) F w:=by
 obtain⟨w',hr,h2⟩:=run_copyT (P:=P) (ty:=ty) (u:=u) hH k o a ax cap cx e sz l l2 hE hk ht hs hR;refine abn (w':=w') rfl rfl ?_ (h w' h2);simp [execOp,resolve,invoke,builtin,hx,hy,hr]
theorem w_run0{o:Oper}{rest:List Oper}{v:Value}{w':World}(hg:o.guard=none)(hd:o.dst=none)
  (hrun:(execOp (evn n F) o).run P w=.ok (.value v) w') (h:W P n ops Q rest F w'):W P n ops Q (o::rest) F w:=by
 obtain⟨k,D,ro⟩:=n;cases ro with
 |none=>
  unfold W WR at h⊢;dsimp only at h⊢;refine wpList_plain hg fun K hK=> ?_
  unfold Oper.wp;rw [afa,hrun,Oper.upon_value,hd];exact hK _ _ h
 |some r=>
  unfold W WR at h⊢;dsimp only at h⊢;refine wpListIn_plain hg fun K hK=>⟨fun _ _=>trivial, ?_⟩
  rw [afa,ajg _ hrun (fun d e=>by cases e),hrun,Oper.uponIn_value,hd];exact hK _ _ h
def clr(l:List α)(i:Nat)(z:α):List α:=l.take i++zag (l.length-i) z
@[simp] theorem clr_len (l:List α) (i:Nat) (z:α):(clr l i z).length=l.length:=by unfold clr;simp;omega
theorem clr_take(l:List α)(i:Nat)(z:α)(h:i<=l.length):(clr l i z).take i=l.take i:=by
 unfold clr;rw [List.take_append,List.take_take,Nat.min_self]
 have:(List.take i l).length=i:=by simp;omega
 rw [this,Nat.sub_self,List.take_zero,zaS]
theorem run_clearB{t:TypeId}(hH:Hp w0 S L w)(k g o m c e sz:Nat)(cs zs:List Value)(zc:Array Value)(hk:L[k]? =some (blk g cs e))(ht:P.underlying t=some (.slice e))(hz:∀w,((zeroValue e).run P w).andThen (fun v w=>.ok v.cells w)=.ok zc w)
  (hzs:(Builtin.zeroCells zc m).toList=zs) (hm:0<m) (hfit:o+zs.length<=cs.length) (h1:∀v∈zs,v.oneCell'=true):
  ∃w',(Builtin.clear_ #[t] ty #[.slice (some ⟨g,o,none⟩) m c]).run P w=.ok (.tuple #[]) w'/\Hp w0 S (L.set k (blk g (abk cs o zs) e)) w':=by
 obtain⟨w',hr,h'⟩:=hH.stored (P:=P) (off:=o) (vs:=zs) hk hfit h1;refine⟨w', ?_,h'⟩
 cases hq:(zeroValue e).run P w with
 |ok v w2=>
  have:=hz w
  rw [hq]at this;simp only [Result.andThen_ok,Result.ok.injEq]at this;obtain⟨rfl,rfl⟩:=this;obtain⟨m',rfl⟩:∃m',m=m'+1:=⟨m-1,by omega⟩
  simp [Builtin.clear_,run_underlying ht,hq,hzs,hr]
 |halt x w2=>
  have:=hz w
  rw [hq]at this;simp [Result.andThen]at this
theorem zero_cells{e:Nat}{z:α}(hz:((P.info? e).bind (·.zero)).map (·.cells)=some (f z).toArray):∀w,((zeroValue e).run P w).andThen (fun v w=>.ok v.cells w)=.ok (f z).toArray w:=by
 intro w;cases hi:P.info? e with
 |none=>rw [hi]at hz;cases hz
 |some i=>
  rw [hi]at hz;cases hzv:i.zero with
  |none=>simp [hzv]at hz
  |some v=>
   simp [hzv]at hz
   simp [zeroValue,typeInfo,hi,hzv,hz]
theorem zeros_flat(sz:Nat)(z:α)(hE:Enc f sz)(hsz:0<sz)(m:Nat):(Builtin.zeroCells (f z).toArray m).toList=(zag m z).flatMap f:=by
 have h:Builtin.zeroCells (f z).toArray m=madeCells (f z).toArray (m*sz):=by unfold Builtin.zeroCells madeCells;rw [show(f z).toArray.size=sz by simpa using hE.len z]
 rw [h];exact made_flat f sz z _ (by simp) (by simpa using hE.len z) hsz m
theorem run_clearT{t:TypeId}(hH:Hp w0 S L w)(k:Nat)(o:Option Nat)(a:Option Addr)(cap e sz:Nat)(l:List α)(i:Nat)(z:α)(hE:Enc f sz)(hk:L[k]? =some (rwt f e sz o a cap l))(ht:P.underlying t=some (.slice e))(hsz:0<sz)
  (hz:((P.info? e).bind (·.zero)).map (·.cells)=some (f z).toArray) (hi:i<=l.length):
  ∃w',(Builtin.clear_ #[t] ty #[.slice (slF a cap i sz) (l.length-i) (cap-i)]).run P w=.ok (.tuple #[]) w'/\Hp w0 S (L.set k (rwt f e sz o a cap (clr l i z))) w':=by
 have hlt:k<L.length:=(List.getElem?_eq_some_iff.1 hk).1;by_cases hil:i=l.length
 ·have hc:clr l i z=l:=by unfold clr;rw [hil,List.take_length,Nat.sub_self];simp
  have hL:L.set k (rwt f e sz o a cap l)=L:=by
   apply List.ext_getElem?
   intro j;by_cases hjk:j=k
   ·subst hjk;rw [List.getElem?_set_self hlt,hk]
   ·rw [List.getElem?_set_ne (fun e=>hjk e.symm)]
  refine⟨w, ?_,by rw [hc,hL];exact hH⟩
  rw [hil,Nat.sub_self];cases slF a cap l.length sz<;>simp [Builtin.clear_,run_underlying ht]
 ·cases o with
  |none=>obtain⟨rfl,_,_⟩:=hH.nonerw k hk;simp at hi hil;omega
  |some g=>
   obtain⟨cs,rfl,hcl,htk,hlc,hcm,h1⟩:=hH.openrw k hk;have hne:¬cap=i:=by omega
   have hA:slF (some ⟨g,0,none⟩) cap i sz=some ⟨g,i*sz,none⟩:=by unfold slF;rw [if_neg hne];simp [abb]
   rw [hA];have hzl:((zag (l.length-i) z).flatMap f).length=(l.length-i)*sz:=by rw [hE.flat];simp
   obtain⟨w',hr,h2⟩:=run_clearB (P:=P) (ty:=ty) (t:=t) h1 k g (i*sz) (l.length-i) (cap-i) e sz cs _ _ (List.getElem?_set_self hlt) ht (zero_cells hz) (zeros_flat sz z hE hsz (l.length-i)) (by omega) (by
    rw [hzl,hcl,<-zaX];exact zak _ (by omega)) (hE.cells _)
   refine⟨w',hr, ?_⟩
   rw [ack]at h2;have hfit:i*sz+(l.length-i)*sz<=cs.length:=by rw [hcl,<-zaX];exact zak _ (by omega)
   have h3:=h2.closerw (f:=f) k sz cap (clr l i z) (List.getElem?_set_self hlt) (by
    unfold abk;simp only [zae,zac,zaI,hzl];omega) (by rw [clr_len];exact hlc) hcm (by
    rw [clr_len];unfold abk clr;rw [zaF];have e0:(cs.take (i*sz))=(l.take i).flatMap f:=by
     have e1:(l.take i).flatMap f=(l.flatMap f).take ((l.take i).length*sz):=by
      have:l.flatMap f=(l.take i).flatMap f++(l.drop i).flatMap f:=by rw [<-zaF,List.take_append_drop]
      rw [this,<-hE.flat (l.take i),zaW]
     rw [e1,<-htk,List.take_take,zac,zaK hi,zaK (zak _ hi)]
    rw [e0];have hl1:((l.take i).flatMap f++(zag (l.length-i) z).flatMap f).length=l.length*sz:=by
     rw [zae,hE.flat,hzl,zac,zaK hi,<-zaX];congr 1;omega
    rw [<-hl1,zaW])
   rw [ack]at h3;exact h3
theorem w_clearT0{x:Operand}{t:TypeId}(hH:Hp w0 S L w)(k:Nat)(o:Option Nat)(a:Option Addr)(cap e sz:Nat)(l:List α)(i:Nat)(z:α)(hE:Enc f sz)(hk:L[k]? =some (rwt f e sz o a cap l))(ht:P.underlying t=some (.slice e))(hT:True)(hsz:0<sz)
  (hz:((P.info? e).bind (·.zero)).map (·.cells)=some (f z).toArray) (hx:evn n F x=.slice (slF a cap i sz) (l.length-i) (cap-i)) (hi:i<=l.length)
  (h:∀w',Hp w0 S (L.set k (rwt f e sz o a cap (clr l i z))) w'->W P n ops Q rest F w'):
  W P n ops Q (⟨none,.call ⟨.builtin .clear, #[x], #[t]⟩,ty,pos,after,none⟩::rest) F w:=by
 obtain⟨w',hr,h2⟩:=run_clearT (P:=P) (ty:=ty) hH k o a cap e sz l i z hE hk ht hsz hz hi;refine w_run0 (v:=.tuple #[]) (w':=w') rfl rfl ?_ (h w' h2);simp [execOp,resolve,invoke,builtin,hx,hr]
end
section
variable {P : Program} {n : Md} {ops : Array Oper} {Q : Exit -> Act -> World -> Prop} {F : Nat -> Value} {w w0 : World} {S : List Nat} {L : List Res}
variable {d : Nat} {ty : TypeId} {pos : String} {after : Array Edge} {rest : List Oper} {α : Type} {f : α -> List Value}
theorem x_slToC{x hi:Operand}{t:TypeId}(a:Option Addr)(m c e sz:Nat)(k:IntKind)(j:Int)(ht:P.underlying t=some (.slice e))(hs:(sizeOf e).run P w=.ok sz w)(hx:evn n F x=.slice a m c)(hhi:evn n F hi=.int k j)
  (hb:0<=j/\j<=(c:Int)):(execOp (evn n F) (⟨some d,.slice t x none (some hi) none,ty,pos,after,none⟩:Oper)).run P w=.ok (.value (.slice a j.toNat c)) w:=by
 have he:=elem_of ht;have ht':P.underlying t=some (.slice (P.elem t)):=by rw [he];exact ht
 have e1:=run_slice_h (P:=P) w t a m c ht' k j hb.1 hb.2;rw [he,hs]at e1;simp only [execOp,hx,hhi,Sem.run_bind,zaJ,Option.map_none,run_sliceAt_slice w t _ _ _ _ ht',e1,Result.andThen_ok,sliced];simp
 intro _;cases a<;>simp [Addr.add]
theorem agy{x lo:Operand}{t:TypeId}(a:Option Addr)(m c e sz:Nat)(k:IntKind)(j:Int)(ht:P.underlying t=some (.slice e))(hs:(sizeOf e).run P w=.ok sz w)(hx:evn n F x=.slice a m c)(hlo:evn n F lo=.int k j)
  (hb:0<=j/\j<=(m:Int)):(execOp (evn n F) (⟨some d,.slice t x (some lo) none none,ty,pos,after,none⟩:Oper)).run P w=.ok (.value (.slice (slF a c j.toNat sz) (m-j.toNat) (c-j.toNat))) w:=by
 have he:=elem_of ht;have ht':P.underlying t=some (.slice (P.elem t)):=by rw [he];exact ht
 have e1:=run_slice_l (P:=P) w t a m c ht' k j hb.1 hb.2;rw [he,hs]at e1;simp only [execOp,hx,hlo,Sem.run_bind,zaJ,Option.map_none,run_sliceAt_slice w t _ _ _ _ ht',e1,Result.andThen_ok,sliced,slF,Sem.run_pure]
theorem x_slLH{x lo hi:Operand}{t:TypeId}(a:Option Addr)(m c e sz:Nat)(k k':IntKind)(i j:Int)(ht:P.underlying t=some (.slice e))(hs:(sizeOf e).run P w=.ok sz w)(hx:evn n F x=.slice a m c)(hlo:evn n F lo=.int k i)(hhi:evn n F hi=.int k' j)
  (hb:0<=i/\i<=j/\j<=(c:Int)):(execOp (evn n F) (⟨some d,.slice t x (some lo) (some hi) none,ty,pos,after,none⟩:Oper)).run P w=.ok (.value (.slice (slF a c i.toNat sz) (j.toNat-i.toNat) (c-i.toNat))) w:=by
 have he:=elem_of ht;have ht':P.underlying t=some (.slice (P.elem t)):=by rw [he];exact ht
 have e1:=run_slice_lh (P:=P) w t a m c ht' k k' i j hb.1 hb.2.1 hb.2.2;rw [he,hs]at e1;simp only [execOp,hx,hlo,hhi,Sem.run_bind,zaJ,Option.map_none,run_sliceAt_slice w t _ _ _ _ ht',e1,Result.andThen_ok,sliced,slF,Sem.run_pure]
theorem x_slLHM{x lo hi mx:Operand}{t:TypeId}(a:Option Addr)(m c e sz:Nat)(k k' k2:IntKind)(i j q:Int)(ht:P.underlying t=some (.slice e))(hs:(sizeOf e).run P w=.ok sz w)(hx:evn n F x=.slice a m c)(hlo:evn n F lo=.int k i)(hhi:evn n F hi=.int k' j)(hmx:evn n F mx=.int k2 q)
  (hb:0<=i/\i<=j/\j<=q/\q<=(c:Int)):(execOp (evn n F) (⟨some d,.slice t x (some lo) (some hi) (some mx),ty,pos,after,none⟩:Oper)).run P w=.ok (.value (.slice (slF a q.toNat i.toNat sz) (j.toNat-i.toNat) (q.toNat-i.toNat))) w:=by
 have he:=elem_of ht;have ht':P.underlying t=some (.slice (P.elem t)):=by rw [he];exact ht
 have e1:=run_slice_lhm (P:=P) w t a m c ht' k k' k2 i j q hb.1 hb.2.1 hb.2.2.1 hb.2.2.2;rw [he,hs]at e1;simp only [execOp,hx,hlo,hhi,hmx,Sem.run_bind,zaJ,Option.map_none,run_sliceAt_slice w t _ _ _ _ ht',e1,Result.andThen_ok,sliced,slF,Sem.run_pure]
theorem x_ixAt{x ix:Operand}{t:TypeId}(b m c e sz:Nat)(q:IntKind)(i:Int)(j:Nat)(ht:P.underlying t=some (.slice e))(hs:(sizeOf e).run P w=.ok sz w)(hx:evn n F x=.slice (some ⟨b,0,none⟩) m c)(hi:evn n F ix=.int q i)
  (hj:i=(j:Int)) (hjm:j<m):(execOp (evn n F) (⟨some d,.indexAddr t x ix,ty,pos,after,none⟩:Oper)).run P w=.ok (.value (.pointer (some ⟨b,j*sz,none⟩))) w:=by
 subst hj
 have:=x_ixa (P:=P) (n:=n) (F:=F) (d:=d) (ty:=ty) (pos:=pos) (after:=after) (some ⟨b,0,none⟩) m c e sz q (j:Int) ht hs hx hi ⟨by omega,by omega⟩ (by simp)
 rw [show ea (some ⟨b,0,none⟩) ((j:Int).toNat*sz)=⟨b,j*sz,none⟩by rw [zaq];show(⟨b,0,none⟩:Addr).add _=_;rw [abb,zaT]]at this;exact this
theorem run_first{ax:Option Addr}{len cap sz k:Nat}{xs:List Value}(hR:Rd w ax xs)(hl:xs.length=k*sz):(Builtin.firstCells sz k (.slice ax len cap)).run P w=.ok xs.toArray w:=by
 cases ax with
 |none=>
  have:xs=[]:=by
   cases xs with
   |nil=>rfl
   |cons u us=>obtain⟨p,hp,_⟩:=hR 0 u (by simp);cases hp
  subst this;exact run_firstCells_none _ _ _ _ _
 |some p=>exact run_firstCells_some w sz _ p _ _ xs hl (fun j v hv=>by obtain⟨q,hq,hc⟩:=hR j v hv;cases hq;exact hc)
theorem w_copyB{x y:Operand}{t u:TypeId}(hH:Hp w0 S L w)(k g o dLen dCap:Nat)(A ax:Option Addr)(sLen sCap e sz:Nat)(cs xs:List Value)(hk:L[k]? =some (blk g cs e))(ht:P.underlying t=some (.slice e))(hs:(sizeOf e).run P w=.ok sz w)
  (hx:evn n F x=.slice A dLen dCap) (hA:A=some ⟨g,o,none⟩) (hy:evn n F y=.slice ax sLen sCap)
  (hR:Rd w ax xs) (hl:xs.length=Nat.min sLen dLen*sz) (hfit:o+xs.length<=cs.length) (h1:∀v∈xs,v.oneCell'=true)
  (h:∀w',Hp w0 S (L.set k (blk g (abk cs o xs) e)) w'->W P n ops Q rest (upd F d (goInt (Nat.min sLen dLen))) w'):
  W P n ops Q (⟨some d,.call ⟨.builtin .copy, #[x,y], #[t,u]⟩,ty,pos,after,none⟩::rest) F w:=by
 subst hA;obtain⟨w',hr,h2⟩:=run_copyB (P:=P) (ty:=ty) (u:=u) hH k g o dLen dCap ax sLen sCap e sz cs xs hk ht hs hR hl hfit h1;refine abn (w':=w') rfl rfl ?_ (h w' h2);simp [execOp,resolve,invoke,builtin,hx,hy,hr]
theorem w_appZ{x y:Operand}{t tn:TypeId}{kn:IntKind}(hH:Hp w0 S L w)(k:Nat)(o:Option Nat)(a:Option Addr)(cap e sz by_:Nat)(l:List α)(j m:Nat)(kq:IntKind)(hE:Enc f sz)(hk:L[k]? =some (rwt f e sz o a cap l))(ht:P.underlying t=some (.slice e))(htn:P.underlying tn=some (.int kn))
  (hT:TI P e sz by_) (hsz:0<sz) (hby:0<by_) (hj:j<=l.length) (h0:0<m) (hg:cap<j+m) (hb:(j+m)*by_<=140737488355328)
  (hx:evn n F x=.slice a j cap) (hy:evn n F y=.int kq (m:Int))
  (h:∀g' G cs' w',cs'.length=G*sz->j+m<=G->G<=maxLen->cs'.take (j*sz)=(l.take j).flatMap f->Hp w0 S (blk g' cs' e::L) w'->W P n ops Q rest (upd F d (.slice (some ⟨g',0,none⟩) (j+m) G)) w'):
  W P n ops Q (⟨some d,.call ⟨.builtin .append, #[x,y], #[t,tn]⟩,ty,pos,after,none⟩::rest) F w:=by
 obtain⟨i,z,hi,hz,hs,hbb,hzs⟩:=hT.parts;have h63:j+m<=140737488355328:=zau (zbl _ hby) hb;have hmb:m*by_<=140737488355328:=zau (zak _ (by omega)) hb;have hR:Rd w a ((l.take j).flatMap f):=Rd.takeT hE j (hH.rdrw k hk);have hl:((l.take j).flatMap f).length=j*i.size:=by rw [hE.flat,zac,zaK hj,hs]
 have hold:(Builtin.firstCells i.size j (.slice a j cap)).run P w.drew=.ok ((l.take j).flatMap f).toArray w.drew:=run_first (w:=w.drew) (by exact hR) hl;have hr:=Lib.run_append_grow_zeros (P:=P) w t tn ty e i z kq kn ht htn hi hz a j cap _ hold m h0 (by rw [hs];exact hsz) hg (by omega) (by rw [hbb];omega) (growslice_fits hg (by rw [hbb];exact hb));have hge:=grownCap_ge w (j+m) cap e;have hle:=grownCap_le_maxLen w (j+m) cap e (by unfold maxLen;omega);generalize grownCap w (j+m) cap e=G at hr hge hle;have hH1:Hp w0 S L w.drew:=hH.drewn;have h2:=hH1.alloc (((l.take j).flatMap f).toArray++Builtin.zeroCells z.cells m++Builtin.zeroCells z.cells (G-(j+m))).toList e;rw [Array.toArray_toList]at h2;refine abn (w':=w.drew.alloc (.cells (((l.take j).flatMap f).toArray++Builtin.zeroCells z.cells m++Builtin.zeroCells z.cells (G-(j+m))) e)) rfl rfl ?_ (h w.heap.size G _ _ ?_ hge hle ?_ h2)
 ·simp [execOp,resolve,invoke,builtin,hx,hy,hr]
 ·rw [hs]at hl;simp only [Array.length_toList,Array.size_append,List.size_toArray,hl,Builtin.zeroCells,Array.size_map,Array.size_range,hzs];rw [<-zaX,<-zaX];congr 1
  omega
 ·rw [hs]at hl;simp only [Array.toList_append,zaC];rw [<-hl,zaW]
theorem run_appRoomB{t:TypeId}(hH:Hp w0 S L w)(k g m cap:Nat)(ax:Option Addr)(mx cx e sz by_:Nat)(cs news:List Value)(hk:L[k]? =some (blk g cs e))(ht:P.underlying t=some (.slice e))(hT:TI P e sz by_)
  (hR:Rd w ax news) (hl:news.length=mx*sz) (hroom:m+mx<=cap) (hfit:m*sz+news.length<=cs.length) (h1:∀v∈news,v.oneCell'=true):
  ∃w',(Builtin.append_ #[t,t] ty #[.slice (some ⟨g,0,none⟩) m cap,.slice ax mx cx]).run P w=.ok (.slice (some ⟨g,0,none⟩) (m+mx) cap) w'/\Hp w0 S (L.set k (blk g (abk cs (m*sz) news) e)) w':=by
 obtain⟨i,z,hi,hz,hs,hbb,hzs⟩:=hT.parts;obtain⟨w',hr,h'⟩:=hH.stored (P:=P) (off:=m*sz) (vs:=news) hk hfit h1;refine⟨w', ?_,h'⟩
 have hf:(Builtin.firstCells i.size mx (.slice ax mx cx)).run P w=.ok news.toArray w:=run_first hR (by rw [hs];exact hl);subst hs;simp [Builtin.append_,run_underlying ht,sizeOf,typeInfo,hi,Builtin.lenOf,hroom,hf,abb,hr]
theorem w_appRoomB{x y:Operand}{t:TypeId}(hH:Hp w0 S L w)(k g m cap:Nat)(ax:Option Addr)(mx cx e sz by_:Nat)(cs news:List Value)(hk:L[k]? =some (blk g cs e))(ht:P.underlying t=some (.slice e))(hT:TI P e sz by_)
  (hx:evn n F x=.slice (some ⟨g,0,none⟩) m cap) (hy:evn n F y=.slice ax mx cx)
  (hR:Rd w ax news) (hl:news.length=mx*sz) (hroom:m+mx<=cap) (hfit:m*sz+news.length<=cs.length) (h1:∀v∈news,v.oneCell'=true)
  (h:∀w',Hp w0 S (L.set k (blk g (abk cs (m*sz) news) e)) w'->W P n ops Q rest (upd F d (.slice (some ⟨g,0,none⟩) (m+mx) cap)) w'):
  W P n ops Q (⟨some d,.call ⟨.builtin .append, #[x,y], #[t,t]⟩,ty,pos,after,none⟩::rest) F w:=by
 obtain⟨w',hr,h2⟩:=run_appRoomB (P:=P) (ty:=ty) hH k g m cap ax mx cx e sz by_ cs news hk ht hT hR hl hroom hfit h1;refine abn (w':=w') rfl rfl ?_ (h w' h2);simp [execOp,resolve,invoke,builtin,hx,hy,hr]
theorem w_clearB0{x:Operand}{t:TypeId}(hH:Hp w0 S L w)(k g o m c e sz:Nat)(A:Option Addr)(cs:List Value)(z:α)(hE:Enc f sz)(hk:L[k]? =some (blk g cs e))(ht:P.underlying t=some (.slice e))(hsz:0<sz)
  (hz:((P.info? e).bind (·.zero)).map (·.cells)=some (f z).toArray) (hx:evn n F x=.slice A m c) (hA:A=some ⟨g,o,none⟩) (hm:0<m) (hfit:o+m*sz<=cs.length)
  (h:∀w',Hp w0 S (L.set k (blk g (abk cs o ((zag m z).flatMap f)) e)) w'->W P n ops Q rest F w'):
  W P n ops Q (⟨none,.call ⟨.builtin .clear, #[x], #[t]⟩,ty,pos,after,none⟩::rest) F w:=by
 subst hA;obtain⟨w',hr,h2⟩:=run_clearB (P:=P) (ty:=ty) hH k g o m c e sz cs ((zag m z).flatMap f) (f z).toArray hk ht (zero_cells hz) (zeros_flat sz z hE hsz m) hm (by rw [hE.flat];simpa using hfit) (hE.cells _);refine w_run0 (v:=.tuple #[]) (w':=w') rfl rfl ?_ (h w' h2);simp [execOp,resolve,invoke,builtin,hx,hr]
theorem w_overlaps{fo:Operand}{azq:Array Operand}{ats:Array TypeId}{fn:Func}{tS tR:TypeId}(hH:Hp w0 S L w)(k1 k2 g b o e e2 sz:Nat)(B:Option Addr)(cs cs2:List Value)(lb cb c2:Nat)(fid:FuncId)(hk1:L[k1]? =some (blk g cs e))(hk2:L[k2]? =some (blk b cs2 e2))(hne:b≠g)(h0:cs≠[])(ht:P.underlying tS=some (.slice e))(hsz:∀w,(sizeOf e).run P w=.ok sz w)
  (hB : B = some ⟨g, o, none⟩) (hf : evn n F fo = .func (.func fid) #[] #[]) (ha : #[] ++ azq.map (evn n F) ++ #[] = #[.slice (some ⟨b, 0, none⟩) c2 c2, .slice B lb cb]) (h1 : P.funcs[fid]? = some fn) (h2 : (fn.name == "runtime.NumGoroutine") = false) (h3 : fn.body.isNone = true) (h4 : Extern.findNext fn = none) (h5 : Extern.find fn = some (Extern.SlicesOverlaps.overlaps #[tS, tS] #[tR]))
  (h:W P n ops Q rest (upd F d (.bool false)) w):W P n ops Q (⟨some d,.call ⟨.value fo,azq,ats⟩,ty,pos,after,none⟩::rest) F w:=by
 subst hB;have hb1:=hH.blkAt k1 hk1;have hb2:=hH.blkAt k2 hk2;have e1:=run_callFunc_extern (P:=P) h1 h2 h3 h4 (e:=Extern.SlicesOverlaps.overlaps #[tS,tS] #[tR]) h5 (args:= #[.slice (some ⟨b,0,none⟩) c2 c2,.slice (some ⟨g,o,none⟩) lb cb]) (w:=w);rw [Lib.run_overlaps_apart w tS tR e ht sz hsz ⟨b,0,none⟩ ⟨g,o,none⟩ c2 c2 lb cb hne e2 e cs2.length cs.length (by simp [World.shape?,hb2]) (by simp [World.shape?,hb1]) (fun h=>h0 (zaA h)) (by simp [World.frozen?,hb2]) (by simp [World.frozen?,hb2])]at e1;refine abn (v:=.bool false) (w':=w) rfl rfl ?_ h;simp only [execOp,resolve,hf,Deferred.ofValue];show Sem.run P (callFunc fid (#[]++azq.map (evn n F)++ #[])) w=_;rw [ha,e1];rfl
end
def aig{α:Type}(l:List α)(i:Int)(x:α):List α:=l.take i.toNat++x::l.drop i.toNat
theorem ail{α:Type}(l:List α)(i:Int)(x:α):(aig l i x).length=l.length+1:=by unfold aig;simp;omega
def delL{α:Type}(l:List α)(i j:Int):List α:=l.take i.toNat++l.drop j.toNat
theorem afi{cs vs:List Value}{o:Nat}(h:o+vs.length<=cs.length):(abk cs o vs).length=cs.length:=by unfold abk;simp;omega
theorem splice_take{cs vs:List Value}{o m:Nat}(h:o+vs.length<=cs.length)(hm:m<=o):(abk cs o vs).take m=cs.take m:=by
 unfold abk;rw [zaC,List.take_append,List.take_take,zaK hm]
 have:m-(cs.take o).length=0:=by simp;omega
 rw [this,List.take_zero,zaS]
theorem ajq{cs vs:List Value}{o:Nat}(h:o+vs.length<=cs.length):(abk cs o vs).take (o+vs.length)=cs.take o++vs:=by
 unfold abk
 have:o+vs.length=(cs.take o++vs).length:=by simp;omega
 rw [this,zaW]
section
variable {α : Type} {f : α -> List Value} {sz : Nat}
theorem take_flat(hE:Enc f sz)(l:List α)(i:Nat)(hi:i<=l.length):(l.flatMap f).take (i*sz)=(l.take i).flatMap f:=by
 have h1:l.flatMap f=(l.take i).flatMap f++(l.drop i).flatMap f:=by rw [<-zaF,List.take_append_drop]
 have h2:((l.take i).flatMap f).length=i*sz:=by rw [hE.flat,zac,zaK hi]
 rw [h1,<-h2,zaW]
theorem drop_flat(hE:Enc f sz)(l:List α)(j:Nat)(hj:j<=l.length)(cs:List Value)(ht:cs.take (l.length*sz)=l.flatMap f):(cs.drop (j*sz)).take ((l.length-j)*sz)=(l.drop j).flatMap f:=by
 rw [List.take_drop,<-zaX,show j+(l.length-j)=l.length by omega,ht];exact aji f sz hE.len l j
theorem ins_new(hE:Enc f sz)(l:List α)(x:α)(j:Nat)(hj:j<=l.length)(cs:List Value)(hc:(l.length+1)*sz<=cs.length)(ht:cs.take (j*sz)=(l.take j).flatMap f):
  (abk (abk cs (j*sz) (f x)) ((j+1)*sz) ((l.drop j).flatMap f)).take ((l.length+1)*sz)=(l.take j++x::l.drop j).flatMap f:=by
 have hx:=hE.len x;have hd:((l.drop j).flatMap f).length=(l.length-j)*sz:=by rw [hE.flat,zaI]
 have e2:(j+1)*sz=j*sz+(f x).length:=by rw [hx,zaV]
 have h1:j*sz+(f x).length<=cs.length:=by rw [<-e2];exact zau (zak _ (by omega)) hc
 have e1:(l.length+1)*sz=(j+1)*sz+((l.drop j).flatMap f).length:=by rw [hd,<-zaX];congr 1;omega
 have h2:(j+1)*sz+((l.drop j).flatMap f).length<=(abk cs (j*sz) (f x)).length:=by rw [afi h1,<-e1];exact hc
 rw [e1,ajq h2,e2,ajq h1,ht,zaF,zar,zaC]
theorem ins_new_len(hE:Enc f sz)(l:List α)(x:α)(j:Nat)(hj:j<=l.length)(cs:List Value)(hc:(l.length+1)*sz<=cs.length):
  j*sz+(f x).length<=cs.length/\(j+1)*sz+((l.drop j).flatMap f).length<=(abk cs (j*sz) (f x)).length/\(abk (abk cs (j*sz) (f x)) ((j+1)*sz) ((l.drop j).flatMap f)).length=cs.length:=by
 have hx:=hE.len x;have hd:((l.drop j).flatMap f).length=(l.length-j)*sz:=by rw [hE.flat,zaI]
 have e2:(j+1)*sz=j*sz+(f x).length:=by rw [hx,zaV]
 have h1:j*sz+(f x).length<=cs.length:=by rw [<-e2];exact zau (zak _ (by omega)) hc
 have e1:(l.length+1)*sz=(j+1)*sz+((l.drop j).flatMap f).length:=by rw [hd,<-zaX];congr 1;omega
 have h2:(j+1)*sz+((l.drop j).flatMap f).length<=(abk cs (j*sz) (f x)).length:=by rw [afi h1,<-e1];exact hc
 exact⟨h1,h2,by rw [afi h2,afi h1]⟩
theorem ins_room_len(hE:Enc f sz)(l:List α)(x:α)(j:Nat)(hj:j<=l.length)(cs:List Value)(hc:(l.length+1)*sz<=cs.length):
  (j+1)*sz+((l.drop j).flatMap f).length<=cs.length/\j*sz+(f x).length<=(abk cs ((j+1)*sz) ((l.drop j).flatMap f)).length/\(abk (abk cs ((j+1)*sz) ((l.drop j).flatMap f)) (j*sz) (f x)).length=cs.length:=by
 have hx:=hE.len x;have hd:((l.drop j).flatMap f).length=(l.length-j)*sz:=by rw [hE.flat,zaI]
 have e2:(j+1)*sz=j*sz+(f x).length:=by rw [hx,zaV]
 have e1:(l.length+1)*sz=(j+1)*sz+((l.drop j).flatMap f).length:=by rw [hd,<-zaX];congr 1;omega
 have h1:(j+1)*sz+((l.drop j).flatMap f).length<=cs.length:=by rw [<-e1];exact hc
 have h2:j*sz+(f x).length<=(abk cs ((j+1)*sz) ((l.drop j).flatMap f)).length:=by rw [afi h1,<-e2];omega
 exact⟨h1,h2,by rw [afi h2,afi h1]⟩
theorem ins_room(hE:Enc f sz)(l:List α)(x:α)(j:Nat)(hj:j<=l.length)(cs:List Value)(hc:(l.length+1)*sz<=cs.length)(ht:cs.take (l.length*sz)=l.flatMap f):
  (abk (abk cs ((j+1)*sz) ((l.drop j).flatMap f)) (j*sz) (f x)).take ((l.length+1)*sz)=(l.take j++x::l.drop j).flatMap f:=by
 obtain⟨h1,h2,h3⟩:=ins_room_len hE l x j hj cs hc;have hx:=hE.len x;have hd:((l.drop j).flatMap f).length=(l.length-j)*sz:=by rw [hE.flat,zaI]
 have e2:(j+1)*sz=j*sz+(f x).length:=by rw [hx,zaV]
 have e1:(l.length+1)*sz=(j+1)*sz+((l.drop j).flatMap f).length:=by rw [hd,<-zaX];congr 1;omega
 have eA:(abk cs ((j+1)*sz) ((l.drop j).flatMap f)).take (j*sz)=(l.take j).flatMap f:=by
  rw [splice_take h1 (zak _ (by omega)),<-take_flat hE l j hj,<-ht,List.take_take,zaK (zak _ hj)]
 have eC:(abk cs ((j+1)*sz) ((l.drop j).flatMap f)).take ((l.length+1)*sz)=cs.take ((j+1)*sz)++(l.drop j).flatMap f:=by rw [e1,ajq h1]
 have hlt:(cs.take ((j+1)*sz)).length=(j+1)*sz:=by rw [zac];omega
 have eD:((abk cs ((j+1)*sz) ((l.drop j).flatMap f)).drop ((j+1)*sz)).take ((l.drop j).flatMap f).length=(l.drop j).flatMap f:=by
  rw [List.take_drop,<-e1,eC]
  conv=>lhs;arg 1;rw [<-hlt]
  rw [List.drop_left]
 generalize hq:abk cs ((j+1)*sz) ((l.drop j).flatMap f)=cs1 at*;unfold abk;have hlA:(cs1.take (j*sz)++f x).length=(j+1)*sz:=by rw [zae,zac,e2];omega
 rw [<-e2,e1,<-hlA,List.take_append,zaG (by omega),Nat.add_sub_cancel_left,hlA,eD,eA,zaF,zar,zaC]
theorem del_cells(hE:Enc f sz)(l:List α)(i j:Nat)(hij:i<=j)(hj:j<=l.length)(cs zs:List Value)(hc:l.length*sz<=cs.length)(hz:zs.length=(j-i)*sz)(ht:cs.take (l.length*sz)=l.flatMap f):
  i*sz+((l.drop j).flatMap f).length<=cs.length/\(i+(l.length-j))*sz+zs.length<=(abk cs (i*sz) ((l.drop j).flatMap f)).length/\
  (abk (abk cs (i*sz) ((l.drop j).flatMap f)) ((i+(l.length-j))*sz) zs).length=cs.length/\
  (abk (abk cs (i*sz) ((l.drop j).flatMap f)) ((i+(l.length-j))*sz) zs).take ((i+(l.length-j))*sz)=(l.take i++l.drop j).flatMap f:=by
 have hd:((l.drop j).flatMap f).length=(l.length-j)*sz:=by rw [hE.flat,zaI]
 have e1:(i+(l.length-j))*sz=i*sz+((l.drop j).flatMap f).length:=by rw [hd,zaX]
 have h1:i*sz+((l.drop j).flatMap f).length<=cs.length:=by rw [<-e1];exact zau (zak _ (by omega)) hc
 have h2:(i+(l.length-j))*sz+zs.length<=(abk cs (i*sz) ((l.drop j).flatMap f)).length:=by
  rw [afi h1,hz,<-zaX];exact zau (zak _ (by omega)) hc
 refine⟨h1,h2,by rw [afi h2,afi h1], ?_⟩
 rw [splice_take h2 (zab _),e1,ajq h1,zaF,<-take_flat hE l i (by omega),<-ht,List.take_take,zaK (zak _ (by omega))]
end
end Go.Wk
namespace Go.Px
open Go.Wk
def adq(c:UInt8):Bool:=c==32||c==9
def aib(c:UInt8):Bool:=(decide (c<32)&&c !=9)||c==127
def letterB(c:UInt8):Bool:=(decide (97<=c)&&decide (c<=122))||(decide (65<=c)&&decide (c<=90))
def digitB(c:UInt8):Bool:=decide (48<=c)&&decide (c<=57)
def aey(c:UInt8):Bool:=letterB c||digitB c||c==45||c==46||c==33||c==37||c==42||c==95||c==43||c==39||c==126||c==96
def abi(c:UInt8):UInt8:=if 65<=c/\c<=90 then c+32 else c
def agk(c:UInt8):UInt8:=if 97<=c/\c<=122 then c-32 else c
def aiv(p:UInt8->Bool):List UInt8->Nat
 |[]=>0
 |c::l=>if p c then aiv p l+1 else 0
def aie(i:Int)(n:Nat):Nat:=(min (max i 0) (n:Int)).toNat
def skipL(p:UInt8->Bool)(s:List UInt8)(i:Int):Nat:=aie i s.length+aiv p (s.drop (aie i s.length))
theorem span_le(p:UInt8->Bool):∀l,aiv p l<=l.length
 |[]=>Nat.le_refl _
 |c::l=>by simp only [aiv];have:=span_le p l;split<;>simp<;>omega
theorem clampN_le(i:Int)(n:Nat):aie i n<=n:=by unfold aie;omega
theorem clampN_of_nat(k n:Nat)(h:k<=n):aie (k:Int) n=k:=by unfold aie;omega
theorem drop_at(s:List UInt8)(k:Nat)(h:k<s.length):s.drop k=at_ s k::s.drop (k+1):=by
 rw [List.drop_eq_getElem_cons h];simp [at_,h]
theorem acs(p:UInt8->Prop)(h:∀i:Fin 256,p (UInt8.ofFin i)):∀c,p c:=fun c=>h c.toFin
set_option maxRecDepth 10000
def aim(c:UInt8):Bool:=decide (32<=c)&&decide (c<=126)
def isTok(s:List UInt8):Bool:= !s.isEmpty&&s.all aey
theorem span_eq_iff(p:UInt8->Bool):∀l,aiv p l=l.length↔l.all p=true
 |[]=>by simp [aiv]
 |c::l=>by
  have h1:=span_eq_iff p l;have h2:=span_le p l;simp only [aiv,List.length_cons,List.all_cons,Bool.and_eq_true];split
  ·rename_i hp;simp [hp,h1]
  ·rename_i hp;simp [hp]
theorem tok_iff(s:List UInt8):(s≠[]/\(skipL aey s 0:Int)=(s.length:Int))↔isTok s=true:=by
 have h:=span_eq_iff aey s;have e:skipL aey s 0=aiv aey s:=by
  have h0:aie 0 s.length=0:=by unfold aie;omega
  unfold skipL;rw [h0];simp
 rw [e];unfold isTok;simp only [Bool.and_eq_true,Bool.not_eq_true',List.isEmpty_eq_false_iff,<-h];constructor
 ·rintro⟨a,b⟩;exact⟨a,by omega⟩
 ·rintro⟨a,b⟩;exact⟨a,by omega⟩
theorem take_snoc(s:List UInt8)(k:Nat)(h:k<s.length):s.take (k+1)=s.take k++[at_ s k]:=by
 rw [List.take_succ_eq_append_getElem h];simp [at_,h]
def ahe(s:List UInt8):List UInt8:=s.map abi
def ixb(p:UInt8->Bool):List UInt8->Int
 |[]=> -1
 |b::l=>if p b then 0 else if ixb p l= -1 then-1 else ixb p l+1
theorem ixb_ge(p:UInt8->Bool):∀l,-1<=ixb p l
 |[]=>by simp [ixb]
 |b::l=>by have:=ixb_ge p l;unfold ixb;split;(·omega);(·split<;>omega)
theorem ixb_span(p:UInt8->Bool):∀l,ixb p l=if aiv (fun c=> !p c) l=l.length then(-1:Int)else(aiv (fun c=> !p c) l:Int)
 |[]=>by simp [ixb,aiv]
 |b::l=>by
  have ih:=ixb_span p l;have hle:=span_le (fun c=> !p c) l;unfold ixb aiv;cases hp:p b
  ·simp only [Bool.not_false,if_true,Bool.false_eq_true,if_false,List.length_cons];rw [ih];by_cases h:aiv (fun c=> !p c) l=l.length
   ·rw [if_pos h,if_pos rfl,if_pos (by omega)]
   ·rw [if_neg h,if_neg (by omega),if_neg (by omega)];omega
  ·simp
theorem ixb_spec(p:UInt8->Bool)(l:List UInt8):(ixb p l= -1/\aiv (fun c=> !p c) l=l.length)\/(0<=ixb p l/\ixb p l<(l.length:Int)/\ixb p l=(aiv (fun c=> !p c) l:Int)):=by
 have:=span_le (fun c=> !p c) l
 rw [ixb_span];split
 ·exact .inl ⟨rfl,by assumption⟩
 ·exact .inr ⟨by omega,by omega,rfl⟩
theorem indexByte_ixb(c:UInt8):∀l,Lib.indexByte l c=ixb (·==c) l
 |[]=>rfl
 |b::l=>by unfold Lib.indexByte ixb;rw [indexByte_ixb c l];simp
def lixb(p:UInt8->Bool):List UInt8->Int
 |[]=> -1
 |b::l=>if lixb p l= -1 then(if p b then 0 else-1)else lixb p l+1
theorem lixb_snoc(p:UInt8->Bool)(b:UInt8):∀l:List UInt8,lixb p (l++[b])=if p b then(l.length:Int)else lixb p l
 |[]=>by simp [lixb]
 |a::l=>by
  rw [List.cons_append,lixb,lixb_snoc p b l];cases hp:p b
  ·simp [lixb]
  ·simp
theorem lastIdx_lixb(s:List UInt8)(c:UInt8):∀k:Nat,k<=s.length->Lib.lastIdx ⟨s.toArray⟩ (c.toNat:Int) k=lixb (·==c) (s.take k)
 |0,_=>by simp [Lib.lastIdx,lixb]
 |k+1,h=>by
  rw [take_snoc s k (by omega),lixb_snoc,Lib.lastIdx,lastIdx_lixb s c k (by omega)];have e:(⟨s.toArray⟩:ByteArray).data[k]! =at_ s k:=by simp [at_,show k<s.length by omega]
  rw [e];by_cases hc:at_ s k=c
  ·rw [if_pos (by rw [hc]),if_pos (by simp [hc])];simp;omega
  ·rw [if_neg (fun h=>hc (UInt8.toNat_inj.1 (by omega))),if_neg (by simpa using hc)]
theorem lastIndexByte_lixb(s:List UInt8)(c:UInt8):Lib.lastIndexByte ⟨s.toArray⟩ (c.toNat:Int)=lixb (·==c) s:=by
 unfold Lib.lastIndexByte
 have:=lastIdx_lixb s c s.length (Nat.le_refl _)
 rw [List.take_length]at this;exact this
theorem sub_len(l:List UInt8)(i j:Int):(sub l i j).length=min (j.toNat-i.toNat) (l.length-i.toNat):=by simp [sub]
theorem sub_le(s:List UInt8)(i j:Int):(sub s i j).length<=s.length:=by rw [sub_len];omega
theorem hp_grow{w:World}(k:Nat)(os:Array Obj):Hp w [] [] (Sort.grow (w.drewN k) os):=Hp.ofBelow ⟨rfl,rfl,rfl,by simp [Sort.grow,World.drewN],fun k hk=>by
 have:k<w.heap.size:=hk
 show(w.heap++os)[k]? =w.heap[k]?
 rw [Array.getElem?_append_left this]⟩
abbrev Pce:=Int×List UInt8
abbrev Prm:=List UInt8×List UInt8×Bool
section
variable (s : List UInt8) (sep : UInt8) (f k b : Nat) (acc : List Pce)
end
open Go.Wk
section
variable (s : List UInt8) (f k : Nat) (acc : List UInt8)
end
abbrev lowP(s:List UInt8):List UInt8:=s.map abi
def getP(l:List Prm)(name:List UInt8):List UInt8×Bool:=match l.find? (fun p=>lowP p.1==lowP name)with|some p=>(p.2.1,true)|none=>([],false)
theorem el_nat{α:Type}[Inhabited α](l:List α)(k:Nat)(h:k<l.length):el l (k:Int)=l[k]:=by simp [el,h]
end Go.Px
