/-
  The law ProxyKnown holds: the card of its second form (part 1 of 23).
-/
import Derived.Tactics2
import Derived.Scope
import Derived.Below
import Derived.KernelRfl
import Derived.RangeFuncCalls
import Derived.RangeFuncLeaves
import Derived.TacticsIn
import Derived.Laws.Strings3
import Derived.Laws.Concat
import Derived.Laws.Small
import Derived.Laws.Slices
import Derived.Laws.BitsLemmas
import Derived.Laws.OwnMore
import Derived.Laws.AppendOwn
import Derived.Laws.CopyRow
import Derived.StillTail
import Derived.OrdersHeld
import Derived.Laws.BytesString
import Derived.Laws.MakeOwn
import Derived.WalkSmall
import Derived.Laws.Cover3
import Derived.Laws.StructEq
import Derived.Lib.AppendZerosOnto
import Derived.Lib.Overlaps
import Derived.Lib.Bytealg
import Derived.Lib.IndexAny
import Derived.Lib.LastIndexByte
import Derived.Lib.IndexMore
import Derived.Lib.SlTrimSet
import Derived.Lib.TrimByte
import Derived.Lib.Strings
import Derived.Lib.ItoaNum
import Derived.Lib.Join
import Derived.Sort.Grow
import Derived.Lib.SplitLaws
import Derived.Lib.Split
import Derived.RangeFuncRecord
import Derived.Lib.AppendStr
import Derived.Lib.Builder
import Derived.OrdersIn
set_option linter.constructorNameAsVariable false
set_option linter.unusedVariables false
namespace Go.Wk
open Go.RowKit (Below)
open Nat renaming beq -> zac, ble -> zad, blt -> zak
def upd(F:Nat->Value)(d:Nat)(v:Value):Nat->Value:=fun t=>bif zac t d then v else F t
structure Md where
 n:Nat
 D:List Deferred
 ro:Option (Option Nat)
def fr(n:Md)(F:Nat->Value):Act:={tmps:=Array.ofFn (n:=n.n) fun i=>F i.val,defers:=n.D}
def evn(n:Md)(F:Nat->Value):Operand->Value
 |.tmp t=>bif zak t n.n then F t else undef
 |.const v=>v
 |.global g=>.pointer (some ⟨g,0,none⟩)
 |.func f=>.func (.func f) #[] #[]
def argF(l:List Value):Nat->Value:=fun t=>l.getD t undef
theorem _root_.Go.krf.{u}{α:Sort u}{a b:α}(h:a=b:=by kernel_rfl):a=b:=h
theorem nzz{α:Type}{x:α}{C:Prop}(h:none=some x):C:=nomatch h
theorem lsz{p:Prop}(h:p:=by(try simp only [List.length_set])<;>first|rfl|omega):p:=h
theorem lsy{p:Prop}(h:p:=by(try simp only [List.length_set])<;>first|rfl|omega|simp):p:=h
theorem nbe{a b:Nat}(h:zad a b=true:=by rfl):a<=b:=Nat.le_of_ble_eq_true h
theorem ksf{α:Type}{a b:α}(h:a=b:=by kernel_rfl):some a=some b:=congrArg some h
theorem omg{p:Prop}(h:p:=by omega):p:=h
theorem fr_get(n:Md)(F:Nat->Value)(t:Nat):(fr n F).tmps.getD t undef=bif zak t n.n then F t else undef:=by
 unfold fr;by_cases h:t<n.n
 ·have hb:zak t n.n=true:=by simpa [Nat.blt_eq] using h
  simp [h,hb]
 ·have hb:zak t n.n=false:=by
   cases hx:zak t n.n
   ·rfl
   ·exact absurd (by simpa [Nat.blt_eq] using hx) h
  simp [h,hb]
theorem aar(n:Md)(F:Nat->Value):(fr n F).eval=evn n F:=by
 funext o
 cases o with
 |tmp t=>exact fr_get n F t
 |const v=>rfl
 |global g=>rfl
 |func f=>rfl
theorem upd_same(F:Nat->Value)(d:Nat)(v:Value):upd F d v d=v:=by simp [upd]
theorem upd_ne(F:Nat->Value)(d:Nat)(v:Value)(t:Nat)(h:t≠d):upd F d v t=F t:=by
 have:zac t d=false:=by
  cases hx:zac t d
  ·rfl
  ·exact absurd (Nat.eq_of_beq_eq_true hx) h
 simp [upd,this]
theorem fr_put(n:Md)(F:Nat->Value)(d:Nat)(v:Value):(fr n F).put (some d) v=fr n (upd F d v):=by
 unfold fr Act.put;simp only [Act.mk.injEq,and_true];apply Array.ext
 ·simp
 ·intro i h1 h2;simp at h1 h2
  by_cases hid:i=d
  ·subst hid;simp [upd_same]
  ·rw [Array.getElem_setIfInBounds_ne (by simpa using h1) (fun e=>hid e.symm)];simp [upd_ne _ _ _ _ hid]
theorem fr_args(args:List Value)(n:Nat)(h:args.length<=n):
  ({tmps:=args.toArray++Array.replicate (n-args.toArray.size) undef,defers:=[]}:Act)=fr ⟨n,[],none⟩ (argF args):=by
 unfold fr argF;simp only [Act.mk.injEq,and_true];apply Array.ext
 ·simp;omega
 ·intro i h1 h2;simp at h1 h2
  simp only [Array.getElem_append,Array.getElem_ofFn,List.getElem_toArray,Array.getElem_replicate];by_cases hi:i<args.length
  ·simp [hi]
  ·simp [hi]
abbrev fen(x:Option Nat):Fence:={Fence.wide with round:=x}
def WR(P:Program)(r:Option (Option Nat))(ops:Array Oper)(Q:Exit->Act->World->Prop)(l:List Oper)(a:Act)(w:World):Prop:=
 match r with
 |none=>wpList P ops Q l a w
 |some x=>wpListIn (fen x) 0 P ops Q l a w
def CC(P:Program)(r:Option (Option Nat))(Q:Exit->Act->World->Prop)(c:Code)(a:Act)(w:World):Prop:=
 match r with
 |none=>c.wp P Q a w
 |some x=>c.wpIn (fen x) 0 P Q a w
def W(P:Program)(n:Md)(ops:Array Oper)(Q:Exit->Act->World->Prop)(l:List Oper)(F:Nat->Value)(w:World):Prop:=WR P n.ro ops Q l (fr n F) w
def C(P:Program)(n:Md)(Q:Exit->Act->World->Prop)(c:Code)(F:Nat->Value)(w:World):Prop:=CC P n.ro Q c (fr n F) w
def SeqQ(P:Program)(n:Md)(y:Code)(Q:Exit->Act->World->Prop):Exit->Act->World->Prop:=Exit.then (CC P n.ro Q y) Q
def CR(P:Program)(f:FuncId)(args:List Value)(w:World)(R:Value->World->Prop):Prop:=
 Calls P f args.toArray w fun e w'=>∃v,e=.returned v/\R v w'
theorem CR.mono{P:Program}{f:FuncId}{args:List Value}{w:World}{R R':Value->World->Prop}(h:CR P f args w R)(hr:∀v w',R v w'->R' v w'):CR P f args w R':=
 Calls.mono h fun _ _ ⟨v,e,r⟩=>⟨v,e,hr v _ r⟩
section
variable {P : Program} {n : Md} {ops : Array Oper} {Q : Exit -> Act -> World -> Prop} {F : Nat -> Value} {w : World}
theorem cc_mono{r:Option (Option Nat)}{c:Code}{Q':Exit->Act->World->Prop}{a:Act}(h:CC P r Q c a w)(hq:∀e a w,Q e a w->Q' e a w):CC P r Q' c a w:=by
 cases r with
 |none=>exact wp_mono h hq
 |some x=>exact wpIn_mono h hq
theorem enter{k:Nat}{f:FuncId}{fn:Func}{c:Code}{args:List Value}{R:Value->World->Prop}(hf:P.funcs[f]? =some fn)(hb:fn.body=some c)(hn:fn.ntmps=k)(hl:args.length<=k)
  (h:C P ⟨k,[],none⟩ (bodyPost P fn fun e w'=>∃v,e=.returned v/\R v w') c (argF args) w):CR P f args w R:=by
 refine calls_of_wp hf hb ?_;rw [hn,fr_args args k hl];exact h
theorem c_seq{x y:Code}(h:C P n (SeqQ P n y Q) x F w):C P n Q (.seq x y) F w:=by
 obtain⟨k,D,ro⟩:=n;cases ro with
 |none=>exact wp_seq h
 |some r=>exact wpIn_seq h
theorem c_skip(h:Q .normal (fr n F) w):C P n Q .skip F w:=by
 obtain⟨k,D,ro⟩:=n;cases ro with
 |none=>exact wp_skip h
 |some r=>exact wpIn_skip h
theorem c_label{l:Nat}(h:Q .normal (fr n F) w):C P n Q (.label l) F w:=by
 obtain⟨k,D,ro⟩:=n;cases ro with
 |none=>exact wp_label h
 |some r=>exact wpIn_label h
theorem c_exit{id:Nat}(h:Q (.exit id) (fr n F) w):C P n Q (.exit id) F w:=by
 obtain⟨k,D,ro⟩:=n;cases ro with
 |none=>exact wp_exit h
 |some r=>exact wpIn_exit h
theorem c_ret(h:Q .ret (fr n F) w):C P n Q .ret F w:=by
 obtain⟨k,D,ro⟩:=n;cases ro with
 |none=>exact wp_ret h
 |some r=>exact wpIn_ret h
theorem c_block{id:Nat}{c:Code}(h:C P n (Exit.inBlock id Q) c F w):C P n Q (.block id c) F w:=by
 obtain⟨k,D,ro⟩:=n;cases ro with
 |none=>exact wp_block h
 |some r=>exact wpIn_block h
theorem c_scope{k:Nat}{D:List Deferred}{c:Code}(h:C P ⟨k,D,none⟩ (Exit.noGoto Q) c F w):C P ⟨k,D,none⟩ Q (.scope c) F w:=wp_scope_straight h
theorem n_normal(h:Q .normal (fr n F) w):Exit.noGoto Q .normal (fr n F) w:=h
theorem n_ret(h:Q .ret (fr n F) w):Exit.noGoto Q .ret (fr n F) w:=h
theorem n_exit{id:Nat}(h:Q (.exit id) (fr n F) w):Exit.noGoto Q (.exit id) (fr n F) w:=h
theorem c_region{id:Nat}{l:List Oper}(h:W P n l.toArray Q l F w):C P n Q (.region id l.toArray false) F w:=by
 obtain⟨k,D,ro⟩:=n;cases ro with
 |none=>exact wp_region_lit h
 |some r=>exact wpIn_region_lit h
theorem c_true{c:Operand}{x y:Code}(hc:evn n F c=.bool true)(h:C P n Q x F w):C P n Q (.cond c x y) F w:=by
 obtain⟨k,D,ro⟩:=n;cases ro with
 |none=>exact wp_cond_true (by rw [aar];exact hc) h
 |some r=>exact wpIn_cond_true (by rw [aar];exact hc) h
theorem c_false{c:Operand}{x y:Code}(hc:evn n F c=.bool false)(h:C P n Q y F w):C P n Q (.cond c x y) F w:=by
 obtain⟨k,D,ro⟩:=n;cases ro with
 |none=>exact wp_cond_false (by rw [aar];exact hc) h
 |some r=>exact wpIn_cond_false (by rw [aar];exact hc) h
theorem q_next{k k':Nat}{D D':List Deferred}{ro:Option (Option Nat)}{y:Code}(h:C P ⟨k,D,ro⟩ Q y F w):SeqQ P ⟨k',D',ro⟩ y Q .normal (fr ⟨k,D,ro⟩ F) w:=h
theorem s_ret{m:Md}{y:Code}(h:Q .ret (fr n F) w):SeqQ P m y Q .ret (fr n F) w:=h
theorem s_exit{m:Md}{y:Code}{id:Nat}(h:Q (.exit id) (fr n F) w):SeqQ P m y Q (.exit id) (fr n F) w:=h
theorem q_loop{K:Act->World->Prop}(h:K (fr n F) w):Exit.then K Q .normal (fr n F) w:=h
theorem q_ret{K:Act->World->Prop}(h:Q .ret (fr n F) w):Exit.then K Q .ret (fr n F) w:=h
theorem q_exit{K:Act->World->Prop}{id:Nat}(h:Q (.exit id) (fr n F) w):Exit.then K Q (.exit id) (fr n F) w:=h
theorem b_normal{id:Nat}(h:Q .normal (fr n F) w):Exit.inBlock id Q .normal (fr n F) w:=h
theorem b_ret{id:Nat}(h:Q .ret (fr n F) w):Exit.inBlock id Q .ret (fr n F) w:=h
theorem b_here{id:Nat}(h:Q .normal (fr n F) w):Exit.inBlock id Q (.exit id) (fr n F) w:=by simpa [Exit.inBlock] using h
theorem b_past{id id':Nat}(hne:zac id' id=false)(h:Q (.exit id') (fr n F) w):Exit.inBlock id Q (.exit id') (fr n F) w:=by
 have:¬id'=id:=fun e=>by subst e;simp at hne
 simpa [Exit.inBlock,this] using h
def app:List (Nat×Value)->(Nat->Value)->Nat->Value
 |[],G=>G
 |(t,v)::l,G=>upd (app l G) t v
def keepL(lv:List Nat)(A G:Nat->Value):Nat->Value:=fun t=>bif lv.any (zac t)then A t else G t
theorem keepL_eq{A:Nat->Value}:∀{lv:List Nat} {F:Nat->Value},lv.map F=lv.map A->keepL lv A F=F:=by
 intro lv F h
 funext t
 unfold keepL;cases ht:lv.any (zac t)with
 |false=>rfl
 |true=>
  obtain⟨x,hx,hb⟩:=List.any_eq_true.1 ht
  have:=Nat.eq_of_beq_eq_true hb
  subst this;exact((List.map_inj_left.1 h) t hx).symm
theorem cut{σ:Type}{x y:Code}(lv:List Nat)(L:σ->List (Nat×Value))(wd:σ->World->Prop)
  (hx:C P n (Exit.then (fun a' w'=>∃s' F',a'=fr n F'/\lv.map F'=lv.map (app (L s') F)/\wd s' w') Q) x F w)
  (hy:∀s w G,wd s w->C P n Q y (keepL lv (app (L s) F) G) w):C P n Q (.seq x y) F w:=by
 refine c_seq (cc_mono hx fun e a w' h=> ?_);cases e with
 |normal=>
  obtain⟨s',F',rfl,ha,hw⟩:=h
  have:=hy s' w' F' hw
  rw [keepL_eq ha]at this;exact this
 |exit id=>exact h
 |goto l=>exact h
 |ret=>exact h
 |panic ch=>exact h
 |outgrown=>exact h
theorem w_nil(h:Q .normal (fr n F) w):W P n ops Q [] F w:=by
 obtain⟨k,D,ro⟩:=n;cases ro with
 |none=>exact h
 |some r=>exact h
theorem abm{o:Oper}{ρ:Operand->Value}{x:Next}{w':World}(ro:Option Nat)(h:(execOp ρ o).run P w=.ok x w')(hx:∀d,x≠.defer d):o.semAt ro ρ=execOp ρ o:=by
 refine Oper.semAt_eq ro ρ o fun c hc=> ?_
 unfold execOp at h;rw [hc]at h;simp only [Sem.run_bind]at h;cases hr:(resolve ρ c o.type).run P w with
 |ok d w1=>rw [hr]at h;simp [Result.andThen]at h;exact hx d h.1.symm
 |halt d w1=>rw [hr]at h;simp [Result.andThen]at h
theorem abt{o:Oper}{rest:List Oper}{d:Nat}{v:Value}{w':World}(hg:o.guard=none)(hd:o.dst=some d)
  (hrun:(execOp (evn n F) o).run P w=.ok (.value v) w') (h:W P n ops Q rest (upd F d v) w'):W P n ops Q (o::rest) F w:=by
 obtain⟨k,D,ro⟩:=n;cases ro with
 |none=>
  refine wpList_plain hg fun K hK=> ?_
  unfold Oper.wp;rw [aar,hrun,Oper.upon_value,hd];refine hK _ _ ?_;rw [fr_put];exact h
 |some r=>
  refine wpListIn_plain hg fun K hK=>⟨fun _ _=>trivial, ?_⟩
  rw [aar,abm _ hrun (fun d e=>by cases e),hrun,Oper.uponIn_value,hd];refine hK _ _ ?_;rw [fr_put];exact h
theorem w_skip{o:Oper}{rest:List Oper}{w':World}(hg:o.guard=none)(hd:o.dst=none)
  (hrun:(execOp (evn n F) o).run P w=.ok .skip w') (h:W P n ops Q rest F w'):W P n ops Q (o::rest) F w:=by
 obtain⟨k,D,ro⟩:=n;cases ro with
 |none=>
  refine wpList_plain hg fun K hK=> ?_
  unfold Oper.wp;rw [aar,hrun,Oper.upon_skip,hd];exact hK _ _ h
 |some r=>
  refine wpListIn_plain hg fun K hK=>⟨fun _ _=>trivial, ?_⟩
  rw [aar,abm _ hrun (fun d e=>by cases e),hrun,Oper.uponIn_skip,hd];exact hK _ _ h
theorem w_enter{o:Oper}{rest:List Oper}{f:FuncId}{vs:List Value}{R:Value->World->Prop}(hg:o.guard=none)
  (hrun:(execOp (evn n F) o).run P w=.ok (.enter f vs.toArray) w) (hc:CR P f vs w R) (h:∀v w',R v w'->WR P n.ro ops Q rest ((fr n F).put o.dst v) w'):W P n ops Q (o::rest) F w:=by
 obtain⟨k,D,ro⟩:=n;cases ro with
 |none=>
  refine wpList_plain hg fun K hK=> ?_
  unfold Oper.wp;rw [aar,hrun,Oper.upon_enter];refine Calls.mono hc ?_;rintro e w' ⟨v,rfl,hv⟩
  exact hK _ _ (h v w' hv)
 |some r=>
  refine wpListIn_plain hg fun K hK=>⟨fun _ _=>trivial, ?_⟩
  rw [aar,abm _ hrun (fun d e=>by cases e),hrun,Oper.uponIn_enter];refine⟨fun h=>absurd h Bool.false_ne_true, ?_⟩
  refine(callsIn_wide (n:=0)).2 (Calls.mono hc ?_)
  rintro e w' ⟨v,rfl,hv⟩
  exact hK _ _ (h v w' hv)
theorem yielded_fr(ops:Array Oper)(g:Nat)(dg:Nat)(h1:(ops[g]?).bind (·.dst)=some dg)(h3:zak dg n.n=true):
  yielded ops (fr n F).tmps g=match F dg with|.bool b=>some b|_=>none:=by
 have hlt:dg<n.n:=by simpa [Nat.blt_eq] using h3
 unfold yielded;simp [h1,fr,hlt]
 cases F dg<;>rfl
theorem w_gyes{dst:Option Nat}{op:Op}{ty:TypeId}{pos:String}{after:Array Edge}{g:Nat}{b:Bool}{rest:List Oper}(dg:Nat)
  (h1:(ops[g]?).bind (·.dst)=some dg) (h3:zak dg n.n=true) (hv:F dg=.bool b)
  (h:W P n ops Q (⟨dst,op,ty,pos,after,none⟩::rest) F w):W P n ops Q (⟨dst,op,ty,pos,after,some (g,b)⟩::rest) F w:=by
 have hw:Region.wanted ⟨dst,op,ty,pos,after,some (g,b)⟩ (yielded ops (fr n F).tmps)=true:=by
  unfold Region.wanted;simp only [yielded_fr ops g dg h1 h3,hv];simp
 obtain⟨k,D,ro⟩:=n;cases ro with
 |none=>
  simp only [W,WR]at h⊢;unfold wpList at h⊢;rw [if_pos hw];rw [if_pos (by simp [Region.wanted])]at h;exact h
 |some r=>
  simp only [W,WR]at h⊢;unfold wpListIn at h⊢;rw [if_pos hw];rw [if_pos (by simp [Region.wanted])]at h;exact h
theorem w_gno{d:Nat}{op:Op}{ty:TypeId}{pos:String}{after:Array Edge}{g:Nat}{b:Bool}{rest:List Oper}(dg:Nat)
  (h1:(ops[g]?).bind (·.dst)=some dg) (h3:zak dg n.n=true) (hv:F dg=.bool (!b))
  (h:W P n ops Q rest (upd F d undef) w):W P n ops Q (⟨some d,op,ty,pos,after,some (g,b)⟩::rest) F w:=by
 have hw:¬Region.wanted ⟨some d,op,ty,pos,after,some (g,b)⟩ (yielded ops (fr n F).tmps)=true:=by
  unfold Region.wanted;simp only [yielded_fr ops g dg h1 h3,hv];simp
 obtain⟨k,D,ro⟩:=n;cases ro with
 |none=>
  simp only [W,WR]at h⊢;unfold wpList;rw [if_neg hw];show wpList P ops Q rest ((fr ⟨k,D,none⟩ F).put (some d) undef) w;rw [fr_put];exact h
 |some r=>
  simp only [W,WR]at h⊢;unfold wpListIn;rw [if_neg hw];refine⟨fun _ _=>trivial, ?_⟩
  show wpListIn (fen r) 0 P ops Q rest ((fr ⟨k,D,some r⟩ F).put (some d) undef) w;rw [fr_put];exact h
theorem w_gun{d:Nat}{op:Op}{ty:TypeId}{pos:String}{after:Array Edge}{g:Nat}{b:Bool}{rest:List Oper}(dg:Nat)
  (h1:(ops[g]?).bind (·.dst)=some dg) (h3:zak dg n.n=true) (hv:F dg=undef)
  (h:W P n ops Q rest (upd F d undef) w):W P n ops Q (⟨some d,op,ty,pos,after,some (g,b)⟩::rest) F w:=by
 have hw:¬Region.wanted ⟨some d,op,ty,pos,after,some (g,b)⟩ (yielded ops (fr n F).tmps)=true:=by
  unfold Region.wanted;simp only [yielded_fr ops g dg h1 h3,hv];simp [undef]
 obtain⟨k,D,ro⟩:=n;cases ro with
 |none=>
  simp only [W,WR]at h⊢;unfold wpList;rw [if_neg hw];show wpList P ops Q rest ((fr ⟨k,D,none⟩ F).put (some d) undef) w;rw [fr_put];exact h
 |some r=>
  simp only [W,WR]at h⊢;unfold wpListIn;rw [if_neg hw];refine⟨fun _ _=>trivial, ?_⟩
  show wpListIn (fen r) 0 P ops Q rest ((fr ⟨k,D,some r⟩ F).put (some d) undef) w;rw [fr_put];exact h
section
variable {d : Nat} {ty : TypeId} {pos : String} {after : Array Edge} {rest : List Oper}
theorem w_move{x:Operand}(v:Value)(hx:evn n F x=v)(h:W P n ops Q rest (upd F d v) w):W P n ops Q (⟨some d,.move x,ty,pos,after,none⟩::rest) F w:=
 abt rfl rfl (by rw [<-hx];rfl) h
theorem w_move_bool{x:Operand}(b:Bool)(hx:evn n F x=.bool b)(ht:b=true->W P n ops Q rest (upd F d (.bool true)) w)(hf:b=false->W P n ops Q rest (upd F d (.bool false)) w):
  W P n ops Q (⟨some d,.move x,ty,pos,after,none⟩::rest) F w:=by
 cases b with
 |true=>exact w_move _ hx (ht rfl)
 |false=>exact w_move _ hx (hf rfl)
theorem w_move_dec{x:Operand}(p:Prop)[Decidable p](hx:evn n F x=.bool (decide p))(ht:p->W P n ops Q rest (upd F d (.bool true)) w)(hf:¬p->W P n ops Q rest (upd F d (.bool false)) w):
  W P n ops Q (⟨some d,.move x,ty,pos,after,none⟩::rest) F w:=
 w_move_bool _ hx (fun h=>ht (of_decide_eq_true h)) (fun h=>hf (of_decide_eq_false h))
theorem x_pick{c a b:Operand}(t:Bool)(v:Value)(hc:evn n F c=.bool t)(hv:(bif t then evn n F a else evn n F b)=v):(execOp (evn n F) (⟨some d,.pick c a b,ty,pos,after,none⟩:Oper)).run P w=.ok (.value v) w:=by
 simp only [execOp,hc];rw [<-hv];cases t<;>rfl
theorem x_not{x:Operand}{t:TypeId}(b:Bool)(hx:evn n F x=.bool b):(execOp (evn n F) (⟨some d,.unOp .not t x,ty,pos,after,none⟩:Oper)).run P w=.ok (.value (.bool (!b))) w:=by
 simp only [execOp,hx];rfl
structure ok64 (a:Int):Prop where
 lo: -9223372036854775808<=a
 hi:a<=9223372036854775807
theorem wrap64_id{x:Int}(h1: -9223372036854775808<=x)(h2:x<=9223372036854775807):IntKind.i64.wrap x=x:=by
 rw [IntKind.wrap_i64];omega
theorem x_add{x y:Operand}{t t':TypeId}(k:IntKind)(a b:Int)(hx:evn n F x=.int k a)(hy:evn n F y=.int k b):(execOp (evn n F) (⟨some d,.binOp .add t x y t',ty,pos,after,none⟩:Oper)).run P w=.ok (.value (.int k (k.wrap (a+b)))) w:=by
 simp only [execOp,hx,hy,binOp,ne_eq,not_true_eq_false,if_false];rfl
theorem x_sub{x y:Operand}{t t':TypeId}(k:IntKind)(a b:Int)(hx:evn n F x=.int k a)(hy:evn n F y=.int k b):(execOp (evn n F) (⟨some d,.binOp .sub t x y t',ty,pos,after,none⟩:Oper)).run P w=.ok (.value (.int k (k.wrap (a-b)))) w:=by
 simp only [execOp,hx,hy,binOp,ne_eq,not_true_eq_false,if_false];rfl
theorem x_mul{x y:Operand}{t t':TypeId}(k:IntKind)(a b:Int)(hx:evn n F x=.int k a)(hy:evn n F y=.int k b):(execOp (evn n F) (⟨some d,.binOp .mul t x y t',ty,pos,after,none⟩:Oper)).run P w=.ok (.value (.int k (k.wrap (a*b)))) w:=by
 simp only [execOp,hx,hy,binOp,ne_eq,not_true_eq_false,if_false];rfl
theorem x_lss{x y:Operand}{t t':TypeId}(k:IntKind)(a b:Int)(hx:evn n F x=.int k a)(hy:evn n F y=.int k b):(execOp (evn n F) (⟨some d,.binOp .lss t x y t',ty,pos,after,none⟩:Oper)).run P w=.ok (.value (.bool (decide (a<b)))) w:=by
 simp only [execOp,hx,hy,binOp,ne_eq,not_true_eq_false,if_false];rfl
theorem x_leq{x y:Operand}{t t':TypeId}(k:IntKind)(a b:Int)(hx:evn n F x=.int k a)(hy:evn n F y=.int k b):(execOp (evn n F) (⟨some d,.binOp .leq t x y t',ty,pos,after,none⟩:Oper)).run P w=.ok (.value (.bool (decide (a<=b)))) w:=by
 simp only [execOp,hx,hy,binOp,ne_eq,not_true_eq_false,if_false];rfl
theorem x_gtr{x y:Operand}{t t':TypeId}(k:IntKind)(a b:Int)(hx:evn n F x=.int k a)(hy:evn n F y=.int k b):(execOp (evn n F) (⟨some d,.binOp .gtr t x y t',ty,pos,after,none⟩:Oper)).run P w=.ok (.value (.bool (decide (b<a)))) w:=by
 simp only [execOp,hx,hy,binOp,ne_eq,not_true_eq_false,if_false];rfl
theorem x_geq{x y:Operand}{t t':TypeId}(k:IntKind)(a b:Int)(hx:evn n F x=.int k a)(hy:evn n F y=.int k b):(execOp (evn n F) (⟨some d,.binOp .geq t x y t',ty,pos,after,none⟩:Oper)).run P w=.ok (.value (.bool (decide (b<=a)))) w:=by
 simp only [execOp,hx,hy,binOp,ne_eq,not_true_eq_false,if_false];rfl
theorem x_eql{x y:Operand}{t t':TypeId}(k:IntKind)(a b:Int)(hx:evn n F x=.int k a)(hy:evn n F y=.int k b):(execOp (evn n F) (⟨some d,.binOp .eql t x y t',ty,pos,after,none⟩:Oper)).run P w=.ok (.value (.bool (decide (a=b)))) w:=by
 simp only [execOp,hx,hy,binOp,ne_eq,not_true_eq_false,if_false];rfl
theorem x_neq{x y:Operand}{t t':TypeId}(k:IntKind)(a b:Int)(hx:evn n F x=.int k a)(hy:evn n F y=.int k b):(execOp (evn n F) (⟨some d,.binOp .neq t x y t',ty,pos,after,none⟩:Oper)).run P w=.ok (.value (.bool (!decide (a=b)))) w:=by
 simp only [execOp,hx,hy,binOp,ne_eq,not_true_eq_false,if_false];rfl
end
end
attribute [irreducible] W C SeqQ WR CC
def at_(l:List UInt8)(i:Int):UInt8:=l.getD i.toNat 0
def sub(l:List UInt8)(i j:Int):List UInt8:=(l.drop i.toNat).take (j.toNat-i.toNat)
end Go.Wk
set_option linter.unusedSimpArgs false
namespace Go.Wk
open Bool renaming eq_iff_iff -> zau
def str(l:List UInt8):Value:=.string ⟨l.toArray⟩
def bt(c:UInt8):Value:=.int .u8 (c.toNat:Int)
def Enters(P : Program)(f : FuncId) : Prop := ∃ fn c, P.funcs[f]? = some fn /\ fn.body = some c /\ (fn.name == "runtime.NumGoroutine") = false
theorem Enters.run{P:Program}{f:FuncId}(h:Enters P f)(args:Array Value)(w:World):(callFunc f args).run P w=.ok (.enter f args) w:=by
 obtain⟨fn,c,h1,h2,h3⟩:=h;unfold callFunc;show Sem.run P (match P.funcs[f]? with|none=>_|some fn=>_) w=_;rw [h1];simp only [h3,h2];rfl
section
variable {P : Program} {n : Md} {ops : Array Oper} {Q : Exit -> Act -> World -> Prop} {F : Nat -> Value} {w : World}
theorem r_none'{kk:Nat}{ro:Option (Option Nat)}{fn:Func}{R:Value->World->Prop}(hr:fn.results= #[])(h:R (.tuple #[]) w):
  bodyPost P fn (fun e w'=>∃v,e=.returned v/\R v w') .normal (fr ⟨kk,[],ro⟩ F) w:=
 ⟨rfl,_,results_none hr _ _ _,_,rfl,h⟩
section
variable {d : Nat} {ty : TypeId} {pos : String} {after : Array Edge} {rest : List Oper}
theorem w_call{fo:Operand}{azq:Array Operand}{ats:Array TypeId}(f:FuncId)(cap:Array Value)(vs:List Value)(R:Value->World->Prop)(hE:Enters P f)
  (hf:evn n F fo=.func (.func f) #[] cap) (ha: #[]++azq.map (evn n F)++cap=vs.toArray) (hc:CR P f vs w R) (h:∀v w',R v w'->W P n ops Q rest (upd F d v) w'):
  W P n ops Q (⟨some d,.call ⟨.value fo,azq,ats⟩,ty,pos,after,none⟩::rest) F w:=by
 refine w_enter rfl ?_ hc (fun v w' hv=> ?_)
 ·simp only [execOp,resolve,hf,Deferred.ofValue];show Sem.run P (callFunc f (#[]++azq.map (evn n F)++cap)) w=_;rw [ha];exact hE.run _ _
 ·have:=h v w' hv
  unfold W at this;rw [<-fr_put]at this;exact this
theorem w_call0{fo:Operand}{azq:Array Operand}{ats:Array TypeId}(f:FuncId)(cap:Array Value)(vs:List Value)(R:Value->World->Prop)(hE:Enters P f)
  (hf:evn n F fo=.func (.func f) #[] cap) (ha: #[]++azq.map (evn n F)++cap=vs.toArray) (hc:CR P f vs w R) (h:∀v w',R v w'->W P n ops Q rest F w'):
  W P n ops Q (⟨none,.call ⟨.value fo,azq,ats⟩,ty,pos,after,none⟩::rest) F w:=by
 refine w_enter rfl ?_ hc (fun v w' hv=> ?_)
 ·simp only [execOp,resolve,hf,Deferred.ofValue];show Sem.run P (callFunc f (#[]++azq.map (evn n F)++cap)) w=_;rw [ha];exact hE.run _ _
 ·have:=h v w' hv
  unfold W at this;exact this
theorem x_len{x:Operand}{t:TypeId}(l:List UInt8)(ht:P.underlying t=some .string)(hx:evn n F x=str l):(execOp (evn n F) (⟨some d,.call ⟨.builtin .len, #[x], #[t]⟩,ty,pos,after,none⟩:Oper)).run P w=.ok (.value (.int .i64 (l.length:Int))) w:=by
 simp [execOp,resolve,invoke,builtin,hx,str,run_len_string _ _ _ _ ht,goInt]
 rfl
theorem x_streq{x y:Operand}{t t':TypeId}(a b:List UInt8)(hx:evn n F x=str a)(hy:evn n F y=str b):(execOp (evn n F) (⟨some d,.binOp .eql t x y t',ty,pos,after,none⟩:Oper)).run P w=.ok (.value (.bool (decide (a=b)))) w:=by
 have e:(a==b)=decide (a=b):=by rw [zau];simp
 simp [execOp,hx,hy,str,eqGuard,binOp_string_eql,e]
theorem x_strne{x y:Operand}{t t':TypeId}(a b:List UInt8)(hx:evn n F x=str a)(hy:evn n F y=str b):(execOp (evn n F) (⟨some d,.binOp .neq t x y t',ty,pos,after,none⟩:Oper)).run P w=.ok (.value (.bool (!decide (a=b)))) w:=by
 have e:(a==b)=decide (a=b):=by rw [zau];simp
 simp [execOp,hx,hy,str,eqGuard,binOp_string_neq,e]
theorem x_strlt{x y:Operand}{t t':TypeId}(a b:List UInt8)(hx:evn n F x=str a)(hy:evn n F y=str b):(execOp (evn n F) (⟨some d,.binOp .lss t x y t',ty,pos,after,none⟩:Oper)).run P w=.ok (.value (.bool (Op.bytesLess a b))) w:=by
 simp [execOp,hx,hy,str,eqGuard,binOp_string_lss]
theorem x_strgt{x y:Operand}{t t':TypeId}(a b:List UInt8)(hx:evn n F x=str a)(hy:evn n F y=str b):(execOp (evn n F) (⟨some d,.binOp .gtr t x y t',ty,pos,after,none⟩:Oper)).run P w=.ok (.value (.bool (!(Op.bytesLess a b||a==b)))) w:=by
 simp [execOp,hx,hy,str,eqGuard,binOp,Op.stringOp]
theorem x_strcat{x y:Operand}{t t':TypeId}(a b:List UInt8)(hx:evn n F x=str a)(hy:evn n F y=str b)(hlen:a.length+b.length<=9223372036854775807)
  :(execOp (evn n F) (⟨some d,.binOp .add t x y t',ty,pos,after,none⟩:Oper)).run P w=.ok (.value (str (a++b))) w:=by
 simp [execOp,hx,hy,str,eqGuard,binOp_string_add,run_string_add_sum (P:=P) w ⟨a.toArray⟩ ⟨b.toArray⟩ hlen,ByteArray.mk_append_mk]
theorem x_conv{x:Operand}{s t:TypeId}(k k':IntKind)(a:Int)(hs:P.underlying s=some (.int k'))(ht:P.underlying t=some (.int k))(hx:evn n F x=.int k' a):(execOp (evn n F) (⟨some d,.convert s t x,ty,pos,after,none⟩:Oper)).run P w=.ok (.value (.int k (k.wrap a))) w:=by
 simp [execOp,hx,convert,run_underlying hs,run_underlying ht,Conv.intToInt]
theorem x_convstr{x:Operand}{s t:TypeId}(l:List UInt8)(hs:P.underlying s=some .string)(ht:P.underlying t=some .string)(hx:evn n F x=str l):(execOp (evn n F) (⟨some d,.convert s t x,ty,pos,after,none⟩:Oper)).run P w=.ok (.value (str l)) w:=by
 simp [execOp,hx,str,convert,run_underlying hs,run_underlying ht]
theorem x_extract{x:Operand}{i:Nat}(vs:Array Value)(v:Value)(hx:evn n F x=.tuple vs)(hv:vs[i]? =some v):(execOp (evn n F) (⟨some d,.extract x i,ty,pos,after,none⟩:Oper)).run P w=.ok (.value v) w:=by
 simp [execOp,hx,Instr.extract,hv]
end
end
open Nat renaming le_refl -> zab, le_trans -> zap, lt_of_lt_of_le -> zao
structure Res where
 own:Option Nat
 ok:Option Obj->Prop
def Res.holds(r:Res)(w:World):Prop:=r.ok (r.own.bind fun b=>w.heap[b]?)
def blk(b:Nat)(cs:List Value)(e:TypeId):Res:=⟨some b,fun o=>o=some (.cells cs.toArray e (0,0))⟩
def row(v:Value)(e:TypeId)(sz n:Nat)(xs:List Value):Res:=
 ⟨v.ownBlock,fun o=>xs.length=n*sz/\((v=.slice none 0 0/\n=0)\/
  ∃g cap cur,v=.slice (some ⟨g,0,none⟩) n cap/\o=some (.cells cur e (0,0))/\n<=cap/\cap<=maxLen/\cur.size=cap*sz/\cur.toList.take (n*sz)=xs)⟩
structure Hp (w0:World) (S:List Nat) (L:List Res) (w:World):Prop where
 os:w.os=w0.os
 tape:w.tape=w0.tape
 output:w.output=w0.output
 size:w0.heap.size<=w.heap.size
 below:∀k,k<w0.heap.size->k∉S->w.heap[k]? =w0.heap[k]?
 res:∀r∈L,r.holds w/\∀b,r.own=some b->b<w.heap.size/\(w0.heap.size<=b\/b∈S)
 sep:L.Pairwise fun r r'=>∀b,r.own=some b->r'.own≠some b
theorem Hp.refl(w:World):Hp w [] [] w:=⟨rfl,rfl,rfl,zab _,fun _ _ _=>rfl,fun _ h=>by simp at h,List.Pairwise.nil⟩
theorem Hp.toBelow{w0 w:World}{L:List Res}(h:Hp w0 [] L w):RowKit.Below w0.heap.size w0 w:=⟨h.os,h.tape,h.output,h.size,fun k hk=>h.below k hk (by simp)⟩
theorem Hp.ofBelow{w w':World}(h:RowKit.Below w.heap.size w w'):Hp w [] [] w':=⟨h.os,h.tape,h.output,h.size,fun k hk _=>h.block k hk,fun _ h=>by simp at h,List.Pairwise.nil⟩
theorem Res.holds_of{r:Res}{w w':World}(h:r.holds w)(hb:∀b,r.own=some b->w'.heap[b]? =w.heap[b]?):r.holds w':=by
 unfold Res.holds at*;cases ho:r.own with
 |none=>simpa [ho] using h
 |some b=>simpa [ho,hb b ho] using h
theorem Hp.sub{w0 w:World}{S:List Nat}{L L':List Res}(h:Hp w0 S L w)(hs:L'.Sublist L):Hp w0 S L' w:=
 ⟨h.os,h.tape,h.output,h.size,h.below,fun r hr=>h.res r (hs.subset hr),h.sep.sublist hs⟩
theorem Hp.nil{w0 w:World}{S:List Nat}{L:List Res}(h:Hp w0 S L w):Hp w0 S [] w:=h.sub (List.nil_sublist _)
theorem Hp.perm{w0 w:World}{S:List Nat}{L L':List Res}(h:Hp w0 S L w)(hp:L.Perm L'):Hp w0 S L' w:=
 ⟨h.os,h.tape,h.output,h.size,h.below,fun r hr=>h.res r (hp.symm.subset hr),hp.pairwise h.sep (fun h b hb hb'=>h b hb' hb)⟩
theorem Hp.callL{w0 w w':World}{S:List Nat}{L L':List Res}(h:Hp w0 S L w)(h':Hp w [] L' w'):Hp w0 S (L'++L) w':=by
 have hb:∀b,b<w.heap.size->w'.heap[b]? =w.heap[b]? :=fun b hb=>h'.below b hb (by simp)
 refine⟨h'.os.trans h.os,h'.tape.trans h.tape,h'.output.trans h.output,zap h.size h'.size,fun k hk hS=> ?_,fun r hr=> ?_, ?_⟩
 ·rw [hb k (zao hk h.size)];exact h.below k hk hS
 ·rcases List.mem_append.1 hr with hr|hr
  ·refine⟨(h'.res r hr).1,fun b e=> ?_⟩
   have:=(h'.res r hr).2 b e
   simp at this
   exact⟨this.1,.inl (zap h.size this.2)⟩
  ·refine⟨Res.holds_of (h.res r hr).1 fun b e=>hb b ((h.res r hr).2 b e).1,fun b e=> ?_⟩
   have:=(h.res r hr).2 b e
   exact⟨zao this.1 h'.size,this.2⟩
 ·refine List.pairwise_append.2 ⟨h'.sep,h.sep,fun r hr r' hr' b e e'=> ?_⟩;have h1:=(h'.res r hr).2 b e;have h2:=(h.res r' hr').2 b e';simp at h1
  omega
theorem Hp.call{w0 w w':World}{S:List Nat}{L:List Res}(h:Hp w0 S L w)(h':Hp w [] [] w'):Hp w0 S L w':=h.callL h'
theorem Hp.change{w0 w w':World}{S:List Nat}{L:List Res}(h:Hp w0 S L w)(k:Nat)(r r':Res)(hk:L[k]? =some r)(ho:w'.os=w.os)(ht:w'.tape=w.tape)(hu:w'.output=w.output)
  (hz:w.heap.size<=w'.heap.size) (hb:∀j,j<w.heap.size->some j≠r.own->w'.heap[j]? =w.heap[j]?) (hr:r'.holds w')
  (hn:∀b,r'.own=some b->(r.own=some b\/w.heap.size<=b)/\b<w'.heap.size):Hp w0 S (L.set k r') w':=by
 have hmem:r∈L:=List.mem_of_getElem? hk;have hlt:k<L.length:=(List.getElem?_eq_some_iff.1 hk).1;have hsep:∀x,x∈L.eraseIdx k->∀b,x.own=some b->r.own≠some b:=by
  intro x hx b hxb hrb;obtain⟨j,hj,hjk,hxe⟩:∃j,∃(hj:j<L.length),j≠k/\L[j]=x:=by
   rw [List.mem_eraseIdx_iff_getElem]at hx;obtain⟨j,hj,hjk,e⟩:=hx;exact⟨j,hj,hjk,e⟩
  have hke:L[k]=r:=(List.getElem?_eq_some_iff.1 hk).2;have hp:=List.pairwise_iff_getElem.1 h.sep;rcases Nat.lt_or_ge j k with hl|hl
  ·exact hp j k hj hlt hl b (by rw [hxe];exact hxb) (by rw [hke];exact hrb)
  ·exact hp k j hlt hj (by omega) b (by rw [hke];exact hrb) (by rw [hxe];exact hxb)
 have hmemset:∀x,x∈L.set k r'->x=r'\/x∈L.eraseIdx k:=by
  intro x hx;obtain⟨j,hj,e⟩:=List.getElem_of_mem hx;by_cases hjk:j=k
  ·subst hjk;left;simpa using e.symm
  ·right
   rw [List.mem_eraseIdx_iff_getElem];refine⟨j,by simpa using hj,hjk, ?_⟩
   rw [List.getElem_set_ne (fun e=>hjk e.symm)]at e;exact e
 have hother:∀x∈L.eraseIdx k,∀b,x.own=some b->w'.heap[b]? =w.heap[b]? :=fun x hx b e=>
  hb b ((h.res x (List.mem_of_mem_eraseIdx hx)).2 b e).1 (fun e'=>hsep x hx b e e'.symm)
 refine⟨ho.trans h.os,ht.trans h.tape,hu.trans h.output,zap h.size hz,fun j hj hS=> ?_,fun x hx=> ?_, ?_⟩
 ·rw [hb j (zao hj h.size) (fun e=> ?_)];exact h.below j hj hS
  have:=((h.res r hmem).2 j e.symm).2
  rcases this with h1|h1
  ·omega
  ·exact hS h1
 ·rcases hmemset x hx with rfl|hx
  ·refine⟨hr,fun b e=>⟨(hn b e).2, ?_⟩⟩
   rcases(hn b e).1 with h1|h1
   ·exact((h.res r hmem).2 b h1).2
   ·exact .inl (zap h.size h1)
  ·have hxL:=List.mem_of_mem_eraseIdx hx;exact⟨Res.holds_of (h.res x hxL).1 (hother x hx),fun b e=>⟨zao ((h.res x hxL).2 b e).1 hz,((h.res x hxL).2 b e).2⟩⟩
 ·have hfar:∀x∈L.eraseIdx k,∀b,r'.own=some b->x.own≠some b:=by
   intro x hx b e e'
   rcases(hn b e).1 with h1|h1
   ·exact hsep x hx b e' h1
   ·have:=((h.res x (List.mem_of_mem_eraseIdx hx)).2 b e').1
    omega
  have hp:=List.pairwise_iff_getElem.1 h.sep;refine List.pairwise_iff_getElem.2 fun i j hi hj hij b=> ?_
  have hi':i<L.length:=by simpa using hi
  have hj':j<L.length:=by simpa using hj
  by_cases hik:i=k
  ·subst hik;have hjn:j≠i:=by omega
   rw [List.getElem_set_self,List.getElem_set_ne (fun e=>hjn e.symm)];intro e;exact hfar _ (by rw [List.mem_eraseIdx_iff_getElem];exact⟨j,hj',hjn,rfl⟩) b e
  ·by_cases hjk:j=k
   ·subst hjk;rw [List.getElem_set_self,List.getElem_set_ne (fun e=>hik e.symm)];intro e e';exact hfar _ (by rw [List.mem_eraseIdx_iff_getElem];exact⟨i,hi',hik,rfl⟩) b e' e
   ·rw [List.getElem_set_ne (fun e=>hik e.symm),List.getElem_set_ne (fun e=>hjk e.symm)];exact hp i j hi' hj' hij b
theorem Hp.alloc{w0 w:World}{S:List Nat}{L:List Res}(h:Hp w0 S L w)(cs:List Value)(e:TypeId):Hp w0 S (blk w.heap.size cs e::L) (w.alloc (.cells cs.toArray e (0,0))):=by
 have h2:Hp w [] [blk w.heap.size cs e] (w.alloc (.cells cs.toArray e (0,0))):=by
  refine⟨rfl,rfl,rfl,by simp,fun k hk _=>RowKit.Below.heap_alloc w _ k hk,fun r hr=> ?_,by simp⟩
  simp at hr
  subst hr;refine⟨?_,fun b e=> ?_⟩
  ·show(w.heap.push (.cells cs.toArray e (0,0)))[w.heap.size]? =_
   simp
  ·simp [blk]at e
   subst e;simp
 exact h.callL h2
theorem Hp.blkAt{w0 w:World}{S:List Nat}{L:List Res}(h:Hp w0 S L w)(k:Nat){b:Nat}{cs:List Value}{e:TypeId}(hk:L[k]? =some (blk b cs e)):
  w.heap[b]? =some (.cells cs.toArray e (0,0)):=(h.res _ (List.mem_of_getElem? hk)).1
section
variable {P : Program} {n : Md} {ops : Array Oper} {Q : Exit -> Act -> World -> Prop} {F : Nat -> Value} {w w0 : World} {S : List Nat} {L : List Res}
variable {d : Nat} {ty : TypeId} {pos : String} {after : Array Edge} {rest : List Oper}
theorem cell_blk{b off:Nat}{cs:List Value}{e:TypeId}{fz:Nat×Nat}(h:w.heap[b]? =some (.cells cs.toArray e fz)):w.cell? ⟨b,off,none⟩=cs[off]? :=by
 simp [World.cell?,h]
theorem w_ld1{x:Operand}{t:TypeId}(hH:Hp w0 S L w)(k b off:Nat)(cs:List Value)(e:TypeId)(v:Value)(hk:L[k]? =some (blk b cs e))(hv:cs[off]? =some v)
  (hx:evn n F x=.pointer (some ⟨b,off,none⟩)) (ha:(isAgg t).run P w=.ok false w) (h:W P n ops Q rest (upd F d v) w):
  W P n ops Q (⟨some d,.load t x,ty,pos,after,none⟩::rest) F w:=by
 refine abt (w':=w) rfl rfl ?_ h;have hc:=cell_blk (off:=off) (hH.blkAt k hk);rw [hv]at hc;simp [execOp,hx,Instr.loadAt,Instr.sureAddr,loadVar,ha,hc]
theorem aan(b off i:Nat):(⟨b,off,none⟩:Addr).add i=⟨b,off+i,none⟩:=by
 unfold Addr.add;by_cases hi:i=0
 ·subst hi;simp
 ·simp [hi]
def splice(cs:List Value)(off:Nat)(vs:List Value):List Value:=cs.take off++vs++cs.drop (off+vs.length)
theorem Hp.stored{k b off:Nat}{cs vs:List Value}{e:TypeId}(hH:Hp w0 S L w)(hk:L[k]? =some (blk b cs e))(ho:off+vs.length<=cs.length)(h1:∀v∈vs,v.oneCell'=true):
  ∃w',(storeCells ⟨b,off,none⟩ vs).run P w=.ok () w'/\Hp w0 S (L.set k (blk b (splice cs off vs) e)) w':=by
 have hb:=hH.blkAt k hk;have hst:=run_storeCells_at P b off e vs 0 cs.toArray w hb (by simpa using ho) h1;refine⟨_,hst,hH.change k (blk b cs e) _ hk rfl rfl rfl (by simp) (fun j hj hne=>setRow_other w b j _ (fun e=>hne (by simp [blk,e]))) ?_ ?_⟩
 ·show(w.setRow b _).heap[b]? =_
  rw [setRow_heap w b cs.toArray _ e _ hb];simp [splice]
 ·intro b' e';simp [blk]at e'
  subst e';refine⟨.inl rfl, ?_⟩
  have:=(Array.getElem?_eq_some_iff.1 hb).1
  simpa using this
theorem w_st1{x y:Operand}{t:TypeId}(hH:Hp w0 S L w)(k b off:Nat)(cs:List Value)(e:TypeId)(v:Value)(L':List Res)(hk:L[k]? =some (blk b cs e))(ho:off<cs.length)
  (hx:evn n F x=.pointer (some ⟨b,off,none⟩)) (hy:evn n F y=v) (h1:v.oneCell'=true) (hs:(sizeOf t).run P w=.ok 1 w) (hL:L.set k (blk b (cs.set off v) e)=L')
  (h:∀w',Hp w0 S L' w'->W P n ops Q rest F w'):
  W P n ops Q (⟨none,.store t x y,ty,pos,after,none⟩::rest) F w:=by
 have hcells:v.cells= #[v]:=by cases v<;>first|rfl|simp [Value.oneCell']at h1
 obtain⟨w',hr,hH'⟩:=hH.stored (P:=P) (vs:=[v]) (off:=off) hk (by simp;omega) (by simpa using h1);have hsp:splice cs off [v]=cs.set off v:=by
  unfold splice;rw [List.set_eq_take_append_cons_drop,if_pos ho];simp
 rw [hsp,hL]at hH';refine w_skip (w':=w') rfl rfl ?_ (h w' hH');simp [execOp,hx,hy,Instr.storeAt,Instr.sureAddr,storeVar,hs,hcells,hr]
end
open Bool renaming and_eq_true -> zar
open Nat renaming beq -> zac, blt -> zak
section
variable {P : Program} {ops : Array Oper} {Q : Exit -> Act -> World -> Prop} {md : Region.Mode} {S : Nat -> World -> World -> Prop}
def Keep(D:List Nat)(f:World->Prop)(j:Nat)(w w':World):Prop:=D.contains j=false->f w->f w'
theorem Keep.same{D:List Nat}{f:World->Prop}{j:Nat}{w:World}:Keep D f j w w:=fun _ h=>h
theorem Keep.out{D:List Nat}{f:World->Prop}{j:Nat}{w w':World}(h:D.contains j=true):Keep D f j w w':=fun h'=>by rw [h]at h';cases h'
theorem Keep.new{D:List Nat}{f:World->Prop}{j:Nat}{w w':World}(h:f w'):Keep D f j w w':=fun _ _=>h
def wpPre(P:Program)(md:Region.Mode)(ops:Array Oper)(Q:Exit->Act->World->Prop)(S:Nat->World->World->Prop)(k:Nat)(Z:Act->World->Prop):Nat->Array Bool->Act->World->Prop
 |0,listed,a,w=>Region.seqB md ops (ops.size-k) k listed=true/\Z a w
 |f+1,listed,a,w=>Region.ready md ops listed≠[]/\∀i∈Region.ready md ops listed,i<k/\wpOp P ops Q i (fun a' w'=>S i w w'/\wpPre P md ops Q S k Z f (listed.setIfInBounds i true) a' w') a w
theorem pre_any{k:Nat}{Z:Act->World->Prop}(hk:k<=ops.size)(hZ:∀a w,Z a w->wpList P ops Q (ops.toList.drop k) a w):
  ∀(f:Nat) (listed:Array Bool) (a:Act) (w:World),wpPre P md ops Q S k Z f listed a w->wpAny P md ops Q (f+(ops.size-k)) listed a w
 |0,listed,a,w,h=>by
  have hl:(ops.toList.drop k).length=ops.size-k:=by simp
  have:=wpAny_of_seq (md:=md) (Q':=Q) (ops.toList.drop k) k listed a w (fun j=>by simp [List.getElem?_drop]) (by rw [hl];exact h.1) (hZ a w h.2)
  rw [hl]at this;rw [Nat.zero_add];exact this
 |f+1,listed,a,w,h=>by
  rw [show f+1+(ops.size-k)=(f+(ops.size-k))+1 by omega];exact⟨fun h0=>absurd h0 h.1,fun i hi=>wpOp_mono (fun a' w' h'=>pre_any hk hZ f _ a' w' h'.2) (h.2 i hi).2⟩
def descB(md:Region.Mode)(ops:Array Oper)(i:Nat)(D:List Nat):Bool:=
 D.all fun j=>match ops[j]? with
  |some o=>o.after.any fun e=>Region.binds md e&&zak e.on j&&(zac e.on i||D.contains e.on)
  |none=>true
theorem desc_unlisted{k i:Nat}{D:List Nat}{listed:Array Bool}(hD:descB md ops i D=true)(inv:HeadInv md ops k listed)(hun:listed.getD i true=false):∀j,j∈D->j<ops.size->listed.getD j true=false:=by
 intro j;induction j using Nat.strongRecOn with
 |_ j ih=>
  intro hj hlt;cases hl:listed.getD j false with
  |false=>exact getD_in (by rw [inv.size];exact hlt) hl
  |true=>
   exfalso;have h1:=List.all_eq_true.1 hD j hj;rw [Array.getElem?_eq_getElem hlt]at h1;simp only [Array.any_eq_true']at h1;obtain⟨e,he,h2⟩:=h1;simp only [zar,Bool.or_eq_true]at h2;have hdone:=inv.closed j ops[j] (Array.getElem?_eq_getElem hlt) hl e he h2.1.1;rcases h2.2 with h3|h3
   ·rw [Nat.eq_of_beq_eq_true h3]at hdone
    have:=getD_both hun
    rw [this]at hdone;cases hdone
   ·have hlt2:e.on<j:=by simpa [Nat.blt_eq] using h2.1.2
    have h4:=ih e.on hlt2 (by simpa using h3) (by omega)
    have:=getD_both h4
    rw [this]at hdone;cases hdone
theorem desc_ready{k i j:Nat}{D:List Nat}{listed:Array Bool}(hD:descB md ops i D=true)(inv:HeadInv md ops k listed)(hun:listed.getD i true=false)(hj:j∈Region.ready md ops listed):j∉D:=by
 intro hjD;obtain⟨hjun,oj,hoj,hall⟩:=mem_ready.1 hj;have hlt:j<ops.size:=(Array.getElem?_eq_some_iff.1 hoj).1;have h1:=List.all_eq_true.1 hD j hjD;rw [hoj]at h1;simp only [Array.any_eq_true']at h1;obtain⟨e,he,h2⟩:=h1;simp only [zar,Bool.or_eq_true]at h2;have hdone:=hall e he h2.1.1;rcases h2.2 with h3|h3
 ·rw [Nat.eq_of_beq_eq_true h3,getD_both hun]at hdone;cases hdone
 ·have hlt2:e.on<j:=by simpa [Nat.blt_eq] using h2.1.2
  have h4:=desc_unlisted hD inv hun e.on (by simpa using h3) (by omega);rw [getD_both h4]at hdone;cases hdone
theorem pre_first{k i:Nat}{Z:Act->World->Prop}{oi:Oper}{v:Value}(Si:World->Prop)(D:List Nat)(hD:descB md ops i D=true)(hSi:∀j w w',S j w w'->Keep D Si j w w')(hi:ops[i]? =some oi)(hsel:∀(j:Nat) (o:Oper) cs b,ops[j]? =some o->o.op≠.select cs b)
  (hQ:∀c a w,Q (.panic c) (a.put oi.dst v) w->Q (.panic c) a w) (hik:i<k)
  (hready:∀listed:Array Bool,HeadInv md ops k listed->listed.getD i true=false->∀t,k<=t->t∉Region.ready md ops listed):
  ∀(f:Nat) (listed:Array Bool) (a:Act) (w:World),HeadInv md ops k listed->
   (∀j oj,ops[j]? =some oj->j≠i->listed.getD j true=false->(∀e∈oj.after,Region.binds md e=true->e.on≠i)->oi.apart ops oj=true)->
   i∈Region.ready md ops listed->YieldsIf P ops Si oi v a->Si w->(∀j w,S j w w)->
   wpPre P md ops Q S k Z f (listed.setIfInBounds i true) (a.put oi.dst v) w->wpPre P md ops Q S k Z (f+1) listed a w:=by
 intro f;induction f with
 |zero=>
  intro listed a w inv hfree hr hy hS hii H;have hun:=(mem_ready.1 hr).1;refine⟨fun h0=>(by rw [h0]at hr;cases hr),fun j hj=> ?_⟩
  have hjk:j<k:=by
   rcases Nat.lt_or_ge j k with h|h
   ·exact h
   ·exact absurd hj (hready listed inv hun j h)
  by_cases hji:j=i
  ·subst hji;exact⟨hjk,hy.wpOp hi hS ⟨hii _ _,H⟩⟩
  ·have h1:=seqB_ready H.1 j (ready_mono hj hji);omega
 |succ f ih=>
  intro listed a w inv hfree hr hy hS hii H;have hun:=(mem_ready.1 hr).1;refine⟨fun h0=>(by rw [h0]at hr;cases hr),fun j hj=> ?_⟩
  have hjk:j<k:=by
   rcases Nat.lt_or_ge j k with h|h
   ·exact h
   ·exact absurd hj (hready listed inv hun j h)
  by_cases hji:j=i
  ·subst hji;exact⟨hjk,hy.wpOp hi hS ⟨hii _ _,H⟩⟩
  ·have h1:=(H.2 j (ready_mono hj hji)).2;have hjD:=desc_ready hD inv hun hj;obtain⟨hjun,oj,hoj,hall⟩:=mem_ready.1 hj;have hnot:∀e∈oj.after,Region.binds md e=true->e.on≠i:=fun e he hb heq=>by
    have h2:=hall e he hb;rw [heq,getD_both hun]at h2;cases h2
   have h2:=wpOp_putIf hoj (hfree j oj hoj hji hjun hnot) (fun cs b=>hsel i oi cs b hi) (fun cs b=>hsel j oj cs b hoj) hQ hy h1;refine⟨hjk,wpOp_mono (fun a' w' h3=>⟨h3.2.1,ih (listed.setIfInBounds j true) a' w' (inv.set hj hjk) (fun m om hm hmi hum hno=>hfree m om hm hmi ?_ hno) (ready_mono hr (Ne.symm hji)) h3.1 (hSi j _ w' h3.2.1 (by simpa using hjD) hS) hii ?_⟩) h2⟩
   ·by_cases hjm:j=m
    ·subst hjm;exact hjun
    ·rw [getD_set_ne true hjm]at hum;exact hum
   ·rw [Array.setIfInBounds_comm _ _ hji];exact h3.2.2
def aas(ops:Array Oper)(k:Nat):Bool:=Region.noSelect ops&&decide (k<=ops.size)&&(decide (k=ops.size)||(Region.sinkB .any ops k&&Region.chainB .any ops k))
theorem shape_ready{k i:Nat}(h:aas ops k=true)(hik:i<k):∀listed:Array Bool,HeadInv .any ops k listed->listed.getD i true=false->∀t,k<=t->t∉Region.ready .any ops listed:=by
 intro listed inv hun t ht hr;simp only [aas,zar,Bool.or_eq_true,decide_eq_true_eq]at h;have htlt:t<ops.size:=by obtain⟨_,o,ho,_⟩:=mem_ready.1 hr;exact(Array.getElem?_eq_some_iff.1 ho).1
 rcases h.2 with h2|h2
 ·omega
 ·exact tail_waits h2.1 h2.2 (by omega) inv (k-i) i rfl hik hun t ht hr
end
section
variable {P : Program} {kn : Nat} {kD : List Deferred} {ops : Array Oper} {Q : Exit -> Act -> World -> Prop} {S : Nat -> World -> World -> Prop} {Si : World -> Prop} {F : Nat -> Value} {w : World}
def NoP(Q:Exit->Act->World->Prop):Prop:=∀c a w,¬Q (.panic c) a w
def R(P:Program)(n:Md)(ops:Array Oper)(Q:Exit->Act->World->Prop)(S:Nat->World->World->Prop)(k f:Nat)(listed:List Bool)(F:Nat->Value)(w:World):Prop:=
 HeadInv .any ops k listed.toArray->(∀j w,S j w w)->NoP Q->wpPre P .any ops Q S k (fun a w=>wpList P ops Q (ops.toList.drop k) a w) f listed.toArray (fr n F) w
def RK(P:Program)(n:Md)(ops:Array Oper)(Q:Exit->Act->World->Prop)(S:Nat->World->World->Prop)(k f:Nat)(listed:List Bool)(i:Nat)(w:World):Exit->Act->World->Prop:=
 Exit.then (fun a' w'=>∃F',a'=fr n F'/\S i w w'/\R P n ops Q S k f listed F' w') Q
theorem Hp.drewn{w0 w:World}{S0:List Nat}{L:List Res}(h:Hp w0 S0 L w):Hp w0 S0 L {w with drawn:=w.drawn+1}:=
 ⟨h.os,h.tape,h.output,h.size,h.below,h.res,h.sep⟩
theorem c_drawn{w0:World}{S0:List Nat}{L:List Res}{id:Nat}{l:List Oper}(k:Nat)(S:Nat->World->World->Prop)(listed:List Bool)(hrefl:∀j w,S j w w)(hm:P.follows .mixedOrders=true)(hs:aas l.toArray k=true)
  (hH:Hp w0 S0 L w) (hl:List.replicate l.length false=listed) (hQ:NoP Q) (h:∀w',Hp w0 S0 L w'->R P ⟨kn,kD,none⟩ l.toArray Q S k k listed F w'):C P ⟨kn,kD,none⟩ Q (.region id l.toArray true) F w:=by
 unfold C CC;have hk:k<=l.toArray.size:=by
  simp only [aas,zar,decide_eq_true_eq]at hs;exact hs.1.2
 have inv0:HeadInv .any l.toArray k (Array.replicate l.toArray.size false):=
  ⟨by simp,fun j oj _ hl=>(by rw [getD_replicate_false]at hl;cases hl),fun t _ ht=>getD_in (by simpa using ht) (getD_replicate_false _ _)⟩
 have e:listed.toArray=Array.replicate l.toArray.size false:=by
  subst hl;apply Array.toList_inj.1
  simp
 refine wp_region_any hm ?_;have h1:=h _ hH.drewn (by rw [e];exact inv0) hrefl hQ;have h2:=pre_any (S:=S) hk (fun a w h=>h) k _ _ _ h1;rw [e,show k+(l.toArray.size-k)=l.toArray.size by omega]at h2;exact h2
theorem np_body{fn:Func}{R':Value->World->Prop}:NoP (bodyPost P fn fun e w'=>∃v,e=.returned v/\R' v w'):=by
 intro c a w h;obtain⟨_,v,hv,_⟩:=h;cases hv
theorem np_block{id:Nat}(h:NoP Q):NoP (Exit.inBlock id Q):=h
theorem np_scope(h:NoP Q):NoP (Exit.noGoto Q):=h
theorem np_then{K:Act->World->Prop}(h:NoP Q):NoP (Exit.then K Q):=h
theorem set_listed(listed:List Bool)(i:Nat):listed.toArray.setIfInBounds i true=(listed.set i true).toArray:=by simp
theorem r_takeS{k f:Nat}{listed:List Bool}(listed':List Bool)(i d:Nat)(v:Value)(D:List Nat)(hSi:∀j w w',S j w w'->Keep D Si j w w')(o:Oper)(ho:ops[i]? =some o)(hd:o.dst=some d)(hs:aas ops k=true)(hD:descB .any ops i D=true)(hfree:Region.free .any ops listed.toArray i=true)
  (hr:(Region.ready .any ops listed.toArray).contains i=true) (hik:zak i k=true) (hl:listed.set i true=listed') (hy:YieldsIf P ops Si o v (fr ⟨kn,kD,none⟩ F)) (hS:Si w)
  (h:R P ⟨kn,kD,none⟩ ops Q S k f listed' (upd F d v) w):R P ⟨kn,kD,none⟩ ops Q S k (f+1) listed F w:=by
 intro inv hrefl hQ;have hik':i<k:=by simpa [Nat.blt_eq] using hik
 have hr':i∈Region.ready .any ops listed.toArray:=by simpa using hr
 have hsel:Region.noSelect ops=true:=by
  simp only [aas,zar]at hs;exact hs.1.1
 refine pre_first Si D hD hSi ho (Region.noSelect_spec hsel) (fun c a w h=>absurd h (hQ c _ w)) hik' (shape_ready hs hik') f _ _ _ inv (Region.free_spec ho hfree) hr' hy hS hrefl ?_;have inv':=inv.set hr' hik';rw [set_listed,hl]at inv'⊢
 have:=h inv' hrefl hQ
 rw [<-fr_put,<-hd]at this;exact this
theorem r_take{k f:Nat}{listed:List Bool}(listed':List Bool)(i d:Nat)(v:Value)(o:Oper)(ho:ops[i]? =some o)(hd:o.dst=some d)(hs:aas ops k=true)(hfree:Region.free .any ops listed.toArray i=true)
  (hr:(Region.ready .any ops listed.toArray).contains i=true) (hik:zak i k=true) (hl:listed.set i true=listed') (hy:YieldsIf P ops (fun _=>True) o v (fr ⟨kn,kD,none⟩ F))
  (h:R P ⟨kn,kD,none⟩ ops Q S k f listed' (upd F d v) w):R P ⟨kn,kD,none⟩ ops Q S k (f+1) listed F w:=
 r_takeS (Si:=fun _=>True) listed' i d v [] (fun _ _ _ _ _ _=>trivial) o ho hd hs rfl hfree hr hik hl hy trivial h
theorem op_of_list{i:Nat}{o:Oper}{K:Act->World->Prop}{a:Act}(ho:ops[i]? =some o)(h:wpList P ops (Exit.then K Q) [o] a w):wpOp P ops Q i K a w:=by
 unfold wpOp;simp only [ho];unfold wpList at h;split
 ·rename_i hw;rw [if_pos hw]at h;rcases h with h|h
  ·refine .inl ?_;unfold Oper.wp at*
   generalize(execOp a.eval o).run P w=r at*
   cases r with
   |ok x w'=>cases x<;>exact h
   |halt x w'=>cases x<;>exact h
  ·exact .inr h
 ·rename_i hw;rw [if_neg hw]at h;exact h
theorem r_step{k f:Nat}{listed:List Bool}(listed':List Bool)(i:Nat)(o:Oper)(ho:ops[i]? =some o)(hl:listed.set i true=listed')(inv:HeadInv .any ops k listed.toArray)(hrefl:∀j w,S j w w)(hQ:NoP Q)
  (hr:i∈Region.ready .any ops listed.toArray) (hik:i<k) (h:W P ⟨kn,kD,none⟩ ops (RK P ⟨kn,kD,none⟩ ops Q S k f listed' i w) [o] F w):
  i<k/\wpOp P ops Q i (fun a' w'=>S i w w'/\wpPre P .any ops Q S k (fun a w=>wpList P ops Q (ops.toList.drop k) a w) f (listed.toArray.setIfInBounds i true) a' w') (fr ⟨kn,kD,none⟩ F) w:=by
 refine⟨hik, ?_⟩
 have inv':=inv.set hr hik;rw [set_listed,hl]at inv'⊢;unfold W WR RK at h;refine wpOp_mono ?_ (op_of_list ho h);rintro a' w' ⟨F',rfl,hS,hR⟩
 exact⟨hS,hR inv' hrefl hQ⟩
theorem r_one1{k f:Nat}{listed:List Bool}(listed':List Bool)(i:Nat)(o:Oper)(ho:ops[i]? =some o)(hr:Region.ready .any ops listed.toArray=[i])(hik:zak i k=true)(hl:listed.set i true=listed')
  (h:W P ⟨kn,kD,none⟩ ops (RK P ⟨kn,kD,none⟩ ops Q S k f listed' i w) [o] F w):R P ⟨kn,kD,none⟩ ops Q S k (f+1) listed F w:=by
 intro inv hrefl hQ;refine⟨by rw [hr];simp,fun j hj=> ?_⟩
 rw [hr]at hj;obtain rfl:j=i:=by simpa using hj
 exact r_step listed' j o ho hl inv hrefl hQ (by rw [hr];simp) (by simpa [Nat.blt_eq] using hik) h
theorem r_one2{k f:Nat}{listed:List Bool}(l1 l2:List Bool)(i j:Nat)(o o':Oper)(ho:ops[i]? =some o)(ho':ops[j]? =some o')(hr:Region.ready .any ops listed.toArray=[i,j])(hik:zak i k=true)(hjk:zak j k=true)
  (hl:listed.set i true=l1) (hl':listed.set j true=l2)
  (h:W P ⟨kn,kD,none⟩ ops (RK P ⟨kn,kD,none⟩ ops Q S k f l1 i w) [o] F w) (h':W P ⟨kn,kD,none⟩ ops (RK P ⟨kn,kD,none⟩ ops Q S k f l2 j w) [o'] F w):R P ⟨kn,kD,none⟩ ops Q S k (f+1) listed F w:=by
 intro inv hrefl hQ;refine⟨by rw [hr];simp,fun m hm=> ?_⟩
 have hm':=hm;rw [hr]at hm'
 have:m=i\/m=j:=by simpa using hm'
 rcases this with rfl|rfl
 ·exact r_step l1 m o ho hl inv hrefl hQ hm (by simpa [Nat.blt_eq] using hik) h
 ·exact r_step l2 m o' ho' hl' inv hrefl hQ hm (by simpa [Nat.blt_eq] using hjk) h'
theorem r_next{k f i:Nat}{w0:World}{listed:List Bool}(hS:S i w0 w)(h:R P ⟨kn,kD,none⟩ ops Q S k f listed F w):RK P ⟨kn,kD,none⟩ ops Q S k f listed i w0 .normal (fr ⟨kn,kD,none⟩ F) w:=⟨F,rfl,hS,h⟩
theorem r_zero{k:Nat}{listed:List Bool}(hseq:Region.seqB .any ops (ops.size-k) k listed.toArray=true)(h:W P ⟨kn,kD,none⟩ ops Q (ops.toList.drop k) F w):R P ⟨kn,kD,none⟩ ops Q S k 0 listed F w:=by
 intro _ _ _;unfold W WR at h;exact⟨hseq,h⟩
end
attribute [irreducible] R RK
open List renaming length_map -> zaf, map_cons -> zal
open UInt8 renaming ofNat -> zan
theorem add_add(p:Addr)(j k:Nat):(p.add j).add k=p.add (j+k):=by
 unfold Addr.add;by_cases hj:j=0
 ·subst hj;simp
 ·by_cases hk:k=0
  ·subst hk;simp
  ·simp [hj,hk,Nat.add_assoc]
def Rd(w:World)(a:Option Addr)(xs:List Value):Prop:=∀j v,xs[j]? =some v->∃p,a=some p/\w.cell? (p.add j)=some v
theorem cell_lt{w:World}{p:Addr}{v:Value}(h:w.cell? p=some v):p.block<w.heap.size:=by
 unfold World.cell? at h;cases hb:w.heap[p.block]? with
 |none=>simp [hb]at h
 |some o=>exact(Array.getElem?_eq_some_iff.1 hb).1
theorem add_block(p:Addr)(j:Nat):(p.add j).block=p.block:=by unfold Addr.add;split<;>rfl
theorem cell_same{w w':World}{p:Addr}(h:w'.heap[p.block]? =w.heap[p.block]?):w'.cell? p=w.cell? p:=by simp only [World.cell?,h]
theorem Rd.mono{w w':World}{a:Option Addr}{xs:List Value}(h:Rd w a xs)(hb:∀b,b<w.heap.size->w'.heap[b]? =w.heap[b]?):Rd w' a xs:=by
 intro j v hv;obtain⟨p,hp,hc⟩:=h j v hv;refine⟨p,hp, ?_⟩
 rw [cell_same (hb _ (cell_lt hc))];exact hc
theorem Rd.hp{w0 w:World}{L:List Res}{a:Option Addr}{xs:List Value}(h:Rd w0 a xs)(hH:Hp w0 [] L w):Rd w a xs:=h.mono fun b hb=>hH.below b hb (by simp)
theorem Rd.nil(w:World)(a:Option Addr):Rd w a []:=fun j v h=>by simp at h
theorem Rd.take{w:World}{a:Option Addr}{xs:List Value}(h:Rd w a xs)(k:Nat):Rd w a (xs.take k):=by
 intro j v hv;rw [List.getElem?_take]at hv;split at hv
 ·exact h j v hv
 ·cases hv
theorem Rd.drop{w:World}{p:Addr}{xs:List Value}(h:Rd w (some p) xs)(k:Nat):Rd w (some (p.add k)) (xs.drop k):=by
 intro j v hv;rw [List.getElem?_drop]at hv;obtain⟨q,hq,hc⟩:=h _ v hv;simp at hq
 subst hq;exact⟨_,rfl,by rw [add_add];exact hc⟩
theorem Hp.tail{w0 w:World}{S:List Nat}{r:Res}{L:List Res}(h:Hp w0 S (r::L) w):Hp w0 S L w:=h.sub (List.sublist_cons_self r L)
def TI(P:Program)(e sz by_:Nat):Prop:=(P.info? e).map (fun i=>(i.zero.map (fun z=>z.cells.size),i.size,i.bytes))=some (some sz,sz,by_)
theorem TI.parts{P:Program}{e sz by_:Nat}(h:TI P e sz by_):∃i z,P.info? e=some i/\i.zero=some z/\i.size=sz/\i.bytes=by_/\z.cells.size=sz:=by
 unfold TI at h;cases hi:P.info? e with
 |none=>simp [hi]at h
 |some i=>
  simp [hi]at h
  obtain⟨⟨z,hz,hzs⟩,h2,h3⟩:=h;exact⟨i,z,rfl,hz,h2,h3,hzs⟩
section
variable {P : Program} {n : Md} {ops : Array Oper} {Q : Exit -> Act -> World -> Prop} {F : Nat -> Value} {w w0 : World} {S : List Nat} {L : List Res}
variable {d : Nat} {ty : TypeId} {pos : String} {after : Array Edge} {rest : List Oper}
theorem x_lenS{x:Operand}{t:TypeId}(a:Option Addr)(k c e:Nat)(ht:P.underlying t=some (.slice e))(hx:evn n F x=.slice a k c):
  (execOp (evn n F) (⟨some d,.call ⟨.builtin .len, #[x], #[t]⟩,ty,pos,after,none⟩:Oper)).run P w=.ok (.value (.int .i64 (k:Int))) w:=by
 simp [execOp,resolve,invoke,builtin,hx,Builtin.len_,run_underlying ht,goInt]
theorem x_tostr{x:Operand}{s t:TypeId}(l:List UInt8)(a:Option Addr)(m cap:Nat)(e:TypeId)(hR:Rd w a (l.map bt))(hm:l.length=m)(hs:P.underlying s=some (.slice e))(ht:P.underlying t=some .string)(he:P.underlying e=some (.int .u8))(hx:evn n F x=.slice a m cap):
  (execOp (evn n F) (⟨some d,.convert s t x,ty,pos,after,none⟩:Oper)).run P w=.ok (.value (str l)) w:=by
 subst hm;have e1:(convert s t (.slice a l.length cap)).run P w=(Conv.bytesToString (.slice a l.length cap)).run P w:=by
  simp [convert,run_underlying hs,run_underlying ht,run_underlying he]
 have e2:(Conv.bytesToString (.slice a l.length cap)).run P w=.ok (str l) w:=by
  cases a with
  |none=>
   have:l=[]:=by
    cases l with
    |nil=>rfl
    |cons c l=>obtain⟨p,hp,_⟩:=hR 0 (bt c) (by simp);cases hp
   subst this;rfl
  |some p=>
   have hload:(loadCells p l.length).run P w=.ok ((l.map fun c=>(c.toNat:Int)).map (Value.int .u8)).toArray w:=by
    have:=run_loadCells_list (P:=P) w p (l.map bt) (fun j v hj=>by
     obtain⟨q,hq,hcell⟩:=hR j v hj;simp at hq
     subst hq;exact hcell)
    simp only [zaf]at this;rw [this];simp [bt,Function.comp_def]
   have:=run_bytesToString (P:=P) w p l.length cap _ hload
   rw [this];congr 1
   unfold str;congr 1
   have hf:∀(l:List UInt8) (r:ByteArray),(l.map fun c=>(c.toNat:Int)).foldl (fun r n=>r.push (zan n.toNat)) r=⟨r.data++l.toArray⟩:=by
    intro l;induction l with
    |nil=>intro r;simp
    |cons c l ih=>
     intro r;simp only [zal,List.foldl_cons];rw [ih];apply ByteArray.ext
     simp [ByteArray.push]
   rw [hf];apply ByteArray.ext
   show(#[]:Array UInt8)++l.toArray=l.toArray
   simp
 simp [execOp,hx,e1,e2]
end
theorem run_mapM{α:Type}{P:Program}{w:World}(f:α->Sem Value):∀(l:List α) (vs:List Value),l.length=vs.length->(∀(i:Nat) (x:α) (v:Value),l[i]? =some x->vs[i]? =some v->(f x).run P w=.ok v w)->(l.mapM f).run P w=.ok vs w
 |[],[],_,_=>by simp
 |[],_::_,h,_=>by simp at h
 |_::_,[],h,_=>by simp at h
 |x::l,v::vs,h,hf=>by
  rw [List.mapM_cons];simp only [Sem.run_bind,hf 0 x v rfl rfl,Result.andThen_ok];rw [run_mapM f l vs (by simpa using h) (fun i y u hy hu=>hf (i+1) y u (by simpa using hy) (by simpa using hu))];simp
def resOf(tmps:Array Value):ResultVar->Sem Value
 |.tmp t=>pure (tmps.getD t undef)
 |.cell a t=>do loadVar t (<-asAddr (tmps.getD a undef))
theorem flat_len{α:Type}(f:α->List Value)(sz:Nat)(hf:∀x,(f x).length=sz)(l:List α):(l.flatMap f).length=l.length*sz:=by
 induction l with
 |nil=>simp
 |cons x l ih=>rw [List.flatMap_cons,List.length_append,ih,hf,List.length_cons,Nat.succ_mul,Nat.add_comm]
open Nat renaming le_refl -> zab, le_trans -> zap, lt_of_lt_of_le -> zao
def owns(L:List Res):List Nat:=L.filterMap (·.own)
theorem mem_owns{L:List Res}{b:Nat}(h:b∈owns L):∃r∈L,r.own=some b:=by
 unfold owns at h;obtain⟨r,hr,e⟩:=List.mem_filterMap.1 h;exact⟨r,hr,e⟩
theorem Hp.callK{w0 w w':World}{S:List Nat}{L1 L2 L1':List Res}(h:Hp w0 S (L1++L2) w)(h':Hp w (owns L1) L1' w'):Hp w0 S (L1'++L2) w':=by
 have hown:∀b,b∈owns L1->b<w.heap.size/\(w0.heap.size<=b\/b∈S):=by
  intro b hb;obtain⟨r,hr,e⟩:=mem_owns hb;exact(h.res r (List.mem_append.2 (.inl hr))).2 b e
 have hsep:=List.pairwise_append.1 h.sep;have hfar:∀r∈L2,∀b,r.own=some b->b∉owns L1:=by
  intro r hr b e hb;obtain⟨q,hq,e'⟩:=mem_owns hb;exact hsep.2.2 q hq r hr b e' e
 refine⟨h'.os.trans h.os,h'.tape.trans h.tape,h'.output.trans h.output,zap h.size h'.size,fun k hk hS=> ?_,fun r hr=> ?_, ?_⟩
 ·rw [h'.below k (zao hk h.size) (fun hm=> ?_)];exact h.below k hk hS
  rcases(hown k hm).2 with h1|h1
  ·omega
  ·exact hS h1
 ·rcases List.mem_append.1 hr with hr|hr
  ·refine⟨(h'.res r hr).1,fun b e=> ?_⟩
   have:=(h'.res r hr).2 b e
   refine⟨this.1, ?_⟩
   rcases this.2 with h1|h1
   ·exact .inl (zap h.size h1)
   ·exact(hown b h1).2
  ·have hL:=List.mem_append.2 (.inr hr:r∈L1\/r∈L2);refine⟨Res.holds_of (h.res r hL).1 fun b e=>h'.below b ((h.res r hL).2 b e).1 (hfar r hr b e),fun b e=> ?_⟩
   have:=(h.res r hL).2 b e
   exact⟨zao this.1 h'.size,this.2⟩
 ·refine List.pairwise_append.2 ⟨h'.sep,hsep.2.1,fun r hr r' hr' b e e'=> ?_⟩;have h1:=(h'.res r hr).2 b e;have h2:=(h.res r' (List.mem_append.2 (.inr hr'))).2 b e';rcases h1.2 with h3|h3
  ·omega
  ·exact hfar r' hr' b e' h3
theorem Hp.front{w0 w:World}{S:List Nat}{L:List Res}(h:Hp w0 S L w)(k:Nat)(r:Res)(hk:L[k]? =some r):Hp w0 S (r::L.eraseIdx k) w:=by
 refine h.perm ?_;clear h;induction L generalizing k with
 |nil=>simp at hk
 |cons x L ih=>
  cases k with
  |zero=>simp at hk;subst hk;simp
  |succ k=>
   simp at hk
   simp only [List.eraseIdx_cons_succ];exact(List.Perm.cons x (ih k hk)).trans (List.Perm.swap r x _)
theorem Hp.keep{w0 w:World}{S:List Nat}{L1 L2:List Res}(h:Hp w0 S (L1++L2) w):Hp w0 S L1 w:=h.sub (List.sublist_append_left _ _)
theorem Hp.start1{w:World}{b e:Nat}{cs:List Value}(h:w.heap[b]? =some (.cells cs.toArray e (0,0))):Hp w [b] [blk b cs e] w:=
 ⟨rfl,rfl,rfl,zab _,fun _ _ _=>rfl,fun r hr=>by
  simp at hr;subst hr
  refine⟨by simpa [Res.holds,blk] using h,fun k hk=> ?_⟩
  simp [blk]at hk;subst hk
  exact⟨(Array.getElem?_eq_some_iff.1 h).1,.inr (by simp)⟩,by simp⟩
theorem cr_below{P:Program}{f:FuncId}{args:List Value}{w:World}{v:Value}(h:Calls P f args.toArray w fun e w'=>e=.returned v/\RowKit.Below w.heap.size w w'):CR P f args w fun u w'=>u=v/\Hp w [] [] w':=
 Calls.mono h fun _ _ ⟨e,hb⟩=>⟨v,e,rfl,Hp.ofBelow hb⟩
theorem abz{P:Program}{f:FuncId}{args:List Value}{w:World}{v:Value}(h:Calls P f args.toArray w fun e w'=>e=.returned v/\w'=w):CR P f args w fun u w'=>u=v/\Hp w [] [] w':=
 Calls.mono h fun _ _ ⟨e,hb⟩=>⟨v,e,rfl,hb▸Hp.refl w⟩
theorem hp_drew{w:World}(k:Nat):Hp w [] [] (w.drewN k):=Hp.ofBelow ⟨rfl,rfl,rfl,zab _,fun _ _=>rfl⟩
theorem cr_drew{P:Program}{f:FuncId}{args:List Value}{w:World}{v:Value}(h:Calls P f args.toArray w fun e w'=>e=.returned v/\∃k,w'=w.drewN k):CR P f args w fun u w'=>u=v/\Hp w [] [] w':=
 Calls.mono h fun _ _ ⟨e,k,hb⟩=>⟨v,e,rfl,hb▸hp_drew k⟩
def sit(b:Nat)(l:List UInt8)(pos:Nat):Res:=⟨some b,fun o=>o=some (.stringIter ⟨l.toArray⟩ pos)⟩
theorem Hp.setIt{w0 w:World}{S:List Nat}{L:List Res}(h:Hp w0 S L w)(k b:Nat)(l:List UInt8)(pos pos':Nat)(hk:L[k]? =some (sit b l pos)):
  Hp w0 S (L.set k (sit b l pos')) {w with heap:=w.heap.setIfInBounds b (.stringIter ⟨l.toArray⟩ pos')}:=by
 have hb:=((h.res _ (List.mem_of_getElem? hk)).2 b rfl).1;refine h.change k _ _ hk rfl rfl rfl (by simp) (fun j hj hne=> ?_) ?_ (fun c hc=> ?_)
 ·show(w.heap.setIfInBounds b _)[j]? =_
  rw [Array.getElem?_setIfInBounds_ne (fun e=>hne (by rw [e];rfl))]
 ·show(w.heap.setIfInBounds b _)[b]? =_
  simp [hb]
 ·cases hc
  exact⟨.inl rfl,by simpa using hb⟩
section
variable {P : Program} {n : Md} {ops : Array Oper} {Q : Exit -> Act -> World -> Prop} {F : Nat -> Value} {w : World}
variable {d : Nat} {ty : TypeId} {pos : String} {after : Array Edge} {rest : List Oper}
theorem x_shl{x y:Operand}{t t':TypeId}(k k':IntKind)(a b p:Int)(hx:evn n F x=.int k a)(hy:evn n F y=.int k' b)(h0:0<=b)(hp:2^(min b.toNat k.bits)=p):(execOp (evn n F) (⟨some d,.binOp .shl t x y t',ty,pos,after,none⟩:Oper)).run P w=.ok (.value (.int k (k.wrap (a*p)))) w:=by
 have hb:¬b<0:=by omega
 rw [<-hp];simp [execOp,hx,hy,binOp,eqGuard,Op.shift,hb]
theorem x_shr{x y:Operand}{t t':TypeId}(k k':IntKind)(a b p:Int)(hx:evn n F x=.int k a)(hy:evn n F y=.int k' b)(h0:0<=b)(hp:2^(min b.toNat k.bits)=p)(hp0:0<p):(execOp (evn n F) (⟨some d,.binOp .shr t x y t',ty,pos,after,none⟩:Oper)).run P w=.ok (.value (.int k (a/p))) w:=by
 have hb:¬b<0:=by omega
 have e:a.fdiv p=a/p:=Int.fdiv_eq_ediv_of_nonneg _ (by omega);rw [<-e,<-hp];simp [execOp,hx,hy,binOp,eqGuard,Op.shift,hb]
end
open Nat renaming ble -> zad, le_refl -> zab
abbrev Str:=List UInt8
abbrev PQ:=Str×Str×Bool
abbrev LQ:=List PQ
abbrev UQ:=Str×Str×Str×Int×LQ×LQ
abbrev AQ:=Str×UQ×LQ
def gd{α:Type}(p:Prop)[Decidable p](k:Option α):Option α:=if p then k else none
theorem gd_inv{α:Type}{p:Prop}[Decidable p]{k:Option α}{r:α}(h:gd p k=some r):p/\k=some r:=by
 unfold gd at h;split at h
 ·exact⟨by assumption,h⟩
 ·cases h
theorem bind_inv{α β:Type}{o:Option α}{f:α->Option β}{r:β}(h:o.bind f=some r):∃y,o=some y/\f y=some r:=by
 cases o with
 |none=>cases h
 |some y=>exact⟨y,rfl,h⟩
theorem ift{α:Type}{p:Prop}[Decidable p]{a b r:α}(h:p)(e:(if p then a else b)=r):a=r:=by rw [<-e,if_pos h]
theorem ifn{α:Type}{p:Prop}[Decidable p]{a b r:α}(h:¬p)(e:(if p then a else b)=r):b=r:=by rw [<-e,if_neg h]
instance instOk64:(a:Int)->Decidable (ok64 a)
 |.ofNat n=>if h:zad n 9223372036854775807=true then .isTrue (show ok64 (n:Int)from⟨by omega,by have:=Nat.le_of_ble_eq_true h;omega⟩)else .isFalse fun q=>h (Nat.ble_eq▸(by have:(n:Int)<=9223372036854775807:=q.hi;omega))
 |.negSucc n=>if h:zad n 9223372036854775807=true then .isTrue ⟨by have:=Nat.le_of_ble_eq_true h;rw [Int.negSucc_eq];omega,by rw [Int.negSucc_eq];omega⟩else .isFalse fun q=>h (Nat.ble_eq▸(by have:=q.lo;rw [Int.negSucc_eq]at this;omega))
structure Enc {α:Type} (f:α->List Value) (sz:Nat):Prop where
 len:∀x,(f x).length=sz
 one:∀x,∀v∈f x,v.oneCell'=true
def eS(s:Str):List Value:=[str s]
def eB(c:UInt8):List Value:=[bt c]
def eI(k:IntKind)(i:Int):List Value:=[.int k i]
theorem enc_S:Enc eS 1:=⟨fun _=>rfl,fun x v h=>by simp [eS]at h;subst h;rfl⟩
theorem flat_eB(l:List UInt8):l.flatMap eB=l.map bt:=by induction l with
 |nil=>rfl
 |cons c l ih=>rw [List.flatMap_cons,ih];rfl
theorem Enc.flat{α:Type}{f:α->List Value}{sz:Nat}(h:Enc f sz)(l:List α):(l.flatMap f).length=l.length*sz:=flat_len f sz h.len l
theorem Enc.cells{α:Type}{f:α->List Value}{sz:Nat}(h:Enc f sz)(l:List α):∀v∈l.flatMap f,v.oneCell'=true:=by
 intro v hv;obtain⟨x,_,hx⟩:=List.mem_flatMap.1 hv;exact h.one x v hx
def rwt{α:Type}(f:α->List Value)(e sz:Nat)(o:Option Nat)(a:Option Addr)(cap:Nat)(l:List α):Res:=
 ⟨o,fun ob=>(o=none/\l=[]/\cap=0/\a=none)\/
  ∃g cur,o=some g/\a=some ⟨g,0,none⟩/\ob=some (.cells cur e (0,0))/\l.length<=cap/\cap<=maxLen/\cur.size=cap*sz/\cur.toList.take (l.length*sz)=l.flatMap f⟩
theorem Hp.blkrw{w0 w:World}{S:List Nat}{L:List Res}{b e:Nat}{cs:List Value}{α:Type}{f:α->List Value}(h:Hp w0 S L w)(k sz m:Nat)(l:List α)(hk:L[k]? =some (blk b cs e))(hE:Enc f sz)(hcs:l.flatMap f=cs)(hl:l.length=m)(hm:m<=maxLen):
  Hp w0 S (L.set k (rwt f e sz (some b) (some ⟨b,0,none⟩) m l)) w:=by
 have hb:=h.blkAt k hk;subst hcs;subst hl;refine h.change k _ _ hk rfl rfl rfl (zab _) (fun _ _ _=>rfl) ?_ ?_
 ·exact .inr ⟨b,_,rfl,rfl,hb,zab _,hm,by simpa using hE.flat l,by rw [<-hE.flat l];exact List.take_length⟩
 ·intro b' hb';simp [rwt]at hb'
  subst hb';exact⟨.inl rfl,(Array.getElem?_eq_some_iff.1 hb).1⟩
section
variable {P : Program} {n : Md} {ops : Array Oper} {Q : Exit -> Act -> World -> Prop} {F : Nat -> Value} {w w0 : World} {S : List Nat} {L : List Res}
variable {d : Nat} {ty : TypeId} {pos : String} {after : Array Edge} {rest : List Oper} {α : Type} {f : α -> List Value}
end
section
variable {P : Program} {n : Md} {ops : Array Oper} {Q : Exit -> Act -> World -> Prop} {F : Nat -> Value} {w w0 : World} {S : List Nat} {L : List Res}
variable {d : Nat} {ty : TypeId} {pos : String} {after : Array Edge} {rest : List Oper} {α : Type} {f : α -> List Value}
end
theorem Rd.bytes{w:World}{a:Option Addr}{l:List UInt8}(h:Rd w a (l.flatMap eB)):Rd w a (l.map bt):=flat_eB l▸h
section
variable {P : Program} {n : Md} {ops : Array Oper} {Q : Exit -> Act -> World -> Prop} {F : Nat -> Value} {w w0 : World} {S : List Nat} {L : List Res}
variable {d : Nat} {ty : TypeId} {pos : String} {after : Array Edge} {rest : List Oper} {α : Type} {f : α -> List Value}
theorem w_run0{o:Oper}{rest:List Oper}{v:Value}{w':World}(hg:o.guard=none)(hd:o.dst=none)
  (hrun:(execOp (evn n F) o).run P w=.ok (.value v) w') (h:W P n ops Q rest F w'):W P n ops Q (o::rest) F w:=by
 obtain⟨k,D,ro⟩:=n;cases ro with
 |none=>
  unfold W WR at h⊢;dsimp only at h⊢;refine wpList_plain hg fun K hK=> ?_
  unfold Oper.wp;rw [aar,hrun,Oper.upon_value,hd];exact hK _ _ h
 |some r=>
  unfold W WR at h⊢;dsimp only at h⊢;refine wpListIn_plain hg fun K hK=>⟨fun _ _=>trivial, ?_⟩
  rw [aar,abm _ hrun (fun d e=>by cases e),hrun,Oper.uponIn_value,hd];exact hK _ _ h
end
section
variable {P : Program} {n : Md} {ops : Array Oper} {Q : Exit -> Act -> World -> Prop} {F : Nat -> Value} {w w0 : World} {S : List Nat} {L : List Res}
variable {d : Nat} {ty : TypeId} {pos : String} {after : Array Edge} {rest : List Oper} {α : Type} {f : α -> List Value}
end
section
variable {α : Type} {f : α -> List Value} {sz : Nat}
end
end Go.Wk
namespace Go.Px
open Go.Wk
def lowerB(c:UInt8):UInt8:=if 65<=c/\c<=90 then c+32 else c
set_option maxRecDepth 10000
theorem take_snoc(s:List UInt8)(k:Nat)(h:k<s.length):s.take (k+1)=s.take k++[at_ s k]:=by
 rw [List.take_succ_eq_append_getElem h];simp [at_,h]
def ixb(p:UInt8->Bool):List UInt8->Int
 |[]=> -1
 |b::l=>if p b then 0 else if ixb p l= -1 then-1 else ixb p l+1
theorem indexByte_ixb(c:UInt8):∀l,Lib.indexByte l c=ixb (·==c) l
 |[]=>rfl
 |b::l=>by unfold Lib.indexByte ixb;rw [indexByte_ixb c l];simp
def lixb(p:UInt8->Bool):List UInt8->Int
 |[]=> -1
 |b::l=>if lixb p l= -1 then(if p b then 0 else-1)else lixb p l+1
theorem lixb_snoc(p:UInt8->Bool)(b:UInt8):∀l:List UInt8,lixb p (l++[b])=if p b then(l.length:Int)else lixb p l
 |[]=>by simp [lixb]
 |a::l=>by
  rw [List.cons_append,lixb,lixb_snoc p b l];cases hp:p b
  ·simp [lixb]
  ·simp
theorem lastIdx_lixb(s:List UInt8)(c:UInt8):∀k:Nat,k<=s.length->Lib.lastIdx ⟨s.toArray⟩ (c.toNat:Int) k=lixb (·==c) (s.take k)
 |0,_=>by simp [Lib.lastIdx,lixb]
 |k+1,h=>by
  rw [take_snoc s k (by omega),lixb_snoc,Lib.lastIdx,lastIdx_lixb s c k (by omega)];have e:(⟨s.toArray⟩:ByteArray).data[k]! =at_ s k:=by simp [at_,show k<s.length by omega]
  rw [e];by_cases hc:at_ s k=c
  ·rw [if_pos (by rw [hc]),if_pos (by simp [hc])];simp;omega
  ·rw [if_neg (fun h=>hc (UInt8.toNat_inj.1 (by omega))),if_neg (by simpa using hc)]
theorem lastIndexByte_lixb(s:List UInt8)(c:UInt8):Lib.lastIndexByte ⟨s.toArray⟩ (c.toNat:Int)=lixb (·==c) s:=by
 unfold Lib.lastIndexByte
 have:=lastIdx_lixb s c s.length (Nat.le_refl _)
 rw [List.take_length]at this;exact this
theorem hp_grow{w:World}(k:Nat)(os:Array Obj):Hp w [] [] (Sort.grow (w.drewN k) os):=Hp.ofBelow ⟨rfl,rfl,rfl,by simp [Sort.grow,World.drewN],fun k hk=>by
 have:k<w.heap.size:=hk
 show(w.heap++os)[k]? =w.heap[k]?
 rw [Array.getElem?_append_left this]⟩
abbrev Pce:=Int×List UInt8
abbrev Prm:=List UInt8×List UInt8×Bool
section
variable (s : List UInt8) (sep : UInt8) (f k b : Nat) (acc : List Pce)
end
open Go.Wk
def hasB(l:List UInt8)(c:UInt8):Bool:=l.any (·==c)
section
variable (s : List UInt8) (f k : Nat) (acc : List UInt8)
end
abbrev lowP(s:List UInt8):List UInt8:=s.map lowerB
def getP(l:List Prm)(name:List UInt8):List UInt8×Bool:=match l.find? (fun p=>lowP p.1==lowP name)with|some p=>(p.2.1,true)|none=>([],false)
open Go.Wk
def spl(c:UInt8):List UInt8->List (List UInt8)
 |[]=>[[]]
 |b::l=>if b=c then []::spl c l else match spl c l with|x::r=>(b::x)::r|[]=>[[b]]
theorem spl_ne(c:UInt8):∀l,spl c l≠[]
 |[]=>by simp [spl]
 |b::l=>by unfold spl;split;simp;split<;>simp
theorem splitK_spl(c:UInt8):∀(s:List UInt8) (k:Nat),s.count c<=k->Lib.splitK [c] 0 k s=spl c s
 |[],k,_=>by cases k<;>simp [Lib.splitK,Lib.index,spl]
 |b::l,k,h=>by
  by_cases hb:b=c
  ·subst hb;obtain⟨k,rfl⟩:∃j,k=j+1:=⟨k-1,by simp at h;omega⟩
   have ih:=splitK_spl b l k (by simp at h;omega);simp [Lib.splitK,Lib.index,spl,ih]
  ·have hc:(b::l).count c=l.count c:=by simp [List.count_cons,hb]
   rw [hc]at h;have ih:=splitK_spl c l k h;unfold spl;rw [if_neg hb,<-ih];cases k with
   |zero=>simp [Lib.splitK]
   |succ k=>
    have hi:Lib.index (b::l) [c]=if Lib.index l [c]== -1 then-1 else Lib.index l [c]+1:=by
     conv=>lhs;unfold Lib.index
     rw [if_neg (by simp;exact fun h=>hb h.symm)]
    have hg:=Lib.index_ge l [c];unfold Lib.splitK;rw [hi];by_cases h1:Lib.index l [c]= -1
    ·simp [h1]
    ·have h2:¬(Lib.index l [c]+1)= -1:=by omega
     have h3:(Lib.index l [c]+1).toNat=(Lib.index l [c]).toNat+1:=by omega
     simp [h1,h2,h3]
theorem split_spl(s:List UInt8)(c:UInt8):(Lib.splitB ⟨#[c]⟩ 0 (Lib.countB ⟨s.toArray⟩ ⟨#[c]⟩) ⟨s.toArray⟩).map Value.string=(spl c s).map str:=by
 have h:=Lib.splitB_data ⟨#[c]⟩ 0 (Lib.countB ⟨s.toArray⟩ ⟨#[c]⟩) ⟨s.toArray⟩;have e:Lib.splitK [c] 0 (Lib.countB ⟨s.toArray⟩ ⟨#[c]⟩) s=spl c s:=splitK_spl c s _ (Nat.le_of_eq (Lib.count_one c s).symm);have h':(Lib.splitB ⟨#[c]⟩ 0 (Lib.countB ⟨s.toArray⟩ ⟨#[c]⟩) ⟨s.toArray⟩).map (·.data.toList)=spl c s:=h.trans e;rw [<-h',List.map_map];refine List.map_congr_left fun x _=> ?_
 rfl
theorem split_spl_len(s:List UInt8)(c:UInt8):Lib.countB ⟨s.toArray⟩ ⟨#[c]⟩+1=(spl c s).length:=by
 have:∀s:List UInt8,s.count c+1=(spl c s).length:=by
  intro s;induction s with
  |nil=>rfl
  |cons b l ih=>
   unfold spl;by_cases hb:b=c
   ·subst hb;simp;omega
   ·rw [if_neg hb];have hc:(b::l).count c=l.count c:=by simp [List.count_cons,hb]
    rw [hc,ih];split
    ·rename_i h;rw [h];simp
    ·rename_i h;exact absurd h (spl_ne c l)
 show Lib.count s [c]+1=_;rw [Lib.count_one,this]
theorem spl_sum(c:UInt8):∀s:List UInt8,(spl c s).length<=s.length+1/\∀x∈spl c s,x.length<=s.length
 |[]=>by simp [spl]
 |b::l=>by
  have ih:=spl_sum c l;unfold spl;split
  ·simp;exact⟨ih.1,fun x hx=>by have:=ih.2 x hx;omega⟩
  ·split
   ·rename_i x r h;rw [h]at ih;simp at ih⊢
    exact⟨by omega,by omega,fun a ha=>by have:=ih.2.2 a ha;omega⟩
   ·simp
theorem row_strs{w:World}(a:Addr)(xs:List (List UInt8))(h:Rd w (some a) (xs.map str)):∀(j:Nat) x,(xs.map fun l=>(⟨l.toArray⟩:ByteArray))[j]? =some x->w.cell? (a.add j)=some (.string x):=by
 intro j x hx;simp only [List.getElem?_map,Option.map_eq_some_iff]at hx;obtain⟨l,hl,rfl⟩:=hx;obtain⟨p,e,hc⟩:=h j (str l) (by simp [hl]);cases e
 exact hc
theorem rd_spot{w:World}{p:Addr}{v:Value}(h:w.cell? p=some v):p.spot=none:=by
 unfold World.cell? at h;split at h
 ·by_cases hs:p.spot.isSome=true
  ·simp [hs]at h
  ·simpa using hs
 ·simp at h
end Go.Px
namespace Go.Wk
open Go.Px
open Go.Value renaming slice -> Vs, int -> Vi, bool -> Vb, pointer -> Vp
def enamekind(x:(Str×Int)):List Value:=[(str x.1),(Vi .i64 x.2)]
def gl_specials:List Str:=[[67,97,108,108,45,73,68],[67,83,101,113],[77,73,77,69,45,86,101,114,115,105,111,110],[77,105,110,45,83,69],[82,65,99,107],[82,83,101,113],[87,87,87,45,65,117,116,104,101,110,116,105,99,97,116,101]]
def gl_kinds:List (Str×Int):=[([70,114,111,109],1),([84,111],1),([67,111,110,116,97,99,116],1),([82,111,117,116,101],1),([82,101,99,111,114,100,45,82,111,117,116,101],1),([80,97,116,104],1),([83,101,114,118,105,99,101,45,82,111,117,116,101],1),([82,101,102,101,114,45,84,111],1),([82,101,102,101,114,114,101,100,45,66,121],1),([82,101,112,108,121,45,84,111],1),([86,105,97],2),([67,83,101,113],3),([82,65,99,107],4),([67,111,110,116,101,110,116,45,76,101,110,103,116,104],5),([69,120,112,105,114,101,115],5),([77,97,120,45,70,111,114,119,97,114,100,115],5),([77,105,110,45,69,120,112,105,114,101,115],5),([82,83,101,113],5),([67,111,110,116,101,110,116,45,68,105,115,112,111,115,105,116,105,111,110],6),([67,111,110,116,101,110,116,45,84,121,112,101],6),([69,118,101,110,116],6),([77,105,110,45,83,69],6),([83,101,115,115,105,111,110,45,69,120,112,105,114,101,115],6),([83,117,98,115,99,114,105,112,116,105,111,110,45,83,116,97,116,101],6),([65,99,99,101,112,116],7),([65,108,108,111,119],7),([65,108,108,111,119,45,69,118,101,110,116,115],7),([80,114,111,120,121,45,82,101,113,117,105,114,101],7),([82,101,113,117,105,114,101],7),([83,117,112,112,111,114,116,101,100],7),([85,110,115,117,112,112,111,114,116,101,100],7)]
def gl_classes:List Str:=[[38,61,43,36,44,59,63,47],[91,93,47,58,38,43,36],[91,93,47,63,58,43,36]]
def gl_rounds:List Int:=[1116352408,1899447441,3049323471,3921009573,961987163,1508970993,2453635748,2870763221,3624381080,310598401,607225278,1426881987,1925078388,2162078206,2614888103,3248222580,3835390401,4022224774,264347078,604807628,770255983,1249150122,1555081692,1996064986,2554220882,2821834349,2952996808,3210313671,3336571891,3584528711,113926993,338241895,666307205,773529912,1294757372,1396182291,1695183700,1986661051,2177026350,2456956037,2730485921,2820302411,3259730800,3345764771,3516065817,3600352804,4094571909,275423344,430227734,506948616,659060556,883997877,958139571,1322822218,1537002063,1747873779,1955562222,2024104815,2227730452,2361852424,2428436474,2756734187,3204031479,3329325298]
def jmp:Nat->Option Code
 |0=>none
 |1=>some .ret
 |n+2=>some (.exit n)
def lst(j:Nat):LoopState:=if j=0 then .ready else .done
def lrec(l j:Nat)(rc:Loop):Res:=⟨some l,fun o=>o=some (.loop {rc with state:=lst j,pending:=jmp j})⟩
def lbusy(l:Nat)(rc:Loop):Res:=⟨some l,fun o=>∃pd,o=some (.loop {rc with state:=.busy,pending:=pd})⟩
def dfr(r:Nat):Res:=⟨some r,fun o=>o=some (.deferred (some []))⟩
def gone(r:Nat):Res:=⟨some r,fun _=>True⟩
theorem Hp.put{w0 w:World}{S:List Nat}{L:List Res}(h:Hp w0 S L w)(k b:Nat)(r r':Res)(o:Obj)(hk:L[k]? =some r)(hr:r.own=some b)(hr':r'.own=some b)(ho:r'.ok (some o)):Hp w0 S (L.set k r') (w.putObj b o):=by
 have hb:=((h.res _ (List.mem_of_getElem? hk)).2 b hr).1;refine h.change k _ _ hk rfl rfl rfl (by simp) (fun j hj hne=>World.putObj_heap_other (fun e=>hne (by rw [hr,e]))) ?_ (fun c hc=> ?_)
 ·unfold Res.holds;rw [hr'];simp only [Option.bind_some];rw [World.putObj_heap_same hb];exact ho
 ·rw [hr']at hc;cases hc
  exact⟨.inl hr,by simpa using hb⟩
theorem Hp.allocR{w0 w:World}{S:List Nat}{L:List Res}(h:Hp w0 S L w)(o:Obj)(r:Res)(ho:r.own=some w.heap.size)(hr:r.ok (some o)):Hp w0 S (r::L) (w.alloc o):=by
 have h2:Hp w [] [r] (w.alloc o):=by
  refine⟨rfl,rfl,rfl,by simp,fun k hk _=>RowKit.Below.heap_alloc w _ k hk,fun x hx=> ?_,by simp⟩
  simp at hx
  subst hx;refine⟨?_,fun b hb=> ?_⟩
  ·unfold Res.holds;rw [ho];show x.ok ((w.heap.push o)[w.heap.size]?);simpa using hr
  ·rw [ho]at hb;cases hb
   simp
 exact h.callL h2
def YR(P:Program)(l:Nat)(args:List Value)(w:World)(R:Value->World->Prop):Prop:=
 ∃f tmps azq bd,(Instr.yield l args.toArray).run P w=.ok (.round l f tmps azq bd) w/\RoundIn Fence.wide 0 P l f tmps azq bd w (fun e w'=>∃v,e=.returned v/\R v w')
theorem YR.mono{P:Program}{l:Nat}{args:List Value}{w:World}{R R':Value->World->Prop}(h:YR P l args w R)(hr:∀v w',R v w'->R' v w'):YR P l args w R':=by
 obtain⟨f,tmps,azq,bd,h1,h2⟩:=h;exact⟨f,tmps,azq,bd,h1,h2.mono fun e w' ⟨v,hv,hq⟩=>⟨v,hv,hr v w' hq⟩⟩
section
variable {P : Program} {ops : Array Oper} {Q : Exit -> Act -> World -> Prop} {F : Nat -> Value} {w w0 : World} {S : List Nat} {L : List Res}
variable {d : Nat} {ty : TypeId} {pos : String} {after : Array Edge} {rest : List Oper} {k : Nat} {D : List Deferred} {ro : Option Nat}
theorem w_yield{fo:Operand}{azq:Array Operand}{ats:Array TypeId}(l:Nat)(vs:List Value)(R:Value->World->Prop)
  (hf:evn ⟨k,D,some ro⟩ F fo=.func (.yield l) #[] #[]) (ha: #[]++azq.map (evn ⟨k,D,some ro⟩ F)++ #[]=vs.toArray) (hc:YR P l vs w R) (h:∀v w',R v w'->W P ⟨k,D,some ro⟩ ops Q rest (upd F d v) w'):
  W P ⟨k,D,some ro⟩ ops Q (⟨some d,.call ⟨.value fo,azq,ats⟩,ty,pos,after,none⟩::rest) F w:=by
 obtain⟨f,tmps,asg,bd,h1,h2⟩:=hc;have hrun:(execOp (evn ⟨k,D,some ro⟩ F) (⟨some d,.call ⟨.value fo,azq,ats⟩,ty,pos,after,none⟩:Oper)).run P w=.ok (.round l f tmps asg bd) w:=by
  simp only [execOp,resolve,hf,Deferred.ofValue];show Sem.run P (Instr.yield l (#[]++azq.map (evn ⟨k,D,some ro⟩ F)++ #[])) w=_;rw [ha];exact h1
 unfold W WR;refine wpListIn_plain rfl fun K hK=>⟨fun _ _=>trivial, ?_⟩
 rw [aar,abm _ hrun (fun d e=>by cases e),hrun,Oper.uponIn_round];refine⟨fun h=>absurd h Bool.false_ne_true, ?_⟩
 refine RoundIn.mono (F:=Fence.wide) (n:=0) h2 ?_;rintro e w' ⟨v,rfl,hv⟩
 refine hK _ _ ?_
 have:=h v w' hv
 unfold W WR at this;rw [<-fr_put]at this;exact this
theorem enterM{f:FuncId}{fn:Func}{c:Code}{args:List Value}{R:Value->World->Prop}(hf:P.funcs[f]? =some fn)(hb:fn.body=some c)(hn:fn.ntmps=k)(hl:args.length<=k)
  (h:C P ⟨k,[],some none⟩ (bodyPostM Fence.wide 0 P fn fun e w'=>∃v,e=.returned v/\R v w') c (argF args) w):CR P f args w R:=by
 refine(callsIn_wide (n:=0)).1 (callsIn_of_wp_marks hf hb trivial ?_)
 rw [hn,fr_args args k hl];unfold C CC at h;exact h
def mark(r:Nat):Deferred:={target:=.collected r,args:= #[]}
theorem m_res0{fn:Func}{R:Value->World->Prop}(h:∃v,(results fn (fr ⟨k,[],none⟩ F).tmps).run P w=.ok v w/\R v w):
  bodyPostM Fence.wide 0 P fn (fun e w'=>∃v,e=.returned v/\R v w') .ret (fr ⟨k,[],some none⟩ F) w:=by
 obtain⟨v,h1,h2⟩:=h;exact⟨v,h1,v,rfl,h2⟩
theorem m_res1{fn:Func}{R:Value->World->Prop}(hH:Hp w0 S L w)(kd r:Nat)(hk:L[kd]? =some (dfr r))(h:∀w',Hp w0 S (L.set kd (gone r)) w'->∃v,(results fn (fr ⟨k,[],none⟩ F).tmps).run P w'=.ok v w'/\R v w'):
  bodyPostM Fence.wide 0 P fn (fun e w'=>∃v,e=.returned v/\R v w') .ret (fr ⟨k,[mark r],some none⟩ F) w:=by
 have hb:w.heap[r]? =some (.deferred (some [])):=(hH.res _ (List.mem_of_getElem? hk)).1;obtain⟨v,h1,h2⟩:=h _ (hH.put kd r (dfr r) (gone r) (.deferred none) hk rfl rfl trivial);exact⟨by simp,.inl ⟨r,_,rfl,run_takeDeferred hb,v,h1,v,rfl,h2⟩⟩
theorem m_norm{fn:Func}{R:Ending->World->Prop}{a:Act}(h:bodyPostM Fence.wide 0 P fn R .ret a w):bodyPostM Fence.wide 0 P fn R .normal a w:=h
def RgQ(P:Program)(k r:Nat)(Q:Exit->Act->World->Prop)(F:Nat->Value)(j:Nat)(w:World):Prop:=
 match jmp j with
 |none=>Q .normal (fr ⟨k,[mark r],some none⟩ F) w
 |some c=>C P ⟨k,[mark r],some none⟩ Q c F w
theorem rg0{r j:Nat}(hj:j=0)(h:Q .normal (fr ⟨k,[mark r],some none⟩ F) w):RgQ P k r Q F j w:=by subst hj;exact h
theorem rg1{r j:Nat}(hj:j=1)(h:C P ⟨k,[mark r],some none⟩ Q .ret F w):RgQ P k r Q F j w:=by subst hj;exact h
theorem rgx{r j:Nat}(id:Nat)(hj:j=id+2)(h:C P ⟨k,[mark r],some none⟩ Q (.exit id) F w):RgQ P k r Q F j w:=by subst hj;exact h
def updL(F:Nat->Value):List Nat->List Value->Nat->Value
 |p::ps,v::vs=>updL (upd F p v) ps vs
 |_,_=>F
theorem updL_tmps(m:Md):∀(ps:List Nat) (vs:List Value) (F:Nat->Value),(ps.zip vs).foldl (fun t (x:Nat×Value)=>t.setIfInBounds x.1 x.2) (fr m F).tmps=(fr m (updL F ps vs)).tmps
 |[],_,F=>by simp [updL]
 |_::_,[],F=>by simp [updL]
 |p::ps,v::vs,F=>by
  simp only [List.zip_cons_cons,List.foldl_cons,updL];rw [<-updL_tmps m ps vs (upd F p v)];congr 1
  have:=fr_put m F p v
  unfold Act.put at this;exact congrArg Act.tmps this
def AsgQ(P:Program)(l:Nat)(bd:Code)(R:Value->World->Prop):Exit->Act->World->Prop:=
 Exit.then (fun a1 w1=>∃w2,(Instr.beginRound l).run P w1=.ok () w2/\bd.wpIn (fen (some l)) 0 P (roundPost P l fun e w'=>∃v,e=.returned v/\R v w') a1 w2) (fun _ _ _=>False)
def RndQ(P:Program)(l:Nat)(R:Value->World->Prop):Exit->Act->World->Prop:=roundPost P l fun e w'=>∃v,e=.returned v/\R v w'
theorem yr_intro{l:Nat}{rc:Loop}{R:Value->World->Prop}{ps:List Nat}{vs:List Value}{m:Option (Option Nat)}{asg bd:Code}(hH:Hp w0 S L w)(kl:Nat)(hk:L[kl]? =some (lrec l 0 rc))(ha:rc.assign=asg)(hb:rc.body=bd)(hp:rc.params=ps.toArray)(ht:rc.tmps=(fr ⟨k,[],m⟩ F).tmps)(hl:ps.length=vs.length)
  (h:C P ⟨k,[],some (some l)⟩ (AsgQ P l bd R) asg (updL F ps vs) w):YR P l vs w R:=by
 have hr:w.heap[l]? =some (.loop {rc with state:=lst 0,pending:=jmp 0}):=(hH.res _ (List.mem_of_getElem? hk)).1;subst ha;subst hb;refine⟨rc.fn,_,rc.assign,rc.body,run_yield (r:={rc with state:=lst 0,pending:=jmp 0}) hr (by simp [hp,hl]), ?_⟩
 refine roundIn_of_wpIn trivial ?_;have e:(({rc with state:=lst 0,pending:=jmp 0}:Loop).params.zip vs.toArray).foldl (fun tmps (x:Nat×Value)=>tmps.setIfInBounds x.1 x.2) ({rc with state:=lst 0,pending:=jmp 0}:Loop).tmps=(fr ⟨k,[],some (some l)⟩ (updL F ps vs)).tmps:=by
  show((rc.params.zip vs.toArray).foldl _ rc.tmps)=_
  rw [hp,ht]
  have:=updL_tmps ⟨k,[],m⟩ ps vs F
  rw [show(fr ⟨k,[],some (some l)⟩ (updL F ps vs)).tmps=(fr ⟨k,[],m⟩ (updL F ps vs)).tmps from rfl,<-this];simp
 unfold C CC at h;have e2:fr ⟨k,[],some (some l)⟩ (updL F ps vs)={tmps:=(fr ⟨k,[],some (some l)⟩ (updL F ps vs)).tmps,defers:=[]}:=rfl;rw [e2,<-e]at h;exact h
theorem asg_next{l:Nat}{rc:Loop}{R:Value->World->Prop}{bd:Code}(hH:Hp w0 S L w)(kl:Nat)(hk:L[kl]? =some (lrec l 0 rc))(h:∀w2,Hp w0 S (L.set kl (lbusy l rc)) w2->C P ⟨k,[],some (some l)⟩ (RndQ P l R) bd F w2):
  AsgQ P l bd R .normal (fr ⟨k,[],some (some l)⟩ F) w:=by
 have hr:w.heap[l]? =some (.loop {rc with state:=lst 0,pending:=jmp 0}):=(hH.res _ (List.mem_of_getElem? hk)).1;have h2:=h _ (hH.put kl l (lrec l 0 rc) (lbusy l rc) (.loop {rc with state:=.busy,pending:=jmp 0}) hk rfl rfl ⟨_,rfl⟩);unfold C CC RndQ at h2;exact⟨_,run_beginRound hr rfl,h2⟩
theorem rnd_end{l:Nat}{rc:Loop}{R:Value->World->Prop}(j:Nat)(hH:Hp w0 S L w)(kl:Nat)(hk:L[kl]? =some (lbusy l rc))(h:∀w',Hp w0 S (L.set kl (lrec l j rc)) w'->R (.bool (decide (j=0))) w'):
  ∃v w',(Instr.endRound l (jmp j)).run P w=.ok v w'/\∃u,Ending.returned v=.returned u/\R u w':=by
 obtain⟨pd,hr⟩:=(hH.res _ (List.mem_of_getElem? hk)).1;have hr':w.heap[l]? =some (.loop {rc with state:=.busy,pending:=pd}):=hr;have e1:(jmp j).isNone=decide (j=0):=by
  cases j with
  |zero=>rfl
  |succ n=>cases n<;>rfl
 have e2:(if(jmp j).isNone=true then LoopState.ready else .done)=lst j:=by
  rw [e1];unfold lst;simp
 refine⟨_,_,run_endRound (jmp j) hr',_,rfl, ?_⟩
 rw [e1];refine h _ ?_;have h3:=hH.put kl l (lbusy l rc) (lrec l j rc) (.loop {rc with state:=lst j,pending:=jmp j}) hk rfl rfl rfl;rw [<-e1,e2];exact h3
theorem rnd_normal{l:Nat}{rc:Loop}{R:Value->World->Prop}(hH:Hp w0 S L w)(kl:Nat)(hk:L[kl]? =some (lbusy l rc))(h:∀w',Hp w0 S (L.set kl (lrec l 0 rc)) w'->R (.bool true) w'):RndQ P l R .normal (fr ⟨k,[],some (some l)⟩ F) w:=rnd_end 0 hH kl hk h
theorem rnd_ret{l:Nat}{rc:Loop}{R:Value->World->Prop}(hH:Hp w0 S L w)(kl:Nat)(hk:L[kl]? =some (lbusy l rc))(h:∀w',Hp w0 S (L.set kl (lrec l 1 rc)) w'->R (.bool false) w'):RndQ P l R .ret (fr ⟨k,[],some (some l)⟩ F) w:=rnd_end 1 hH kl hk h
theorem rnd_exit{l id:Nat}{rc:Loop}{R:Value->World->Prop}(hH:Hp w0 S L w)(kl:Nat)(hk:L[kl]? =some (lbusy l rc))(h:∀w',Hp w0 S (L.set kl (lrec l (id+2) rc)) w'->R (.bool false) w'):RndQ P l R (.exit id) (fr ⟨k,[],some (some l)⟩ F) w:=rnd_end (id+2) hH kl hk (by simpa using h)
end
attribute [irreducible] RgQ AsgQ RndQ
open Go.Lib
open Nat renaming beq -> zac
section
variable {P : Program} {n : Md} {ops : Array Oper} {Q : Exit -> Act -> World -> Prop} {F : Nat -> Value} {w w0 : World} {S : List Nat} {L : List Res}
variable {d : Nat} {ty : TypeId} {pos : String} {after : Array Edge} {rest : List Oper}
theorem x_pnil{x y:Operand}{t t' e:TypeId}(p:Option Addr)(ht:P.underlying t=some (.pointer e))(hx:evn n F x=.pointer p)(hy:evn n F y=.pointer none):(execOp (evn n F) (⟨some d,.binOp .eql t x y t',ty,pos,after,none⟩:Oper)).run P w=.ok (.value (.bool p.isNone)) w:=by
 have he:P.pointee t=e:=by simp [Program.pointee,ht]
 have e1:=run_equal_pointer_nil (P:=P) w t p (by rw [he];exact ht);have e2:(binOp .eql t (.pointer p) (.pointer none)).run P w=.ok (.bool p.isNone) w:=by simp only [binOp];simp [e1]
 simp [execOp,hx,hy,eqGuard,e2]
theorem w_pnil{x y:Operand}{t t' e:TypeId}(p:Option Addr)(ht:P.underlying t=some (.pointer e))(hx:evn n F x=.pointer p)(hy:evn n F y=.pointer none)(h:W P n ops Q rest (upd F d (.bool p.isNone)) w):W P n ops Q (⟨some d,.binOp .eql t x y t',ty,pos,after,none⟩::rest) F w:=abt rfl rfl (x_pnil p ht hx hy) h
theorem w_pself{x y:Operand}{t t' e:TypeId}(a:Addr)(ht:P.underlying t=some (.pointer e))(hi:(P.info? e).isSome=true)(hx:evn n F x=.pointer (some a))(hy:evn n F y=.pointer (some a))(h:W P n ops Q rest (upd F d (.bool false)) w):W P n ops Q (⟨some d,.binOp .neq t x y t',ty,pos,after,none⟩::rest) F w:=by
 obtain⟨j,hj⟩:=Option.isSome_iff_exists.1 hi;have e2:=run_neq_ptr_same (P:=P) w a ht hj;refine abt (v:=.bool false) (w':=w) rfl rfl ?_ h;simp [execOp,hx,hy,eqGuard,e2]
theorem w_toUns{x:Operand}{s t u:TypeId}(hH:Hp w0 S L w)(k b off e:Nat)(cs:List Value)(hk:L[k]? =some (blk b cs e))(hs:P.underlying s=some (.pointer u))(ht:P.underlying t=some .unsafePointer)(hi:((P.info? u).map (fun i=>zac i.size 0))=some false)(ho:off<cs.length)(hx:evn n F x=.pointer (some ⟨b,off,none⟩))
  (h:W P n ops Q rest (upd F d (.pointer (some ⟨b,off,none⟩))) w):W P n ops Q (⟨some d,.convert s t x,ty,pos,after,none⟩::rest) F w:=by
 obtain⟨j,hj,hj2⟩:=Option.map_eq_some_iff.1 hi;have hj0:j.size≠0:=fun e0=>by rw [e0]at hj2;cases hj2
 have hb:=hH.blkAt k hk;have hsh:w.shape? b=some (e,cs.length):=by simp [World.shape?,hb]
 have e1:=run_to_unsafe (P:=P) w ⟨b,off,none⟩ hs ht hj hj0 hsh ho;refine abt (w':=w) rfl rfl ?_ h;simp [execOp,hx,e1]
theorem w_ofUns{x:Operand}{s t u:TypeId}(hH:Hp w0 S L w)(k b off e:Nat)(cs:List Value)(hk:L[k]? =some (blk b cs e))(hs:P.underlying s=some .unsafePointer)(ht:P.underlying t=some (.pointer u))(hi:(P.info? u).isSome=true)(hl:liesAt P P.depth e (cs.length/P.cellsOf e) off u 1=true)(hx:evn n F x=.pointer (some ⟨b,off,none⟩))
  (h:W P n ops Q rest (upd F d (.pointer (some ⟨b,off,none⟩))) w):W P n ops Q (⟨some d,.convert s t x,ty,pos,after,none⟩::rest) F w:=by
 obtain⟨j,hj⟩:=Option.isSome_iff_exists.1 hi;have hb:=hH.blkAt k hk;have hsh:w.shape? b=some (e,cs.length):=by simp [World.shape?,hb]
 have e1:=run_from_unsafe (P:=P) w ⟨b,off,none⟩ hs ht hj hsh hl;refine abt (w':=w) rfl rfl ?_ h;simp [execOp,hx,e1]
theorem w_noEsc{fo : Operand}{azq : Array Operand}{ats : Array TypeId}{fn : Func}(hH : Hp w0 S L w)(f : FuncId)(v : Value)(hf : evn n F fo = .func (.func f) #[] #[])(ha : #[] ++ azq.map (evn n F) ++ #[] = #[v])(h1 : P.funcs[f]? = some fn)(h2 : (fn.name == "runtime.NumGoroutine") = false)(h3 : fn.body.isNone = true)(h4 : Extern.findNext fn = none)(h5 : Extern.find fn = some Extern.AbiNoEscape.same)
  (h:∀w',Hp w0 S L w'->W P n ops Q rest (upd F d v) w'):W P n ops Q (⟨some d,.call ⟨.value fo,azq,ats⟩,ty,pos,after,none⟩::rest) F w:=by
 have e1:=run_callFunc_extern (P:=P) h1 h2 h3 h4 (e:=Extern.AbiNoEscape.same) h5 (args:= #[v]) (w:=w);rw [run_noEscape]at e1;refine abt (v:=v) (w':=w) rfl rfl ?_ (h w hH);simp only [execOp,resolve,hf,Deferred.ofValue];show Sem.run P (callFunc f (#[]++azq.map (evn n F)++ #[])) w=_;rw [ha,e1];rfl
end
open Bool renaming and_eq_true -> zar
open Nat renaming blt -> zak
def sval{α:Type}(P:Program):Sem α->Option α
 |.pure a=>some a
 |.program k=>sval P (k P)
 |.mark _ k=>sval P k
 |_=>none
theorem abv{α:Type}{P:Program}:∀{s:Sem α} {a:α},sval P s=some a->∀w,s.run P w=.ok a w:=by
 intro s;induction s with
 |pure a=>intro b h w;simp only [sval,Option.some.injEq]at h;subst h;rfl
 |program k ih=>intro b h w;exact ih P h w
 |mark m k ih=>intro b h w;exact ih h w
 |_=>intro b h;simp [sval]at h
def pbin(b:BinOp)(x y:Value):Option Value:=
 match x,y with
 |.string s,.string t=>
  match b with
  |.eql=>some (.bool (decide (s.data.toList=t.data.toList)))
  |.neq=>some (.bool (!decide (s.data.toList=t.data.toList)))
  |.lss=>some (.bool (Op.bytesLess s.data.toList t.data.toList))
  |.gtr=>some (.bool (!(Op.bytesLess s.data.toList t.data.toList||s.data.toList==t.data.toList)))
  |_=>none
 |.int k a,.int k' c=>
  if k=k' then
   match b with
   |.lss=>some (.bool (decide (a<c)))
   |.leq=>some (.bool (decide (a<=c)))
   |.gtr=>some (.bool (decide (c<a)))
   |.geq=>some (.bool (decide (c<=a)))
   |.eql=>some (.bool (decide (a=c)))
   |.neq=>some (.bool (!decide (a=c)))
   |_=>none
  else none
 |_,_=>none
def isLen:Callee->Bool
 |.builtin .len=>true
 |_=>false
def plen(P:Program)(n:Md)(F:Nat->Value)(c:Call):Option Value:=
 bif isLen c.callee then
  match c.args.toList with
  |[x]=>match c.argTypes.toList with
   |[t]=>match P.underlying t with
    |some .string=>match evn n F x with|.string s=>some (.int .i64 (s.data.toList.length:Int))|_=>none
    |some (.slice _)=>match evn n F x with|.slice _ m _=>some (.int .i64 (m:Int))|_=>none
    |_=>none
   |_=>none
  |_=>none
 else none
def pval(P:Program)(n:Md)(F:Nat->Value)(o:Oper):Option Value:=
 match o.op with
 |.move x=>some (evn n F x)
 |.assign x=>some (evn n F x)
 |.pick c a b=>match evn n F c with|.bool t=>some (bif t then evn n F a else evn n F b)|_=>none
 |.unOp .not _ x=>match evn n F x with|.bool b=>some (.bool (!b))|_=>none
 |.extract x i=>match evn n F x with|.tuple vs=>vs[i]? |_=>none
 |.binOp b _ x y _=>pbin b (evn n F x) (evn n F y)
 |.call c=>plen P n F c
 |_=>match sval P (execOp (evn n F) o)with|some (.value v)=>some v|_=>none
section
variable {P : Program} {n : Md} {ops : Array Oper} {Q : Exit -> Act -> World -> Prop} {F : Nat -> Value} {w : World}
theorem ex_eq(ρ : Operand -> Value)(dst : Option Nat)(op : Op)(ty : TypeId)(pos : String)(after : Array Edge)(g : Option (Nat × Bool)) : execOp ρ ⟨dst, op, ty, pos, after, g⟩ = execOp ρ ⟨some 0, op, ty, "", #[], none⟩ := rfl
theorem pbin_run{b:BinOp}{t t':TypeId}{x y:Operand}{dst:Option Nat}{ty:TypeId}{pos:String}{after:Array Edge}{g:Option (Nat×Bool)}{v:Value}(h:pbin b (evn n F x) (evn n F y)=some v)(w:World):
  (execOp (evn n F) (⟨dst,.binOp b t x y t',ty,pos,after,g⟩:Oper)).run P w=.ok (.value v) w:=by
 rw [ex_eq];generalize hx:evn n F x=a at h;generalize hy:evn n F y=c at h;cases a with
 |string s=>
  cases c with
  |string t2=>
   have hx':evn n F x=str s.data.toList:=hx;have hy':evn n F y=str t2.data.toList:=hy;cases b<;>simp only [pbin,Option.some.injEq,reduceCtorEq]at h<;>subst h
   ·exact x_streq _ _ hx' hy'
   ·exact x_strne _ _ hx' hy'
   ·exact x_strlt _ _ hx' hy'
   ·exact x_strgt _ _ hx' hy'
  |_=>simp [pbin]at h
 |int k a=>
  cases c with
  |int k' c=>
   by_cases hk:k=k'
   ·subst hk;cases b<;>simp only [pbin,if_true,Option.some.injEq,reduceCtorEq]at h<;>subst h
    ·exact x_eql k _ _ hx hy
    ·exact x_neq k _ _ hx hy
    ·exact x_lss k _ _ hx hy
    ·exact x_leq k _ _ hx hy
    ·exact x_gtr k _ _ hx hy
    ·exact x_geq k _ _ hx hy
   ·simp [pbin,hk]at h
  |_=>simp [pbin]at h
 |_=>simp [pbin]at h
theorem plen_run{c:Call}{dst:Option Nat}{ty:TypeId}{pos:String}{after:Array Edge}{g:Option (Nat×Bool)}{v:Value}(h:plen P n F c=some v)(w:World):
  (execOp (evn n F) (⟨dst,.call c,ty,pos,after,g⟩:Oper)).run P w=.ok (.value v) w:=by
 rw [ex_eq];obtain⟨cl,azq,ts⟩:=c;unfold plen at h;cases hl:isLen cl with
 |false=>rw [hl]at h;cases h
 |true=>
  obtain rfl:cl=.builtin .len:=by
   unfold isLen at hl;split at hl
   ·rfl
   ·cases hl
  rw [hl]at h;simp only [cond_true]at h;obtain⟨azq⟩:=azq;obtain⟨ts⟩:=ts
  match azq,ts,h with
  |[x],[t],h=>
   dsimp only at h;split at h
   ·rename_i ht;split at h
    ·rename_i s hx;cases h
     exact x_len s.data.toList ht hx
    ·cases h
   ·rename_i e ht;split at h
    ·rename_i a m c hx;cases h
     exact x_lenS a m c e ht hx
    ·cases h
   ·cases h
  |[],_,h=>cases h
  |[_],[],h=>cases h
  |[_],_::_::_,h=>cases h
  |_::_::_,_,h=>cases h
theorem pval_run{o:Oper}{v:Value}(h:pval P n F o=some v)(w:World):(execOp (evn n F) o).run P w=.ok (.value v) w:=by
 obtain⟨dst,op,ty,pos,after,g⟩:=o;unfold pval at h;dsimp only at h;split at h
 ·cases h;rfl
 ·cases h;rfl
 ·rename_i c a b;rw [ex_eq];split at h
  ·rename_i t hc;cases h
   exact x_pick t _ hc rfl
  ·cases h
 ·rw [ex_eq];split at h
  ·rename_i b hx;cases h
   exact x_not b hx
  ·cases h
 ·rw [ex_eq];split at h
  ·rename_i vs hx;exact x_extract vs v hx h
  ·cases h
 ·exact pbin_run h w
 ·exact plen_run h w
 ·split at h
  ·rename_i v' hs;cases h
   exact abv hs w
  ·cases h
def gof(ops:Array Oper)(g:Nat):Option Nat:=(ops[g]?).bind (·.dst)
def pvl(P:Program)(n:Md)(ops:Array Oper)(F:Nat->Value)(o:Oper):Value:=
 match o.guard with
 |none=>(pval P n F o).getD undef
 |some (g,b)=>match gof ops g with
  |none=>undef
  |some dg=>match F dg with
   |.bool c=>bif c==b then(pval P n F o).getD undef else undef
   |_=>undef
def pput(P:Program)(n:Md)(ops:Array Oper)(F:Nat->Value)(o:Oper):Nat->Value:=
 match o.dst with
 |none=>F
 |some d=>upd F d (pvl P n ops F o)
def isUndef:Value->Bool
 |.tuple vs=>vs.toList.isEmpty
 |_=>false
theorem isUndef_eq{v:Value}(h:isUndef v=true):v=undef:=by
 unfold isUndef at h;split at h
 ·rename_i vs;obtain⟨l⟩:=vs;cases l with
  |nil=>rfl
  |cons a l=>cases h
 ·cases h
def pok(P:Program)(n:Md)(ops:Array Oper)(F:Nat->Value)(o:Oper):Bool:=
 match o.dst with
 |none=>false
 |some d=>match o.guard with
  |none=>(pval P n F o).isSome
  |some (g,b)=>match gof ops g with
   |none=>false
   |some dg=>zak dg n.n&&match F dg with
    |.bool c=>bif c==b then(pval P n F o).isSome else true
    |v=>isUndef v
def pF(P:Program)(n:Md)(ops:Array Oper):Nat->List Oper->(Nat->Value)->Nat->Value
 |0,_,F=>F
 |_+1,[],F=>F
 |m+1,o::l,F=>pF P n ops m l (pput P n ops F o)
def pOK(P:Program)(n:Md)(ops:Array Oper):Nat->List Oper->(Nat->Value)->Bool
 |0,_,_=>true
 |_+1,[],_=>false
 |m+1,o::l,F=>pok P n ops F o&&pOK P n ops m l (pput P n ops F o)
theorem w_pok{o:Oper}{rest:List Oper}(hok:pok P n ops F o=true)(h:W P n ops Q rest (pput P n ops F o) w):W P n ops Q (o::rest) F w:=by
 obtain⟨dst,op,ty,pos,after,gd⟩:=o;cases dst with
 |none=>simp [pok]at hok
 |some d=>
  cases gd with
  |none=>
   simp only [pok]at hok;cases hv:pval P n F ⟨some d,op,ty,pos,after,none⟩with
   |none=>rw [hv]at hok;cases hok
   |some v=>
    simp only [pput,pvl,hv,Option.getD_some]at h;exact abt rfl rfl (pval_run hv w) h
  |some gb=>
   obtain⟨g,b⟩:=gb;simp only [pok]at hok;cases hg:gof ops g with
   |none=>rw [hg]at hok;cases hok
   |some dg=>
    rw [hg]at hok;simp only [zar]at hok;simp only [pput,pvl,hg]at h;cases hF:F dg with
    |bool c=>
     rw [hF]at hok h;cases hc:c==b with
     |true=>
      have hcb:c=b:=by simpa using hc
      subst hcb;simp only [hc,cond_true]at hok h;cases hv:pval P n F ⟨some d,op,ty,pos,after,some (g,c)⟩with
      |none=>rw [hv]at hok;exact absurd hok.2 (by simp)
      |some v=>
       rw [hv]at h;exact w_gyes dg hg hok.1 hF (abt rfl rfl (pval_run (o:=⟨some d,op,ty,pos,after,none⟩) hv w) h)
     |false=>
      have hcb:c= !b:=by cases c<;>cases b<;>simp_all
      subst hcb;simp only [hc,cond_false]at h;exact w_gno dg hg hok.1 hF h
    |tuple vs=>
     rw [hF]at hok h;have hu:F dg=undef:=by
      rw [hF];have h2:isUndef (.tuple vs)=true:=hok.2;exact isUndef_eq h2
     exact w_gun dg hg hok.1 hu h
    |_=>rw [hF]at hok;exact absurd hok.2 (by simp [isUndef])
theorem wp_aux:∀(m:Nat) (l:List Oper) (F:Nat->Value),pOK P n ops m l F=true->W P n ops Q (l.drop m) (pF P n ops m l F) w->W P n ops Q l F w
 |0,l,F,_,h=>h
 |m+1,[],F,hok,_=>by simp [pOK]at hok
 |m+1,o::l,F,hok,h=>by
  simp only [pOK,zar]at hok;exact w_pok hok.1 (wp_aux m l _ hok.2 h)
theorem wp{l:List Oper}(m:Nat)(h:W P n ops Q (l.drop m) (pF P n ops m l F) w)(hok:pOK P n ops m l F=true:=by kernel_rfl):W P n ops Q l F w:=wp_aux m l F hok h
def rF(P:Program)(n:Md)(ops:Array Oper):List Nat->(Nat->Value)->Nat->Value
 |[],F=>F
 |i::is,F=>rF P n ops is (match ops[i]? with|some o=>pput P n ops F o|none=>F)
theorem rt{kn:Nat}{kD:List Deferred}{S:Nat->World->World->Prop}{k f d:Nat}{l:List Bool}{o:Oper}(i:Nat)(v:Value)(ho:ops[i]? =some o)(hd:o.dst=some d)(hy:YieldsIf P ops (fun _=>True) o v (fr ⟨kn,kD,none⟩ F))
  (h:R P ⟨kn,kD,none⟩ ops Q S k f (l.set i true) (upd F d v) w) (hs:aas ops k=true:=by kernel_rfl) (hfree:Region.free .any ops l.toArray i=true:=by kernel_rfl)
  (hr:(Region.ready .any ops l.toArray).contains i=true:=by kernel_rfl) (hik:zak i k=true:=by kernel_rfl):R P ⟨kn,kD,none⟩ ops Q S k (f+1) l F w:=r_take _ i d v o ho hd hs hfree hr hik rfl hy h
theorem ro{kn:Nat}{kD:List Deferred}{S:Nat->World->World->Prop}{k f:Nat}{l:List Bool}{o:Oper}(i:Nat)(ho:ops[i]? =some o)(h:W P ⟨kn,kD,none⟩ ops (RK P ⟨kn,kD,none⟩ ops Q S k f (l.set i true) i w) [o] F w)
  (hr:Region.ready .any ops l.toArray=[i]:=by kernel_rfl) (hik:zak i k=true:=by kernel_rfl):R P ⟨kn,kD,none⟩ ops Q S k (f+1) l F w:=r_one1 _ i o ho hr hik rfl h
section
variable {α : Type} {c : Operand} {x y : Code} {p : Prop} {ip : Decidable p} {a b r : α} {t : Bool}
variable {d : Nat} {ty : TypeId} {pos : String} {after : Array Edge} {rest : List Oper} {o : Operand}
theorem wd(hr:(if p then a else b)=r)(ht:p->a=r->W P n ops Q rest (upd F d (.bool true)) w)(hf:¬p->b=r->W P n ops Q rest (upd F d (.bool false)) w)(hc:evn n F o=.bool (decide p):=by kernel_rfl):W P n ops Q (⟨some d,.move o,ty,pos,after,none⟩::rest) F w:=
 w_move_dec p hc (fun h=>ht h (ift h hr)) (fun h=>hf h (ifn h hr))
end
theorem Hp.kp{w0 w:World}{S:List Nat}{L L1:List Res}(h:Hp w0 S L w)(hL:L.take L1.length=L1:=by kernel_rfl):Hp w0 S L1 w:=h.sub (by rw [<-hL];exact List.take_sublist _ _)
theorem oi{α:Type}{a b:α}(h:some a=some b):a=b:=Option.some.inj h
section
variable {d : Nat} {ty : TypeId} {pos : String} {after : Array Edge} {rest : List Oper} {w0 : World} {S : List Nat} {L : List Res}
end
theorem bi{α β:Type}{o:Option α}{f:α->Option β}{r:β}{g:Prop}(h:o.bind f=some r)(k:∀y,o=some y->f y=some r->g):g:=let ⟨y,a,b⟩:=bind_inv h;k y a b
theorem gi{α:Type}{p:Prop}{ip:Decidable p}{o:Option α}{r:α}{g:Prop}(h:gd p o=some r)(k:p->o=some r->g):g:=let ⟨a,b⟩:=gd_inv h;k a b
theorem cs{x y:Code}(h:C P n (SeqQ P n y Q) x F w):C P n Q (.seq x y) F w:=c_seq h
end
open Bool renaming and_eq_true -> zar
open Nat renaming blt -> zak
def NoD(ops:Array Oper):Prop:=∀(j:Nat) (o:Oper) c,ops[j]? =some o->o.op≠.defer c
def NoPD(ops:Array Oper)(Q:Exit->Act->World->Prop):Prop:=NoP Q/\NoD ops
section
variable {P : Program} {ops : Array Oper} {Q : Exit -> Act -> World -> Prop} {md : Region.Mode} {S : Nat -> World -> World -> Prop} {x : Option Nat}
theorem abp{x:Option Nat}{o:Oper}{w:World}{ρ:Operand->Value}:∀f,o.about P w ρ=some f->(fen x).fn f:=fun _ _=>trivial
theorem _root_.Go.YieldsIf.wpOpI{Si:World->Prop}{i:Nat}{o:Oper}{v:Value}{a:Act}{w:World}(hi:ops[i]? =some o)(hd:∀c,o.op≠.defer c)(hS:Si w){K:Act->World->Prop}(hy:YieldsIf P ops Si o v a)(h:K (a.put o.dst v) w):wpOpIn (fen x) 0 P ops Q i K a w:=by
 unfold wpOpIn;simp only [hi];rcases hy with⟨hw,hv⟩|⟨hw,rfl⟩
 ·simp only [hw,if_true,Oper.wpIn,Oper.semAt_eq _ _ _ hd,hv w hS,Oper.uponIn];exact⟨abp,h⟩
 ·simp only [hw,Bool.false_eq_true,if_false];exact⟨abp,h⟩
theorem wpOpIn_putIf{Si:World->Prop}{j:Nat}{oi oj:Oper}{v:Value}(hj:ops[j]? =some oj)(hap:oi.apart ops oj=true)
  (hsi:∀cs b,oi.op≠.select cs b) (hsj:∀cs b,oj.op≠.select cs b) (hdj:∀c,oj.op≠.defer c)
  (hQ:∀c a w,Q (.panic c) (a.put oi.dst v) w->Q (.panic c) a w) {K:Act->World->Prop} {a:Act} {w:World}
  (hy:YieldsIf P ops Si oi v a) (h:wpOpIn (fen x) 0 P ops Q j K (a.put oi.dst v) w):
  wpOpIn (fen x) 0 P ops Q j (fun a' w'=>YieldsIf P ops Si oi v a'/\K (a'.put oi.dst v) w') a w:=by
 obtain⟨h1,h2,h3⟩:=Oper.apart_spec hap;have keep:∀(a:Act),YieldsIf P ops Si oi v a->∀u,YieldsIf P ops Si oi v (a.put oj.dst u):=fun a hy u=>
  hy.of_same (execOp_put oi hsi a oj.dst u h3) (wanted_put oi a oj.dst u h3)
 have keepD:∀d,YieldsIf P ops Si oi v {a with defers:=d::a.defers}:=fun d=>hy.of_same rfl rfl
 unfold wpOpIn at*;simp only [hj]at*;rw [wanted_put oj a oi.dst v h1]at h;split
 ·rename_i hw;simp only [hw,if_true]at h;unfold Oper.wpIn at*;refine⟨abp, ?_⟩
  have h:=h.2;rw [Oper.semAt_eq _ _ _ hdj,execOp_put oj hsj a oi.dst v h1]at h;rw [Oper.semAt_eq _ _ _ hdj]
  generalize(execOp a.eval oj).run P w=r at*
  cases r with
  |ok y w'=>
   cases y<;>simp only [Oper.uponIn]at h⊢
   case value u=>exact⟨keep a hy u,by rw [<-Act.put_comm a v u h2];exact h⟩
   case skip=>exact⟨keep a hy _,by rw [<-Act.put_comm a v undef h2];exact h⟩
   case defer d=>
    refine⟨keep _ (keepD d) _, ?_⟩
    rw [<-Act.put_comm _ v undef h2,<-Act.put_defers];exact h
   case enter f args=>
    refine⟨h.1,CallsIn.mono h.2 fun e w'' he=> ?_⟩
    cases e with
    |returned u=>exact⟨keep a hy u,by rw [<-Act.put_comm a v u h2];exact he⟩
    |panicked c=>exact hQ _ _ _ he
    |outgrown=>exact he
   case row row args=>exact⟨h.1,RowsIn.mono h.2 fun u w'' he=>⟨keep a hy u,by rw [<-Act.put_comm a v u h2];exact he⟩⟩
   case round l f tmps assign body=>
    refine⟨h.1,RoundIn.mono h.2 fun e w'' he=> ?_⟩
    cases e with
    |returned u=>exact⟨keep a hy u,by rw [<-Act.put_comm a v u h2];exact he⟩
    |panicked c=>exact hQ _ _ _ he
    |outgrown=>exact he
  |halt y w'=>
   cases y<;>simp only [Oper.uponIn]at h⊢
   case panic u=>exact hQ _ _ _ h
 ·rename_i hw;simp only [hw]at h;exact⟨abp,keep a hy _,by rw [<-Act.put_comm a v undef h2];exact h.2⟩
theorem wpAnyIn_of_seq{Q':Exit->Act->World->Prop}:∀(l:List Oper) (k:Nat) (listed:Array Bool) (a:Act) (w:World),(∀j,l[j]? =ops[k+j]?)->
  Region.seqB md ops l.length k listed=true->wpListIn (fen x) 0 P ops Q' l a w->wpAnyIn (fen x) 0 P md ops Q' l.length listed a w
 |[],_,_,_,_,_,hB,h=>⟨by simpa [Region.seqB] using hB,h⟩
 |o::l,k,listed,a,w,hl,hB,h=>by
  have h0:ops[k]? =some o:=by simpa using (hl 0).symm
  simp only [List.length_cons,Region.seqB,zar,decide_eq_true_eq]at hB;refine⟨fun h1=>(by rw [hB.1]at h1;cases h1),fun i hi=> ?_⟩
  rw [hB.1]at hi;have hik:i=k:=by simpa using hi
  subst hik;have hw:wpOpIn (fen x) 0 P ops Q' i (wpListIn (fen x) 0 P ops Q' l) a w:=by
   unfold wpOpIn;simp only [h0];unfold wpListIn at h;exact h
  exact wpOpIn_mono (fun a' w' h'=>wpAnyIn_of_seq l (i+1) _ a' w' (fun j=>by have:=hl (j+1);simpa [Nat.add_assoc,Nat.add_comm 1 j] using this) hB.2 h') hw
def wpPreI(x:Option Nat)(P:Program)(md:Region.Mode)(ops:Array Oper)(Q:Exit->Act->World->Prop)(S:Nat->World->World->Prop)(k:Nat)(Z:Act->World->Prop):Nat->Array Bool->Act->World->Prop
 |0,listed,a,w=>Region.seqB md ops (ops.size-k) k listed=true/\Z a w
 |f+1,listed,a,w=>Region.ready md ops listed≠[]/\∀i∈Region.ready md ops listed,i<k/\wpOpIn (fen x) 0 P ops Q i (fun a' w'=>S i w w'/\wpPreI x P md ops Q S k Z f (listed.setIfInBounds i true) a' w') a w
theorem preI_any{k:Nat}{Z:Act->World->Prop}(hk:k<=ops.size)(hZ:∀a w,Z a w->wpListIn (fen x) 0 P ops Q (ops.toList.drop k) a w):
  ∀(f:Nat) (listed:Array Bool) (a:Act) (w:World),wpPreI x P md ops Q S k Z f listed a w->wpAnyIn (fen x) 0 P md ops Q (f+(ops.size-k)) listed a w
 |0,listed,a,w,h=>by
  have hl:(ops.toList.drop k).length=ops.size-k:=by simp
  have:=wpAnyIn_of_seq (md:=md) (Q':=Q) (ops.toList.drop k) k listed a w (fun j=>by simp [List.getElem?_drop]) (by rw [hl];exact h.1) (hZ a w h.2)
  rw [hl]at this;rw [Nat.zero_add];exact this
 |f+1,listed,a,w,h=>by
  rw [show f+1+(ops.size-k)=(f+(ops.size-k))+1 by omega];exact⟨fun h0=>absurd h0 h.1,fun i hi=>wpOpIn_mono (fun a' w' h'=>preI_any hk hZ f _ a' w' h'.2) (h.2 i hi).2⟩
theorem preI_first{k i:Nat}{Z:Act->World->Prop}{oi:Oper}{v:Value}(Si:World->Prop)(D:List Nat)(hD:descB md ops i D=true)(hSi:∀j w w',S j w w'->Keep D Si j w w')(hi:ops[i]? =some oi)(hsel:∀(j:Nat) (o:Oper) cs b,ops[j]? =some o->o.op≠.select cs b)
  (hQ:∀c a w,Q (.panic c) (a.put oi.dst v) w->Q (.panic c) a w) (hnd:NoD ops) (hik:i<k)
  (hready:∀listed:Array Bool,HeadInv md ops k listed->listed.getD i true=false->∀t,k<=t->t∉Region.ready md ops listed):
  ∀(f:Nat) (listed:Array Bool) (a:Act) (w:World),HeadInv md ops k listed->
   (∀j oj,ops[j]? =some oj->j≠i->listed.getD j true=false->(∀e∈oj.after,Region.binds md e=true->e.on≠i)->oi.apart ops oj=true)->
   i∈Region.ready md ops listed->YieldsIf P ops Si oi v a->Si w->(∀j w,S j w w)->
   wpPreI x P md ops Q S k Z f (listed.setIfInBounds i true) (a.put oi.dst v) w->wpPreI x P md ops Q S k Z (f+1) listed a w:=by
 intro f;induction f with
 |zero=>
  intro listed a w inv hfree hr hy hS hii H;have hun:=(mem_ready.1 hr).1;refine⟨fun h0=>(by rw [h0]at hr;cases hr),fun j hj=> ?_⟩
  have hjk:j<k:=by
   rcases Nat.lt_or_ge j k with h|h
   ·exact h
   ·exact absurd hj (hready listed inv hun j h)
  by_cases hji:j=i
  ·subst hji;exact⟨hjk,hy.wpOpI hi (fun c=>hnd j oi c hi) hS ⟨hii _ _,H⟩⟩
  ·have h1:=seqB_ready H.1 j (ready_mono hj hji);omega
 |succ f ih=>
  intro listed a w inv hfree hr hy hS hii H;have hun:=(mem_ready.1 hr).1;refine⟨fun h0=>(by rw [h0]at hr;cases hr),fun j hj=> ?_⟩
  have hjk:j<k:=by
   rcases Nat.lt_or_ge j k with h|h
   ·exact h
   ·exact absurd hj (hready listed inv hun j h)
  by_cases hji:j=i
  ·subst hji;exact⟨hjk,hy.wpOpI hi (fun c=>hnd j oi c hi) hS ⟨hii _ _,H⟩⟩
  ·have h1:=(H.2 j (ready_mono hj hji)).2;have hjD:=desc_ready hD inv hun hj;obtain⟨hjun,oj,hoj,hall⟩:=mem_ready.1 hj;have hnot:∀e∈oj.after,Region.binds md e=true->e.on≠i:=fun e he hb heq=>by
    have h2:=hall e he hb;rw [heq,getD_both hun]at h2;cases h2
   have h2:=wpOpIn_putIf hoj (hfree j oj hoj hji hjun hnot) (fun cs b=>hsel i oi cs b hi) (fun cs b=>hsel j oj cs b hoj) (fun c=>hnd j oj c hoj) hQ hy h1;refine⟨hjk,wpOpIn_mono (fun a' w' h3=>⟨h3.2.1,ih (listed.setIfInBounds j true) a' w' (inv.set hj hjk) (fun m om hm hmi hum hno=>hfree m om hm hmi ?_ hno) (ready_mono hr (Ne.symm hji)) h3.1 (hSi j _ w' h3.2.1 (by simpa using hjD) hS) hii ?_⟩) h2⟩
   ·by_cases hjm:j=m
    ·subst hjm;exact hjun
    ·rw [getD_set_ne true hjm]at hum;exact hum
   ·rw [Array.setIfInBounds_comm _ _ hji];exact h3.2.2
end
section
variable {P : Program} {kn : Nat} {kD : List Deferred} {ops : Array Oper} {Q : Exit -> Act -> World -> Prop} {S : Nat -> World -> World -> Prop} {Si : World -> Prop} {F : Nat -> Value} {w : World} {x : Option Nat}
def RI(x:Option Nat)(P:Program)(n:Md)(ops:Array Oper)(Q:Exit->Act->World->Prop)(S:Nat->World->World->Prop)(k f:Nat)(listed:List Bool)(F:Nat->Value)(w:World):Prop:=
 HeadInv .any ops k listed.toArray->(∀j w,S j w w)->NoPD ops Q->wpPreI x P .any ops Q S k (fun a w=>wpListIn (fen x) 0 P ops Q (ops.toList.drop k) a w) f listed.toArray (fr n F) w
def RKI(x:Option Nat)(P:Program)(n:Md)(ops:Array Oper)(Q:Exit->Act->World->Prop)(S:Nat->World->World->Prop)(k f:Nat)(listed:List Bool)(i:Nat)(w:World):Exit->Act->World->Prop:=
 Exit.then (fun a' w'=>∃F',a'=fr n F'/\S i w w'/\RI x P n ops Q S k f listed F' w') Q
theorem c_drawnI{w0:World}{S0:List Nat}{L:List Res}{id:Nat}{l:List Oper}(k:Nat)(S:Nat->World->World->Prop)(listed:List Bool)(hrefl:∀j w,S j w w)(hm:P.follows .mixedOrders=true)(hs:aas l.toArray k=true)
  (hH:Hp w0 S0 L w) (hl:List.replicate l.length false=listed) (hQ:NoPD l.toArray Q) (h:∀w',Hp w0 S0 L w'->RI x P ⟨kn,kD,some x⟩ l.toArray Q S k k listed F w'):C P ⟨kn,kD,some x⟩ Q (.region id l.toArray true) F w:=by
 unfold C CC;have hk:k<=l.toArray.size:=by
  simp only [aas,zar,decide_eq_true_eq]at hs;exact hs.1.2
 have inv0:HeadInv .any l.toArray k (Array.replicate l.toArray.size false):=
  ⟨by simp,fun j oj _ hl=>(by rw [getD_replicate_false]at hl;cases hl),fun t _ ht=>getD_in (by simpa using ht) (getD_replicate_false _ _)⟩
 have e:listed.toArray=Array.replicate l.toArray.size false:=by
  subst hl;apply Array.toList_inj.1
  simp
 refine wpIn_region_any hm ?_;have h1:=h _ hH.drewn (by rw [e];exact inv0) hrefl hQ;have h2:=preI_any (S:=S) hk (fun a w h=>h) k _ _ _ h1;rw [e,show k+(l.toArray.size-k)=l.toArray.size by omega]at h2;exact h2
theorem rI_takeS{k f:Nat}{listed:List Bool}(listed':List Bool)(i d:Nat)(v:Value)(D:List Nat)(hSi:∀j w w',S j w w'->Keep D Si j w w')(o:Oper)(ho:ops[i]? =some o)(hd:o.dst=some d)(hs:aas ops k=true)(hD:descB .any ops i D=true)(hfree:Region.free .any ops listed.toArray i=true)
  (hr:(Region.ready .any ops listed.toArray).contains i=true) (hik:zak i k=true) (hl:listed.set i true=listed') (hy:YieldsIf P ops Si o v (fr ⟨kn,kD,some x⟩ F)) (hS:Si w)
  (h:RI x P ⟨kn,kD,some x⟩ ops Q S k f listed' (upd F d v) w):RI x P ⟨kn,kD,some x⟩ ops Q S k (f+1) listed F w:=by
 intro inv hrefl hQ;have hik':i<k:=by simpa [Nat.blt_eq] using hik
 have hr':i∈Region.ready .any ops listed.toArray:=by simpa using hr
 have hsel:Region.noSelect ops=true:=by
  simp only [aas,zar]at hs;exact hs.1.1
 refine preI_first Si D hD hSi ho (Region.noSelect_spec hsel) (fun c a w h=>absurd h (hQ.1 c _ w)) hQ.2 hik' (shape_ready hs hik') f _ _ _ inv (Region.free_spec ho hfree) hr' hy hS hrefl ?_;have inv':=inv.set hr' hik';rw [set_listed,hl]at inv'⊢
 have:=h inv' hrefl hQ
 rw [<-fr_put,<-hd]at this;exact this
theorem opI_of_list{i:Nat}{o:Oper}{K:Act->World->Prop}{a:Act}(ho:ops[i]? =some o)(h:wpListIn (fen x) 0 P ops (Exit.then K Q) [o] a w):wpOpIn (fen x) 0 P ops Q i K a w:=by
 unfold wpOpIn;simp only [ho];unfold wpListIn at h;split
 ·rename_i hw;rw [if_pos hw]at h;unfold Oper.wpIn at*;refine⟨h.1, ?_⟩
  have h:=h.2
  generalize(o.semAt (fen x).round a.eval).run P w=r at*
  cases r with
  |ok y w'=>cases y<;>exact h
  |halt y w'=>cases y<;>exact h
 ·rename_i hw;rw [if_neg hw]at h;exact h
theorem rI_step{k f:Nat}{listed:List Bool}(listed':List Bool)(i:Nat)(o:Oper)(ho:ops[i]? =some o)(hl:listed.set i true=listed')(inv:HeadInv .any ops k listed.toArray)(hrefl:∀j w,S j w w)(hQ:NoPD ops Q)
  (hr:i∈Region.ready .any ops listed.toArray) (hik:i<k) (h:W P ⟨kn,kD,some x⟩ ops (RKI x P ⟨kn,kD,some x⟩ ops Q S k f listed' i w) [o] F w):
  i<k/\wpOpIn (fen x) 0 P ops Q i (fun a' w'=>S i w w'/\wpPreI x P .any ops Q S k (fun a w=>wpListIn (fen x) 0 P ops Q (ops.toList.drop k) a w) f (listed.toArray.setIfInBounds i true) a' w') (fr ⟨kn,kD,some x⟩ F) w:=by
 refine⟨hik, ?_⟩
 have inv':=inv.set hr hik;rw [set_listed,hl]at inv'⊢;unfold W WR RKI at h;refine wpOpIn_mono ?_ (opI_of_list ho h);rintro a' w' ⟨F',rfl,hS,hR⟩
 exact⟨hS,hR inv' hrefl hQ⟩
theorem rI_one1{k f:Nat}{listed:List Bool}(listed':List Bool)(i:Nat)(o:Oper)(ho:ops[i]? =some o)(hr:Region.ready .any ops listed.toArray=[i])(hik:zak i k=true)(hl:listed.set i true=listed')
  (h:W P ⟨kn,kD,some x⟩ ops (RKI x P ⟨kn,kD,some x⟩ ops Q S k f listed' i w) [o] F w):RI x P ⟨kn,kD,some x⟩ ops Q S k (f+1) listed F w:=by
 intro inv hrefl hQ;refine⟨by rw [hr];simp,fun j hj=> ?_⟩
 rw [hr]at hj;obtain rfl:j=i:=by simpa using hj
 exact rI_step listed' j o ho hl inv hrefl hQ (by rw [hr];simp) (by simpa [Nat.blt_eq] using hik) h
theorem rI_one2{k f:Nat}{listed:List Bool}(l1 l2:List Bool)(i j:Nat)(o o':Oper)(ho:ops[i]? =some o)(ho':ops[j]? =some o')(hr:Region.ready .any ops listed.toArray=[i,j])(hik:zak i k=true)(hjk:zak j k=true)
  (hl:listed.set i true=l1) (hl':listed.set j true=l2)
  (h:W P ⟨kn,kD,some x⟩ ops (RKI x P ⟨kn,kD,some x⟩ ops Q S k f l1 i w) [o] F w) (h':W P ⟨kn,kD,some x⟩ ops (RKI x P ⟨kn,kD,some x⟩ ops Q S k f l2 j w) [o'] F w):RI x P ⟨kn,kD,some x⟩ ops Q S k (f+1) listed F w:=by
 intro inv hrefl hQ;refine⟨by rw [hr];simp,fun m hm=> ?_⟩
 have hm':=hm;rw [hr]at hm'
 have:m=i\/m=j:=by simpa using hm'
 rcases this with rfl|rfl
 ·exact rI_step l1 m o ho hl inv hrefl hQ hm (by simpa [Nat.blt_eq] using hik) h
 ·exact rI_step l2 m o' ho' hl' inv hrefl hQ hm (by simpa [Nat.blt_eq] using hjk) h'
theorem rI_next{k f i:Nat}{w0:World}{listed:List Bool}(hS:S i w0 w)(h:RI x P ⟨kn,kD,some x⟩ ops Q S k f listed F w):RKI x P ⟨kn,kD,some x⟩ ops Q S k f listed i w0 .normal (fr ⟨kn,kD,some x⟩ F) w:=⟨F,rfl,hS,h⟩
theorem rI_zero{k:Nat}{listed:List Bool}(hseq:Region.seqB .any ops (ops.size-k) k listed.toArray=true)(h:W P ⟨kn,kD,some x⟩ ops Q (ops.toList.drop k) F w):RI x P ⟨kn,kD,some x⟩ ops Q S k 0 listed F w:=by
 intro _ _ _;unfold W WR at h;exact⟨hseq,h⟩
end
section
variable {P : Program} {kn : Nat} {kD : List Deferred} {ro : Option (Option Nat)} {ops : Array Oper} {Q : Exit -> Act -> World -> Prop} {S : Nat -> World -> World -> Prop} {Si : World -> Prop} {F : Nat -> Value} {w : World}
def RO(P:Program)(n:Md)(ops:Array Oper)(Q:Exit->Act->World->Prop)(S:Nat->World->World->Prop)(k f:Nat)(listed:List Bool)(F:Nat->Value)(w:World):Prop:=
 match n.ro with
 |none=>R P n ops Q S k f listed F w
 |some x=>RI x P n ops Q S k f listed F w
def RKO(P:Program)(n:Md)(ops:Array Oper)(Q:Exit->Act->World->Prop)(S:Nat->World->World->Prop)(k f:Nat)(listed:List Bool)(i:Nat)(w:World):Exit->Act->World->Prop:=
 match n.ro with
 |none=>RK P n ops Q S k f listed i w
 |some x=>RKI x P n ops Q S k f listed i w
theorem c_drawnO{w0:World}{S0:List Nat}{L:List Res}{id:Nat}{l:List Oper}(k:Nat)(S:Nat->World->World->Prop)(listed:List Bool)(hrefl:∀j w,S j w w)(hm:P.follows .mixedOrders=true)(hs:aas l.toArray k=true)
  (hH:Hp w0 S0 L w) (hl:List.replicate l.length false=listed) (hQ:NoP Q) (hD:ro.isSome=true->NoD l.toArray) (h:∀w',Hp w0 S0 L w'->RO P ⟨kn,kD,ro⟩ l.toArray Q S k k listed F w'):C P ⟨kn,kD,ro⟩ Q (.region id l.toArray true) F w:=by
 cases ro with
 |none=>exact c_drawn k S listed hrefl hm hs hH hl hQ h
 |some x=>exact c_drawnI k S listed hrefl hm hs hH hl ⟨hQ,hD rfl⟩ h
theorem rO_takeS{k f:Nat}{listed:List Bool}(listed':List Bool)(i d:Nat)(v:Value)(D:List Nat)(hSi:∀j w w',S j w w'->Keep D Si j w w')(o:Oper)(ho:ops[i]? =some o)(hd:o.dst=some d)(hs:aas ops k=true)(hD:descB .any ops i D=true)(hfree:Region.free .any ops listed.toArray i=true)
  (hr:(Region.ready .any ops listed.toArray).contains i=true) (hik:zak i k=true) (hl:listed.set i true=listed') (hy:YieldsIf P ops Si o v (fr ⟨kn,kD,ro⟩ F)) (hS:Si w)
  (h:RO P ⟨kn,kD,ro⟩ ops Q S k f listed' (upd F d v) w):RO P ⟨kn,kD,ro⟩ ops Q S k (f+1) listed F w:=by
 cases ro with
 |none=>exact r_takeS listed' i d v D hSi o ho hd hs hD hfree hr hik hl hy hS h
 |some x=>exact rI_takeS listed' i d v D hSi o ho hd hs hD hfree hr hik hl hy hS h
theorem rO_take{k f:Nat}{listed:List Bool}(listed':List Bool)(i d:Nat)(v:Value)(o:Oper)(ho:ops[i]? =some o)(hd:o.dst=some d)(hs:aas ops k=true)(hfree:Region.free .any ops listed.toArray i=true)
  (hr:(Region.ready .any ops listed.toArray).contains i=true) (hik:zak i k=true) (hl:listed.set i true=listed') (hy:YieldsIf P ops (fun _=>True) o v (fr ⟨kn,kD,ro⟩ F))
  (h:RO P ⟨kn,kD,ro⟩ ops Q S k f listed' (upd F d v) w):RO P ⟨kn,kD,ro⟩ ops Q S k (f+1) listed F w:=
 rO_takeS (Si:=fun _=>True) listed' i d v [] (fun _ _ _ _ _ _=>trivial) o ho hd hs rfl hfree hr hik hl hy trivial h
theorem rO_one1{k f:Nat}{listed:List Bool}(listed':List Bool)(i:Nat)(o:Oper)(ho:ops[i]? =some o)(hr:Region.ready .any ops listed.toArray=[i])(hik:zak i k=true)(hl:listed.set i true=listed')
  (h:W P ⟨kn,kD,ro⟩ ops (RKO P ⟨kn,kD,ro⟩ ops Q S k f listed' i w) [o] F w):RO P ⟨kn,kD,ro⟩ ops Q S k (f+1) listed F w:=by
 cases ro with
 |none=>exact r_one1 listed' i o ho hr hik hl h
 |some x=>exact rI_one1 listed' i o ho hr hik hl h
theorem rO_one2{k f:Nat}{listed:List Bool}(l1 l2:List Bool)(i j:Nat)(o o':Oper)(ho:ops[i]? =some o)(ho':ops[j]? =some o')(hr:Region.ready .any ops listed.toArray=[i,j])(hik:zak i k=true)(hjk:zak j k=true)
  (hl:listed.set i true=l1) (hl':listed.set j true=l2)
  (h:W P ⟨kn,kD,ro⟩ ops (RKO P ⟨kn,kD,ro⟩ ops Q S k f l1 i w) [o] F w) (h':W P ⟨kn,kD,ro⟩ ops (RKO P ⟨kn,kD,ro⟩ ops Q S k f l2 j w) [o'] F w):RO P ⟨kn,kD,ro⟩ ops Q S k (f+1) listed F w:=by
 cases ro with
 |none=>exact r_one2 l1 l2 i j o o' ho ho' hr hik hjk hl hl' h h'
 |some x=>exact rI_one2 l1 l2 i j o o' ho ho' hr hik hjk hl hl' h h'
theorem rO_next{k f i:Nat}{w0:World}{listed:List Bool}(hS:S i w0 w)(h:RO P ⟨kn,kD,ro⟩ ops Q S k f listed F w):RKO P ⟨kn,kD,ro⟩ ops Q S k f listed i w0 .normal (fr ⟨kn,kD,ro⟩ F) w:=by
 cases ro with
 |none=>exact r_next hS h
 |some x=>exact rI_next hS h
theorem rO_zero{k:Nat}{listed:List Bool}(hseq:Region.seqB .any ops (ops.size-k) k listed.toArray=true)(h:W P ⟨kn,kD,ro⟩ ops Q (ops.toList.drop k) F w):RO P ⟨kn,kD,ro⟩ ops Q S k 0 listed F w:=by
 cases ro with
 |none=>exact r_zero hseq h
 |some x=>exact rI_zero hseq h
end
attribute [irreducible] RI RKI RO RKO
end Go.Wk
namespace Go.Ce
open Go.Wk
open List renaming rec -> zai
open Nat renaming add -> zaj, beq -> zac, ble -> zad, blt -> zak, mod -> zaq, mul -> zat, succ -> zam
open Option renaming rec -> zaa
open UInt8 renaming ofNat -> zan
noncomputable def bi{α:Type}(c:Bool)(x y:α):α:=Bool.rec y x c
noncomputable def ob{α β:Type}(x:Option α)(f:α->Option β):Option β:=zaa none f x
inductive Pk where
 |h
 |o (p:Pk)
 |i (p:Pk)
noncomputable def pkF(f:Nat):Nat->Pk:=
 Nat.rec (fun _=>.h) (fun _ r k=>bi (zac k (nat_lit 0)) .h (bi (zac (zaq k (nat_lit 2)) (nat_lit 1)) (.i (r (Nat.div k (nat_lit 2)))) (.o (r (Nat.sub (Nat.div k (nat_lit 2)) (nat_lit 1)))))) f
noncomputable def pk(k:Nat):Pk:=pkF (zam k) k
inductive Tr (α:Type) where
 |e
 |n (l:Tr α) (v:Option α) (r:Tr α)
noncomputable def Tr.L{α:Type}(t:Tr α):Tr α:=Tr.rec .e (fun l _ _ _ _=>l) t
noncomputable def Tr.V{α:Type}(t:Tr α):Option α:=Tr.rec none (fun _ v _ _ _=>v) t
noncomputable def Tr.R{α:Type}(t:Tr α):Tr α:=Tr.rec .e (fun _ _ r _ _=>r) t
noncomputable def Tr.getP{α:Type}(p:Pk):Tr α->Option α:=Pk.rec Tr.V (fun _ g t=>g t.R) (fun _ g t=>g t.L) p
noncomputable def Tr.setP{α:Type}(x:α)(p:Pk):Tr α->Tr α:=Pk.rec (fun t=>.n t.L (some x) t.R) (fun _ s t=>.n t.L t.V (s t.R)) (fun _ s t=>.n (s t.L) t.V t.R) p
noncomputable def Tr.get{α:Type}(t:Tr α)(k:Nat):Option α:=Tr.getP (pk k) t
noncomputable def Tr.set{α:Type}(t:Tr α)(k:Nat)(x:α):Tr α:=Tr.setP x (pk k) t
def dec:Nat->Nat->List UInt8
 |0,_=>[]
 |l+1,x=>zan (x%256)::dec l (x/256)
def enc:List UInt8->Nat
 |[]=>0
 |c::l=>c.toNat+256*enc l
inductive Cp where
 |k (c:Nat)
 |r (off:Nat)
inductive SC where
 |b (x:Bool)
 |i (k:IntKind) (n:Nat)
 |s (l x:Nat)
 |np
 |ns
 |nf
 |ni
 |nm
 |p (i off:Nat)
 |g (i off:Nat)
 |sl (i base n:Nat) (c:Cp)
 |fn (f:Nat) (cs:List Nat)
 |y (i:Nat)
 |m (i:Nat)
 |z (i base d off:Nat)
inductive SA where
 |c (x:SC)
 |a (l:List SC)
inductive SV where
 |c (x:SC)
 |a (l:List SC)
 |t (l:List SA)
 |u
inductive Mo where
 |ex
 |rw (sz m:Nat)
 |bw
 |fb
inductive HB where
 |cl (t:Nat) (md:Mo) (xs:List SC)
 |it (l x pos:Nat)
 |lp (busy:Bool) (j k:Nat) (ps:List Nat) (asg body:Code) (F:Tr SV)
 |df
 |gn
 |mp (es:List (SC×SC))
structure Hs where
 nx:Nat
 t:Tr HB
structure T where
 F:Tr SV
 H:Hs
 D:Option Nat
structure M where
 n:Nat
 m:Option (Option Nat)
inductive Ex where
 |nm
 |rt
 |xt (id:Nat)
structure Cx where
 P:Program
 G:Nat->Option (List SC)
 X:Nat->Option (List SV->Hs->Option (SV×Hs))
 pure:Nat->Bool
 V:Nat->Bool
structure Ks where
 call:Nat->List SV->Hs->Option (SV×Hs)
 run:M->Code->T->Option (Ex×T)
noncomputable def SV.asC:SV->Option SC:=SV.rec some (fun _=>none) (fun _=>none) none
noncomputable def SV.asA:SV->Option (List SC):=SV.rec (fun _=>none) some (fun _=>none) none
noncomputable def SV.asT:SV->Option (List SA):=SV.rec (fun _=>none) (fun _=>none) some none
noncomputable def SV.cells:SV->Option (List SC):=SV.rec (fun x=>some [x]) some (fun _=>none) none
noncomputable def SV.sa:SV->Option SA:=SV.rec (fun x=>some (.c x)) (fun l=>some (.a l)) (fun _=>none) none
noncomputable def SA.sv:SA->SV:=SA.rec .c .a
noncomputable def SC.asB:SC->Option Bool:=SC.rec some (fun _ _=>none) (fun _ _=>none) none none none none none (fun _ _=>none) (fun _ _=>none) (fun _ _ _ _=>none) (fun _ _=>none) (fun _=>none) (fun _=>none) (fun _ _ _ _=>none)
noncomputable def SC.asI:SC->Option (IntKind×Nat):=SC.rec (fun _=>none) (fun k n=>some (k,n)) (fun _ _=>none) none none none none none (fun _ _=>none) (fun _ _=>none) (fun _ _ _ _=>none) (fun _ _=>none) (fun _=>none) (fun _=>none) (fun _ _ _ _=>none)
noncomputable def SC.asS:SC->Option (Nat×Nat):=SC.rec (fun _=>none) (fun _ _=>none) (fun l x=>some (l,x)) none none none none none (fun _ _=>none) (fun _ _=>none) (fun _ _ _ _=>none) (fun _ _=>none) (fun _=>none) (fun _=>none) (fun _ _ _ _=>none)
noncomputable def SC.asP:SC->Option (Nat×Nat):=SC.rec (fun _=>none) (fun _ _=>none) (fun _ _=>none) none none none none none (fun i o=>some (i,o)) (fun _ _=>none) (fun _ _ _ _=>none) (fun _ _=>none) (fun _=>none) (fun _=>none) (fun _ _ _ _=>none)
noncomputable def HB.asC:HB->Option (Nat×Mo×List SC):=HB.rec (fun t md xs=>some (t,md,xs)) (fun _ _ _=>none) (fun _ _ _ _ _ _ _=>none) none none (fun _=>none)
noncomputable def kn:IntKind->Nat:=IntKind.rec (nat_lit 0) (nat_lit 1) (nat_lit 2) (nat_lit 3) (nat_lit 4) (nat_lit 5) (nat_lit 6) (nat_lit 7)
noncomputable def km:IntKind->Nat:=IntKind.rec (nat_lit 256) (nat_lit 65536) (nat_lit 4294967296) (nat_lit 18446744073709551616) (nat_lit 256) (nat_lit 65536) (nat_lit 4294967296) (nat_lit 18446744073709551616)
noncomputable def kh:IntKind->Nat:=IntKind.rec (nat_lit 128) (nat_lit 32768) (nat_lit 2147483648) (nat_lit 9223372036854775808) (nat_lit 256) (nat_lit 65536) (nat_lit 4294967296) (nat_lit 18446744073709551616)
noncomputable def ko:IntKind->Nat:=IntKind.rec (nat_lit 128) (nat_lit 32768) (nat_lit 2147483648) (nat_lit 9223372036854775808) (nat_lit 0) (nat_lit 0) (nat_lit 0) (nat_lit 0)
noncomputable def ures(k:IntKind)(m:Nat):Int:=bi (zad (kh k) m) (.negSucc (Nat.sub (Nat.sub (km k) (nat_lit 1)) m)) (.ofNat m)
noncomputable def ieq:Int->Int->Bool:=Int.rec (fun a=>Int.rec (fun b=>zac a b) (fun _=>false)) (fun a=>Int.rec (fun _=>false) (fun b=>zac a b))
noncomputable def inot(b:Bool):Bool:=Bool.rec true false b
noncomputable def resI(k:IntKind):Int->Nat:=Int.rec (fun a=>zaq a (km k)) (fun a=>Nat.sub (Nat.sub (km k) (nat_lit 1)) (zaq a (km k)))
noncomputable def SC.asN(x:SC):Option Nat:=ob x.asI fun q=>(fun r=>bi (zad (zam r) (kh q.1)) (some r) none) (zaq q.2 (km q.1))
noncomputable def ilt(k:IntKind)(a c:Nat):Bool:=zad (zam (zaq (zaj a (ko k)) (km k))) (zaq (zaj c (ko k)) (km k))
noncomputable def ieqN(k:IntKind)(a c:Nat):Bool:=zac (zaq a (km k)) (zaq c (km k))
noncomputable def noI(k:IntKind)(a c:Nat):Option SC:=none
noncomputable def binI(b:BinOp):IntKind->Nat->Nat->Option SC:=
 match b with
 |.add=>fun k a c=>some (.i k (zaq (zaj a c) (km k)))
 |.sub=>fun k a c=>some (.i k (zaq (zaj a (Nat.sub (km k) (zaq c (km k)))) (km k)))
 |.mul=>fun k a c=>some (.i k (zaq (zat a c) (km k)))
 |.lss=>fun k a c=>some (.b (ilt k a c))
 |.leq=>fun k a c=>some (.b (inot (ilt k c a)))
 |.gtr=>fun k a c=>some (.b (ilt k c a))
 |.geq=>fun k a c=>some (.b (inot (ilt k a c)))
 |.eql=>fun k a c=>some (.b (ieqN k a c))
 |.neq=>fun k a c=>some (.b (inot (ieqN k a c)))
 |.and=>fun k a c=>some (.i k (Nat.land (zaq a (km k)) (zaq c (km k))))
 |.or=>fun k a c=>some (.i k (Nat.lor (zaq a (km k)) (zaq c (km k))))
 |.xor=>fun k a c=>some (.i k (Nat.xor (zaq a (km k)) (zaq c (km k))))
 |_=>noI
noncomputable def kb:IntKind->Nat:=IntKind.rec (nat_lit 8) (nat_lit 16) (nat_lit 32) (nat_lit 64) (nat_lit 8) (nat_lit 16) (nat_lit 32) (nat_lit 64)
noncomputable def binSh(b:BinOp)(k:IntKind)(a:Nat)(k':IntKind)(c:Nat):Option SC:=
 match b with
 |.shl=>(fun q=>bi (zad q (kb k)) (some (.i k (zaq (zat a (Nat.pow (nat_lit 2) q)) (km k)))) none) (zaq c (km k'))
 |.shr=>(fun q=>(fun r=>bi (zad q (kb k)) (bi (zad (zam r) (kh k)) (some (.i k (Nat.div r (Nat.pow (nat_lit 2) q)))) none) none) (zaq a (km k))) (zaq c (km k'))
 |_=>none
noncomputable def conI(k k':IntKind)(a:Nat):Nat:=(fun r=>bi (zad (kh k) r) (zaq (zaj r (Nat.sub (zat (km k') (km k)) (km k))) (km k')) (zaq r (km k'))) (zaq a (km k))
noncomputable def cvc:Value->Option SC
 |.bool b=>some (.b b)
 |.int k n=>bi (ieq (ures k (resI k n)) n) (some (.i k (resI k n))) none
 |.string s=>some (.s s.data.toList.length (enc s.data.toList))
 |.pointer none=>some .np
 |.slice none 0 0=>some .ns
 |.nilFunc=>some .nf
 |.nilIface=>some .ni
 |.map none=>some .nm
 |_=>none
noncomputable def cvs:List Value->Option (List SC)
 |[]=>some []
 |v::l=>ob (cvc v) fun x=>ob (cvs l) fun xs=>some (x::xs)
noncomputable def cv:Value->Option SV
 |.agg cs=>ob (cvs cs.toList) fun xs=>some (.a xs)
 |v=>ob (cvc v) fun x=>some (.c x)
noncomputable def SC.v:SC->Option Value
 |.b x=>some (.bool x)
 |.i k n=>some (.int k (ures k (zaq n (km k))))
 |.s l x=>some (str (dec l x))
 |.np=>some (.pointer none)
 |.ns=>some (.slice none 0 0)
 |.nf=>some .nilFunc
 |.ni=>some .nilIface
 |_=>none
noncomputable def vcs:List SC->Option (List Value)
 |[]=>some []
 |x::l=>ob x.v fun v=>ob (vcs l) fun vs=>some (v::vs)
noncomputable def SV.v:SV->Option Value
 |.c x=>x.v
 |.a l=>ob (vcs l) fun vs=>some (.agg vs.toArray)
 |_=>none
noncomputable def seq(l x m y:Nat):Bool:=bi (zac l m) (zac (zaq x (Nat.pow (nat_lit 256) l)) (zaq y (Nat.pow (nat_lit 256) l))) false
noncomputable def sbyte(x i:Nat):Nat:=zaq (Nat.div x (Nat.pow (nat_lit 256) i)) (nat_lit 256)
noncomputable def scut(x i j:Nat):SC:=.s (Nat.sub j i) (zaq (Nat.div x (Nat.pow (nat_lit 256) i)) (Nat.pow (nat_lit 256) (Nat.sub j i)))
noncomputable def scat(l x m y:Nat):SC:=.s (zaj l m) (zaj (zaq x (Nat.pow (nat_lit 256) l)) (zat (Nat.pow (nat_lit 256) l) y))
noncomputable def binS(b:BinOp)(l x m y:Nat):Option SC:=
 match b with
 |.eql=>some (.b (seq l x m y))
 |.neq=>some (.b (inot (seq l x m y)))
 |.add=>bi (zad (zaj l m) (nat_lit 1000000000000)) (some (scat l x m y)) none
 |.lss=>some (.b (Op.bytesLess (dec l x) (dec m y)))
 |.gtr=>some (.b (inot (or (Op.bytesLess (dec l x) (dec m y)) (seq l x m y))))
 |_=>none
noncomputable def bin(b:BinOp)(x y:SC):Option SC:=
 zaa
  (ob x.asS fun p=>ob y.asS fun q=>binS b p.1 p.2 q.1 q.2)
  (fun p=>ob y.asI fun q=>zaa (bi (zac (kn p.1) (kn q.1)) (binI b p.1 p.2 q.2) none) some (binSh b p.1 p.2 q.1 q.2)) x.asI
noncomputable def lget{α:Type}(l:List α):Nat->Option α:=zai (fun _=>none) (fun x _ r k=>bi (zac k (nat_lit 0)) (some x) (r (Nat.sub k (nat_lit 1)))) l
noncomputable def ldrop{α:Type}(l:List α):Nat->List α:=zai (fun _=>[]) (fun x xs r k=>bi (zac k (nat_lit 0)) (x::xs) (r (Nat.sub k (nat_lit 1)))) l
noncomputable def ltake{α:Type}(l:List α):Nat->List α:=zai (fun _=>[]) (fun x _ r k=>bi (zac k (nat_lit 0)) [] (x::r (Nat.sub k (nat_lit 1)))) l
noncomputable def abd{α:Type}(l:List α):Nat:=zai (nat_lit 0) (fun _ _ r=>zam r) l
noncomputable def lapp{α:Type}(l r:List α):List α:=zai r (fun x _ q=>x::q) l
noncomputable def lput{α:Type}(xs:List α):Nat->List α->List α:=zai (fun _ _=>[])
 (fun x _ r k vs=>bi (zac k (nat_lit 0)) (zai (x::r (nat_lit 0) []) (fun v vt _=>v::r (nat_lit 0) vt) vs) (x::r (Nat.sub k (nat_lit 1)) vs)) xs
noncomputable def lrep(z:List SC)(n:Nat):List SC:=Nat.rec [] (fun _ r=>lapp z r) n
noncomputable def oget(x:Option SV):SV:=zaa .u (fun v=>v) x
noncomputable def evO(m:M)(S:T)(x:Operand):Option SV:=Operand.rec (motive:=fun _=>M->T->Option SV)
 (fun t m S=>bi (zad (zam t) m.n) (some (oget (S.F.get t))) (some .u)) (fun v _ _=>cv v) (fun g _ _=>some (.c (.g g (nat_lit 0)))) (fun f _ _=>some (.c (.fn f []))) x m S
noncomputable def evC(m:M)(S:T)(x:Operand):Option SC:=ob (evO m S x) SV.asC
noncomputable def evN(m:M)(S:T)(x:Operand):Option Nat:=ob (evC m S x) SC.asN
noncomputable def evND(m:M)(S:T)(x:Option Operand)(d:Nat):Option Nat:=zaa (some d) (fun x=>evN m S x) x
noncomputable def evV(m:M)(S:T)(x:Operand):Option Value:=ob (evO m S x) SV.v
def isSel:Op->Bool
 |.select _ _=>true
 |_=>false
def nextV:Next->Option Value
 |.value v=>some v
 |_=>none
noncomputable def gen(C:Cx)(m:M)(S:T)(o:Oper):Option SV:=
 bi (isSel o.op) none (bi (o.op.operands.toList.all fun x=>(evV m S x).isSome)
  (ob (sval C.P (execOp (fun x=>(evV m S x).getD undef) o)) fun n=>ob (nextV n) cv) none)
def uSl(d:TypeDesc):Option Nat:=match d with|.slice e=>some e|_=>none
def uAr(d:TypeDesc):Option (Nat×Nat):=match d with|.array n e=>some (n,e)|_=>none
def uSt(d:TypeDesc):Option (List Field):=match d with|.struct fs=>some fs.toList|_=>none
def uIn(d:TypeDesc):Option IntKind:=match d with|.int k=>some k|_=>none
def uStr(d:TypeDesc):Option Unit:=match d with|.string=>some ()|_=>none
section
variable (C : Cx)
noncomputable def tSl(t:Nat):Option Nat:=ob (C.P.underlying t) uSl
noncomputable def tAr(t:Nat):Option (Nat×Nat):=ob (C.P.underlying t) uAr
noncomputable def tSt(t:Nat):Option (List Field):=ob (C.P.underlying t) uSt
noncomputable def tIn(t:Nat):Option IntKind:=ob (C.P.underlying t) uIn
noncomputable def tStr(t:Nat):Option Unit:=ob (C.P.underlying t) uStr
noncomputable def tSz(t:Nat):Option Nat:=sval C.P (sizeOf t)
noncomputable def tAg(t:Nat):Option Bool:=sval C.P (isAgg t)
noncomputable def isU8(e:Nat):Option Unit:=ob (tIn C e) fun k=>bi (zac (kn k) (kn .u8)) (some ()) none
noncomputable def zeroC(t:Nat):Option (List SC):=ob (sval C.P (zeroValue t)) fun v=>cvs v.cells.toList
noncomputable def fieldOf(t f:Nat):Option Field:=ob (tSt C t) fun fs=>lget fs f
noncomputable def fieldAt(t f:Nat):Option Nat:=ob (fieldOf C t f) fun fd=>ob (tSz C fd.type) fun z=>bi (zac z (nat_lit 0)) none (some fd.offset)
end
section
variable (C : Cx) (m : M) (S : T)
noncomputable def cellsOf(i:Nat):Option (List SC):=ob (S.H.t.get i) fun b=>ob b.asC fun q=>some q.2.2
noncomputable def partOf(t:Nat)(xs:List SC)(off:Nat):Option SV:=
 ob (tAg C t) fun a=>bi a (ob (tSz C t) fun n=>bi (zad (zaj off n) (abd xs)) (some (.a (ltake (ldrop xs off) n))) none) (ob (lget xs off) fun x=>some (.c x))
noncomputable def loadC(t:Nat)(x:SC):Option SV:=SC.rec (motive:=fun _=>Option SV) (fun _=>none) (fun _ _=>none) (fun _ _=>none) none none none none none
 (fun i off=>ob (cellsOf S i) fun xs=>partOf C t xs off) (fun g off=>ob (C.G g) fun xs=>partOf C t xs off) (fun _ _ _ _=>none) (fun _ _=>none) (fun _=>none) (fun _=>none) (fun _ _ _ _=>none) x
noncomputable def opLoad(t:Nat)(x:Operand):Option SV:=ob (evC m S x) (loadC C S t)
noncomputable def opField(t:Nat)(x:Operand)(f:Nat):Option SV:=ob (fieldOf C t f) fun fd=>ob (evO m S x) fun v=>ob v.asA fun xs=>partOf C fd.type xs fd.offset
noncomputable def padd(d:Nat)(x:SC):Option SV:=SC.rec (motive:=fun _=>Option SV) (fun _=>none) (fun _ _=>none) (fun _ _=>none) none none none none none
 (fun i off=>some (.c (.p i (zaj off d)))) (fun g off=>some (.c (.g g (zaj off d)))) (fun _ _ _ _=>none) (fun _ _=>none) (fun _=>none) (fun _=>none) (fun _ _ _ _=>none) x
noncomputable def opFieldAddr(t:Nat)(x:Operand)(f:Nat):Option SV:=ob (fieldAt C t f) fun d=>ob (evC m S x) (padd d)
noncomputable def slAdd(j sz:Nat)(x:SC):Option SV:=SC.rec (motive:=fun _=>Option SV) (fun _=>none) (fun _ _=>none) (fun _ _=>none) none none none none none
 (fun _ _=>none) (fun _ _=>none) (fun i base n _=>bi (zad (zam j) n) (some (.c (.p i (zaj base (zat j sz))))) none) (fun _ _=>none) (fun _=>none) (fun _=>none) (fun _ _ _ _=>none) x
noncomputable def opIndexAddr(t:Nat)(x ix:Operand):Option SV:=
 ob (evN m S ix) fun j=>ob (evC m S x) fun v=>zaa
  (ob (tAr C t) fun q=>ob (tSz C q.2) fun sz=>bi (zad (zam j) q.1) (padd (zat j sz) v) none)
  (fun e=>ob (tSz C e) fun sz=>slAdd j sz v) (tSl C t)
noncomputable def opIndex(t:Nat)(x ix:Operand):Option SV:=
 ob (evN m S ix) fun j=>ob (evO m S x) fun v=>zaa
  (ob v.asA fun xs=>ob (tAr C t) fun q=>ob (tSz C q.2) fun sz=>bi (zad (zam j) q.1) (partOf C q.2 xs (zat j sz)) none)
  (fun x=>ob x.asS fun q=>ob (tStr C t) fun _=>bi (zad (zam j) q.1) (some (.c (.i .u8 (sbyte q.2 j)))) none) v.asC
noncomputable def cutS(t:Nat)(lo hi mx:Option Operand)(l x:Nat):Option SV:=
 ob (tStr C t) fun _=>bi mx.isNone (ob (evND m S lo (nat_lit 0)) fun i=>ob (evND m S hi l) fun j=>bi (zad i j) (bi (zad j l) (some (.c (scut x i j))) none) none) none
noncomputable def cutK(i base cc sz a b mm:Nat):Option SV:=
 bi (zad a b) (bi (zad b mm) (bi (zad mm cc) (some (.c (.sl i (bi (zac mm a) base (zaj base (zat a sz))) (Nat.sub b a) (.k (Nat.sub mm a))))) none) none) none
noncomputable def room(i k:Nat):Bool:=zaa false (fun b=>zaa false (fun q=>Mo.rec (motive:=fun _=>Bool) false (fun _ mm=>zad k mm) (zad k (abd q.2.2)) false q.2.1) b.asC) (S.H.t.get i)
noncomputable def cutR(rm:Nat->Nat->Bool)(i base n sz off a b:Nat):Option SV:=
 bi (rm i (zaj off n)) (bi (zad a b) (bi (zad b n) (bi (zac a (nat_lit 0)) (some (.c (.sl i base b (.r off)))) (bi (zad (zam a) n) (some (.c (.sl i (zaj base (zat a sz)) (Nat.sub b a) (.r (zaj off a))))) (some (.c (.z i base (zat a sz) (zaj off a)))))) none) none) none
noncomputable def cutL(rm:Nat->Nat->Bool)(t:Nat)(lo hi mx:Option Operand)(i base n:Nat)(c:Cp):Option SV:=
 ob (tSl C t) fun e=>ob (tSz C e) fun sz=>ob (evND m S lo (nat_lit 0)) fun a=>ob (evND m S hi n) fun b=>zaa
  (Cp.rec (motive:=fun _=>Option SV) (fun cc=>cutK i base cc sz a b cc) (fun off=>cutR rm i base n sz off a b) c)
  (fun mo=>bi hi.isSome (ob (evN m S mo) fun mm=>ob (Cp.rec some (fun off=>bi (rm i (zaj off n)) (some n) none) c) fun cc=>cutK i base cc sz a b mm) none) mx
noncomputable def cutA(t:Nat)(lo hi mx:Option Operand)(i off:Nat):Option SV:=
 ob (tAr C t) fun q=>ob (tSz C q.2) fun sz=>bi mx.isNone (ob (evND m S lo (nat_lit 0)) fun a=>ob (evND m S hi q.1) fun b=>cutK i off q.1 sz a b q.1) none
noncomputable def cutN(t:Nat)(lo hi mx:Option Operand):Option SV:=
 ob (tSl C t) fun e=>ob (tSz C e) fun _=>bi mx.isNone (ob (evND m S lo (nat_lit 0)) fun a=>ob (evND m S hi (nat_lit 0)) fun b=>bi (zac (zaj a b) (nat_lit 0)) (some (.c .ns)) none) none
noncomputable def cutZ(t:Nat)(lo hi mx:Option Operand)(i base dd off:Nat):Option SV:=
 ob (tSl C t) fun e=>ob (tSz C e) fun _=>bi mx.isNone (ob (evND m S lo (nat_lit 0)) fun a=>ob (evND m S hi (nat_lit 0)) fun b=>bi (zac (zaj a b) (nat_lit 0)) (some (.c (.z i base dd off))) none) none
noncomputable def opSliceR(rm:Nat->Nat->Bool)(t:Nat)(x:Operand)(lo hi mx:Option Operand):Option SV:=
 ob (evC m S x) fun v=>SC.rec (motive:=fun _=>Option SV) (fun _=>none) (fun _ _=>none) (cutS C m S t lo hi mx) none (cutN C m S t lo hi mx) none none none
  (cutA C m S t lo hi mx) (fun _ _=>none) (cutL C m S rm t lo hi mx) (fun _ _=>none) (fun _=>none) (fun _=>none) (cutZ C m S t lo hi mx) v
noncomputable def opSlice(t:Nat)(x:Operand)(lo hi mx:Option Operand):Option SV:=opSliceR C m S (room S) t x lo hi mx
noncomputable def opExtract(x:Operand)(i:Nat):Option SV:=ob (evO m S x) fun v=>ob v.asT fun l=>ob (lget l i) fun y=>some y.sv
noncomputable def opPick(c a b:Operand):Option SV:=ob (evC m S c) fun v=>ob v.asB fun t=>bi t (evO m S a) (evO m S b)
noncomputable def opNil(x:Operand):Option SV:=ob (evC m S x) fun v=>SC.rec (motive:=fun _=>Option SV) (fun _=>none) (fun _ _=>none) (fun _ _=>none) none none none none none
 (fun i off=>some (.c (.p i off))) (fun g off=>some (.c (.g g off))) (fun _ _ _ _=>none) (fun f l=>some (.c (.fn f l))) (fun _=>none) (fun _=>none) (fun _ _ _ _=>none) v
def isEq:BinOp->Option Bool
 |.eql=>some false
 |.neq=>some true
 |_=>none
noncomputable def SC.isSl:SC->Bool:=SC.rec (fun _=>false) (fun _ _=>false) (fun _ _=>false) false false false false false (fun _ _=>false) (fun _ _=>false) (fun _ _ _ _=>true) (fun _ _=>false) (fun _=>false) (fun _=>false) (fun _ _ _ _=>true)
noncomputable def SC.isNs:SC->Bool:=SC.rec (fun _=>false) (fun _ _=>false) (fun _ _=>false) false true false false false (fun _ _=>false) (fun _ _=>false) (fun _ _ _ _=>false) (fun _ _=>false) (fun _=>false) (fun _=>false) (fun _ _ _ _=>false)
noncomputable def binX(b:BinOp)(t:Nat)(x y:SC):Option SV:=
 bi x.isSl (bi y.isNs (ob (tSl C t) fun _=>ob (isEq b) fun r=>some (.c (.b r))) none) (ob (bin b x y) fun r=>some (.c r))
noncomputable def opBin(o:Oper)(b:BinOp)(t:Nat)(x y:Operand):Option SV:=
 zaa (gen C m S o) some (ob (evC m S x) fun vx=>ob (evC m S y) fun vy=>binX C b t vx vy)
noncomputable def opNot(o:Oper)(u:UnOp)(x:Operand):Option SV:=
 match u with
 |.not=>ob (evC m S x) fun v=>ob v.asB fun b=>some (.c (.b (inot b)))
 |_=>gen C m S o
noncomputable def fillC(sz:Nat->Option (Nat×Nat))(parts:List (Nat×SV)):List SC->Option (List SC):=
 zai (fun cs=>some cs) (fun p _ r cs=>ob (sz p.1) fun q=>ob p.2.cells fun vs=>bi (zac (abd vs) q.2) (bi (zad (zaj q.1 (abd vs)) (abd cs)) (r (lput cs q.1 vs)) none) none) parts
noncomputable def evParts(ps:List (Nat×Operand)):Option (List (Nat×SV)):=
 zai (some []) (fun p _ r=>ob (evO m S p.2) fun v=>ob r fun l=>some ((p.1,v)::l)) ps
noncomputable def placesL(fs:List Field):Option (List (Nat×Nat)):=zai (some []) (fun f _ r=>ob (tSz C f.type) fun n=>ob r fun l=>some ((f.offset,n)::l)) fs
noncomputable def places(t:Nat):Option (Nat->Option (Nat×Nat)):=
 zaa (ob (tAr C t) fun q=>ob (tSz C q.2) fun n=>some fun i=>some (zat i n,n))
  (fun fs=>ob (placesL C fs) fun l=>some fun i=>lget l i) (tSt C t)
noncomputable def opBuild(t:Nat)(ps:Array (Nat×Operand)):Option SV:=
 ob (evParts m S ps.toList) fun l=>ob (zeroC C t) fun z=>ob (places C t) fun pl=>ob (fillC pl l z) fun cs=>some (.a cs)
noncomputable def capIds(l:List Operand):Option (List Nat):=
 zai (some []) (fun x _ r=>ob (evC m S x) fun v=>ob v.asP fun p=>bi (zac p.2 (nat_lit 0)) (ob r fun q=>some (p.1::q)) none) l
noncomputable def fnOf(f:Fn):Option Nat:=Fn.rec some (fun _=>none) (fun _ _=>none) (fun _ _ _ _=>none) (fun _=>none) f
noncomputable def opFunc(f:Fn)(first cap:Array Operand):Option SV:=
 ob (fnOf f) fun k=>bi first.toList.isEmpty (ob (capIds m S cap.toList) fun l=>some (.c (.fn k l))) none
noncomputable def slLen:SC->Option Nat:=SC.rec (fun _=>none) (fun _ _=>none) (fun _ _=>none) none none none none none (fun _ _=>none) (fun _ _=>none) (fun _ _ n _=>some n) (fun _ _=>none) (fun _=>none) (fun _=>none) (fun _ _ _ _=>some (nat_lit 0))
noncomputable def slCap:SC->Option Nat:=SC.rec (fun _=>none) (fun _ _=>none) (fun _ _=>none) none none none none none (fun _ _=>none) (fun _ _=>none) (fun _ _ _ c=>Cp.rec some (fun _=>none) c) (fun _ _=>none) (fun _=>none) (fun _=>none) (fun _ _ _ _=>none)
noncomputable def only{α:Type}(l:List α):Option α:=zai none (fun x xs _=>bi xs.isEmpty (some x) none) l
noncomputable def iOf(k:IntKind)(n:Nat):Option SV:=bi (zad (zam n) (kh k)) (some (.c (.i k n))) none
noncomputable def opLen(o:Oper)(c:Call):Option SV:=
 zaa (gen C m S o) some (ob (only c.args.toList) fun x=>ob (only c.argTypes.toList) fun t=>ob (evC m S x) fun v=>zaa
  (ob (slLen v) fun n=>ob (tSl C t) fun _=>iOf .i64 n)
  (fun q=>ob (tStr C t) fun _=>iOf .i64 q.1) v.asS)
noncomputable def opCap(o:Oper)(c:Call):Option SV:=
 zaa (gen C m S o) some (ob (only c.args.toList) fun x=>ob (only c.argTypes.toList) fun t=>ob (evC m S x) fun v=>ob (slCap v) fun n=>ob (tSl C t) fun _=>iOf .i64 n)
noncomputable def SC.asU8(x:SC):Option Nat:=ob x.asI fun q=>bi (zac (kn q.1) (kn .u8)) (some (zaq q.2 (nat_lit 256))) none
noncomputable def encC(l:List SC):Option Nat:=
 zai (some (nat_lit 0)) (fun x _ r=>ob x.asU8 fun c=>ob r fun q=>some (zaj c (zat (nat_lit 256) q))) l
noncomputable def convL(s t i base n:Nat):Option SV:=
 ob (tSl C s) fun e=>ob (tStr C t) fun _=>ob (isU8 C e) fun _=>ob (cellsOf S i) fun xs=>bi (zad (zaj base n) (abd xs)) (ob (encC (ltake (ldrop xs base) n)) fun q=>some (.c (.s n q))) none
noncomputable def convC(s t:Nat)(v:SC):Option SV:=SC.rec (motive:=fun _=>Option SV) (fun _=>none)
 (fun k n=>ob (tIn C s) fun k0=>ob (tIn C t) fun k'=>bi (zac (kn k) (kn k0)) (some (.c (.i k' (conI k k' n)))) none)
 (fun l x=>ob (tStr C s) fun _=>ob (tStr C t) fun _=>some (.c (.s l x))) none none none none none (fun _ _=>none) (fun _ _=>none) (fun i base n _=>convL C S s t i base n) (fun _ _=>none) (fun _=>none) (fun _=>none) (fun _ _ _ _=>ob (tSl C s) fun e=>ob (tStr C t) fun _=>ob (isU8 C e) fun _=>some (.c (.s (nat_lit 0) (nat_lit 0)))) v
noncomputable def opConv(o:Oper)(s t:Nat)(x:Operand):Option SV:=zaa (gen C m S o) some (ob (evC m S x) (convC C S s t))
noncomputable def opCallV(o:Oper)(c:Call):Option SV:=
 match c.callee with
 |.builtin .len=>opLen C m S o c
 |.builtin .cap=>opCap C m S o c
 |_=>gen C m S o
end
abbrev VF:=Cx->M->T->Oper->Option SV
noncomputable def vGen:VF:=gen
noncomputable def opV(op:Op):VF:=Op.rec (motive:=fun _=>VF)
 (fun x _ m S _=>evO m S x)
 (fun x _ m S _=>evO m S x)
 (fun c a b _ m S _=>opPick m S c a b)
 (fun _=>vGen)
 (fun _ _=>vGen)
 (fun t ps C m S _=>opBuild C m S t ps)
 (fun _ _ _=>vGen)
 (fun _ _ _ _=>vGen)
 (fun t x C m S _=>opLoad C m S t x)
 (fun _ _ _=>vGen)
 (fun _=>vGen)
 (fun _=>vGen)
 (fun x _ m S _=>opNil m S x)
 (fun b t x y _ C m S o=>opBin C m S o b t x y)
 (fun u _ x C m S o=>opNot C m S o u x)
 (fun s t x C m S o=>opConv C m S o s t x)
 (fun _ _=>vGen)
 (fun _ _=>vGen)
 (fun f a b _ m S _=>opFunc m S f a b)
 (fun _ _=>vGen)
 (fun _ _=>vGen)
 (fun _ _ _=>vGen)
 (fun t x lo hi mx C m S _=>opSlice C m S t x lo hi mx)
 (fun t x f C m S _=>opFieldAddr C m S t x f)
 (fun t x f C m S _=>opField C m S t x f)
 (fun t x ix C m S _=>opIndexAddr C m S t x ix)
 (fun t x ix C m S _=>opIndex C m S t x ix)
 (fun _ _ _ _=>vGen)
 (fun _ _ _ _=>vGen)
 (fun _ _ _=>vGen)
 (fun _ _ _ _=>vGen)
 (fun _ _=>vGen)
 (fun _ _=>vGen)
 (fun _=>vGen)
 (fun _ _ _ _=>vGen)
 (fun x i _ m S _=>opExtract m S x i)
 (fun c C m S o=>opCallV C m S o c)
 (fun _=>vGen)
 (fun _=>vGen)
 (fun _=>vGen)
 (fun _ _=>vGen)
 (fun _ _ _=>vGen)
 (fun _ _=>vGen)
 op
noncomputable def Hs.add(H:Hs)(b:HB):Hs:=⟨zam H.nx,H.t.set H.nx b⟩
noncomputable def Hs.upd(H:Hs)(i:Nat)(b:HB):Hs:=⟨H.nx,H.t.set i b⟩
abbrev WR':=Option (Option SV×Hs)
section
variable (C : Cx) (m : M) (S : T)
noncomputable def wVal(v:Option SV):WR':=ob v fun v=>some (some v,S.H)
noncomputable def wAlloc(t:Nat):WR':=ob (zeroC C t) fun z=>some (some (.c (.p S.H.nx (nat_lit 0))),S.H.add (.cl t .ex z))
noncomputable def wBox(t:Nat)(x:Operand):WR':=ob (evO m S x) fun v=>ob v.cells fun z=>some (some (.c (.p S.H.nx (nat_lit 0))),S.H.add (.cl t .ex z))
noncomputable def wBuildSlice(t len:Nat)(ps:Array (Nat×Operand)):WR':=
 ob (tSl C t) fun e=>ob (tSz C e) fun sz=>bi (zad (zat len sz) (nat_lit 100000)) (ob (zeroC C e) fun z=>bi (zac (abd z) sz) (ob (evParts m S ps.toList) fun l=>
  ob (fillC (fun i=>some (zat i sz,sz)) l (lrep z len)) fun cs=>some (some (.c (.sl S.H.nx (nat_lit 0) len (.k len))),S.H.add (.cl e .ex cs))) none) none
noncomputable def wMake(t:Nat)(x y:Operand):WR':=
 ob (tSl C t) fun e=>ob (evN m S x) fun l=>ob (evN m S y) fun c=>ob (C.P.info? e) fun i=>bi (zad l c) (bi (zad (zat c i.bytes) (nat_lit 1000000)) (bi (zad c (nat_lit 1000000))
  (ob (zeroC C e) fun z=>bi (zac (abd z) i.size) (some (some (.c (.sl S.H.nx (nat_lit 0) l (.k c))),S.H.add (.cl e .ex (lrep z c)))) none) none) none) none
noncomputable def wStore(t:Nat)(x y:Operand):WR':=
 ob (evC m S x) fun v=>ob v.asP fun p=>ob (S.H.t.get p.1) fun b=>ob b.asC fun q=>ob (evO m S y) fun v=>ob v.cells fun vs=>ob (tSz C t) fun n=>
  bi (zac (abd vs) n) (bi (zad (zaj p.2 n) (abd q.2.2)) (some (none,S.H.upd p.1 (.cl q.1 q.2.1 (lput q.2.2 p.2 vs)))) none) none
noncomputable def byC(l x:Nat):List SC:=(Nat.rec (fun _=>[]) (fun _ r x=>(.i .u8 (zaq x (nat_lit 256)))::r (Nat.div x (nat_lit 256))) l:Nat->List SC) x
noncomputable def wBytes(s t:Nat)(x:Operand):WR':=
 ob (evC m S x) fun v=>ob v.asS fun q=>ob (tStr C s) fun _=>ob (tSl C t) fun e=>ob (isU8 C e) fun _=>some (some (.c (.sl S.H.nx (nat_lit 0) q.1 (.r (nat_lit 0)))),S.H.add (.cl e .bw (byC q.1 q.2)))
noncomputable def SC.asL:SC->Option Nat:=SC.rec (fun _=>none) (fun _ _=>none) (fun _ _=>none) none none none none none (fun _ _=>none) (fun _ _=>none) (fun i _ _ _=>some i) (fun _ _=>none) (fun _=>none) (fun _=>none) (fun _ _ _ _=>none)
noncomputable def wSame(s t:Nat)(x:Operand):WR':=
 bi (zac s t) (ob (evC m S x) fun v=>ob v.asL fun i=>ob (tSl C s) fun e=>ob (isU8 C e) fun _=>ob (S.H.t.get i) fun b=>ob b.asC fun q=>Mo.rec (motive:=fun _=>WR') (some (some (.c v),S.H.upd i (.cl q.1 .fb q.2.2))) (fun _ _=>none) (some (some (.c v),S.H.upd i (.cl q.1 .bw q.2.2))) (some (some (.c v),S.H.upd i (.cl q.1 .fb q.2.2))) q.2.1) none
noncomputable def wConv(o:Oper)(s t:Nat)(x:Operand):WR':=zaa (zaa (wVal S (opConv C m S o s t x)) some (wSame C m S s t x)) some (wBytes C m S s t x)
noncomputable def srcC(sz:Nat)(x:Operand):Option (Nat×List SC):=
 ob (evC m S x) fun v=>SC.rec (motive:=fun _=>Option (Nat×List SC)) (fun _=>none) (fun _ _=>none) (fun l x=>some (l,byC l x)) none (some (nat_lit 0,[])) none none none (fun _ _=>none) (fun _ _=>none)
  (fun i base n _=>ob (cellsOf S i) fun xs=>bi (zad (zaj base (zat n sz)) (abd xs)) (some (n,ltake (ldrop xs base) (zat n sz))) none) (fun _ _=>none) (fun _=>none) (fun _=>none) (fun _ _ _ _=>some (nat_lit 0,[])) v
noncomputable def isStrV(y:Operand):Bool:=zaa false (fun v=>zaa false (fun _=>true) v.asS) (evC m S y)
noncomputable def appNew(H:Hs)(e sz m:Nat)(xs:List SC):WR':=some (some (.c (.sl H.nx (nat_lit 0) m (.r (nat_lit 0)))),H.add (.cl e (.rw sz m) xs))
noncomputable def appNil(H:Hs)(e sz by_ k:Nat)(vs:List SC):WR':=bi (zac k (nat_lit 0)) (some (some (.c .ns),H)) (bi (zad (zat k by_) (nat_lit 1000000000)) (appNew H e sz k vs) none)
noncomputable def appEx(H:Hs)(e sz i n cc k:Nat)(xs vs:List SC):WR':=
 bi (zad (zaj n k) cc) (bi (zad (zat (zaj n k) sz) (abd xs)) (some (some (.c (.sl i (nat_lit 0) (zaj n k) (.k cc))),H.upd i (.cl e .ex (lput xs (zat n sz) vs)))) none)
  (appNew H e sz (zaj n k) (lapp (ltake xs (zat n sz)) vs))
noncomputable def appFb(H:Hs)(e sz n cc k:Nat)(xs vs:List SC):WR':=bi (zad (zaj n k) cc) none (appNew H e sz (zaj n k) (lapp (ltake xs (zat n sz)) vs))
noncomputable def appRw(H:Hs)(e sz i n k sz' mm:Nat)(xs vs:List SC):WR':=
 bi (zac sz' sz) (bi (zad n mm) (appNew (H.upd i .gn) e sz (zaj n k) (lapp (ltake xs (zat n sz)) vs)) none) none
noncomputable def appSl(H:Hs)(e sz by_ i base n k:Nat)(c:Cp)(vs:List SC):WR':=
 bi (zac base (nat_lit 0)) (ob (H.t.get i) fun b=>ob b.asC fun q=>bi (zac q.1 e) (bi (zad (zat n sz) (abd q.2.2)) (bi (zad (zat (zaj n k) by_) (nat_lit 1000000000))
  (Cp.rec (motive:=fun _=>WR')
   (fun cc=>Mo.rec (motive:=fun _=>WR') (appEx H e sz i n cc k q.2.2 vs) (fun _ _=>none) none (appFb H e sz n cc k q.2.2 vs) q.2.1)
   (fun off=>bi (zac off (nat_lit 0)) (Mo.rec (motive:=fun _=>WR') none (fun sz' mm=>appRw H e sz i n k sz' mm q.2.2 vs) none none q.2.1) none) c) none) none) none) none
noncomputable def appTo(e sz by_:Nat)(x:Operand)(nw:Nat×List SC):WR':=
 ob (evC m S x) fun v=>SC.rec (motive:=fun _=>WR') (fun _=>none) (fun _ _=>none) (fun _ _=>none) none (appNil S.H e sz by_ nw.1 nw.2) none none none (fun _ _=>none) (fun _ _=>none)
   (fun i base n c=>appSl S.H e sz by_ i base n nw.1 c nw.2) (fun _ _=>none) (fun _=>none) (fun _=>none) (fun _ _ _ _=>none) v
noncomputable def wAppend(t:Nat)(x y:Operand):WR':=
 ob (tSl C t) fun e=>ob (C.P.info? e) fun inf=>bi (zac inf.bytes (nat_lit 0)) none (ob (zeroC C e) fun z=>bi (zac (abd z) inf.size) (ob (srcC m S inf.size y) fun nw=>bi (isStrV m S y) (bi (zac inf.size (nat_lit 1)) (appTo m S e inf.size inf.bytes x nw) none) (appTo m S e inf.size inf.bytes x nw)) none)
noncomputable def evI(y:Operand):Option Nat:=ob (evC m S y) fun u=>ob u.asI fun q=>bi (zac (kn q.1) (kn .i64)) u.asN none
noncomputable def wAppZ(t:Nat)(d:TypeDesc)(x y:Operand):WR':=
 ob (uIn d) fun _=>ob (tSl C t) fun e=>ob (C.P.info? e) fun inf=>bi (zac inf.bytes (nat_lit 0)) none (ob (zeroC C e) fun z=>bi (zac (abd z) inf.size) (ob (evI m S y) fun k=>bi (zac (zat k inf.size) (nat_lit 0)) none (appTo m S e inf.size inf.bytes x (k,lrep z k))) none)
noncomputable def copyTo(i base sz k:Nat)(vs:List SC):WR':=
 ob (S.H.t.get i) fun b=>ob b.asC fun q=>bi (zad (zaj base (zat k sz)) (abd q.2.2)) (ob (iOf .i64 k) fun v=>some (some v,S.H.upd i (.cl q.1 q.2.1 (lput q.2.2 base (ltake vs (zat k sz)))))) none
noncomputable def copyV(sz:Nat)(x:Operand)(nw:Nat×List SC):WR':=
 ob (evC m S x) fun v=>SC.rec (motive:=fun _=>WR') (fun _=>none) (fun _ _=>none) (fun _ _=>none) none
  (some (some (.c (.i .i64 (nat_lit 0))),S.H)) none none none (fun _ _=>none) (fun _ _=>none) (fun i base n _=>copyTo S i base sz (bi (zad nw.1 n) nw.1 n) nw.2) (fun _ _=>none) (fun _=>none) (fun _=>none) (fun _ _ _ _=>some (some (.c (.i .i64 (nat_lit 0))),S.H)) v
noncomputable def wCopy(t:Nat)(x y:Operand):WR':=
 ob (tSl C t) fun e=>ob (tSz C e) fun sz=>ob (srcC m S sz y) fun nw=>bi (isStrV m S y) (bi (zac sz (nat_lit 1)) (copyV m S sz x nw) none) (copyV m S sz x nw)
noncomputable def clrSl(z:List SC)(sz i base n:Nat):WR':=
 bi (zac n (nat_lit 0)) (some (some (.t []),S.H)) (ob (S.H.t.get i) fun b=>ob b.asC fun q=>bi (zad (zaj base (zat n sz)) (abd q.2.2)) (some (some (.t []),S.H.upd i (.cl q.1 q.2.1 (lput q.2.2 base (lrep z n))))) none)
noncomputable def wClear(t:Nat)(x:Operand):WR':=
 ob (tSl C t) fun e=>ob (zeroC C e) fun z=>ob (evC m S x) fun v=>SC.rec (motive:=fun _=>WR') (fun _=>none) (fun _ _=>none) (fun _ _=>none) none (some (some (.t []),S.H)) none none none (fun _ _=>none) (fun _ _=>none)
  (fun i base n _=>clrSl S z (abd z) i base n) (fun _ _=>none) (fun _=>none) (fun _=>none) (fun _ _ _ _=>some (some (.t []),S.H)) v
noncomputable def wRange(t:Nat)(x:Operand):WR':=
 ob (evC m S x) fun v=>ob v.asS fun q=>ob (tStr C t) fun _=>some (some (.c (.p S.H.nx (nat_lit 0))),S.H.add (.it q.1 q.2 (nat_lit 0)))
noncomputable def HB.asI:HB->Option (Nat×Nat×Nat):=HB.rec (fun _ _ _=>none) (fun l x p=>some (l,x,p)) (fun _ _ _ _ _ _ _=>none) none none (fun _=>none)
noncomputable def wNext(x:Operand)(isS:Bool):WR':=
 bi isS (ob (evC m S x) fun v=>ob v.asP fun p=>bi (zac p.2 (nat_lit 0)) (ob (S.H.t.get p.1) fun b=>ob b.asI fun q=>bi (zad (zam q.2.2) q.1)
  ((fun d:Nat×Nat=>ob (iOf .i64 q.2.2) fun _=>ob (iOf .i32 d.1) fun _=>some (some (.t [.c (.b true),.c (.i .i64 q.2.2),.c (.i .i32 d.1)]),S.H.upd p.1 (.it q.1 q.2.1 (zaj q.2.2 d.2)))) (Utf8.decode ⟨(dec q.1 q.2.1).toArray⟩ q.2.2))
  (some (some (.t [.c (.b false)]),S.H))) none) none
def uMp(d:TypeDesc):Option (Nat×Nat):=match d with|.map k e=>some (k,e)|_=>none
noncomputable def tMp(t:Nat):Option (Nat×Nat):=ob (C.P.underlying t) uMp
noncomputable def SC.asM:SC->Option Nat:=SC.rec (fun _=>none) (fun _ _=>none) (fun _ _=>none) none none none none none (fun _ _=>none) (fun _ _=>none) (fun _ _ _ _=>none) (fun _ _=>none) (fun _=>none) some (fun _ _ _ _=>none)
noncomputable def HB.asM:HB->Option (List (SC×SC)):=HB.rec (fun _ _ _=>none) (fun _ _ _=>none) (fun _ _ _ _ _ _ _=>none) none none some
noncomputable def keq(x y:SC):Option Bool:=
 zaa (ob x.asS fun p=>ob y.asS fun q=>some (seq p.1 p.2 q.1 q.2)) (fun p=>ob y.asI fun q=>bi (zac (kn p.1) (kn q.1)) (some (ieqN p.1 p.2 q.2)) none) x.asI
noncomputable def mfind(x:SC)(es:List (SC×SC)):Option (Option (Nat×SC)):=
 zai (some none) (fun e _ r=>ob (keq x e.1) fun b=>bi b (some (some (nat_lit 0,e.2))) (ob r fun q=>some (zaa none (fun z=>some (zam z.1,z.2)) q))) es
noncomputable def mput(es:List (SC×SC))(x:SC×SC):Nat->List (SC×SC):=zai (fun _=>[]) (fun e et r j=>bi (zac j (nat_lit 0)) (x::et) (e::r (Nat.sub j (nat_lit 1)))) es
noncomputable def keyOk(t:Nat)(x:SC):Option Unit:=ob (C.P.underlying t) fun d=>match d with
 |.int k=>ob x.asI fun q=>bi (zac (kn q.1) (kn k)) (some ()) none
 |.string=>ob x.asS fun _=>some ()
 |_=>none
noncomputable def wMakeMap(t:Nat)(r:Option Operand):WR':=ob (tMp C t) fun _=>ob (evND m S r (nat_lit 0)) fun _=>some (some (.c (.m S.H.nx)),S.H.add (.mp []))
noncomputable def wLookup(t:Nat)(x ix:Operand)(ok:Bool):WR':=
 ob (tMp C t) fun q=>ob (evC m S x) fun v=>ob v.asM fun i=>ob (S.H.t.get i) fun b=>ob b.asM fun es=>ob (evC m S ix) fun k=>ob (keyOk C q.1 k) fun _=>
  ob (mfind k es) fun r=>ob (zaa (ob (sval C.P (zeroValue q.2)) cvc) (fun z=>some z.2) r) fun y=>some (some (bi ok (.t [.c y,.c (.b r.isSome)]) (.c y)),S.H)
noncomputable def wMapUpd(t:Nat)(x ix y:Operand):WR':=
 ob (tMp C t) fun q=>ob (evC m S x) fun v=>ob v.asM fun i=>ob (S.H.t.get i) fun b=>ob b.asM fun es=>ob (evC m S ix) fun k=>ob (keyOk C q.1 k) fun _=>
  ob (evC m S y) fun z=>ob (mfind k es) fun r=>some (none,S.H.upd i (.mp (zaa (lapp es [(k,z)]) (fun p=>mput es (k,z) p.1) r)))
def isSS:TypeDesc->Bool
 |.slice _=>true
 |.string=>true
 |_=>false
def uPt(d:TypeDesc):Option Nat:=match d with|.pointer e=>some e|_=>none
noncomputable def tPt(t:Nat):Option Nat:=ob (C.P.underlying t) uPt
noncomputable def capOk(i n:Nat)(c:Cp):Bool:=Cp.rec (fun cc=>zad n cc) (fun off=>room S i (zaj off n)) c
noncomputable def wSD(x:Operand):WR':=
 ob (evC m S x) fun v=>SC.rec (motive:=fun _=>WR') (fun _=>none) (fun _ _=>none) (fun _ _=>none) none (some (some (.c .np),S.H)) none none none (fun _ _=>none) (fun _ _=>none)
  (fun i base n c=>bi (zad (nat_lit 1) n) (bi (capOk S i n c) (some (some (.c (.p i base)),S.H)) none) none) (fun _ _=>none) (fun _=>none) (fun _=>none) (fun _ _ _ _=>none) v
noncomputable def SC.isPt:SC->Bool:=SC.rec (fun _=>false) (fun _ _=>false) (fun _ _=>false) true false false false false (fun _ _=>true) (fun _ _=>false) (fun _ _ _ _=>false) (fun _ _=>false) (fun _=>false) (fun _=>false) (fun _ _ _ _=>false)
noncomputable def wUS(pt:Nat)(x y:Operand):WR':=
 ob (evI m S y) fun k=>ob (evC m S x) fun v=>bi (zac k (nat_lit 0)) (bi v.isPt (some (some (.c (.s (nat_lit 0) (nat_lit 0))),S.H)) none)
  (ob v.asP fun p=>bi (zac p.2 (nat_lit 0)) (ob (S.H.t.get p.1) fun b=>ob b.asC fun q=>ob (tPt C pt) fun e=>bi (zac q.1 e) (bi (zac (C.P.cellsOf e) (nat_lit 1))
   (bi (Mo.rec true (fun _ _=>true) false false q.2.1) (bi (zad k (abd q.2.2)) (ob (encC (ltake q.2.2 k)) fun z=>some (some (.c (.s k z)),S.H.upd p.1 .gn)) none) none) none) none) none)
noncomputable def wCall(o:Oper)(c:Call):WR':=
 match c.callee,c.args.toList,c.argTypes.toList with
 |.builtin .unsafeSliceData,[x],_=>wSD m S x
 |.builtin .unsafeString,[x,y],[pt,_]=>wUS C m S pt x y
 |.builtin .append,[x,y],[t,u]=>ob (C.P.underlying u) fun d=>bi (isSS d) (wAppend C m S t x y) (wAppZ C m S t d x y)
 |.builtin .copy,[x,y],[t,_]=>wCopy C m S t x y
 |.builtin .clear,[x],[t]=>wClear C m S t x
 |_,_,_=>wVal S (opCallV C m S o c)
end
abbrev WF:=Cx->M->T->Oper->WR'
noncomputable def wGen:WF:=fun C m S o=>wVal S (gen C m S o)
noncomputable def opW(op:Op):WF:=Op.rec (motive:=fun _=>WF)
 (fun x _ m S _=>wVal S (evO m S x))
 (fun x _ m S _=>wVal S (evO m S x))
 (fun c a b _ m S _=>wVal S (opPick m S c a b))
 (fun t C m S _=>wAlloc C S t)
 (fun t x C m S _=>wBox m S t x)
 (fun t ps C m S _=>wVal S (opBuild C m S t ps))
 (fun t n ps C m S _=>wBuildSlice C m S t n ps)
 (fun t x k y C m S _=>wMapUpd C m S t x k y)
 (fun t x C m S _=>wVal S (opLoad C m S t x))
 (fun t x y C m S _=>wStore C m S t x y)
 (fun _=>wGen)
 (fun _=>wGen)
 (fun x _ m S _=>wVal S (opNil m S x))
 (fun b t x y _ C m S o=>wVal S (opBin C m S o b t x y))
 (fun u _ x C m S o=>wVal S (opNot C m S o u x))
 (fun s t x C m S o=>wConv C m S o s t x)
 (fun _ _=>wGen)
 (fun _ _=>wGen)
 (fun f a b _ m S _=>wVal S (opFunc m S f a b))
 (fun t r C m S _=>wMakeMap C m S t r)
 (fun _ _=>wGen)
 (fun t x y C m S _=>wMake C m S t x y)
 (fun t x lo hi mx C m S _=>wVal S (opSlice C m S t x lo hi mx))
 (fun t x f C m S _=>wVal S (opFieldAddr C m S t x f))
 (fun t x f C m S _=>wVal S (opField C m S t x f))
 (fun t x ix C m S _=>wVal S (opIndexAddr C m S t x ix))
 (fun t x ix C m S _=>wVal S (opIndex C m S t x ix))
 (fun t x ix ok C m S _=>wLookup C m S t x ix ok)
 (fun t x k y C m S _=>wMapUpd C m S t x k y)
 (fun _ _ _=>wGen)
 (fun _ _ _ _=>wGen)
 (fun t x C m S _=>wRange C m S t x)
 (fun x b C m S _=>wNext m S x b)
 (fun _=>wGen)
 (fun _ _ _ _=>wGen)
 (fun x i _ m S _=>wVal S (opExtract m S x i))
 (fun c C m S o=>wCall C m S o c)
 (fun _=>wGen)
 (fun _=>wGen)
 (fun _=>wGen)
 (fun _ _=>wGen)
 (fun _ _ _=>wGen)
 (fun _ _=>wGen)
 op
abbrev Ev:=M->Code->T->Option (Ex×T)
abbrev Ef:=Ks->M->T->Option (Ex×T)
noncomputable def dset(F:Tr SV)(d:Option Nat)(v:SV):Tr SV:=zaa F (fun d=>F.set d v) d
noncomputable def evL(m:M)(S:T)(l:List Operand):Option (List SV):=zai (some []) (fun x _ r=>ob (evO m S x) fun v=>ob r fun q=>some (v::q)) l
noncomputable def ptrs(l:List Nat):List SV:=zai [] (fun i _ r=>.c (.p i (nat_lit 0))::r) l
noncomputable def setL(F:Tr SV)(k:Nat)(l:List SV):Tr SV:=(zai (fun F _=>F) (fun v _ r F k=>r (F.set k v) (zam k)) l:Tr SV->Nat->Tr SV) F k
noncomputable def updP(F:Tr SV)(ps:List Nat)(vs:List SV):Option (Tr SV):=
 (zai (fun F vs=>bi vs.isEmpty (some F) none) (fun p _ r F vs=>zai none (fun v vt _=>r (F.set p v) vt) vs) ps:Tr SV->List SV->Option (Tr SV)) F vs
noncomputable def HB.asL:HB->Option (Bool×Nat×Nat×List Nat×Code×Code×Tr SV):=HB.rec (fun _ _ _=>none) (fun _ _ _=>none) (fun b j k ps a c F=>some (b,j,k,ps,a,c,F)) none none (fun _=>none)
noncomputable def jx:Ex->Nat:=Ex.rec (nat_lit 0) (nat_lit 1) (fun id=>zaj id (nat_lit 2))
noncomputable def lpAt(H:Hs)(i:Nat)(busy:Bool):Option (Nat×Nat×List Nat×Code×Code×Tr SV):=ob (H.t.get i) fun b=>ob b.asL fun q=>bi (bi busy q.1 (inot q.1)) (some q.2) none
abbrev Lq:=Nat×Nat×List Nat×Code×Code×Tr SV
noncomputable def lpPut(q:Lq)(busy:Bool)(j:Nat)(H:Hs)(i:Nat):Hs:=H.upd i (.lp busy j q.2.1 q.2.2.1 q.2.2.2.1 q.2.2.2.2.1 q.2.2.2.2.2)
noncomputable def yield3(i:Nat)(r:Ex×T):Option (SV×Hs):=
 ob (lpAt r.2.H i true) fun q=>bi r.2.D.isNone (some (.c (.b (zac (jx r.1) (nat_lit 0))),lpPut q false (jx r.1) r.2.H i)) none
noncomputable def yield2(E:Ev)(i k:Nat)(body:Code)(S:T):Option (SV×Hs):=
 ob (lpAt S.H i false) fun q=>bi (zac q.1 (nat_lit 0)) (bi S.D.isNone (ob (E ⟨k,some (some i)⟩ body ⟨S.F,lpPut q true (nat_lit 0) S.H i,none⟩) (yield3 i)) none) none
noncomputable def yieldE(E:Ev)(i:Nat)(vs:List SV)(H:Hs):Option (SV×Hs):=
 ob (lpAt H i false) fun q=>bi (zac q.1 (nat_lit 0)) (ob (updP q.2.2.2.2.2 q.2.2.1 vs) fun F1=>ob (E ⟨q.2.1,some (some i)⟩ q.2.2.2.1 ⟨F1,H,none⟩) fun r=>
  Ex.rec (yield2 E i q.2.1 q.2.2.2.2.1 r.2) none (fun _=>none) r.1) none
noncomputable def callE(K:Ks)(m:M)(S:T)(f:Operand)(args:Array Operand)(ds:Bool):Option (SV×Hs):=
 ob (evL m S args.toList) fun vs=>ob (evC m S f) fun g=>SC.rec (motive:=fun _=>Option (SV×Hs)) (fun _=>none) (fun _ _=>none) (fun _ _=>none) none none none none none (fun _ _=>none) (fun _ _=>none) (fun _ _ _ _=>none)
  (fun k cs=>K.call k (lapp vs (ptrs cs)) S.H) (fun i=>bi ds (bi m.m.isSome (yieldE K.run i vs S.H) none) none) (fun _=>none) (fun _ _ _ _=>none) g
section
variable (C : Cx)
noncomputable def opO(m:M)(S:T)(o:Oper):Option T:=
 ob (opW o.op C m S o) fun r=>zaa (bi o.dst.isNone (some ⟨S.F,r.2,S.D⟩) none) (fun v=>zaa (motive:=fun _=>Option T) (some ⟨S.F,r.2,S.D⟩) (fun d=>some ⟨S.F.set d v,r.2,S.D⟩) o.dst) r.1
def isCall:Op->Option (Operand×Array Operand)
 |.call c=>match c.callee with
  |.value f=>some (f,c.args)
  |_=>none
 |_=>none
noncomputable def SC.isZ:SC->Bool:=SC.rec (fun _=>false) (fun _ _=>false) (fun _ _=>false) false false false false false (fun _ _=>false) (fun _ _=>false) (fun _ _ _ _=>false) (fun _ _=>false) (fun _=>false) (fun _=>false) (fun _ _ _ _=>true)
noncomputable def SC.asF:SC->Option Nat:=SC.rec (fun _=>none) (fun _ _=>none) (fun _ _=>none) none none none none none (fun _ _=>none) (fun _ _=>none) (fun _ _ _ _=>none) (fun k l=>bi l.isEmpty (some k) none) (fun _=>none) (fun _=>none) (fun _ _ _ _=>none)
noncomputable def ovlK(S:T)(a b:SC):Option SV:=
 ob a.asL fun i=>zaa (bi b.isZ (some (.c (.b false))) none) (fun j=>bi (zac i j) none (ob (S.H.t.get i) fun p=>ob p.asC fun q=>bi (Mo.rec true (fun _ _=>false) false false q.2.1)
  (ob (S.H.t.get j) fun p'=>ob p'.asC fun q'=>bi (zad (nat_lit 1) (abd q'.2.2)) (some (.c (.b false))) none) none)) b.asL
noncomputable def ovlE(m:M)(S:T)(f:Operand)(args:Array Operand):Option SV:=
 match args.toList with
 |[x,y]=>ob (evC m S f) fun g=>ob g.asF fun k=>bi (C.V k) (ob (evC m S x) fun a=>ob (evC m S y) fun b=>ovlK S a b) none
 |_=>none
noncomputable def op1(K:Ks)(m:M)(S:T)(o:Oper):Option T:=
 zaa (opO C m S o) (fun c=>zaa (ob (callE K m S c.1 c.2 o.dst.isSome) fun r=>some ⟨dset S.F o.dst r.1,r.2,S.D⟩) (fun v=>ob o.dst fun d=>some ⟨S.F.set d v,S.H,S.D⟩) (ovlE C m S c.1 c.2)) (isCall o.op)
noncomputable def gval(v:SV)(b:Bool):Option Bool:=SV.rec (fun x=>ob x.asB fun t=>some (bi t b (inot b))) (fun _=>none) (fun _=>none) (some false) v
noncomputable def opG(K:Ks)(m:M)(ops:Array Oper)(S:T)(o:Oper):Option T:=
 zaa (op1 C K m S o) (fun q=>ob ((ops[q.1]?).bind (·.dst)) fun dg=>ob o.dst fun d=>bi (zad (zam dg) m.n) (ob (gval (oget (S.F.get dg)) q.2) fun b=>
  bi b (op1 C K m S o) (some ⟨S.F.set d .u,S.H,S.D⟩)) none) o.guard
noncomputable def opsE(K:Ks)(m:M)(ops:Array Oper)(l:List Oper):T->Option T:=
 zai (fun S=>some S) (fun o _ r S=>ob (opG C K m ops S o) r) l
noncomputable def oeq(a b:Option Nat):Bool:=zaa b.isNone (fun x=>zaa false (fun y=>zac x y) b) a
abbrev RT:=Option (Ex×T)
noncomputable def onX(r:RT)(nm rt:T->RT)(xt:Nat->T->RT):RT:=zaa none (fun p=>Ex.rec (nm p.2) (rt p.2) (fun id=>xt id p.2) p.1) r
noncomputable def kRt:T->RT:=fun S=>some (.rt,S)
noncomputable def kNm:T->RT:=fun S=>some (.nm,S)
noncomputable def kXt:Nat->T->RT:=fun id S=>some (.xt id,S)
noncomputable def eSkip:Ef:=fun _ _ S=>some (.nm,S)
noncomputable def isLC(c:Call):Bool:=match c.callee with
 |.builtin .len=>true
 |.builtin .cap=>true
 |_=>false
noncomputable def kindV(op:Op):Nat:=Op.rec (motive:=fun _=>Nat)
 (fun _=>nat_lit 0)
 (fun _=>nat_lit 0)
 (fun _ _ _=>nat_lit 0)
 (fun _=>nat_lit 2)
 (fun _ _=>nat_lit 2)
 (fun _ _=>nat_lit 0)
 (fun _ _ _=>nat_lit 2)
 (fun _ _ _ _=>nat_lit 2)
 (fun _ _=>nat_lit 1)
 (fun _ _ _=>nat_lit 2)
 (fun _=>nat_lit 2)
 (fun _=>nat_lit 2)
 (fun _=>nat_lit 0)
 (fun _ _ _ _ _=>nat_lit 0)
 (fun _ _ _=>nat_lit 0)
 (fun s t _=>bi (or (tSl C s).isSome (tSl C t).isSome) (nat_lit 2) (nat_lit 0))
 (fun _ _=>nat_lit 2)
 (fun _ _=>nat_lit 2)
 (fun _ _ _=>nat_lit 0)
 (fun _ _=>nat_lit 2)
 (fun _ _=>nat_lit 2)
 (fun _ _ _=>nat_lit 2)
 (fun _ _ _ _ _=>nat_lit 0)
 (fun _ _ _=>nat_lit 0)
 (fun _ _ _=>nat_lit 0)
 (fun _ _ _=>nat_lit 0)
 (fun _ _ _=>nat_lit 0)
 (fun _ _ _ _=>nat_lit 2)
 (fun _ _ _ _=>nat_lit 2)
 (fun _ _ _=>nat_lit 2)
 (fun _ _ _ _=>nat_lit 2)
 (fun _ _=>nat_lit 2)
 (fun _ _=>nat_lit 2)
 (fun _=>nat_lit 2)
 (fun _ _ _ _=>nat_lit 2)
 (fun _ _=>nat_lit 0)
 (fun c=>bi (isLC c) (nat_lit 0) (nat_lit 2))
 (fun _=>nat_lit 2)
 (fun _=>nat_lit 2)
 (fun _=>nat_lit 2)
 (fun _ _=>nat_lit 2)
 (fun _ _ _=>nat_lit 2)
 (fun _ _=>nat_lit 2)
 op
inductive Pl where
 |dn
 |pu (i:Nat) (o:Oper) (d:Nat) (n:Pl)
 |ld (i:Nat) (o:Oper) (d:Nat) (D:List Nat) (n:Pl)
 |on (i:Nat) (o:Oper) (n:Pl)
 |tw (i:Nat) (o:Oper) (n:Pl) (j:Nat) (o':Oper) (n':Pl)
noncomputable def qf(ops:Array Oper)(k:Nat)(l:List Bool)(i:Nat):Bool:=
 bi (zak i k) (zaa false (fun o=>bi (zad (kindV C o.op) (nat_lit 1)) (bi o.dst.isSome (Region.free .any ops l.toArray i) false) false) ops[i]?) false
noncomputable def descOf(ops:Array Oper)(i:Nat):List Nat:=
 (List.range ops.size).foldl (fun D j=>match ops[j]? with
  |some o=>if o.after.any (fun e=>Region.binds .any e&&zak e.on j&&(zac e.on i||D.contains e.on))then D++[j]else D
  |none=>D) []
noncomputable def stepQ(ops:Array Oper)(r:List Bool->Option Pl)(l:List Bool)(i:Nat):Option Pl:=
 ob ops[i]? fun o=>ob o.dst fun d=>ob (r (l.set i true)) fun n=>bi (zac (kindV C o.op) (nat_lit 0)) (some (.pu i o d n)) (bi (descB .any ops i (descOf ops i)) (some (.ld i o d (descOf ops i) n)) none)
noncomputable def stepL(ops:Array Oper)(k:Nat)(r:List Bool->Option Pl)(l:List Bool)(rd:List Nat):Option Pl:=
 match rd with
 |[i]=>bi (zak i k) (ob ops[i]? fun o=>ob (r (l.set i true)) fun n=>some (.on i o n)) none
 |[i,j]=>bi (zak i k) (bi (zak j k) (ob ops[i]? fun o=>ob ops[j]? fun o'=>ob (r (l.set i true)) fun n=>ob (r (l.set j true)) fun n'=>some (.tw i o n j o' n')) none) none
 |_=>none
noncomputable def planE(ops:Array Oper)(k f:Nat):List Bool->Option Pl:=Nat.rec
 (fun l=>bi (Region.seqB .any ops (ops.size-k) k l.toArray) (some .dn) none)
 (fun _ r l=>zaa (stepL ops k r l (Region.ready .any ops l.toArray)) (stepQ C ops r l) ((Region.ready .any ops l.toArray).find? (qf C ops k l))) f
noncomputable def kOf(ops:Array Oper)(n:Nat):Nat:=Nat.rec (nat_lit 0) (fun n r=>bi (aas ops n) r (zam n)) n
noncomputable def planK(ops:Array Oper)(k:Nat):Option (Nat×Pl):=bi (aas ops k) (ob (planE C ops k k (List.replicate ops.size false)) fun p=>some (k,p)) none
noncomputable def planOf(ops:Array Oper):Option (Nat×Pl):=planK C ops (kOf ops ops.size)
structure Fa where
 D:List Nat
 x:SC
 t:Nat
 v:SV
abbrev Dr:=T×List Fa×List (Nat×Hs)
noncomputable def S0(S:T):T:=⟨S.F,⟨S.H.nx,.e⟩,S.D⟩
noncomputable def Cx.bare(C:Cx):Cx:=⟨C.P,fun _=>none,C.X,C.pure,C.V⟩
noncomputable def gpass(m:M)(ops:Array Oper)(S:T)(o:Oper):Option Bool:=
 zaa (some true) (fun q=>ob ((ops[q.1]?).bind (·.dst)) fun dg=>bi (zad (zam dg) m.n) (gval (oget (S.F.get dg)) q.2) none) o.guard
def slOf:Op->Option (Nat×Operand×Option Operand×Option Operand×Option Operand)
 |.slice t x lo hi mx=>some (t,x,lo,hi,mx)
 |_=>none
noncomputable def valB(m:M)(S:T)(o:Oper):Option SV:=
 zaa (opV o.op C.bare m (S0 S) o) (fun q=>opSliceR C.bare m (S0 S) (room S) q.1 q.2.1 q.2.2.1 q.2.2.2.1 q.2.2.2.2) (slOf o.op)
def ldOf:Op->Option (Nat×Operand)
 |.load t x=>some (t,x)
 |_=>none
noncomputable def blL(n:Nat)(l:List Nat):Bool:=zai true (fun i _ r=>bi (zad (zam i) n) r false) l
noncomputable def SC.okb(n:Nat):SC->Bool:=SC.rec (fun _=>true) (fun _ _=>true) (fun _ _=>true) true true true true true (fun i _=>zad (zam i) n) (fun _ _=>true) (fun i _ _ _=>zad (zam i) n) (fun _ l=>blL n l) (fun i=>zad (zam i) n) (fun i=>zad (zam i) n) (fun i _ _ _=>zad (zam i) n)
noncomputable def okL(n:Nat)(l:List SC):Bool:=zai true (fun x _ r=>bi (x.okb n) r false) l
noncomputable def SV.okb(n:Nat):SV->Bool:=SV.rec (SC.okb n) (okL n) (fun _=>false) true
noncomputable def Cp.eqb:Cp->Cp->Bool:=Cp.rec (fun a=>Cp.rec (zac a) (fun _=>false)) (fun a=>Cp.rec (fun _=>false) (zac a))
noncomputable def beqb(a b:Bool):Bool:=bi a b (inot b)
noncomputable def eqL{α:Type}(q:α->α->Bool)(l r:List α):Bool:=(zai (fun r=>r.isEmpty) (fun x _ h r=>zai false (fun y ys _=>bi (q x y) (h ys) false) r) l:List α->Bool) r
noncomputable def SC.eqb(v₁ v₂:SC):Bool:=match v₁,v₂ with
 |.b a₁,.b a₂=>beqb a₁ a₂
 |.i k₁ a₁,.i k₂ a₂=>bi (zac (kn k₁) (kn k₂)) (zac a₁ a₂) false
 |.s l₁ a₁,.s l₂ a₂=>bi (zac l₁ l₂) (zac a₁ a₂) false
 |.np,.np=>true
 |.ns,.ns=>true
 |.nf,.nf=>true
 |.ni,.ni=>true
 |.nm,.nm=>true
 |.p l₁ a₁,.p l₂ a₂=>bi (zac l₁ l₂) (zac a₁ a₂) false
 |.g l₁ a₁,.g l₂ a₂=>bi (zac l₁ l₂) (zac a₁ a₂) false
 |.sl l₁ a₁ n₁ c₁,.sl l₂ a₂ n₂ c₂=>bi (zac l₁ l₂) (bi (zac a₁ a₂) (bi (zac n₁ n₂) (Cp.eqb c₁ c₂) false) false) false
 |.fn l₁ c₁,.fn l₂ c₂=>bi (zac l₁ l₂) (eqL zac c₁ c₂) false
 |.y l₁,.y l₂=>zac l₁ l₂
 |.m l₁,.m l₂=>zac l₁ l₂
 |.z l₁ a₁ n₁ c₁,.z l₂ a₂ n₂ c₂=>bi (zac l₁ l₂) (bi (zac a₁ a₂) (bi (zac n₁ n₂) (zac c₁ c₂) false) false) false
 |_,_=>false
noncomputable def SA.eqb:SA->SA->Bool:=SA.rec (fun x=>SA.rec (SC.eqb x) (fun _=>false)) (fun l=>SA.rec (fun _=>false) (eqL SC.eqb l))
noncomputable def SV.eqb:SV->SV->Bool:=SV.rec (fun x=>SV.rec (SC.eqb x) (fun _=>false) (fun _=>false) false) (fun l=>SV.rec (fun _=>false) (eqL SC.eqb l) (fun _=>false) false)
 (fun l=>SV.rec (fun _=>false) (fun _=>false) (eqL SA.eqb l) false) (SV.rec (fun _=>false) (fun _=>false) (fun _=>false) true)
noncomputable def Mo.eqb:Mo->Mo->Bool:=Mo.rec (Mo.rec true (fun _ _=>false) false false) (fun a b=>Mo.rec false (fun a' b'=>bi (zac a a') (zac b b') false) false false) (Mo.rec false (fun _ _=>false) true false) (Mo.rec false (fun _ _=>false) false true)
noncomputable def P2.eqb(x y:SC×SC):Bool:=bi (SC.eqb x.1 y.1) (SC.eqb x.2 y.2) false
noncomputable def HB.eqb(v₁ v₂:HB):Bool:=match v₁,v₂ with
 |.mp l₁,.mp l₂=>eqL P2.eqb l₁ l₂
 |.cl t₁ m₁ l₁,.cl t₂ m₂ l₂=>bi (zac t₁ t₂) (bi (Mo.eqb m₁ m₂) (eqL SC.eqb l₁ l₂) false) false
 |.it l₁ a₁ p₁,.it l₂ a₂ p₂=>bi (zac l₁ l₂) (bi (zac a₁ a₂) (zac p₁ p₂) false) false
 |.df,.df=>true
 |.gn,.gn=>true
 |_,_=>false
noncomputable def oeqb{α:Type}(q:α->α->Bool)(x y:Option α):Bool:=zaa y.isNone (fun a=>zaa false (q a) y) x
noncomputable def Tr.eqb{α:Type}(q:α->α->Bool)(t:Tr α):Tr α->Bool:=
 Tr.rec (Tr.rec true (fun _ _ _ _ _=>false)) (fun _ v _ hl hr=>Tr.rec false (fun l' v' r' _ _=>bi (oeqb q v v') (bi (hl l') (hr r') false) false)) t
noncomputable def T.eqb(S S':T):Bool:=bi (zac S.H.nx S'.H.nx) (bi (oeq S.D S'.D) (bi (S.F.eqb SV.eqb S'.F) (S.H.t.eqb HB.eqb S'.H.t) false) false) false
noncomputable def rot(a p q i:Nat):Nat:=bi (zak i a) i (bi (zak i (zaj a p)) (zaj i q) (bi (zak i (zaj (zaj a p) q)) (Nat.sub i p) i))
noncomputable def mapL{α β:Type}(f:α->β)(l:List α):List β:=zai [] (fun x _ r=>f x::r) l
noncomputable def SC.ren(f:Nat->Nat):SC->SC:=SC.rec .b .i .s .np .ns .nf .ni .nm (fun i o=>.p (f i) o) .g (fun i b n c=>.sl (f i) b n c) (fun g cs=>.fn g (mapL f cs)) (fun i=>.y (f i)) (fun i=>.m (f i)) (fun i b d o=>.z (f i) b d o)
noncomputable def SA.ren(f:Nat->Nat):SA->SA:=SA.rec (fun x=>.c (x.ren f)) (fun l=>.a (mapL (SC.ren f) l))
noncomputable def SV.ren(f:Nat->Nat):SV->SV:=SV.rec (fun x=>.c (x.ren f)) (fun l=>.a (mapL (SC.ren f) l)) (fun l=>.t (mapL (SA.ren f) l)) .u
noncomputable def HB.ren(f:Nat->Nat):HB->HB:=HB.rec (fun t m l=>.cl t m (mapL (SC.ren f) l)) .it .lp .df .gn (fun es=>.mp (mapL (fun p=>(p.1.ren f,p.2.ren f)) es))
noncomputable def hatN(t:Tr HB)(i:Nat):HB:=zaa .gn (fun b=>b) (t.get i)
noncomputable def allN(g:Nat->Bool)(n:Nat):Bool:=Nat.rec true (fun i r=>bi (g i) r false) n
noncomputable def reb(t:Tr HB)(n:Nat):Tr HB:=Nat.rec .e (fun i r=>r.set i (hatN t i)) n
noncomputable def T.rb(S:T):T:=⟨S.F,⟨S.H.nx,reb S.H.t S.H.nx⟩,S.D⟩
noncomputable def T.eqr(a p q:Nat)(S S':T):Bool:=
 bi (zac S.H.nx S'.H.nx) (bi (zad (zaj (zaj a p) q) S.H.nx) (bi (oeq S.D S'.D) (bi (zaa true (fun d=>zak d a) S.D)
  (bi (Tr.eqb (fun x y=>SV.eqb (x.ren (rot a p q)) y) S.F S'.F) (allN (fun i=>HB.eqb ((hatN S.H.t i).ren (rot a p q)) (hatN S'.H.t (rot a p q i))) S.H.nx) false) false) false) false) false
noncomputable def T.eqs(a p q:Nat)(S S':T):Bool:=bi (T.eqr a (Nat.sub (Nat.sub S.H.nx a) q) q S S') true (T.eqr a p q S S')
noncomputable def drawP(K:Ks)(m:M)(ops:Array Oper)(pl:Pl):T->Option Dr:=Pl.rec
 (fun S=>some (S,[],[]))
 (fun _ o d _ r S=>ob (gpass m ops S o) fun g=>bi g (ob (valB C m S o) fun v=>r ⟨S.F.set d v,S.H,S.D⟩) (r ⟨S.F.set d .u,S.H,S.D⟩))
 (fun _ o d D _ r S=>ob (gpass m ops S o) fun g=>bi g (ob (ldOf o.op) fun q=>ob (evC m S q.2) fun y=>ob (loadC C S q.1 y) fun v=>
  ob (r ⟨S.F.set d v,S.H,S.D⟩) fun p=>some (p.1,⟨D,y,q.1,v⟩::p.2.1,p.2.2)) (r ⟨S.F.set d .u,S.H,S.D⟩))
 (fun i o _ r S=>ob (opG C K m ops S o) fun S1=>ob (r S1) fun p=>some (p.1,p.2.1,(i,S1.H)::p.2.2))
 (fun i o _ j o' _ r r' S=>ob (opG C K m ops S o) fun S1=>ob (r S1) fun p=>ob (opG C K m ops S o') fun S2=>ob (r' S2) fun p'=>
  bi (p.1.eqb p'.1) (some (p.1,lapp p.2.1 p'.2.1,(i,S1.H)::(j,S2.H)::lapp p.2.2 p'.2.2))
   (bi (T.eqs S.H.nx (Nat.sub S1.H.nx S.H.nx) (Nat.sub S2.H.nx S.H.nx) p.1 p'.1) (some (p.1.rb,lapp p.2.1 p'.2.1,(i,S1.H)::(j,S2.H)::lapp p.2.2 p'.2.2)) none)) pl
noncomputable def chk1(j:Nat)(H:Hs)(f:Fa):Bool:=bi (f.D.contains j) true (zaa false (fun v=>SV.eqb f.v v) (loadC C ⟨.e,H,none⟩ f.t f.x))
noncomputable def chk(nx0:Nat)(fs:List Fa)(sn:List (Nat×Hs)):Bool:=bi (fs.all fun f=>bi (f.x.okb nx0) (f.v.okb nx0) false) (sn.all fun p=>fs.all (chk1 C p.1 p.2)) false
def isDefr:Op->Bool
 |.defer _=>true
 |_=>false
noncomputable def noDf(ops:Array Oper):Bool:=ops.toList.all fun o=>inot (isDefr o.op)
noncomputable def drawE(K:Ks)(m:M)(ops:Array Oper)(S:T):Option T:=
 bi (or m.m.isNone (noDf ops)) (ob (planOf C ops) fun p=>ob (drawP C K m ops p.2 S) fun r=>bi (chk C S.H.nx r.2.1 r.2.2) (opsE C K m ops (ldrop ops.toList p.1) r.1) none) none
noncomputable def eRegion(_:Nat)(ops:Array Oper)(d:Bool):Ef:=fun K m S=>bi d (ob (drawE C K m ops S) kNm) (ob (opsE C K m ops ops.toList S) kNm)
noncomputable def eSeq(_ _:Code)(a b:Ef):Ef:=fun K m S=>onX (a K m S) (b K m) kRt kXt
noncomputable def eCond(c:Operand)(_ _:Code)(a b:Ef):Ef:=fun K m S=>ob (evC m S c) fun v=>ob v.asB fun t=>bi t (a K m S) (b K m S)
noncomputable def eBlock(id:Nat)(_:Code)(b:Ef):Ef:=fun K m S=>onX (b K m S) kNm kRt fun i S=>bi (zac i id) (some (.nm,S)) (some (.xt i,S))
noncomputable def FU:Nat:=nat_lit 1000000000
noncomputable def rounds(b:Ef)(f:Nat):Ef:=Nat.rec (fun _ _ _=>none) (fun _ r K m S=>onX (b K m S) (fun S'=>bi (oeq S.D S'.D) (r K m S') none) kRt kXt) f
noncomputable def eLoop(_:Code)(b:Ef):Ef:=rounds b FU
noncomputable def eRange(f:Operand)(ps:Array Nat)(asg body:Code)(_ _:Ef):Ef:=fun K m S=>
 ob m.m fun mm=>bi mm.isNone (bi S.D.isNone (ob (evC m S f) fun g=>SC.rec (motive:=fun _=>RT) (fun _=>none) (fun _ _=>none) (fun _ _=>none) none none none none none (fun _ _=>none) (fun _ _=>none) (fun _ _ _ _=>none)
  (fun k cs=>ob (K.call k (.c (.y (zam S.H.nx))::ptrs cs) ((S.H.add .df).add (.lp false (nat_lit 0) m.n ps.toList asg body S.F))) fun r=>ob (lpAt r.2 (zam S.H.nx) false) fun q=>
   (fun S':T=>Nat.rec (some (.nm,S')) (fun j _=>Nat.rec (some (.rt,S')) (fun id _=>some (.xt id,S')) j) q.1) ⟨S.F,r.2.upd (zam S.H.nx) .gn,some S.H.nx⟩) (fun _=>none) (fun _=>none) (fun _ _ _ _=>none) g) none) none
noncomputable def eExit(id:Nat):Ef:=fun _ _ S=>some (.xt id,S)
noncomputable def eScope(_:Code)(b:Ef):Ef:=fun K m S=>bi m.m.isNone (b K m S) none
noncomputable def eRet:Ef:=fun _ _ S=>some (.rt,S)
noncomputable def eNone:Ef:=fun _ _ _=>none
noncomputable def exec(c:Code):Ef:=Code.rec (motive:=fun _=>Ef) eSkip (eRegion C) eSeq eCond eBlock eLoop eRange eExit eScope (fun _=>eSkip) (fun _=>eNone) eRet (fun _=>eNone) c
noncomputable def hasRF(c:Code):Bool:=Code.rec false (fun _ _ _=>false) (fun _ _ a b=>or a b) (fun _ _ _ a b=>or a b) (fun _ _ a=>a) (fun _ a=>a) (fun _ _ _ _ _ _=>true) (fun _=>false) (fun _ a=>a) (fun _=>false) (fun _=>false) false (fun _=>false) c
noncomputable def isY:SV->Bool:=SV.rec (SC.rec (fun _=>false) (fun _ _=>false) (fun _ _=>false) false false false false false (fun _ _=>false) (fun _ _=>false) (fun _ _ _ _=>false) (fun _ _=>false) (fun _=>true) (fun _=>false) (fun _ _ _ _=>false)) (fun _=>false) (fun _=>false) false
noncomputable def anyY(l:List SV):Bool:=zai false (fun x _ r=>bi (isY x) true r) l
noncomputable def resE(m:M)(S:T)(r:ResultVar):Option SA:=ResultVar.rec (fun t=>ob (evO m S (.tmp t)) SV.sa) (fun a t=>ob (opLoad C m S t (.tmp a)) SV.sa) r
noncomputable def resL(m:M)(S:T)(l:List ResultVar):Option (List SA):=zai (some []) (fun x _ r=>ob (resE C m S x) fun v=>ob r fun q=>some (v::q)) l
noncomputable def oneV(l:List SA):SV:=zai (.t []) (fun x xs _=>bi xs.isEmpty x.sv (.t (x::xs))) l
noncomputable def HB.isDf:HB->Bool:=HB.rec (fun _ _ _=>false) (fun _ _ _=>false) (fun _ _ _ _ _ _ _=>false) true false (fun _=>false)
noncomputable def undf(S:T):Option T:=zaa (some S) (fun d=>ob (S.H.t.get d) fun b=>bi b.isDf (some ⟨S.F,S.H.upd d .gn,none⟩) none) S.D
noncomputable def mdF(c:Code)(vs:List SV):Option (Option Nat):=bi (hasRF c) (some none) (bi (anyY vs) (some none) none)
noncomputable def runF(K:Ks)(fn:Func)(c:Code)(vs:List SV)(H:Hs):Option (SV×Hs):=
 onX' (exec C c K ⟨fn.ntmps,mdF c vs⟩ ⟨setL .e (nat_lit 0) vs,H,none⟩) fun S=>
  bi (or S.D.isNone (mdF c vs).isSome) (ob (undf S) fun S=>ob (resL C ⟨fn.ntmps,none⟩ S fn.results.toList) fun l=>some (oneV l,S.H)) none
where
 onX' (r:RT) (k:T->Option (SV×Hs)):Option (SV×Hs):=zaa none (fun p=>Ex.rec (k p.2) (k p.2) (fun _=>none) p.1) r
noncomputable def bodyE(K:Ks)(k:Nat)(vs:List SV)(H:Hs):Option (SV×Hs):=
 ob (C.P.funcs[k]?) fun fn=>ob fn.body fun c=>bi (zad (abd vs) fn.ntmps) (runF C K fn c vs H) none
noncomputable def SC.pl:SC->Bool:=SC.rec (fun _=>true) (fun _ _=>true) (fun _ _=>true) true true true true true (fun _ _=>false) (fun _ _=>true) (fun _ _ _ _=>false) (fun _ l=>l.isEmpty) (fun _=>false) (fun _=>false) (fun _ _ _ _=>false)
noncomputable def plL(l:List SC):Bool:=zai true (fun x _ r=>bi x.pl r false) l
noncomputable def SA.pl:SA->Bool:=SA.rec SC.pl plL
noncomputable def plT(l:List SA):Bool:=zai true (fun x _ r=>bi x.pl r false) l
noncomputable def SV.pl:SV->Bool:=SV.rec SC.pl plL plT true
noncomputable def plV(l:List SV):Bool:=zai true (fun x _ r=>bi x.pl r false) l
noncomputable def H0:Hs:=⟨nat_lit 0,.e⟩
noncomputable def callK(K:Ks)(k:Nat)(vs:List SV)(H:Hs):Option (SV×Hs):=
 zaa (bi (C.pure k) (bi (plV vs) (ob (bodyE C K k vs H0) fun r=>bi r.1.pl (some (r.1,H)) none) none) (bodyE C K k vs H)) (fun f=>f vs H) (C.X k)
noncomputable def lev(n:Nat):Ks:=Nat.rec ⟨fun _ _ _=>none,fun _ _ _=>none⟩ (fun _ K=>⟨callK C K,fun m c S=>exec C c K m S⟩) n
end
open Go.Wk
open Bool renaming eq_iff_iff -> zau
open List renaming length_map -> zaf, map_append -> zav, map_congr_left -> zae
open Nat renaming beq -> zac, ble -> zad, lt_of_lt_of_le -> zao, lt_succ_self -> zas, succ -> zam
open Option renaming rec -> zaa
open UInt8 renaming ofNat -> zan
theorem aaf{α:Type}(c:Bool)(x y:α):bi c x y=if c=true then x else y:=by cases c<;>rfl
theorem aab{α:Type}{c:Bool}{x:Option α}{v:α}(h:bi c x none=some v):c=true/\x=some v:=by
 cases c with
 |false=>cases h
 |true=>exact⟨rfl,h⟩
theorem aaa{α β:Type}{x:Option α}{f:α->Option β}{v:β}(h:ob x f=some v):∃a,x=some a/\f a=some v:=by
 cases x with
 |none=>cases h
 |some a=>exact⟨a,rfl,h⟩
theorem aad(a b:Nat):(zac a b=true)=(a=b):=propext ⟨Nat.eq_of_beq_eq_true,fun h=>by subst h;exact Nat.beq_refl a⟩
theorem aac(a b:Nat):(zad a b=true)=(a<=b):=by simp
def Pk.val:Pk->Nat
 |.h=>0
 |.o p=>2*p.val+2
 |.i p=>2*p.val+1
theorem pkF_val:∀(f k:Nat),k<f->(pkF f k).val=k
 |0,k,h=>by omega
 |f+1,k,h=>by
  show(bi (zac k 0) Pk.h (bi (zac (k%2) 1) (Pk.i (pkF f (k/2))) (Pk.o (pkF f (k/2-1))))).val=k
  simp only [aaf,aad];by_cases h0:k=0
  ·rw [if_pos h0,h0];rfl
  ·rw [if_neg h0];by_cases h1:k%2=1
   ·rw [if_pos h1];show 2*(pkF f (k/2)).val+1=k;rw [pkF_val f _ (by omega)];omega
   ·rw [if_neg h1];show 2*(pkF f (k/2-1)).val+2=k;rw [pkF_val f _ (by omega)];omega
theorem pk_val(k:Nat):(pk k).val=k:=pkF_val (k+1) k (zas k)
theorem pk_inj{k k':Nat}(h:pk k=pk k'):k=k':=by rw [<-pk_val k,h,pk_val]
theorem abx{α:Type}(x:α):∀(p:Pk) (t:Tr α),Tr.getP p (Tr.setP x p t)=some x
 |.h,t=>rfl
 |.o p,t=>abx x p t.R
 |.i p,t=>abx x p t.L
theorem get_setP_ne{α:Type}(x:α):∀(p q:Pk) (t:Tr α),q≠p->Tr.getP q (Tr.setP x p t)=Tr.getP q t
 |.h,.h,t,h=>absurd rfl h
 |.h,.o q,t,_=>rfl
 |.h,.i q,t,_=>rfl
 |.o p,.h,t,_=>rfl
 |.o p,.o q,t,h=>get_setP_ne x p q t.R fun e=>h (by rw [e])
 |.o p,.i q,t,_=>rfl
 |.i p,.h,t,_=>rfl
 |.i p,.o q,t,_=>rfl
 |.i p,.i q,t,h=>get_setP_ne x p q t.L fun e=>h (by rw [e])
theorem Tr.get_set{α:Type}(t:Tr α)(k k':Nat)(x:α):(t.set k x).get k'=if k'=k then some x else t.get k':=by
 by_cases h:k'=k
 ·subst h;rw [if_pos rfl];exact abx x _ _
 ·rw [if_neg h];exact get_setP_ne x _ _ _ fun e=>h (pk_inj e)
theorem getP_e{α:Type}:∀p:Pk,Tr.getP p (.e:Tr α)=none
 |.h=>rfl
 |.o p=>getP_e p
 |.i p=>getP_e p
theorem Tr.get_e{α:Type}(k:Nat):(Tr.e:Tr α).get k=none:=getP_e _
section
variable {α : Type}
theorem lget_eq:∀(l:List α) (i:Nat),lget l i=l[i]?
 |[],i=>by simp [lget]
 |x::l,0=>rfl
 |x::l,i+1=>by
  show lget l i=_;rw [lget_eq l i];simp
theorem ldrop_eq:∀(l:List α) (i:Nat),ldrop l i=l.drop i
 |[],i=>by simp [ldrop]
 |x::l,0=>rfl
 |x::l,i+1=>by
  show ldrop l i=_;rw [ldrop_eq l i];simp
theorem abc:∀(l:List α) (i:Nat),ltake l i=l.take i
 |[],i=>by simp [ltake]
 |x::l,0=>rfl
 |x::l,i+1=>by
  show x::ltake l i=_;rw [abc l i];simp
theorem aag:∀(l:List α),abd l=l.length
 |[]=>rfl
 |x::l=>by
  show zam (abd l)=_;rw [aag l];rfl
theorem abf:∀(l r:List α),lapp l r=l++r
 |[],r=>rfl
 |x::l,r=>by
  show x::lapp l r=_;rw [abf l r];rfl
theorem lput_nil:∀(xs:List α) (k:Nat),lput xs k []=xs
 |[],k=>rfl
 |x::xs,0=>by
  show x::lput xs 0 []=_;rw [lput_nil xs 0]
 |x::xs,k+1=>by
  show x::lput xs k []=_;rw [lput_nil xs k]
theorem lput_eq:∀(xs:List α) (k:Nat) (vs:List α),k+vs.length<=xs.length->lput xs k vs=xs.take k++vs++xs.drop (k+vs.length)
 |xs,k,[],_=>by rw [lput_nil];simp
 |[],k,v::vs,h=>by simp at h
 |x::xs,0,v::vs,h=>by
  show v::lput xs 0 vs=_;rw [lput_eq xs 0 vs (by simp at h⊢;omega)];simp
 |x::xs,k+1,v::vs,h=>by
  show x::lput xs k (v::vs)=_;rw [lput_eq xs k (v::vs) (by simp at h⊢;omega)];simp only [List.take_succ_cons,List.cons_append,List.length_cons];rw [show k+1+(vs.length+1)=(k+(vs.length+1))+1 by omega,List.drop_succ_cons]
theorem lput_len(xs:List α)(k:Nat)(vs:List α)(h:k+vs.length<=xs.length):(lput xs k vs).length=xs.length:=by
 rw [lput_eq xs k vs h];simp;omega
theorem lput_mem(xs:List α)(k:Nat)(vs:List α)(h:k+vs.length<=xs.length)(p:α->Prop)(h1:∀x∈xs,p x)(h2:∀x∈vs,p x):∀x∈lput xs k vs,p x:=by
 rw [lput_eq xs k vs h];intro x hx;simp only [List.mem_append]at hx;rcases hx with(hx|hx)|hx
 ·exact h1 x (List.mem_of_mem_take hx)
 ·exact h2 x hx
 ·exact h1 x (List.mem_of_mem_drop hx)
end
theorem aai:∀(l x:Nat),(dec l x).length=l
 |0,x=>rfl
 |l+1,x=>by simp [dec,aai l]
theorem dec_enc:∀l:List UInt8,dec l.length (enc l)=l
 |[]=>rfl
 |c::l=>by
  have h:c.toNat<256:=c.toNat_lt;have h1:(c.toNat+256*enc l)%256=c.toNat:=by omega
  have h2:(c.toNat+256*enc l)/256=enc l:=by omega
  simp only [List.length_cons,dec,enc,h1,h2];rw [dec_enc l];simp
theorem dec_drop:∀(i l x:Nat),(dec l x).drop i=dec (l-i) (x/256^i)
 |0,l,x=>by simp
 |i+1,0,x=>by simp [dec]
 |i+1,l+1,x=>by
  simp only [dec,List.drop_succ_cons];rw [dec_drop i l,Nat.div_div_eq_div_mul,Nat.pow_succ',Nat.add_sub_add_right]
theorem dec_take:∀(i l x:Nat),i<=l->(dec l x).take i=dec i x
 |0,l,x,_=>by simp [dec]
 |i+1,0,x,h=>by omega
 |i+1,l+1,x,h=>by
  simp only [dec,List.take_succ_cons];rw [dec_take i l _ (by omega)]
theorem dec_get(i l x:Nat)(h:i<l):(dec l x)[i]? =some (zan (x/256^i%256)):=by
 have h1:(dec l x)[i]? =((dec l x).drop i)[0]? :=by simp
 rw [h1,dec_drop];obtain⟨m,hm⟩:∃m,l-i=m+1:=⟨l-i-1,by omega⟩
 rw [hm];rfl
theorem dec_mod:∀(l x:Nat),dec l (x%256^l)=dec l x
 |0,x=>rfl
 |l+1,x=>by
  have h1:x%256^(l+1)%256=x%256:=Nat.mod_mod_of_dvd x (Nat.pow_succ'▸Nat.dvd_mul_right 256 (256^l));have h2:x%256^(l+1)/256=x/256%256^l:=by rw [Nat.pow_succ',Nat.mod_mul_right_div_self]
  simp only [dec,h1,h2];rw [dec_mod l]
theorem dec_app:∀(a x b y:Nat),dec a x++dec b y=dec (a+b) (x%256^a+256^a*y)
 |0,x,b,y=>by simp [dec,Nat.mod_one]
 |a+1,x,b,y=>by
  have e:a+1+b=(a+b)+1:=by omega
  have hp:256^(a+1)*y=256*(256^a*y):=by rw [Nat.pow_succ',Nat.mul_assoc]
  have h1:(x%256^(a+1)+256^(a+1)*y)%256=x%256:=by
   rw [hp,Nat.add_mul_mod_self_left];exact Nat.mod_mod_of_dvd x (Nat.pow_succ'▸Nat.dvd_mul_right 256 (256^a))
  have h2:(x%256^(a+1)+256^(a+1)*y)/256=x/256%256^a+256^a*y:=by
   rw [hp,Nat.add_mul_div_left _ _ (by omega),Nat.pow_succ',Nat.mod_mul_right_div_self]
  rw [e];simp only [dec,h1,h2,List.cons_append];rw [dec_app a]
theorem enc_dec:∀(l x:Nat),enc (dec l x)=x%256^l
 |0,x=>by simp [dec,enc,Nat.mod_one]
 |l+1,x=>by
  simp only [dec,enc];rw [enc_dec l,Nat.pow_succ',Nat.mod_mul];simp
theorem seq_eq(l x m y:Nat):seq l x m y=decide (dec l x=dec m y):=by
 unfold seq;rw [aaf];by_cases h:l=m
 ·subst h;rw [if_pos (by simp)]
  have:(dec l x=dec l y)↔x%256^l=y%256^l:=by
   constructor
   ·intro h;rw [<-enc_dec,<-enc_dec,h]
   ·intro h;rw [<-dec_mod l x,<-dec_mod l y,h]
  rw [zau,decide_eq_true_iff,this,aad];rfl
 ·rw [if_neg (by rw [aad];exact h)]
  symm
  rw [decide_eq_false_iff_not];intro e;exact h (by rw [<-aai l x,e,aai])
theorem bytes_lt(c:Nat)(h:c<256):(zan c).toNat=c:=by simp;omega
theorem kn_inj{k k':IntKind}(h:zac (kn k) (kn k')=true):k=k':=by cases k<;>cases k'<;>first|rfl|(revert h;decide)
theorem ures_eq(k:IntKind)(m:Nat):ures k m=if kh k<=m then Int.negSucc (km k-1-m)else Int.ofNat m:=by
 unfold ures;rw [aaf];simp only [aac];rfl
theorem km_eq(k:IntKind):((km k:Nat):Int)=2^k.bits:=by cases k<;>rfl
theorem km_pos(k:IntKind):0<km k:=by cases k<;>simp [km]
theorem abk(k:IntKind)(a:Nat):ures k (a%km k)=k.wrap (a:Int):=by
 rw [ures_eq];cases k<;>simp only [IntKind.wrap,IntKind.bits,IntKind.signed,km,kh,Int.ofNat_eq_natCast,Int.negSucc_eq]<;>simp<;>omega
theorem abr(k:IntKind)(x:Int):k.wrap x%(km k:Int)=x%(km k:Int):=by
 cases k<;>simp only [IntKind.wrap,IntKind.bits,IntKind.signed,km]<;>simp<;>omega
theorem abl{k:IntKind}{x y:Int}(h:x%(km k:Int)=y%(km k:Int)):k.wrap x=k.wrap y:=by
 have e:(2:Int)^k.bits=(km k:Int):=(km_eq k).symm;unfold IntKind.wrap;rw [e,h]
theorem wrap_small{k:IntKind}{n:Nat}(h:n<kh k):k.wrap (n:Int)=(n:Int):=by
 cases k<;>simp only [IntKind.wrap,IntKind.bits,IntKind.signed,kh]at h⊢<;>simp<;>omega
theorem wrap_add(k:IntKind)(a c:Nat):k.wrap (((a+c)%km k:Nat):Int)=k.wrap (k.wrap a+k.wrap c):=by
 apply abl
 rw [Int.add_emod (k.wrap a),abr,abr,<-Int.add_emod];rw [Int.natCast_emod,Int.emod_emod_of_dvd _ (Int.dvd_refl _)];simp
theorem wrap_mul(k:IntKind)(a c:Nat):k.wrap (((a*c)%km k:Nat):Int)=k.wrap (k.wrap a*k.wrap c):=by
 apply abl
 rw [Int.mul_emod (k.wrap a),abr,abr,<-Int.mul_emod];rw [Int.natCast_emod,Int.emod_emod_of_dvd _ (Int.dvd_refl _)];simp
theorem wrap_mulN(k:IntKind)(a c:Nat):k.wrap (((a*c)%km k:Nat):Int)=k.wrap (k.wrap a*(c:Int)):=by
 apply abl
 rw [Int.mul_emod (k.wrap a),abr,<-Int.mul_emod];rw [Int.natCast_emod,Int.emod_emod_of_dvd _ (Int.dvd_refl _)];simp
theorem wrap_sub(k:IntKind)(a c:Nat):k.wrap (((a+(km k-c%km k))%km k:Nat):Int)=k.wrap (k.wrap a-k.wrap c):=by
 apply abl
 rw [Int.sub_emod (k.wrap a),abr,abr,<-Int.sub_emod];have h:=Nat.mod_lt c (km_pos k);cases k<;>simp only [km]at h⊢<;>omega
theorem ilt_eq(k:IntKind)(a c:Nat):ilt k a c=decide (k.wrap a<k.wrap c):=by
 rw [zau,decide_eq_true_iff];show zad ((a+ko k)%km k+1) ((c+ko k)%km k)=true↔_;rw [aac];cases k<;>simp only [IntKind.wrap,IntKind.bits,IntKind.signed,km,ko]<;>simp<;>omega
theorem ieqN_eq(k:IntKind)(a c:Nat):ieqN k a c=decide (k.wrap a=k.wrap c):=by
 rw [zau,decide_eq_true_iff];show zac (a%km k) (c%km k)=true↔_;rw [aad];cases k<;>simp only [IntKind.wrap,IntKind.bits,IntKind.signed,km]<;>simp<;>omega
theorem conI_eq(k k':IntKind)(a:Nat):k'.wrap (conI k k' a:Int)=k'.wrap (k.wrap a):=by
 show k'.wrap ((bi (zad (kh k) (a%km k)) ((a%km k+(km k'*km k-km k))%km k') ((a%km k)%km k'):Nat):Int)=_;rw [aaf];apply abl
 simp only [aac];have h:=Nat.mod_lt a (km_pos k);have hw:k.wrap a=if kh k<=a%km k then((a%km k:Nat):Int)-km k else((a%km k:Nat):Int):=by
  rw [<-abk,ures_eq];split
  ·rw [Int.negSucc_eq];omega
  ·rfl
 rw [hw];generalize a%km k=r at*;split
 ·have hp:km k<=km k'*km k:=Nat.le_mul_of_pos_left _ (km_pos k');have e:((r+(km k'*km k-km k):Nat):Int)=((r:Int)-km k)+(km k')*(km k:Int):=by rw [Int.natCast_add,Int.natCast_sub hp,Int.natCast_mul];omega
  rw [Int.natCast_emod,Int.emod_emod_of_dvd _ (Int.dvd_refl _),e,Int.add_mul_emod_self_left]
 ·rw [Int.natCast_emod,Int.emod_emod_of_dvd _ (Int.dvd_refl _)]
theorem ieq_eq(a b:Int):ieq a b=decide (a=b):=by
 rw [zau,decide_eq_true_iff];cases a with
 |ofNat a=>cases b with
  |ofNat b=>show zac a b=true↔_;rw [aad];simp only [Int.ofNat_eq_natCast];omega
  |negSucc b=>show false=true↔_;simp only [Int.ofNat_eq_natCast,Int.negSucc_eq,Bool.false_eq_true,false_iff];omega
 |negSucc a=>cases b with
  |ofNat b=>show false=true↔_;simp only [Int.ofNat_eq_natCast,Int.negSucc_eq,Bool.false_eq_true,false_iff];omega
  |negSucc b=>show zac a b=true↔_;rw [aad];simp only [Int.negSucc_eq];omega
theorem resI_lt(k:IntKind)(n:Int):resI k n<km k:=by
 cases n with
 |ofNat a=>exact Nat.mod_lt a (km_pos k)
 |negSucc a=>
  show km k-1-a%km k<km k
  have:=km_pos k
  omega
theorem inot_eq(b:Bool):inot b= !b:=by cases b<;>rfl
abbrev En:=Nat->Nat×Nat
def Cp.re(E:En)(j:Nat):Cp->Nat
 |.k c=>c
 |.r off=>(E j).2-off
def SC.re(E:En):SC->Value
 |.b x=>.bool x
 |.i k n=>.int k (k.wrap (n:Int))
 |.s l x=>str (dec l x)
 |.np=>.pointer none
 |.ns=>.slice none 0 0
 |.nf=>.nilFunc
 |.ni=>.nilIface
 |.nm=>.map none
 |.p j off=>.pointer (some ⟨(E j).1,off,none⟩)
 |.g j off=>.pointer (some ⟨j,off,none⟩)
 |.sl j base n c=>.slice (some ⟨(E j).1,base,none⟩) n (c.re E j)
 |.fn f cs=>.func (.func f) #[] (cs.map fun j=>Value.pointer (some ⟨(E j).1,0,none⟩)).toArray
 |.y j=>.func (.yield (E j).1) #[] #[]
 |.m j=>.map (some (E j).1)
 |.z j base dd off=>.slice (some ⟨(E j).1,if(E j).2-off=0 then base else base+dd,none⟩) 0 ((E j).2-off)
def SA.re(E:En):SA->Value
 |.c x=>x.re E
 |.a l=>.agg (l.map (SC.re E)).toArray
def SV.re(E:En):SV->Value
 |.c x=>x.re E
 |.a l=>.agg (l.map (SC.re E)).toArray
 |.t l=>.tuple (l.map (SA.re E)).toArray
 |.u=>undef
def SC.ok(n:Nat):SC->Prop
 |.p j _=>j<n
 |.sl j _ _ _=>j<n
 |.fn _ cs=>∀j∈cs,j<n
 |.y j=>j<n
 |.m j=>j<n
 |.z j _ _ _=>j<n
 |_=>True
def SA.ok(n:Nat):SA->Prop
 |.c x=>x.ok n
 |.a l=>∀x∈l,x.ok n
def SV.ok(n:Nat):SV->Prop
 |.c x=>x.ok n
 |.a l=>∀x∈l,x.ok n
 |.t l=>∀x∈l,x.ok n
 |.u=>True
def Ag(n:Nat)(E E':En):Prop:=∀i,i<n->E' i=E i
theorem Ag.refl(n:Nat)(E:En):Ag n E E:=fun _ _=>rfl
theorem Ag.trans{n n':Nat}{E E' E'':En}(h:Ag n E E')(h':Ag n' E' E'')(hn:n<=n'):Ag n E E'':=fun i hi=>(h' i (by omega)).trans (h i hi)
theorem SC.ext{n:Nat}{E E':En}(h:Ag n E E'){x:SC}(hx:x.ok n):x.re E'=x.re E:=by
 cases x<;>simp only [SC.re,SC.ok]at hx⊢
 ·rw [h _ hx]
 ·rename_i i base m c;rw [h _ hx];cases c<;>simp [Cp.re,h _ hx]
 ·rename_i f cs;congr 2
  exact zae fun i hi=>by rw [h i (hx i hi)]
 ·rw [h _ hx]
 ·rw [h _ hx]
 ·rw [h _ hx]
theorem scs_ext{n:Nat}{E E':En}(h:Ag n E E'){l:List SC}(hx:∀x∈l,x.ok n):l.map (SC.re E')=l.map (SC.re E):=zae fun x hm=>SC.ext h (hx x hm)
theorem SA.ext{n:Nat}{E E':En}(h:Ag n E E'){x:SA}(hx:x.ok n):x.re E'=x.re E:=by
 cases x with
 |c x=>exact SC.ext h hx
 |a l=>simp only [SA.re];rw [scs_ext h hx]
theorem SV.ext{n:Nat}{E E':En}(h:Ag n E E'){x:SV}(hx:x.ok n):x.re E'=x.re E:=by
 cases x with
 |c x=>exact SC.ext h hx
 |a l=>simp only [SV.re];rw [scs_ext h hx]
 |t l=>simp only [SV.re];rw [zae fun x hm=>SA.ext h (hx x hm)]
 |u=>rfl
theorem SC.up{n n':Nat}(h:n<=n'){x:SC}(hx:x.ok n):x.ok n':=by
 cases x<;>simp only [SC.ok]at hx⊢<;>first|omega|exact fun i hi=>zao (hx i hi) h
theorem SA.up{n n':Nat}(h:n<=n'){x:SA}(hx:x.ok n):x.ok n':=by
 cases x with
 |c x=>exact SC.up h hx
 |a l=>exact fun y hy=>SC.up h (hx y hy)
theorem SV.up{n n':Nat}(h:n<=n'){x:SV}(hx:x.ok n):x.ok n':=by
 cases x with
 |c x=>exact SC.up h hx
 |a l=>exact fun y hy=>SC.up h (hx y hy)
 |t l=>exact fun y hy=>SA.up h (hx y hy)
 |u=>trivial
theorem SC.one(E:En)(x:SC):(x.re E).oneCell'=true:=by cases x<;>rfl
theorem scs_one(E:En)(l:List SC):∀v∈l.map (SC.re E),v.oneCell'=true:=by
 intro v hv;obtain⟨x,_,rfl⟩:=List.mem_map.1 hv;exact SC.one E x
theorem SV.cells_r{E:En}{v:SV}{l:List SC}(h:v.cells=some l):(v.re E).cells=(l.map (SC.re E)).toArray:=by
 cases v with
 |c x=>
  cases h
  show(x.re E).cells=_
  cases x<;>rfl
 |a l'=>cases h;rfl
 |t l'=>cases h
 |u=>cases h
theorem SV.cells_ok{n:Nat}{v:SV}{l:List SC}(h:v.cells=some l)(hv:v.ok n):∀x∈l,x.ok n:=by
 cases v with
 |c x=>cases h;intro y hy;simp at hy;subst hy;exact hv
 |a l'=>cases h;exact hv
 |t l'=>cases h
 |u=>cases h
theorem SV.sa_r{E:En}{v:SV}{a:SA}(h:v.sa=some a):a.re E=v.re E:=by
 cases v<;>first|(cases h;rfl)|cases h
theorem SV.sa_ok{n:Nat}{v:SV}{a:SA}(h:v.sa=some a)(hv:v.ok n):a.ok n:=by
 cases v<;>first|(cases h;exact hv)|cases h
theorem SA.sv_r(E:En)(a:SA):a.sv.re E=a.re E:=by cases a<;>rfl
theorem SA.sv_ok{n:Nat}{a:SA}(h:a.ok n):a.sv.ok n:=by cases a<;>exact h
theorem cvc_ok{v:Value}{x:SC}(h:cvc v=some x)(E:En)(n:Nat):x.re E=v/\x.ok n:=by
 unfold cvc at h;split at h
 ·cases h;exact⟨rfl,trivial⟩
 ·obtain⟨h1,h⟩:=aab h;cases h
  rename_i k i;rw [ieq_eq,decide_eq_true_iff]at h1;refine⟨?_,trivial⟩
  simp only [SC.re];rw [<-abk,Nat.mod_eq_of_lt (resI_lt k i),h1]
 ·cases h
  refine⟨?_,trivial⟩
  rename_i s;simp only [SC.re];rw [dec_enc];rfl
 ·cases h;exact⟨rfl,trivial⟩
 ·cases h;exact⟨rfl,trivial⟩
 ·cases h;exact⟨rfl,trivial⟩
 ·cases h;exact⟨rfl,trivial⟩
 ·cases h;exact⟨rfl,trivial⟩
 ·cases h
theorem cvs_ok:∀{vs:List Value} {l:List SC},cvs vs=some l->∀(E:En) (n:Nat),l.map (SC.re E)=vs/\∀x∈l,x.ok n
 |[],l,h,E,n=>by cases h;simp
 |v::vs,l,h,E,n=>by
  obtain⟨x,h1,h⟩:=aaa h;obtain⟨xs,h2,h⟩:=aaa h;cases h
  obtain⟨h3,h4⟩:=cvc_ok h1 E n;obtain⟨h5,h6⟩:=cvs_ok h2 E n;refine⟨by simp [h3,h5], ?_⟩
  intro y hy;rcases List.mem_cons.1 hy with rfl|hy
  ·exact h4
  ·exact h6 y hy
theorem cv_ok{v:Value}{x:SV}(h:cv v=some x)(E:En)(n:Nat):x.re E=v/\x.ok n:=by
 unfold cv at h;split at h
 ·rename_i cs;obtain⟨xs,h1,h⟩:=aaa h;cases h
  obtain⟨h2,h3⟩:=cvs_ok h1 E n;exact⟨by simp only [SV.re];rw [h2],h3⟩
 ·obtain⟨y,h1,h⟩:=aaa h;cases h
  exact cvc_ok h1 E n
theorem SC.v_r{x:SC}{v:Value}(h:x.v=some v)(E:En):x.re E=v:=by
 cases x with
 |i k a=>
  have e:Value.int k (ures k (a%km k))=v:=Option.some.inj h;rw [<-e,abk];rfl
 |_=>first|(cases h;rfl)|cases h
theorem vcs_r:∀{l:List SC} {vs:List Value},vcs l=some vs->∀E:En,l.map (SC.re E)=vs
 |[],vs,h,E=>by cases h;rfl
 |x::l,vs,h,E=>by
  obtain⟨v,h1,h⟩:=aaa h;obtain⟨ws,h2,h⟩:=aaa h;cases h
  simp [SC.v_r h1 E,vcs_r h2 E]
theorem SV.v_r{x:SV}{v:Value}(h:x.v=some v)(E:En):x.re E=v:=by
 cases x with
 |c x=>exact SC.v_r h E
 |a l=>
  obtain⟨vs,h1,h⟩:=aaa h;cases h
  simp only [SV.re];rw [vcs_r h1 E]
 |t l=>cases h
 |u=>cases h
noncomputable def tv(F:Tr SV)(t:Nat):SV:=(F.get t).getD .u
noncomputable def rF(E:En)(F:Tr SV):Nat->Value:=fun t=>(tv F t).re E
def Fok(n:Nat)(F:Tr SV):Prop:=∀t v,F.get t=some v->v.ok n
theorem tv_ok{n:Nat}{F:Tr SV}(h:Fok n F)(t:Nat):(tv F t).ok n:=by
 unfold tv;cases hg:F.get t with
 |none=>trivial
 |some v=>exact h t v hg
theorem tv_rec(F:Tr SV)(t:Nat):(zaa .u (fun v=>v) (F.get t):SV)=tv F t:=by
 unfold tv;cases F.get t<;>rfl
theorem rF_set(E:En)(F:Tr SV)(d:Nat)(v:SV):rF E (F.set d v)=Wk.upd (rF E F) d (v.re E):=by
 funext t
 unfold rF tv Wk.upd;rw [Tr.get_set];by_cases h:t=d
 ·subst h;simp
 ·rw [if_neg h]
  have:zac t d=false:=by
   cases hx:zac t d
   ·rfl
   ·exact absurd (Nat.eq_of_beq_eq_true hx) h
  simp [this]
theorem Fok.set{n:Nat}{F:Tr SV}(h:Fok n F)(d:Nat){v:SV}(hv:v.ok n):Fok n (F.set d v):=by
 intro t x hx;rw [Tr.get_set]at hx;split at hx
 ·cases hx;exact hv
 ·exact h t x hx
theorem Fok.up{n n':Nat}(h:n<=n'){F:Tr SV}(hF:Fok n F):Fok n' F:=fun t v hv=>SV.up h (hF t v hv)
theorem rF_ext{n:Nat}{E E':En}(h:Ag n E E'){F:Tr SV}(hF:Fok n F):rF E' F=rF E F:=by
 funext t
 exact SV.ext h (tv_ok hF t)
def Mo.ok(md:Mo)(cap len size:Nat)(fz:Nat×Nat):Prop:=
 match md with
 |.ex=>size=len/\fz=(0,0)
 |.rw sz m=>len=m*sz/\m<=cap/\cap<=maxLen/\size=cap*sz/\fz=(0,0)
 |.bw=>len<=cap/\cap<=size/\size<=fz.1
 |.fb=>size=len/\size<=fz.1
theorem Mo.free{md:Mo}{cap len size:Nat}{fz:Nat×Nat}(h:md.ok cap len size fz):fz=(0,0)\/size<=fz.1:=by
 cases md with
 |ex=>exact .inl h.2
 |fb=>exact .inr h.2
 |rw sz m=>exact .inl h.2.2.2.2
 |bw=>exact .inr h.2.2
def cres(b cap t:Nat)(md:Mo)(xs:List Value):Res:=
 ⟨some b,fun o=>∃cur t' fz,o=some (.cells cur t' fz)/\(md=.bw\/t'=t)/\xs.length<=cur.size/\cur.toList.take xs.length=xs/\md.ok cap xs.length cur.size fz⟩
def lpres(b:Nat)(busy:Bool)(j k:Nat)(ps:List Nat)(asg body:Code)(F:Nat->Value):Res:=
 ⟨some b,fun o=>∃rc:Loop,rc.assign=asg/\rc.body=body/\rc.params=ps.toArray/\rc.tmps=(fr ⟨k,[],some none⟩ F).tmps/\
  (match busy with
  |false=>o=some (.loop {rc with state:=lst j,pending:=jmp j})
  |true=>∃pd,o=some (.loop {rc with state:=.busy,pending:=pd}))⟩
def mpres(b:Nat)(l:List (Value×Value)):Res:=⟨some b,fun o=>∃es clock,o=some (.map es clock)/\es.toList.map (fun e=>(e.key,e.val))=l⟩
noncomputable def resOf(E:En)(i:Nat):HB->Res
 |.cl t md xs=>cres (E i).1 (E i).2 t md (xs.map (SC.re E))
 |.it l x pos=>sit (E i).1 (dec l x) pos
 |.lp busy j k ps asg body F=>lpres (E i).1 busy j k ps asg body (rF E F)
 |.df=>dfr (E i).1
 |.gn=>⟨none,fun _=>True⟩
 |.mp es=>mpres (E i).1 (es.map fun p=>(p.1.re E,p.2.re E))
def HB.ok(n:Nat):HB->Prop
 |.cl _ _ xs=>∀x∈xs,x.ok n
 |.lp _ _ _ _ _ _ F=>Fok n F
 |.mp es=>∀p∈es,p.1.ok n/\p.2.ok n
 |_=>True
theorem HB.up{n n':Nat}(h:n<=n'){b:HB}(hb:b.ok n):b.ok n':=by
 cases b with
 |cl t md xs=>exact fun x hx=>SC.up h (hb x hx)
 |lp busy j k ps asg body F=>exact Fok.up h hb
 |mp es=>exact fun p hp=>⟨SC.up h (hb p hp).1,SC.up h (hb p hp).2⟩
 |it l x pos=>trivial
 |df=>trivial
 |gn=>trivial
theorem resOf_ext{n:Nat}{E E':En}(h:Ag n E E'){i:Nat}(hi:i<n){b:HB}(hb:b.ok n):resOf E' i b=resOf E i b:=by
 cases b with
 |cl t md xs=>simp only [resOf];rw [h i hi,scs_ext h hb]
 |lp busy j k ps asg body F=>simp only [resOf];rw [h i hi,rF_ext h hb]
 |mp es=>
  simp only [resOf];rw [h i hi];congr 1
  exact zae fun p hp=>by rw [SC.ext h (hb p hp).1,SC.ext h (hb p hp).2]
 |it l x pos=>simp only [resOf];rw [h i hi]
 |df=>simp only [resOf];rw [h i hi]
 |gn=>rfl
noncomputable def hat(H:Hs)(i:Nat):HB:=(H.t.get i).getD .gn
noncomputable def aam(E:En)(H:Hs):List Res:=(List.range H.nx).map fun i=>resOf E i (hat H i)
structure Inv (w0:World) (E:En) (H:Hs) (w:World):Prop where
 hp:Hp w0 [] (aam E H) w
 lt:∀i b,H.t.get i=some b->i<H.nx
 ok:∀i b,H.t.get i=some b->b.ok H.nx
section
variable {w0 w : World} {E : En} {H : Hs}
theorem resLs_at{i:Nat}(hi:i<H.nx):(aam E H)[i]? =some (resOf E i (hat H i)):=by simp [aam,hi]
theorem Inv.at(h:Inv w0 E H w){i:Nat}{b:HB}(hb:H.t.get i=some b):(aam E H)[i]? =some (resOf E i b):=by
 rw [resLs_at (h.lt i b hb)];simp [hat,hb]
theorem Inv.hatok(h:Inv w0 E H w)(i:Nat):(hat H i).ok H.nx:=by
 unfold hat;cases hg:H.t.get i with
 |none=>trivial
 |some b=>exact h.ok i b hg
theorem hat_add(H:Hs)(b:HB)(i:Nat):hat (H.add b) i=if i=H.nx then b else hat H i:=by
 unfold hat Hs.add;simp only [Tr.get_set];split<;>rfl
theorem hat_upd(H:Hs)(k:Nat)(b:HB)(i:Nat):hat (H.upd k b) i=if i=k then b else hat H i:=by
 unfold hat Hs.upd;simp only [Tr.get_set];split<;>rfl
def eat(E:En)(n:Nat)(p:Nat×Nat):En:=fun i=>if i=n then p else E i
theorem aav(E:En)(n:Nat)(p:Nat×Nat):Ag n E (eat E n p):=fun i hi=>by simp [eat];omega
theorem aah(E:En)(n:Nat)(p:Nat×Nat):eat E n p n=p:=by simp [eat]
theorem Inv.add(h:Inv w0 E H w){E':En}{w':World}{b:HB}(ha:Ag H.nx E E')(hb:b.ok (H.nx+1))(hp:Hp w0 [] (resOf E' H.nx b::aam E H) w'):Inv w0 E' (H.add b) w':=by
 have e:aam E' (H.add b)=aam E H++[resOf E' H.nx b]:=by
  show(List.range (H.nx+1)).map _=_
  rw [List.range_succ,zav];congr 1
  ·refine zae fun i hi=> ?_
   have hi:i<H.nx:=List.mem_range.1 hi;rw [hat_add,if_neg (by omega),resOf_ext ha hi (h.hatok i)]
  ·simp [hat_add]
 refine⟨?_,fun i x hx=> ?_,fun i x hx=> ?_⟩
 ·rw [e];refine hp.perm ?_;exact(List.perm_append_singleton _ _).symm
 ·show i<H.nx+1;have hx':(H.t.set H.nx b).get i=some x:=hx;rw [Tr.get_set]at hx';split at hx'
  ·omega
  ·have:=h.lt i x hx';omega
 ·show x.ok (H.nx+1);have hx':(H.t.set H.nx b).get i=some x:=hx;rw [Tr.get_set]at hx';split at hx'
  ·cases hx';exact hb
  ·exact HB.up (by omega) (h.ok i x hx')
theorem Inv.upd(h:Inv w0 E H w){w':World}{i:Nat}{b:HB}(hi:i<H.nx)(hb:b.ok H.nx)(hp:Hp w0 [] ((aam E H).set i (resOf E i b)) w'):Inv w0 E (H.upd i b) w':=by
 have e:aam E (H.upd i b)=(aam E H).set i (resOf E i b):=by
  apply List.ext_getElem?
  intro j;rw [List.getElem?_set]
  show((List.range H.nx).map _)[j]? =_
  by_cases hj:j<H.nx
  ·simp only [List.getElem?_map,List.getElem?_range hj,Option.map_some,hat_upd];by_cases hij:i=j
   ·subst hij;simp [aam,hj]
   ·rw [if_neg (fun e=>hij e.symm),if_neg hij,resLs_at hj]
  ·simp [aam,hj]
   intro e1;omega
 refine⟨by rw [e];exact hp,fun j x hx=> ?_,fun j x hx=> ?_⟩
 ·show j<H.nx;have hx':(H.t.set i b).get j=some x:=hx;rw [Tr.get_set]at hx';split at hx'
  ·omega
  ·exact h.lt j x hx'
 ·show x.ok H.nx;have hx':(H.t.set i b).get j=some x:=hx;rw [Tr.get_set]at hx';split at hx'
  ·cases hx';exact hb
  ·exact h.ok j x hx'
theorem Inv.cells(h:Inv w0 E H w){i t:Nat}{md:Mo}{xs:List SC}(hb:H.t.get i=some (.cl t md xs)):
  ∃cur t' fz,w.heap[(E i).1]? =some (.cells cur t' fz)/\(md=.bw\/t'=t)/\xs.length<=cur.size/\cur.toList.take xs.length=xs.map (SC.re E)/\md.ok (E i).2 xs.length cur.size fz:=by
 have h1:=(h.hp.res _ (List.mem_of_getElem? (h.at hb))).1;obtain⟨cur,t',fz,h2,h3,h4,h5,h6⟩:=h1;simp only [zaf]at h4 h5 h6;exact⟨cur,t',fz,h2,h3,h4,h5,h6⟩
theorem Inv.cell(h:Inv w0 E H w){i t:Nat}{md:Mo}{xs:List SC}(hb:H.t.get i=some (.cl t md xs)){off:Nat}{x:SC}(hx:xs[off]? =some x):w.cell? ⟨(E i).1,off,none⟩=some (x.re E):=by
 obtain⟨cur,t',fz,h1,_,h2,h3,_⟩:=h.cells hb;have hlt:off<xs.length:=(List.getElem?_eq_some_iff.1 hx).1
 have:cur.toList[off]? =some (x.re E):=by
  have e:(cur.toList.take xs.length)[off]? =(xs.map (SC.re E))[off]? :=by rw [h3]
  rw [List.getElem?_take,if_pos hlt,List.getElem?_map,hx]at e;exact e
 simp only [World.cell?,h1];simpa using this
theorem Inv.blt(h:Inv w0 E H w){i:Nat}{b:HB}(hb:H.t.get i=some b){k:Nat}(hk:(resOf E i b).own=some k):k<w.heap.size/\w0.heap.size<=k:=by
 have:=(h.hp.res _ (List.mem_of_getElem? (h.at hb))).2 k hk
 simpa using this
def Gok(G:Nat->Option (List SC))(w:World):Prop:=∀g cs,G g=some cs->(∀x∈cs,x.ok 0)/\∃t f,∀E:En,w.heap[g]? =some (.cells (cs.map (SC.re E)).toArray t f)
theorem Gok.inv{G:Nat->Option (List SC)}(hG:Gok G w0)(h:Inv w0 E H w):Gok G w:=by
 intro g cs hg;obtain⟨h1,t,f,h2⟩:=hG g cs hg;refine⟨h1,t,f,fun E=> ?_⟩
 rw [h.hp.below g (Array.getElem?_eq_some_iff.1 (h2 E)).1 (by simp)];exact h2 E
end
open Go.Wk
open Nat renaming add -> zaj, ble -> zad, le_refl -> zab, le_trans -> zap, mul -> zat
open Option renaming rec -> zaa
open UInt8 renaming ofNat -> zan
structure Sd (C:Cx) (m:M) (S:T) (n:Md) (w0:World) (E:En) (w:World):Prop where
 hn:n.n=m.n
 inv:Inv w0 E S.H w
 fok:Fok S.H.nx S.F
 gok:Gok C.G w0
section
variable {C : Cx} {m : M} {S : T} {n : Md} {w0 w : World} {E : En}
theorem abh(h:Sd C m S n w0 E w){x:Operand}{v:SV}(hv:evO m S x=some v):evn n (rF E S.F) x=v.re E/\v.ok S.H.nx:=by
 cases x with
 |tmp t=>
  have hv':bi (zad (t+1) m.n) (some (oget (S.F.get t))) (some .u)=some v:=hv;have hr:evn n (rF E S.F) (.tmp t)=bif zad (t+1) m.n then rF E S.F t else undef:=by rw [<-h.hn];rfl
  rw [hr];cases hb:zad (t+1) m.n with
  |true=>
   rw [hb]at hv';have e:oget (S.F.get t)=v:=Option.some.inj hv';have e2:oget (S.F.get t)=tv S.F t:=tv_rec S.F t;rw [<-e,e2];exact⟨rfl,tv_ok h.fok t⟩
  |false=>
   rw [hb]at hv';have e:SV.u=v:=Option.some.inj hv';subst e;exact⟨rfl,trivial⟩
 |const c=>obtain⟨h1,h2⟩:=cv_ok (show cv c=some v from hv) E S.H.nx;exact⟨h1.symm,h2⟩
 |global g=>
  have e:SV.c (.g g 0)=v:=Option.some.inj hv;subst e;exact⟨rfl,trivial⟩
 |func f=>
  have e:SV.c (.fn f [])=v:=Option.some.inj hv;subst e;exact⟨rfl,fun i hi=>by cases hi⟩
theorem asC_ok{v:SV}{x:SC}(h:v.asC=some x):v=.c x:=by
 cases v<;>first|(cases h;rfl)|cases h
theorem asA_ok{v:SV}{l:List SC}(h:v.asA=some l):v=.a l:=by
 cases v<;>first|(cases h;rfl)|cases h
theorem asT_ok{v:SV}{l:List SA}(h:v.asT=some l):v=.t l:=by
 cases v<;>first|(cases h;rfl)|cases h
theorem asB_ok{x:SC}{b:Bool}(h:x.asB=some b):x=.b b:=by
 cases x<;>first|(cases h;rfl)|cases h
theorem asI_ok{x:SC}{q:IntKind×Nat}(h:x.asI=some q):x=.i q.1 q.2:=by
 cases x<;>first|(cases h;rfl)|cases h
theorem asS_ok{x:SC}{q:Nat×Nat}(h:x.asS=some q):x=.s q.1 q.2:=by
 cases x<;>first|(cases h;rfl)|cases h
theorem asP_ok{x:SC}{q:Nat×Nat}(h:x.asP=some q):x=.p q.1 q.2:=by
 cases x<;>first|(cases h;rfl)|cases h
theorem asN_ok{x:SC}{j:Nat}(h:x.asN=some j):∃q,∀E:En,x.re E=.int q (j:Int):=by
 obtain⟨q,h1,h2⟩:=aaa h;obtain rfl:=asI_ok h1;obtain⟨k,a⟩:=q;obtain⟨h3,h4⟩:=aab (show bi (zad (a%km k+1) (kh k)) (some (a%km k)) none=some j from h2);cases h4
 rw [aac]at h3;refine⟨k,fun E=> ?_⟩
 simp only [SC.re];rw [<-abk,ures_eq,if_neg (by omega)];rfl
theorem iOf_ok{k:IntKind}{i:Nat}{v:SV}(h:iOf k i=some v):v=.c (.i k i)/\∀E:En,v.re E=.int k (i:Int):=by
 obtain⟨h1,h2⟩:=aab h;cases h2
 rw [aac]at h1;exact⟨rfl,fun E=>by simp only [SV.re,SC.re];rw [wrap_small (by omega)]⟩
theorem hbC_ok{b:HB}{q:Nat×Mo×List SC}(h:b.asC=some q):b=.cl q.1 q.2.1 q.2.2:=by
 cases b<;>first|(cases h;rfl)|cases h
theorem aaj(h:Sd C m S n w0 E w){x:Operand}{v:SC}(hv:evC m S x=some v):evn n (rF E S.F) x=v.re E/\v.ok S.H.nx:=by
 obtain⟨y,h1,h2⟩:=aaa hv;obtain rfl:=asC_ok h2;exact abh h h1
theorem evN_ok(h:Sd C m S n w0 E w){x:Operand}{j:Nat}(hv:evN m S x=some j):∃q,evn n (rF E S.F) x=.int q (j:Int):=by
 obtain⟨y,h1,h2⟩:=aaa hv;obtain⟨q,hq⟩:=asN_ok h2;exact⟨q,by rw [(aaj h h1).1,hq]⟩
theorem evV_ok(h:Sd C m S n w0 E w){x:Operand}{v:Value}(hv:evV m S x=some v):evn n (rF E S.F) x=v:=by
 obtain⟨y,h1,h2⟩:=aaa hv;rw [(abh h h1).1,SV.v_r h2 E]
def Yd(C:Cx)(S:T)(n:Md)(E:En)(w:World)(o:Oper)(v:SV):Prop:=
 (execOp (evn n (rF E S.F)) o).run C.P w=.ok (.value (v.re E)) w/\v.ok S.H.nx
theorem gen_ok(h:Sd C m S n w0 E w){o:Oper}{v:SV}(hv:gen C m S o=some v):Yd C S n E w o v:=by
 unfold gen at hv;cases hs:isSel o.op with
 |true=>rw [hs]at hv;cases hv
 |false=>
  rw [hs]at hv;have hv:=(aab hv)
  obtain⟨hall,hv⟩:=hv;obtain⟨nx,h1,hv⟩:=aaa hv;obtain⟨r,h2,hv⟩:=aaa hv;have hc:execOp (evn n (rF E S.F)) o=execOp (fun x=>(evV m S x).getD undef) o:=by
   refine execOp_congr o (fun cs b e=> ?_) fun x hx=> ?_
   ·rw [e]at hs;cases hs
   ·have h3:=List.all_eq_true.1 hall x (by simpa using hx);obtain⟨u,hu⟩:=Option.isSome_iff_exists.1 h3;rw [evV_ok h hu,hu];rfl
  have h3:=abv h1 w;have hnx:nx=.value r:=by
   cases nx with
   |value u=>cases h2;rfl
   |_=>cases h2
  subst hnx;obtain⟨h4,h5⟩:=cv_ok hv E S.H.nx;exact⟨by rw [hc,h3,h4],h5⟩
theorem aak{t e:Nat}(h:tSl C t=some e):C.P.underlying t=some (.slice e):=by
 obtain⟨d,h1,h2⟩:=aaa h;cases d<;>first|(cases h2;exact h1)|cases h2
theorem tAr_ok{t:Nat}{q:Nat×Nat}(h:tAr C t=some q):C.P.underlying t=some (.array q.1 q.2):=by
 obtain⟨d,h1,h2⟩:=aaa h;cases d<;>first|(cases h2;exact h1)|cases h2
theorem tSt_ok{t:Nat}{l:List Field}(h:tSt C t=some l):C.P.underlying t=some (.struct l.toArray):=by
 obtain⟨d,h1,h2⟩:=aaa h;cases d<;>first|(cases h2;simpa using h1)|cases h2
theorem tIn_ok{t:Nat}{k:IntKind}(h:tIn C t=some k):C.P.underlying t=some (.int k):=by
 obtain⟨d,h1,h2⟩:=aaa h;cases d<;>first|(cases h2;exact h1)|cases h2
theorem abu{t:Nat}{u:Unit}(h:tStr C t=some u):C.P.underlying t=some .string:=by
 obtain⟨d,h1,h2⟩:=aaa h;cases d<;>first|exact h1|cases h2
theorem isU8_ok{t:Nat}{u:Unit}(h:isU8 C t=some u):C.P.underlying t=some (.int .u8):=by
 obtain⟨k,h1,h2⟩:=aaa h;obtain⟨h3,_⟩:=aab h2
 have:=kn_inj h3
 subst this;exact tIn_ok h1
theorem aaq{t z:Nat}(h:tSz C t=some z)(w:World):(sizeOf t).run C.P w=.ok z w:=abv h w
theorem tAg_ok{t:Nat}{b:Bool}(h:tAg C t=some b)(w:World):(isAgg t).run C.P w=.ok b w:=abv h w
theorem abq{t:Nat}{z:List SC}(h:zeroC C t=some z)(E:En)(k:Nat)(w:World):∃v,(zeroValue t).run C.P w=.ok v w/\v.cells=(z.map (SC.re E)).toArray/\∀x∈z,x.ok k:=by
 obtain⟨v,h1,h2⟩:=aaa h;obtain⟨h3,h4⟩:=cvs_ok h2 E k;exact⟨v,abv h1 w,by rw [h3],h4⟩
theorem fieldOf_ok{t f:Nat}{fd:Field}(h:fieldOf C t f=some fd):∃l:List Field,C.P.underlying t=some (.struct l.toArray)/\l[f]? =some fd:=by
 obtain⟨l,h1,h2⟩:=aaa h;rw [lget_eq]at h2;exact⟨l,tSt_ok h1,h2⟩
theorem partOf_ok{t:Nat}{xs:List SC}{off:Nat}{v:SV}(h:partOf C t xs off=some v):
  (tAg C t=some false/\∃x,xs[off]? =some x/\v=.c x)\/(tAg C t=some true/\∃z,tSz C t=some z/\off+z<=xs.length/\v=.a ((xs.drop off).take z)):=by
 obtain⟨a,h1,h⟩:=aaa h;cases a with
 |false=>
  obtain⟨x,h2,h⟩:=aaa (show ob (lget xs off) (fun x=>some (SV.c x))=some v from h);cases h
  rw [lget_eq]at h2;exact .inl ⟨h1,x,h2,rfl⟩
 |true=>
  obtain⟨z,h2,h⟩:=aaa (show ob (tSz C t) (fun n=>bi (zad (zaj off n) (abd xs)) (some (SV.a (ltake (ldrop xs off) n))) none)=some v from h);obtain⟨h3,h⟩:=aab h;cases h
  rw [aac,aag]at h3;rw [abc,ldrop_eq];exact .inr ⟨h1,z,h2,h3,rfl⟩
theorem partOf_okk{t:Nat}{xs:List SC}{off k:Nat}{v:SV}(h:partOf C t xs off=some v)(hx:∀x∈xs,x.ok k):v.ok k:=by
 rcases partOf_ok h with⟨_,x,h1,rfl⟩|⟨_,z,_,_,rfl⟩
 ·exact hx x (List.mem_of_getElem? h1)
 ·exact fun x hm=>hx x (List.mem_of_mem_drop (List.mem_of_mem_take hm))
theorem load_run{t:Nat}{xs:List SC}{b off:Nat}{v:SV}(h:partOf C t xs off=some v)(hc:∀j x,xs[j]? =some x->w.cell? ⟨b,j,none⟩=some (x.re E)):
  (loadVar t ⟨b,off,none⟩).run C.P w=.ok (v.re E) w:=by
 rcases partOf_ok h with⟨h1,x,h2,rfl⟩|⟨h1,z,h2,h3,rfl⟩
 ·have:=hc off x h2
  simp [loadVar,tAg_ok h1 w,this,SV.re]
 ·have hl:(loadCells ⟨b,off,none⟩ z).run C.P w=.ok (((xs.drop off).take z).map (SC.re E)).toArray w:=by
   have hz:(((xs.drop off).take z).map (SC.re E)).length=z:=by simp;omega
   conv=>lhs;rw [<-hz]
   refine run_loadCells_list w ⟨b,off,none⟩ _ fun j u hj=> ?_
   rw [aan];rw [List.getElem?_map]at hj;obtain⟨x,hx,rfl⟩:=Option.map_eq_some_iff.1 hj;rw [List.getElem?_take]at hx;split at hx
   ·rw [List.getElem?_drop]at hx;exact hc _ x hx
   ·cases hx
  simp [loadVar,tAg_ok h1 w,aaq h2 w,hl,SV.re]
theorem part_run{t:Nat}{xs:List SC}{off:Nat}{v:SV}(h:partOf C t xs off=some v):(part t (xs.map (SC.re E)).toArray off).run C.P w=.ok (v.re E) w:=by
 rcases partOf_ok h with⟨h1,x,h2,rfl⟩|⟨h1,z,h2,h3,rfl⟩
 ·simp [part,tAg_ok h1 w,h2,SV.re]
 ·have e:(xs.map (SC.re E)).toArray.extract off (off+z)=(((xs.drop off).take z).map (SC.re E)).toArray:=by
   simp only [List.extract_toArray,List.extract_eq_take_drop,Nat.add_sub_cancel_left];rw [List.map_take,List.map_drop]
  simp only [part,Sem.run_bind,tAg_ok h1 w,Result.andThen_ok,if_true,aaq h2 w,Sem.run_pure,e,SV.re]
theorem cellsOf_ok{i:Nat}{xs:List SC}(h:cellsOf S i=some xs):∃t md,S.H.t.get i=some (.cl t md xs):=by
 obtain⟨b,h1,h⟩:=aaa h;obtain⟨q,h2,h⟩:=aaa h;cases h
 rw [hbC_ok h2]at h1;exact⟨_,_,h1⟩
theorem cellsOf_okk(h:Sd C m S n w0 E w){i:Nat}{xs:List SC}(hx:cellsOf S i=some xs):(∀j x,xs[j]? =some x->w.cell? ⟨(E i).1,j,none⟩=some (x.re E))/\∀x∈xs,x.ok S.H.nx:=by
 obtain⟨t,md,h1⟩:=cellsOf_ok hx;exact⟨fun j x hj=>h.inv.cell h1 hj,h.inv.ok i _ h1⟩
theorem glob_ok(h:Sd C m S n w0 E w){g:Nat}{xs:List SC}(hx:C.G g=some xs):(∀j x,xs[j]? =some x->w.cell? ⟨g,j,none⟩=some (x.re E))/\∀x∈xs,x.ok S.H.nx:=by
 obtain⟨h1,t,f,h2⟩:=(h.gok.inv h.inv) g xs hx;refine⟨fun j x hj=> ?_,fun x hm=>SC.up (Nat.zero_le _) (h1 x hm)⟩
 simp only [World.cell?,h2 E];simp [hj]
theorem loadC_ok(h:Sd C m S n w0 E w){t:Nat}{x:SC}{v:SV}(hv:loadC C S t x=some v):∃A:Addr,x.re E=.pointer (some A)/\(loadVar t A).run C.P w=.ok (v.re E) w/\v.ok S.H.nx:=by
 cases x with
 |p i off=>
  obtain⟨xs,h1,h2⟩:=aaa (show ob (cellsOf S i) (fun xs=>partOf C t xs off)=some v from hv);obtain⟨h3,h4⟩:=cellsOf_okk h h1;exact⟨_,rfl,load_run h2 h3,partOf_okk h2 h4⟩
 |g g off=>
  obtain⟨xs,h1,h2⟩:=aaa (show ob (C.G g) (fun xs=>partOf C t xs off)=some v from hv);obtain⟨h3,h4⟩:=glob_ok h h1;exact⟨_,rfl,load_run h2 h3,partOf_okk h2 h4⟩
 |_=>cases hv
section
variable {d : Option Nat} {ty : TypeId} {pos : String} {after : Array Edge} {gd : Option (Nat × Bool)}
theorem yd_load(h:Sd C m S n w0 E w){t:Nat}{x:Operand}{v:SV}(hv:opLoad C m S t x=some v):Yd C S n E w ⟨d,.load t x,ty,pos,after,gd⟩ v:=by
 obtain⟨y,h1,h2⟩:=aaa hv;obtain⟨A,h3,h4,h5⟩:=loadC_ok h h2;have hx:=(aaj h h1).1;rw [h3]at hx;exact⟨by simp [execOp,hx,Instr.loadAt,Instr.sureAddr,h4],h5⟩
theorem yd_field(h:Sd C m S n w0 E w){t f:Nat}{x:Operand}{v:SV}(hv:opField C m S t x f=some v):Yd C S n E w ⟨d,.field t x f,ty,pos,after,gd⟩ v:=by
 obtain⟨fd,h1,hv⟩:=aaa hv;obtain⟨y,h2,hv⟩:=aaa hv;obtain⟨xs,h3,hv⟩:=aaa hv;obtain rfl:=asA_ok h3;obtain⟨l,h4,h5⟩:=fieldOf_ok h1;obtain⟨hx,hok⟩:=abh h h2;have hx':evn n (rF E S.F) x=.agg (xs.map (SC.re E)).toArray:=hx;have hp:=part_run (w:=w) (E:=E) hv;refine⟨?_,partOf_okk hv hok⟩
 simp [execOp,hx',Instr.field,run_underlying h4,h5,asAgg]
 rw [hp];rfl
theorem fieldAt_ok{t f dd:Nat}(h:fieldAt C t f=some dd)(A:Addr)(w:World):(Instr.fieldAt t (.pointer (some A)) f).run C.P w=.ok (.pointer (some (A.add dd))) w:=by
 obtain⟨fd,h1,h⟩:=aaa h;obtain⟨z,h2,h⟩:=aaa h;have hz:z≠0/\dd=fd.offset:=by
  rw [aaf]at h;split at h
  ·cases h
  ·rename_i h3;cases h
   exact⟨fun e=>h3 (by subst e;rfl),rfl⟩
 obtain⟨l,h4,h5⟩:=fieldOf_ok h1;obtain⟨hz,rfl⟩:=hz;simp [Instr.fieldAt,run_underlying h4,h5,Instr.sureAddr,fieldPlace,aaq h2 w,hz]
theorem padd_ok{dd k:Nat}{x:SC}{v:SV}(hv:padd dd x=some v)(E:En)(hx:x.ok k):∃A:Addr,x.re E=.pointer (some A)/\v.re E=.pointer (some (A.add dd))/\v.ok k:=by
 cases x with
 |p i off=>
  have e:SV.c (.p i (off+dd))=v:=Option.some.inj hv;subst e;exact⟨_,rfl,by simp only [SV.re,SC.re];rw [aan],hx⟩
 |g i off=>
  have e:SV.c (.g i (off+dd))=v:=Option.some.inj hv;subst e;exact⟨_,rfl,by simp only [SV.re,SC.re];rw [aan],hx⟩
 |_=>cases hv
theorem yd_fieldAddr(h:Sd C m S n w0 E w){t f:Nat}{x:Operand}{v:SV}(hv:opFieldAddr C m S t x f=some v):Yd C S n E w ⟨d,.fieldAddr t x f,ty,pos,after,gd⟩ v:=by
 obtain⟨dd,h1,hv⟩:=aaa hv;obtain⟨y,h2,hv⟩:=aaa hv;obtain⟨hx,hok⟩:=aaj h h2;obtain⟨A,h3,h4,h5⟩:=padd_ok hv E hok;rw [h3]at hx;exact⟨by simp [execOp,hx,fieldAt_ok h1 A w,h4],h5⟩
theorem yd_indexAddr(h:Sd C m S n w0 E w){t:Nat}{x ix:Operand}{v:SV}(hv:opIndexAddr C m S t x ix=some v):Yd C S n E w ⟨d,.indexAddr t x ix,ty,pos,after,gd⟩ v:=by
 obtain⟨j,h1,hv⟩:=aaa hv;obtain⟨y,h2,hv⟩:=aaa hv;obtain⟨q,hj⟩:=evN_ok h h1;obtain⟨hx,hok⟩:=aaj h h2;cases ht:tSl C t with
 |some e=>
  rw [ht]at hv;obtain⟨sz,h3,hv⟩:=aaa (show ob (tSz C e) (fun sz=>slAdd j sz y)=some v from hv);cases y with
  |sl i base k c=>
   obtain⟨h4,hv⟩:=aab (show bi (zad (j+1) k) (some (SV.c (.p i (base+j*sz)))) none=some v from hv);cases hv
   rw [aac]at h4;have h5:=aak ht;have hx':evn n (rF E S.F) x=.slice (some ⟨(E i).1,base,none⟩) k (c.re E i):=hx;refine⟨?_,hok⟩
   have hlt:((j:Int)<(k:Int)):=by omega
   simp [execOp,hx',hj,Instr.indexAt,asIntOf,run_underlying h5,aaq h3 w,hlt,SV.re,SC.re,aan]
   intro hc;omega
  |_=>cases hv
 |none=>
  rw [ht]at hv;obtain⟨qq,h3,hv⟩:=aaa hv;obtain⟨sz,h4,hv⟩:=aaa hv;obtain⟨h5,hv⟩:=aab hv;rw [aac]at h5;obtain⟨A,h6,h7,h8⟩:=padd_ok hv E hok;rw [h6]at hx;have h9:=tAr_ok h3;refine⟨?_,h8⟩
  have hlt:((j:Int)<(qq.1:Int)):=by omega
  simp [execOp,hx,hj,Instr.indexAt,Instr.sureAddr,asIntOf,run_underlying h9,aaq h4 w,hlt,h7]
  intro hc;exact absurd h5 (by omega)
theorem str_at{l x j:Nat}(h:j<l):(⟨(dec l x).toArray⟩:ByteArray)[j]? =some (zan (x/256^j%256)):=by
 have h1:=dec_get j l x h;have hs:j<(⟨(dec l x).toArray⟩:ByteArray).size:=by show j<(dec l x).length;rw [aai];exact h
 rw [getElem?_pos _ j hs];have h2:(dec l x)[j]'(by rw [aai];exact h)=zan (x/256^j%256):=by
  rw [List.getElem?_eq_getElem (by rw [aai];exact h)]at h1;exact Option.some.inj h1
 rw [<-h2];rfl
theorem yd_index(h:Sd C m S n w0 E w){t:Nat}{x ix:Operand}{v:SV}(hv:opIndex C m S t x ix=some v):Yd C S n E w ⟨d,.index t x ix,ty,pos,after,gd⟩ v:=by
 obtain⟨j,h1,hv⟩:=aaa hv;obtain⟨y,h2,hv⟩:=aaa hv;obtain⟨q,hj⟩:=evN_ok h h1;obtain⟨hx,hok⟩:=abh h h2;cases hc:y.asC with
 |some z=>
  rw [hc]at hv;obtain⟨p,h3,hv⟩:=aaa hv;obtain⟨u,h4,hv⟩:=aaa hv;obtain⟨h5,hv⟩:=aab hv;cases hv
  rw [aac]at h5;obtain rfl:=asC_ok hc;obtain rfl:=asS_ok h3;have hx':evn n (rF E S.F) x=.string ⟨(dec p.1 p.2).toArray⟩:=hx;refine⟨?_,trivial⟩
  have h6:=str_at (x:=p.2) (show j<p.1 by omega);have h7:(zan (p.2/256^j%256)).toNat=sbyte p.2 j:=bytes_lt _ (Nat.mod_lt _ (by decide));have h8:IntKind.u8.wrap (sbyte p.2 j:Int)=(sbyte p.2 j:Int):=wrap_small (show sbyte p.2 j<256 from Nat.mod_lt _ (by decide));simp [execOp,hx',hj,Instr.index,asIntOf,run_underlying (abu h4),h6,SV.re,SC.re,h8]
  rw [<-h7];simp
 |none=>
  rw [hc]at hv;obtain⟨xs,h3,hv⟩:=aaa hv;obtain⟨qq,h4,hv⟩:=aaa hv;obtain⟨sz,h5,hv⟩:=aaa hv;obtain⟨h6,hv7⟩:=aab hv;rw [aac]at h6;have hp:=part_run (w:=w) (E:=E) hv7;obtain rfl:=asA_ok h3;have hx':evn n (rF E S.F) x=.agg (xs.map (SC.re E)).toArray:=hx;refine⟨?_,partOf_okk hv7 hok⟩
  have hlt:((j:Int)<(qq.1:Int)):=by omega
  simp [execOp,hx',hj,Instr.index,asIntOf,run_underlying (tAr_ok h4),aaq h5 w,hlt]
  rw [if_pos (show j<qq.1 from h6),show j*sz=zat j sz from rfl,hp];rfl
theorem aax{x:Value}{q:IntKind}{j y:Nat}(hx:x=.int q (j:Int))(hj:j<=y)(code:BoundsCode)(P:Program)(w:World):(Instr.sliceBound x y code).run P w=.ok j w:=by
 subst hx
 have:((j:Int)<=(y:Int)):=by omega
 simp [Instr.sliceBound,asIntOf,this]
theorem evND_ok(h:Sd C m S n w0 E w){x:Option Operand}{dd a:Nat}(hv:evND m S x dd=some a):(x=none/\a=dd)\/∃y q,x=some y/\evn n (rF E S.F) y=.int q (a:Int):=by
 cases x with
 |none=>left;exact⟨rfl,(Option.some.inj hv).symm⟩
 |some y=>
  right
  obtain⟨q,hq⟩:=evN_ok h (show evN m S y=some a from hv);exact⟨y,q,rfl,hq⟩
theorem abe(h:Sd C m S n w0 E w){lo hi:Option Operand}{len cap a b:Nat}(ha:evND m S lo 0=some a)(hb:evND m S hi len=some b)(hab:a<=b)(hbc:b<=cap)(isS:Bool)(P:Program):
  (Instr.sliceBounds isS len cap (lo.map (evn n (rF E S.F))) (hi.map (evn n (rF E S.F))) none).run P w=.ok (a,b,cap) w:=by
 rcases evND_ok h ha with⟨rfl,rfl⟩|⟨y,q,rfl,hy⟩
 ·rcases evND_ok h hb with⟨rfl,rfl⟩|⟨z,q',rfl,hz⟩
  ·simp [Instr.sliceBounds]
  ·simp [Instr.sliceBounds,aax hz hbc]
 ·rcases evND_ok h hb with⟨rfl,rfl⟩|⟨z,q',rfl,hz⟩
  ·simp [Instr.sliceBounds,aax hy hab]
  ·simp [Instr.sliceBounds,aax hz hbc,aax hy hab]
theorem bounds3_run(h:Sd C m S n w0 E w){lo hi:Option Operand}{mo:Operand}{len cap a b mm:Nat}(ha:evND m S lo 0=some a)(hb:evND m S hi len=some b)(hh:hi.isSome=true)(hm:evN m S mo=some mm)(hab:a<=b)(hbc:b<=mm)(hmc:mm<=cap)(isS:Bool)(P:Program):
  (Instr.sliceBounds isS len cap (lo.map (evn n (rF E S.F))) (hi.map (evn n (rF E S.F))) (some (evn n (rF E S.F) mo))).run P w=.ok (a,b,mm) w:=by
 obtain⟨q0,h0⟩:=evN_ok h hm;rcases evND_ok h ha with⟨rfl,rfl⟩|⟨y,q,rfl,hy⟩
 ·rcases evND_ok h hb with⟨rfl,rfl⟩|⟨z,q',rfl,hz⟩
  ·cases hh
  ·simp [Instr.sliceBounds,aax hz hbc,aax h0 hmc]
 ·rcases evND_ok h hb with⟨rfl,rfl⟩|⟨z,q',rfl,hz⟩
  ·cases hh
  ·simp [Instr.sliceBounds,aax hz hbc,aax hy hab,aax h0 hmc]
theorem cut_str{l x i j:Nat}(hi:i<=j)(hj:j<=l):(⟨(dec l x).toArray⟩:ByteArray).extract i j=⟨(dec (j-i) (x/256^i%256^(j-i))).toArray⟩:=by
 apply ByteArray.ext
 rw [ByteArray.data_extract];simp only [List.extract_toArray,List.extract_eq_take_drop];rw [dec_drop,dec_take _ _ _ (by omega),dec_mod]
theorem cutK_ok{i base cc sz a b mm k:Nat}{v:SV}(hv:cutK i base cc sz a b mm=some v)(hi:i<k):a<=b/\b<=mm/\mm<=cc/\v.ok k/\
  ∀E:En,v.re E=.slice (if mm=a then some ⟨(E i).1,base,none⟩else some ((⟨(E i).1,base,none⟩:Addr).add (a*sz))) (b-a) (mm-a):=by
 obtain⟨h1,hv⟩:=aab hv;obtain⟨h2,hv⟩:=aab hv;obtain⟨h3,hv⟩:=aab hv;cases hv
 rw [aac]at h1 h2 h3;refine⟨h1,h2,h3,hi,fun E=> ?_⟩
 simp only [SV.re,SC.re,Cp.re,aaf,aad,aan];split<;>rfl
theorem room_ok(h:Sd C m S n w0 E w){i k:Nat}(hv:room S i k=true):k<=(E i).2:=by
 unfold room at hv;cases hb:S.H.t.get i with
 |none=>rw [hb]at hv;cases hv
 |some b=>
  rw [hb]at hv;cases hq:b.asC with
  |none=>
   have hv':(zaa false (fun q=>Mo.rec (motive:=fun _=>Bool) false (fun _ mm=>zad k mm) (zad k (abd q.2.2)) false q.2.1) b.asC:Bool)=true:=hv;rw [hq]at hv';cases hv'
  |some q=>
   have hv':(zaa false (fun q=>Mo.rec (motive:=fun _=>Bool) false (fun _ mm=>zad k mm) (zad k (abd q.2.2)) false q.2.1) b.asC:Bool)=true:=hv;rw [hq]at hv';obtain⟨t,md,xs⟩:=q;have hb':=hbC_ok hq;subst hb';obtain⟨cur,t',fz,_,_,h3,_,h5⟩:=h.inv.cells hb;cases md with
   |ex=>cases hv'
   |fb=>cases hv'
   |rw sz mm=>
    have h6:zad k mm=true:=hv';rw [aac]at h6;exact zap h6 h5.2.1
   |bw=>
    have h6:zad k (abd xs)=true:=hv';rw [aac,aag]at h6;exact zap h6 h5.1
theorem yd_sliceR(h:Sd C m S n w0 E w){rm:Nat->Nat->Bool}(hrm:∀i k,rm i k=true->k<=(E i).2){t:Nat}{x:Operand}{lo hi mx:Option Operand}{v:SV}(hv:opSliceR C m S rm t x lo hi mx=some v):Yd C S n E w ⟨d,.slice t x lo hi mx,ty,pos,after,gd⟩ v:=by
 obtain⟨y,h1,hv⟩:=aaa hv;obtain⟨hx,hok⟩:=aaj h h1;cases y with
 |s l q=>
  obtain⟨u,h2,hv⟩:=aaa (show cutS C m S t lo hi mx l q=some v from hv);obtain⟨h3,hv⟩:=aab hv;obtain⟨a,h4,hv⟩:=aaa hv;obtain⟨b,h5,hv⟩:=aaa hv;obtain⟨h6,hv⟩:=aab hv;obtain⟨h7,hv⟩:=aab hv;cases hv
  rw [aac]at h6 h7;obtain rfl:mx=none:=by simpa using h3
  have hx':evn n (rF E S.F) x=.string ⟨(dec l q).toArray⟩:=hx;have hsz:(⟨(dec l q).toArray⟩:ByteArray).size=l:=aai l q;refine⟨?_,trivial⟩
  have hb:=abe h h4 (by simpa using h5) h6 h7 false C.P;simp [execOp,hx',Instr.sliceAt,Instr.slice,run_underlying (abu h2),hsz,hb,cut_str h6 h7,SV.re,SC.re,scut,str]
  rfl
 |ns=>
  obtain⟨u,h2,hv⟩:=aaa (show cutN C m S t lo hi mx=some v from hv);obtain⟨sz,h8,hv⟩:=aaa hv;obtain⟨h3,hv⟩:=aab hv;obtain⟨a,h4,hv⟩:=aaa hv;obtain⟨b,h5,hv⟩:=aaa hv;obtain⟨h6,hv⟩:=aab hv;cases hv
  rw [aad]at h6;have ha:a=0:=by have:a+b=0:=h6;omega
  have hb0:b=0:=by have:a+b=0:=h6;omega
  subst ha;subst hb0;obtain rfl:mx=none:=by simpa using h3
  have hx':evn n (rF E S.F) x=.slice none 0 0:=hx;refine⟨?_,trivial⟩
  have hb:=abe h h4 h5 (zab _) (zab 0) true C.P;simp [execOp,hx',Instr.sliceAt,Instr.slice,run_underlying (aak h2),hb,aaq h8 w,SV.re,SC.re]
 |p i off=>
  obtain⟨q,h2,hv⟩:=aaa (show cutA C m S t lo hi mx i off=some v from hv);obtain⟨sz,h3,hv⟩:=aaa hv;obtain⟨h4,hv⟩:=aab hv;obtain⟨a,h5,hv⟩:=aaa hv;obtain⟨b,h6,hv⟩:=aaa hv;obtain⟨h7,h8,_,h9,h10⟩:=cutK_ok (k:=S.H.nx) hv hok;obtain rfl:mx=none:=by simpa using h4
  have hx':evn n (rF E S.F) x=.pointer (some ⟨(E i).1,off,none⟩):=hx;refine⟨?_,h9⟩
  have hb:=abe h h5 h6 h7 h8 false C.P;rw [h10 E];simp [execOp,hx',Instr.sliceAt,Instr.sureAddr,run_underlying (tAr_ok h2),hb,aaq h3 w]
  split<;>rfl
 |sl i base k c=>
  obtain⟨e,h2,hv⟩:=aaa (show cutL C m S rm t lo hi mx i base k c=some v from hv);obtain⟨sz,h3,hv⟩:=aaa hv;obtain⟨a,h4,hv⟩:=aaa hv;obtain⟨b,h5,hv⟩:=aaa hv;have hx':evn n (rF E S.F) x=.slice (some ⟨(E i).1,base,none⟩) k (c.re E i):=hx;cases mx with
  |none=>
   cases c with
   |k cc=>
    obtain⟨h6,h7,_,h8,h9⟩:=cutK_ok (k:=S.H.nx) (show cutK i base cc sz a b cc=some v from hv) hok;refine⟨?_,h8⟩
    have hb:=abe h h4 h5 h6 h7 true C.P;rw [h9 E];simp [execOp,hx',Instr.sliceAt,Instr.slice,run_underlying (aak h2),Cp.re,hb,aaq h3 w]
   |r off=>
    obtain⟨h0,hv⟩:=aab (show cutR rm i base k sz off a b=some v from hv);have hcap:off+k<=(E i).2:=hrm _ _ h0;obtain⟨h6,hv⟩:=aab hv;obtain⟨h7,hv8⟩:=aab hv;rw [aac]at h6 h7;have hb:=abe (cap:=(E i).2-off) h h4 h5 h6 (by omega) true C.P;clear hv;rw [aaf]at hv8;split at hv8
    ·rename_i ha;rw [aad]at ha;cases hv8
     subst ha;refine⟨?_,hok⟩
     simp [execOp,hx',Instr.sliceAt,Instr.slice,run_underlying (aak h2),Cp.re,hb,aaq h3 w,SV.re,SC.re,Addr.add]
    ·rename_i ha;rw [aad]at ha;rw [aaf]at hv8;split at hv8
     rotate_left
     ·rename_i h8;rw [aac]at h8;cases hv8
      have e1:b-a=0:=by have:¬a+1<=k:=h8;omega
      have e2:(E i).2-off-a=(E i).2-(off+a):=by omega
      refine⟨?_,hok⟩
      have eA:zaj off a=off+a:=rfl;have eM:zat a sz=a*sz:=rfl;by_cases hz:(E i).2-off=a
      ·have e3:(E i).2-(off+a)=0:=by omega
       rw [hz]at hb;simp [execOp,hx',Instr.sliceAt,Instr.slice,run_underlying (aak h2),Cp.re,hb,aaq h3 w,SV.re,SC.re,hz,e1,e3,eA,eM]
      ·have e3:¬(E i).2-(off+a)=0:=by omega
       simp [execOp,hx',Instr.sliceAt,Instr.slice,run_underlying (aak h2),Cp.re,hb,aaq h3 w,SV.re,SC.re,hz,e1,e2,e3,eA,eM,aan]
     rename_i h8;rw [aac]at h8;cases hv8
     refine⟨?_,hok⟩
     have hne:¬(E i).2-off=a:=by omega
     simp [execOp,hx',Instr.sliceAt,Instr.slice,run_underlying (aak h2),Cp.re,hb,aaq h3 w,SV.re,SC.re,hne,aan,Nat.sub_sub]
  |some mo=>
   obtain⟨h6,hv⟩:=aab hv;obtain⟨mm,h7,hv⟩:=aaa hv;obtain⟨cc,h13,hv⟩:=aaa hv;obtain⟨h8,h9,h10,h11,h12⟩:=cutK_ok (k:=S.H.nx) hv hok;have hcc:cc<=c.re E i:=by
    cases c with
    |k c'=>cases h13;exact zab _
    |r off=>
     obtain⟨h0,h13⟩:=aab (show bi (rm i (off+k)) (some k) none=some cc from h13);cases h13
     have hcap:off+k<=(E i).2:=hrm _ _ h0;show k<=(E i).2-off;omega
   refine⟨?_,h11⟩
   have hb:=bounds3_run (cap:=c.re E i) h h4 h5 h6 h7 h8 h9 (by omega) true C.P;rw [h12 E];simp [execOp,hx',Instr.sliceAt,Instr.slice,run_underlying (aak h2),hb,aaq h3 w]
 |z i base dd off=>
  obtain⟨e,h2,hv⟩:=aaa (show cutZ C m S t lo hi mx i base dd off=some v from hv);obtain⟨sz,h3,hv⟩:=aaa hv;obtain⟨h4,hv⟩:=aab hv;obtain⟨a,h5,hv⟩:=aaa hv;obtain⟨b,h6,hv⟩:=aaa hv;obtain⟨h7,hv⟩:=aab hv;cases hv
  rw [aad]at h7;have ha:a=0:=by have:a+b=0:=h7;omega
  have hb0:b=0:=by have:a+b=0:=h7;omega
  subst ha;subst hb0;obtain rfl:mx=none:=by simpa using h4
  have hx':evn n (rF E S.F) x=.slice (some ⟨(E i).1,if(E i).2-off=0 then base else base+dd,none⟩) 0 ((E i).2-off):=hx;refine⟨?_,hok⟩
  have hb:=abe (cap:=(E i).2-off) h h5 h6 (zab _) (Nat.zero_le _) true C.P;by_cases hz:(E i).2-off=0
  ·rw [hz]at hb;simp [execOp,hx',Instr.sliceAt,Instr.slice,run_underlying (aak h2),hb,aaq h3 w,SV.re,SC.re,hz,Addr.add]
  ·simp [execOp,hx',Instr.sliceAt,Instr.slice,run_underlying (aak h2),hb,aaq h3 w,SV.re,SC.re,hz,Addr.add]
 |_=>cases hv
theorem yd_slice(h:Sd C m S n w0 E w){t:Nat}{x:Operand}{lo hi mx:Option Operand}{v:SV}(hv:opSlice C m S t x lo hi mx=some v):Yd C S n E w ⟨d,.slice t x lo hi mx,ty,pos,after,gd⟩ v:=
 yd_sliceR h (fun i k hr=>room_ok h hr) hv
end
end
end Go.Ce
