/-
  The law BodiesApart holds (part 1 of 8).
-/
import Derived.Tactics2
import Derived.Scope
import Derived.Below
import Derived.KernelRfl
import Derived.RangeFuncCalls
import Derived.RangeFuncLeaves
import Derived.TacticsIn
import Derived.Laws.Strings3
import Derived.Laws.Concat
import Derived.Laws.Small
import Derived.Laws.Slices
import Derived.Laws.BitsLemmas
import Derived.Laws.OwnMore
import Derived.Laws.AppendOwn
import Derived.Laws.CopyRow
import Derived.StillTail
import Derived.OrdersHeld
import Derived.Laws.BytesString
import Derived.Laws.MakeOwn
import Derived.WalkSmall
import Derived.Laws.Cover3
import Derived.Laws.StructEq
import Derived.RangeFuncRecord
import Derived.OrdersIn
import Derived.Lib.AppendStr
import Derived.Lib.Builder
import Derived.Lib.AppendZerosOnto
import Derived.Lib.Overlaps
set_option linter.unusedVariables false
namespace Go.Wk
open Go.RowKit (Below)
open Nat renaming beq → cP, blt → fC
open _root_.Array renaming replicate → Tn
theorem _root_.aA0{p:Prop}(h:p:=by omega):p:=h
theorem _root_.aA1{p:Prop}(h:p:=by decide):p:=h
theorem _root_.aA2{p:Prop}(h:p:=by simp):p:=h
theorem _root_.aA3{p:Prop}(h:p:=by decide+kernel):p:=h
theorem _root_.aA4{p:Prop}(h:p:=by rw [fR];omega):p:=h
theorem _root_.aA5{p:Prop}(h:p:=by first|rfl|(simp;done)|omega|(simp;omega)|(rw [eI];omega)):p:=h
theorem _root_.aA6{p:Prop}(h:p:=by simp;omega):p:=h
theorem _root_.aA7{p:Prop}(h:p:=by rw [eI];omega):p:=h
theorem _root_.aA8{p:Prop}(h:p:=by rw [h];simp):p:=h
theorem _root_.aA9{p:Prop}(h:p:=by simp only [cB,dX];omega):p:=h
theorem _root_.aB0{p:Prop}(h:p:=by simpa using h):p:=h
theorem _root_.aB1{p:Prop}(h:p:=by simp only [dX];omega):p:=h
theorem _root_.aB2{p:Prop}(h:p:=by intro w N;exact(iP J 1 [(Vs ((a (aR e)).1.2.1) (((el c e).1).length) ((a (aR e)).1.2.2)),(Vs ((a (aR e)).2.2.1) (((el c e).2).length) ((a (aR e)).2.2.2))] 36 (Vs ((a (aR e)).2.2.1) (((el c e).2).length) ((a (aR e)).2.2.2)) N rfl aF aF)):p:=h
theorem _root_.aB3{p:Prop}(h:p:=by unfold TI;kernel_rfl):p:=h
theorem _root_.aB4{p:Prop}(h:p:=by simp [kA]):p:=h
theorem _root_.aB5{p:Prop}(h:p:=by rw [h];simp [el]):p:=h
theorem _root_.aB6{p:Prop}(h:p:=by simp only [cB,cF,iO];omega):p:=h
theorem _root_.aB7{p:Prop}(h:p:=by rw [bQ];omega):p:=h
theorem _root_.aB8{p:Prop}(h:p:=by rw [cB,dX];omega):p:=h
theorem _root_.aB9{p:Prop}(h:p:=by simpa using b):p:=h
theorem _root_.aC0{p:Prop}(h:p:=by first|rfl|(simp;done)|(simp;omega)):p:=h
theorem _root_.aC1{p:Prop}(h:p:=by simp only [Cc];omega):p:=h
theorem _root_.aC2{p:Prop}(h:p:=by simp only [cF,iO];omega):p:=h
theorem _root_.aC3{p:Prop}(h:p:=by simpa using a):p:=h
theorem _root_.aC4{p:Prop}(h:p:=by show s.length<_;omega):p:=h
theorem _root_.aC5{p:Prop}(h:p:=by simpa using h1):p:=h
theorem _root_.aC6{p:Prop}(h:p:=by rw [jR];omega):p:=h
theorem _root_.aC7{p:Prop}(h:p:=by show some (Value.slice _ _ _)=_;rw [mE]):p:=h
theorem _root_.aC8{p:Prop}(h:p:=by simpa using h2):p:=h
theorem _root_.aC9{p:Prop}(h:p:=by cases vs with|nil=>exact b|cons a fE=>cases fE<;>exact b):p:=h
theorem _root_.aD0{p:Prop}(h:p:=by intro w N;exact rM (b:=Result.ok (Next.value (.bool j5)) w) aF (bP (fun b=>Result.ok (Next.value (.bool b)) w) f7)):p:=h
theorem _root_.aD1{p:Prop}(h:p:=by simp only [cB,dX,iO];omega):p:=h
theorem _root_.aD2{p:Prop}(h:p:=by simpa using f):p:=h
theorem _root_.aD3{p:Prop}(h:p:=by simp [dM,HP,List.intersperse]):p:=h
theorem _root_.aD4{p:Prop}(h:p:=by show t.length<_;omega):p:=h
theorem _root_.aD5{p:Prop}(h:p:=by rw [CQ];omega):p:=h
theorem _root_.aD6{p:Prop}(h:p:=by unfold xT at h;simp only [mH]at h;exact h.2):p:=h
theorem _root_.aD7{p:Prop}(h:p:=by intro w p;exact(iP d 0 [(Vs s c.2.1.length t)] 88 (Vs s c.2.1.length t) p rfl aF aF)):p:=h
theorem _root_.aD8{p:Prop}(h:p:=by simpa using hx):p:=h
theorem _root_.aD9{p:Prop}(h:p:=by rw [j];exact N):p:=h
theorem _root_.aE0{p:Prop}(h:p:=by simpa using c):p:=h
theorem _root_.aE1{p:Prop}(h:p:=by simpa using A):p:=h
theorem _root_.aE2{p:Prop}(h:p:=by simp [SC.ids]):p:=h
theorem _root_.aE3{p:Prop}(h:p:=by rw [dX];omega):p:=h
theorem _root_.aE4{p:Prop}(h:p:=by intro P p;exact(iP d 0 [(Vs i a.length l)] 88 (Vs i a.length l) p rfl aF aF)):p:=h
theorem _root_.aE5{p:Prop}(h:p:=by unfold Yx;omega):p:=h
theorem _root_.aE6{p:Prop}(h:p:=by simpa using h3):p:=h
theorem _root_.aE7{p:Prop}(h:p:=by unfold maxLen;omega):p:=h
theorem _root_.aE8{p:Prop}(h:p:=by simpa using g):p:=h
theorem _root_.aE9{p:Prop}(h:p:=by simp [Lb]):p:=h
theorem _root_.aF0{p:Prop}(h:p:=by rw [h];omega):p:=h
theorem _root_.aF1{p:Prop}(h:p:=by rw [d];simp;omega):p:=h
theorem _root_.aF2{p:Prop}(h:p:=by unfold Ku;rw [Go.Ce.Tr.UB]):p:=h
theorem _root_.aF3{p:Prop}(h:p:=by rw [gs q dg h h1];exact h3):p:=h
theorem _root_.aF4{p:Prop}(h:p:=by rw [XT (f _ iH)];exact hid):p:=h
theorem _root_.aF5{p:Prop}(h:p:=by rw [HC];exact a):p:=h
theorem _root_.aF6{p:Prop}(h:p:=by simp [List.isPrefixOf]):p:=h
abbrev _root_.YD:=@Array.ext
abbrev _root_.fT:=@Array.getElem?_eq_getElem
abbrev _root_.cA:=@Array.getElem?_eq_some_iff
abbrev _root_.fK:=@Array.getElem?_modify
abbrev _root_.fJ:=@Array.getElem?_toList
abbrev _root_.Ca:=@Array.length_toList
abbrev _root_.vD:=@Array.mem_append
abbrev _root_.vC:=@Array.toList_inj
abbrev _root_.dE:=@Bool.and_eq_true
abbrev _root_.fY:=@Bool.eq_iff_iff
abbrev _root_.Jy:=@Bool.false_eq_true
abbrev _root_.eH:=@Bool.false_or
abbrev _root_.rN:=@Bool.not_eq_true'
abbrev _root_.mO:=@Bool.or_eq_true
abbrev _root_.Te:=@Bool.or_false
abbrev _root_.rM:=@Eq.trans
abbrev _root_.oP:=@Int.le_refl
abbrev _root_.HO:=@Int.natCast_mul
abbrev _root_.Jx:=@Int.natCast_nonneg
abbrev _root_.rK:=@Int.toNat_natCast
abbrev _root_.fI:=@List.Perm.append_left
abbrev _root_.cS:=@List.Sublist.append_left
abbrev _root_.mN:=@List.all_append
abbrev _root_.bH:=@List.all_eq_true
abbrev _root_.eG:=@List.any_cons
abbrev _root_.rJ:=@List.any_eq_false
abbrev _root_.oO:=@List.append_cancel_left
abbrev _root_.LW:=@List.concat_eq_append
abbrev _root_.fX:=@List.cons.injEq
abbrev _root_.Zm:=@List.cons_append
abbrev _root_.tL:=@List.dropWhile_suffix
abbrev _root_.dG:=@List.drop_eq_getElem_cons
abbrev _root_.DK:=@List.drop_eq_nil_of_le
abbrev _root_.XJ:=@List.drop_left
abbrev _root_.eW:=@List.drop_length
abbrev _root_.eP:=@List.drop_succ_cons
abbrev _root_.XI:=@List.drop_take
abbrev _root_.cQ:=@List.drop_zero
abbrev _root_.LV:=@List.eq_nil_or_concat
abbrev _root_.bZ:=@List.ext_getElem?
abbrev _root_.DJ:=@List.flatMap_singleton
abbrev _root_.mM:=@List.foldl_cons
abbrev _root_.bV:=@List.getD_eq_getElem?_getD
abbrev _root_.aI:=@List.getElem?_append_left
abbrev _root_.aK:=@List.getElem?_append_right
abbrev _root_.bT:=@List.getElem?_cons_succ
abbrev _root_.bU:=@List.getElem?_drop
abbrev _root_.aJ:=@List.getElem?_eq_getElem
abbrev _root_.bL:=@List.getElem?_eq_none
abbrev _root_.aD:=@List.getElem?_eq_some_iff
abbrev _root_.aZ:=@List.getElem?_map
abbrev _root_.cU:=@List.getElem?_range
abbrev _root_.Zl:=@List.getElem?_replicate
abbrev _root_.dV:=@List.getElem?_set
abbrev _root_.yF:=@List.getElem?_set_ne
abbrev _root_.bF:=@List.getElem?_set_self
abbrev _root_.bO:=@List.getElem?_take
abbrev _root_.vB:=@List.getElem_mem
abbrev _root_.kY:=@List.getElem_set_ne
abbrev _root_.Jw:=@List.isPrefixOf_iff_prefix
abbrev _root_.Jv:=@List.length_append
abbrev _root_.dD:=@List.length_cons
abbrev _root_.Zk:=@List.length_drop
abbrev _root_.dW:=@List.length_pos_iff
abbrev _root_.bQ:=@List.length_take
abbrev _root_.gC:=@List.map_cons
abbrev _root_.Ju:=@List.map_inj_right
abbrev _root_.jZ:=@List.map_map
abbrev _root_.dP:=@List.map_nil
abbrev _root_.aU:=@List.mem_append
abbrev _root_.aN:=@List.mem_cons
abbrev _root_.jP:=@List.mem_cons_of_mem
abbrev _root_.gZ:=@List.mem_eraseIdx_iff_getElem
abbrev _root_.fH:=@List.mem_iff_getElem?
abbrev _root_.cG:=@List.mem_map
abbrev _root_.aG:=@List.mem_of_getElem?
abbrev _root_.Td:=@List.mem_of_mem_eraseIdx
abbrev _root_.yE:=@List.mem_of_mem_take
abbrev _root_.aE:=@List.mem_singleton
abbrev _root_.jY:=@List.not_mem_nil
abbrev _root_.dU:=@List.pairwise_append
abbrev _root_.hZ:=@List.pairwise_cons
abbrev _root_.eC:=@List.pairwise_iff_getElem
abbrev _root_.XH:=@List.set_append_left
abbrev _root_.Jt:=@List.set_cons_succ
abbrev _root_.Js:=@List.set_cons_zero
abbrev _root_.kM:=@List.sublist_append_right
abbrev _root_.LU:=@List.take_append_drop
abbrev _root_.yD:=@List.take_append_of_le_length
abbrev _root_.Jr:=@List.take_left
abbrev _root_.Zj:=@List.take_length
abbrev _root_.rH:=@List.take_of_length_le
abbrev _root_.eO:=@List.take_succ_cons
abbrev _root_.XG:=@List.take_take
abbrev _root_.gY:=@Nat.add_mul
abbrev _root_.Jq:=@Nat.add_right_comm
abbrev _root_.gO:=@Nat.add_sub_cancel_left
abbrev _root_.hY:=@Nat.blt_eq
abbrev _root_.fG:=@Nat.eq_of_beq_eq_true
abbrev _root_.bG:=@Nat.le_of_ble_eq_true
abbrev _root_.DI:=@Nat.le_of_eq
abbrev _root_.vA:=@Nat.le_of_not_lt
abbrev _root_.oN:=@Nat.le_refl
abbrev _root_.DH:=@Nat.le_trans
abbrev _root_.cN:=@Nat.lt_of_lt_of_le
abbrev _root_.De:=@Nat.lt_or_ge
abbrev _root_.cC:=@Nat.lt_succ_self
abbrev _root_.HN:=@Nat.min_eq_left
abbrev _root_.Zi:=@Nat.mod_eq_of_lt
abbrev _root_.XF:=@Nat.mul_le_mul
abbrev _root_.Ol:=@Nat.mul_pos
abbrev _root_.Aw:=@Nat.not_lt_zero
abbrev _root_.Jp:=@Nat.pos_of_ne_zero
abbrev _root_.Dd:=@Nat.sub_self
abbrev _root_.eV:=@Nat.sub_zero
abbrev _root_.cZ:=@Nat.succ_mul
abbrev _root_.DG:=@Nat.zero_mul
abbrev _root_.cI:=@Option.bind_some
abbrev _root_.jX:=@Option.getD_some
abbrev _root_.Tc:=@Option.isSome_iff_exists
abbrev _root_.rG:=@Option.map_eq_none_iff
abbrev _root_.bY:=@Option.map_eq_some_iff
abbrev _root_.Av:=@Option.map_none
abbrev _root_.aP:=@Option.some.inj
abbrev _root_.aV:=@Option.some.injEq
abbrev _root_.cE:=@Prod.mk.injEq
abbrev _root_.XE:=@Sum.inr.inj
abbrev _root_.tK:=@UInt8.le_iff_toNat_le
abbrev _root_.mL:=@UInt8.toNat_inj
abbrev _root_.nY:=@UInt8.toNat_ofNat'
abbrev _root_.LP:=@UInt8.toNat_sub_of_le
abbrev _root_.Jo:=@and_true
abbrev _root_.aH:=@cond_false
abbrev _root_.aL:=@cond_true
abbrev _root_.bP:=@congrArg
abbrev _root_.dT:=@decide_eq_decide
abbrev _root_.aQ:=@decide_eq_false
abbrev _root_.cH:=@decide_eq_false_iff_not
abbrev _root_.aO:=@decide_eq_true
abbrev _root_.bE:=@decide_eq_true_eq
abbrev _root_.cL:=@if_false
abbrev _root_.aB:=@if_neg
abbrev _root_.aC:=@if_pos
abbrev _root_.eM:=@if_true
abbrev _root_.cY:=@not_true_eq_false
abbrev _root_.fB:=@of_decide_eq_false
abbrev _root_.cJ:=@of_decide_eq_true
abbrev _root_.tN:=@List.flatMap_cons
abbrev _root_.sL:=@cC
abbrev _root_.mI:=@Bool.not_true
abbrev _root_.Ed:=@List.mem_append_left
abbrev _root_.mR:=@Sum.elim_inl
abbrev _root_.oA:=@DH
abbrev _root_.Cc:=@List.length_set
abbrev _root_.tM:=@gC
abbrev _root_.Tp:=@bG
abbrev _root_.Dj:=@List.length_map
abbrev _root_.Cb:=@Bool.not_false
abbrev _root_.Ka:=@List.nil_append
abbrev _root_.Ax:=@Nat.add_assoc
abbrev _root_.To:=@cN
abbrev _root_.Zy:=@List.mem_of_mem_drop
abbrev _root_.aY:=@cI
abbrev _root_.cB:=@Jv
abbrev _root_.cF:=@dD
abbrev _root_.dX:=@List.length_singleton
abbrev _root_.fU:=@jP
abbrev _root_.eI:=@bQ
abbrev _root_.gP:=@fG
abbrev _root_.dH:=@Nat.zero_le
abbrev _root_.iH:=@List.mem_cons_self
abbrev _root_.iI:=@List.append_assoc
abbrev _root_.eJ:=@oN
abbrev _root_.iO:=@List.length_nil
abbrev _root_.jR:=@Zk
abbrev _root_.Jz:=@List.eq_nil_of_length_eq_zero
abbrev _root_.mP:=@rK
abbrev _root_.mH:=@dE
abbrev _root_.kP:=@List.append_nil
abbrev _root_.MA:=@List.drop_drop
abbrev _root_.V6:=@List.set_append_right
abbrev _root_.MX:=@UInt8.toNat_lt
abbrev _root_.ye:=@List.set_eq_take_append_cons_drop
abbrev _root_.N2:=@List.map_singleton
abbrev _root_.Om:=@List.map_append
abbrev _root_.Tg:=@Option.map_some
abbrev _root_.Dh:=@Nat.zero_add
abbrev _root_.Dg:=@Nat.add_zero
abbrev _root_.Df:=@Nat.add_comm
abbrev _root_.LZ:=@LU
abbrev _root_.Kf:=@Bool.true_and
abbrev _root_.MW:=@List.mem_append_right
abbrev _root_.LY:=@List.flatMap_append
abbrev _root_.MV:=@Nat.mul_le_mul_right
abbrev _root_.XM:=@UInt8.lt_iff_toNat_lt
abbrev _root_.XL:=@List.perm_append_comm
abbrev _root_.Lk:=@Sum.elim_inr
abbrev _root_.YG:=@DK
abbrev _root_.YF:=@List.singleton_append
abbrev _root_.LX:=@Zm
abbrev _root_.YE:=@List.map_congr_left
abbrev _root_.DL:=@List.all_cons
def dN(F:Nat->Value)(d:Nat)(v:Value):Nat->Value:=fun t=>bif cP t d then v else F t
structure Md where
 n:Nat
 D:List Deferred
 ro:Option (Option Nat)
def fr(n:Md)(F:Nat->Value):Act:={tmps:=Array.ofFn (n:=n.n) fun i=>F i.val,defers:=n.D}
def aW(n:Md)(F:Nat->Value):Operand->Value
 |.tmp t=>bif fC t n.n then F t else undef
 |.const v=>v
 |.global g=>.pointer (some ⟨g,0,none⟩)
 |.func f=>.func (.func f) #[] #[]
def Za(l:List Value):Nat->Value:=fun t=>l.getD t undef
theorem _root_.Go.aF.{u}{α:Sort u}{a b:α}(h:a=b:=by kernel_rfl):a=b:=h
theorem _root_.Go.kqF{p:Prop}(h:p:=by first|kernel_rfl|(intro _;kernel_rfl)|decide):p:=h
theorem _root_.Go.Ti{p:Prop}(h:p:=by constructor<;>first|exact Go.kqF|(constructor<;>first|exact Go.kqF|(constructor<;>exact Go.kqF))):p:=h
theorem BA{α:Type}{x:α}{C:Prop}(h:none=some x):C:=nomatch h
theorem qc{p:Prop}(h:p:=by(try simp only [List.length_set])<;>first|rfl|omega):p:=h
theorem ym{p:Prop}(h:p:=by(try simp only [List.length_set])<;>first|rfl|omega|simp):p:=h
theorem eU{a b:Nat}(h:Nat.ble a b=true:=by rfl):a<=b:=Tp h
theorem cV(a:Nat)(h:0<a:=by omega):∃m,a=m+1:=⟨a-1,aA0⟩
theorem aT{p:Prop}(h:p:=by omega):p:=h
theorem nK(n:Md)(F:Nat->Value)(t:Nat):(fr n F).tmps.getD t undef=bif fC t n.n then F t else undef:=by
 unfold fr;by_cases h:t<n.n
 ·have a:fC t n.n=true:=by simpa [hY] using h
  simp [h,a]
 ·have a:fC t n.n=false:=by
   cases hx:fC t n.n
   ·rfl
   ·exact absurd (by simpa [hY] using hx) h
  simp [h,a]
theorem HC(n:Md)(F:Nat->Value):(fr n F).eval=aW n F:=by
 funext o;cases o with
 |tmp t=>exact nK n F t
 |const v=>rfl
 |global g=>rfl
 |func f=>rfl
theorem L4(F:Nat->Value)(d:Nat)(v:Value):dN F d v d=v:=by simp [dN]
theorem Em(F:Nat->Value)(d:Nat)(v:Value)(t:Nat)(h:t≠d):dN F d v t=F t:=by
 have:cP t d=false:=by
  cases hx:cP t d
  ·rfl
  ·exact absurd (gP hx) h
 simp [dN,this]
theorem jJ(n:Md)(F:Nat->Value)(d:Nat)(v:Value):(fr n F).put (some d) v=fr n (dN F d v):=by
 unfold fr Act.put;simp only [Act.mk.injEq,Jo];apply YD
 ·simp
 ·intro i h1 h2;simp at h1 h2;by_cases hid:i=d
  ·subst hid;simp [L4]
  ·rw [Array.getElem_setIfInBounds_ne aC5 (fun e=>hid e.symm)];simp [Em _ _ _ _ hid]
theorem Rh(args:List Value)(n:Nat)(h:args.length<=n):
  ({tmps:=args.toArray++Tn (n-args.toArray.size) undef,defers:=[]}:Act)=fr ⟨n,[],none⟩ (Za args):=by
 unfold fr Za;simp only [Act.mk.injEq,Jo];apply YD
 ·simp;omega
 ·intro i h1 h2;simp at h1 h2;simp only [Array.getElem_append,Array.getElem_ofFn,List.getElem_toArray,Array.getElem_replicate];by_cases a:i<args.length
  ·simp [a]
  ·simp [a]
abbrev If(x:Option Nat):Fence:={Fence.wide with round:=x}
def WR(P:Program)(r:Option (Option Nat))(ops:Array Oper)(Q:Exit->Act->World->Prop)(l:List Oper)(a:Act)(w:World):Prop:=
 match r with
 |none=>wpList P ops Q l a w
 |some x=>wpListIn (If x) 0 P ops Q l a w
def CC(P:Program)(r:Option (Option Nat))(Q:Exit->Act->World->Prop)(c:Code)(a:Act)(w:World):Prop:=
 match r with
 |none=>c.wp P Q a w
 |some x=>c.wpIn (If x) 0 P Q a w
def W(P:Program)(n:Md)(ops:Array Oper)(Q:Exit->Act->World->Prop)(l:List Oper)(F:Nat->Value)(w:World):Prop:=WR P n.ro ops Q l (fr n F) w
def C(P:Program)(n:Md)(Q:Exit->Act->World->Prop)(c:Code)(F:Nat->Value)(w:World):Prop:=CC P n.ro Q c (fr n F) w
def Aq(P:Program)(n:Md)(y:Code)(Q:Exit->Act->World->Prop):Exit->Act->World->Prop:=Exit.then (CC P n.ro Q y) Q
def CR(P:Program)(f:FuncId)(args:List Value)(w:World)(R:Value->World->Prop):Prop:=
 Calls P f args.toArray w fun e w'=>∃v,e=.returned v/\R v w'
theorem CR.mono{P:Program}{f:FuncId}{args:List Value}{w:World}{R a:Value->World->Prop}(h:CR P f args w R)(b:∀v w',R v w'->a v w'):CR P f args w a:=
 Calls.mono h fun _ _ ⟨v,e,r⟩=>⟨v,e,b v _ r⟩
section
variable {P : Program} {n : Md} {ops : Array Oper} {Q : Exit -> Act -> World -> Prop} {F : Nat -> Value} {w : World}
theorem Rz{r:Option (Option Nat)}{c:Code}{Q':Exit->Act->World->Prop}{a:Act}(h:CC P r Q c a w)(b:∀e a w,Q e a w->Q' e a w):CC P r Q' c a w:=by
 cases r with
 |none=>exact wp_mono h b
 |some x=>exact wpIn_mono h b
theorem enter{k:Nat}{f:FuncId}{fn:Func}{c:Code}{args:List Value}{R:Value->World->Prop}(d:P.funcs[f]? =some fn)(g:fn.body=some c)(a:fn.ntmps=k)(b:args.length<=k)
  (h:C P ⟨k,[],none⟩ (bodyPost P fn fun e w'=>∃v,e=.returned v/\R v w') c (Za args) w):CR P f args w R:=by
 refine calls_of_wp d g ?_;rw [a,Rh args k b];exact h
theorem Sg{x y:Code}(h:C P n (Aq P n y Q) x F w):C P n Q (.seq x y) F w:=by
 obtain⟨k,D,ro⟩:=n;cases ro with
 |none=>exact wp_seq h
 |some r=>exact wpIn_seq h
theorem Iy(h:Q .normal (fr n F) w):C P n Q .skip F w:=by
 obtain⟨k,D,ro⟩:=n;cases ro with
 |none=>exact wp_skip h
 |some r=>exact wpIn_skip h
theorem J6{l:Nat}(h:Q .normal (fr n F) w):C P n Q (.label l) F w:=by
 obtain⟨k,D,ro⟩:=n;cases ro with
 |none=>exact wp_label h
 |some r=>exact wpIn_label h
theorem An{id:Nat}(h:Q (.exit id) (fr n F) w):C P n Q (.exit id) F w:=by
 obtain⟨k,D,ro⟩:=n;cases ro with
 |none=>exact wp_exit h
 |some r=>exact wpIn_exit h
theorem Oa(h:Q .ret (fr n F) w):C P n Q .ret F w:=by
 obtain⟨k,D,ro⟩:=n;cases ro with
 |none=>exact wp_ret h
 |some r=>exact wpIn_ret h
theorem GY{id:Nat}{c:Code}(h:C P n (Exit.inBlock id Q) c F w):C P n Q (.block id c) F w:=by
 obtain⟨k,D,ro⟩:=n;cases ro with
 |none=>exact wp_block h
 |some r=>exact wpIn_block h
theorem Sb{k:Nat}{D:List Deferred}{c:Code}(h:C P ⟨k,D,none⟩ (Exit.noGoto Q) c F w):C P ⟨k,D,none⟩ Q (.scope c) F w:=wp_scope_straight h
theorem RW(h:Q .normal (fr n F) w):Exit.noGoto Q .normal (fr n F) w:=h
theorem Mp(h:Q .ret (fr n F) w):Exit.noGoto Q .ret (fr n F) w:=h
theorem ax{id:Nat}(h:Q (.exit id) (fr n F) w):Exit.noGoto Q (.exit id) (fr n F) w:=h
theorem CT{id:Nat}{l:List Oper}(h:W P n l.toArray Q l F w):C P n Q (.region id l.toArray false) F w:=by
 obtain⟨k,D,ro⟩:=n;cases ro with
 |none=>exact wp_region_lit h
 |some r=>exact wpIn_region_lit h
theorem qQ{c:Operand}{x y:Code}(a:aW n F c=.bool true)(h:C P n Q x F w):C P n Q (.cond c x y) F w:=by
 obtain⟨k,D,ro⟩:=n;cases ro with
 |none=>exact wp_cond_true aF5 h
 |some r=>exact wpIn_cond_true aF5 h
theorem K4{c:Operand}{x y:Code}(a:aW n F c=.bool false)(h:C P n Q y F w):C P n Q (.cond c x y) F w:=by
 obtain⟨k,D,ro⟩:=n;cases ro with
 |none=>exact wp_cond_false aF5 h
 |some r=>exact wpIn_cond_false aF5 h
theorem qS{c:Operand}{x y:Code}{b:Bool}(a:aW n F c=.bool b)(d:b=true->C P n Q x F w)(e:b=false->C P n Q y F w):C P n Q (.cond c x y) F w:=by
 cases b with
 |true=>exact qQ a (d rfl)
 |false=>exact K4 a (e rfl)
theorem su{c:Operand}{x y:Code}{p:Prop}[Decidable p](d:aW n F c=.bool (decide p))(a:p->C P n Q x F w)(b:¬p->C P n Q y F w):C P n Q (.cond c x y) F w:=
 qS d (fun h=>a (cJ h)) (fun h=>b (fB h))
theorem ey{c:Operand}{x y:Code}{p:Prop}[Decidable p](d:aW n F c=.bool (!decide p))(a:¬p->C P n Q x F w)(b:p->C P n Q y F w):C P n Q (.cond c x y) F w:=
 qS d (fun h=>a aB0) (fun h=>b aB0)
theorem Zr{k k':Nat}{D a:List Deferred}{ro:Option (Option Nat)}{y:Code}(h:C P ⟨k,D,ro⟩ Q y F w):Aq P ⟨k',a,ro⟩ y Q .normal (fr ⟨k,D,ro⟩ F) w:=h
theorem Us{m:Md}{y:Code}(h:Q .ret (fr n F) w):Aq P m y Q .ret (fr n F) w:=h
theorem yJ{m:Md}{y:Code}{id:Nat}(h:Q (.exit id) (fr n F) w):Aq P m y Q (.exit id) (fr n F) w:=h
theorem ab{K:Act->World->Prop}(h:K (fr n F) w):Exit.then K Q .normal (fr n F) w:=h
theorem iW{K:Act->World->Prop}(h:Q .ret (fr n F) w):Exit.then K Q .ret (fr n F) w:=h
theorem Bx{K:Act->World->Prop}{id:Nat}(h:Q (.exit id) (fr n F) w):Exit.then K Q (.exit id) (fr n F) w:=h
theorem WJ{id:Nat}(h:Q .normal (fr n F) w):Exit.inBlock id Q .normal (fr n F) w:=h
theorem tc{id:Nat}(h:Q .ret (fr n F) w):Exit.inBlock id Q .ret (fr n F) w:=h
theorem Am{id:Nat}(h:Q .normal (fr n F) w):Exit.inBlock id Q (.exit id) (fr n F) w:=by simpa [Exit.inBlock] using h
theorem CO{id a:Nat}(b:cP a id=false)(h:Q (.exit a) (fr n F) w):Exit.inBlock id Q (.exit a) (fr n F) w:=by
 have:¬a=id:=fun e=>by subst e;simp at b
 simpa [Exit.inBlock,this] using h
def kX(F:Nat->Value):List (Nat×Value)->Prop
 |[]=>True
 |(t,v)::l=>F t=v/\kX F l
def app:List (Nat×Value)->(Nat->Value)->Nat->Value
 |[],G=>G
 |(t,v)::l,G=>dN (app l G) t v
theorem X8{F:Nat->Value}{t:Nat}{v:Value}(h:F t=v):dN F t v=F:=by
 funext s;by_cases a:s=t
 ·subst a;rw [L4,h]
 ·rw [Em _ _ _ _ a]
theorem CS:∀(l:List (Nat×Value)) (F:Nat->Value),kX F l->app l F=F
 |[],_,_=>rfl
 |(t,v)::l,F,h=>by simp only [app];rw [CS l F h.2];exact X8 h.1
theorem VT{σ:Type}{c:Code}(L:σ->List (Nat×Value))(wd:σ->World->Prop)(m:σ->Nat)(B:σ)(O:kX F (L B))(z:wd B w)
  (round:∀s w G,wd s w->C P n (Exit.then (fun a' w'=>∃s' y,a'=fr n y/\kX y (L s')/\wd s' w'/\m s'<m s) Q) c (app (L s) G) w):
  C P n Q (.loop c) F w:=by
 obtain⟨N,D,ro⟩:=n;cases ro with
 |none=>
  have key:∀k:Nat,∀(b:Frame) (o:List Item) (cs:List Frame) (s:σ) (F:Nat->Value) (w:World),m s=k->kX F (L s)->wd s w->
    ∃e a' w',Q e a' w'/\Arrives P (lone (b.at (fr ⟨N,D,none⟩ F) (.code c::.inLoop c::o)) cs w) b o cs e a' w':=by
   intro k;induction k using Nat.strongRecOn with
   |_ k E=>
    intro b o cs s F w J M H;have v:=round s w F H;rw [CS _ _ M]at v;obtain⟨e,f,d,h,a⟩:=v b (.inLoop c::o) cs;cases e with
    |normal=>obtain⟨s',y,rfl,u,r,t⟩:=h;obtain⟨p,q,j,i,g⟩:=E (m s') (J▸t) b o cs s' y d rfl u r;exact⟨p,q,j,i,.of_steps (Steps.trans a (.one step_inLoop)) g⟩
    |exit id=>exact⟨_,f,d,h,.pass (x:=.inLoop c) rfl (fun _ _=>.inl aA2) a⟩
    |goto l=>exact⟨_,f,d,h,.pass (x:=.inLoop c) rfl (fun _ _=>.inl aA2) a⟩
    |ret=>exact⟨_,f,d,h,.pass (x:=.inLoop c) rfl (fun _ _=>.inl aA2) a⟩
    |panic R=>exact⟨_,f,d,h,.pass (x:=.inLoop c) rfl (fun _ _=>.inl aA2) a⟩
    |outgrown=>exact⟨_,f,d,h,.pass (x:=.inLoop c) rfl (fun _ _=>.inl aA2) a⟩
  intro b o cs;obtain⟨e,a',w',h,a⟩:=key _ b o cs B F w rfl O z;exact⟨e,a',w',h,.of_steps (.one step_loop) a⟩
 |some x=>
  intro b o cs I K v;have key:∀k:Nat,∀(s:σ) (F:Nat->Value) (w:World),m s=k->kX F (L s)->wd s w->
    ∃e a' w',Q e a' w'/\ArrivesIn (Machine.fenced P (If x)) P (lone (b.atR (fr ⟨N,D,some x⟩ F) (.code c::.inLoop c::o)) cs w) b o cs e a' w':=by
   intro k;induction k using Nat.strongRecOn with
   |_ k E=>
    intro s F w J M H;have A:=round s w F H;rw [CS _ _ M]at A;obtain⟨e,f,d,h,a⟩:=A b (.inLoop c::o) cs I K v;cases e with
    |normal=>obtain⟨s',y,rfl,u,r,t⟩:=h;obtain⟨p,q,j,i,g⟩:=E (m s') (J▸t) s' y d rfl u r;exact⟨p,q,j,i,.of_steps (StepsIn.trans a (.one (fenced_calm K v rfl) stepR_inLoop)) g⟩
    |exit id=>exact⟨_,f,d,h,.pass (x:=.inLoop c) rfl (fun _ _=>.inl aA2) a⟩
    |goto l=>exact⟨_,f,d,h,.pass (x:=.inLoop c) rfl (fun _ _=>.inl aA2) a⟩
    |ret=>exact⟨_,f,d,h,.pass (x:=.inLoop c) rfl (fun _ _=>.inl aA2) a⟩
    |panic R=>exact⟨_,f,d,h,.pass (x:=.inLoop c) rfl (fun _ _=>.inl aA2) a⟩
    |outgrown=>exact⟨_,f,d,h,.pass (x:=.inLoop c) rfl (fun _ _=>.inl aA2) a⟩
  obtain⟨e,a',w',h,a⟩:=key _ B F w rfl O z;exact⟨e,a',w',h,.of_steps (.one (fenced_calm K v rfl) stepR_loop) a⟩
theorem Sd{c:Code}{Q':Exit->Act->World->Prop}(h:C P n Q c F w)(b:∀e a w,Q e a w->Q' e a w):C P n Q' c F w:=Rz h b
def xD(a:List Nat)(A G:Nat->Value):Nat->Value:=fun t=>bif a.any (cP t)then A t else G t
theorem SR{A:Nat->Value}:∀{a:List Nat} {F:Nat->Value},a.map F=a.map A->xD a A F=F:=by
 intro a F h;funext t;unfold xD;cases b:a.any (cP t)with
 |false=>rfl
 |true=>obtain⟨x,hx,c⟩:=List.any_eq_true.1 b;have:=gP c;subst this;exact((List.map_inj_left.1 h) t hx).symm
theorem cut{σ:Type}{x y:Code}(c:List Nat)(L:σ->List (Nat×Value))(wd:σ->World->Prop)
  (hx:C P n (Exit.then (fun a' w'=>∃s' b,a'=fr n b/\c.map b=c.map (app (L s') F)/\wd s' w') Q) x F w)
  (d:∀s w G,wd s w->C P n Q y (xD c (app (L s) F) G) w):C P n Q (.seq x y) F w:=by
 refine Sg (Rz hx fun e a w' h=> ?_);cases e with
 |normal=>obtain⟨s',b,rfl,g,f⟩:=h;have:=d s' w' b f;rw [SR g]at this;exact this
 |exit id=>exact h
 |goto l=>exact h
 |ret=>exact h
 |panic i=>exact h
 |outgrown=>exact h
theorem Zo{σ:Type}{c:Code}(b:List Nat)(L:σ->List (Nat×Value))(wd:σ->World->Prop)(m:σ->Nat)(g:σ)(j:wd g w)
  (round:∀s w G,wd s w->C P n (Exit.then (fun a' w'=>∃s' f,a'=fr n f/\b.map f=b.map (app (L s') F)/\wd s' w'/\m s'<m s) Q) c (xD b (app (L s) F) G) w)
  (q:b.map F=b.map (app (L g) F):=by kernel_rfl):C P n Q (.loop c) F w:=by
 have k:∀(A:Nat->Value) (l:List Nat) (G:Nat->Value),kX G (l.map fun t=>(t,A t))↔l.map G=l.map A:=by
  intro A l G;induction l with
  |nil=>simp [kX]
  |cons t l i=>simp [kX,i]
 have ap:∀(A:Nat->Value) (l:List Nat) (G:Nat->Value),app (l.map fun t=>(t,A t)) G=xD l A G:=by
  intro A l G;induction l with
  |nil=>rfl
  |cons t l i=>
   funext u;simp only [tM,app,dN,i,xD,eG];by_cases d:u=t
   ·subst d;simp
   ·have:cP u t=false:=by
     cases hx:cP u t
     ·rfl
     ·exact absurd (gP hx) d
    simp [this]
 refine VT (σ:=σ) (fun s=>b.map fun t=>(t,app (L s) F t)) wd m g ((k _ _ _).2 q) j fun s w G o=> ?_;rw [ap];refine Rz (round s w G o) fun e a w' h=> ?_;cases e with
 |normal=>obtain⟨s',f,h1,h2,h3,p⟩:=h;exact⟨s',f,h1,(k _ _ _).2 h2,h3,p⟩
 |exit id=>exact h
 |goto l=>exact h
 |ret=>exact h
 |panic r=>exact h
 |outgrown=>exact h
theorem iQ(h:Q .normal (fr n F) w):W P n ops Q [] F w:=by
 obtain⟨k,D,ro⟩:=n;cases ro with
 |none=>exact h
 |some r=>exact h
theorem rV{o:Oper}{ρ:Operand->Value}{x:Next}{w':World}(ro:Option Nat)(h:(execOp ρ o).run P w=.ok x w')(hx:∀d,x≠.defer d):o.semAt ro ρ=execOp ρ o:=by
 refine Oper.semAt_eq ro ρ o fun c e=> ?_;unfold execOp at h;rw [e]at h;simp only [Sem.run_bind]at h;cases a:(resolve ρ c o.type).run P w with
 |ok d b=>rw [a]at h;simp [Result.andThen]at h;exact hx d h.1.symm
 |halt d b=>rw [a]at h;simp [Result.andThen]at h
theorem fA{o:Oper}{rest:List Oper}{d:Nat}{v:Value}{w':World}(c:o.guard=none)(f:o.dst=some d)
  (a:(execOp (aW n F) o).run P w=.ok (.value v) w') (h:W P n ops Q rest (dN F d v) w'):W P n ops Q (o::rest) F w:=by
 obtain⟨k,D,ro⟩:=n;cases ro with
 |none=>refine wpList_plain c fun K b=> ?_;unfold Oper.wp;rw [HC,a,Oper.upon_value,f];refine b _ _ ?_;rw [jJ];exact h
 |some r=>refine wpListIn_plain c fun K b=>⟨fun _ _=>trivial, ?_⟩;rw [HC,rV _ a (fun d e=>by cases e),a,Oper.uponIn_value,f];refine b _ _ ?_;rw [jJ];exact h
theorem mU{o:Oper}{rest:List Oper}{w':World}(c:o.guard=none)(f:o.dst=none)
  (a:(execOp (aW n F) o).run P w=.ok .skip w') (h:W P n ops Q rest F w'):W P n ops Q (o::rest) F w:=by
 obtain⟨k,D,ro⟩:=n;cases ro with
 |none=>refine wpList_plain c fun K b=> ?_;unfold Oper.wp;rw [HC,a,Oper.upon_skip,f];exact b _ _ h
 |some r=>refine wpListIn_plain c fun K b=>⟨fun _ _=>trivial, ?_⟩;rw [HC,rV _ a (fun d e=>by cases e),a,Oper.uponIn_skip,f];exact b _ _ h
theorem DU{o:Oper}{rest:List Oper}{f:FuncId}{vs:List Value}{R:Value->World->Prop}(g:o.guard=none)
  (a:(execOp (aW n F) o).run P w=.ok (.enter f vs.toArray) w) (i:CR P f vs w R) (h:∀v w',R v w'->WR P n.ro ops Q rest ((fr n F).put o.dst v) w'):W P n ops Q (o::rest) F w:=by
 obtain⟨k,D,ro⟩:=n;cases ro with
 |none=>refine wpList_plain g fun K c=> ?_;unfold Oper.wp;rw [HC,a,Oper.upon_enter];refine Calls.mono i ?_;rintro e w' ⟨v,rfl,b⟩;exact c _ _ (h v w' b)
 |some r=>refine wpListIn_plain g fun K c=>⟨fun _ _=>trivial, ?_⟩;rw [HC,rV _ a (fun d e=>by cases e),a,Oper.uponIn_enter];refine⟨fun h=>absurd h Bool.false_ne_true, ?_⟩;refine(callsIn_wide (n:=0)).2 (Calls.mono i ?_);rintro e w' ⟨v,rfl,b⟩;exact c _ _ (h v w' b)
theorem ji(ops:Array Oper)(g:Nat)(dg:Nat)(h1:(ops[g]?).bind (·.dst)=some dg)(h3:fC dg n.n=true):
  yielded ops (fr n F).tmps g=match F dg with|.bool b=>some b|_=>none:=by
 have a:dg<n.n:=by simpa [hY] using h3
 unfold yielded;simp [h1,fr,a];cases F dg<;>rfl
theorem AH{a:Option Nat}{op:Op}{ty:TypeId}{pos:String}{after:Array Edge}{g:Nat}{b:Bool}{rest:List Oper}(dg:Nat)
  (h1:(ops[g]?).bind (·.dst)=some dg) (h3:fC dg n.n=true) (d:F dg=.bool b)
  (h:W P n ops Q (⟨a,op,ty,pos,after,none⟩::rest) F w):W P n ops Q (⟨a,op,ty,pos,after,some (g,b)⟩::rest) F w:=by
 have c:Region.wanted ⟨a,op,ty,pos,after,some (g,b)⟩ (yielded ops (fr n F).tmps)=true:=by unfold Region.wanted;simp only [ji ops g dg h1 h3,d];simp
 obtain⟨k,D,ro⟩:=n;cases ro with
 |none=>simp only [W,WR]at h⊢;unfold wpList at h⊢;rw [aC c];rw [aC (by simp [Region.wanted])]at h;exact h
 |some r=>simp only [W,WR]at h⊢;unfold wpListIn at h⊢;rw [aC c];rw [aC (by simp [Region.wanted])]at h;exact h
theorem P1{d:Nat}{op:Op}{ty:TypeId}{pos:String}{after:Array Edge}{g:Nat}{b:Bool}{rest:List Oper}(dg:Nat)
  (h1:(ops[g]?).bind (·.dst)=some dg) (h3:fC dg n.n=true) (c:F dg=.bool (!b))
  (h:W P n ops Q rest (dN F d undef) w):W P n ops Q (⟨some d,op,ty,pos,after,some (g,b)⟩::rest) F w:=by
 have a:¬Region.wanted ⟨some d,op,ty,pos,after,some (g,b)⟩ (yielded ops (fr n F).tmps)=true:=by unfold Region.wanted;simp only [ji ops g dg h1 h3,c];simp
 obtain⟨k,D,ro⟩:=n;cases ro with
 |none=>simp only [W,WR]at h⊢;unfold wpList;rw [aB a];show wpList P ops Q rest ((fr ⟨k,D,none⟩ F).put (some d) undef) w;rw [jJ];exact h
 |some r=>simp only [W,WR]at h⊢;unfold wpListIn;rw [aB a];refine⟨fun _ _=>trivial, ?_⟩;show wpListIn (If r) 0 P ops Q rest ((fr ⟨k,D,some r⟩ F).put (some d) undef) w;rw [jJ];exact h
theorem P0{d:Nat}{op:Op}{ty:TypeId}{pos:String}{after:Array Edge}{g:Nat}{b:Bool}{rest:List Oper}(dg:Nat)
  (h1:(ops[g]?).bind (·.dst)=some dg) (h3:fC dg n.n=true) (c:F dg=undef)
  (h:W P n ops Q rest (dN F d undef) w):W P n ops Q (⟨some d,op,ty,pos,after,some (g,b)⟩::rest) F w:=by
 have a:¬Region.wanted ⟨some d,op,ty,pos,after,some (g,b)⟩ (yielded ops (fr n F).tmps)=true:=by unfold Region.wanted;simp only [ji ops g dg h1 h3,c];simp [undef]
 obtain⟨k,D,ro⟩:=n;cases ro with
 |none=>simp only [W,WR]at h⊢;unfold wpList;rw [aB a];show wpList P ops Q rest ((fr ⟨k,D,none⟩ F).put (some d) undef) w;rw [jJ];exact h
 |some r=>simp only [W,WR]at h⊢;unfold wpListIn;rw [aB a];refine⟨fun _ _=>trivial, ?_⟩;show wpListIn (If r) 0 P ops Q rest ((fr ⟨k,D,some r⟩ F).put (some d) undef) w;rw [jJ];exact h
section
variable {d : Nat} {ty : TypeId} {pos : String} {after : Array Edge} {rest : List Oper}
theorem iJ{x:Operand}(v:Value)(hx:aW n F x=v)(h:W P n ops Q rest (dN F d v) w):W P n ops Q (⟨some d,.move x,ty,pos,after,none⟩::rest) F w:=
 fA rfl rfl (by rw [<-hx];rfl) h
theorem kZ{x:Operand}(v:Value)(hx:aW n F x=v)(h:W P n ops Q rest (dN F d v) w):W P n ops Q (⟨some d,.assign x,ty,pos,after,none⟩::rest) F w:=
 fA rfl rfl (by rw [<-hx];rfl) h
theorem pB{x:Operand}(b:Bool)(hx:aW n F x=.bool b)(a:b=true->W P n ops Q rest (dN F d (.bool true)) w)(c:b=false->W P n ops Q rest (dN F d (.bool false)) w):
  W P n ops Q (⟨some d,.move x,ty,pos,after,none⟩::rest) F w:=by
 cases b with
 |true=>exact iJ _ hx (a rfl)
 |false=>exact iJ _ hx (c rfl)
theorem AG{x:Operand}(p:Prop)[Decidable p](hx:aW n F x=.bool (decide p))(a:p->W P n ops Q rest (dN F d (.bool true)) w)(b:¬p->W P n ops Q rest (dN F d (.bool false)) w):
  W P n ops Q (⟨some d,.move x,ty,pos,after,none⟩::rest) F w:=
 pB _ hx (fun h=>a (cJ h)) (fun h=>b (fB h))
theorem Tx{x:Operand}(p:Prop)[Decidable p](hx:aW n F x=.bool (!decide p))(a:¬p->W P n ops Q rest (dN F d (.bool true)) w)(b:p->W P n ops Q rest (dN F d (.bool false)) w):
  W P n ops Q (⟨some d,.move x,ty,pos,after,none⟩::rest) F w:=
 pB _ hx (fun h=>a aB0) (fun h=>b aB0)
theorem ND{c a b:Operand}(t:Bool)(v:Value)(f:aW n F c=.bool t)(e:(bif t then aW n F a else aW n F b)=v):(execOp (aW n F) (⟨some d,.pick c a b,ty,pos,after,none⟩:Oper)).run P w=.ok (.value v) w:=by simp only [execOp,f];rw [<-e];cases t<;>rfl
theorem NF{x:Operand}{t:TypeId}(b:Bool)(hx:aW n F x=.bool b):(execOp (aW n F) (⟨some d,.unOp .not t x,ty,pos,after,none⟩:Oper)).run P w=.ok (.value (.bool (!b))) w:=by simp only [execOp,hx];rfl
theorem V9{x:Operand}{t:TypeId}(b:Bool)(hx:aW n F x=.bool (!b)):(execOp (aW n F) (⟨some d,.unOp .not t x,ty,pos,after,none⟩:Oper)).run P w=.ok (.value (.bool b)) w:=by simp only [execOp,hx];cases b<;>rfl
structure bJ (a:Int):Prop where
 lo: -9223372036854775808<=a
 hi:a<=9223372036854775807
theorem fw{x:Int}(h1: -9223372036854775808<=x)(h2:x<=9223372036854775807):IntKind.i64.wrap x=x:=by rw [IntKind.wrap_i64];omega
theorem NS{x y:Operand}{t t':TypeId}(k:IntKind)(a b:Int)(hx:aW n F x=.int k a)(c:aW n F y=.int k b):(execOp (aW n F) (⟨some d,.binOp .add t x y t',ty,pos,after,none⟩:Oper)).run P w=.ok (.value (.int k (k.wrap (a+b)))) w:=by simp only [execOp,hx,c,binOp,ne_eq,cY,cL];rfl
theorem vF{x y:Operand}{t t':TypeId}(a b:Int)(hx:aW n F x=.int .i64 a)(c:aW n F y=.int .i64 b)(h1:bJ (a+b)):(execOp (aW n F) (⟨some d,.binOp .add t x y t',ty,pos,after,none⟩:Oper)).run P w=.ok (.value (.int .i64 (a+b))) w:=by rw [NS .i64 a b hx c,fw h1.1 h1.2]
theorem oY{x y:Operand}{t t':TypeId}(a b:Int)(hx:aW n F x=.int .i64 a)(c:aW n F y=.int .i64 b)(h1:bJ (a+b))(h:W P n ops Q rest (dN F d (.int .i64 (a+b))) w):W P n ops Q (⟨some d,.binOp .add t x y t',ty,pos,after,none⟩::rest) F w:=
 fA rfl rfl (vF a b hx c h1) h
theorem NC{x y:Operand}{t t':TypeId}(k:IntKind)(a b:Int)(hx:aW n F x=.int k a)(c:aW n F y=.int k b):(execOp (aW n F) (⟨some d,.binOp .sub t x y t',ty,pos,after,none⟩:Oper)).run P w=.ok (.value (.int k (k.wrap (a-b)))) w:=by simp only [execOp,hx,c,binOp,ne_eq,cY,cL];rfl
theorem rP{x y:Operand}{t t':TypeId}(a b:Int)(hx:aW n F x=.int .i64 a)(c:aW n F y=.int .i64 b)(h1:bJ (a-b)):(execOp (aW n F) (⟨some d,.binOp .sub t x y t',ty,pos,after,none⟩:Oper)).run P w=.ok (.value (.int .i64 (a-b))) w:=by rw [NC .i64 a b hx c,fw h1.1 h1.2]
theorem vK{x y:Operand}{t t':TypeId}(a b:Int)(hx:aW n F x=.int .i64 a)(c:aW n F y=.int .i64 b)(h1:bJ (a-b))(h:W P n ops Q rest (dN F d (.int .i64 (a-b))) w):W P n ops Q (⟨some d,.binOp .sub t x y t',ty,pos,after,none⟩::rest) F w:=
 fA rfl rfl (rP a b hx c h1) h
theorem NH{x y:Operand}{t t':TypeId}(k:IntKind)(a b:Int)(hx:aW n F x=.int k a)(c:aW n F y=.int k b):(execOp (aW n F) (⟨some d,.binOp .mul t x y t',ty,pos,after,none⟩:Oper)).run P w=.ok (.value (.int k (k.wrap (a*b)))) w:=by simp only [execOp,hx,c,binOp,ne_eq,cY,cL];rfl
theorem DR{x y:Operand}{t t':TypeId}(a b:Int)(hx:aW n F x=.int .i64 a)(c:aW n F y=.int .i64 b)(h1:bJ (a*b)):(execOp (aW n F) (⟨some d,.binOp .mul t x y t',ty,pos,after,none⟩:Oper)).run P w=.ok (.value (.int .i64 (a*b))) w:=by rw [NH .i64 a b hx c,fw h1.1 h1.2]
theorem YL{x y:Operand}{t t':TypeId}(a b:Int)(hx:aW n F x=.int .i64 a)(c:aW n F y=.int .i64 b)(h1:bJ (a*b))(h:W P n ops Q rest (dN F d (.int .i64 (a*b))) w):W P n ops Q (⟨some d,.binOp .mul t x y t',ty,pos,after,none⟩::rest) F w:=
 fA rfl rfl (DR a b hx c h1) h
theorem NI{x y:Operand}{t t':TypeId}(k:IntKind)(a b:Int)(hx:aW n F x=.int k a)(c:aW n F y=.int k b):(execOp (aW n F) (⟨some d,.binOp .lss t x y t',ty,pos,after,none⟩:Oper)).run P w=.ok (.value (.bool (decide (a<b)))) w:=by simp only [execOp,hx,c,binOp,ne_eq,cY,cL];rfl
theorem NJ{x y:Operand}{t t':TypeId}(k:IntKind)(a b:Int)(hx:aW n F x=.int k a)(c:aW n F y=.int k b):(execOp (aW n F) (⟨some d,.binOp .leq t x y t',ty,pos,after,none⟩:Oper)).run P w=.ok (.value (.bool (decide (a<=b)))) w:=by simp only [execOp,hx,c,binOp,ne_eq,cY,cL];rfl
theorem NM{x y:Operand}{t t':TypeId}(k:IntKind)(a b:Int)(hx:aW n F x=.int k a)(c:aW n F y=.int k b):(execOp (aW n F) (⟨some d,.binOp .gtr t x y t',ty,pos,after,none⟩:Oper)).run P w=.ok (.value (.bool (decide (b<a)))) w:=by simp only [execOp,hx,c,binOp,ne_eq,cY,cL];rfl
theorem NN{x y:Operand}{t t':TypeId}(k:IntKind)(a b:Int)(hx:aW n F x=.int k a)(c:aW n F y=.int k b):(execOp (aW n F) (⟨some d,.binOp .geq t x y t',ty,pos,after,none⟩:Oper)).run P w=.ok (.value (.bool (decide (b<=a)))) w:=by simp only [execOp,hx,c,binOp,ne_eq,cY,cL];rfl
theorem NQ{x y:Operand}{t t':TypeId}(k:IntKind)(a b:Int)(hx:aW n F x=.int k a)(c:aW n F y=.int k b):(execOp (aW n F) (⟨some d,.binOp .eql t x y t',ty,pos,after,none⟩:Oper)).run P w=.ok (.value (.bool (decide (a=b)))) w:=by simp only [execOp,hx,c,binOp,ne_eq,cY,cL];rfl
theorem NG{x y:Operand}{t t':TypeId}(k:IntKind)(a b:Int)(hx:aW n F x=.int k a)(c:aW n F y=.int k b):(execOp (aW n F) (⟨some d,.binOp .neq t x y t',ty,pos,after,none⟩:Oper)).run P w=.ok (.value (.bool (!decide (a=b)))) w:=by simp only [execOp,hx,c,binOp,ne_eq,cY,cL];rfl
end
end
attribute [irreducible] W C Aq WR CC
def at_(l:List UInt8)(i:Int):UInt8:=l.getD i.toNat 0
def sub(l:List UInt8)(i j:Int):List UInt8:=(l.drop i.toNat).take (j.toNat-i.toNat)
end Go.Wk
set_option linter.unusedSimpArgs false
namespace Go.Wk
open Go.Op renaming bytesLess → nZ
open Nat renaming blt → fC
def str(l:List UInt8):Value:=.string ⟨l.toArray⟩
def bt(c:UInt8):Value:=.int .u8 (c.toNat:Int)
def Enters(P : Program)(f : FuncId) : Prop := ∃ fn c, P.funcs[f]? = some fn /\ fn.body = some c /\ (fn.name == "runtime.NumGoroutine") = false
theorem Enters.run{P:Program}{f:FuncId}(h:Enters P f)(args:Array Value)(w:World):(callFunc f args).run P w=.ok (.enter f args) w:=by obtain⟨fn,c,h1,h2,h3⟩:=h;unfold callFunc;show Sem.run P (match P.funcs[f]? with|none=>_|some fn=>_) w=_;rw [h1];simp only [h3,h2];rfl
section
variable {P : Program} {n : Md} {ops : Array Oper} {Q : Exit -> Act -> World -> Prop} {F : Nat -> Value} {w : World}
theorem pK{kk:Nat}{ro:Option (Option Nat)}{fn:Func}{R:Value->World->Prop}{t:Nat}(v:Value)(b:fn.results= #[.tmp t])(a:aW ⟨kk,[],ro⟩ F (.tmp t)=v)(h:R v w):
  bodyPost P fn (fun e w'=>∃v,e=.returned v/\R v w') .ret (fr ⟨kk,[],ro⟩ F) w:=
 ⟨rfl,v,by rw [results_tmp b,nK];exact bP (fun x=>Result.ok x w) a,v,rfl,h⟩
theorem tX{kk:Nat}{ro:Option (Option Nat)}{fn:Func}{R:Value->World->Prop}(a:fn.results= #[])(h:R (.tuple #[]) w):
  bodyPost P fn (fun e w'=>∃v,e=.returned v/\R v w') .ret (fr ⟨kk,[],ro⟩ F) w:=
 ⟨rfl,_,results_none a _ _ _,_,rfl,h⟩
theorem rX{kk:Nat}{ro:Option (Option Nat)}{fn:Func}{R:Value->World->Prop}(a:fn.results= #[])(h:R (.tuple #[]) w):
  bodyPost P fn (fun e w'=>∃v,e=.returned v/\R v w') .normal (fr ⟨kk,[],ro⟩ F) w:=
 ⟨rfl,_,results_none a _ _ _,_,rfl,h⟩
theorem Lx{kk:Nat}{ro:Option (Option Nat)}{fn:Func}{R:Value->World->Prop}{t u:Nat}(v a:Value)(d:fn.results= #[.tmp t,.tmp u])(c:aW ⟨kk,[],ro⟩ F (.tmp t)=v)(b:aW ⟨kk,[],ro⟩ F (.tmp u)=a)(h:R (.tuple #[v,a]) w):
  bodyPost P fn (fun e w'=>∃v,e=.returned v/\R v w') .ret (fr ⟨kk,[],ro⟩ F) w:=by
 refine⟨rfl,_, ?_,_,rfl,h⟩;rw [results_tmp2 d,nK,nK];have g:(bif fC t kk then F t else undef)=v:=c;have f:(bif fC u kk then F u else undef)=a:=b;rw [g,f]
theorem XU{kk:Nat}{ro:Option (Option Nat)}{fn:Func}{R:Value->World->Prop}{t u s:Nat}(v c a:Value)(g:fn.results= #[.tmp t,.tmp u,.tmp s])(f:aW ⟨kk,[],ro⟩ F (.tmp t)=v)(d:aW ⟨kk,[],ro⟩ F (.tmp u)=c)(b:aW ⟨kk,[],ro⟩ F (.tmp s)=a)
  (h:R (.tuple #[v,c,a]) w):bodyPost P fn (fun e w'=>∃v,e=.returned v/\R v w') .ret (fr ⟨kk,[],ro⟩ F) w:=by
 refine⟨rfl,_, ?_,_,rfl,h⟩;have k:(bif fC t kk then F t else undef)=v:=f;have j:(bif fC u kk then F u else undef)=c:=d;have i:(bif fC s kk then F s else undef)=a:=b;simp [results,g,nK,k,j,i,-Array.getD_eq_getD_getElem?]
section
variable {d : Nat} {ty : TypeId} {pos : String} {after : Array Edge} {rest : List Oper}
theorem oX{b:Operand}{fE:Array Operand}{a:Array TypeId}(f:FuncId)(cap:Array Value)(vs:List Value)(R:Value->World->Prop)(j:Enters P f)
  (e:aW n F b=.func (.func f) #[] cap) (i: #[]++fE.map (aW n F)++cap=vs.toArray) (g:CR P f vs w R) (h:∀v w',R v w'->W P n ops Q rest (dN F d v) w'):
  W P n ops Q (⟨some d,.call ⟨.value b,fE,a⟩,ty,pos,after,none⟩::rest) F w:=by
 refine DU rfl ?_ g (fun v w' c=> ?_)
 ·simp only [execOp,resolve,e,Deferred.ofValue];show Sem.run P (callFunc f (#[]++fE.map (aW n F)++cap)) w=_;rw [i];exact j.run _ _
 ·have:=h v w' c;unfold W at this;rw [<-jJ]at this;exact this
theorem YT{b:Operand}{fE:Array Operand}{a:Array TypeId}(f:FuncId)(cap:Array Value)(vs:List Value)(R:Value->World->Prop)(i:Enters P f)
  (d:aW n F b=.func (.func f) #[] cap) (g: #[]++fE.map (aW n F)++cap=vs.toArray) (e:CR P f vs w R) (h:∀v w',R v w'->W P n ops Q rest F w'):
  W P n ops Q (⟨none,.call ⟨.value b,fE,a⟩,ty,pos,after,none⟩::rest) F w:=by
 refine DU rfl ?_ e (fun v w' c=> ?_)
 ·simp only [execOp,resolve,d,Deferred.ofValue];show Sem.run P (callFunc f (#[]++fE.map (aW n F)++cap)) w=_;rw [g];exact i.run _ _
 ·have:=h v w' c;unfold W at this;exact this
theorem O0{x y:Operand}{c:Array TypeId}(k:IntKind)(a b:Int)(hx:aW n F x=.int k a)(f:aW n F y=.int k b):(execOp (aW n F) (⟨some d,.call ⟨.builtin .min, #[x,y],c⟩,ty,pos,after,none⟩:Oper)).run P w=.ok (.value (.int k (min a b))) w:=by
 have e:(execOp (aW n F) (⟨some d,.call ⟨.builtin .min, #[x,y],c⟩,ty,pos,after,none⟩:Oper)).run P w=.ok (.value (.int k (if b<a then b else a))) w:=by simp only [execOp,resolve,List.map_toArray,tM,dP,hx,f];rfl
 rw [e];congr 3;split<;>omega
theorem nh{x y:Operand}{c:Array TypeId}(k:IntKind)(a b:Int)(hx:aW n F x=.int k a)(e:aW n F y=.int k b)(h:W P n ops Q rest (dN F d (.int k (min a b))) w):W P n ops Q (⟨some d,.call ⟨.builtin .min, #[x,y],c⟩,ty,pos,after,none⟩::rest) F w:=
 fA rfl rfl (O0 k a b hx e) h
theorem O1{x y:Operand}{c:Array TypeId}(k:IntKind)(a b:Int)(hx:aW n F x=.int k a)(f:aW n F y=.int k b):(execOp (aW n F) (⟨some d,.call ⟨.builtin .max, #[x,y],c⟩,ty,pos,after,none⟩:Oper)).run P w=.ok (.value (.int k (max a b))) w:=by
 have e:(execOp (aW n F) (⟨some d,.call ⟨.builtin .max, #[x,y],c⟩,ty,pos,after,none⟩:Oper)).run P w=.ok (.value (.int k (if a<b then b else a))) w:=by simp only [execOp,resolve,List.map_toArray,tM,dP,hx,f];rfl
 rw [e];congr 3;split<;>omega
theorem nj{x y:Operand}{c:Array TypeId}(k:IntKind)(a b:Int)(hx:aW n F x=.int k a)(e:aW n F y=.int k b)(h:W P n ops Q rest (dN F d (.int k (max a b))) w):W P n ops Q (⟨some d,.call ⟨.builtin .max, #[x,y],c⟩,ty,pos,after,none⟩::rest) F w:=
 fA rfl rfl (O1 k a b hx e) h
theorem O2{x:Operand}{t:TypeId}(l:List UInt8)(a:P.underlying t=some .string)(hx:aW n F x=str l):(execOp (aW n F) (⟨some d,.call ⟨.builtin .len, #[x], #[t]⟩,ty,pos,after,none⟩:Oper)).run P w=.ok (.value (.int .i64 (l.length:Int))) w:=by simp [execOp,resolve,invoke,builtin,hx,str,run_len_string _ _ _ _ a,goInt];rfl
theorem DP{x y:Operand}{t t':TypeId}(a b:List UInt8)(hx:aW n F x=str a)(c:aW n F y=str b):(execOp (aW n F) (⟨some d,.binOp .eql t x y t',ty,pos,after,none⟩:Oper)).run P w=.ok (.value (.bool (decide (a=b)))) w:=by
 have e:(a==b)=decide (a=b):=by rw [fY];simp
 simp [execOp,hx,c,str,eqGuard,binOp_string_eql,e]
theorem DM{x y:Operand}{t t':TypeId}(a b:List UInt8)(hx:aW n F x=str a)(c:aW n F y=str b):(execOp (aW n F) (⟨some d,.binOp .neq t x y t',ty,pos,after,none⟩:Oper)).run P w=.ok (.value (.bool (!decide (a=b)))) w:=by
 have e:(a==b)=decide (a=b):=by rw [fY];simp
 simp [execOp,hx,c,str,eqGuard,binOp_string_neq,e]
theorem DN{x y:Operand}{t t':TypeId}(a b:List UInt8)(hx:aW n F x=str a)(c:aW n F y=str b):(execOp (aW n F) (⟨some d,.binOp .lss t x y t',ty,pos,after,none⟩:Oper)).run P w=.ok (.value (.bool (nZ a b))) w:=by simp [execOp,hx,c,str,eqGuard,binOp_string_lss]
theorem DO{x y:Operand}{t t':TypeId}(a b:List UInt8)(hx:aW n F x=str a)(c:aW n F y=str b):(execOp (aW n F) (⟨some d,.binOp .gtr t x y t',ty,pos,after,none⟩:Oper)).run P w=.ok (.value (.bool (!(nZ a b||a==b)))) w:=by simp [execOp,hx,c,str,eqGuard,binOp,Op.stringOp]
theorem Tq{x y:Operand}{t t':TypeId}(a b:List UInt8)(hx:aW n F x=str a)(e:aW n F y=str b)(c:a.length+b.length<=9223372036854775807)
  :(execOp (aW n F) (⟨some d,.binOp .add t x y t',ty,pos,after,none⟩:Oper)).run P w=.ok (.value (str (a++b))) w:=by
 simp [execOp,hx,e,str,eqGuard,binOp_string_add,run_string_add_sum (P:=P) w ⟨a.toArray⟩ ⟨b.toArray⟩ c,ByteArray.mk_append_mk]
theorem MM{x y:Operand}{t t':TypeId}(a b:List UInt8)(hx:aW n F x=str a)(e:aW n F y=str b)(c:a.length+b.length<=9223372036854775807)
  (h:W P n ops Q rest (dN F d (str (a++b))) w):W P n ops Q (⟨some d,.binOp .add t x y t',ty,pos,after,none⟩::rest) F w:=
 fA rfl rfl (Tq a b hx e c) h
theorem mT{x ix:Operand}{t:TypeId}(l:List UInt8)(k:IntKind)(i:Int)(b:P.underlying t=some .string)(hx:aW n F x=str l)(f:aW n F ix=.int k i)
  (g:0<=i/\i<(l.length:Int)):(execOp (aW n F) (⟨some d,.index t x ix,ty,pos,after,none⟩:Oper)).run P w=.ok (.value (bt (at_ l i))) w:=by
 have a:0<=i/\i<(⟨l.toArray⟩:ByteArray).size:=g;have c:i.toNat<l.length:=aA0;have e:=run_index_string (P:=P) w t ⟨l.toArray⟩ k i b;rw [dif_pos a]at e;simp only [execOp,hx,f,str,Sem.run_bind,e,Result.andThen_ok];show Result.ok (Next.value (.int .u8 ((l[i.toNat]).toNat:Int))) w=_;simp [bt,at_,c]
theorem mV{x ix:Operand}{t:TypeId}(l:List UInt8)(k:IntKind)(i:Int)(a:P.underlying t=some .string)(hx:aW n F x=str l)(b:aW n F ix=.int k i)
  (c:0<=i/\i<(l.length:Int)) (h:W P n ops Q rest (dN F d (bt (at_ l i))) w):W P n ops Q (⟨some d,.index t x ix,ty,pos,after,none⟩::rest) F w:=
 fA rfl rfl (mT l k i a hx b c) h
theorem DQ{x f h:Operand}{t:TypeId}(l:List UInt8)(k k':IntKind)(i j:Int)(g:P.underlying t=some .string)(hx:aW n F x=str l)(a:aW n F f=.int k i)(b:aW n F h=.int k' j)
  (c:0<=i/\i<=j/\j<=(l.length:Int)):(execOp (aW n F) (⟨some d,.slice t x (some f) (some h) none,ty,pos,after,none⟩:Oper)).run P w=.ok (.value (str (sub l i j))) w:=by
 have e:=run_slice_string (P:=P) w t ⟨l.toArray⟩ k k' i j g c.1 c.2.1 c.2.2;simp only [execOp,hx,a,b,str,Sem.run_bind,Tg,Av,run_sliceAt_string w t _ _ _ _ g,e,Result.andThen_ok,ByteArray.extract_mk];rfl
theorem Oq{x c e:Operand}{t:TypeId}(l:List UInt8)(k k':IntKind)(i j:Int)(f:P.underlying t=some .string)(hx:aW n F x=str l)(a:aW n F c=.int k i)(b:aW n F e=.int k' j)
  (g:0<=i/\i<=j/\j<=(l.length:Int)) (h:W P n ops Q rest (dN F d (str (sub l i j))) w):W P n ops Q (⟨some d,.slice t x (some c) (some e) none,ty,pos,after,none⟩::rest) F w:=
 fA rfl rfl (DQ l k k' i j f hx a b g) h
theorem mS{x b:Operand}{t:TypeId}(l:List UInt8)(k:IntKind)(i:Int)(c:P.underlying t=some .string)(hx:aW n F x=str l)(a:aW n F b=.int k i)
  (f:0<=i/\i<=(l.length:Int)):(execOp (aW n F) (⟨some d,.slice t x (some b) none none,ty,pos,after,none⟩:Oper)).run P w=.ok (.value (str (l.drop i.toNat))) w:=by
 have e:=run_slice_string_l (P:=P) (w:=w) (t:=t) (s:=⟨l.toArray⟩) c k i f.1 f.2;simp only [execOp,hx,a,str,Sem.run_bind,Tg,Av,run_sliceAt_string w t _ _ _ _ c,e,Result.andThen_ok,ByteArray.extract_mk];have g:(l.drop i.toNat).take ((⟨l.toArray⟩:ByteArray).size-i.toNat)=l.drop i.toNat:=rH (by show(l.drop i.toNat).length<=l.length-i.toNat;simp);rw [g];rfl
theorem jo{x b:Operand}{t:TypeId}(l:List UInt8)(k:IntKind)(i:Int)(c:P.underlying t=some .string)(hx:aW n F x=str l)(a:aW n F b=.int k i)
  (e:0<=i/\i<=(l.length:Int)) (h:W P n ops Q rest (dN F d (str (l.drop i.toNat))) w):W P n ops Q (⟨some d,.slice t x (some b) none none,ty,pos,after,none⟩::rest) F w:=
 fA rfl rfl (mS l k i c hx a e) h
theorem Ef{x c:Operand}{t:TypeId}(l:List UInt8)(k:IntKind)(j:Int)(b:P.underlying t=some .string)(hx:aW n F x=str l)(a:aW n F c=.int k j)
  (f:0<=j/\j<=(l.length:Int)):(execOp (aW n F) (⟨some d,.slice t x none (some c) none,ty,pos,after,none⟩:Oper)).run P w=.ok (.value (str (l.take j.toNat))) w:=by
 have e:=run_slice_string_h (P:=P) (w:=w) (t:=t) (s:=⟨l.toArray⟩) b k j f.1 f.2;simp only [execOp,hx,a,str,Sem.run_bind,Tg,Av,run_sliceAt_string w t _ _ _ _ b,e,Result.andThen_ok,ByteArray.extract_mk,cQ,eV];rfl
theorem Ej{x b:Operand}{t:TypeId}(l:List UInt8)(k:IntKind)(j:Int)(c:P.underlying t=some .string)(hx:aW n F x=str l)(a:aW n F b=.int k j)
  (e:0<=j/\j<=(l.length:Int)) (h:W P n ops Q rest (dN F d (str (l.take j.toNat))) w):W P n ops Q (⟨some d,.slice t x none (some b) none,ty,pos,after,none⟩::rest) F w:=
 fA rfl rfl (Ef l k j c hx a e) h
theorem AE{x:Operand}{s t:TypeId}(k k':IntKind)(a:Int)(c:P.underlying s=some (.int k'))(b:P.underlying t=some (.int k))(hx:aW n F x=.int k' a):(execOp (aW n F) (⟨some d,.convert s t x,ty,pos,after,none⟩:Oper)).run P w=.ok (.value (.int k (k.wrap a))) w:=by simp [execOp,hx,convert,run_underlying c,run_underlying b,Conv.intToInt]
theorem rQ{x:Operand}{s t:TypeId}(k k':IntKind)(a:Int)(e:P.underlying s=some (.int k'))(c:P.underlying t=some (.int k))(hx:aW n F x=.int k' a)(b:k.wrap a=a):(execOp (aW n F) (⟨some d,.convert s t x,ty,pos,after,none⟩:Oper)).run P w=.ok (.value (.int k a)) w:=by rw [AE k k' a e c hx,b]
theorem DV{x:Operand}{s t:TypeId}(k k':IntKind)(a:Int)(e:P.underlying s=some (.int k'))(c:P.underlying t=some (.int k))(hx:aW n F x=.int k' a)(b:k.wrap a=a)(h:W P n ops Q rest (dN F d (.int k a)) w):W P n ops Q (⟨some d,.convert s t x,ty,pos,after,none⟩::rest) F w:=
 fA rfl rfl (rQ k k' a e c hx b) h
theorem HQ{x:Operand}{s t:TypeId}(l:List UInt8)(b:P.underlying s=some .string)(a:P.underlying t=some .string)(hx:aW n F x=str l):(execOp (aW n F) (⟨some d,.convert s t x,ty,pos,after,none⟩:Oper)).run P w=.ok (.value (str l)) w:=by simp [execOp,hx,str,convert,run_underlying b,run_underlying a]
theorem mw{x y:Operand}{t t':TypeId}(a b:Bool)(e:P.underlying t=some .bool)(hx:aW n F x=.bool a)(c:aW n F y=.bool b):(execOp (aW n F) (⟨some d,.binOp .eql t x y t',ty,pos,after,none⟩:Oper)).run P w=.ok (.value (.bool (a==b))) w:=by simp [execOp,hx,c,eqGuard,run_eql_bool _ _ _ _ e]
theorem mr{x y:Operand}{t t':TypeId}(a b:Bool)(e:P.underlying t=some .bool)(hx:aW n F x=.bool a)(c:aW n F y=.bool b):(execOp (aW n F) (⟨some d,.binOp .neq t x y t',ty,pos,after,none⟩:Oper)).run P w=.ok (.value (.bool (!(a==b)))) w:=by simp [execOp,hx,c,eqGuard,run_neq_bool _ _ _ _ e]
theorem Lm{x:Operand}{i:Nat}(vs:Array Value)(v:Value)(hx:aW n F x=.tuple vs)(a:vs[i]? =some v):(execOp (aW n F) (⟨some d,.extract x i,ty,pos,after,none⟩:Oper)).run P w=.ok (.value v) w:=by simp [execOp,hx,Instr.extract,a]
end
end
structure bX where
 own:Option Nat
 ok:Option Obj->Prop
def bX.holds(r:bX)(w:World):Prop:=r.ok (r.own.bind fun b=>w.heap[b]?)
def aM(b:Nat)(cs:List Value)(e:TypeId):bX:=⟨some b,fun o=>o=some (.cells cs.toArray e (0,0))⟩
def row(v:Value)(e:TypeId)(sz n:Nat)(b:List Value):bX:=
 ⟨v.ownBlock,fun o=>b.length=n*sz/\((v=.slice none 0 0/\n=0)\/
  ∃g cap a,v=.slice (some ⟨g,0,none⟩) n cap/\o=some (.cells a e (0,0))/\n<=cap/\cap<=maxLen/\a.size=cap*sz/\a.toList.take (n*sz)=b)⟩
def eN(v:Value)(n:Nat)(l:List UInt8):bX:=
 ⟨v.ownBlock,fun o=>l.length=n/\∃g cap a e b,v=.slice (some ⟨g,0,none⟩) n cap/\o=some (.cells a e b)/\n<=cap/\cap<=a.size/\a.toList.take n=l.map bt/\a.size<=b.1⟩
structure Hp (w0:World) (S:List Nat) (L:List bX) (w:World):Prop where
 os:w.os=w0.os
 tape:w.tape=w0.tape
 output:w.output=w0.output
 size:w0.heap.size<=w.heap.size
 below:∀k,k<w0.heap.size->k∉S->w.heap[k]? =w0.heap[k]?
 res:∀r∈L,r.holds w/\∀b,r.own=some b->b<w.heap.size/\(w0.heap.size<=b\/b∈S)
 sep:L.Pairwise fun r r'=>∀b,r.own=some b->r'.own≠some b
theorem Hp.refl(w:World):Hp w [] [] w:=⟨rfl,rfl,rfl,eJ _,fun _ _ _=>rfl,fun _ h=>by simp at h,List.Pairwise.nil⟩
theorem Hp.toBelow{w0 w:World}{L:List bX}(h:Hp w0 [] L w):RowKit.Below w0.heap.size w0 w:=⟨h.os,h.tape,h.output,h.size,fun k a=>h.below k a aA2⟩
theorem Hp.wK{w w':World}(h:RowKit.Below w.heap.size w w'):Hp w [] [] w':=⟨h.os,h.tape,h.output,h.size,fun k a _=>h.block k a,fun _ h=>by simp at h,List.Pairwise.nil⟩
theorem bX.holds_of{r:bX}{w w':World}(h:r.holds w)(c:∀b,r.own=some b->w'.heap[b]? =w.heap[b]?):r.holds w':=by
 unfold bX.holds at*;cases a:r.own with
 |none=>simpa [a] using h
 |some b=>simpa [a,c b a] using h
theorem Hp.sub{w0 w:World}{S:List Nat}{L b:List bX}(h:Hp w0 S L w)(a:b.Sublist L):Hp w0 S b w:=
 ⟨h.os,h.tape,h.output,h.size,h.below,fun r c=>h.res r (a.subset c),h.sep.sublist a⟩
theorem Hp.nil{w0 w:World}{S:List Nat}{L:List bX}(h:Hp w0 S L w):Hp w0 S [] w:=h.sub (List.nil_sublist _)
theorem Hp.perm{w0 w:World}{S:List Nat}{L d:List bX}(h:Hp w0 S L w)(c:L.Perm d):Hp w0 S d w:=
 ⟨h.os,h.tape,h.output,h.size,h.below,fun r e=>h.res r (c.symm.subset e),c.pairwise h.sep (fun h b f a=>h b a f)⟩
theorem Hp.kJ{w0 w w':World}{S:List Nat}{L i:List bX}(h:Hp w0 S L w)(c:Hp w [] i w'):Hp w0 S (i++L) w':=by
 have d:∀b,b<w.heap.size->w'.heap[b]? =w.heap[b]? :=fun b d=>c.below b d aA2;refine⟨c.os.trans h.os,c.tape.trans h.tape,c.output.trans h.output,oA h.size c.size,fun k g j=> ?_,fun r a=> ?_, ?_⟩
 ·rw [d k (To g h.size)];exact h.below k g j
 ·rcases aU.1 a with a|a
  ·refine⟨(c.res r a).1,fun b e=> ?_⟩;have:=(c.res r a).2 b e;simp at this;exact⟨this.1,.inl (oA h.size this.2)⟩
  ·refine⟨bX.holds_of (h.res r a).1 fun b e=>d b ((h.res r a).2 b e).1,fun b e=> ?_⟩;have:=(h.res r a).2 b e;exact⟨To this.1 c.size,this.2⟩
 ·refine dU.2 ⟨c.sep,h.sep,fun r a r' f b e e'=> ?_⟩;have h1:=(c.res r a).2 b e;have h2:=(h.res r' f).2 b e';simp at h1;omega
theorem Hp.call{w0 w w':World}{S:List Nat}{L:List bX}(h:Hp w0 S L w)(a:Hp w [] [] w'):Hp w0 S L w':=h.kJ a
theorem Hp.change{w0 w w':World}{S:List Nat}{L:List bX}(h:Hp w0 S L w)(k:Nat)(r r':bX)(C:L[k]? =some r)(M:w'.os=w.os)(J:w'.tape=w.tape)(I:w'.output=w.output)
  (E:w.heap.size<=w'.heap.size) (G:∀j,j<w.heap.size->some j≠r.own->w'.heap[j]? =w.heap[j]?) (K:r'.holds w')
  (B:∀b,r'.own=some b->(r.own=some b\/w.heap.size<=b)/\b<w'.heap.size):Hp w0 S (L.set k r') w':=by
 have m:r∈L:=aG C;have t:k<L.length:=(aD.1 C).1;have l:∀x,x∈L.eraseIdx k->∀b,x.own=some b->r.own≠some b:=by
  intro x hx b q s;obtain⟨j,c,a,p⟩:∃j,∃(c:j<L.length),j≠k/\L[j]=x:=by rw [gZ]at hx;obtain⟨j,c,a,e⟩:=hx;exact⟨j,c,a,e⟩
  have u:L[k]=r:=(aD.1 C).2;have A:=eC.1 h.sep;rcases De j k with F|F
  ·exact A j k c t F b (by rw [p];exact q) (by rw [u];exact s)
  ·exact A k j t c aA0 b (by rw [u];exact s) (by rw [p];exact q)
 have d:∀x,x∈L.set k r'->x=r'\/x∈L.eraseIdx k:=by
  intro x hx;obtain⟨j,c,e⟩:=List.getElem_of_mem hx;by_cases a:j=k
  ·subst a;left;simpa using e.symm
  ·right;rw [gZ];refine⟨j,aE0,a, ?_⟩;rw [kY (fun e=>a e.symm)]at e;exact e
 have f:∀x∈L.eraseIdx k,∀b,x.own=some b->w'.heap[b]? =w.heap[b]? :=fun x hx b e=>
  G b ((h.res x (Td hx)).2 b e).1 (fun e'=>l x hx b e e'.symm)
 refine⟨M.trans h.os,J.trans h.tape,I.trans h.output,oA h.size E,fun j c H=> ?_,fun x hx=> ?_, ?_⟩
 ·rw [G j (To c h.size) (fun e=> ?_)];exact h.below j c H;have:=((h.res r m).2 j e.symm).2;rcases this with h1|h1
  ·omega
  ·exact H h1
 ·rcases d x hx with rfl|hx
  ·refine⟨K,fun b e=>⟨(B b e).2, ?_⟩⟩;rcases(B b e).1 with h1|h1
   ·exact((h.res r m).2 b h1).2
   ·exact .inl (oA h.size h1)
  ·have o:=Td hx;exact⟨bX.holds_of (h.res x o).1 (f x hx),fun b e=>⟨To ((h.res x o).2 b e).1 E,((h.res x o).2 b e).2⟩⟩
 ·have n:∀x∈L.eraseIdx k,∀b,r'.own=some b->x.own≠some b:=by
   intro x hx b e e';rcases(B b e).1 with h1|h1
   ·exact l x hx b e' h1
   ·have:=((h.res x (Td hx)).2 b e').1;omega
  have A:=eC.1 h.sep;refine eC.2 fun i j N c D b=> ?_;have z:i<L.length:=by simpa using N
  have y:j<L.length:=aE0;by_cases g:i=k
  ·subst g;have v:j≠i:=by omega
   rw [List.getElem_set_self,kY (fun e=>v e.symm)];intro e;exact n _ (by rw [gZ];exact⟨j,y,v,rfl⟩) b e
  ·by_cases a:j=k
   ·subst a;rw [List.getElem_set_self,kY (fun e=>g e.symm)];intro e e';exact n _ (by rw [gZ];exact⟨i,z,g,rfl⟩) b e' e
   ·rw [kY (fun e=>g e.symm),kY (fun e=>a e.symm)];exact A i j z y D b
theorem Hp.alloc{w0 w:World}{S:List Nat}{L:List bX}(h:Hp w0 S L w)(cs:List Value)(e:TypeId):Hp w0 S (aM w.heap.size cs e::L) (w.alloc (.cells cs.toArray e (0,0))):=by
 have h2:Hp w [] [aM w.heap.size cs e] (w.alloc (.cells cs.toArray e (0,0))):=by
  refine⟨rfl,rfl,rfl,aA2,fun k c _=>RowKit.Below.heap_alloc w _ k c,fun r a=> ?_,aA2⟩;simp at a;subst a;refine⟨?_,fun b e=> ?_⟩
  ·show(w.heap.push (.cells cs.toArray e (0,0)))[w.heap.size]? =_;simp
  ·simp [aM]at e;subst e;simp
 exact h.kJ h2
theorem Hp.dK{w0 w:World}{S:List Nat}{L:List bX}(h:Hp w0 S L w)(k:Nat){b:Nat}{cs:List Value}{e:TypeId}(a:L[k]? =some (aM b cs e)):
  w.heap[b]? =some (.cells cs.toArray e (0,0)):=(h.res _ (aG a)).1
section
variable {P : Program} {n : Md} {ops : Array Oper} {Q : Exit -> Act -> World -> Prop} {F : Nat -> Value} {w w0 : World} {S : List Nat} {L : List bX}
variable {d : Nat} {ty : TypeId} {pos : String} {after : Array Edge} {rest : List Oper}
theorem iC{o:Oper}(g:Hp w0 S L w)(cs:List Value)(e:TypeId)(V:Nat->Value)(c:o.guard=none)(f:o.dst=some d)
  (a:(execOp (aW n F) o).run P w=.ok (.value (V w.heap.size)) (w.alloc (.cells cs.toArray e (0,0))))
  (h:∀b w',Hp w0 S (aM b cs e::L) w'->W P n ops Q rest (dN F d (V b)) w'):W P n ops Q (o::rest) F w:=
 fA c f a (h _ _ (g.alloc cs e))
theorem fk{b off:Nat}{cs:List Value}{e:TypeId}{a:Nat×Nat}(h:w.heap[b]? =some (.cells cs.toArray e a)):w.cell? ⟨b,off,none⟩=cs[off]? :=by simp [World.cell?,h]
theorem gB{x:Operand}{t:TypeId}(i:Hp w0 S L w)(k b off:Nat)(cs:List Value)(e:TypeId)(v:Value)(f:L[k]? =some (aM b cs e))(c:cs[off]? =some v)
  (hx:aW n F x=.pointer (some ⟨b,off,none⟩)) (g:(isAgg t).run P w=.ok false w) (h:W P n ops Q rest (dN F d v) w):
  W P n ops Q (⟨some d,.load t x,ty,pos,after,none⟩::rest) F w:=by
 refine fA (w':=w) rfl rfl ?_ h;have a:=fk (off:=off) (i.dK k f);rw [c]at a;simp [execOp,hx,Instr.loadAt,Instr.sureAddr,loadVar,g,a]
theorem HJ(b off i:Nat):(⟨b,off,none⟩:Addr).add i=⟨b,off+i,none⟩:=by
 unfold Addr.add;by_cases a:i=0
 ·subst a;simp
 ·simp [a]
theorem kE{x:Operand}{t:TypeId}(r:Hp w0 S L w)(k b off m:Nat)(cs vs:List Value)(e:TypeId)(l:L[k]? =some (aM b cs e))(f:(cs.drop off).take m=vs)(i:vs.length=m)
  (hx:aW n F x=.pointer (some ⟨b,off,none⟩)) (q:(isAgg t).run P w=.ok true w) (g:(sizeOf t).run P w=.ok m w) (h:W P n ops Q rest (dN F d (.agg vs.toArray)) w):
  W P n ops Q (⟨some d,.load t x,ty,pos,after,none⟩::rest) F w:=by
 refine fA (w':=w) rfl rfl ?_ h;have p:=r.dK k l;have o:(loadCells ⟨b,off,none⟩ m).run P w=.ok vs.toArray w:=by
  rw [<-i];refine run_loadCells_list w ⟨b,off,none⟩ vs fun j v a=> ?_;rw [HJ,fk p];rw [<-f]at a;have c:j<m:=by have:=(aD.1 a).1;simp at this;omega
  rw [bO,aC c,bU]at a;exact a
 simp [execOp,hx,Instr.loadAt,Instr.sureAddr,loadVar,q,g,o]
def Cs(cs:List Value)(off:Nat)(vs:List Value):List Value:=cs.take off++vs++cs.drop (off+vs.length)
theorem Hp.stored{k b off:Nat}{cs vs:List Value}{e:TypeId}(g:Hp w0 S L w)(f:L[k]? =some (aM b cs e))(h:off+vs.length<=cs.length)(h1:∀v∈vs,v.oneCell'=true):
  ∃w',(storeCells ⟨b,off,none⟩ vs).run P w=.ok () w'/\Hp w0 S (L.set k (aM b (Cs cs off vs) e)) w':=by
 have d:=g.dK k f;have a:=run_storeCells_at P b off e vs 0 cs.toArray w d aB0 h1;refine⟨_,a,g.change k (aM b cs e) _ f rfl rfl rfl aA2 (fun j i c=>setRow_other w b j _ (fun e=>c (by simp [aM,e]))) ?_ ?_⟩
 ·show(w.setRow b _).heap[b]? =_;rw [setRow_heap w b cs.toArray _ e _ d];simp [Cs]
 ·intro b' e';simp [aM]at e';subst e';refine⟨.inl rfl, ?_⟩;have:=(cA.1 d).1;simpa using this
theorem gV{x y:Operand}{t:TypeId}(p:Hp w0 S L w)(k b off:Nat)(cs:List Value)(e:TypeId)(v:Value)(f:List bX)(m:L[k]? =some (aM b cs e))(l:off<cs.length)
  (hx:aW n F x=.pointer (some ⟨b,off,none⟩)) (g:aW n F y=v) (h1:v.oneCell'=true) (i:(sizeOf t).run P w=.ok 1 w) (o:L.set k (aM b (cs.set off v) e)=f)
  (h:∀w',Hp w0 S f w'->W P n ops Q rest F w'):
  W P n ops Q (⟨none,.store t x y,ty,pos,after,none⟩::rest) F w:=by
 have a:v.cells= #[v]:=by cases v<;>first|rfl|simp [Value.oneCell']at h1
 obtain⟨w',j,c⟩:=p.stored (P:=P) (vs:=[v]) (off:=off) m aA6 aC5;have d:Cs cs off [v]=cs.set off v:=by unfold Cs;rw [ye,aC l];simp
 rw [d,o]at c;refine mU (w':=w') rfl rfl ?_ (h w' c);simp [execOp,hx,g,Instr.storeAt,Instr.sureAddr,storeVar,i,a,j]
theorem nT{x y:Operand}{t:TypeId}(m:Hp w0 S L w)(k b off:Nat)(cs vs:List Value)(e:TypeId)(c:List bX)(j:L[k]? =some (aM b cs e))(i:off+vs.length<=cs.length)
  (hx:aW n F x=.pointer (some ⟨b,off,none⟩)) (d:aW n F y=.agg vs.toArray) (h1:vs.all (·.oneCell')=true) (f:(sizeOf t).run P w=.ok vs.length w) (l:L.set k (aM b (Cs cs off vs) e)=c)
  (h:∀w',Hp w0 S c w'->W P n ops Q rest F w'):
  W P n ops Q (⟨none,.store t x y,ty,pos,after,none⟩::rest) F w:=by
 obtain⟨w',g,a⟩:=m.stored (P:=P) (vs:=vs) (off:=off) j i aC5;rw [l]at a;refine mU (w':=w') rfl rfl ?_ (h w' a);simp [execOp,hx,d,Instr.storeAt,Instr.sureAddr,storeVar,f,Value.cells,g]
end
open List renaming replicate → hC
open Nat renaming beq → cP, blt → fC
open _root_.Array renaming replicate → Tn
section
variable {P : Program} {ops : Array Oper} {Q : Exit -> Act -> World -> Prop} {md : Region.Mode} {S : Nat -> World -> World -> Prop}
def eQ(D:List Nat)(f:World->Prop)(j:Nat)(w w':World):Prop:=D.contains j=false->f w->f w'
theorem eQ.same{D:List Nat}{f:World->Prop}{j:Nat}{w:World}:eQ D f j w w:=fun _ h=>h
theorem eQ.out{D:List Nat}{f:World->Prop}{j:Nat}{w w':World}(h:D.contains j=true):eQ D f j w w':=fun a=>by rw [h]at a;cases a
theorem eQ.new{D:List Nat}{f:World->Prop}{j:Nat}{w w':World}(h:f w'):eQ D f j w w':=fun _ _=>h
def vI(P:Program)(md:Region.Mode)(ops:Array Oper)(Q:Exit->Act->World->Prop)(S:Nat->World->World->Prop)(k:Nat)(Z:Act->World->Prop):Nat->Array Bool->Act->World->Prop
 |0,listed,a,w=>Region.seqB md ops (ops.size-k) k listed=true/\Z a w
 |f+1,listed,a,w=>Region.ready md ops listed≠[]/\∀i∈Region.ready md ops listed,i<k/\wpOp P ops Q i (fun a' w'=>S i w w'/\vI P md ops Q S k Z f (listed.setIfInBounds i true) a' w') a w
theorem Qc{k:Nat}{Z:Act->World->Prop}(d:k<=ops.size)(c:∀a w,Z a w->wpList P ops Q (ops.toList.drop k) a w):
  ∀(f:Nat) (listed:Array Bool) (a:Act) (w:World),vI P md ops Q S k Z f listed a w->wpAny P md ops Q (f+(ops.size-k)) listed a w
 |0,listed,a,w,h=>by have b:(ops.toList.drop k).length=ops.size-k:=aA2;have:=wpAny_of_seq (md:=md) (Q':=Q) (ops.toList.drop k) k listed a w (fun j=>by simp [bU]) (by rw [b];exact h.1) (c a w h.2);rw [b]at this;rw [Dh];exact this
 |f+1,listed,a,w,h=>by rw [show f+1+(ops.size-k)=(f+(ops.size-k))+1 by omega];exact⟨fun g=>absurd g h.1,fun i e=>wpOp_mono (fun a' w' l=>Qc d c f _ a' w' l.2) (h.2 i e).2⟩
def Ik(md:Region.Mode)(ops:Array Oper)(i:Nat)(D:List Nat):Bool:=
 D.all fun j=>match ops[j]? with
  |some o=>o.after.any fun e=>Region.binds md e&&fC e.on j&&(cP e.on i||D.contains e.on)
  |none=>true
theorem Kz{k i:Nat}{D:List Nat}{listed:Array Bool}(n:Ik md ops i D=true)(c:HeadInv md ops k listed)(f:listed.getD i true=false):∀j,j∈D->j<ops.size->listed.getD j true=false:=by
 intro j;induction j using Nat.strongRecOn with
 |_ j h=>
  intro l b;cases g:listed.getD j false with
  |false=>exact getD_in (by rw [c.size];exact b) g
  |true=>
   exfalso;have h1:=bH.1 n j l;rw [fT b]at h1;simp only [Array.any_eq_true']at h1;obtain⟨e,m,h2⟩:=h1;simp only [mH,mO]at h2;have a:=c.closed j ops[j] (fT b) g e m h2.1.1;rcases h2.2 with h3|h3
   ·rw [gP h3]at a;have:=getD_both f;rw [this]at a;cases a
   ·have d:e.on<j:=by simpa [hY] using h2.1.2
    have o:=h e.on d aE6 aA0;have:=getD_both o;rw [this]at a;cases a
theorem Ij{k i j:Nat}{D:List Nat}{listed:Array Bool}(m:Ik md ops i D=true)(f:HeadInv md ops k listed)(b:listed.getD i true=false)(o:j∈Region.ready md ops listed):j∉D:=by
 intro g;obtain⟨l,r,c,d⟩:=mem_ready.1 o;have n:j<ops.size:=(cA.1 c).1;have h1:=bH.1 m j g;rw [c]at h1;simp only [Array.any_eq_true']at h1;obtain⟨e,p,h2⟩:=h1;simp only [mH,mO]at h2;have a:=d e p h2.1.1;rcases h2.2 with h3|h3
 ·rw [gP h3,getD_both b]at a;cases a
 ·have h:e.on<j:=by simpa [hY] using h2.1.2
  have q:=Kz m f b e.on aE6 aA0;rw [getD_both q]at a;cases a
theorem IX{k i:Nat}{Z:Act->World->Prop}{oi:Oper}{v:Value}(Si:World->Prop)(D:List Nat)(hD:Ik md ops i D=true)(N:∀j w w',S j w w'->eQ D Si j w w')(M:ops[i]? =some oi)(s:∀(j:Nat) (o:Oper) cs b,ops[j]? =some o->o.op≠.select cs b)
  (Y:∀c a w,Q (.panic c) (a.put oi.dst v) w->Q (.panic c) a w) (V:i<k)
  (l:∀listed:Array Bool,HeadInv md ops k listed->listed.getD i true=false->∀t,k<=t->t∉Region.ready md ops listed):
  ∀(f:Nat) (listed:Array Bool) (a:Act) (w:World),HeadInv md ops k listed->
   (∀j z,ops[j]? =some z->j≠i->listed.getD j true=false->(∀e∈z.after,Region.binds md e=true->e.on≠i)->oi.apart ops z=true)->
   i∈Region.ready md ops listed->YieldsIf P ops Si oi v a->Si w->(∀j w,S j w w)->
   vI P md ops Q S k Z f (listed.setIfInBounds i true) (a.put oi.dst v) w->vI P md ops Q S k Z (f+1) listed a w:=by
 intro f;induction f with
 |zero=>
  intro listed a w n g u G I r H;have p:=(mem_ready.1 u).1;refine⟨fun O=>(by rw [O]at u;cases u),fun j y=> ?_⟩
  have q:j<k:=by
   rcases De j k with h|h
   ·exact h
   ·exact absurd y (l listed n p j h)
  by_cases d:j=i
  ·subst d;exact⟨q,G.wpOp M I ⟨r _ _,H⟩⟩
  ·have h1:=seqB_ready H.1 j (ready_mono y d);omega
 |succ f T=>
  intro listed a w n g u G I r H;have p:=(mem_ready.1 u).1;refine⟨fun O=>(by rw [O]at u;cases u),fun j y=> ?_⟩
  have q:j<k:=by
   rcases De j k with h|h
   ·exact h
   ·exact absurd y (l listed n p j h)
  by_cases d:j=i
  ·subst d;exact⟨q,G.wpOp M I ⟨r _ _,H⟩⟩
  ·have h1:=(H.2 j (ready_mono y d)).2;have L:=Ij hD n p y;obtain⟨x,z,A,F⟩:=mem_ready.1 y;have C:∀e∈z.after,Region.binds md e=true->e.on≠i:=fun e W X heq=>by have h2:=F e W X;rw [heq,getD_both p]at h2;cases h2
   have h2:=wpOp_putIf A (g j z A d x C) (fun cs b=>s i oi cs b M) (fun cs b=>s j z cs b A) Y G h1;refine⟨q,wpOp_mono (fun a' w' h3=>⟨h3.2.1,T (listed.setIfInBounds j true) a' w' (n.set y q) (fun m R U K B J=>g m R U K ?_ J) (ready_mono u (Ne.symm d)) h3.1 (N j _ w' h3.2.1 (by simpa using L) I) r ?_⟩) h2⟩
   ·by_cases E:j=m
    ·subst E;exact x
    ·rw [getD_set_ne true E]at B;exact B
   ·rw [Array.setIfInBounds_comm _ _ d];exact h3.2.2
def Ao(ops:Array Oper)(k:Nat):Bool:=Region.noSelect ops&&decide (k<=ops.size)&&(decide (k=ops.size)||(Region.sinkB .any ops k&&Region.chainB .any ops k))
theorem pG{k i:Nat}(h:Ao ops k=true)(c:i<k):∀listed:Array Bool,HeadInv .any ops k listed->listed.getD i true=false->∀t,k<=t->t∉Region.ready .any ops listed:=by
 intro listed a b t f e;simp only [Ao,mH,mO,bE]at h;have d:t<ops.size:=by obtain⟨_,o,g,_⟩:=mem_ready.1 e;exact(cA.1 g).1
 rcases h.2 with h2|h2
 ·omega
 ·exact tail_waits h2.1 h2.2 aA0 a (k-i) i rfl c b t f e
end
section
variable {P : Program} {kn : Nat} {kD : List Deferred} {ops : Array Oper} {Q : Exit -> Act -> World -> Prop} {S : Nat -> World -> World -> Prop} {Si : World -> Prop} {F : Nat -> Value} {w : World}
def Zh(Q:Exit->Act->World->Prop):Prop:=∀c a w,¬Q (.panic c) a w
def R(P:Program)(n:Md)(ops:Array Oper)(Q:Exit->Act->World->Prop)(S:Nat->World->World->Prop)(k f:Nat)(listed:List Bool)(F:Nat->Value)(w:World):Prop:=
 HeadInv .any ops k listed.toArray->(∀j w,S j w w)->Zh Q->vI P .any ops Q S k (fun a w=>wpList P ops Q (ops.toList.drop k) a w) f listed.toArray (fr n F) w
def RK(P:Program)(n:Md)(ops:Array Oper)(Q:Exit->Act->World->Prop)(S:Nat->World->World->Prop)(k f:Nat)(listed:List Bool)(i:Nat)(w:World):Exit->Act->World->Prop:=
 Exit.then (fun a' w'=>∃a,a'=fr n a/\S i w w'/\R P n ops Q S k f listed a w') Q
theorem Hp.GQ{w0 w:World}{S0:List Nat}{L:List bX}(h:Hp w0 S0 L w):Hp w0 S0 L {w with drawn:=w.drawn+1}:=
 ⟨h.os,h.tape,h.output,h.size,h.below,h.res,h.sep⟩
theorem XQ{w0:World}{S0:List Nat}{L:List bX}{id:Nat}{l:List Oper}(k:Nat)(S:Nat->World->World->Prop)(listed:List Bool)(b:∀j w,S j w w)(i:P.follows .mixedOrders=true)(f:Ao l.toArray k=true)
  (o:Hp w0 S0 L w) (d:hC l.length false=listed) (n:Zh Q) (h:∀w',Hp w0 S0 L w'->R P ⟨kn,kD,none⟩ l.toArray Q S k k listed F w'):C P ⟨kn,kD,none⟩ Q (.region id l.toArray true) F w:=by
 unfold C CC;have m:k<=l.toArray.size:=by simp only [Ao,mH,bE]at f;exact f.1.2
 have c:HeadInv .any l.toArray k (Tn l.toArray.size false):=
  ⟨aA2,fun j p _ d=>(by rw [getD_replicate_false]at d;cases d),fun t _ g=>getD_in aE8 (getD_replicate_false _ _)⟩
 have e:listed.toArray=Tn l.toArray.size false:=by subst d;apply vC.1;simp
 refine wp_region_any i ?_;have h1:=h _ o.GQ (by rw [e];exact c) b n;have h2:=Qc (S:=S) m (fun a w h=>h) k _ _ _ h1;rw [e,show k+(l.toArray.size-k)=l.toArray.size by omega]at h2;exact h2
theorem MJ{fn:Func}{d:Value->World->Prop}:Zh (bodyPost P fn fun e w'=>∃v,e=.returned v/\d v w'):=by intro c a w h;obtain⟨_,v,b,_⟩:=h;cases b
theorem Cr{y:Code}(h:Zh Q):Zh (Aq P ⟨kn,kD,none⟩ y Q):=by unfold Aq;exact h
theorem Cu{id:Nat}(h:Zh Q):Zh (Exit.inBlock id Q):=h
theorem lG(h:Zh Q):Zh (Exit.noGoto Q):=h
theorem Kc{K:Act->World->Prop}(h:Zh Q):Zh (Exit.then K Q):=h
theorem mK{o:Oper}{v:Value}(c:o.guard=none)(a:∀w,Si w->(execOp (aW ⟨kn,kD,none⟩ F) o).run P w=.ok (.value v) w):YieldsIf P ops Si o v (fr ⟨kn,kD,none⟩ F):=
 .inl ⟨by simp [Region.wanted,c],fun w b=>by rw [HC];exact a w b⟩
theorem NA{c:Option Nat}{op:Op}{ty:TypeId}{pos:String}{after:Array Edge}{g:Nat}{b:Bool}{v:Value}(dg:Nat)
  (h1:(ops[g]?).bind (·.dst)=some dg) (h3:fC dg kn=true) (e:F dg=.bool b)
  (a:∀w,Si w->(execOp (aW ⟨kn,kD,none⟩ F) (⟨c,op,ty,pos,after,none⟩:Oper)).run P w=.ok (.value v) w):YieldsIf P ops Si ⟨c,op,ty,pos,after,some (g,b)⟩ v (fr ⟨kn,kD,none⟩ F):=by
 refine .inl ⟨?_,fun w d=> ?_⟩
 ·unfold Region.wanted;simp only [ji (n:=⟨kn,kD,none⟩) ops g dg h1 h3,e];simp
 ·rw [HC];exact a w d
theorem mo{a:Option Nat}{op:Op}{ty:TypeId}{pos:String}{after:Array Edge}{g:Nat}{b:Bool}(dg:Nat)
  (h1:(ops[g]?).bind (·.dst)=some dg) (h3:fC dg kn=true) (c:F dg=.bool (!b)):YieldsIf P ops Si ⟨a,op,ty,pos,after,some (g,b)⟩ undef (fr ⟨kn,kD,none⟩ F):=by
 refine .inr ⟨?_,rfl⟩;unfold Region.wanted;simp only [ji (n:=⟨kn,kD,none⟩) ops g dg h1 h3,c];cases b<;>rfl
theorem ml{a:Option Nat}{op:Op}{ty:TypeId}{pos:String}{after:Array Edge}{g:Nat}{b:Bool}(dg:Nat)
  (h1:(ops[g]?).bind (·.dst)=some dg) (h3:fC dg kn=true) (c:F dg=undef):YieldsIf P ops Si ⟨a,op,ty,pos,after,some (g,b)⟩ undef (fr ⟨kn,kD,none⟩ F):=by
 refine .inr ⟨?_,rfl⟩;unfold Region.wanted;simp only [ji (n:=⟨kn,kD,none⟩) ops g dg h1 h3,c];simp [undef]
theorem nB(listed:List Bool)(i:Nat):listed.toArray.setIfInBounds i true=(listed.set i true).toArray:=aA2
theorem Sq{k f:Nat}{listed:List Bool}(b:List Bool)(i d:Nat)(v:Value)(D:List Nat)(t:∀j w w',S j w w'->eQ D Si j w w')(o:Oper)(u:ops[i]? =some o)(B:o.dst=some d)(r:Ao ops k=true)(E:Ik .any ops i D=true)(m:Region.free .any ops listed.toArray i=true)
  (z:(Region.ready .any ops listed.toArray).contains i=true) (s:fC i k=true) (A:listed.set i true=b) (y:YieldsIf P ops Si o v (fr ⟨kn,kD,none⟩ F)) (C:Si w)
  (h:R P ⟨kn,kD,none⟩ ops Q S k f b (dN F d v) w):R P ⟨kn,kD,none⟩ ops Q S k (f+1) listed F w:=by
 intro n e x;have g:i<k:=by simpa [hY] using s
 have q:i∈Region.ready .any ops listed.toArray:=by simpa using z
 have p:Region.noSelect ops=true:=by simp only [Ao,mH]at r;exact r.1.1
 refine IX Si D E t u (Region.noSelect_spec p) (fun c a w h=>absurd h (x c _ w)) g (pG r g) f _ _ _ n (Region.free_spec u m) q y C e ?_;have l:=n.set q g;rw [nB,A]at l⊢;have:=h l e x;rw [<-jJ,<-B]at this;exact this
theorem QO{k f:Nat}{listed:List Bool}(a:List Bool)(i d:Nat)(v:Value)(o:Oper)(l:ops[i]? =some o)(n:o.dst=some d)(g:Ao ops k=true)(b:Region.free .any ops listed.toArray i=true)
  (j:(Region.ready .any ops listed.toArray).contains i=true) (c:fC i k=true) (m:listed.set i true=a) (e:YieldsIf P ops (fun _=>True) o v (fr ⟨kn,kD,none⟩ F))
  (h:R P ⟨kn,kD,none⟩ ops Q S k f a (dN F d v) w):R P ⟨kn,kD,none⟩ ops Q S k (f+1) listed F w:=
 Sq (Si:=fun _=>True) a i d v [] (fun _ _ _ _ _ _=>trivial) o l n g rfl b j c m e trivial h
theorem Gh{i:Nat}{o:Oper}{K:Act->World->Prop}{a:Act}(c:ops[i]? =some o)(h:wpList P ops (Exit.then K Q) [o] a w):wpOp P ops Q i K a w:=by
 unfold wpOp;simp only [c];unfold wpList at h;split
 ·rename_i b;rw [aC b]at h;rcases h with h|h
  ·refine .inl ?_;unfold Oper.wp at*
   generalize(execOp a.eval o).run P w=r at*
   cases r with
   |ok x w'=>cases x<;>exact h
   |halt x w'=>cases x<;>exact h
  ·exact .inr h
 ·rename_i b;rw [aB b]at h;exact h
theorem y6{k f:Nat}{listed:List Bool}(b:List Bool)(i:Nat)(o:Oper)(m:ops[i]? =some o)(n:listed.set i true=b)(g:HeadInv .any ops k listed.toArray)(d:∀j w,S j w w)(r:Zh Q)
  (l:i∈Region.ready .any ops listed.toArray) (e:i<k) (h:W P ⟨kn,kD,none⟩ ops (RK P ⟨kn,kD,none⟩ ops Q S k f b i w) [o] F w):
  i<k/\wpOp P ops Q i (fun a' w'=>S i w w'/\vI P .any ops Q S k (fun a w=>wpList P ops Q (ops.toList.drop k) a w) f (listed.toArray.setIfInBounds i true) a' w') (fr ⟨kn,kD,none⟩ F) w:=by
 refine⟨e, ?_⟩;have c:=g.set l e;rw [nB,n]at c⊢;unfold W WR RK at h;refine wpOp_mono ?_ (Gh m h);rintro a' w' ⟨s,rfl,p,q⟩;exact⟨p,q c d r⟩
theorem QP{k f:Nat}{listed:List Bool}(a:List Bool)(i:Nat)(o:Oper)(l:ops[i]? =some o)(d:Region.ready .any ops listed.toArray=[i])(e:fC i k=true)(m:listed.set i true=a)
  (h:W P ⟨kn,kD,none⟩ ops (RK P ⟨kn,kD,none⟩ ops Q S k f a i w) [o] F w):R P ⟨kn,kD,none⟩ ops Q S k (f+1) listed F w:=by
 intro c b n;refine⟨by rw [d];simp,fun j g=> ?_⟩;rw [d]at g;obtain rfl:j=i:=aE8;exact y6 a j o l m c b n (by rw [d];simp) (by simpa [hY] using e) h
theorem kS{k f i:Nat}{w0:World}{listed:List Bool}(a:S i w0 w)(h:R P ⟨kn,kD,none⟩ ops Q S k f listed F w):RK P ⟨kn,kD,none⟩ ops Q S k f listed i w0 .normal (fr ⟨kn,kD,none⟩ F) w:=⟨F,rfl,a,h⟩
theorem LF{k:Nat}{listed:List Bool}(a:Region.seqB .any ops (ops.size-k) k listed.toArray=true)(h:W P ⟨kn,kD,none⟩ ops Q (ops.toList.drop k) F w):R P ⟨kn,kD,none⟩ ops Q S k 0 listed F w:=by intro _ _ _;unfold W WR at h;exact⟨a,h⟩
end
attribute [irreducible] R RK
open Go.Value renaming ownBlock → yM
open List renaming drop → bK, take → kO
open Nat renaming blt → fC
open UInt8 renaming ofNat → rO
open _root_.Array renaming replicate → Tn
def ea(a:Option Addr)(j:Nat):Addr:=match a with
 |some p=>p.add j
 |none=>⟨0,j,none⟩
theorem add_add(p:Addr)(j k:Nat):(p.add j).add k=p.add (j+k):=by
 unfold Addr.add;by_cases b:j=0
 ·subst b;simp
 ·by_cases a:k=0
  ·subst a;simp
  ·simp [b,a,Ax]
theorem BZ(a:Option Addr)(j k:Nat):(ea a j).add k=ea a (j+k):=by
 cases a with
 |none=>exact HJ 0 j k
 |some p=>exact add_add p j k
def Rd(w:World)(a:Option Addr)(b:List Value):Prop:=∀j v,b[j]? =some v->∃p,a=some p/\w.cell? (p.add j)=some v
theorem xR{w:World}{p:Addr}{v:Value}(h:w.cell? p=some v):p.block<w.heap.size:=by
 unfold World.cell? at h;cases a:w.heap[p.block]? with
 |none=>simp [a]at h
 |some o=>exact(cA.1 a).1
theorem jc(p:Addr)(j:Nat):(p.add j).block=p.block:=by unfold Addr.add;split<;>rfl
theorem Nz{w w':World}{p:Addr}(h:w'.heap[p.block]? =w.heap[p.block]?):w'.cell? p=w.cell? p:=by simp only [World.cell?,h]
theorem Rd.mono{w w':World}{a:Option Addr}{c:List Value}(h:Rd w a c)(f:∀b,b<w.heap.size->w'.heap[b]? =w.heap[b]?):Rd w' a c:=by intro j v e;obtain⟨p,hp,d⟩:=h j v e;refine⟨p,hp, ?_⟩;rw [Nz (f _ (xR d))];exact d
theorem Rd.hp{w0 w:World}{L:List bX}{a:Option Addr}{c:List Value}(h:Rd w0 a c)(e:Hp w0 [] L w):Rd w a c:=h.mono fun b d=>e.below b d aA2
theorem Rd.hpS{w0 w:World}{S:List Nat}{L:List bX}{a:Option Addr}{c:List Value}(h:Rd w0 a c)(i:Hp w0 S L w)(b:∀p,a=some p->p.block∉S):Rd w a c:=by
 intro j v f;obtain⟨p,hp,e⟩:=h j v f;refine⟨p,hp, ?_⟩;have d:=xR e;rw [jc]at d;have g:w.heap[(p.add j).block]? =w0.heap[(p.add j).block]? :=by rw [jc];exact i.below _ d (b p hp)
 rw [Nz g];exact e
theorem Rd.nil(w:World)(a:Option Addr):Rd w a []:=fun j v h=>by simp at h
theorem Rd.some_{w:World}{a:Option Addr}{b:List Value}(h:Rd w a b)(c:0<b.length):a≠none:=by obtain⟨p,hp,_⟩:=h 0 b[0] aA2;rw [hp];simp
theorem Rd.take{w:World}{a:Option Addr}{c:List Value}(h:Rd w a c)(k:Nat):Rd w a (c.take k):=by
 intro j v b;rw [bO]at b;split at b
 ·exact h j v b
 ·cases b
theorem Rd.drop{w:World}{p:Addr}{a:List Value}(h:Rd w (some p) a)(k:Nat):Rd w (some (p.add k)) (a.drop k):=by intro j v b;rw [bU]at b;obtain⟨q,c,d⟩:=h _ v b;simp at c;subst c;exact⟨_,rfl,by rw [add_add];exact d⟩
theorem Hp.iL{w0 w:World}{S:List Nat}{L:List bX}{a:Option Addr}{m cap:Nat}{l:List UInt8}(h:Hp w0 S L w)(k:Nat)(q:L[k]? =some (eN (.slice a m cap) m l)):Rd w a (l.map bt):=by
 obtain⟨h1,_⟩:=h.res _ (aG q);obtain⟨p,g,i,f,e,u,b,n,o,s,d,r⟩:=h1;intro j v c;simp at b;obtain⟨rfl,rfl⟩:=b;refine⟨_,rfl, ?_⟩;rw [HJ];have t:w.heap[g]? =some (.cells f e u):=by simpa [eN,yM] using n
 simp only [World.cell?,t,Dh];rw [<-d,bO]at c;split at c
 ·simpa using c
 ·cases c
theorem Hp.oB{w0 w:World}{S:List Nat}{L:List bX}{b e:Nat}{cs:List Value}(h:Hp w0 S L w)(k:Nat)(c:L[k]? =some (aM b cs e)):Rd w (some ⟨b,0,none⟩) cs:=by intro j v a;refine⟨_,rfl, ?_⟩;rw [HJ,fk (h.dK k c)];simpa using a
theorem Hp.Sf{w0 w:World}{S:List Nat}{L:List bX}{v:Value}{m:Nat}{l:List UInt8}(h:Hp w0 S L w)(k:Nat)(a:L[k]? =some (eN v m l)):l.length=m:=(h.res _ (aG a)).1.1
theorem Hp.tail{w0 w:World}{S:List Nat}{r:bX}{L:List bX}(h:Hp w0 S (r::L) w):Hp w0 S L w:=h.sub (List.sublist_cons_self r L)
def TI(P:Program)(e sz a:Nat):Prop:=(P.info? e).map (fun i=>(i.zero.map (fun z=>z.cells.size),i.size,i.bytes))=some (some sz,sz,a)
theorem TI.parts{P:Program}{e sz a:Nat}(h:TI P e sz a):∃i z,P.info? e=some i/\i.zero=some z/\i.size=sz/\i.bytes=a/\z.cells.size=sz:=by
 unfold TI at h;cases c:P.info? e with
 |none=>simp [c]at h
 |some i=>simp [c]at h;obtain⟨⟨z,d,b⟩,h2,h3⟩:=h;exact⟨i,z,rfl,d,h2,h3,b⟩
section
variable {P : Program} {n : Md} {ops : Array Oper} {Q : Exit -> Act -> World -> Prop} {F : Nat -> Value} {w w0 : World} {S : List Nat} {L : List bX}
variable {d : Nat} {ty : TypeId} {pos : String} {after : Array Edge} {rest : List Oper}
theorem iP{x:Operand}{t:TypeId}(b off:Nat)(cs:List Value)(e:TypeId)(v:Value)(f:w.heap[b]? =some (.cells cs.toArray e (0,0)))(c:cs[off]? =some v)
  (hx:aW n F x=.pointer (some ⟨b,off,none⟩)) (g:(isAgg t).run P w=.ok false w):(execOp (aW n F) (⟨some d,.load t x,ty,pos,after,none⟩:Oper)).run P w=.ok (.value v) w:=by
 have a:=fk (off:=off) f;rw [c]at a;simp [execOp,hx,Instr.loadAt,Instr.sureAddr,loadVar,g,a]
theorem N8{x:Operand}{t:TypeId}(a:Option Addr)(c:List Value)(j:Nat)(v:Value)(h:Rd w a c)(e:c[j]? =some v)(hx:aW n F x=.pointer (some (ea a j)))
  (g:(isAgg t).run P w=.ok false w):(execOp (aW n F) (⟨some d,.load t x,ty,pos,after,none⟩:Oper)).run P w=.ok (.value v) w:=by
 obtain⟨p,rfl,f⟩:=h j v e;have b:aW n F x=.pointer (some (p.add j)):=hx;simp [execOp,b,Instr.loadAt,Instr.sureAddr,loadVar,g,f]
theorem O3{x:Operand}{t:TypeId}(b off m:Nat)(cs vs:List Value)(e:TypeId)(k:w.heap[b]? =some (.cells cs.toArray e (0,0)))(f:(cs.drop off).take m=vs)(h:vs.length=m)
  (hx:aW n F x=.pointer (some ⟨b,off,none⟩)) (l:(isAgg t).run P w=.ok true w) (g:(sizeOf t).run P w=.ok m w):
  (execOp (aW n F) (⟨some d,.load t x,ty,pos,after,none⟩:Oper)).run P w=.ok (.value (.agg vs.toArray)) w:=by
 have i:(loadCells ⟨b,off,none⟩ m).run P w=.ok vs.toArray w:=by
  rw [<-h];refine run_loadCells_list w ⟨b,off,none⟩ vs fun j v a=> ?_;rw [HJ,fk k];rw [<-f]at a;have c:j<m:=by have:=(aD.1 a).1;simp at this;omega
  rw [bO,aC c,bU]at a;exact a
 simp [execOp,hx,Instr.loadAt,Instr.sureAddr,loadVar,l,g,i]
theorem N7{x:Operand}{t:TypeId}(a:Option Addr)(e vs:List Value)(j m:Nat)(l:Rd w a e)(o:(e.drop j).take m=vs)(s:vs.length=m)(A:0<m)(hx:aW n F x=.pointer (some (ea a j)))
  (y:(isAgg t).run P w=.ok true w) (r:(sizeOf t).run P w=.ok m w):
  (execOp (aW n F) (⟨some d,.load t x,ty,pos,after,none⟩:Oper)).run P w=.ok (.value (.agg vs.toArray)) w:=by
 have b:∀i v,vs[i]? =some v->e[j+i]? =some v:=by
  intro i v c;rw [<-o]at c;have g:i<m:=by have:=(aD.1 c).1;simp at this;omega
  rw [bO,aC g,bU]at c;exact c
 have z:vs[0]? =some (vs[0]' aA0):=aA2;obtain⟨p,rfl,_⟩:=l _ _ (b 0 _ z);have f:aW n F x=.pointer (some (p.add j)):=hx;have u:(loadCells (p.add j) m).run P w=.ok vs.toArray w:=by rw [<-s];refine run_loadCells_list w (p.add j) vs fun i v c=> ?_;obtain⟨q,k,h⟩:=l _ _ (b i v c);simp at k;subst k;rw [add_add];exact h
 simp [execOp,f,Instr.loadAt,Instr.sureAddr,loadVar,y,r,u]
theorem On{x:Operand}{t:TypeId}(a:Option Addr)(k c e:Nat)(b:P.underlying t=some (.slice e))(hx:aW n F x=.slice a k c):
  (execOp (aW n F) (⟨some d,.call ⟨.builtin .len, #[x], #[t]⟩,ty,pos,after,none⟩:Oper)).run P w=.ok (.value (.int .i64 (k:Int))) w:=by
 simp [execOp,resolve,invoke,builtin,hx,Builtin.len_,run_underlying b,goInt]
theorem NL{x ix:Operand}{t:TypeId}(a:Option Addr)(k c e sz:Nat)(q:IntKind)(i:Int)(f:P.underlying t=some (.slice e))(g:(sizeOf e).run P w=.ok sz w)(hx:aW n F x=.slice a k c)(h:aW n F ix=.int q i)
  (b:0<=i/\i<(k:Int)) (j:a≠none):(execOp (aW n F) (⟨some d,.indexAddr t x ix,ty,pos,after,none⟩:Oper)).run P w=.ok (.value (.pointer (some (ea a (i.toNat*sz))))) w:=by
 cases a with
 |none=>exact absurd rfl j
 |some p=>simp [execOp,hx,h,Instr.indexAt,asIntOf,run_underlying f,g,b.1,b.2,ea]
theorem O5{x:Operand}{t f:Nat}(A:Addr)(off:Nat)(hx:aW n F x=.pointer (some A))(a:(Instr.fieldAt t (.pointer (some A)) f).run P w=.ok (.pointer (some (A.add off))) w):
  (execOp (aW n F) (⟨some d,.fieldAddr t x f,ty,pos,after,none⟩:Oper)).run P w=.ok (.value (.pointer (some (A.add off)))) w:=by
 simp [execOp,hx,a]
theorem NO{x:Operand}{t f:Nat}(a:Option Addr)(j off:Nat)(hx:aW n F x=.pointer (some (ea a j)))(b:(Instr.fieldAt t (.pointer (some (ea a j))) f).run P w=.ok (.pointer (some ((ea a j).add off))) w):
  (execOp (aW n F) (⟨some d,.fieldAddr t x f,ty,pos,after,none⟩:Oper)).run P w=.ok (.value (.pointer (some (ea a (j+off))))) w:=by
 rw [O5 (ea a j) off hx b,BZ]
theorem yQ{x:Operand}{t f:Nat}(a:Option Addr)(j off:Nat)(hx:aW n F x=.pointer (some (ea a j)))(b:(Instr.fieldAt t (.pointer (some (ea a j))) f).run P w=.ok (.pointer (some ((ea a j).add off))) w)
  (h:W P n ops Q rest (dN F d (.pointer (some (ea a (j+off))))) w):W P n ops Q (⟨some d,.fieldAddr t x f,ty,pos,after,none⟩::rest) F w:=
 fA rfl rfl (NO a j off hx b) h
theorem Ei{x:Operand}{s t:TypeId}(C:Hp w0 S L w)(l:List UInt8)(e:TypeId)(z:P.underlying s=some .string)(y:P.underlying t=some (.slice e))(B:P.underlying e=some (.int .u8))(hx:aW n F x=str l)
  (h:∀a cap w',(execOp (aW n F) (⟨some d,.convert s t x,ty,pos,after,none⟩:Oper)).run P w=.ok (.value (.slice a l.length cap)) w'->Hp w0 S (eN (.slice a l.length cap) l.length l::L) w'->W P n ops Q rest (dN F d (.slice a l.length cap)) w'):
  W P n ops Q (⟨some d,.convert s t x,ty,pos,after,none⟩::rest) F w:=by
 let cap:=Question.cut (.appendCap l.length 0 e) (w.tape w.drawn (.appendCap l.length 0 e));have g:l.length<=cap:=by show _<=_+_;omega
 let cells:Array Value:=(l.toArray.map fun b=>.int .u8 b.toNat)++Tn (cap-l.length) (.int .u8 0);have p:cells.size=cap:=by simp [cells];omega
 let f:World:={w with drawn:=w.drawn+1,heap:=w.heap.push (.cells cells e (cap,cap+1))}
 have c:(execOp (aW n F) (⟨some d,.convert s t x,ty,pos,after,none⟩:Oper)).run P w=.ok (.value (.slice (some ⟨w.heap.size,0,none⟩) l.length cap)) f:=by
  have E:(convert s t (str l)).run P w=(Conv.stringToBytes e ⟨l.toArray⟩).run P w:=by simp [convert,str,run_underlying z,run_underlying y,run_underlying B]
  have D:(Conv.stringToBytes e ⟨l.toArray⟩).run P w=.ok (.slice (some ⟨w.heap.size,0,none⟩) l.length cap) f:=by
   have j:(⟨l.toArray⟩:ByteArray).size=l.length:=rfl;unfold Conv.stringToBytes markStringish;simp only [Sem.run_bind,j];show Result.andThen (Result.ok cap {w with drawn:=w.drawn+1}) _=_;simp only [Result.andThen_ok,newRow,Sem.run_bind,run_newObj,Sem.run_pure];show Result.andThen (Result.andThen (Result.ok (World.shape? {w with drawn:=w.drawn+1,heap:=w.heap.push (.cells cells e (0,0))} w.heap.size) _) _) _=_;have m:World.shape? {w with drawn:=w.drawn+1,heap:=w.heap.push (.cells cells e (0,0))} w.heap.size=some (e,cap):=by simp [World.shape?,p]
   rw [m];simp only [Result.andThen_ok];show Result.andThen (Result.ok () (World.freeze {w with drawn:=w.drawn+1,heap:=w.heap.push (.cells cells e (0,0))} ⟨w.heap.size,cap,none⟩ 1)) _=_;simp only [Result.andThen_ok,Sem.run_pure,World.freeze];congr 1;simp only [Nat.one_ne_zero,cL];refine bP (fun h=>({w with drawn:=w.drawn+1,heap:=h}:World)) ?_;apply YD
   ·simp
   ·intro i h1 h2;have A:i<w.heap.size+1:=by simpa using h2
    rw [Array.getElem_modify];by_cases u:w.heap.size=i
    ·subst u;simp
    ·have o:i<w.heap.size:=by omega
     simp [u,Array.getElem_push,o]
  simp [execOp,hx,E,D]
 refine fA rfl rfl c (h _ _ _ c ?_);have h2:Hp w [] [eN (.slice (some ⟨w.heap.size,0,none⟩) l.length cap) l.length l] f:=by
  refine⟨rfl,rfl,rfl,by simp [f],fun k G _=> ?_,fun r q=> ?_,aA2⟩
  ·show(w.heap.push _)[k]? =_;rw [Array.getElem?_push,aB aA0]
  ·simp at q;subst q;refine⟨⟨rfl,w.heap.size,cap,cells,e,(cap,cap+1),rfl, ?_,g,aA0, ?_,aA0⟩,fun b v=> ?_⟩
   ·simp [eN,yM,f]
   ·simp [cells,bt]
   ·simp [eN,yM]at v;subst v;simp [f]
 exact C.kJ h2
theorem yP{x:Operand}{s t:TypeId}(g:Hp w0 S L w)(l:List UInt8)(e:TypeId)(c:P.underlying s=some .string)(b:P.underlying t=some (.slice e))(f:P.underlying e=some (.int .u8))(hx:aW n F x=str l)
  (h:∀a cap w',Hp w0 S (eN (.slice a l.length cap) l.length l::L) w'->W P n ops Q rest (dN F d (.slice a l.length cap)) w'):
  W P n ops Q (⟨some d,.convert s t x,ty,pos,after,none⟩::rest) F w:=Ei g l e c b f hx fun a cap w' _=>h a cap w'
theorem kC{x:Operand}{s t:TypeId}(l:List UInt8)(a:Option Addr)(m cap:Nat)(e:TypeId)(h:Rd w a (l.map bt))(y:l.length=m)(o:P.underlying s=some (.slice e))(k:P.underlying t=some .string)(B:P.underlying e=some (.int .u8))(hx:aW n F x=.slice a m cap):
  (execOp (aW n F) (⟨some d,.convert s t x,ty,pos,after,none⟩:Oper)).run P w=.ok (.value (str l)) w:=by
 subst y;have D:(convert s t (.slice a l.length cap)).run P w=(Conv.bytesToString (.slice a l.length cap)).run P w:=by simp [convert,run_underlying o,run_underlying k,run_underlying B]
 have C:(Conv.bytesToString (.slice a l.length cap)).run P w=.ok (str l) w:=by
  cases a with
  |none=>
   have:l=[]:=by
    cases l with
    |nil=>rfl
    |cons c l=>obtain⟨p,u,_⟩:=h 0 (bt c) aA2;cases u
   subst this;rfl
  |some p=>
   have b:(loadCells p l.length).run P w=.ok ((l.map fun c=>(c.toNat:Int)).map (Value.int .u8)).toArray w:=by have:=run_loadCells_list (P:=P) w p (l.map bt) (fun j v z=>by obtain⟨q,g,f⟩:=h j v z;simp at g;subst g;exact f);simp only [Dj]at this;rw [this];simp [bt,Function.comp_def]
   have:=run_bytesToString (P:=P) w p l.length cap _ b;rw [this];congr 1;unfold str;congr 1
   have A:∀(l:List UInt8) (r:ByteArray),(l.map fun c=>(c.toNat:Int)).foldl (fun r n=>r.push (rO n.toNat)) r=⟨r.data++l.toArray⟩:=by
    intro l;induction l with
    |nil=>intro r;simp
    |cons c l i=>intro r;simp only [tM,mM];rw [i];apply ByteArray.ext;simp [ByteArray.push]
   rw [A];apply ByteArray.ext;show(#[]:Array UInt8)++l.toArray=l.toArray;simp
 simp [execOp,hx,D,C]
theorem Hp.grown{w':World}{a a':Option Addr}{k m cap cap' e sz:Nat}{u l:List Value}(B:Hp w0 S L w)(z:L[k]? =some (row (.slice a m cap) e sz m u)){d:Nat}
  (h:w.grownBy w' (Value.slice a m cap).ownBlock) (t:w'.ownsRow 0 e sz (.slice a' d cap') d l) (x:∀p,a'=some p->(∃q,a=some q/\q.block=p.block)\/w.heap.size<=p.block):
  Hp w0 S (L.set k (row (.slice a' d cap') e sz d l)) w':=by
 have f:(row (.slice a' d cap') e sz d l).holds w':=by
  obtain⟨y,o⟩:=t;refine⟨y, ?_⟩;rcases o with o|⟨g,c,s,n,_,i,h1,h2,h3,C⟩
  ·exact .inl o
  ·refine .inr ⟨g,c,s,n, ?_,h1,h2,h3,C⟩;simp only [Value.slice.injEq]at n;obtain⟨rfl,-,rfl⟩:=n;exact i
 refine B.change k _ _ z h.os h.tape h.output h.size (fun j A r=>h.block j A (fun e=>r (by rw [e];rfl))) f ?_;intro b i;cases a' with
 |none=>simp [row,yM]at i
 |some p=>
  simp [row,yM]at i;subst i;refine⟨?_,(t.lt p.block rfl).2⟩;rcases x p rfl with⟨q,rfl,v⟩|h2
  ·left;simp [row,yM,v]
  ·exact .inr h2
theorem Hp.ownsRow{a:Option Addr}{k m cap e sz:Nat}{h:List Value}(n:Hp w0 S L w)(j:L[k]? =some (row (.slice a m cap) e sz m h)):w.ownsRow 0 e sz (.slice a m cap) m h:=by
 obtain⟨⟨i,d⟩,_⟩:=n.res _ (aG j);refine⟨i, ?_⟩;rcases d with d|⟨g,c,f,b,l,h1,h2,h3,o⟩
 ·exact .inl d
 ·refine .inr ⟨g,c,f,b,dH _, ?_,h1,h2,h3,o⟩;simp only [Value.slice.injEq]at b;obtain⟨rfl,-,rfl⟩:=b;exact l
theorem EM{a x:Option Addr}{m cap k cx e sz D:Nat}{G b:List Value}(t:TypeId)(E:P.underlying t=some (.slice e))(hT:TI P e sz D)(H:0<sz)(d:w.ownsRow 0 e sz (.slice a m cap) m G)
  (L:Rd w x b) (A:b.length=k*sz) (h1:∀u∈b,u.oneCell'=true) (K:m+k<=maxLen) (B:(m+k)*D<=140737488355328):
  ∃a' cap' w',(Builtin.append_ #[t,t] ty #[.slice a m cap,.slice x k cx]).run P w=.ok (.slice a' (m+k) cap') w'/\w'.ownsRow 0 e sz (.slice a' (m+k) cap') (m+k) (G++b)/\
   w.grownBy w' (Value.slice a m cap).ownBlock/\∀p,a'=some p->(∃q,a=some q/\q.block=p.block)\/w.heap.size<=p.block:=by
 obtain⟨i,z,F,N,W,hb,M⟩:=hT.parts;have V:∀{x},x=none->Rd w x b->k=0/\b=[]:=by
  rintro _ rfl L
  have:b=[]:=by
   cases b with
   |nil=>rfl
   |cons u us=>obtain⟨p,n,_⟩:=L 0 u aA2;cases n
  subst this;refine⟨?_,rfl⟩;rcases Nat.eq_zero_or_pos k with h|h
  ·exact h
  ·have:=Ol h H;simp at A;omega
 by_cases Z:k=0
 ·
  subst Z;have Q:b=[]:=Jz aE1;subst Q;refine⟨a,cap,w, ?_,by simpa using d,⟨rfl,rfl,rfl,eJ _,fun _ _ _=>rfl⟩,fun p n=>.inl ⟨p,n,rfl⟩⟩
  have R:m+0<=cap:=by
   rcases d.2 with⟨s,I⟩|⟨g,c,C,s,_,_,U,_⟩
   ·subst I;omega
   ·simp only [Value.slice.injEq]at s;omega
  have l:(Builtin.firstCells i.size 0 (.slice x 0 cx)).run P w=.ok #[] w:=by
   cases x with
   |none=>simp [Builtin.firstCells]
   |some p=>simp [Builtin.firstCells,loadCells,loadCellsFrom]
  have a3:∀q:Addr,(storeCells q []).run P w=.ok () w:=fun q=>rfl;cases a with
  |none=>simp [Builtin.append_,run_underlying E,sizeOf,typeInfo,F,Builtin.lenOf,R,l];omega
  |some p=>have:m<=cap:=aA0;simp [Builtin.append_,run_underlying E,sizeOf,typeInfo,F,Builtin.lenOf,this,l,storeCells]
 ·cases x with
  |none=>exact absurd (V rfl L).1 Z
  |some p=>
   have f:∀j u,b[j]? =some u->w.cell? (p.add j)=some u:=by intro j u hu;obtain⟨q,X,U⟩:=L j u hu;simp at X;subst X;exact U
   obtain⟨v',w',r,ho,hg,Y⟩:=run_append_own (P:=P) w 0 t ty e i z sz D E F N W hb M H (.slice a m cap) m G d p k cx b A f h1 K B (dH _);have O:∃a' cap',v'=.slice a' (m+k) cap'/\∀p,a'=some p->(∃q,a=some q/\q.block=p.block)\/w.heap.size<=p.block:=by
    subst W;subst hb;have v:((m+k:Nat):Int)<=9223372036854775807:=by simp only [maxLen]at K;omega
    rcases d.2 with⟨s,I⟩|⟨g,c,C,s,_,S,U,_,T,_⟩
    ·simp only [Value.slice.injEq]at s;obtain⟨rfl,rfl,rfl⟩:=s;have:=run_append_nil (P:=P) w t ty e i z E F N p k cx b A f aA0 (by simpa using v) (by simp at B;omega);rw [this]at r;simp only [Result.ok.injEq]at r;refine⟨_,_,by rw [<-r.1,Dh],fun p n=>.inr ?_⟩;simp at n;subst n;simp
    ·simp only [Value.slice.injEq]at s;obtain⟨rfl,-,rfl⟩:=s;by_cases o:m+k<=cap
     ·have J:m*i.size+b.length<=C.size:=by rw [A,T,<-gY];exact MV _ o
      have:=run_append_room (P:=P) w t ty e i E F g m cap C S p k cx b A f h1 o J;rw [this]at r;simp only [Result.ok.injEq]at r;refine⟨_,_,r.1.symm,fun p n=>.inl ?_⟩;simp at n;subst n;exact⟨_,rfl,rfl⟩
     ·have y:∀j u,G[j]? =some u->w.cell? ((⟨g,0,none⟩:Addr).add j)=some u:=d.cells (g:=g) rfl;have:=run_append_grow (P:=P) w t ty e i z E F N ⟨g,0,none⟩ m cap G d.1 y p k cx b A f aA0 v (growslice_fits aA0 B);rw [this]at r;simp only [Result.ok.injEq]at r;refine⟨_,_,r.1.symm,fun p n=>.inr ?_⟩;simp at n;subst n;simp
   obtain⟨a',cap',rfl,Q⟩:=O;exact⟨a',cap',w',r,ho,hg,Q⟩
theorem Tz{x y:Operand}{t:TypeId}(l:Hp w0 S L w)(k:Nat)(a o:Option Addr)(m cap c cx e sz f:Nat)(i b:List Value)(j:L[k]? =some (row (.slice a m cap) e sz m i))(q:P.underlying t=some (.slice e))(C:TI P e sz f)(g:0<sz)
  (hx:aW n F x=.slice a m cap) (p:aW n F y=.slice o c cx) (D:Rd w o b) (z:b.length=c*sz) (h1:∀u∈b,u.oneCell'=true) (B:(m+c)*f<=140737488355328) (E:m+c<=9223372036854775807)
  (h:∀a' cap' w',Hp w0 S (L.set k (row (.slice a' (m+c) cap') e sz (m+c) (i++b))) w'->W P n ops Q rest (dN F d (.slice a' (m+c) cap')) w'):
  W P n ops Q (⟨some d,.call ⟨.builtin .append, #[x,y], #[t,t]⟩,ty,pos,after,none⟩::rest) F w:=by
 obtain⟨a',cap',w',r,s,A,v⟩:=EM (P:=P) (ty:=ty) (cx:=cx) t q C g (l.ownsRow j) D z h1 aE7 B;refine fA (w':=w') rfl rfl ?_ (h a' cap' w' (l.grown j A s v));simp [execOp,resolve,invoke,builtin,hx,p,r]
theorem YQ{x y:Operand}{t:TypeId}(O:Hp w0 S L w)(e sz j:Nat)(p q:IntKind)(c:Int)(D:P.underlying t=some (.slice e))(N:TI P e sz j)(hx:aW n F x=.int p 0)(I:aW n F y=.int q c)
  (U:0<=c) (m:(j:Int)*c<=281474976710656) (R:c<=9223372036854775807)
  (h:∀a cap w',Hp w0 S (row (.slice a 0 cap) e sz 0 []::L) w'->W P n ops Q rest (dN F d (.slice a 0 cap)) w'):
  W P n ops Q (⟨some d,.makeSlice t x y,ty,pos,after,none⟩::rest) F w:=by
 obtain⟨i,z,G,C,E,A,H⟩:=N.parts;obtain⟨cn,rfl⟩:=Int.eq_ofNat_of_zero_le U;have o:i.bytes*cn<=281474976710656:=by
  rw [A];have M:((j*cn:Nat):Int)<=281474976710656:=by rw [HO];exact m
  omega
 obtain⟨w',f,u,l⟩:=run_make_own (P:=P) w 0 t e i z sz D G C E p q cn o (by simp only [maxLen];omega) (dH _);obtain⟨w',f,u,l⟩:=run_make_own (P:=P) w w.heap.size t e i z sz D G C E p q cn o (by simp only [maxLen];omega) (eJ _);refine fA (w':=w') rfl rfl ?_ (h (some ⟨w.heap.size,0,none⟩) cn w' ?_)
 ·simp [execOp,hx,I,f]
 ·have h2:Hp w [] [row (.slice (some ⟨w.heap.size,0,none⟩) 0 cn) e sz 0 []] w':=by
   refine⟨l.os,l.tape,l.output,l.size,fun k K _=>l.block k K aA2,fun r f=> ?_,aA2⟩;simp at f;subst f;have v:=u.lt w.heap.size rfl;refine⟨?_,fun b m=> ?_⟩
   ·obtain⟨J,f⟩:=u;refine⟨J, ?_⟩;rcases f with f|⟨g,c,B,s,_,m,h1,h2,h3,T⟩
    ·exact .inl f
    ·refine .inr ⟨g,c,B,s, ?_,h1,h2,h3,T⟩;simp only [Value.slice.injEq,aV,Addr.mk.injEq]at s;obtain⟨⟨rfl,-⟩,-,rfl⟩:=s;exact m
   ·simp [row,yM]at m;subst m;exact⟨v.2,.inl (eJ _)⟩
  exact O.kJ h2
theorem Hp.PE{k m cap e sz j:Nat}{a:Option Addr}{f vs:List Value}(B:Hp w0 S L w)(A:L[k]? =some (row (.slice a m cap) e sz m f))(M:j+vs.length<=f.length)(h1:∀v∈vs,v.oneCell'=true)(K:vs≠[]):
  ∃w',(storeCells (ea a j) vs).run P w=.ok () w'/\Hp w0 S (L.set k (row (.slice a m cap) e sz m (Cs f j vs))) w':=by
 have z:0<vs.length:=dW.2 K;obtain⟨h,E⟩:=B.ownsRow A;rcases E with⟨q,F⟩|⟨g,c,d,q,_,y,o,x,n,r⟩
 ·exfalso;subst F;rw [DG]at h;omega
 ·simp only [Value.slice.injEq]at q;obtain⟨rfl,-,rfl⟩:=q;have D:f.length<=d.size:=by rw [h,n];exact MV _ o
  have s:=run_storeCells_at P g j e vs 0 d w y aA0 h1;have u:ea (some ⟨g,0,none⟩) j=⟨g,j,none⟩:=by show(⟨g,0,none⟩:Addr).add j=_;rw [HJ,Dh]
  rw [u];refine⟨_,s,B.change k _ _ A rfl rfl rfl aA2 (fun i N t=>setRow_other w g i _ (fun e=>t (by simp [row,yM,e]))) ?_ ?_⟩
  ·refine⟨by rw [<-h];unfold Cs;simp;omega,.inr ⟨g,cap,(kO (j+0) d.toList++vs++bK (j+0+vs.length) d.toList).toArray,rfl, ?_,o,x, ?_, ?_⟩⟩
   ·show(w.setRow g _).heap[g]? =_;rw [setRow_heap w g d _ e _ y]
   ·rw [<-n];simp;omega
   ·rw [<-h];simp only [Dg];have C:f=d.toList.take f.length:=by rw [h];exact r.symm
    unfold Cs;rw [List.take_append,List.take_append];simp only [cB,eI,Ca];have h3:min j d.size=j:=aA0;rw [h3];rw [XG,rH (l:=vs) aA0];have J:min f.length j=j:=aA0;rw [J,List.take_drop];have I:j+vs.length+(f.length-(j+vs.length))=f.length:=aA0
    rw [I];have H:kO j f=kO j d.toList:=by
     conv=>lhs;rw [C]
     rw [XG,HN aA0]
    rw [H];have G:bK (j+vs.length) f=bK (j+vs.length) (kO f.length d.toList):=by rw [<-C]
    rw [G]
  ·intro b p;simp [row,yM]at p;subst p;refine⟨.inl (by simp [row,yM]), ?_⟩;have:=(cA.1 y).1;simpa using this
theorem OE{x y:Operand}{t:TypeId}(K:Hp w0 S L w)(k:Nat)(a:Option Addr)(m cap j:Nat)(l:List UInt8)(c:UInt8)(J:L[k]? =some (eN (.slice a m cap) m l))(T:j<m)
  (hx:aW n F x=.pointer (some (ea a j))) (N:aW n F y=bt c) (O:(sizeOf t).run P w=.ok 1 w)
  (h:∀w',Hp w0 S (L.set k (eN (.slice a m cap) m (l.set j c))) w'->W P n ops Q rest F w'):W P n ops Q (⟨none,.store t x y,ty,pos,after,none⟩::rest) F w:=by
 obtain⟨⟨B,g,M,d,e,u,H,R,G,E,v,C⟩,I⟩:=K.res _ (aG J);simp only [Value.slice.injEq]at H;obtain⟨rfl,-,rfl⟩:=H;have s:w.heap[g]? =some (.cells d e u):=by simpa [eN,yM] using R
 have D:ea (some ⟨g,0,none⟩) j=⟨g,j,none⟩:=by show(⟨g,0,none⟩:Addr).add j=_;rw [HJ,Dh]
 rw [D]at hx;have p:w.cell? ⟨g,j,none⟩=some (d[j]' aA0):=by simp only [World.cell?,s];have:j<d.size:=aA0;simp [this]
 have o:w.frozen? ⟨g,j,none⟩=false:=by simp only [World.frozen?,s];have:¬u.1<=j:=aA0;simp [this]
 have z:(storeCells ⟨g,j,none⟩ [bt c]).run P w=.ok () (w.setCell ⟨g,j,none⟩ (bt c)):=by simp only [storeCells,Sem.run_bind,HJ,Dg,store];simp only [Sem.run,bt,p,o];rfl
 have q:(w.setCell ⟨g,j,none⟩ (bt c)).heap[g]? =some (.cells (d.setIfInBounds j (bt c)) e u):=by simp [World.setCell,fK,s]
 refine mU (w':=w.setCell ⟨g,j,none⟩ (bt c)) rfl rfl ?_ (h _ ?_)
 ·simp [execOp,hx,N,Instr.storeAt,Instr.sureAddr,storeVar,O,bt,Value.cells];have f:=z;simp only [bt]at f;rw [f];rfl
 ·refine K.change k _ _ J rfl rfl rfl (by simp [World.setCell]) (fun i U A=>RowKit.Below.heap_setCell w ⟨g,j,none⟩ _ i (fun e=>A (by simp [eN,yM,e]))) ?_ ?_
  ·refine⟨by simpa using B,g,cap,_,e,u,rfl,q,G,by simpa using E, ?_,by simpa using C⟩;rw [List.map_set,<-v,<-List.take_set];simp
  ·intro b r;simp [eN,yM]at r;subst r;refine⟨.inl (by simp [eN,yM]), ?_⟩;have:=(cA.1 s).1;simpa [World.setCell] using this
end
theorem Fi{α:Type}{P:Program}{w:World}(f:α->Sem Value):∀(l:List α) (vs:List Value),l.length=vs.length->(∀(i:Nat) (x:α) (v:Value),l[i]? =some x->vs[i]? =some v->(f x).run P w=.ok v w)->(l.mapM f).run P w=.ok vs w
 |[],[],_,_=>by simp
 |[],_::_,h,_=>by simp at h
 |_::_,[],h,_=>by simp at h
 |x::l,v::vs,h,a=>by rw [List.mapM_cons];simp only [Sem.run_bind,a 0 x v rfl rfl,Result.andThen_ok];rw [Fi f l vs aB0 (fun i y u b c=>a (i+1) y u aB9 aE0)];simp
def Ta(P:Program)(kk:Nat)(F:Nat->Value)(w:World):ResultVar->Value->Prop
 |.tmp t,v=>aW ⟨kk,[],none⟩ F (.tmp t)=v
 |.cell a t,v=>∃(b e:Nat) (cs:List Value),aW ⟨kk,[],none⟩ F (.tmp a)=.pointer (some ⟨b,0,none⟩)/\w.heap[b]? =some (.cells cs.toArray e (0,0))/\
   (((isAgg t).run P w=.ok true w/\(sizeOf t).run P w=.ok cs.length w/\v=.agg cs.toArray)\/((isAgg t).run P w=.ok false w/\cs=[v]))
def gK(tmps:Array Value):ResultVar->Sem Value
 |.tmp t=>pure (tmps.getD t undef)
 |.cell a t=>do loadVar t (<-asAddr (tmps.getD a undef))
theorem ZT{P:Program}{kk:Nat}{F:Nat->Value}{w:World}{r:ResultVar}{v:Value}(h:Ta P kk F w r v):(gK (fr ⟨kk,[],none⟩ F).tmps r).run P w=.ok v w:=by
 unfold gK;cases r with
 |tmp t=>have d:(bif fC t kk then F t else undef)=v:=h;simp only [nK,d,Sem.run_pure]
 |cell a t=>
  obtain⟨b,e,cs,l,f,k⟩:=h;have d:(bif fC a kk then F a else undef)=.pointer (some ⟨b,0,none⟩):=l;simp only [nK,d,asAddr,Sem.run_bind,Sem.run_pure,Result.andThen_ok];rcases k with⟨h1,h2,rfl⟩|⟨h1,rfl⟩
  ·have g:(loadCells ⟨b,0,none⟩ cs.length).run P w=.ok cs.toArray w:=
    run_loadCells_list w ⟨b,0,none⟩ cs fun j u i=>by rw [HJ,fk f,Dh];exact i
   simp [loadVar,h1,h2,g]
  ·have c:w.cell? ⟨b,0,none⟩=some v:=by rw [fk f];rfl
   simp [loadVar,h1,c]
theorem pH{P:Program}{kk:Nat}{F:Nat->Value}{w:World}{fn:Func}(l:List ResultVar)(vs:List Value)(d:fn.results=l.toArray)(f:l.length=vs.length)
  (c:∀(i:Nat) (x:ResultVar) (v:Value),l[i]? =some x->vs[i]? =some v->Ta P kk F w x v) (v:Value) (a:(match vs with|[u]=>u|b=>.tuple b.toArray)=v):
  (results fn (fr ⟨kk,[],none⟩ F).tmps).run P w=.ok v w:=by
 have e:=Fi (P:=P) (w:=w) (gK (fr ⟨kk,[],none⟩ F).tmps) l vs f (fun i x v h1 h2=>ZT (c i x v h1 h2));unfold results;rw [d];change Sem.run P (do let vs<-l.toArray.mapM (gK (fr ⟨kk,[],none⟩ F).tmps);pure (if h:vs.size=1 then vs[0]else .tuple vs)) w=_;simp only [List.mapM_toArray,Sem.run_bind,Sem.run_map];rw [e];simp only [Result.andThen_ok,Sem.run_pure];subst a;congr 1;cases vs with
 |nil=>simp
 |cons u b=>cases b with
  |nil=>simp
  |cons u' b=>simp
theorem Sn{P:Program}{ro:Option (Option Nat)}{kk:Nat}{F:Nat->Value}{w:World}{fn:Func}{R:Value->World->Prop}(l:List ResultVar)(vs:List Value)(v:Value)(d:fn.results=l.toArray)(f:l.length=vs.length)
  (c:∀(i:Nat) (x:ResultVar) (v:Value),l[i]? =some x->vs[i]? =some v->Ta P kk F w x v) (a:(match vs with|[u]=>u|b=>.tuple b.toArray)=v) (h:R v w):
  bodyPost P fn (fun e w'=>∃v,e=.returned v/\R v w') .ret (fr ⟨kk,[],ro⟩ F) w:=
 ⟨rfl,v,pH l vs d f c v a,v,rfl,h⟩
theorem yK{P:Program}{kk:Nat}{F:Nat->Value}{w:World}:∀(i:Nat) (x:ResultVar) (v:Value),([]:List ResultVar)[i]? =some x->([]:List Value)[i]? =some v->Ta P kk F w x v:=fun i x v h=>by simp at h
theorem gE{P:Program}{kk:Nat}{F:Nat->Value}{w:World}{r:ResultVar}{u:Value}{l:List ResultVar}{vs:List Value}(b:Ta P kk F w r u)
  (h:∀(i:Nat) (x:ResultVar) (v:Value),l[i]? =some x->vs[i]? =some v->Ta P kk F w x v):∀(i:Nat) (x:ResultVar) (v:Value),(r::l)[i]? =some x->(u::vs)[i]? =some v->Ta P kk F w x v
 |0,x,v,hx,a=>by simp at hx a;subst hx;subst a;exact b
 |i+1,x,v,hx,a=>h i x v aD8 aC3
theorem mD{P:Program}{kk:Nat}{F:Nat->Value}{w:World}{t:Nat}{v:Value}(h:aW ⟨kk,[],none⟩ F (.tmp t)=v):Ta P kk F w (.tmp t) v:=h
theorem Sr{P:Program}{kk:Nat}{F:Nat->Value}{w w0:World}{S:List Nat}{L:List bX}{a t:Nat}(f:Hp w0 S L w)(k b e:Nat)(cs:List Value)(c:L[k]? =some (aM b cs e))(d:aW ⟨kk,[],none⟩ F (.tmp a)=.pointer (some ⟨b,0,none⟩))
  (h1:(isAgg t).run P w=.ok true w) (h2:(sizeOf t).run P w=.ok cs.length w):Ta P kk F w (.cell a t) (.agg cs.toArray):=⟨b,e,cs,d,f.dK k c,.inl ⟨h1,h2,rfl⟩⟩
theorem Pr{P:Program}{kk:Nat}{F:Nat->Value}{w w0:World}{S:List Nat}{L:List bX}{a t:Nat}(f:Hp w0 S L w)(k b e:Nat)(v:Value)(c:L[k]? =some (aM b [v] e))(d:aW ⟨kk,[],none⟩ F (.tmp a)=.pointer (some ⟨b,0,none⟩))
  (h1:(isAgg t).run P w=.ok false w):Ta P kk F w (.cell a t) v:=⟨b,e,[v],d,f.dK k c,.inr ⟨h1,rfl⟩⟩
theorem fN{a:Option Addr}{m k cap:Nat}(h:m=k):Value.slice a m cap=Value.slice a k cap:=by rw [h]
def el{α:Type}[Inhabited α](l:List α)(i:Int):α:=l.getD i.toNat default
theorem zY{α:Type}(f:α->List Value)(sz:Nat)(a:∀x,(f x).length=sz):∀(l:List α) (i:Nat),(l.flatMap f).drop (i*sz)=(l.drop i).flatMap f
 |l,0=>by simp
 |[],i+1=>by simp
 |x::l,i+1=>by rw [tN,eP,<-zY f sz a l i,cZ,Df,<-MA];congr 1;rw [<-a x];simp
theorem xL{α:Type}[Inhabited α](f:α->List Value)(sz:Nat)(b:∀x,(f x).length=sz)(l:List α)(i:Int)(c:0<=i/\i<(l.length:Int)):((l.flatMap f).drop (i.toNat*sz)).take sz=f (el l i):=by have a:i.toNat<l.length:=aA0;rw [zY f sz b,dG a,tN];rw [show f (el l i)=f l[i.toNat]by simp [el,a]];rw [<-b l[i.toNat]];simp
theorem UO{α:Type}[Inhabited α](f:α->List Value)(sz k:Nat)(c:∀x,(f x).length=sz)(l:List α)(i:Int)(v:Value)(d:0<=i/\i<(l.length:Int))(b:k<sz)(a:(f (el l i))[k]? =some v):(l.flatMap f)[i.toNat*sz+k]? =some v:=by rw [<-xL f sz c l i d,bO,aC b,bU]at a;exact a
theorem UN{α:Type}(f:α->List Value)(sz:Nat)(b:∀x,(f x).length=sz)(l:List α):(l.flatMap f).length=l.length*sz:=by
 induction l with
 |nil=>simp
 |cons x l a=>rw [tN,cB,a,b,cF,cZ,Df]
def cR(L:List bX):List Nat:=L.filterMap (·.own)
theorem lI{L:List bX}{b:Nat}(h:b∈cR L):∃r∈L,r.own=some b:=by unfold cR at h;obtain⟨r,a,e⟩:=List.mem_filterMap.1 h;exact⟨r,a,e⟩
theorem Hp.eD{w0 w w':World}{S:List Nat}{L1 L2 j:List bX}(h:Hp w0 S (L1++L2) w)(c:Hp w (cR L1) j w'):Hp w0 S (j++L2) w':=by
 have f:∀b,b∈cR L1->b<w.heap.size/\(w0.heap.size<=b\/b∈S):=by intro b l;obtain⟨r,a,e⟩:=lI l;exact(h.res r (aU.2 (.inl a))).2 b e
 have d:=dU.1 h.sep;have g:∀r∈L2,∀b,r.own=some b->b∉cR L1:=by intro r a b e l;obtain⟨q,p,e'⟩:=lI l;exact d.2.2 q p r a b e' e
 refine⟨c.os.trans h.os,c.tape.trans h.tape,c.output.trans h.output,oA h.size c.size,fun k n o=> ?_,fun r a=> ?_, ?_⟩
 ·rw [c.below k (To n h.size) (fun s=> ?_)];exact h.below k n o;rcases(f k s).2 with h1|h1
  ·omega
  ·exact o h1
 ·rcases aU.1 a with a|a
  ·refine⟨(c.res r a).1,fun b e=> ?_⟩;have:=(c.res r a).2 b e;refine⟨this.1, ?_⟩;rcases this.2 with h1|h1
   ·exact .inl (oA h.size h1)
   ·exact(f b h1).2
  ·have m:=aU.2 (.inr a:r∈L1\/r∈L2);refine⟨bX.holds_of (h.res r m).1 fun b e=>c.below b ((h.res r m).2 b e).1 (g r a b e),fun b e=> ?_⟩;have:=(h.res r m).2 b e;exact⟨To this.1 c.size,this.2⟩
 ·refine dU.2 ⟨c.sep,d.2.1,fun r a r' i b e e'=> ?_⟩;have h1:=(c.res r a).2 b e;have h2:=(h.res r' (aU.2 (.inr i))).2 b e';rcases h1.2 with h3|h3
  ·omega
  ·exact g r' i b e' h3
theorem Hp.front{w0 w:World}{S:List Nat}{L:List bX}(h:Hp w0 S L w)(k:Nat)(r:bX)(a:L[k]? =some r):Hp w0 S (r::L.eraseIdx k) w:=by
 refine h.perm ?_;clear h;induction L generalizing k with
 |nil=>simp at a
 |cons x L b=>
  cases k with
  |zero=>simp at a;subst a;simp
  |succ k=>simp at a;simp only [List.eraseIdx_cons_succ];exact(List.Perm.cons x (b k a)).trans (List.Perm.swap r x _)
theorem Hp.Qy{w0 w:World}{S:List Nat}{L1 L2:List bX}(h:Hp w0 S (L1++L2) w):Hp w0 S L1 w:=h.sub (List.sublist_append_left _ _)
theorem Hp.hand{w0 w:World}{S:List Nat}{L1 L2:List bX}(h:Hp w0 S (L1++L2) w):Hp w (cR L1) L1 w:=
 ⟨rfl,rfl,rfl,eJ _,fun _ _ _=>rfl,fun r a=>by have:=h.res r (aU.2 (.inl a));exact⟨this.1,fun b e=>⟨(this.2 b e).1,.inr (List.mem_filterMap.2 ⟨r,a,e⟩)⟩⟩,(dU.1 h.sep).1⟩
theorem qM{P:Program}{f:FuncId}{args:List Value}{w:World}{v:Value}(h:Calls P f args.toArray w fun e w'=>e=.returned v/\RowKit.Below w.heap.size w w'):CR P f args w fun u w'=>u=v/\Hp w [] [] w':=
 Calls.mono h fun _ _ ⟨e,a⟩=>⟨v,e,rfl,Hp.wK a⟩
theorem XR{P:Program}{f:FuncId}{args:List Value}{w:World}{v:Value}(h:Calls P f args.toArray w fun e w'=>e=.returned v/\w'=w):CR P f args w fun u w'=>u=v/\Hp w [] [] w':=
 Calls.mono h fun _ _ ⟨e,a⟩=>⟨v,e,rfl,a▸Hp.refl w⟩
theorem G2{w:World}(k:Nat):Hp w [] [] (w.drewN k):=Hp.wK ⟨rfl,rfl,rfl,eJ _,fun _ _=>rfl⟩
theorem GW{P:Program}{f:FuncId}{args:List Value}{w:World}{v:Value}(h:Calls P f args.toArray w fun e w'=>e=.returned v/\∃k,w'=w.drewN k):CR P f args w fun u w'=>u=v/\Hp w [] [] w':=
 Calls.mono h fun _ _ ⟨e,k,a⟩=>⟨v,e,rfl,a▸G2 k⟩
def IK(b:Nat)(l:List UInt8)(pos:Nat):bX:=⟨some b,fun o=>o=some (.stringIter ⟨l.toArray⟩ pos)⟩
theorem Hp.L6{w0 w:World}{S:List Nat}{L:List bX}(h:Hp w0 S L w)(l:List UInt8)(pos:Nat):Hp w0 S (IK w.heap.size l pos::L) (w.alloc (.stringIter ⟨l.toArray⟩ pos)):=by
 have h2:Hp w [] [IK w.heap.size l pos] (w.alloc (.stringIter ⟨l.toArray⟩ pos)):=by
  refine⟨rfl,rfl,rfl,aA2,fun k d _=>RowKit.Below.heap_alloc w _ k d,fun r a=> ?_,aA2⟩;simp at a;subst a;refine⟨?_,fun b c=> ?_⟩
  ·show(w.heap.push (.stringIter ⟨l.toArray⟩ pos))[w.heap.size]? =_;simp
  ·simp [IK]at c;subst c;simp
 exact h.kJ h2
theorem Hp.og{w0 w:World}{S:List Nat}{L:List bX}(h:Hp w0 S L w)(k b:Nat)(l:List UInt8)(pos a:Nat)(f:L[k]? =some (IK b l pos)):
  Hp w0 S (L.set k (IK b l a)) {w with heap:=w.heap.setIfInBounds b (.stringIter ⟨l.toArray⟩ a)}:=by
 have g:=((h.res _ (aG f)).2 b rfl).1;refine h.change k _ _ f rfl rfl rfl aA2 (fun j m d=> ?_) ?_ (fun c i=> ?_)
 ·show(w.heap.setIfInBounds b _)[j]? =_;rw [Array.getElem?_setIfInBounds_ne (fun e=>d (by rw [e];rfl))]
 ·show(w.heap.setIfInBounds b _)[b]? =_;simp [g]
 ·cases i;exact⟨.inl rfl,aE8⟩
section
variable {P : Program} {n : Md} {ops : Array Oper} {Q : Exit -> Act -> World -> Prop} {F : Nat -> Value} {w : World}
variable {d : Nat} {ty : TypeId} {pos : String} {after : Array Edge} {rest : List Oper}
theorem N9{x y:Operand}{t t':TypeId}(k:IntKind)(a b:Int)(hx:aW n F x=.int k a)(f:aW n F y=.int k b)(h:0<=a)(i:0<b)(g:k.wrap (a/b)=a/b):
  (execOp (aW n F) (⟨some d,.binOp .quo t x y t',ty,pos,after,none⟩:Oper)).run P w=.ok (.value (.int k (a/b))) w:=by
 have e:a.tdiv b=a/b:=Int.tdiv_eq_ediv_of_nonneg h;have c:¬b=0:=aA0;simp [execOp,hx,f,binOp,eqGuard,Op.intDiv,c,e,g]
theorem N6{x y:Operand}{t t':TypeId}(k:IntKind)(a b:Int)(hx:aW n F x=.int k a)(f:aW n F y=.int k b)(h:0<=a)(i:0<b)(g:k.wrap (a%b)=a%b):
  (execOp (aW n F) (⟨some d,.binOp .rem t x y t',ty,pos,after,none⟩:Oper)).run P w=.ok (.value (.int k (a%b))) w:=by
 have e:a.tmod b=a%b:=Int.tmod_eq_emod_of_nonneg h;have c:¬b=0:=aA0;simp [execOp,hx,f,binOp,eqGuard,Op.intDiv,c,e,g]
def gk(k:IntKind)(a b:Int):Int:=k.wrap ((BitVec.ofInt k.bits a&&&BitVec.ofInt k.bits b).toNat:Int)
def orI(k:IntKind)(a b:Int):Int:=k.wrap ((BitVec.ofInt k.bits a|||BitVec.ofInt k.bits b).toNat:Int)
theorem O6{x y:Operand}{t t':TypeId}(k:IntKind)(a b:Int)(hx:aW n F x=.int k a)(c:aW n F y=.int k b):(execOp (aW n F) (⟨some d,.binOp .and t x y t',ty,pos,after,none⟩:Oper)).run P w=.ok (.value (.int k (gk k a b))) w:=by simp only [execOp,hx,c,binOp,ne_eq,cY,cL];rfl
theorem mq{x y:Operand}{t t':TypeId}(k:IntKind)(a b:Int)(hx:aW n F x=.int k a)(c:aW n F y=.int k b):(execOp (aW n F) (⟨some d,.binOp .or t x y t',ty,pos,after,none⟩:Oper)).run P w=.ok (.value (.int k (orI k a b))) w:=by simp only [execOp,hx,c,binOp,ne_eq,cY,cL];rfl
theorem N5{x y:Operand}{t t':TypeId}(k k':IntKind)(a b p:Int)(hx:aW n F x=.int k a)(c:aW n F y=.int k' b)(g:0<=b)(e:2^(min b.toNat k.bits)=p):(execOp (aW n F) (⟨some d,.binOp .shl t x y t',ty,pos,after,none⟩:Oper)).run P w=.ok (.value (.int k (k.wrap (a*p)))) w:=by have f:¬b<0:=aA0;rw [<-e];simp [execOp,hx,c,binOp,eqGuard,Op.shift,f]
theorem N4{x y:Operand}{t t':TypeId}(k k':IntKind)(a b p:Int)(hx:aW n F x=.int k a)(c:aW n F y=.int k' b)(i:0<=b)(g:2^(min b.toNat k.bits)=p)(f:0<p):(execOp (aW n F) (⟨some d,.binOp .shr t x y t',ty,pos,after,none⟩:Oper)).run P w=.ok (.value (.int k (a/p))) w:=by have h:¬b<0:=aA0;have e:a.fdiv p=a/p:=Int.fdiv_eq_ediv_of_nonneg _ aA0;rw [<-e,<-g];simp [execOp,hx,c,binOp,eqGuard,Op.shift,h]
theorem Zz{x y:Operand}{t t':TypeId}(a:Option Addr)(m c e:Nat)(f:P.underlying t=some (.slice e))(hx:aW n F x=.slice a m c)(b:aW n F y=.slice none 0 0):(execOp (aW n F) (⟨some d,.binOp .eql t x y t',ty,pos,after,none⟩:Oper)).run P w=.ok (.value (.bool a.isNone)) w:=by
 have e:(binOp .eql t (.slice a m c) (.slice none 0 0)).run P w=.ok (.bool a.isNone) w:=by simp only [binOp];simp [run_equal_slice_nil w t e a m c f]
 simp [execOp,hx,b,eqGuard,e]
theorem OF{x y:Operand}{t t':TypeId}(a:Option Addr)(m c e:Nat)(f:P.underlying t=some (.slice e))(hx:aW n F x=.slice a m c)(b:aW n F y=.slice none 0 0)(h:W P n ops Q rest (dN F d (.bool a.isNone)) w):W P n ops Q (⟨some d,.binOp .eql t x y t',ty,pos,after,none⟩::rest) F w:=
 fA rfl rfl (Zz a m c e f hx b) h
theorem NK{x ix:Operand}{t:TypeId}(p:Addr)(k e sz:Nat)(q:IntKind)(i:Int)(b:P.underlying t=some (.array k e))(c:(sizeOf e).run P w=.ok sz w)(hx:aW n F x=.pointer (some p))(f:aW n F ix=.int q i)
  (a:0<=i/\i<(k:Int)) (g:2<=k):(execOp (aW n F) (⟨some d,.indexAddr t x ix,ty,pos,after,none⟩:Oper)).run P w=.ok (.value (.pointer (some (ea (some p) (i.toNat*sz))))) w:=by
 simp [execOp,hx,f,Instr.indexAt,Instr.sureAddr,asIntOf,run_underlying b,c,a.1,a.2,ea]
theorem DS{x:Operand}{t:TypeId}{w0:World}{S:List Nat}{L:List bX}(c:Hp w0 S L w)(l:List UInt8)(a:P.underlying t=some .string)(hx:aW n F x=str l)
  (h:∀b w',Hp w0 S (IK b l 0::L) w'->W P n ops Q rest (dN F d (.pointer (some ⟨b,0,none⟩))) w'):W P n ops Q (⟨some d,.range t x,ty,pos,after,none⟩::rest) F w:=by
 refine fA (v:=.pointer (some ⟨w.heap.size,0,none⟩)) (w':=w.alloc (.stringIter ⟨l.toArray⟩ 0)) rfl rfl ?_ (h _ _ (c.L6 l 0));simp [execOp,hx,str,Instr.range,run_underlying a]
theorem Ot{x:Operand}{w0:World}{S:List Nat}{L:List bX}(f:Hp w0 S L w)(k b:Nat)(l:List UInt8)(p:Nat)(e:L[k]? =some (IK b l p))(hx:aW n F x=.pointer (some ⟨b,0,none⟩))
  (h1:p<l.length->∀w',Hp w0 S (L.set k (IK b l (p+(Utf8.decode ⟨l.toArray⟩ p).2))) w'->W P n ops Q rest (dN F d (.tuple #[.bool true,.int .i64 (p:Int),.int .i32 ((Utf8.decode ⟨l.toArray⟩ p).1:Int)])) w')
  (h2:¬p<l.length->W P n ops Q rest (dN F d (.tuple #[.bool false])) w):W P n ops Q (⟨some d,.next x true,ty,pos,after,none⟩::rest) F w:=by
 have h:w.heap[b]? =some (.stringIter ⟨l.toArray⟩ p):=(f.res _ (aG e)).1;have j:=((f.res _ (aG e)).2 b rfl).1;have g:(getObj b).run P w=.ok (.stringIter ⟨l.toArray⟩ p) w:=by simp [getObj,Sem.run,h]
 have i:∀o,(setObj b o).run P w=.ok () {w with heap:=w.heap.setIfInBounds b o}:=fun o=>by simp [setObj,Sem.run,h]
 by_cases c:p<l.length
 ·have a:p<(⟨l.toArray⟩:ByteArray).size:=c;refine fA (v:=.tuple #[.bool true,.int .i64 (p:Int),.int .i32 ((Utf8.decode ⟨l.toArray⟩ p).1:Int)]) (w':={w with heap:=w.heap.setIfInBounds b (.stringIter ⟨l.toArray⟩ (p+(Utf8.decode ⟨l.toArray⟩ p).2))}) rfl rfl ?_ (h1 c _ (f.og k b l p _ e));simp [execOp,hx,Instr.next,g,i,a,goInt]
 ·have a:¬p<(⟨l.toArray⟩:ByteArray).size:=c;refine fA (v:=.tuple #[.bool false]) (w':=w) rfl rfl ?_ (h2 c);simp [execOp,hx,Instr.next,g,a]
theorem Ll{x:Operand}{s t:TypeId}(k k':IntKind)(a:Int)(c:P.underlying s=some (.int k'))(b:P.underlying t=some .string)(hx:aW n F x=.int k a):(execOp (aW n F) (⟨some d,.convert s t x,ty,pos,after,none⟩:Oper)).run P w=.ok (.value (str (Utf8.encode a).data.toList)) w:=by simp [execOp,hx,convert,run_underlying c,run_underlying b,Conv.intToString,str]
theorem HS{x:Operand}{s t:TypeId}(k k':IntKind)(a:Int)(c:P.underlying s=some (.int k'))(b:P.underlying t=some .string)(hx:aW n F x=.int k a)(h:W P n ops Q rest (dN F d (str (Utf8.encode a).data.toList)) w):W P n ops Q (⟨some d,.convert s t x,ty,pos,after,none⟩::rest) F w:=
 fA rfl rfl (Ll k k' a c b hx) h
end
open Go.IntKind renaming wrap → bN
open Go.Value renaming ownBlock → yM
open UInt8 renaming ofNat → rO
abbrev aA:=List UInt8
abbrev PQ:=aA×aA×Bool
abbrev LQ:=List PQ
abbrev UQ:=aA×aA×aA×Int×LQ×LQ
abbrev AQ:=aA×UQ×LQ
def gd{α:Type}(p:Prop)[Decidable p](k:Option α):Option α:=if p then k else none
theorem UD{α:Type}{p:Prop}[Decidable p]{k:Option α}{r:α}(h:gd p k=some r):p/\k=some r:=by
 unfold gd at h;split at h
 ·exact⟨by assumption,h⟩
 ·cases h
theorem bA{α:Type}{p:Prop}[Decidable p]{k:Option α}(h:p):gd p k=k:=aC h
theorem xS{α a:Type}{o:Option α}{f:α->Option a}{r:a}(h:o.bind f=some r):∃y,o=some y/\f y=some r:=by
 cases o with
 |none=>cases h
 |some y=>exact⟨y,rfl,h⟩
theorem BK{α:Type}{p:Prop}[Decidable p]{a b r:α}(h:p)(e:(if p then a else b)=r):a=r:=by rw [<-e,aC h]
theorem BL{α:Type}{p:Prop}[Decidable p]{a b r:α}(h:¬p)(e:(if p then a else b)=r):b=r:=by rw [<-e,aB h]
theorem cft{α:Type}{c:Bool}{a b r:α}(h:c=true)(e:cond c a b=r):a=r:=by rw [<-e,h];rfl
theorem cff{α:Type}{c:Bool}{a b r:α}(h:c=false)(e:cond c a b=r):b=r:=by rw [<-e,h];rfl
def sj(b:Nat):(c:Int)->Decidable (0<=c/\(b:Int)*c<=281474976710656)
 |.ofNat n=>match h:Nat.ble (b*n) 281474976710656 with
  |true=>.isTrue ⟨Jx n,by have h1:=Tp h;have h2:((b*n:Nat):Int)<=((281474976710656:Nat):Int):=Int.ofNat_le.2 h1;rw [HO]at h2;exact h2⟩
  |false=>.isFalse fun⟨_,h2⟩=>by
   have h3:((b*n:Nat):Int)<=((281474976710656:Nat):Int):=by rw [HO];exact h2
   rw [Nat.ble_eq_true_of_le (Int.ofNat_le.1 h3)]at h;cases h
 |.negSucc n=>.isFalse fun⟨h1,_⟩=>absurd h1 aA0
instance qj:(a:Int)->Decidable (bJ a)
 |.ofNat n=>if h:Nat.ble n 9223372036854775807=true then .isTrue (show bJ (n:Int)from⟨aA0,by have:=Tp h;omega⟩)else .isFalse fun q=>h (Nat.ble_eq▸(by have:(n:Int)<=9223372036854775807:=q.hi;omega))
 |.negSucc n=>if h:Nat.ble n 9223372036854775807=true then .isTrue ⟨by have:=Tp h;rw [Int.negSucc_eq];omega,by rw [Int.negSucc_eq];omega⟩else .isFalse fun q=>h (Nat.ble_eq▸(by have:=q.lo;rw [Int.negSucc_eq]at this;omega))
structure oV {α:Type} (f:α->List Value) (sz:Nat):Prop where
 len:∀x,(f x).length=sz
 one:∀x,∀v∈f x,v.oneCell'=true
def eS(s:aA):List Value:=[str s]
def eB(c:UInt8):List Value:=[bt c]
theorem VC:oV eS 1:=⟨fun _=>rfl,fun x v h=>by simp [eS]at h;subst h;rfl⟩
theorem lY:oV eB 1:=⟨fun _=>rfl,fun x v h=>by simp [eB]at h;subst h;rfl⟩
theorem kI(l:List UInt8):l.flatMap eB=l.map bt:=by induction l with
 |nil=>rfl
 |cons c l a=>rw [tN,a];rfl
theorem oV.flat{α:Type}{f:α->List Value}{sz:Nat}(h:oV f sz)(l:List α):(l.flatMap f).length=l.length*sz:=UN f sz h.len l
theorem oV.cells{α:Type}{f:α->List Value}{sz:Nat}(h:oV f sz)(l:List α):∀v∈l.flatMap f,v.oneCell'=true:=by intro v a;obtain⟨x,_,hx⟩:=List.mem_flatMap.1 a;exact h.one x v hx
def aX{α:Type}(f:α->List Value)(e sz:Nat)(o:Option Nat)(a:Option Addr)(cap:Nat)(l:List α):bX:=
 ⟨o,fun ob=>(o=none/\l=[]/\cap=0/\a=none)\/
  ∃g b,o=some g/\a=some ⟨g,0,none⟩/\ob=some (.cells b e (0,0))/\l.length<=cap/\cap<=maxLen/\b.size=cap*sz/\b.toList.take (l.length*sz)=l.flatMap f⟩
theorem Hp.dB{w0 w:World}{S:List Nat}{L:List bX}(h:Hp w0 S L w){α:Type}(f:α->List Value)(e sz:Nat)(a:Option Addr):Hp w0 S (aX f e sz none none 0 []::L) w:=by
 refine⟨h.os,h.tape,h.output,h.size,h.below,fun r c=> ?_, ?_⟩
 ·rcases aN.1 c with rfl|c
  ·exact⟨.inl ⟨rfl,rfl,rfl,rfl⟩,fun b d=>by simp [aX]at d⟩
  ·exact h.res r c
 ·refine List.Pairwise.cons (fun r _ b d=>by simp [aX]at d) h.sep
theorem Hp.nD{w0 w:World}{S:List Nat}{L:List bX}{α:Type}{f:α->List Value}{e sz cap:Nat}{o:Option Nat}{a:Option Addr}{l:List α}(h:Hp w0 S L w)(k:Nat)(p:L[k]? =some (aX f e sz o a cap l)):Rd w a (l.flatMap f):=by
 obtain⟨h1,_⟩:=h.res _ (aG p);rcases h1 with⟨_,rfl,_⟩|⟨g,m,n,rfl,d,_,_,_,c⟩
 ·exact Rd.nil _ _
 ·intro j v b;refine⟨_,rfl, ?_⟩;rw [HJ];have q:w.heap[g]? =some (.cells m e (0,0)):=by have i:o=some g:=n;subst i;simpa [aX] using d
  simp only [World.cell?,q,Dh];rw [<-c,bO]at b;split at b
  ·simpa using b
  ·cases b
theorem Hp.Ut{w0 w:World}{S:List Nat}{L:List bX}{α:Type}{f:α->List Value}{e sz cap g:Nat}{a:Option Addr}{l:List α}(h:Hp w0 S L w)(s:oV f sz)(k:Nat)(o:L[k]? =some (aX f e sz (some g) a cap l)):
  a=some ⟨g,0,none⟩/\Hp w0 S (L.set k (row (.slice a l.length cap) e sz l.length (l.flatMap f))) w:=by
 obtain⟨h1,h2⟩:=h.res _ (aG o);rcases h1 with⟨r,_⟩|⟨t,n,q,rfl,d,m,j,i,c⟩
 ·cases r
 ·cases q;refine⟨rfl,h.change k _ _ o rfl rfl rfl (eJ _) (fun _ _ _=>rfl) ?_ ?_⟩
  ·exact⟨s.flat l,.inr ⟨g,cap,n,rfl,d,m,j,i,c⟩⟩
  ·intro b p;simp [row,yM]at p;subst p;exact⟨.inl rfl,(h2 g rfl).1⟩
theorem Hp.Fj{w0 w:World}{S:List Nat}{L:List bX}{α:Type}{f:α->List Value}{e sz cap:Nat}{a:Option Addr}{l:List α}(h:Hp w0 S L w)(k:Nat)(j:L[k]? =some (row (.slice a l.length cap) e sz l.length (l.flatMap f))):
  ∃o,Hp w0 S (L.set k (aX f e sz o a cap l)) w:=by
 obtain⟨h1,h2⟩:=h.res _ (aG j);obtain⟨v,s⟩:=h1;rcases s with⟨c,u⟩|⟨g,r,q,c,t,p,n,m,i⟩
 ·simp only [Value.slice.injEq]at c;obtain⟨rfl,-,rfl⟩:=c;refine⟨none,h.change k _ _ j rfl rfl rfl (eJ _) (fun _ _ _=>rfl) (.inl ⟨rfl,Jz u,rfl,rfl⟩) (fun b d=>by simp [aX]at d)⟩
 ·simp only [Value.slice.injEq]at c;obtain⟨rfl,-,rfl⟩:=c;refine⟨some g,h.change k _ _ j rfl rfl rfl (eJ _) (fun _ _ _=>rfl) (.inr ⟨g,q,rfl,rfl,t,p,n,m,i⟩) (fun b d=> ?_)⟩;simp [aX]at d;subst d;exact⟨.inl (by simp [row,yM]),(h2 g (by simp [row,yM])).1⟩
theorem Hp.Yv{w0 w:World}{S:List Nat}{L:List bX}{b e:Nat}{cs:List Value}{α:Type}{f:α->List Value}(h:Hp w0 S L w)(k sz m:Nat)(l:List α)(d:L[k]? =some (aM b cs e))(i:oV f sz)(c:l.flatMap f=cs)(n:l.length=m)(j:m<=maxLen):
  Hp w0 S (L.set k (aX f e sz (some b) (some ⟨b,0,none⟩) m l)) w:=by
 have g:=h.dK k d;subst c;subst n;refine h.change k _ _ d rfl rfl rfl (eJ _) (fun _ _ _=>rfl) ?_ ?_
 ·exact .inr ⟨b,_,rfl,rfl,g,eJ _,j,by simpa using i.flat l,by rw [<-i.flat l];exact Zj⟩
 ·intro b' a;simp [aX]at a;subst a;exact⟨.inl rfl,(cA.1 g).1⟩
theorem Hp.cuts{w0 w:World}{S:List Nat}{L:List bX}{α:Type}{f:α->List Value}{e sz cap:Nat}{o:Option Nat}{a:Option Addr}{l:List α}(h:Hp w0 S L w)(s:oV f sz)(k:Nat)(p:L[k]? =some (aX f e sz o a cap l))(m:Nat):
  Hp w0 S (L.set k (aX f e sz o a cap (l.take m))) w:=by
 obtain⟨h1,h2⟩:=h.res _ (aG p);refine h.change k _ _ p rfl rfl rfl (eJ _) (fun _ _ _=>rfl) ?_ (fun b q=>⟨.inl q,(h2 b q).1⟩);rcases h1 with⟨rfl,rfl,rfl,rfl⟩|⟨g,n,rfl,rfl,d,r,j,i,c⟩
 ·exact .inl ⟨rfl,aA2,rfl,rfl⟩
 ·refine .inr ⟨g,n,rfl,rfl,d,by simp;omega,j,i, ?_⟩;have t:(l.take m).flatMap f=(l.flatMap f).take ((l.take m).length*sz):=by
   have:l.flatMap f=(l.take m).flatMap f++(l.drop m).flatMap f:=by rw [<-LY,LZ]
   rw [this,<-s.flat (l.take m),Jr]
  rw [t,<-c,XG,HN (MV _ aA6)]
section
variable {P : Program} {n : Md} {ops : Array Oper} {Q : Exit -> Act -> World -> Prop} {F : Nat -> Value} {w w0 : World} {S : List Nat} {L : List bX}
variable {d : Nat} {ty : TypeId} {pos : String} {after : Array Edge} {rest : List Oper} {α : Type} {f : α -> List Value}
theorem LI{a:Type}(l:List a)(k:Nat)(x y:a):(l.set k x).set k y=l.set k y:=aA2
theorem MO{x y:Operand}{t:TypeId}(Z:Hp w0 S L w)(k:Nat)(o:Option Nat)(a E:Option Addr)(cap cx e sz r:Nat)(l c:List α)(B:oV f sz)(I:L[k]? =some (aX f e sz o a cap l))(N:P.underlying t=some (.slice e))(Y:TI P e sz r)(C:0<sz)(a4:0<r)
  (hx:aW n F x=.slice a l.length cap) (V:aW n F y=.slice E c.length cx) (U:Rd w E (c.flatMap f)) (K:(l.length+c.length)*r<=140737488355328)
  (h:∀o' a' cap' w',Hp w0 S (L.set k (aX f e sz o' a' cap' (l++c))) w'->W P n ops Q rest (dN F d (.slice a' (l++c).length cap')) w'):
  W P n ops Q (⟨some d,.call ⟨.builtin .append, #[x,y], #[t,t]⟩,ty,pos,after,none⟩::rest) F w:=by
 have A:l.length+c.length<=9223372036854775807:=by have:l.length+c.length<=(l.length+c.length)*r:=Nat.le_mul_of_pos_right _ a4;omega
 have M:∀a' cap' w',Hp w0 S (L.set k (row (.slice a' (l.length+c.length) cap') e sz (l.length+c.length) (l.flatMap f++c.flatMap f))) w'->W P n ops Q rest (dN F d (.slice a' (l.length+c.length) cap')) w':=by intro a' cap' w' h1;rw [<-cB,<-LY]at h1;rw [<-cB];have m:k<L.length:=(aD.1 I).1;obtain⟨o',h2⟩:=h1.Fj k (bF m);rw [LI]at h2;exact h o' a' cap' w' h2
 have m:k<L.length:=(aD.1 I).1;cases o with
 |some g=>obtain⟨rfl,h1⟩:=Z.Ut B k I;refine Tz h1 k (some ⟨g,0,none⟩) E l.length cap c.length cx e sz r (l.flatMap f) (c.flatMap f) (bF m) N Y C hx V U (B.flat c) (B.cells c) K A ?_;intro a' cap' w' h2;rw [LI]at h2;exact M a' cap' w' h2
 |none=>
  obtain⟨h1,_⟩:=Z.res _ (aG I);have a6:l=[]/\cap=0:=by
   rcases h1 with⟨_,h2,h3,_⟩|⟨g,b8,h2,_⟩
   ·exact⟨h2,h3⟩
   ·cases h2
  obtain⟨rfl,rfl⟩:=a6;have s:Hp w0 S (L.set k (row (.slice none 0 0) e sz 0 [])) w:=Z.change k _ _ I rfl rfl rfl (eJ _) (fun _ _ _=>rfl) ⟨aA2,.inl ⟨rfl,rfl⟩⟩ (fun b K=>by simp [row,yM]at K);cases a with
  |none=>refine Tz s k none E 0 0 c.length cx e sz r [] (c.flatMap f) (bF m) N Y C hx V U (B.flat c) (B.cells c) (by simpa using K) aE1 ?_;intro a' cap' w' h2;rw [LI]at h2;exact M a' cap' w' aC8
  |some p=>
   obtain⟨i,z,hi,hz,hs,a5,b0⟩:=Y.parts;subst hs;subst a5;by_cases hm:c=[]
   ·subst hm;have D:(Builtin.firstCells i.size 0 (.slice E 0 cx)).run P w=.ok #[] w:=by
     cases E with
     |none=>simp [Builtin.firstCells]
     |some p=>simp [Builtin.firstCells,loadCells,loadCellsFrom]
    have O:(Builtin.append_ #[t,t] ty #[.slice (some p) 0 0,.slice E 0 cx]).run P w=.ok (.slice (some p) 0 0) w:=by simp [Builtin.append_,run_underlying N,sizeOf,typeInfo,hi,Builtin.lenOf,D,storeCells]
    refine fA (w':=w) rfl rfl ?_ (h none (some p) 0 w ?_)
    ·have a0:aW n F y=.slice E 0 cx:=V;have G:aW n F x=.slice (some p) 0 0:=hx;simp [execOp,resolve,invoke,builtin,G,a0,O]
    ·have e:L.set k (aX f e i.size none (some p) 0 ([]++[]))=L:=by
      apply bZ;intro j;by_cases T:j=k
      ·subst T;simp [m,I];have:=I;rw [aJ m]at this;exact(aP this).symm
      ·rw [yF (fun e=>T e.symm)]
     rw [e];exact Z
   ·have R:0<c.length:=dW.2 hm;cases E with
    |none=>
     have:c.flatMap f=[]:=by
      cases X:c.flatMap f with
      |nil=>rfl
      |cons u us=>obtain⟨p,hp,_⟩:=U 0 u (by rw [X];rfl);cases hp
     have:=B.flat c;rename_i h0;rw [h0]at this;have:=Ol R C;simp at*
     omega
    |some q=>
     have v:∀j u,(c.flatMap f)[j]? =some u->w.cell? (q.add j)=some u:=by intro j u hu;obtain⟨q',X,hc⟩:=U j u hu;simp at X;subst X;exact hc
     have J:=run_append_grow (P:=P) w t ty e i z N hi hz p 0 0 [] aA2 (fun j u hu=>by simp at hu) q c.length cx (c.flatMap f) (B.flat c) v aA0 (by simp at A⊢;omega) (growslice_fits aA0 (by simpa using K));have a3:=run_append_nil (P:=P) w t ty e i z N hi hz q c.length cx (c.flatMap f) (B.flat c) v aA0 (by simp at A⊢;omega) (by simp at K;omega);have H:(Builtin.append_ #[t,t] ty #[.slice (some p) 0 0,.slice (some q) c.length cx]).run P w=(Builtin.append_ #[t,t] ty #[.slice none 0 0,.slice (some q) c.length cx]).run P w:=by rw [a3,J];simp
     obtain⟨a',cap',w',hr,ho,hg,hn⟩:=EM (P:=P) (ty:=ty) (cx:=cx) t N Y C (s.ownsRow (k:=k) (bF m)) U (B.flat c) (B.cells c) (by unfold maxLen;simp at A⊢;omega) (by simpa using K);have h2:=s.grown (k:=k) (bF m) hg ho hn;rw [LI]at h2;have h3:=M a' cap' w' aC8;refine fA (w':=w') rfl rfl ?_ aE6;have G:aW n F x=.slice (some p) 0 0:=hx;rw [<-H]at hr;simp [execOp,resolve,invoke,builtin,G,V,hr]
theorem YN{x y:Operand}{t:TypeId}(s:Hp w0 S L w)(e sz b:Nat)(i j:IntKind)(c:Int)(m:P.underlying t=some (.slice e))(r:TI P e sz b)(q:0<b)(hx:aW n F x=.int i 0)(k:aW n F y=.int j c)
  (g:0<=c/\(b:Int)*c<=281474976710656)
  (h:∀o a cap w',Hp w0 S (aX f e sz o a cap []::L) w'->W P n ops Q rest (dN F d (.slice a 0 cap)) w'):
  W P n ops Q (⟨some d,.makeSlice t x y,ty,pos,after,none⟩::rest) F w:=by
 have p:c<=9223372036854775807:=by have h1:(1:Int)*c<=b*c:=Int.mul_le_mul_of_nonneg_right aA0 g.1;omega
 refine YQ s e sz b i j c m r hx k g.1 g.2 p ?_;intro a cap w' h1;obtain⟨o,h2⟩:=h1.Fj (f:=f) (l:=([]:List α)) 0 rfl;exact h o a cap w' h2
theorem Tu{x ix:Operand}{t:TypeId}(a:Option Addr)(m c e sz:Nat)(q:IntKind)(i:Int)(g:P.underlying t=some (.slice e))(h:(sizeOf e).run P w=.ok sz w)(hx:aW n F x=.slice a m c)(k:aW n F ix=.int q i)
  (l:List α) (j:m=l.length) (o:0<=i/\i<(l.length:Int)) (p:Rd w a (l.flatMap f)) (r:oV f sz) (b:0<sz):
  (execOp (aW n F) (⟨some d,.indexAddr t x ix,ty,pos,after,none⟩:Oper)).run P w=.ok (.value (.pointer (some (ea a (i.toNat*sz))))) w:=by
 subst j;refine NL a l.length c e sz q i g h hx k o (p.some_ ?_);rw [r.flat];exact Ol aA0 b
theorem iR{x ix:Operand}{t:TypeId}(a:Option Addr)(m c e sz:Nat)(q:IntKind)(i:Int)(g:P.underlying t=some (.slice e))(j:(sizeOf e).run P w=.ok sz w)(hx:aW n F x=.slice a m c)(o:aW n F ix=.int q i)
  (l:List α) (k:m=l.length) (p:0<=i/\i<(l.length:Int)) (r:Rd w a (l.flatMap f)) (s:oV f sz) (b:0<sz) (h:W P n ops Q rest (dN F d (.pointer (some (ea a (i.toNat*sz))))) w):
  W P n ops Q (⟨some d,.indexAddr t x ix,ty,pos,after,none⟩::rest) F w:=fA rfl rfl (Tu a m c e sz q i g j hx o l k p r s b) h
theorem Tt[Inhabited α]{x:Operand}{t:TypeId}(a:Option Addr)(f:α->List Value)(l:List α)(sz:Nat)(i:Int)(e:oV f sz)(k:Rd w a (l.flatMap f))(vs:List Value)(h:0<=i/\i<(l.length:Int))(c:f (el l i)=vs)
  (hx:aW n F x=.pointer (some (ea a (i.toNat*sz)))) (j:(isAgg t).run P w=.ok true w) (g:(sizeOf t).run P w=.ok sz w) (b:0<sz):
  (execOp (aW n F) (⟨some d,.load t x,ty,pos,after,none⟩:Oper)).run P w=.ok (.value (.agg vs.toArray)) w:=
 N7 a (l.flatMap f) vs (i.toNat*sz) sz k (by rw [xL f sz e.len l i h,c]) (by rw [<-c];exact e.len _) b hx j g
theorem Bb[Inhabited α]{x:Operand}{t:TypeId}(a:Option Addr)(f:α->List Value)(l:List α)(sz:Nat)(i:Int)(m:oV f sz)(k:Rd w a (l.flatMap f))(vs:List Value)(g:0<=i/\i<(l.length:Int))(c:f (el l i)=vs)
  (hx:aW n F x=.pointer (some (ea a (i.toNat*sz)))) (j:(isAgg t).run P w=.ok true w) (e:(sizeOf t).run P w=.ok sz w) (b:0<sz) (h:W P n ops Q rest (dN F d (.agg vs.toArray)) w):
  W P n ops Q (⟨some d,.load t x,ty,pos,after,none⟩::rest) F w:=fA rfl rfl (Tt a f l sz i m k vs g c hx j e b) h
theorem O4[Inhabited α]{x:Operand}{t:TypeId}(a:Option Addr)(f:α->List Value)(l:List α)(sz:Nat)(i:Int)(off:Nat)(j:oV f sz)(h:Rd w a (l.flatMap f))(v:Value)(e:0<=i/\i<(l.length:Int))(c:off<sz)(b:(f (el l i))[off]? =some v)
  (hx:aW n F x=.pointer (some (ea a (i.toNat*sz+off)))) (g:(isAgg t).run P w=.ok false w):
  (execOp (aW n F) (⟨some d,.load t x,ty,pos,after,none⟩:Oper)).run P w=.ok (.value v) w:=
 N8 a (l.flatMap f) (i.toNat*sz+off) v h (UO f sz off j.len l i v e c b) hx g
theorem DT[Inhabited α]{x:Operand}{t:TypeId}(a:Option Addr)(f:α->List Value)(l:List α)(sz:Nat)(i:Int)(off:Nat)(k:oV f sz)(j:Rd w a (l.flatMap f))(v:Value)(e:0<=i/\i<(l.length:Int))(c:off<sz)(b:(f (el l i))[off]? =some v)
  (hx:aW n F x=.pointer (some (ea a (i.toNat*sz+off)))) (g:(isAgg t).run P w=.ok false w) (h:W P n ops Q rest (dN F d v) w):
  W P n ops Q (⟨some d,.load t x,ty,pos,after,none⟩::rest) F w:=fA rfl rfl (O4 a f l sz i off k j v e c b hx g) h
theorem W0[Inhabited α]{x:Operand}{t:TypeId}(a:Option Addr)(f:α->List Value)(l:List α)(sz:Nat)(i:Int)(j:oV f sz)(h:Rd w a (l.flatMap f))(v:Value)(e:0<=i/\i<(l.length:Int))(c:0<sz)(b:(f (el l i))[0]? =some v)
  (hx:aW n F x=.pointer (some (ea a (i.toNat*sz)))) (g:(isAgg t).run P w=.ok false w):
  (execOp (aW n F) (⟨some d,.load t x,ty,pos,after,none⟩:Oper)).run P w=.ok (.value v) w:=O4 a f l sz i 0 j h v e c b hx g
theorem X1[Inhabited α]{x:Operand}{t:TypeId}(a:Option Addr)(f:α->List Value)(l:List α)(sz:Nat)(i:Int)(k:oV f sz)(j:Rd w a (l.flatMap f))(v:Value)(e:0<=i/\i<(l.length:Int))(c:0<sz)(b:(f (el l i))[0]? =some v)
  (hx:aW n F x=.pointer (some (ea a (i.toNat*sz)))) (g:(isAgg t).run P w=.ok false w) (h:W P n ops Q rest (dN F d v) w):
  W P n ops Q (⟨some d,.load t x,ty,pos,after,none⟩::rest) F w:=fA rfl rfl (W0 a f l sz i k j v e c b hx g) h
theorem Bo(sz:Nat)(a:oV f sz):∀(l:List α) (j:Nat) (y:α),j<l.length->Cs (l.flatMap f) (j*sz) (f y)=(l.set j y).flatMap f
 |[],j,y,h=>by simp at h
 |x::l,0,y,h=>by unfold Cs;simp only [DG,List.take_zero,Ka,Dh,Js,tN,a.len];rw [<-a.len x,XJ]
 |x::l,j+1,y,h=>by have b:=Bo sz a l j y aB0;unfold Cs at*;simp only [Jt,tN,<-b];rw [cZ,Df (j*sz) sz,Ax sz,<-a.len x,List.take_length_add_append,List.drop_length_add_append];simp [iI]
theorem Hp.oq{k e sz cap j:Nat}{o:Option Nat}{a:Option Addr}{l:List α}{y:α}(q:Hp w0 S L w)(c:oV f sz)(s:0<sz)(m:L[k]? =some (aX f e sz o a cap l))(d:j<l.length):
  ∃w',(storeCells (ea a (j*sz)) (f y)).run P w=.ok () w'/\Hp w0 S (L.set k (aX f e sz o a cap (l.set j y))) w':=by
 cases o with
 |none=>
  exfalso;obtain⟨h1,_⟩:=q.res _ (aG m);rcases h1 with⟨_,h2,_⟩|⟨g,p,h2,_⟩
  ·subst h2;simp at d
  ·cases h2
 |some g=>
  obtain⟨rfl,h1⟩:=q.Ut c k m;have b:k<L.length:=(aD.1 m).1;have n:j*sz+sz<=l.length*sz:=by rw [<-cZ];exact MV _ d
  obtain⟨w',t,h2⟩:=h1.PE (P:=P) (k:=k) (vs:=f y) (j:=j*sz) (bF b) (by rw [c.len,c.flat];exact n) (c.one y) (by intro A;have:=c.len y;rw [A]at this;simp at this;omega);refine⟨w',t, ?_⟩;rw [LI,Bo sz c l j y d]at h2;have v:l.length=(l.set j y).length:=aA2
  rw [v]at h2;obtain⟨o',i⟩:=h2.Fj (k:=k) (l:=l.set j y) (bF b);rw [LI]at i;have u:o'=some g:=by
   obtain⟨z,_⟩:=i.res _ (aG (bF b));rcases z with⟨r,h,_⟩|⟨B,p,r,h,_⟩
   ·exfalso;have:(l.set j y).length=0:=by have x:l.set j y=[]:=h;rw [x];rfl
    simp at this;subst this;simp at d
   ·simp only [aV,Addr.mk.injEq,Jo]at h;rw [h];exact r
  rw [u]at i;exact i
theorem mz{x y:Operand}{t:TypeId}[Inhabited α](s:Hp w0 S L w)(k:Nat)(o:Option Nat)(a:Option Addr)(cap e sz:Nat)(i:Int)(l:List α)(z:α)(r:L[k]? =some (aX f e sz o a cap l))(d:oV f sz)(vs:List Value)(u:0<=i/\i<(l.length:Int))(j:f z=vs)
  (hx:aW n F x=.pointer (some (ea a (i.toNat*sz)))) (g:aW n F y=.agg vs.toArray) (b:0<sz) (m:(sizeOf t).run P w=.ok sz w)
  (h:∀w',Hp w0 S (L.set k (aX f e sz o a cap (l.set i.toNat z))) w'->W P n ops Q rest F w'):W P n ops Q (⟨none,.store t x y,ty,pos,after,none⟩::rest) F w:=by
 subst j;obtain⟨w',p,c⟩:=s.oq (P:=P) (y:=z) d b r (show i.toNat<l.length by omega);refine mU (w':=w') rfl rfl ?_ (h w' c);have q:=d.len z;simp [execOp,hx,g,Instr.storeAt,Instr.sureAddr,storeVar,m,Value.cells,p,q]
theorem KN(sz off:Nat)(a:oV f sz)[Inhabited α](l:List α)(j:Nat)(y:α)(v:Value)(c:j<l.length)(g:off<sz)(b:f y=(f (l.getD j default)).set off v):Cs (l.flatMap f) (j*sz+off) [v]=(l.set j y).flatMap f:=by
 have d:Cs (l.flatMap f) (j*sz+off) [v]=(l.flatMap f).set (j*sz+off) v:=by
  unfold Cs;rw [ye,aC (by rw [a.flat];calc j*sz+off<j*sz+sz:=by omega
   _=(j+1)*sz:=by rw [cZ]
   _<=l.length*sz:=MV _ c)]
  simp
 rw [d];clear d;induction l generalizing j with
 |nil=>simp at c
 |cons x l e=>
  cases j with
  |zero=>simp only [DG,Dh,tN,Js];simp at b;rw [b,XH _ _ (by rw [a.len];exact g)]
  |succ j=>simp only [tN,Jt];rw [cZ,V6 _ _ (by rw [a.len];omega),a.len];rw [show j*sz+sz+off-sz=j*sz+off by omega];rw [e j aE0 aB9]
theorem O9{x y:Operand}{t:TypeId}[Inhabited α](D:Hp w0 S L w)(k:Nat)(o:Option Nat)(a:Option Addr)(cap e sz:Nat)(i:Int)(off:Nat)(l:List α)(z:α)(r:L[k]? =some (aX f e sz o a cap l))(d:oV f sz)(v:Value)(M:0<=i/\i<(l.length:Int))
  (B:f z=(f (el l i)).set off v) (hx:aW n F x=.pointer (some (ea a (i.toNat*sz+off)))) (G:aW n F y=v) (H:(sizeOf t).run P w=.ok 1 w) (C:off<sz)
  (h:∀w',Hp w0 S (L.set k (aX f e sz o a cap (l.set i.toNat z))) w'->W P n ops Q rest F w'):W P n ops Q (⟨none,.store t x y,ty,pos,after,none⟩::rest) F w:=by
 have u:i.toNat<l.length:=aA0;have h1:v.oneCell'=true:=d.one z v (by rw [B];exact aG (bF (by rw [d.len];exact C)));have b:v.cells= #[v]:=by cases v<;>first|rfl|simp [Value.oneCell']at h1
 cases o with
 |none=>
  exfalso;obtain⟨h1,_⟩:=D.res _ (aG r);rcases h1 with⟨_,h2,_⟩|⟨g,A,h2,_⟩
  ·subst h2;simp at u
  ·cases h2
 |some g=>
  obtain⟨rfl,h2⟩:=D.Ut d k r;have c:k<L.length:=(aD.1 r).1;have s:i.toNat*sz+off+1<=l.length*sz:=by
   calc i.toNat*sz+off+1<=i.toNat*sz+sz:=by omega
    _=(i.toNat+1)*sz:=by rw [cZ]
    _<=l.length*sz:=MV _ u
  obtain⟨w',I,h3⟩:=h2.PE (P:=P) (k:=k) (vs:=[v]) (j:=i.toNat*sz+off) (bF c) (by rw [d.flat];exact s) aC5 aA2;rw [LI,KN sz off d l i.toNat z v u C B,show l.length=(l.set i.toNat z).length by simp]at h3;obtain⟨o',p⟩:=h3.Fj (k:=k) (l:=l.set i.toNat z) (bF c);rw [LI]at p;have q:o'=some g:=by
   obtain⟨K,_⟩:=p.res _ (aG (bF c));rcases K with⟨E,m,_⟩|⟨N,A,E,m,_⟩
   ·exfalso;have J:l.set i.toNat z=[]:=m;have:(l.set i.toNat z).length=0:=by rw [J];rfl
    rw [Cc]at this;omega
   ·simp only [aV,Addr.mk.injEq,Jo]at m;rw [m];exact E
  rw [q]at p;refine mU (w':=w') rfl rfl ?_ (h w' p);simp [execOp,hx,G,Instr.storeAt,Instr.sureAddr,storeVar,H,b,I]
theorem na{x y:Operand}{t:TypeId}(d:Hp w0 S L w)(k:Nat)(a:Option Addr)(m cap:Nat)(i:Int)(l:List UInt8)(c:UInt8)(b:L[k]? =some (eN (.slice a m cap) m l))(g:0<=i/\i<(l.length:Int))
  (hx:aW n F x=.pointer (some (ea a (i.toNat*1)))) (e:aW n F y=bt c) (f:(sizeOf t).run P w=.ok 1 w)
  (h:∀w',Hp w0 S (L.set k (eN (.slice a m cap) m (l.set i.toNat c))) w'->W P n ops Q rest F w'):W P n ops Q (⟨none,.store t x y,ty,pos,after,none⟩::rest) F w:=
 OE d k a m cap (i.toNat*1) l c b (by have:=d.Sf k b;omega) hx e f aB0
theorem VY{a b:UInt8}:((a.toNat:Int)=(b.toNat:Int))↔a=b:=by
 constructor
 ·intro h;exact mL.1 aA0
 ·intro h;rw [h]
theorem NZ{x y:Operand}{t t':TypeId}(a b:UInt8)(hx:aW n F x=bt a)(c:aW n F y=bt b):(execOp (aW n F) (⟨some d,.binOp .eql t x y t',ty,pos,after,none⟩:Oper)).run P w=.ok (.value (.bool (decide (a=b)))) w:=by rw [NQ .u8 _ _ hx c];congr 3;exact dT.2 VY
theorem NW{x y:Operand}{t t':TypeId}(a b:UInt8)(hx:aW n F x=bt a)(c:aW n F y=bt b):(execOp (aW n F) (⟨some d,.binOp .neq t x y t',ty,pos,after,none⟩:Oper)).run P w=.ok (.value (.bool (!decide (a=b)))) w:=by rw [NG .u8 _ _ hx c];congr 4;exact dT.2 VY
theorem NX{x y:Operand}{t t':TypeId}(a b:UInt8)(hx:aW n F x=bt a)(c:aW n F y=bt b):(execOp (aW n F) (⟨some d,.binOp .lss t x y t',ty,pos,after,none⟩:Oper)).run P w=.ok (.value (.bool (decide (a<b)))) w:=by rw [NI .u8 _ _ hx c];congr 3;exact dT.2 (by rw [XM];omega)
theorem W4{x y:Operand}{t t':TypeId}(a b:UInt8)(hx:aW n F x=bt a)(c:aW n F y=bt b):(execOp (aW n F) (⟨some d,.binOp .leq t x y t',ty,pos,after,none⟩:Oper)).run P w=.ok (.value (.bool (decide (a<=b)))) w:=by rw [NJ .u8 _ _ hx c];congr 3;exact dT.2 (by rw [tK];omega)
theorem NY{x y:Operand}{t t':TypeId}(a b:UInt8)(hx:aW n F x=bt a)(c:aW n F y=bt b):(execOp (aW n F) (⟨some d,.binOp .gtr t x y t',ty,pos,after,none⟩:Oper)).run P w=.ok (.value (.bool (decide (b<a)))) w:=by rw [NM .u8 _ _ hx c];congr 3;exact dT.2 (by rw [XM];omega)
theorem W5{x y:Operand}{t t':TypeId}(a b:UInt8)(hx:aW n F x=bt a)(c:aW n F y=bt b):(execOp (aW n F) (⟨some d,.binOp .geq t x y t',ty,pos,after,none⟩:Oper)).run P w=.ok (.value (.bool (decide (b<=a)))) w:=by rw [NN .u8 _ _ hx c];congr 3;exact dT.2 (by rw [tK];omega)
theorem W7{x y:Operand}{t t':TypeId}(a b:UInt8)(hx:aW n F x=bt a)(c:aW n F y=bt b):(execOp (aW n F) (⟨some d,.binOp .add t x y t',ty,pos,after,none⟩:Oper)).run P w=.ok (.value (bt (a+b))) w:=by rw [NS .u8 _ _ hx c];unfold bt;rw [UInt8.toNat_add,IntKind.wrap_u8];congr 3
theorem NT{x y:Operand}{t t':TypeId}(a b:UInt8)(hx:aW n F x=bt a)(c:aW n F y=bt b):(execOp (aW n F) (⟨some d,.binOp .sub t x y t',ty,pos,after,none⟩:Oper)).run P w=.ok (.value (bt (a-b))) w:=by rw [NC .u8 _ _ hx c];unfold bt;rw [UInt8.toNat_sub,IntKind.wrap_u8];congr 3;have:=MX a;have:=MX b;omega
theorem W3{x y:Operand}{t t':TypeId}(a b:UInt8)(hx:aW n F x=bt a)(c:aW n F y=bt b):(execOp (aW n F) (⟨some d,.binOp .mul t x y t',ty,pos,after,none⟩:Oper)).run P w=.ok (.value (bt (a*b))) w:=by rw [NH .u8 _ _ hx c];unfold bt;rw [UInt8.toNat_mul,IntKind.wrap_u8];congr 3
theorem ofInt_u8(a:UInt8):BitVec.ofInt 8 (a.toNat:Int)=a.toBitVec:=by apply BitVec.eq_of_toNat_eq;have:=MX a;simp
theorem W6{x y:Operand}{t t':TypeId}(a b:UInt8)(hx:aW n F x=bt a)(c:aW n F y=bt b):(execOp (aW n F) (⟨some d,.binOp .and t x y t',ty,pos,after,none⟩:Oper)).run P w=.ok (.value (bt (a&&&b))) w:=by rw [O6 .u8 _ _ hx c];unfold bt gk;congr 3;show IntKind.u8.wrap ((BitVec.ofInt 8 (a.toNat:Int)&&&BitVec.ofInt 8 (b.toNat:Int)).toNat:Int)=_;rw [ofInt_u8,ofInt_u8,IntKind.wrap_u8];have:(a&&&b).toNat=(a.toBitVec&&&b.toBitVec).toNat:=rfl;have:=MX (a&&&b);omega
theorem mx{x y:Operand}{t t':TypeId}(a b:UInt8)(hx:aW n F x=bt a)(c:aW n F y=bt b):(execOp (aW n F) (⟨some d,.binOp .or t x y t',ty,pos,after,none⟩:Oper)).run P w=.ok (.value (bt (a|||b))) w:=by rw [mq .u8 _ _ hx c];unfold bt orI;congr 3;show IntKind.u8.wrap ((BitVec.ofInt 8 (a.toNat:Int)|||BitVec.ofInt 8 (b.toNat:Int)).toNat:Int)=_;rw [ofInt_u8,ofInt_u8,IntKind.wrap_u8];have:(a|||b).toNat=(a.toBitVec|||b.toBitVec).toNat:=rfl;have:=MX (a|||b);omega
def Pl(c:UInt8)(i:Int):UInt8:=rO (c.toNat/2^(min i.toNat 8))
def AO(c:UInt8)(i:Int):UInt8:=rO (c.toNat*2^(min i.toNat 8))
def P3(i:Int):UInt8:=rO (i%256).toNat
theorem NU{x y:Operand}{t t':TypeId}(k:IntKind)(a:UInt8)(b:Int)(hx:aW n F x=bt a)(c:aW n F y=.int k b)(f:0<=b):(execOp (aW n F) (⟨some d,.binOp .shr t x y t',ty,pos,after,none⟩:Oper)).run P w=.ok (.value (bt (Pl a b))) w:=by have e:(0:Int)<2^(min b.toNat IntKind.u8.bits):=Int.pow_pos aA1;rw [N4 .u8 k _ b _ hx c f rfl e];unfold bt Pl;congr 3;show(a.toNat:Int)/2^(min b.toNat 8)=_;have h1:=MX a;have h2:a.toNat/2^(min b.toNat 8)<=a.toNat:=Nat.div_le_self _ _;rw [nY,Zi aA0];simp
theorem NV{x y:Operand}{t t':TypeId}(k:IntKind)(a:UInt8)(b:Int)(hx:aW n F x=bt a)(c:aW n F y=.int k b)(e:0<=b):(execOp (aW n F) (⟨some d,.binOp .shl t x y t',ty,pos,after,none⟩:Oper)).run P w=.ok (.value (bt (AO a b))) w:=by rw [N5 .u8 k _ b _ hx c e rfl];unfold bt AO;congr 3
theorem NB{x:Operand}{s t:TypeId}(k:IntKind)(a:Int)(c:P.underlying s=some (.int k))(b:P.underlying t=some (.int .u8))(hx:aW n F x=.int k a):(execOp (aW n F) (⟨some d,.convert s t x,ty,pos,after,none⟩:Oper)).run P w=.ok (.value (bt (P3 a))) w:=by rw [AE .u8 k a c b hx];unfold bt P3;rw [IntKind.wrap_u8];congr 3;have h1:0<=a%256:=Int.emod_nonneg _ aA1;have h2:a%256<256:=Int.emod_lt_of_pos _ aA1;rw [nY,Zi aA0];omega
theorem pC{x y:Operand}{t t':TypeId}(a b:UInt8)(hx:aW n F x=bt a)(c:aW n F y=bt b)(h:W P n ops Q rest (dN F d (.bool (decide (a=b)))) w):W P n ops Q (⟨some d,.binOp .eql t x y t',ty,pos,after,none⟩::rest) F w:=fA rfl rfl (NZ a b hx c) h
theorem iY{x y:Operand}{t t':TypeId}(a b:UInt8)(hx:aW n F x=bt a)(c:aW n F y=bt b)(h:W P n ops Q rest (dN F d (.bool (!decide (a=b)))) w):W P n ops Q (⟨some d,.binOp .neq t x y t',ty,pos,after,none⟩::rest) F w:=fA rfl rfl (NW a b hx c) h
theorem X4{x y:Operand}{t t':TypeId}(a b:UInt8)(hx:aW n F x=bt a)(c:aW n F y=bt b)(h:W P n ops Q rest (dN F d (.bool (decide (a<b)))) w):W P n ops Q (⟨some d,.binOp .lss t x y t',ty,pos,after,none⟩::rest) F w:=fA rfl rfl (NX a b hx c) h
theorem X5{x y:Operand}{t t':TypeId}(a b:UInt8)(hx:aW n F x=bt a)(c:aW n F y=bt b)(h:W P n ops Q rest (dN F d (.bool (decide (b<a)))) w):W P n ops Q (⟨some d,.binOp .gtr t x y t',ty,pos,after,none⟩::rest) F w:=fA rfl rfl (NY a b hx c) h
theorem X2{x y:Operand}{t t':TypeId}(a b:UInt8)(hx:aW n F x=bt a)(c:aW n F y=bt b)(h:W P n ops Q rest (dN F d (bt (a-b))) w):W P n ops Q (⟨some d,.binOp .sub t x y t',ty,pos,after,none⟩::rest) F w:=fA rfl rfl (NT a b hx c) h
theorem W8{x:Operand}{s t:TypeId}(k:IntKind)(a:Int)(c:P.underlying s=some (.int k))(b:P.underlying t=some (.int .u8))(hx:aW n F x=.int k a)(h:W P n ops Q rest (dN F d (bt (P3 a))) w):W P n ops Q (⟨some d,.convert s t x,ty,pos,after,none⟩::rest) F w:=fA rfl rfl (NB k a c b hx) h
theorem Az(c:UInt8):bN .i64 (c.toNat:Int)=c.toNat:=by rw [IntKind.wrap_i64];have:=MX c;omega
theorem V8{x y:Operand}{t t':TypeId}(a b:Int)(hx:aW n F x=.int .i64 a)(c:aW n F y=.int .i64 b)(g:0<=a/\0<b/\bJ a):(execOp (aW n F) (⟨some d,.binOp .quo t x y t',ty,pos,after,none⟩:Oper)).run P w=.ok (.value (.int .i64 (a/b))) w:=
 N9 .i64 a b hx c g.1 g.2.1 (fw (by have:=Int.ediv_nonneg g.1 (Int.le_of_lt g.2.1);omega) (by have:=Int.ediv_le_self b g.1;have:=g.2.2.2;omega))
theorem V7{x y:Operand}{t t':TypeId}(a b:Int)(hx:aW n F x=.int .i64 a)(c:aW n F y=.int .i64 b)(g:0<=a/\0<b/\bJ a):(execOp (aW n F) (⟨some d,.binOp .rem t x y t',ty,pos,after,none⟩:Oper)).run P w=.ok (.value (.int .i64 (a%b))) w:=
 N6 .i64 a b hx c g.1 g.2.1 (fw (by have:=Int.emod_nonneg a (show b≠0 by omega);omega) (by have:=Int.emod_nonneg a (show b≠0 by omega);have:a%b<=a:=(by rw [Int.emod_def];have:=Int.mul_nonneg (Int.le_of_lt g.2.1) (Int.ediv_nonneg g.1 (Int.le_of_lt g.2.1));omega);have:=g.2.2.2;omega))
end
theorem toNat_le{t:Int}{m cap:Nat}(h:0<=t/\t<=(m:Int))(a:m<=cap):t.toNat<=cap:=aA0
theorem Hp.Lv{w0 w:World}{S:List Nat}{L:List bX}{α:Type}{f:α->List Value}{e sz cap:Nat}{o:Option Nat}{a:Option Addr}{l:List α}(h:Hp w0 S L w)(k:Nat)(b:L[k]? =some (aX f e sz o a cap l)):l.length<=cap:=by
 obtain⟨h1,_⟩:=h.res _ (aG b);rcases h1 with⟨_,rfl,rfl,_⟩|⟨g,c,_,_,_,h2,_⟩
 ·exact eJ _
 ·exact h2
section
variable {P : Program} {n : Md} {ops : Array Oper} {Q : Exit -> Act -> World -> Prop} {F : Nat -> Value} {w w0 : World} {S : List Nat} {L : List bX}
variable {d : Nat} {ty : TypeId} {pos : String} {after : Array Edge} {rest : List Oper} {α : Type} {f : α -> List Value}
theorem GL{t e:TypeId}(a:P.underlying t=some (.slice e)):P.elem t=e:=by simp [Program.elem,a]
theorem AB{x h:Operand}{t:TypeId}(a:Option Addr)(m c e sz:Nat)(k:IntKind)(j:Int)(g:P.underlying t=some (.slice e))(p:(sizeOf e).run P w=.ok sz w)(hx:aW n F x=.slice a m c)(f:aW n F h=.int k j)(l:List α)(r:m=l.length)
  (q:0<=j/\j<=(l.length:Int)) (s:m<=c):(execOp (aW n F) (⟨some d,.slice t x none (some h) none,ty,pos,after,none⟩:Oper)).run P w=.ok (.value (.slice a j.toNat c)) w:=by
 have i:=GL g;have b:P.underlying t=some (.slice (P.elem t)):=by rw [i];exact g
 have o:=run_slice_h (P:=P) w t a m c b k j q.1 aA0;rw [i,p]at o;simp only [execOp,hx,f,Sem.run_bind,Tg,Av,run_sliceAt_slice w t _ _ _ _ b,o,Result.andThen_ok,sliced];simp;intro _;cases a<;>simp [Addr.add]
theorem OG{x f:Operand}{t:TypeId}(a:Option Addr)(m c e sz:Nat)(k:IntKind)(j:Int)(g:P.underlying t=some (.slice e))(i:(sizeOf e).run P w=.ok sz w)(hx:aW n F x=.slice a m c)(b:aW n F f=.int k j)(l:List α)(o:m=l.length)
  (q:0<=j/\j<=(l.length:Int)) (p:m<=c) (h:W P n ops Q rest (dN F d (.slice a j.toNat c)) w):W P n ops Q (⟨some d,.slice t x none (some f) none,ty,pos,after,none⟩::rest) F w:=
 fA rfl rfl (AB a m c e sz k j g i hx b l o q p) h
def Pj(a:Option Addr)(cap b sz:Nat):Option Addr:=if cap=b then a else a.map (·.add (b*sz))
theorem Ts{x g:Operand}{t:TypeId}(a:Option Addr)(m c e sz:Nat)(k:IntKind)(j:Int)(h:P.underlying t=some (.slice e))(p:(sizeOf e).run P w=.ok sz w)(hx:aW n F x=.slice a m c)(f:aW n F g=.int k j)(l:List α)(r:m=l.length)
  (q:0<=j/\j<=(l.length:Int)):(execOp (aW n F) (⟨some d,.slice t x (some g) none none,ty,pos,after,none⟩:Oper)).run P w=.ok (.value (.slice (Pj a c j.toNat sz) (m-j.toNat) (c-j.toNat))) w:=by
 have i:=GL h;have b:P.underlying t=some (.slice (P.elem t)):=by rw [i];exact h
 have o:=run_slice_l (P:=P) w t a m c b k j q.1 aA0;rw [i,p]at o;simp only [execOp,hx,f,Sem.run_bind,Tg,Av,run_sliceAt_slice w t _ _ _ _ b,o,Result.andThen_ok,sliced,Pj,Sem.run_pure]
theorem mu[Inhabited α]{x ix:Operand}{t e:TypeId}(f:α->List Value)(l:List α)(m:Nat)(k:IntKind)(i:Int)(cs:List Value)(v:Value)(o:l.map f=cs.map (fun c=>[c]))(h:P.underlying t=some (.array m e))(r:l.length=m)(q:(isAgg e).run P w=.ok false w)(j:(sizeOf e).run P w=.ok 1 w)
  (hx:aW n F x=.agg cs.toArray) (p:aW n F ix=.int k i) (g:f (el l i)=[v]) (s:0<=i/\i<(l.length:Int)):(execOp (aW n F) (⟨some d,.index t x ix,ty,pos,after,none⟩:Oper)).run P w=.ok (.value v) w:=by
 have h1:i.toNat<l.length:=aA0;have h2:(cs.map (fun c=>[c]))[i.toNat]? =some [v]:=by rw [<-o,aZ,aJ h1];simp only [Tg];rw [<-g];simp [el,h1]
 have h3:cs[i.toNat]? =some v:=by
  rw [aZ]at h2;cases b:cs[i.toNat]? with
  |none=>rw [b]at h2;simp at h2
  |some c=>rw [b]at h2;simp at h2;rw [h2]
 have a:0<=i/\i<(m:Int):=aA0;simp [execOp,hx,p,Instr.index,asIntOf,run_underlying h,a,j,part,q,h3]
theorem GJ{w:World}(d:Nat){t:TypeId}(a b:aA)(h:P.underlying t=some .string):(Op.equalIn (d+1) t (str a) (str b)).run P w=.ok (decide (a=b)) w:=by
 have e:((⟨a.toArray⟩:ByteArray).toList==(⟨b.toArray⟩:ByteArray).toList)=decide (a=b):=by rw [ByteArray.toList_eq,ByteArray.toList_eq,fY];simp
 unfold str;rw [run_equalIn_string w d t _ _ h,e]
def EqF(P:Program)(w:World)(c a:List Value):List Field->List Bool->Prop
 |[],[]=>True
 | f :: e, b :: g => f.name ≠ "_" /\ (∃ u v, (part f.type c.toArray f.offset).run P w = .ok u w /\ (part f.type a.toArray f.offset).run P w = .ok v w /\ ∀ d, (Op.equalIn (d + 1) f.type u v).run P w = .ok b w) /\ EqF P w c a e g
 |_,_=>False
theorem GK{w:World}{g e:List Value}(d:Nat):∀(a:List Field) (c:List Bool),EqF P w g e a c->(Op.eqFields (d+1) g.toArray e.toArray a).run P w=.ok (c.all id) w
 |[],[],_=>rfl
 |[],_::_,h=>h.elim
 |_::_,[],h=>h.elim
 |f::a,b::c,⟨h1,⟨u,v,h2,h3,k⟩,j⟩=>by
  have i:=GK d a c j;simp only [Op.eqFields,h1,ne_eq,not_false_eq_true,eM,Sem.run_bind,h2,h3,k d,Result.andThen_ok];cases b with
  |true=>simpa using i
  |false=>simp
theorem NR{x y:Operand}{t t':TypeId}{b:List Field}(e c:List Value)(f:List Bool)(r:Bool)(g:P.underlying t=some (.struct b.toArray))(j:P.stoodInHeld t=false)(k:P.eqGuardType P.depth t=false)(hx:aW n F x=.agg e.toArray)(h:aW n F y=.agg c.toArray)
  (l:EqF P w e c b f) (i:f.all id=r):(execOp (aW n F) (⟨some d,.binOp .neq t x y t',ty,pos,after,none⟩:Oper)).run P w=.ok (.value (.bool (!r))) w:=by
 have a:P.fieldsOf t=b.toArray:=by simp [Program.fieldsOf,g]
 have h1:=run_equalIn_agg (P:=P) w 9999 t e.toArray c.toArray (by rw [a];exact g) j;rw [a]at h1;have h2:=GK 9998 b f l;simp only [execOp,hx,h,Sem.run_bind,run_eqGuard_agg w .neq t x y _ _ k,Result.andThen_ok,run_neq_struct,h1,h2,i];simp
theorem OI{x y:Operand}{t t':TypeId}{e:List Field}(b a:List Value)(c:List Bool)(r:Bool)(g:P.underlying t=some (.struct e.toArray))(j:P.stoodInHeld t=false)(k:P.eqGuardType P.depth t=false)(hx:aW n F x=.agg b.toArray)(f:aW n F y=.agg a.toArray)
  (l:EqF P w b a e c) (i:c.all id=r) (h:W P n ops Q rest (dN F d (.bool (!r))) w):W P n ops Q (⟨some d,.binOp .neq t x y t',ty,pos,after,none⟩::rest) F w:=fA rfl rfl (NR b a c r g j k hx f l i) h
end
theorem Rd.bytes{w:World}{a:Option Addr}{l:List UInt8}(h:Rd w a (l.flatMap eB)):Rd w a (l.map bt):=kI l▸h
theorem Rd.iA{w:World}{a:Option Addr}{l:List UInt8}(h:Rd w a (l.map bt)):Rd w a (l.flatMap eB):=(kI l).symm▸h
theorem Rd.nt{w:World}{a:Option Addr}{α:Type}{f:α->List Value}{sz:Nat}{l:List α}(b:oV f sz)(m:Nat)(h:Rd w a (l.flatMap f)):Rd w a ((l.take m).flatMap f):=by
 have e:(l.take m).flatMap f=(l.flatMap f).take ((l.take m).length*sz):=by
  have:l.flatMap f=(l.take m).flatMap f++(l.drop m).flatMap f:=by rw [<-LY,LZ]
  rw [this,<-b.flat (l.take m),Jr]
 rw [e];exact h.take _
theorem Rd.MF{w0 w:World}{S:List Nat}{L:List bX}{a:Option Addr}{b:List Value}(h:Rd w0 a b)(d:Hp w0 S L w)(c:b≠[]->∀p,a=some p->p.block∉S):Rd w a b:=by
 cases b with
 |nil=>exact Rd.nil _ _
 |cons x b=>exact h.hpS d (c aA2)
theorem Rd.Br{w:World}{a:Option Addr}{α:Type}{f:α->List Value}{sz:Nat}{l:List α}(c:oV f sz)(cap k:Nat)(d:l.length<=cap)(h:Rd w a (l.flatMap f)):Rd w (Pj a cap k sz) ((l.drop k).flatMap f):=by
 unfold Pj;split
 ·rename_i e;rw [YG aA0];exact Rd.nil _ _
 ·rw [<-zY f sz c.len l k];cases a with
  |none=>intro j v b;rw [bU]at b;obtain⟨p,hp,_⟩:=h _ v b;cases hp
  |some p=>exact h.drop (k*sz)
theorem Hp.xW{w0 w:World}{S:List Nat}{L L1:List bX}{a:Option Addr}{b:List Value}(h:Hp w0 S L w)(m:Nat)(l:Rd w0 a b)(d:b≠[]->∀p,a=some p->p.block∉S)(n:L.take m=L1):
  b≠[]->∀p,a=some p->p.block∉cR L1:=by
 intro hx p f i;obtain⟨r,g,k⟩:=lI i;subst n;have c:=(h.res r (yE g)).2 p.block k;rcases c.2 with h1|h1
 ·cases b with
  |nil=>exact hx rfl
  |cons x b=>obtain⟨q,e,j⟩:=l 0 x rfl;rw [f]at e;cases e;have:=xR j;rw [jc]at this;omega
 ·exact d hx p f h1
def jmp:Nat->Option Code
 |0=>none
 |1=>some .ret
 |n+2=>some (.exit n)
def MD(j:Nat):LoopState:=if j=0 then .ready else .done
def bW(l j:Nat)(a:Loop):bX:=⟨some l,fun o=>o=some (.loop {a with state:=MD j,pending:=jmp j})⟩
def Ld(l:Nat)(a:Loop):bX:=⟨some l,fun o=>∃b,o=some (.loop {a with state:=.busy,pending:=b})⟩
def jT(r:Nat):bX:=⟨some r,fun o=>o=some (.deferred (some []))⟩
def gone(r:Nat):bX:=⟨some r,fun _=>True⟩
theorem Hp.put{w0 w:World}{S:List Nat}{L:List bX}(h:Hp w0 S L w)(k b:Nat)(r r':bX)(o:Obj)(g:L[k]? =some r)(d:r.own=some b)(a:r'.own=some b)(m:r'.ok (some o)):Hp w0 S (L.set k r') (w.putObj b o):=by
 have l:=((h.res _ (aG g)).2 b d).1;refine h.change k _ _ g rfl rfl rfl aA2 (fun j n f=>World.putObj_heap_other (fun e=>f (by rw [d,e]))) ?_ (fun c i=> ?_)
 ·unfold bX.holds;rw [a];simp only [aY];rw [World.putObj_heap_same l];exact m
 ·rw [a]at i;cases i;exact⟨.inl d,by simpa using l⟩
theorem Hp.Ss{w0 w:World}{S:List Nat}{L:List bX}(h:Hp w0 S L w)(o:Obj)(r:bX)(a:r.own=some w.heap.size)(d:r.ok (some o)):Hp w0 S (r::L) (w.alloc o):=by
 have h2:Hp w [] [r] (w.alloc o):=by
  refine⟨rfl,rfl,rfl,aA2,fun k e _=>RowKit.Below.heap_alloc w _ k e,fun x hx=> ?_,aA2⟩;simp at hx;subst hx;refine⟨?_,fun b c=> ?_⟩
  ·unfold bX.holds;rw [a];show x.ok ((w.heap.push o)[w.heap.size]?);simpa using d
  ·rw [a]at c;cases c;simp
 exact h.kJ h2
def YR(P:Program)(l:Nat)(args:List Value)(w:World)(R:Value->World->Prop):Prop:=
 ∃f a fE b,(Instr.yield l args.toArray).run P w=.ok (.round l f a fE b) w/\RoundIn Fence.wide 0 P l f a fE b w (fun e w'=>∃v,e=.returned v/\R v w')
theorem YR.mono{P:Program}{l:Nat}{args:List Value}{w:World}{R b:Value->World->Prop}(h:YR P l args w R)(d:∀v w',R v w'->b v w'):YR P l args w b:=by obtain⟨f,a,fE,i,h1,h2⟩:=h;exact⟨f,a,fE,i,h1,h2.mono fun e w' ⟨v,c,g⟩=>⟨v,c,d v w' g⟩⟩
section
variable {P : Program} {ops : Array Oper} {Q : Exit -> Act -> World -> Prop} {F : Nat -> Value} {w w0 : World} {S : List Nat} {L : List bX}
variable {d : Nat} {ty : TypeId} {pos : String} {after : Array Edge} {rest : List Oper} {k : Nat} {D : List Deferred} {ro : Option Nat}
theorem vJ{g:Operand}{fE:Array Operand}{c:Array TypeId}(l:Nat)(vs:List Value)(R:Value->World->Prop)
  (m:aW ⟨k,D,some ro⟩ F g=.func (.yield l) #[] #[]) (p: #[]++fE.map (aW ⟨k,D,some ro⟩ F)++ #[]=vs.toArray) (o:YR P l vs w R) (h:∀v w',R v w'->W P ⟨k,D,some ro⟩ ops Q rest (dN F d v) w'):
  W P ⟨k,D,some ro⟩ ops Q (⟨some d,.call ⟨.value g,fE,c⟩,ty,pos,after,none⟩::rest) F w:=by
 obtain⟨f,b,i,r,h1,h2⟩:=o;have a:(execOp (aW ⟨k,D,some ro⟩ F) (⟨some d,.call ⟨.value g,fE,c⟩,ty,pos,after,none⟩:Oper)).run P w=.ok (.round l f b i r) w:=by simp only [execOp,resolve,m,Deferred.ofValue];show Sem.run P (Instr.yield l (#[]++fE.map (aW ⟨k,D,some ro⟩ F)++ #[])) w=_;rw [p];exact h1
 unfold W WR;refine wpListIn_plain rfl fun K q=>⟨fun _ _=>trivial, ?_⟩;rw [HC,rV _ a (fun d e=>by cases e),a,Oper.uponIn_round];refine⟨fun h=>absurd h Bool.false_ne_true, ?_⟩;refine RoundIn.mono (F:=Fence.wide) (n:=0) h2 ?_;rintro e w' ⟨v,rfl,j⟩;refine q _ _ ?_;have:=h v w' j;unfold W WR at this;rw [<-jJ]at this;exact this
theorem BY{f:FuncId}{fn:Func}{c:Code}{args:List Value}{R:Value->World->Prop}(d:P.funcs[f]? =some fn)(g:fn.body=some c)(a:fn.ntmps=k)(b:args.length<=k)
  (h:C P ⟨k,[],some none⟩ (bodyPost P fn fun e w'=>∃v,e=.returned v/\R v w') c (Za args) w):CR P f args w R:=by
 refine(callsIn_wide (n:=0)).1 (callsIn_of_wp d g trivial ?_);rw [a,Rh args k b];unfold C CC at h;exact h
theorem BX{f:FuncId}{fn:Func}{c:Code}{args:List Value}{R:Value->World->Prop}(d:P.funcs[f]? =some fn)(g:fn.body=some c)(a:fn.ntmps=k)(b:args.length<=k)
  (h:C P ⟨k,[],some none⟩ (bodyPostM Fence.wide 0 P fn fun e w'=>∃v,e=.returned v/\R v w') c (Za args) w):CR P f args w R:=by
 refine(callsIn_wide (n:=0)).1 (callsIn_of_wp_marks d g trivial ?_);rw [a,Rh args k b];unfold C CC at h;exact h
def mark(r:Nat):Deferred:={target:=.collected r,args:= #[]}
theorem bc{fn:Func}{R:Value->World->Prop}(h:∃v,(results fn (fr ⟨k,[],none⟩ F).tmps).run P w=.ok v w/\R v w):
  bodyPostM Fence.wide 0 P fn (fun e w'=>∃v,e=.returned v/\R v w') .ret (fr ⟨k,[],some none⟩ F) w:=by
 obtain⟨v,h1,h2⟩:=h;exact⟨v,h1,v,rfl,h2⟩
theorem bb{fn:Func}{R:Value->World->Prop}(c:Hp w0 S L w)(a r:Nat)(b:L[a]? =some (jT r))(h:∀w',Hp w0 S (L.set a (gone r)) w'->∃v,(results fn (fr ⟨k,[],none⟩ F).tmps).run P w'=.ok v w'/\R v w'):
  bodyPostM Fence.wide 0 P fn (fun e w'=>∃v,e=.returned v/\R v w') .ret (fr ⟨k,[mark r],some none⟩ F) w:=by
 have d:w.heap[r]? =some (.deferred (some [])):=(c.res _ (aG b)).1;obtain⟨v,h1,h2⟩:=h _ (c.put a r (jT r) (gone r) (.deferred none) b rfl rfl trivial);exact⟨aA2,.inl ⟨r,_,rfl,run_takeDeferred d,v,h1,v,rfl,h2⟩⟩
theorem EW{kk:Nat}{fn:Func}{R:Value->World->Prop}(l:List ResultVar)(vs:List Value)(v:Value)(e:fn.results=l.toArray)(f:l.length=vs.length)
  (d:∀(i:Nat) (x:ResultVar) (v:Value),l[i]? =some x->vs[i]? =some v->Ta P kk F w x v) (b:(match vs with|[u]=>u|c=>.tuple c.toArray)=v) (h:R v w):
  ∃v,(results fn (fr ⟨kk,[],none⟩ F).tmps).run P w=.ok v w/\R v w:=⟨v,pH l vs e f d v aC9,h⟩
theorem Gp{fn:Func}{R:Value->World->Prop}(l:List ResultVar)(vs:List Value)(v:Value)(f:fn.results=l.toArray)(g:l.length=vs.length)
  (d:∀(i:Nat) (x:ResultVar) (v:Value),l[i]? =some x->vs[i]? =some v->Ta P k F w x v) (b:(match vs with|[u]=>u|c=>.tuple c.toArray)=v) (h:R v w):
  bodyPostM Fence.wide 0 P fn (fun e w'=>∃v,e=.returned v/\R v w') .ret (fr ⟨k,[],some none⟩ F) w:=
 bc (EW l vs v f g d aC9 h)
theorem Qr{fn:Func}{R:Value->World->Prop}(o:Hp w0 S L w)(c r:Nat)(n:L[c]? =some (jT r))(l:List ResultVar)(vs:List Value)(v:Value)(j:fn.results=l.toArray)(m:l.length=vs.length)
  (g:∀w',Hp w0 S (L.set c (gone r)) w'->∀(i:Nat) (x:ResultVar) (v:Value),l[i]? =some x->vs[i]? =some v->Ta P k F w' x v) (b:(match vs with|[u]=>u|f=>.tuple f.toArray)=v) (h:∀w',Hp w0 S (L.set c (gone r)) w'->R v w'):
  bodyPostM Fence.wide 0 P fn (fun e w'=>∃v,e=.returned v/\R v w') .ret (fr ⟨k,[mark r],some none⟩ F) w:=
 bb o c r n fun w' d=>EW l vs v j m (g w' d) aC9 (h w' d)
def xz(P:Program)(k r:Nat)(Q:Exit->Act->World->Prop)(F:Nat->Value)(j:Nat)(w:World):Prop:=
 match jmp j with
 |none=>Q .normal (fr ⟨k,[mark r],some none⟩ F) w
 |some c=>C P ⟨k,[mark r],some none⟩ Q c F w
theorem rg0{r j:Nat}(a:j=0)(h:Q .normal (fr ⟨k,[mark r],some none⟩ F) w):xz P k r Q F j w:=by subst a;exact h
theorem rg1{r j:Nat}(a:j=1)(h:C P ⟨k,[mark r],some none⟩ Q .ret F w):xz P k r Q F j w:=by subst a;exact h
theorem qR{g:Operand}{a:Array Tmp}{assign body:Code}(z:Hp w0 S L w)(f:Nat)(cap:List Value)(u:aW ⟨k,[],some none⟩ F g=.func (.func f) #[] cap.toArray)(A:Enters P f)
  (h:∀(r l:Nat) (b:Loop) (w2:World),b.assign=assign->b.body=body->b.params=a->b.tmps=(fr ⟨k,[],some none⟩ F).tmps->Hp w0 S (bW l 0 b::jT r::L) w2->
   CR P f (.func (.yield l) #[] #[]::cap) w2 fun _ i=>∃j p,Hp w0 S (bW l j b::p) i/\∀q,Hp w0 S p q->xz P k r Q F j q):
  C P ⟨k,[],some none⟩ Q (.rangeFunc g a assign body) F w:=by
 unfold C CC;refine wpIn_rangeFunc fun fn _=> ?_;have o:=z.Ss (.deferred (some [])) (jT w.heap.size) rfl rfl;have m:=o.Ss (.loop {state:=.ready,pending:=none,fn:=fn,tmps:=(fr ⟨k,[],some none⟩ F).tmps,params:=a,assign:=assign,body:=body,defers:=w.heap.size}) (bW (w.heap.size+1) 0 {state:=.ready,pending:=none,fn:=fn,tmps:=(fr ⟨k,[],some none⟩ F).tmps,params:=a,assign:=assign,body:=body,defers:=w.heap.size}) (by simp [bW]) rfl;have x:=h w.heap.size (w.heap.size+1) _ _ rfl rfl rfl rfl m;refine⟨w.heap.size+1,[mark w.heap.size],((w.alloc (.deferred (some []))).alloc (.loop {state:=.ready,pending:=none,fn:=fn,tmps:=(fr ⟨k,[],some none⟩ F).tmps,params:=a,assign:=assign,body:=body,defers:=w.heap.size})),{target:=.fn (.func f) cap.toArray,args:= #[]++ #[.func (.yield (w.heap.size+1)) #[] #[]]},((w.alloc (.deferred (some []))).alloc (.loop {state:=.ready,pending:=none,fn:=fn,tmps:=(fr ⟨k,[],some none⟩ F).tmps,params:=a,assign:=assign,body:=body,defers:=w.heap.size})),f,(Value.func (.yield (w.heap.size+1)) #[] #[]::cap).toArray,((w.alloc (.deferred (some []))).alloc (.loop {state:=.ready,pending:=none,fn:=fn,tmps:=(fr ⟨k,[],some none⟩ F).tmps,params:=a,assign:=assign,body:=body,defers:=w.heap.size})),run_enterLoop_outer fn _ _ _ _, ?_,fun _ _=>trivial, ?_,fun h=>absurd h Bool.false_ne_true, ?_⟩
 ·rw [HC];simp only [resolve,rangeCall,u,Deferred.ofValue];simp;rfl
 ·have e:(#[]++ #[Value.func (.yield (w.heap.size+1)) #[] #[]]:Array Value)++cap.toArray=(Value.func (.yield (w.heap.size+1)) #[] #[]::cap).toArray:=by simp
  rw [<-e];exact A.run _ _
 ·refine(callsIn_wide (n:=0)).2 (Calls.mono x ?_);rintro e i ⟨v,rfl,j,p,h3,D⟩;have t:i.heap[w.heap.size+1]? =_:=(h3.res _ (iH)).1;have y:MD j≠.busy:=by unfold MD;split<;>simp
  refine⟨jmp j,_,run_endLoop t y, ?_⟩;have B:=(h3.put 0 (w.heap.size+1) _ (gone (w.heap.size+1)) (.loop {({state:=.ready,pending:=none,fn:=fn,tmps:=(fr ⟨k,[],some none⟩ F).tmps,params:=a,assign:=assign,body:=body,defers:=w.heap.size}:Loop)with state:=.exhausted,pending:=jmp j}) rfl rfl rfl trivial).tail;have d:=D _ B;unfold xz at d;revert d;generalize jmp j=s;intro d;cases s with
  |none=>exact d
  |some c=>unfold C CC at d;exact d
def Eo(F:Nat->Value):List Nat->List Value->Nat->Value
 |p::b,v::a=>Eo (dN F p v) b a
 |_,_=>F
theorem Lo(m:Md):∀(a:List Nat) (vs:List Value) (F:Nat->Value),(a.zip vs).foldl (fun t (x:Nat×Value)=>t.setIfInBounds x.1 x.2) (fr m F).tmps=(fr m (Eo F a vs)).tmps
 |[],_,F=>by simp [Eo]
 |_::_,[],F=>by simp [Eo]
 |p::a,v::vs,F=>by simp only [List.zip_cons_cons,mM,Eo];rw [<-Lo m a vs (dN F p v)];congr 1;have:=jJ m F p v;unfold Act.put at this;exact bP Act.tmps this
def ir(P:Program)(l:Nat)(b:Code)(R:Value->World->Prop):Exit->Act->World->Prop:=
 Exit.then (fun c a=>∃w2,(Instr.beginRound l).run P a=.ok () w2/\b.wpIn (If (some l)) 0 P (roundPost P l fun e w'=>∃v,e=.returned v/\R v w') c w2) (fun _ _ _=>False)
def XC(P:Program)(l:Nat)(R:Value->World->Prop):Exit->Act->World->Prop:=roundPost P l fun e w'=>∃v,e=.returned v/\R v w'
theorem Ee{l:Nat}{a:Loop}{R:Value->World->Prop}{b:List Nat}{vs:List Value}{m:Option (Option Nat)}{c f:Code}(s:Hp w0 S L w)(g:Nat)(o:L[g]? =some (bW l 0 a))(q:a.assign=c)(p:a.body=f)(d:a.params=b.toArray)(i:a.tmps=(fr ⟨k,[],m⟩ F).tmps)(n:b.length=vs.length)
  (h:C P ⟨k,[],some (some l)⟩ (ir P l f R) c (Eo F b vs) w):YR P l vs w R:=by
 have j:w.heap[l]? =some (.loop {a with state:=MD 0,pending:=jmp 0}):=(s.res _ (aG o)).1;subst q;subst p;refine⟨a.fn,_,a.assign,a.body,run_yield (r:={a with state:=MD 0,pending:=jmp 0}) j (by simp [d,n]), ?_⟩;refine roundIn_of_wpIn trivial ?_;have e:(({a with state:=MD 0,pending:=jmp 0}:Loop).params.zip vs.toArray).foldl (fun tmps (x:Nat×Value)=>tmps.setIfInBounds x.1 x.2) ({a with state:=MD 0,pending:=jmp 0}:Loop).tmps=(fr ⟨k,[],some (some l)⟩ (Eo F b vs)).tmps:=by show((a.params.zip vs.toArray).foldl _ a.tmps)=_;rw [d,i];have:=Lo ⟨k,[],m⟩ b vs F;rw [show(fr ⟨k,[],some (some l)⟩ (Eo F b vs)).tmps=(fr ⟨k,[],m⟩ (Eo F b vs)).tmps from rfl,<-this];simp
 unfold C CC at h;have t:fr ⟨k,[],some (some l)⟩ (Eo F b vs)={tmps:=(fr ⟨k,[],some (some l)⟩ (Eo F b vs)).tmps,defers:=[]}:=rfl;rw [t,<-e]at h;exact h
theorem Ja{l:Nat}{a:Loop}{R:Value->World->Prop}{e:Code}(d:Hp w0 S L w)(b:Nat)(c:L[b]? =some (bW l 0 a))(h:∀w2,Hp w0 S (L.set b (Ld l a)) w2->C P ⟨k,[],some (some l)⟩ (XC P l R) e F w2):
  ir P l e R .normal (fr ⟨k,[],some (some l)⟩ F) w:=by
 have f:w.heap[l]? =some (.loop {a with state:=MD 0,pending:=jmp 0}):=(d.res _ (aG c)).1;have h2:=h _ (d.put b l (bW l 0 a) (Ld l a) (.loop {a with state:=.busy,pending:=jmp 0}) c rfl rfl ⟨_,rfl⟩);unfold C CC XC at h2;exact⟨_,run_beginRound f rfl,h2⟩
theorem ES{l:Nat}{a:Loop}{R:Value->World->Prop}(j:Nat)(f:Hp w0 S L w)(b:Nat)(e:L[b]? =some (Ld l a))(h:∀w',Hp w0 S (L.set b (bW l j a)) w'->R (.bool (decide (j=0))) w'):
  ∃v w',(Instr.endRound l (jmp j)).run P w=.ok v w'/\∃u,Ending.returned v=.returned u/\R u w':=by
 obtain⟨g,i⟩:=(f.res _ (aG e)).1;have c:w.heap[l]? =some (.loop {a with state:=.busy,pending:=g}):=i;have d:(jmp j).isNone=decide (j=0):=by
  cases j with
  |zero=>rfl
  |succ n=>cases n<;>rfl
 have k:(if(jmp j).isNone=true then LoopState.ready else .done)=MD j:=by rw [d];unfold MD;simp
 refine⟨_,_,run_endRound (jmp j) c,_,rfl, ?_⟩;rw [d];refine h _ ?_;have h3:=f.put b l (Ld l a) (bW l j a) (.loop {a with state:=MD j,pending:=jmp j}) e rfl rfl rfl;rw [<-d,k];exact h3
theorem nC{l:Nat}{b:Loop}{R:Value->World->Prop}(d:Hp w0 S L w)(a:Nat)(c:L[a]? =some (Ld l b))(h:∀w',Hp w0 S (L.set a (bW l 0 b)) w'->R (.bool true) w'):XC P l R .normal (fr ⟨k,[],some (some l)⟩ F) w:=ES 0 d a c h
theorem ER{l:Nat}{b:Loop}{R:Value->World->Prop}(d:Hp w0 S L w)(a:Nat)(c:L[a]? =some (Ld l b))(h:∀w',Hp w0 S (L.set a (bW l 1 b)) w'->R (.bool false) w'):XC P l R .ret (fr ⟨k,[],some (some l)⟩ F) w:=ES 1 d a c h
end
attribute [irreducible] xz ir XC
open List renaming replicate → hC
open Nat renaming blt → fC
open _root_.Array renaming replicate → Tn
def NoD(ops:Array Oper):Prop:=∀(j:Nat) (o:Oper) c,ops[j]? =some o->o.op≠.defer c
def il(ops:Array Oper)(Q:Exit->Act->World->Prop):Prop:=Zh Q/\NoD ops
section
variable {P : Program} {ops : Array Oper} {Q : Exit -> Act -> World -> Prop} {md : Region.Mode} {S : Nat -> World -> World -> Prop} {x : Option Nat}
theorem nU{x:Option Nat}{o:Oper}{w:World}{ρ:Operand->Value}:∀f,o.about P w ρ=some f->(If x).fn f:=fun _ _=>trivial
theorem _root_.Go.YieldsIf.O7{Si:World->Prop}{i:Nat}{o:Oper}{v:Value}{a:Act}{w:World}(f:ops[i]? =some o)(g:∀c,o.op≠.defer c)(j:Si w){K:Act->World->Prop}(d:YieldsIf P ops Si o v a)(h:K (a.put o.dst v) w):wpOpIn (If x) 0 P ops Q i K a w:=by
 unfold wpOpIn;simp only [f];rcases d with⟨b,e⟩|⟨b,rfl⟩
 ·simp only [b,eM,Oper.wpIn,Oper.semAt_eq _ _ _ g,e w j,Oper.uponIn];exact⟨nU,h⟩
 ·simp only [b,Jy,cL];exact⟨nU,h⟩
theorem Oo{Si:World->Prop}{j:Nat}{oi i:Oper}{v:Value}(D:ops[j]? =some i)(z:oi.apart ops i=true)
  (t:∀cs b,oi.op≠.select cs b) (s:∀cs b,i.op≠.select cs b) (p:∀c,i.op≠.defer c)
  (A:∀c a w,Q (.panic c) (a.put oi.dst v) w->Q (.panic c) a w) {K:Act->World->Prop} {a:Act} {w:World}
  (k:YieldsIf P ops Si oi v a) (h:wpOpIn (If x) 0 P ops Q j K (a.put oi.dst v) w):
  wpOpIn (If x) 0 P ops Q j (fun a' w'=>YieldsIf P ops Si oi v a'/\K (a'.put oi.dst v) w') a w:=by
 obtain⟨h1,h2,h3⟩:=Oper.apart_spec z;have g:∀(a:Act),YieldsIf P ops Si oi v a->∀u,YieldsIf P ops Si oi v (a.put i.dst u):=fun a k u=>
  k.of_same (execOp_put oi t a i.dst u h3) (wanted_put oi a i.dst u h3)
 have n:∀d,YieldsIf P ops Si oi v {a with defers:=d::a.defers}:=fun d=>k.of_same rfl rfl;unfold wpOpIn at*;simp only [D]at*;rw [wanted_put i a oi.dst v h1]at h;split
 ·rename_i q;simp only [q,eM]at h;unfold Oper.wpIn at*;refine⟨nU, ?_⟩;have h:=h.2;rw [Oper.semAt_eq _ _ _ p,execOp_put i s a oi.dst v h1]at h;rw [Oper.semAt_eq _ _ _ p];generalize(execOp a.eval i).run P w=r at*
  cases r with
  |ok y w'=>
   cases y<;>simp only [Oper.uponIn]at h⊢
   case value u=>exact⟨g a k u,by rw [<-Act.put_comm a v u h2];exact h⟩
   case skip=>exact⟨g a k _,by rw [<-Act.put_comm a v undef h2];exact h⟩
   case defer d=>
    refine⟨g _ (n d) _, ?_⟩;rw [<-Act.put_comm _ v undef h2,<-Act.put_defers];exact h
   case enter f args=>
    refine⟨h.1,CallsIn.mono h.2 fun e o m=> ?_⟩;cases e with
    |returned u=>exact⟨g a k u,by rw [<-Act.put_comm a v u h2];exact m⟩
    |panicked c=>exact A _ _ _ m
    |outgrown=>exact m
   case row row args=>exact⟨h.1,RowsIn.mono h.2 fun u o m=>⟨g a k u,by rw [<-Act.put_comm a v u h2];exact m⟩⟩
   case round l f B assign C=>
    refine⟨h.1,RoundIn.mono h.2 fun e o m=> ?_⟩;cases e with
    |returned u=>exact⟨g a k u,by rw [<-Act.put_comm a v u h2];exact m⟩
    |panicked c=>exact A _ _ _ m
    |outgrown=>exact m
  |halt y w'=>
   cases y<;>simp only [Oper.uponIn]at h⊢
   case panic u=>exact A _ _ _ h
 ·rename_i q;simp only [q]at h;exact⟨nU,g a k _,by rw [<-Act.put_comm a v undef h2];exact h.2⟩
theorem oZ{Q':Exit->Act->World->Prop}:∀(l:List Oper) (k:Nat) (listed:Array Bool) (a:Act) (w:World),(∀j,l[j]? =ops[k+j]?)->
  Region.seqB md ops l.length k listed=true->wpListIn (If x) 0 P ops Q' l a w->wpAnyIn (If x) 0 P md ops Q' l.length listed a w
 |[],_,_,_,_,_,b,h=>⟨by simpa [Region.seqB] using b,h⟩
 |o::l,k,listed,a,w,d,b,h=>by
  have g:ops[k]? =some o:=by simpa using (d 0).symm
  simp only [cF,Region.seqB,mH,bE]at b;refine⟨fun h1=>(by rw [b.1]at h1;cases h1),fun i e=> ?_⟩;rw [b.1]at e;have c:i=k:=by simpa using e
  subst c;have f:wpOpIn (If x) 0 P ops Q' i (wpListIn (If x) 0 P ops Q' l) a w:=by unfold wpOpIn;simp only [g];unfold wpListIn at h;exact h
  exact wpOpIn_mono (fun a' w' m=>oZ l (i+1) _ a' w' (fun j=>by have:=d (j+1);simpa [Ax,Df 1 j] using this) b.2 m) f
def yN(x:Option Nat)(P:Program)(md:Region.Mode)(ops:Array Oper)(Q:Exit->Act->World->Prop)(S:Nat->World->World->Prop)(k:Nat)(Z:Act->World->Prop):Nat->Array Bool->Act->World->Prop
 |0,listed,a,w=>Region.seqB md ops (ops.size-k) k listed=true/\Z a w
 |f+1,listed,a,w=>Region.ready md ops listed≠[]/\∀i∈Region.ready md ops listed,i<k/\wpOpIn (If x) 0 P ops Q i (fun a' w'=>S i w w'/\yN x P md ops Q S k Z f (listed.setIfInBounds i true) a' w') a w
theorem Vn{k:Nat}{Z:Act->World->Prop}(d:k<=ops.size)(c:∀a w,Z a w->wpListIn (If x) 0 P ops Q (ops.toList.drop k) a w):
  ∀(f:Nat) (listed:Array Bool) (a:Act) (w:World),yN x P md ops Q S k Z f listed a w->wpAnyIn (If x) 0 P md ops Q (f+(ops.size-k)) listed a w
 |0,listed,a,w,h=>by have b:(ops.toList.drop k).length=ops.size-k:=aA2;have:=oZ (md:=md) (Q':=Q) (ops.toList.drop k) k listed a w (fun j=>by simp [bU]) (by rw [b];exact h.1) (c a w h.2);rw [b]at this;rw [Dh];exact this
 |f+1,listed,a,w,h=>by rw [show f+1+(ops.size-k)=(f+(ops.size-k))+1 by omega];exact⟨fun g=>absurd g h.1,fun i e=>wpOpIn_mono (fun a' w' l=>Vn d c f _ a' w' l.2) (h.2 i e).2⟩
theorem AV{k i:Nat}{Z:Act->World->Prop}{oi:Oper}{v:Value}(Si:World->Prop)(D:List Nat)(hD:Ik md ops i D=true)(R:∀j w w',S j w w'->eQ D Si j w w')(I:ops[i]? =some oi)(y:∀(j:Nat) (o:Oper) cs b,ops[j]? =some o->o.op≠.select cs b)
  (hQ:∀c a w,Q (.panic c) (a.put oi.dst v) w->Q (.panic c) a w) (C:NoD ops) (X:i<k)
  (l:∀listed:Array Bool,HeadInv md ops k listed->listed.getD i true=false->∀t,k<=t->t∉Region.ready md ops listed):
  ∀(f:Nat) (listed:Array Bool) (a:Act) (w:World),HeadInv md ops k listed->
   (∀j u,ops[j]? =some u->j≠i->listed.getD j true=false->(∀e∈u.after,Region.binds md e=true->e.on≠i)->oi.apart ops u=true)->
   i∈Region.ready md ops listed->YieldsIf P ops Si oi v a->Si w->(∀j w,S j w w)->
   yN x P md ops Q S k Z f (listed.setIfInBounds i true) (a.put oi.dst v) w->yN x P md ops Q S k Z (f+1) listed a w:=by
 intro f;induction f with
 |zero=>
  intro listed a w n g z K L s H;have p:=(mem_ready.1 z).1;refine⟨fun T=>(by rw [T]at z;cases z),fun j B=> ?_⟩
  have q:j<k:=by
   rcases De j k with h|h
   ·exact h
   ·exact absurd B (l listed n p j h)
  by_cases d:j=i
  ·subst d;exact⟨q,K.O7 I (fun c=>C j oi c I) L ⟨s _ _,H⟩⟩
  ·have h1:=seqB_ready H.1 j (ready_mono B d);omega
 |succ f V=>
  intro listed a w n g z K L s H;have p:=(mem_ready.1 z).1;refine⟨fun T=>(by rw [T]at z;cases z),fun j B=> ?_⟩
  have q:j<k:=by
   rcases De j k with h|h
   ·exact h
   ·exact absurd B (l listed n p j h)
  by_cases d:j=i
  ·subst d;exact⟨q,K.O7 I (fun c=>C j oi c I) L ⟨s _ _,H⟩⟩
  ·have h1:=(H.2 j (ready_mono B d)).2;have O:=Ij hD n p B;obtain⟨A,u,r,J⟩:=mem_ready.1 B;have F:∀e∈u.after,Region.binds md e=true->e.on≠i:=fun e Y hb heq=>by have h2:=J e Y hb;rw [heq,getD_both p]at h2;cases h2
   have h2:=Oo r (g j u r d A F) (fun cs b=>y i oi cs b I) (fun cs b=>y j u cs b r) (fun c=>C j u c r) hQ K h1;refine⟨q,wpOpIn_mono (fun a' w' h3=>⟨h3.2.1,V (listed.setIfInBounds j true) a' w' (n.set B q) (fun m U W N E M=>g m U W N ?_ M) (ready_mono z (Ne.symm d)) h3.1 (R j _ w' h3.2.1 (by simpa using O) L) s ?_⟩) h2⟩
   ·by_cases G:j=m
    ·subst G;exact A
    ·rw [getD_set_ne true G]at E;exact E
   ·rw [Array.setIfInBounds_comm _ _ d];exact h3.2.2
end
section
variable {P : Program} {kn : Nat} {kD : List Deferred} {ops : Array Oper} {Q : Exit -> Act -> World -> Prop} {S : Nat -> World -> World -> Prop} {Si : World -> Prop} {F : Nat -> Value} {w : World} {x : Option Nat}
def RI(x:Option Nat)(P:Program)(n:Md)(ops:Array Oper)(Q:Exit->Act->World->Prop)(S:Nat->World->World->Prop)(k f:Nat)(listed:List Bool)(F:Nat->Value)(w:World):Prop:=
 HeadInv .any ops k listed.toArray->(∀j w,S j w w)->il ops Q->yN x P .any ops Q S k (fun a w=>wpListIn (If x) 0 P ops Q (ops.toList.drop k) a w) f listed.toArray (fr n F) w
def mg(x:Option Nat)(P:Program)(n:Md)(ops:Array Oper)(Q:Exit->Act->World->Prop)(S:Nat->World->World->Prop)(k f:Nat)(listed:List Bool)(i:Nat)(w:World):Exit->Act->World->Prop:=
 Exit.then (fun a' w'=>∃a,a'=fr n a/\S i w w'/\RI x P n ops Q S k f listed a w') Q
theorem VW{w0:World}{S0:List Nat}{L:List bX}{id:Nat}{l:List Oper}(k:Nat)(S:Nat->World->World->Prop)(listed:List Bool)(b:∀j w,S j w w)(i:P.follows .mixedOrders=true)(f:Ao l.toArray k=true)
  (o:Hp w0 S0 L w) (d:hC l.length false=listed) (n:il l.toArray Q) (h:∀w',Hp w0 S0 L w'->RI x P ⟨kn,kD,some x⟩ l.toArray Q S k k listed F w'):C P ⟨kn,kD,some x⟩ Q (.region id l.toArray true) F w:=by
 unfold C CC;have m:k<=l.toArray.size:=by simp only [Ao,mH,bE]at f;exact f.1.2
 have c:HeadInv .any l.toArray k (Tn l.toArray.size false):=
  ⟨aA2,fun j p _ d=>(by rw [getD_replicate_false]at d;cases d),fun t _ g=>getD_in aE8 (getD_replicate_false _ _)⟩
 have e:listed.toArray=Tn l.toArray.size false:=by subst d;apply vC.1;simp
 refine wpIn_region_any i ?_;have h1:=h _ o.GQ (by rw [e];exact c) b n;have h2:=Vn (S:=S) m (fun a w h=>h) k _ _ _ h1;rw [e,show k+(l.toArray.size-k)=l.toArray.size by omega]at h2;exact h2
theorem QQ{k f:Nat}{listed:List Bool}(b:List Bool)(i d:Nat)(v:Value)(D:List Nat)(t:∀j w w',S j w w'->eQ D Si j w w')(o:Oper)(y:ops[i]? =some o)(C:o.dst=some d)(r:Ao ops k=true)(G:Ik .any ops i D=true)(m:Region.free .any ops listed.toArray i=true)
  (A:(Region.ready .any ops listed.toArray).contains i=true) (s:fC i k=true) (B:listed.set i true=b) (z:YieldsIf P ops Si o v (fr ⟨kn,kD,some x⟩ F)) (E:Si w)
  (h:RI x P ⟨kn,kD,some x⟩ ops Q S k f b (dN F d v) w):RI x P ⟨kn,kD,some x⟩ ops Q S k (f+1) listed F w:=by
 intro n e u;have g:i<k:=by simpa [hY] using s
 have q:i∈Region.ready .any ops listed.toArray:=aE1;have p:Region.noSelect ops=true:=by simp only [Ao,mH]at r;exact r.1.1
 refine AV Si D G t y (Region.noSelect_spec p) (fun c a w h=>absurd h (u.1 c _ w)) u.2 g (pG r g) f _ _ _ n (Region.free_spec y m) q z E e ?_;have l:=n.set q g;rw [nB,B]at l⊢;have:=h l e u;rw [<-jJ,<-C]at this;exact this
theorem Vx{i:Nat}{o:Oper}{K:Act->World->Prop}{a:Act}(c:ops[i]? =some o)(h:wpListIn (If x) 0 P ops (Exit.then K Q) [o] a w):wpOpIn (If x) 0 P ops Q i K a w:=by
 unfold wpOpIn;simp only [c];unfold wpListIn at h;split
 ·rename_i b;rw [aC b]at h;unfold Oper.wpIn at*;refine⟨h.1, ?_⟩;have h:=h.2;generalize(o.semAt (If x).round a.eval).run P w=r at*
  cases r with
  |ok y w'=>cases y<;>exact h
  |halt y w'=>cases y<;>exact h
 ·rename_i b;rw [aB b]at h;exact h
theorem A1{k f:Nat}{listed:List Bool}(b:List Bool)(i:Nat)(o:Oper)(m:ops[i]? =some o)(n:listed.set i true=b)(g:HeadInv .any ops k listed.toArray)(d:∀j w,S j w w)(r:il ops Q)
  (l:i∈Region.ready .any ops listed.toArray) (e:i<k) (h:W P ⟨kn,kD,some x⟩ ops (mg x P ⟨kn,kD,some x⟩ ops Q S k f b i w) [o] F w):
  i<k/\wpOpIn (If x) 0 P ops Q i (fun a' w'=>S i w w'/\yN x P .any ops Q S k (fun a w=>wpListIn (If x) 0 P ops Q (ops.toList.drop k) a w) f (listed.toArray.setIfInBounds i true) a' w') (fr ⟨kn,kD,some x⟩ F) w:=by
 refine⟨e, ?_⟩;have c:=g.set l e;rw [nB,n]at c⊢;unfold W WR mg at h;refine wpOpIn_mono ?_ (Vx m h);rintro a' w' ⟨s,rfl,p,q⟩;exact⟨p,q c d r⟩
theorem A2{k f:Nat}{listed:List Bool}(a:List Bool)(i:Nat)(o:Oper)(l:ops[i]? =some o)(d:Region.ready .any ops listed.toArray=[i])(e:fC i k=true)(m:listed.set i true=a)
  (h:W P ⟨kn,kD,some x⟩ ops (mg x P ⟨kn,kD,some x⟩ ops Q S k f a i w) [o] F w):RI x P ⟨kn,kD,some x⟩ ops Q S k (f+1) listed F w:=by
 intro c b n;refine⟨by rw [d];simp,fun j g=> ?_⟩;rw [d]at g;obtain rfl:j=i:=aE8;exact A1 a j o l m c b n (by rw [d];simp) (by simpa [hY] using e) h
theorem A3{k f i:Nat}{w0:World}{listed:List Bool}(a:S i w0 w)(h:RI x P ⟨kn,kD,some x⟩ ops Q S k f listed F w):mg x P ⟨kn,kD,some x⟩ ops Q S k f listed i w0 .normal (fr ⟨kn,kD,some x⟩ F) w:=⟨F,rfl,a,h⟩
theorem A0{k:Nat}{listed:List Bool}(a:Region.seqB .any ops (ops.size-k) k listed.toArray=true)(h:W P ⟨kn,kD,some x⟩ ops Q (ops.toList.drop k) F w):RI x P ⟨kn,kD,some x⟩ ops Q S k 0 listed F w:=by intro _ _ _;unfold W WR at h;exact⟨a,h⟩
end
section
variable {P : Program} {kn : Nat} {kD : List Deferred} {ro : Option (Option Nat)} {ops : Array Oper} {Q : Exit -> Act -> World -> Prop} {S : Nat -> World -> World -> Prop} {Si : World -> Prop} {F : Nat -> Value} {w : World}
def RO(P:Program)(n:Md)(ops:Array Oper)(Q:Exit->Act->World->Prop)(S:Nat->World->World->Prop)(k f:Nat)(listed:List Bool)(F:Nat->Value)(w:World):Prop:=
 match n.ro with
 |none=>R P n ops Q S k f listed F w
 |some x=>RI x P n ops Q S k f listed F w
def RKO(P:Program)(n:Md)(ops:Array Oper)(Q:Exit->Act->World->Prop)(S:Nat->World->World->Prop)(k f:Nat)(listed:List Bool)(i:Nat)(w:World):Exit->Act->World->Prop:=
 match n.ro with
 |none=>RK P n ops Q S k f listed i w
 |some x=>mg x P n ops Q S k f listed i w
theorem VU{w0:World}{S0:List Nat}{L:List bX}{id:Nat}{l:List Oper}(k:Nat)(S:Nat->World->World->Prop)(listed:List Bool)(a:∀j w,S j w w)(c:P.follows .mixedOrders=true)(b:Ao l.toArray k=true)
  (f:Hp w0 S0 L w) (d:hC l.length false=listed) (e:Zh Q) (g:ro.isSome=true->NoD l.toArray) (h:∀w',Hp w0 S0 L w'->RO P ⟨kn,kD,ro⟩ l.toArray Q S k k listed F w'):C P ⟨kn,kD,ro⟩ Q (.region id l.toArray true) F w:=by
 cases ro with
 |none=>exact XQ k S listed a c b f d e h
 |some x=>exact VW k S listed a c b f d ⟨e,g rfl⟩ h
theorem fp{k f:Nat}{listed:List Bool}(a:List Bool)(i d:Nat)(v:Value)(D:List Nat)(e:∀j w w',S j w w'->eQ D Si j w w')(o:Oper)(n:ops[i]? =some o)(q:o.dst=some d)(l:Ao ops k=true)(s:Ik .any ops i D=true)(b:Region.free .any ops listed.toArray i=true)
  (m:(Region.ready .any ops listed.toArray).contains i=true) (c:fC i k=true) (p:listed.set i true=a) (g:YieldsIf P ops Si o v (fr ⟨kn,kD,ro⟩ F)) (r:Si w)
  (h:RO P ⟨kn,kD,ro⟩ ops Q S k f a (dN F d v) w):RO P ⟨kn,kD,ro⟩ ops Q S k (f+1) listed F w:=by
 cases ro with
 |none=>exact Sq a i d v D e o n q l s b m c p g r h
 |some x=>exact QQ a i d v D e o n q l s b m c p g r h
theorem FC{k f:Nat}{listed:List Bool}(a:List Bool)(i d:Nat)(v:Value)(o:Oper)(l:ops[i]? =some o)(n:o.dst=some d)(g:Ao ops k=true)(b:Region.free .any ops listed.toArray i=true)
  (j:(Region.ready .any ops listed.toArray).contains i=true) (c:fC i k=true) (m:listed.set i true=a) (e:YieldsIf P ops (fun _=>True) o v (fr ⟨kn,kD,ro⟩ F))
  (h:RO P ⟨kn,kD,ro⟩ ops Q S k f a (dN F d v) w):RO P ⟨kn,kD,ro⟩ ops Q S k (f+1) listed F w:=
 fp (Si:=fun _=>True) a i d v [] (fun _ _ _ _ _ _=>trivial) o l n g rfl b j c m e trivial h
theorem ZZ{k f:Nat}{listed:List Bool}(a:List Bool)(i:Nat)(o:Oper)(d:ops[i]? =some o)(c:Region.ready .any ops listed.toArray=[i])(b:fC i k=true)(e:listed.set i true=a)
  (h:W P ⟨kn,kD,ro⟩ ops (RKO P ⟨kn,kD,ro⟩ ops Q S k f a i w) [o] F w):RO P ⟨kn,kD,ro⟩ ops Q S k (f+1) listed F w:=by
 cases ro with
 |none=>exact QP a i o d c b e h
 |some x=>exact A2 a i o d c b e h
theorem FD{k f i:Nat}{w0:World}{listed:List Bool}(a:S i w0 w)(h:RO P ⟨kn,kD,ro⟩ ops Q S k f listed F w):RKO P ⟨kn,kD,ro⟩ ops Q S k f listed i w0 .normal (fr ⟨kn,kD,ro⟩ F) w:=by
 cases ro with
 |none=>exact kS a h
 |some x=>exact A3 a h
theorem FB{k:Nat}{listed:List Bool}(a:Region.seqB .any ops (ops.size-k) k listed.toArray=true)(h:W P ⟨kn,kD,ro⟩ ops Q (ops.toList.drop k) F w):RO P ⟨kn,kD,ro⟩ ops Q S k 0 listed F w:=by
 cases ro with
 |none=>exact LF a h
 |some x=>exact A0 a h
end
attribute [irreducible] RI mg RO RKO
open Go.Lib
open Go.Value renaming ownBlock → yM
open Nat renaming beq → cP
theorem strCells_eq(l:aA):strCells (⟨l.toArray⟩:ByteArray)=l.flatMap eB:=by rw [kI];simp [strCells,bt]
section
variable {P : Program} {n : Md} {ops : Array Oper} {Q : Exit -> Act -> World -> Prop} {F : Nat -> Value} {w w0 : World} {S : List Nat} {L : List bX}
variable {d : Nat} {ty : TypeId} {pos : String} {after : Array Edge} {rest : List Oper}
theorem QC{a:Option Addr}{m cap e:Nat}{s:List Value}(t u:TypeId)(B:P.underlying t=some (.slice e))(A:P.underlying u=some .string)(U:TI P e 1 1)(I:(P.info? e).bind (·.zero)=some (.int .u8 0))(d:w.ownsRow 0 e 1 (.slice a m cap) m s)(l:aA)
  (T:m+l.length<=140737488355328):
  ∃a' cap' w',(Builtin.append_ #[t,u] ty #[.slice a m cap,str l]).run P w=.ok (.slice a' (m+l.length) cap') w'/\w'.ownsRow 0 e 1 (.slice a' (m+l.length) cap') (m+l.length) (s++l.flatMap eB)/\
   w.grownBy w' (Value.slice a m cap).ownBlock/\∀p,a'=some p->(∃q,a=some q/\q.block=p.block)\/w.heap.size<=p.block:=by
 obtain⟨i,z,y,N,E,r,M⟩:=U.parts;have k:i.zero=some (.int .u8 0):=by rw [y]at I;simpa using I
 have R:m+l.length<=maxLen:=aE7
 obtain⟨L,w',f,J,S,x⟩:=run_append_own_string (P:=P) w 0 t u ty e i B A y k E r (.slice a m cap) m s d ⟨l.toArray⟩ (by show m+l.length<=_;exact R) (by show m+l.length<=_;exact T) (dH _);rw [strCells_eq]at J;have b:(⟨l.toArray⟩:ByteArray).size=l.length:=rfl;have D:∃a' cap',L=.slice a' (m+l.length) cap'/\∀p,a'=some p->(∃q,a=some q/\q.block=p.block)\/w.heap.size<=p.block:=by
  have C:s.length=m:=by simpa using d.1
  rcases d.2 with⟨v,Q⟩|⟨g,c,H,v,_,F,V,_,G,_⟩
  ·simp only [Value.slice.injEq]at v;obtain⟨rfl,rfl,rfl⟩:=v;by_cases K:l.length=0
   ·have:=x.2 ⟨rfl,by rw [b];exact K⟩;exact⟨none,0,by rw [this,K],fun p h=>by cases h⟩
   ·have:=run_append_nil_string (P:=P) w t u ty e i (.int .u8 0) B A y k ⟨l.toArray⟩ aA0 (by rw [b];omega) (by rw [r,b];omega);rw [this]at f;simp only [Result.ok.injEq]at f;refine⟨_,_,by rw [<-f.1,Dh,b],fun p h=>.inr ?_⟩;simp at h;subst h;simp
  ·simp only [Value.slice.injEq]at v;obtain⟨rfl,-,rfl⟩:=v;by_cases n:m+l.length<=cap
   ·have:=run_append_room_string (P:=P) w t u ty e i B A y E g m cap H F ⟨l.toArray⟩ n (by rw [b];simp at G;omega);rw [this]at f;simp only [Result.ok.injEq]at f;refine⟨_,_,by rw [<-f.1,b],fun p h=>.inl ?_⟩;simp at h;subst h;exact⟨_,rfl,rfl⟩
   ·have o:∀j u,s[j]? =some u->w.cell? ((⟨g,0,none⟩:Addr).add j)=some u:=d.cells (g:=g) rfl;have:=run_append_grow_string (P:=P) w t u ty e i (.int .u8 0) B A y k ⟨g,0,none⟩ m cap s (by rw [E];simpa using C) o ⟨l.toArray⟩ (by rw [b];omega) (by rw [b];omega) (by rw [r,b];exact growslice_fits aA0 aA0);rw [this]at f;simp only [Result.ok.injEq]at f;refine⟨_,_,by rw [<-f.1,b],fun p h=>.inr ?_⟩;simp at h;subst h;simp
 obtain⟨a',cap',rfl,O⟩:=D;exact⟨a',cap',w',f,J,S,O⟩
theorem tP{x y:Operand}{t u:TypeId}(J:Hp w0 S L w)(k:Nat)(o:Option Nat)(a:Option Addr)(cap e:Nat)(l c:aA)(C:L[k]? =some (aX eB e 1 o a cap l))(H:P.underlying t=some (.slice e))(s:P.underlying u=some .string)(T:TI P e 1 1)(K:(P.info? e).bind (·.zero)=some (.int .u8 0))
  (hx:aW n F x=.slice a l.length cap) (X:aW n F y=str c) (v:(l.length+c.length)*1<=140737488355328)
  (h:∀o' a' cap' w',Hp w0 S (L.set k (aX eB e 1 o' a' cap' (l++c))) w'->W P n ops Q rest (dN F d (.slice a' (l++c).length cap')) w'):
  W P n ops Q (⟨some d,.call ⟨.builtin .append, #[x,y], #[t,u]⟩,ty,pos,after,none⟩::rest) F w:=by
 have q:k<L.length:=(aD.1 C).1;have G:∀R:Option Addr,Hp w0 S (L.set k (row (.slice R l.length cap) e 1 l.length (l.flatMap eB))) w->∃a' cap' w',(Builtin.append_ #[t,u] ty #[.slice R l.length cap,str c]).run P w=.ok (.slice a' (l++c).length cap') w'/\∃o',Hp w0 S (L.set k (aX eB e 1 o' a' cap' (l++c))) w':=by intro R r;obtain⟨a',cap',w',m,Z,hg,hn⟩:=QC (P:=P) (ty:=ty) t u H s T K (r.ownsRow (k:=k) (bF q)) c aA0;have h2:=r.grown (k:=k) (bF q) hg Z hn;rw [LI,<-cB,<-LY]at h2;obtain⟨o',h3⟩:=h2.Fj k (bF q);rw [LI]at h3;rw [<-cB]at m;exact⟨a',cap',w',m,o',h3⟩
 have go:∀a' cap' w',(Builtin.append_ #[t,u] ty #[.slice a l.length cap,str c]).run P w=.ok (.slice a' (l++c).length cap') w'->(∃o',Hp w0 S (L.set k (aX eB e 1 o' a' cap' (l++c))) w')->
   W P n ops Q (⟨some d,.call ⟨.builtin .append, #[x,y], #[t,u]⟩,ty,pos,after,none⟩::rest) F w:=by
  rintro a' cap' w' m ⟨o',h3⟩;refine fA (w':=w') rfl rfl ?_ (h o' a' cap' w' h3);simp only [execOp,resolve,invoke,builtin,List.map_toArray,tM,dP,hx,X,Sem.run_bind,Sem.run_pure,Result.andThen_ok,m]
 cases o with
 |some g=>obtain⟨a',cap',w',m,h3⟩:=G a (J.Ut lY k C).2;exact go a' cap' w' m h3
 |none=>
  obtain⟨h1,_⟩:=J.res _ (aG C);have N:l=[]/\cap=0:=by
   rcases h1 with⟨_,h2,h3,_⟩|⟨g,a7,h2,_⟩
   ·exact⟨h2,h3⟩
   ·cases h2
  obtain⟨rfl,rfl⟩:=N;have B:Hp w0 S (L.set k (row (.slice none 0 0) e 1 0 [])) w:=J.change k _ _ C rfl rfl rfl (eJ _) (fun _ _ _=>rfl) ⟨aA2,.inl ⟨rfl,rfl⟩⟩ (fun b v=>by simp [row,yM]at v);obtain⟨a',cap',w',m,h3⟩:=G none B;cases a with
  |none=>exact go a' cap' w' m h3
  |some p=>
   obtain⟨i,z,I,V,Y,E,U⟩:=T.parts;have A:i.zero=some (.int .u8 0):=by rw [I]at K;simpa using K
   have f:(⟨c.toArray⟩:ByteArray).size=c.length:=rfl;by_cases hm:c.length=0
   ·have O:c=[]:=Jz hm;subst O;have hf:=run_firstCells_string (P:=P) w 1 ⟨#[]⟩;have M:(Builtin.firstCells 1 0 (.string ⟨#[]⟩)).run P w=.ok #[] w:=hf;refine go (some p) 0 w ?_ ⟨none, ?_⟩
    ·show(Builtin.append_ #[t,u] ty #[.slice (some p) 0 0,.string ⟨#[]⟩]).run P w=.ok (.slice (some p) 0 0) w;have O:(⟨#[]⟩:ByteArray).size=0:=rfl;simp [Builtin.append_,run_underlying H,run_underlying s,sizeOf,typeInfo,I,Y,Builtin.lenOf,storeCells,O,M]
    ·have e:L.set k (aX eB e 1 none (some p) 0 ([]++[]))=L:=by
      apply bZ;intro j;by_cases D:j=k
      ·subst D;rw [bF q,C];rfl
      ·rw [yF (fun e=>D e.symm)]
     rw [e];exact J
   ·refine go a' cap' w' ?_ h3;rw [<-m];have h5:=run_append_grow_string (P:=P) w t u ty e i (.int .u8 0) H s I A p 0 0 [] aA2 (fun j u s=>by simp at s) ⟨c.toArray⟩ (by rw [f];omega) (by rw [f];simp at v;omega) (by rw [E,f];exact growslice_fits aA0 (by simp at v;omega));have h6:=run_append_nil_string (P:=P) w t u ty e i (.int .u8 0) H s I A ⟨c.toArray⟩ (by rw [f];omega) (by rw [f];simp at v;omega) (by rw [E,f];simp at v;omega);show(Builtin.append_ #[t,u] ty #[.slice (some p) 0 0,.string ⟨c.toArray⟩]).run P w=(Builtin.append_ #[t,u] ty #[.slice none 0 0,.string ⟨c.toArray⟩]).run P w;rw [h5,h6];simp [f,strCells]
theorem AD{x y:Operand}{t t' e:TypeId}(p:Option Addr)(a:P.underlying t=some (.pointer e))(hx:aW n F x=.pointer p)(b:aW n F y=.pointer none):(execOp (aW n F) (⟨some d,.binOp .eql t x y t',ty,pos,after,none⟩:Oper)).run P w=.ok (.value (.bool p.isNone)) w:=by
 have c:P.pointee t=e:=by simp [Program.pointee,a]
 have g:=run_equal_pointer_nil (P:=P) w t p (by rw [c];exact a);have f:(binOp .eql t (.pointer p) (.pointer none)).run P w=.ok (.bool p.isNone) w:=by simp only [binOp];simp [g]
 simp [execOp,hx,b,eqGuard,f]
theorem OH{x y:Operand}{t t' e:TypeId}(p:Option Addr)(b:P.underlying t=some (.pointer e))(hx:aW n F x=.pointer p)(a:aW n F y=.pointer none)(h:W P n ops Q rest (dN F d (.bool p.isNone)) w):W P n ops Q (⟨some d,.binOp .eql t x y t',ty,pos,after,none⟩::rest) F w:=fA rfl rfl (AD p b hx a) h
theorem YI{x y:Operand}{t t' e:TypeId}(a:Addr)(c:P.underlying t=some (.pointer e))(g:(P.info? e).isSome=true)(hx:aW n F x=.pointer (some a))(b:aW n F y=.pointer (some a))(h:W P n ops Q rest (dN F d (.bool false)) w):W P n ops Q (⟨some d,.binOp .neq t x y t',ty,pos,after,none⟩::rest) F w:=by obtain⟨j,f⟩:=Tc.1 g;have i:=run_neq_ptr_same (P:=P) w a c f;refine fA (v:=.bool false) (w':=w) rfl rfl ?_ h;simp [execOp,hx,b,eqGuard,i]
theorem YH{x:Operand}{s t u:TypeId}(v:Hp w0 S L w)(k b off e:Nat)(cs:List Value)(o:L[k]? =some (aM b cs e))(l:P.underlying s=some (.pointer u))(g:P.underlying t=some .unsafePointer)(q:((P.info? u).map (fun i=>cP i.size 0))=some false)(m:off<cs.length)(hx:aW n F x=.pointer (some ⟨b,off,none⟩))
  (h:W P n ops Q rest (dN F d (.pointer (some ⟨b,off,none⟩))) w):W P n ops Q (⟨some d,.convert s t x,ty,pos,after,none⟩::rest) F w:=by
 obtain⟨j,p,a⟩:=bY.1 q;have f:j.size≠0:=fun z=>by rw [z]at a;cases a
 have r:=v.dK k o;have c:w.shape? b=some (e,cs.length):=by simp [World.shape?,r]
 have y:=run_to_unsafe (P:=P) w ⟨b,off,none⟩ l g p f c m;refine fA (w':=w) rfl rfl ?_ h;simp [execOp,hx,y]
theorem YJ{x:Operand}{s t u:TypeId}(p:Hp w0 S L w)(k b off e:Nat)(cs:List Value)(i:L[k]? =some (aM b cs e))(f:P.underlying s=some .unsafePointer)(c:P.underlying t=some (.pointer u))(m:(P.info? u).isSome=true)(g:liesAt P P.depth e (cs.length/P.cellsOf e) off u 1=true)(hx:aW n F x=.pointer (some ⟨b,off,none⟩))
  (h:W P n ops Q rest (dN F d (.pointer (some ⟨b,off,none⟩))) w):W P n ops Q (⟨some d,.convert s t x,ty,pos,after,none⟩::rest) F w:=by
 obtain⟨j,l⟩:=Tc.1 m;have o:=p.dK k i;have a:w.shape? b=some (e,cs.length):=by simp [World.shape?,o]
 have q:=run_from_unsafe (P:=P) w ⟨b,off,none⟩ f c l a g;refine fA (w':=w) rfl rfl ?_ h;simp [execOp,hx,q]
theorem YK{b : Operand}{fE : Array Operand}{a : Array TypeId}{fn : Func}(j : Hp w0 S L w)(f : FuncId)(v : Value)(g : aW n F b = .func (.func f) #[] #[])(i : #[] ++ fE.map (aW n F) ++ #[] = #[v])(h1 : P.funcs[f]? = some fn)(h2 : (fn.name == "runtime.NumGoroutine") = false)(h3 : fn.body.isNone = true)(l : Extern.findNext fn = none)(k : Extern.find fn = some Extern.AbiNoEscape.same)
  (h:∀w',Hp w0 S L w'->W P n ops Q rest (dN F d v) w'):W P n ops Q (⟨some d,.call ⟨.value b,fE,a⟩,ty,pos,after,none⟩::rest) F w:=by
 have c:=run_callFunc_extern (P:=P) h1 h2 h3 l (e:=Extern.AbiNoEscape.same) k (args:= #[v]) (w:=w);rw [run_noEscape]at c;refine fA (v:=v) (w':=w) rfl rfl ?_ (h w j);simp only [execOp,resolve,g,Deferred.ofValue];show Sem.run P (callFunc f (#[]++fE.map (aW n F)++ #[])) w=_;rw [i,c];rfl
end
open Go.Op renaming bytesLess → nZ
open List renaming replicate → hC
open Nat renaming blt → fC
def Oz{α:Type}(P:Program):Sem α->Option α
 |.pure a=>some a
 |.program k=>Oz P (k P)
 |.mark _ k=>Oz P k
 |_=>none
theorem vN{α:Type}{P:Program}:∀{s:Sem α} {a:α},Oz P s=some a->∀w,s.run P w=.ok a w:=by
 intro s;induction s with
 |pure a=>intro b h w;simp only [Oz,aV]at h;subst h;rfl
 |program k c=>intro b h w;exact c P h w
 |mark m k c=>intro b h w;exact c h w
 |_=>intro b h;simp [Oz]at h
def Vq(b:BinOp)(x y:Value):Option Value:=
 match x,y with
 |.string s,.string t=>
  match b with
  |.eql=>some (.bool (decide (s.data.toList=t.data.toList)))
  |.neq=>some (.bool (!decide (s.data.toList=t.data.toList)))
  |.lss=>some (.bool (nZ s.data.toList t.data.toList))
  |.gtr=>some (.bool (!(nZ s.data.toList t.data.toList||s.data.toList==t.data.toList)))
  |_=>none
 |.int k a,.int k' c=>
  if k=k' then
   match b with
   |.lss=>some (.bool (decide (a<c)))
   |.leq=>some (.bool (decide (a<=c)))
   |.gtr=>some (.bool (decide (c<a)))
   |.geq=>some (.bool (decide (c<=a)))
   |.eql=>some (.bool (decide (a=c)))
   |.neq=>some (.bool (!decide (a=c)))
   |_=>none
  else none
 |_,_=>none
def isLen:Callee->Bool
 |.builtin .len=>true
 |_=>false
def ah(P:Program)(n:Md)(F:Nat->Value)(c:Call):Option Value:=
 bif isLen c.callee then
  match c.args.toList with
  |[x]=>match c.argTypes.toList with
   |[t]=>match P.underlying t with
    |some .string=>match aW n F x with|.string s=>some (.int .i64 (s.data.toList.length:Int))|_=>none
    |some (.slice _)=>match aW n F x with|.slice _ m _=>some (.int .i64 (m:Int))|_=>none
    |_=>none
   |_=>none
  |_=>none
 else none
def Kp(P:Program)(n:Md)(F:Nat->Value)(o:Oper):Option Value:=
 match o.op with
 |.move x=>some (aW n F x)
 |.assign x=>some (aW n F x)
 |.pick c a b=>match aW n F c with|.bool t=>some (bif t then aW n F a else aW n F b)|_=>none
 |.unOp .not _ x=>match aW n F x with|.bool b=>some (.bool (!b))|_=>none
 |.extract x i=>match aW n F x with|.tuple d=>d[i]? |_=>none
 |.binOp b _ x y _=>Vq b (aW n F x) (aW n F y)
 |.call c=>ah P n F c
 |_=>match Oz P (execOp (aW n F) o)with|some (.value v)=>some v|_=>none
section
variable {P : Program} {n : Md} {ops : Array Oper} {Q : Exit -> Act -> World -> Prop} {F : Nat -> Value} {w : World}
theorem Ya(ρ : Operand -> Value)(a : Option Nat)(op : Op)(ty : TypeId)(pos : String)(after : Array Edge)(g : Option (Nat × Bool)) : execOp ρ ⟨a, op, ty, pos, after, g⟩ = execOp ρ ⟨some 0, op, ty, "", #[], none⟩ := rfl
theorem RG{b:BinOp}{t t':TypeId}{x y:Operand}{i:Option Nat}{ty:TypeId}{pos:String}{after:Array Edge}{g:Option (Nat×Bool)}{v:Value}(h:Vq b (aW n F x) (aW n F y)=some v)(w:World):
  (execOp (aW n F) (⟨i,.binOp b t x y t',ty,pos,after,g⟩:Oper)).run P w=.ok (.value v) w:=by
 rw [Ya];generalize hx:aW n F x=a at h;generalize f:aW n F y=c at h;cases a with
 |string s=>
  cases c with
  |string t2=>
   have e:aW n F x=str s.data.toList:=hx;have d:aW n F y=str t2.data.toList:=f;cases b<;>simp only [Vq,aV,reduceCtorEq]at h<;>subst h
   ·exact DP _ _ e d
   ·exact DM _ _ e d
   ·exact DN _ _ e d
   ·exact DO _ _ e d
  |_=>simp [Vq]at h
 |int k a=>
  cases c with
  |int k' c=>
   by_cases j:k=k'
   ·subst j;cases b<;>simp only [Vq,eM,aV,reduceCtorEq]at h<;>subst h
    ·exact NQ k _ _ hx f
    ·exact NG k _ _ hx f
    ·exact NI k _ _ hx f
    ·exact NJ k _ _ hx f
    ·exact NM k _ _ hx f
    ·exact NN k _ _ hx f
   ·simp [Vq,j]at h
  |_=>simp [Vq]at h
 |_=>simp [Vq]at h
theorem RA{c:Call}{i:Option Nat}{ty:TypeId}{pos:String}{after:Array Edge}{g:Option (Nat×Bool)}{v:Value}(h:ah P n F c=some v)(w:World):
  (execOp (aW n F) (⟨i,.call c,ty,pos,after,g⟩:Oper)).run P w=.ok (.value v) w:=by
 rw [Ya];obtain⟨cl,fE,d⟩:=c;unfold ah at h;cases b:isLen cl with
 |false=>rw [b]at h;cases h
 |true=>
  obtain rfl:cl=.builtin .len:=by
   unfold isLen at b;split at b
   ·rfl
   ·cases b
  rw [b]at h;simp only [aL]at h;obtain⟨fE⟩:=fE;obtain⟨d⟩:=d
  match fE,d,h with
  |[x],[t],h=>
   dsimp only at h;split at h
   ·rename_i f;split at h
    ·rename_i s hx;cases h;exact O2 s.data.toList f hx
    ·cases h
   ·rename_i e f;split at h
    ·rename_i a m c hx;cases h;exact On a m c e f hx
    ·cases h
   ·cases h
  |[],_,h=>cases h
  |[_],[],h=>cases h
  |[_],_::_::_,h=>cases h
  |_::_::_,_,h=>cases h
theorem wA{o:Oper}{v:Value}(h:Kp P n F o=some v)(w:World):(execOp (aW n F) o).run P w=.ok (.value v) w:=by
 obtain⟨i,op,ty,pos,after,g⟩:=o;unfold Kp at h;dsimp only at h;split at h
 ·cases h;rfl
 ·cases h;rfl
 ·rename_i c a b;rw [Ya];split at h
  ·rename_i t f;cases h;exact ND t _ f rfl
  ·cases h
 ·rw [Ya];split at h
  ·rename_i b hx;cases h;exact NF b hx
  ·cases h
 ·rw [Ya];split at h
  ·rename_i d hx;exact Lm d v hx h
  ·cases h
 ·exact RG h w
 ·exact RA h w
 ·split at h
  ·rename_i j e;cases h;exact vN e w
  ·cases h
def ys(ops:Array Oper)(g:Nat):Option Nat:=(ops[g]?).bind (·.dst)
def XN(P:Program)(n:Md)(ops:Array Oper)(F:Nat->Value)(o:Oper):Value:=
 match o.guard with
 |none=>(Kp P n F o).getD undef
 |some (g,b)=>match ys ops g with
  |none=>undef
  |some dg=>match F dg with
   |.bool c=>bif c==b then(Kp P n F o).getD undef else undef
   |_=>undef
def zA(P:Program)(n:Md)(ops:Array Oper)(F:Nat->Value)(o:Oper):Nat->Value:=
 match o.dst with
 |none=>F
 |some d=>dN F d (XN P n ops F o)
def nJ:Value->Bool
 |.tuple a=>a.toList.isEmpty
 |_=>false
theorem Hl{v:Value}(h:nJ v=true):v=undef:=by
 unfold nJ at h;split at h
 ·rename_i b;obtain⟨l⟩:=b;cases l with
  |nil=>rfl
  |cons a l=>cases h
 ·cases h
def MC(P:Program)(n:Md)(ops:Array Oper)(F:Nat->Value)(o:Oper):Bool:=
 match o.dst with
 |none=>false
 |some d=>match o.guard with
  |none=>(Kp P n F o).isSome
  |some (g,b)=>match ys ops g with
   |none=>false
   |some dg=>fC dg n.n&&match F dg with
    |.bool c=>bif c==b then(Kp P n F o).isSome else true
    |v=>nJ v
def pF(P:Program)(n:Md)(ops:Array Oper):Nat->List Oper->(Nat->Value)->Nat->Value
 |0,_,F=>F
 |_+1,[],F=>F
 |m+1,o::l,F=>pF P n ops m l (zA P n ops F o)
def ph(P:Program)(n:Md)(ops:Array Oper):Nat->List Oper->(Nat->Value)->Bool
 |0,_,_=>true
 |_+1,[],_=>false
 |m+1,o::l,F=>MC P n ops F o&&ph P n ops m l (zA P n ops F o)
theorem ng{o:Oper}{rest:List Oper}(a:MC P n ops F o=true)(h:W P n ops Q rest (zA P n ops F o) w):W P n ops Q (o::rest) F w:=by
 obtain⟨l,op,ty,pos,after,gd⟩:=o;cases l with
 |none=>simp [MC]at a
 |some d=>
  cases gd with
  |none=>
   simp only [MC]at a;cases e:Kp P n F ⟨some d,op,ty,pos,after,none⟩with
   |none=>rw [e]at a;cases a
   |some v=>simp only [zA,XN,e,jX]at h;exact fA rfl rfl (wA e w) h
  |some q=>
   obtain⟨g,b⟩:=q;simp only [MC]at a;cases i:ys ops g with
   |none=>rw [i]at a;cases a
   |some dg=>
    rw [i]at a;simp only [mH]at a;simp only [zA,XN,i]at h;cases j:F dg with
    |bool c=>
     rw [j]at a h;cases k:c==b with
     |true=>
      have f:c=b:=by simpa using k
      subst f;simp only [k,aL]at a h;cases e:Kp P n F ⟨some d,op,ty,pos,after,some (g,c)⟩with
      |none=>rw [e]at a;exact absurd a.2 aA2
      |some v=>rw [e]at h;exact AH dg i a.1 j (fA rfl rfl (wA (o:=⟨some d,op,ty,pos,after,none⟩) e w) h)
     |false=>
      have f:c= !b:=by cases c<;>cases b<;>simp_all
      subst f;simp only [k,aH]at h;exact P1 dg i a.1 j h
    |tuple m=>
     rw [j]at a h;have p:F dg=undef:=by rw [j];have h2:nJ (.tuple m)=true:=a.2;exact Hl h2
     exact P0 dg i a.1 p h
    |_=>rw [j]at a;exact absurd a.2 (by simp [nJ])
theorem OC:∀(m:Nat) (l:List Oper) (F:Nat->Value),ph P n ops m l F=true->W P n ops Q (l.drop m) (pF P n ops m l F) w->W P n ops Q l F w
 |0,l,F,_,h=>h
 |m+1,[],F,a,_=>by simp [ph]at a
 |m+1,o::l,F,a,h=>by simp only [ph,mH]at a;exact ng a.1 (OC m l _ a.2 h)
theorem wp{l:List Oper}(m:Nat)(h:W P n ops Q (l.drop m) (pF P n ops m l F) w)(a:ph P n ops m l F=true:=by kernel_rfl):W P n ops Q l F w:=OC m l F a h
theorem N3{kn:Nat}{kD:List Deferred}{o:Oper}(a:MC P ⟨kn,kD,none⟩ ops F o=true):YieldsIf P ops (fun _=>True) o (XN P ⟨kn,kD,none⟩ ops F o) (fr ⟨kn,kD,none⟩ F):=by
 obtain⟨k,op,ty,pos,after,gd⟩:=o;cases k with
 |none=>simp [MC]at a
 |some d=>
  cases gd with
  |none=>
   simp only [MC]at a;cases f:Kp P ⟨kn,kD,none⟩ F ⟨some d,op,ty,pos,after,none⟩with
   |none=>rw [f]at a;cases a
   |some v=>simp only [XN,f,jX];exact mK rfl fun w _=>wA f w
  |some n=>
   obtain⟨g,b⟩:=n;simp only [MC]at a;cases h:ys ops g with
   |none=>rw [h]at a;cases a
   |some dg=>
    rw [h]at a;simp only [mH]at a;simp only [XN,h];cases i:F dg with
    |bool c=>
     rw [i]at a;cases j:c==b with
     |true=>
      have e:c=b:=by simpa using j
      subst e;simp only [j,aL]at a⊢;cases f:Kp P ⟨kn,kD,none⟩ F ⟨some d,op,ty,pos,after,some (g,c)⟩with
      |none=>rw [f]at a;exact absurd a.2 aA2
      |some v=>exact NA dg h a.1 i fun w _=>wA (o:=⟨some d,op,ty,pos,after,none⟩) f w
     |false=>
      have e:c= !b:=by cases c<;>cases b<;>simp_all
      subst e;simp only [j,aH];exact mo dg h a.1 i
    |tuple l=>
     rw [i]at a;have h2:nJ (.tuple l)=true:=a.2;have m:F dg=undef:=by rw [i];exact Hl h2
     exact ml dg h a.1 m
    |_=>rw [i]at a;exact absurd a.2 (by simp [nJ])
def rF(P:Program)(n:Md)(ops:Array Oper):List Nat->(Nat->Value)->Nat->Value
 |[],F=>F
 |i::a,F=>rF P n ops a (match ops[i]? with|some o=>zA P n ops F o|none=>F)
def rL:List Nat->List Bool->List Bool
 |[],l=>l
 |i::a,l=>rL a (l.set i true)
def y8(P:Program)(n:Md)(ops:Array Oper)(k:Nat):List Nat->List Bool->(Nat->Value)->Bool
 |[],_,_=>true
 |i::a,l,F=>(match ops[i]? with|some o=>MC P n ops F o|none=>false)&&Region.free .any ops l.toArray i&&(Region.ready .any ops l.toArray).contains i&&fC i k&&
   y8 P n ops k a (l.set i true) (match ops[i]? with|some o=>zA P n ops F o|none=>F)
theorem QD{kn:Nat}{kD:List Deferred}{S:Nat->World->World->Prop}{k f':Nat}(g:Ao ops k=true):∀(a:List Nat) (l:List Bool) (F:Nat->Value),y8 P ⟨kn,kD,none⟩ ops k a l F=true->
  R P ⟨kn,kD,none⟩ ops Q S k f' (rL a l) (rF P ⟨kn,kD,none⟩ ops a F) w->R P ⟨kn,kD,none⟩ ops Q S k (f'+a.length) l F w
 |[],l,F,_,h=>h
 |i::a,l,F,c,h=>by
  simp only [y8,mH]at c;obtain⟨⟨⟨⟨h1,h2⟩,h3⟩,m⟩,j⟩:=c;cases f:ops[i]? with
  |none=>rw [f]at h1;cases h1
  |some o=>
   rw [f]at h1 j;simp only [rL,rF,f]at h;have b:∃d,o.dst=some d:=by
    cases b:o.dst with
    |none=>simp [MC,b]at h1
    |some d=>exact⟨d,rfl⟩
   obtain⟨d,b⟩:=b;have e:zA P ⟨kn,kD,none⟩ ops F o=dN F d (XN P ⟨kn,kD,none⟩ ops F o):=by simp [zA,b]
   refine QO _ i d (XN P ⟨kn,kD,none⟩ ops F o) o f b g h2 h3 m rfl (N3 h1) ?_;rw [<-e];exact QD g a (l.set i true) (zA P ⟨kn,kD,none⟩ ops F o) j h
theorem rp{kn:Nat}{kD:List Deferred}{S:Nat->World->World->Prop}{k f:Nat}{l:List Bool}(f':Nat)(a:List Nat)(h:R P ⟨kn,kD,none⟩ ops Q S k f' (rL a l) (rF P ⟨kn,kD,none⟩ ops a F) w)
  (d:f=f'+a.length:=by kernel_rfl) (c:Ao ops k=true:=by kernel_rfl) (b:y8 P ⟨kn,kD,none⟩ ops k a l F=true:=by kernel_rfl):R P ⟨kn,kD,none⟩ ops Q S k f l F w:=by
 subst d;exact QD c a l F b h
theorem rt{kn:Nat}{kD:List Deferred}{S:Nat->World->World->Prop}{k f d:Nat}{l:List Bool}{o:Oper}(i:Nat)(v:Value)(j:ops[i]? =some o)(m:o.dst=some d)(c:YieldsIf P ops (fun _=>True) o v (fr ⟨kn,kD,none⟩ F))
  (h:R P ⟨kn,kD,none⟩ ops Q S k f (l.set i true) (dN F d v) w) (e:Ao ops k=true:=by kernel_rfl) (a:Region.free .any ops l.toArray i=true:=by kernel_rfl)
  (g:(Region.ready .any ops l.toArray).contains i=true:=by kernel_rfl) (b:fC i k=true:=by kernel_rfl):R P ⟨kn,kD,none⟩ ops Q S k (f+1) l F w:=QO _ i d v o j m e a g b rfl c h
theorem ro{kn:Nat}{kD:List Deferred}{S:Nat->World->World->Prop}{k f:Nat}{l:List Bool}{o:Oper}(i:Nat)(c:ops[i]? =some o)(h:W P ⟨kn,kD,none⟩ ops (RK P ⟨kn,kD,none⟩ ops Q S k f (l.set i true) i w) [o] F w)
  (b:Region.ready .any ops l.toArray=[i]:=by kernel_rfl) (a:fC i k=true:=by kernel_rfl):R P ⟨kn,kD,none⟩ ops Q S k (f+1) l F w:=QP _ i o c b a rfl h
theorem yv{kn:Nat}{kD:List Deferred}{w0:World}{S0:List Nat}{L:List bX}{id:Nat}{l:List Oper}(k:Nat)(d:Hp w0 S0 L w)(c:Zh Q)
  (h:∀w',Hp w0 S0 L w'->R P ⟨kn,kD,none⟩ l.toArray Q (fun _ _ _=>True) k k (hC l.length false) F w') (b:P.follows .mixedOrders=true:=by kernel_rfl) (a:Ao l.toArray k=true:=by kernel_rfl):
  C P ⟨kn,kD,none⟩ Q (.region id l.toArray true) F w:=XQ k _ _ (fun _ _=>trivial) b a d rfl c h
section
variable {α : Type} {c : Operand} {x y : Code} {p : Prop} {ip : Decidable p} {a b r : α} {t : Bool}
theorem cd(d:(if p then a else b)=r)(e:p->a=r->C P n Q x F w)(f:¬p->b=r->C P n Q y F w)(g:aW n F c=.bool (decide p):=by kernel_rfl):C P n Q (.cond c x y) F w:=
 su g (fun h=>e h (BK h d)) (fun h=>f h (BL h d))
theorem cn(d:(if p then a else b)=r)(e:¬p->b=r->C P n Q x F w)(f:p->a=r->C P n Q y F w)(g:aW n F c=.bool (!decide p):=by kernel_rfl):C P n Q (.cond c x y) F w:=
 ey g (fun h=>e h (BL h d)) (fun h=>f h (BK h d))
theorem cb(d:cond t a b=r)(e:t=true->a=r->C P n Q x F w)(f:t=false->b=r->C P n Q y F w)(g:aW n F c=.bool t:=by kernel_rfl):C P n Q (.cond c x y) F w:=
 qS g (fun h=>e h (cft h d)) (fun h=>f h (cff h d))
variable {d : Nat} {ty : TypeId} {pos : String} {after : Array Edge} {rest : List Oper} {o : Operand}
theorem wd(c:(if p then a else b)=r)(e:p->a=r->W P n ops Q rest (dN F d (.bool true)) w)(f:¬p->b=r->W P n ops Q rest (dN F d (.bool false)) w)(g:aW n F o=.bool (decide p):=by kernel_rfl):W P n ops Q (⟨some d,.move o,ty,pos,after,none⟩::rest) F w:=
 AG p g (fun h=>e h (BK h c)) (fun h=>f h (BL h c))
theorem wn(c:(if p then a else b)=r)(e:¬p->b=r->W P n ops Q rest (dN F d (.bool true)) w)(f:p->a=r->W P n ops Q rest (dN F d (.bool false)) w)(g:aW n F o=.bool (!decide p):=by kernel_rfl):W P n ops Q (⟨some d,.move o,ty,pos,after,none⟩::rest) F w:=
 Tx p g (fun h=>e h (BL h c)) (fun h=>f h (BK h c))
theorem wb(c:cond t a b=r)(e:t=true->a=r->W P n ops Q rest (dN F d (.bool true)) w)(f:t=false->b=r->W P n ops Q rest (dN F d (.bool false)) w)(g:aW n F o=.bool t:=by kernel_rfl):W P n ops Q (⟨some d,.move o,ty,pos,after,none⟩::rest) F w:=
 pB t g (fun h=>e h (cft h c)) (fun h=>f h (cff h c))
end
theorem kV{x y:Code}{w0:World}{S:List Nat}{R:List bX}(f:Hp w0 S R w)(b:List Nat)(L:List (Nat×Value))
  (hx:C P n (Exit.then (fun a' w'=>∃c,a'=fr n c/\b.map c=b.map (app L F)/\Hp w0 S R w') Q) x F w)
  (d:∀w G,Hp w0 S R w->C P n Q y (xD b (app L F) G) w):C P n Q (.seq x y) F w:=
 cut (σ:=Unit) b (fun _=>L) (fun _ w'=>Hp w0 S R w') (Sd hx fun e a w' h=>by
  cases e with
  |normal=>obtain⟨c,h1,h2,h3⟩:=h;exact⟨(),c,h1,h2,h3⟩
  |exit id=>exact h
  |goto l=>exact h
  |ret=>exact h
  |panic g=>exact h
  |outgrown=>exact h) (fun _ w G h=>d w G h)
theorem je{w0 c:World}{S:List Nat}{R:List bX}{b:List Nat}{A d:Nat->Value}(e:Hp w0 S R c)(h:b.map d=b.map A:=by kernel_rfl):∃a,fr n d=fr n a/\b.map a=b.map A/\Hp w0 S R c:=⟨_,rfl,h,e⟩
theorem Yj{σ ρ:Type}{x y:Code}{w0:World}{S:List Nat}{R:List bX}(d:Hp w0 S R w)(j:σ⊕ρ)(a:List Nat)(L:σ->List (Nat×Value))
  (hx:C P n (Exit.then (fun a' w'=>∃s' b,a'=fr n b/\a.map b=a.map (app (L s') F)/\Hp w0 S R w'/\j=.inl s') Q) x F w)
  (c:∀s w G,Hp w0 S R w->j=.inl s->C P n Q y (xD a (app (L s) F) G) w):C P n Q (.seq x y) F w:=
 cut a L (fun s w'=>Hp w0 S R w'/\j=.inl s) hx (fun s w G h=>c s w G h.1 h.2)
theorem E4{σ ρ:Type}{w0 c:World}{S:List Nat}{R:List bX}{j:σ⊕ρ}{s:σ}{b:List Nat}{A d:Nat->Value}{L:σ->List (Nat×Value)}(e:j=.inl s)(f:Hp w0 S R c)(h:b.map d=b.map (app (L s) A):=by kernel_rfl):
  ∃s' a,fr n d=fr n a/\b.map a=b.map (app (L s') A)/\Hp w0 S R c/\j=.inl s':=⟨s,_,rfl,h,f,e⟩
theorem mc{A B:Nat->Value}{t:Nat}{a:List Nat}(h:A t=B t)(b:a.map A=a.map B):(t::a).map A=(t::a).map B:=by simp [h,b]
theorem SB{τ ρ:Type}{c:Code}{w0:World}{S:List Nat}{R:List bX}{r:ρ}{fu:Nat}(g:Nat->τ->Option ρ)(i:τ)(k:Hp w0 S R w)(j:g fu i=some r)(d:List Nat)(L:τ->List (Nat×Value))(p:∀s,g 0 s=none)
  (round:∀b s w G,Hp w0 S R w->g (b+1) s=some r->C P n (Exit.then (fun a' w'=>∃s' f,a'=fr n f/\d.map f=d.map (app (L s') F)/\Hp w0 S R w'/\g b s'=some r) Q) c (xD d (app (L s) F) G) w)
  (o:d.map F=d.map (app (L i) F):=by kernel_rfl):C P n Q (.loop c) F w:=by
 refine Zo (σ:=Nat×τ) d (fun s=>L s.2) (fun s w'=>Hp w0 S R w'/\g s.1 s.2=some r) (fun s=>s.1) (fu,i) ⟨k,j⟩ (fun s w G h=> ?_) o;obtain⟨b,s⟩:=s;obtain⟨h1,h2⟩:=h;cases b with
 |zero=>rw [p]at h2;cases h2
 |succ b=>
  refine Sd (round b s w G h1 h2) fun e a w' h=> ?_;cases e with
  |normal=>obtain⟨s',f,h1,h2,h3,m⟩:=h;exact⟨(b,s'),f,h1,h2,⟨h3,m⟩,sL _⟩
  |exit id=>exact h
  |goto l=>exact h
  |ret=>exact h
  |panic q=>exact h
  |outgrown=>exact h
theorem XP{τ ρ:Type}{w0 c:World}{S:List Nat}{R:List bX}{r:ρ}{b:List Nat}{A d:Nat->Value}{L:τ->List (Nat×Value)}{g:τ->Option ρ}(s:τ)(f:Hp w0 S R c)(e:g s=some r)(h:b.map d=b.map (app (L s) A):=by kernel_rfl):
  ∃s' a,fr n d=fr n a/\b.map a=b.map (app (L s') A)/\Hp w0 S R c/\g s'=some r:=⟨s,_,rfl,h,f,e⟩
theorem Hp.kp{w0 w:World}{S:List Nat}{L L1:List bX}(h:Hp w0 S L w)(a:L.take L1.length=L1:=by kernel_rfl):Hp w0 S L1 w:=h.sub (by rw [<-a];exact List.take_sublist _ _)
theorem oi{α:Type}{a b:α}(h:some a=some b):a=b:=aP h
section
variable {d : Nat} {ty : TypeId} {pos : String} {after : Array Edge} {rest : List Oper} {w0 : World} {S : List Nat} {L : List bX}
theorem wc{b:Operand}{fE:Array Operand}{a:Array TypeId}{f:FuncId}{vs:List Value}{V:Value}(k:Enters P f)(j:Hp w0 S L w)(g:CR P f vs w fun v w'=>v=V/\Hp w [] [] w')
  (h:∀w',Hp w0 S L w'->W P n ops Q rest (dN F d V) w') (e:aW n F b=.func (.func f) #[] #[]:=by kernel_rfl) (i: #[]++fE.map (aW n F)++ #[]=vs.toArray:=by kernel_rfl):
  W P n ops Q (⟨some d,.call ⟨.value b,fE,a⟩,ty,pos,after,none⟩::rest) F w:=by
 refine oX f #[] vs _ k e i g ?_;rintro _ w' ⟨rfl,c⟩;exact h w' (j.call c)
end
def ov(n:Md)(F:Nat->Value):ResultVar->Value
 |.tmp t=>aW n F (.tmp t)
 |.cell _ _=>undef
def Z8(n:Md)(F:Nat->Value)(fn:Func):Value:=
 match fn.results.toList.map (ov n F)with
 |[u]=>u
 |a=>.tuple a.toArray
def CX(fn:Func):Bool:=fn.results.toList.all fun|.tmp _=>true|.cell _ _=>false
theorem Z7{kk:Nat}{ro:Option (Option Nat)}{fn:Func}(h:CX fn=true):(results fn (fr ⟨kk,[],ro⟩ F).tmps).run P w=.ok (Z8 ⟨kk,[],ro⟩ F fn) w:=by
 have key:∀b:List Value,b=fn.results.toList.map (ov ⟨kk,[],none⟩ F)->(results fn (fr ⟨kk,[],none⟩ F).tmps).run P w=.ok (match b with|[u]=>u|d=>.tuple d.toArray) w:=by
  intro b e;refine pH (kk:=kk) (F:=F) fn.results.toList b rfl (by simp [e]) ?_ _ (by cases b with|nil=>rfl|cons a fE=>cases fE<;>rfl);intro i x v hx c;subst e;simp only [aZ,hx,Tg,aV]at c;have:=bH.1 h x (aG hx);cases x with
  |tmp t=>exact mD c
  |cell a t=>cases this
 exact key _ rfl
theorem rx{kk:Nat}{ro:Option (Option Nat)}{fn:Func}{R:Value->World->Prop}(h:R (Z8 ⟨kk,[],ro⟩ F fn) w)(a:CX fn=true:=by kernel_rfl):
  bodyPost P fn (fun e w'=>∃v,e=.returned v/\R v w') .ret (fr ⟨kk,[],ro⟩ F) w:=⟨rfl,_,Z7 a,_,rfl,h⟩
theorem rv{kk:Nat}{ro:Option (Option Nat)}{fn:Func}{V:Value}{w0:World}{S:List Nat}{L:List bX}(h:Hp w0 S L w)(a:Z8 ⟨kk,[],ro⟩ F fn=V:=by kernel_rfl)(b:CX fn=true:=by kernel_rfl):
  bodyPost P fn (fun e w'=>∃v,e=.returned v/\v=V/\Hp w0 S L w') .ret (fr ⟨kk,[],ro⟩ F) w:=rx ⟨a,h⟩ b
theorem bi{α c:Type}{o:Option α}{f:α->Option c}{r:c}{g:Prop}(h:o.bind f=some r)(k:∀y,o=some y->f y=some r->g):g:=let ⟨y,a,b⟩:=xS h;k y a b
theorem gi{α:Type}{p:Prop}{ip:Decidable p}{o:Option α}{r:α}{g:Prop}(h:gd p o=some r)(k:p->o=some r->g):g:=let ⟨a,b⟩:=UD h;k a b
theorem cs{x y:Code}(h:C P n (Aq P n y Q) x F w):C P n Q (.seq x y) F w:=Sg h
theorem cr{id:Nat}{l:List Oper}(h:W P n l.toArray Q l F w):C P n Q (.region id l.toArray false) F w:=CT h
theorem wl(h:Q .normal (fr n F) w):W P n ops Q [] F w:=iQ h
theorem qn{k k':Nat}{D a:List Deferred}{ro:Option (Option Nat)}{y:Code}(h:C P ⟨k,D,ro⟩ Q y F w):Aq P ⟨k',a,ro⟩ y Q .normal (fr ⟨k,D,ro⟩ F) w:=Zr h
theorem ct(h:Q .ret (fr n F) w):C P n Q .ret F w:=Oa h
theorem ck(h:Q .normal (fr n F) w):C P n Q .skip F w:=Iy h
theorem ce{id:Nat}{c:Code}(h:C P n (Exit.inBlock id Q) c F w):C P n Q (.block id c) F w:=GY h
theorem ql{K:Act->World->Prop}(h:K (fr n F) w):Exit.then K Q .normal (fr n F) w:=h
theorem st{m:Md}{y:Code}(h:Q .ret (fr n F) w):Aq P m y Q .ret (fr n F) w:=Us h
theorem fO{id:Nat}(h:Q .ret (fr n F) w):Exit.inBlock id Q .ret (fr n F) w:=h
theorem bn{id:Nat}(h:Q .normal (fr n F) w):Exit.inBlock id Q .normal (fr n F) w:=h
theorem gy{a:Option Nat}{op:Op}{ty:TypeId}{pos:String}{after:Array Edge}{g:Nat}{b:Bool}{rest:List Oper}(dg:Nat)(h:W P n ops Q (⟨a,op,ty,pos,after,none⟩::rest) F w)
  (h1:(ops[g]?).bind (·.dst)=some dg:=by kernel_rfl) (h3:fC dg n.n=true:=by kernel_rfl) (c:F dg=.bool b:=by kernel_rfl):W P n ops Q (⟨a,op,ty,pos,after,some (g,b)⟩::rest) F w:=AH dg h1 h3 c h
theorem sr{y:Code}{id:Nat}{l:List Oper}(h:W P n l.toArray (Aq P n y Q) l F w):C P n Q (.seq (.region id l.toArray false) y) F w:=Sg (CT h)
theorem nq{k k':Nat}{D a:List Deferred}{ro:Option (Option Nat)}{y:Code}(h:C P ⟨k,D,ro⟩ Q y F w):W P ⟨k,D,ro⟩ ops (Aq P ⟨k',a,ro⟩ y Q) [] F w:=iQ (Zr h)
end
open Go
open List renaming replicate → hC
open Nat renaming blt → fC
section
variable {P : Program} {kn : Nat} {kD : List Deferred} {ro : Option (Option Nat)} {ops : Array Oper} {Q : Exit -> Act -> World -> Prop} {S : Nat -> World -> World -> Prop} {F : Nat -> Value} {w : World}
@[reducible] def NP (Q:Exit->Act->World->Prop):Exit->Act->World->Prop:=fun e a w=>match e with|.panic _=>False|e=>Q e a w
theorem Q4:Zh (NP Q):=fun _ _ _ h=>h
theorem Hp.sy{w0:World}{S:List Nat}{L:List bX}(h:Hp w0 S L w)(k b:Nat)(cs a:List Value)(e:TypeId)(d:L[k]? =some (aM b cs e))(g:cs=a):Hp w0 S (L.set k (aM b a e)) w:=by
 subst g;have c:k<L.length:=(aD.1 d).1;have j:L.set k (aM b cs e)=L:=by
  apply bZ;intro i;rw [dV];by_cases f:k=i
  ·subst f;rw [d];simp [c]
  ·simp [f]
 rw [j];exact h
theorem Ml{a:Act}(h:Q .normal a w):NP Q .normal a w:=h
theorem sq{n:Md}{c:Code}(h:C P n (NP Q) c F w):C P n Q c F w:=Sd h fun e a w b=>by
 cases e with
 |panic c=>exact b.elim
 |_=>exact b
def px(l:List Oper):Bool:=l.all fun o=>match o.op with|.defer _=>false|_=>true
theorem av{l:List Oper}(h:px l=true):NoD l.toArray:=by intro j o c d a;have b:=bH.1 h o (by have:=aG (show l[j]? =some o by simpa using d);simpa using this);rw [a]at b;cases b
theorem Oc{w0:World}{S0:List Nat}{L:List bX}{id:Nat}{l:List Oper}(k:Nat)(S:Nat->World->World->Prop)(listed:List Bool)(a:∀j w,S j w w)(c:P.follows .mixedOrders=true)(b:Ao l.toArray k=true)
  (f:Hp w0 S0 L w) (d:hC l.length false=listed) (e:Zh Q) (h:∀w',Hp w0 S0 L w'->RO P ⟨kn,kD,ro⟩ l.toArray Q S k k listed F w') (g:px l=true:=by kernel_rfl):C P ⟨kn,kD,ro⟩ Q (.region id l.toArray true) F w:=
 VU k S listed a c b f d e (fun _=>av g) h
theorem rtO{k f d:Nat}{l:List Bool}{o:Oper}(i:Nat)(v:Value)(j:ops[i]? =some o)(m:o.dst=some d)(c:YieldsIf P ops (fun _=>True) o v (fr ⟨kn,kD,ro⟩ F))
  (h:RO P ⟨kn,kD,ro⟩ ops Q S k f (l.set i true) (dN F d v) w) (e:Ao ops k=true:=by kernel_rfl) (a:Region.free .any ops l.toArray i=true:=by kernel_rfl)
  (g:(Region.ready .any ops l.toArray).contains i=true:=by kernel_rfl) (b:fC i k=true:=by kernel_rfl):RO P ⟨kn,kD,ro⟩ ops Q S k (f+1) l F w:=FC _ i d v o j m e a g b rfl c h
theorem roO{k f:Nat}{l:List Bool}{o:Oper}(i:Nat)(c:ops[i]? =some o)(h:W P ⟨kn,kD,ro⟩ ops (RKO P ⟨kn,kD,ro⟩ ops Q S k f (l.set i true) i w) [o] F w)
  (b:Region.ready .any ops l.toArray=[i]:=by kernel_rfl) (a:fC i k=true:=by kernel_rfl):RO P ⟨kn,kD,ro⟩ ops Q S k (f+1) l F w:=ZZ _ i o c b a rfl h
theorem EN{k f':Nat}(g:Ao ops k=true):∀(a:List Nat) (l:List Bool) (F:Nat->Value),y8 P ⟨kn,kD,none⟩ ops k a l F=true->
  RO P ⟨kn,kD,ro⟩ ops Q S k f' (rL a l) (rF P ⟨kn,kD,none⟩ ops a F) w->RO P ⟨kn,kD,ro⟩ ops Q S k (f'+a.length) l F w
 |[],l,F,_,h=>h
 |i::a,l,F,c,h=>by
  simp only [y8,mH]at c;obtain⟨⟨⟨⟨h1,h2⟩,h3⟩,m⟩,j⟩:=c;cases f:ops[i]? with
  |none=>rw [f]at h1;cases h1
  |some o=>
   rw [f]at h1 j;simp only [rL,rF,f]at h;have b:∃d,o.dst=some d:=by
    cases b:o.dst with
    |none=>simp [MC,b]at h1
    |some d=>exact⟨d,rfl⟩
   obtain⟨d,b⟩:=b;have e:zA P ⟨kn,kD,none⟩ ops F o=dN F d (XN P ⟨kn,kD,none⟩ ops F o):=by simp [zA,b]
   refine FC _ i d (XN P ⟨kn,kD,none⟩ ops F o) o f b g h2 h3 m rfl (N3 h1) ?_;rw [<-e];exact EN g a (l.set i true) (zA P ⟨kn,kD,none⟩ ops F o) j h
theorem rpO{k f:Nat}{l:List Bool}(f':Nat)(a:List Nat)(h:RO P ⟨kn,kD,ro⟩ ops Q S k f' (rL a l) (rF P ⟨kn,kD,none⟩ ops a F) w)
  (d:f=f'+a.length:=by kernel_rfl) (c:Ao ops k=true:=by kernel_rfl) (b:y8 P ⟨kn,kD,none⟩ ops k a l F=true:=by kernel_rfl):RO P ⟨kn,kD,ro⟩ ops Q S k f l F w:=by
 subst d;exact EN c a l F b h
end
open Go
open List renaming drop → bK, flatMap → gG
theorem ZN{a:Option Addr}{cap b sz:Nat}(h:a=none->cap=0):Pj a cap b sz=none->cap-b=0:=by
 unfold Pj;split
 ·intro _;omega
 ·cases a with
  |none=>intro _;have:=h rfl;omega
  |some p=>intro h2;cases h2
theorem Z1{a:Option Addr}{cap k sz:Nat}{l:List UInt8}{S:List Nat}(h:gG eB l≠[]->∀p,a=some p->p.block∉S):gG eB (bK k l)≠[]->∀p,Pj a cap k sz=some p->p.block∉S:=by
 intro c p b;have d:gG eB l≠[]:=by intro f;rw [kI]at f c;have:l=[]:=aD2;subst this;simp at c
 unfold Pj at b;split at b
 ·exact h d p b
 ·cases a with
  |none=>cases b
  |some q=>
   simp only [Tg,aV]at b;have e:(q.add (k*sz)).block=q.block:=by unfold Addr.add;split<;>rfl
   rw [<-b,e];exact h d q rfl
def uD(b:Nat)(l:List Int):bX:=
 ⟨some b,fun o=>∃es clock,o=some (.map es clock)/\es.toList.map (·.key)=l.map (Value.int .i64)/\∀e∈es.toList,e.val=.bool true⟩
def Sm(l:List Int)(n:Int):List Int:=if n∈l then l else l++[n]
theorem Bp(n:Int):∀(es:List MapEntry) (l:List Int) (i:Nat),es.map (·.key)=l.map (Value.int .i64)->(∀e∈es,e.val=.bool true)->
  ∃j,Instr.findNow (.int .i64) (.int .i64 n) es i=some (if n∈l then some (i+j,.bool true)else none)/\(n∈l->l[j]? =some n)
 |[],[],i,_,_=>⟨0,by simp [Instr.findNow]⟩
 |[],_::_,i,h,_=>by cases h
 |_::_,[],i,h,_=>by cases h
 |e::es,m::l,i,h,c=>by
  simp only [tM,fX]at h;obtain⟨h1,h2⟩:=h;obtain⟨j,d,b⟩:=Bp n es l (i+1) h2 fun e f=>c e (by simp [f]);by_cases a:n=m
  ·subst a;refine⟨0, ?_,fun _=>rfl⟩;simp [Instr.findNow,Instr.sameNow,h1,c e aA2]
  ·refine⟨j+1, ?_,fun h=>by simpa [a] using b (by simpa [a] using h)⟩;simp only [Instr.findNow,Instr.sameNow,h1,eM,aN,a,false_or];have:(n==m)=false:=by simp [a]
   simp only [this,d];split
   ·simp;omega
   ·rfl
section
variable {P : Program} {n : Md} {ops : Array Oper} {Q : Exit -> Act -> World -> Prop} {F : Nat -> Value} {w w0 : World} {S : List Nat} {L : List bX}
variable {d : Nat} {ty : TypeId} {pos : String} {after : Array Edge} {rest : List Oper}
theorem YM{t:TypeId}(a:Hp w0 S L w)(h:∀b w',Hp w0 S (uD b []::L) w'->W P n ops Q rest (dN F d (.map (some b))) w'):W P n ops Q (⟨some d,.makeMap t none,ty,pos,after,none⟩::rest) F w:=by refine fA (w':=w.alloc (.map #[] 0)) rfl rfl ?_ (h w.heap.size _ (a.Ss _ (uD w.heap.size []) rfl ⟨#[],0,rfl,rfl,aA2⟩));simp [execOp,Instr.makeMap]
theorem nF{k:TypeId}(a:P.underlying k=some (.int .i64))(m:Int)(b:Bool):(Instr.checkKey b 10000 k (.int .i64 m)).run P w=.ok () w:=by
 have key:∀i,(Instr.checkKey b (i+1) k (.int .i64 m)).run P w=.ok () w:=fun i=>by simp [Instr.checkKey,run_underlying a]
 exact key 9999
theorem Bi{k:TypeId}(c:P.underlying k=some (.int .i64)){b:Nat}{es:Array MapEntry}{l:List Int}(m:Int)(h1:es.toList.map (·.key)=l.map (Value.int .i64))(h2:∀e∈es.toList,e.val=.bool true):
  ∃j,(Instr.findKey k (.int .i64 m) es.toList).run P w=.ok (if m∈l then some (j,.bool true)else none) w/\(m∈l->l[j]? =some m):=by
 obtain⟨j,d,a⟩:=Bp m es.toList l 0 h1 h2;refine⟨j, ?_,a⟩;unfold Instr.findKey;simp [run_underlying c,d]
theorem X0{t k e:TypeId}{x ix:Operand}(r:Hp w0 S L w)(kk b:Nat)(l:List Int)(m:Int)(q:L[kk]? =some (uD b l))(i:P.underlying t=some (.map k e))(g:P.underlying k=some (.int .i64))(p:(zeroValue e).run P w=.ok (.bool false) w)
  (hx:aW n F x=.map (some b)) (o:aW n F ix=.int .i64 m) (h:W P n ops Q rest (dN F d (.bool (decide (m∈l)))) w):W P n ops Q (⟨some d,.lookup t x ix false,ty,pos,after,none⟩::rest) F w:=by
 obtain⟨es,clock,v,u,s⟩:=(r.res _ (aG q)).1;have a:(getObj b).run P w=.ok (.map es clock) w:=by have:w.heap[b]? =some (.map es clock):=v;simp [getObj,Sem.run,this]
 obtain⟨j,f,_⟩:=Bi (P:=P) (w:=w) g (b:=b) m u s;refine fA (w':=w) rfl rfl ?_ h;by_cases c:m∈l
 ·simp only [c,eM]at f;simp [execOp,hx,o,Instr.lookup,run_underlying i,a,nF g,f,c]
 ·simp only [c,cL]at f;simp [execOp,hx,o,Instr.lookup,run_underlying i,a,nF g,f,c,p]
theorem W9{t k e:TypeId}{x ix y:Operand}(H:Hp w0 S L w)(kk b:Nat)(l:List Int)(m:Int)(G:L[kk]? =some (uD b l))(K:P.underlying t=some (.map k e))(C:P.underlying k=some (.int .i64))
  (hx:aW n F x=.map (some b)) (c:aW n F ix=.int .i64 m) (J:aW n F y=.bool true) (h:∀w',Hp w0 S (L.set kk (uD b (Sm l m))) w'->W P n ops Q rest F w'):W P n ops Q (⟨none,.mapUpdate t x ix y,ty,pos,after,none⟩::rest) F w:=by
 obtain⟨es,clock,z,v,I⟩:=(H.res _ (aG G)).1;have z:w.heap[b]? =some (.map es clock):=z;have r:(getObj b).run P w=.ok (.map es clock) w:=by simp [getObj,Sem.run,z]
 have o:∀f c',(setObj b (.map f c')).run P w=.ok () (w.putObj b (.map f c')):=fun f c'=>by simp [setObj,Sem.run,z];rfl
 obtain⟨j,u,E⟩:=Bi (P:=P) (w:=w) C (b:=b) m v I;by_cases p:m∈l
 ·simp only [p,eM]at u;have D:=E p;have A:∃s,es.toList[j]? =some s/\s.key=.int .i64 m:=by
   have:=bP (·[j]?) v;simp only [aZ,D]at this;cases d:es.toList[j]? with
   |none=>rw [d]at this;cases this
   |some s=>rw [d]at this;exact⟨s,rfl,by simpa using this⟩
  obtain⟨s,g,q⟩:=A;have B:((es[j]?.map (·.key)).getD (.int .i64 m))=.int .i64 m:=by rw [<-fJ,g];exact q
  refine mU (w':=w.putObj b (.map (es.modify j fun e=>{e with key:=.int .i64 m,val:=.bool true}) clock)) rfl rfl ?_ (h _ ?_)
  ·simp [execOp,hx,c,J,Instr.mapUpdate,run_underlying K,r,nF C,u,Instr.keyThatStays,B,Instr.sameBits,o]
  ·refine H.put kk b _ _ _ G rfl rfl ⟨_,_,rfl, ?_, ?_⟩
   ·rw [show Sm l m=l by simp [Sm,p],<-v];refine bZ fun i=> ?_;simp only [aZ,fJ,fK];by_cases a:j=i
    ·subst a;rw [fJ]at g;simp [g,q]
    ·simp [a]
   ·intro e d;obtain⟨i,c⟩:=fH.1 d;rw [fJ,fK]at c;by_cases a:j=i
    ·subst a;cases M:es[j]? with
     |none=>rw [M]at c;simp at c
     |some N=>rw [M]at c;simp at c;rw [<-c]
    ·simp only [a,cL]at c;exact I e (aG (by rw [fJ];exact c))
 ·simp only [p,cL]at u;refine mU (w':=w.putObj b (.map (es.push {key:=.int .i64 m,val:=.bool true,born:=clock}) (clock+1))) rfl rfl ?_ (h _ ?_)
  ·simp [execOp,hx,c,J,Instr.mapUpdate,run_underlying K,r,nF C,u,o]
  ·refine H.put kk b _ _ _ G rfl rfl ⟨_,_,rfl, ?_, ?_⟩
   ·simp [Sm,p,v]
   ·intro e d;simp at d;rcases d with d|rfl
    ·exact I e (by simpa using d)
    ·rfl
end
open Go.Value renaming ownBlock → yM
open List renaming replicate → hC
theorem Xy{α:Type}(f:α->List Value)(sz:Nat)(z:α)(a:(f z).length=sz):∀(n j:Nat),j<n*sz->((hC n z).flatMap f)[j]? =(f z)[j%sz]?
 |0,j,h=>by simp at h
 |n+1,j,h=>by
  rw [List.replicate_succ,tN];by_cases b:j<sz
  ·rw [aI aA0,Zi b]
  ·rw [aK aA0,a,Xy f sz z a n (j-sz) (by rw [cZ]at h;omega)];congr 1;rw [<-Nat.mod_eq_sub_mod aA0]
theorem JM{α:Type}(f:α->List Value)(sz:Nat)(z:α)(b:Array Value)(g:b.toList=f z)(e:b.size=sz)(d:0<sz)(n:Nat):(madeCells b (n*sz)).toList=(hC n z).flatMap f:=by
 have c:(f z).length=sz:=by rw [<-g];simpa using e
 apply bZ;intro j;by_cases i:j<n*sz
 ·rw [Xy f sz z c n j i];have h:j%sz<b.size:=by rw [e];exact Nat.mod_lt _ d
  simp [madeCells,i,<-g,e];rw [fT h,getElem!_pos b _ h]
 ·rw [bL (by simp [madeCells];omega),bL];rw [a f sz z c];omega
where
 a {α:Type} (f:α->List Value) (sz:Nat) (z:α) (c:(f z).length=sz) {n:Nat}:((hC n z).flatMap f).length=n*sz:=by
  induction n with
  |zero=>simp
  |succ n k=>rw [List.replicate_succ,tN,cB,k,c,cZ];omega
section
variable {P : Program} {n : Md} {ops : Array Oper} {Q : Exit -> Act -> World -> Prop} {F : Nat -> Value} {w w0 : World} {S : List Nat} {L : List bX}
variable {d : Nat} {ty : TypeId} {pos : String} {after : Array Edge} {rest : List Oper} {α : Type} {f : α -> List Value}
theorem YO{x y:Operand}{t:TypeId}(hH:Hp w0 S L w)(e sz j:Nat)(T U:IntKind)(c:Int)(z:α)(Y:P.underlying t=some (.slice e))(hT:TI P e sz j)(J:0<j)(G:0<sz)
  (D:((P.info? e).bind (·.zero)).map (·.cells)=some (f z).toArray) (hx:aW n F x=.int T c) (X:aW n F y=.int U c)
  (p:0<=c/\(j:Int)*c<=281474976710656)
  (h:∀o a cap w',Hp w0 S (aX f e sz o a cap (hC c.toNat z)::L) w'->W P n ops Q rest (dN F d (.slice a (hC c.toNat z).length cap)) w'):
  W P n ops Q (⟨some d,.makeSlice t x y,ty,pos,after,none⟩::rest) F w:=by
 obtain⟨i,A,V,q,Z,v,B⟩:=hT.parts;obtain⟨h0,K⟩:=p;obtain⟨cn,rfl⟩:=Int.eq_ofNat_of_zero_le h0;have M:i.bytes*cn<=281474976710656:=by
  rw [v];have a2:((j*cn:Nat):Int)<=281474976710656:=by rw [HO];exact K
  omega
 have N:cn<=maxLen:=by have:cn<=i.bytes*cn:=Nat.le_mul_of_pos_left _ (by rw [v];exact J);simp only [maxLen];omega
 have C:A.cells.toList=f z:=by rw [V]at D;simp [q]at D;rw [D]
 obtain⟨w',m,H,u⟩:=run_make_full (P:=P) w w.heap.size t e i A sz Y V q Z T U cn M N (eJ _);rw [JM f sz z A.cells C B G cn]at H;have h2:Hp w [] [row (.slice (some ⟨w.heap.size,0,none⟩) cn cn) e sz cn ((hC cn z).flatMap f)] w':=by
  refine⟨u.os,u.tape,u.output,u.size,fun k hk _=>u.block k hk aA2,fun r m=> ?_,aA2⟩;simp at m;subst m;have I:=H.lt w.heap.size rfl;refine⟨?_,fun b p=> ?_⟩
  ·obtain⟨hl,m⟩:=H;refine⟨hl, ?_⟩;rcases m with m|⟨g,c,R,E,_,p,h1,h2,h3,O⟩
   ·exact .inl m
   ·refine .inr ⟨g,c,R,E, ?_,h1,h2,h3,O⟩;simp only [Value.slice.injEq,aV,Addr.mk.injEq]at E;obtain⟨⟨rfl,-⟩,-,rfl⟩:=E;exact p
  ·simp [row,yM]at p;subst p;exact⟨I.2,.inl (eJ _)⟩
 have h3:=hH.kJ h2;have s:(hC cn z).length=cn:=aA2;have O:(row (.slice (some ⟨w.heap.size,0,none⟩) cn cn) e sz cn ((hC cn z).flatMap f))=row (.slice (some ⟨w.heap.size,0,none⟩) (hC cn z).length cn) e sz (hC cn z).length ((hC cn z).flatMap f):=by rw [s]
 rw [O]at h3;obtain⟨o,h5⟩:=h3.Fj (f:=f) (l:=hC cn z) 0 rfl;have h6:=h o _ cn w' h5;refine fA (w':=w') rfl rfl ?_ h6;simp [execOp,hx,X,m]
end
section
variable {P : Program} {n : Md} {ops : Array Oper} {Q : Exit -> Act -> World -> Prop} {F : Nat -> Value} {w w0 : World} {S : List Nat} {L : List bX}
variable {d : Nat} {ty : TypeId} {pos : String} {after : Array Edge} {rest : List Oper} {α : Type} {f : α -> List Value}
end
theorem Fa{cs vs:List Value}{o:Nat}(h:o+vs.length<=cs.length):(Cs cs o vs).length=cs.length:=by unfold Cs;simp;omega
section
variable {α : Type} {f : α -> List Value} {sz : Nat}
end
open Go
open Go.Value renaming ownBlock → yM
open List renaming replicate → hC
abbrev PA:=Option Nat×Option Addr×Nat
def gz{T G:Type}(g:Nat->G)(l:List T):List (T×G):=l.mapIdx fun i x=>(x,g i)
theorem Lh{T G:Type}(g:Nat->G)(l:List T):(gz g l).length=l.length:=by unfold gz;simp
theorem Kb{T G:Type}(g:Nat->G)(l:List T){i:Int}(h:0<=i/\i<(l.length:Int)):0<=i/\i<((gz g l).length:Int):=by rw [Lh];exact h
theorem sZ{T G:Type}[Inhabited T][Inhabited G](g:Nat->G)(l:List T)(i:Int)(h:0<=i/\i<(l.length:Int)):el (gz g l) i=(el l i,g i.toNat):=by have:i.toNat<l.length:=aA0;simp [el,gz,this]
def zX{G:Type}(g:Nat->G)(i:Nat)(x:G):Nat->G:=fun k=>if k=i then x else g k
theorem Bm{T G:Type}(g:Nat->G)(l:List T)(j:Nat):(gz g l)[j]? =l[j]?.map fun x=>(x,g j):=by unfold gz;simp
theorem TU{T G:Type}(g:Nat->G)(l:List T)(i:Nat)(p:T)(x:G):(gz g l).set i (p,x)=gz (zX g i x) (l.set i p):=by
 apply bZ;intro j;rw [Bm,dV,dV,Bm,Lh];by_cases h:i=j
 ·subst h;by_cases h2:i<l.length<;>simp [h2,zX]
 ·simp [h,zX,show¬j=i by omega]
theorem GF{T G:Type}(g:Nat->G)(l:List T)(p:T)(x:G):gz g l++[(p,x)]=gz (zX g l.length x) (l++[p]):=by
 apply bZ;intro j;rw [Bm];by_cases h:j<l.length
 ·rw [aI (by rw [Lh];exact h),aI h,Bm];simp [h,zX,show¬j=l.length by omega]
 ·rw [aK (by rw [Lh];omega),aK aA0,Lh];by_cases h2:j=l.length
  ·subst h2;simp [zX]
  ·rw [bL aA6,bL aA6];rfl
theorem TV{T G:Type}(n:Nat)(z:T)(x:G):hC n (z,x)=gz (fun _=>x) (hC n z):=by apply bZ;intro j;rw [Bm,Zl,Zl];by_cases h:j<n<;>simp [h]
theorem Rd.of{w:World}{a:Option Addr}{c b:List Value}(h:Rd w a c)(e:c=b):Rd w a b:=e▸h
def xK{α:Type}(f:α->List Value)(o:Option Nat)(a:Option Addr)(cap:Nat)(l:List α):bX:=
 ⟨o,fun ob=>(o=none/\l=[]/\cap=0/\a=none)\/∃g b e c,o=some g/\a=some ⟨g,0,none⟩/\ob=some (.cells b e c)/\l.length<=cap/\b.toList.take (l.flatMap f).length=l.flatMap f⟩
theorem UG{α:Type}{f:α->List Value}{o:Option Nat}{a:Option Addr}{cap:Nat}{l:List α}{w:World}(h:(xK f o a cap l).holds w):Rd w a (l.flatMap f)/\l.length<=cap/\(a=none->cap=0):=by
 rcases h with⟨_,rfl,rfl,rfl⟩|⟨g,d,e,m,n,rfl,c,p,k⟩
 ·exact⟨Rd.nil _ _,dH _,fun _=>rfl⟩
 ·refine⟨fun j v i=>⟨_,rfl, ?_⟩,p,fun h=>nomatch h⟩
  have c:w.heap[g]? =some (.cells d e m):=by
   have h1:((some g).bind fun b=>w.heap[b]?)=some (.cells d e m):=by rw [<-n];exact c
   exact h1
  rw [HJ];have q:d.toList[j]? =some v:=by
   rw [<-k]at i;have r:=(aD.1 i).1;rw [bO]at i;split at i
   ·exact i
   ·cases i
  simp only [World.cell?,c];simpa using q
theorem Hp.QB{w0 w:World}{S:List Nat}{L:List bX}{T G:Type}{f:T×G->List Value}{e sz cap:Nat}{o:Option Nat}{a:Option Addr}{l:List T}{g:Nat->G}(h:Hp w0 S L w)(k:Nat)(b:L[k]? =some (aX f e sz o a cap (gz g l))):l.length<=cap:=by
 have:=h.Lv k b
 rwa [Lh]at this
theorem Hp.zrw{w0 w:World}{S:List Nat}{L:List bX}{α:Type}{f:α->List Value}{e sz cap:Nat}{o:Option Nat}{a:Option Addr}{l:List α}(h:Hp w0 S L w)(k:Nat)(b:L[k]? =some (aX f e sz o a cap l)):a=none->cap=0:=by
 intro c;rcases(h.res _ (aG b)).1 with⟨_,_,h3,_⟩|⟨g,d,_,h2,_⟩
 ·exact h3
 ·rw [c]at h2;cases h2
theorem Hp.my{w0 w:World}{S:List Nat}{L:List bX}(h:Hp w0 S L w)(k:Nat)(r r':bX)(c:L[k]? =some r)(a:r'.own=r.own)(e:r.holds w->r'.holds w):Hp w0 S (L.set k r') w:=by obtain⟨h1,h2⟩:=h.res r (aG c);exact h.change k r r' c rfl rfl rfl (eJ _) (fun _ _ _=>rfl) (e h1) fun b d=>⟨.inl (by rw [<-a];exact d),(h2 b (by rw [<-a];exact d)).1⟩
theorem Hp.QA{w0 w:World}{S:List Nat}{L:List bX}{α:Type}{f:α->List Value}{e sz cap:Nat}{o:Option Nat}{a:Option Addr}{l:List α}(h:Hp w0 S L w)(s:oV f sz)(k:Nat)(n:L[k]? =some (aX f e sz o a cap l)):Hp w0 S (L.set k (xK f o a cap l)) w:=by
 refine h.my k _ _ n rfl fun j=> ?_;rcases j with⟨rfl,rfl,rfl,rfl⟩|⟨g,i,m,r,c,d,q,p,b⟩
 ·exact .inl ⟨rfl,rfl,rfl,rfl⟩
 ·exact .inr ⟨g,i,e,(0,0),m,r,c,d,by rw [s.flat];exact b⟩
theorem Hp.T9{w0 w:World}{S:List Nat}{L:List bX}{n cap:Nat}{a:Option Addr}{l:List UInt8}(h:Hp w0 S L w)(k:Nat)(o:L[k]? =some (eN (.slice a n cap) n l)):Hp w0 S (L.set k (xK eB (Value.slice a n cap).ownBlock a cap l)) w:=by refine h.my k _ _ o rfl fun j=> ?_;obtain⟨m,g,f,d,e,p,i,c,h1,h2,b⟩:=j;cases i;refine .inr ⟨g,d,e,p,rfl,rfl,c,aA0, ?_⟩;rw [kI,Dj,m];exact b.1
theorem Hp.BE{w0 w:World}{S:List Nat}{L:List bX}(h:Hp w0 S L w){α:Type}(f:α->List Value):Hp w0 S (xK f none none 0 []::L) w:=by
 refine⟨h.os,h.tape,h.output,h.size,h.below,fun r a=> ?_, ?_⟩
 ·rcases aN.1 a with rfl|a
  ·exact⟨.inl ⟨rfl,rfl,rfl,rfl⟩,fun b c=>by simp [xK]at c⟩
  ·exact h.res r a
 ·refine List.Pairwise.cons (fun r _ b c=>by simp [xK]at c) h.sep
theorem Hp.Yp{w0 w:World}{S:List Nat}{L:List bX}{n cap:Nat}{a:Option Addr}{l:List UInt8}(h:Hp w0 S L w)(k:Nat)(d:L[k]? =some (eN (.slice a n cap) n l)):n<=cap:=by obtain⟨_,g,b,f,e,i,c,_,h1,_⟩:=(h.res _ (aG d)).1;cases c;exact h1
theorem Hp.zbr{w0 w:World}{S:List Nat}{L:List bX}{n cap:Nat}{a:Option Addr}{l:List UInt8}(h:Hp w0 S L w)(k:Nat)(d:L[k]? =some (eN (.slice a n cap) n l)):a=none->cap=0:=by intro f;obtain⟨_,g,c,i,e,j,b,_⟩:=(h.res _ (aG d)).1;rw [f]at b;cases b
def gI{T G:Type}(inn:T×G->List bX)(g:Nat->G)(l:List T):List bX:=(gz g l).flatMap inn
theorem di{T G:Type}[Inhabited T][Inhabited G](inn:T×G->List bX)(g:Nat->G)(l:List T)(i:Int)(h:0<=i/\i<(l.length:Int)):∀r∈inn (el l i,g i.toNat),r∈gI inn g l:=by intro r a;refine List.mem_flatMap.2 ⟨_, ?_,a⟩;have h2:i.toNat<l.length:=aA0;refine aG (i:=i.toNat) ?_;rw [Bm];simp [el,h2]
theorem H5{T G:Type}(inn:T×G->List bX)(g:Nat->G)(l:List T)(p:T)(x:G):gI inn (zX g l.length x) (l++[p])=gI inn g l++inn (p,x):=by unfold gI;rw [<-GF];simp
theorem Hp.da{w0 w:World}{S:List Nat}{L:List bX}{T G:Type}{inn:T×G->List bX}{g:Nat->G}{l:List T}(p:T)(x:G)(Z:List bX)(h:Hp w0 S (inn (p,x)++(L++(gI inn g l++Z))) w):Hp w0 S (L++(gI inn (zX g l.length x) (l++[p])++Z)) w:=by refine h.perm ?_;rw [H5];refine(XL).trans ?_;rw [iI,iI];refine fI L ?_;rw [iI];exact fI _ XL
theorem UE{T G:Type}(inn:T×G->List bX)(g:Nat->G)(l:List T)(i:Nat)(h:i<l.length)(p:T)(x:G):gI inn g l=((gz g l).take i).flatMap inn++(inn (l[i],g i)++((gz g l).drop (i+1)).flatMap inn)/\gI inn (zX g i x) (l.set i p)=((gz g l).take i).flatMap inn++(inn (p,x)++((gz g l).drop (i+1)).flatMap inn):=by
 have a:i<(gz g l).length:=by rw [Lh];exact h
 have e:(gz g l)[i]=(l[i],g i):=by have:=Bm g l i;rw [aJ a,aJ h]at this;exact aP this
 constructor
 ·unfold gI
  conv=>lhs;rw [<-LZ i (gz g l),dG a]
  rw [LY,tN,e]
 ·unfold gI;rw [<-TU,ye,aC a,LY,tN]
theorem Hp.qp{w0 w:World}{S:List Nat}{L:List bX}{T G:Type}{inn:T×G->List bX}{g:Nat->G}{l:List T}(p:T)(x:G)(Z:List bX)(i:Int)(c:0<=i/\i<(l.length:Int))(h:Hp w0 S (inn (p,x)++(L++(gI inn g l++Z))) w):Hp w0 S (L++(gI inn (zX g i.toNat x) (l.set i.toNat p)++Z)) w:=by
 obtain⟨b,a⟩:=UE inn g l i.toNat aA0 p x;rw [b]at h;rw [a];have h2:Hp w0 S (inn (p,x)++(L++((((gz g l).take i.toNat).flatMap inn++((gz g l).drop (i.toNat+1)).flatMap inn)++Z))) w:=by refine h.sub (cS (cS (List.Sublist.append_right (cS (kM _ _) _) _) _) _)
 refine h2.perm ?_;refine(XL).trans ?_;rw [iI];refine fI L ?_;rw [iI,iI,iI,iI];refine fI _ ?_;rw [<-iI];exact XL
theorem Hp.qq{w0 w:World}{S:List Nat}{L:List bX}{T G:Type}{inn:T×G->List bX}(z:T)(x:G)(n:Nat)(Z:List bX)(g:∀r∈inn (z,x),r.own=none/\r.ok none)(h:Hp w0 S (L++Z) w):Hp w0 S (L++(gI inn (fun _=>x) (hC n z)++Z)) w:=by
 have key:∀r∈gI inn (fun _=>x) (hC n z),r.own=none/\r.ok none:=by intro r a;obtain⟨q,e,a⟩:=List.mem_flatMap.1 a;rw [<-TV]at e;rw [List.eq_of_mem_replicate e]at a;exact g r a
 have h2:Hp w0 S (gI inn (fun _=>x) (hC n z)++(L++Z)) w:=by
  refine⟨h.os,h.tape,h.output,h.size,h.below,fun r a=> ?_, ?_⟩
  ·rcases aU.1 a with a|a
   ·obtain⟨d,f⟩:=key r a;exact⟨by unfold bX.holds;rw [d];exact f,fun b c=>by rw [d]at c;cases c⟩
   ·exact h.res r a
  ·refine dU.2 ⟨?_,h.sep,fun r a r' _ b c=>by rw [(key r a).1]at c;cases c⟩;exact List.Pairwise.imp_of_mem (R:=fun _ _=>True) (fun a _ _ b c=>by rw [(key _ a).1]at c;cases c) (List.pairwise_of_forall aA2)
 refine h2.perm ?_;refine(XL).trans ?_;rw [iI];exact fI L XL
theorem Hp.Dv{w0 w:World}{S:List Nat}{L L1:List bX}(h:Hp w0 S L w)(n m:Nat)(a:n<=m)(b:L.take n++L.drop m=L1:=by kernel_rfl):Hp w0 S L1 w:=by
 refine h.sub ?_;rw [<-b];have e:L=L.take n++L.drop n:=(LZ n L).symm
 conv=>rhs;rw [e]
 exact cS (List.drop_sublist_drop_left L a) _
theorem Hp.Br{w0 w:World}{S:List Nat}(L1 T a:List bX)(h:Hp w0 S (L1++T) w)(p:a.Sublist T):Hp w0 S (L1++a) w:=h.sub (cS p L1)
theorem Hp.tb{w0 w:World}{S:List Nat}(A B C D:List bX)(h:Hp w0 S ((A++(B++[]))++(C++D)) w):Hp w0 S (A++(C++(B++D))) w:=by refine h.perm ?_;rw [kP,iI];refine fI A ?_;rw [<-iI,<-iI];exact List.Perm.append_right D XL
section
variable {P : Program} {n : Md} {ops : Array Oper} {Q : Exit -> Act -> World -> Prop} {F : Nat -> Value} {w w0 : World} {S : List Nat} {L : List bX}
variable {d : Nat} {ty : TypeId} {pos : String} {after : Array Edge} {rest : List Oper}
variable {T G : Type} {f : T × G -> List Value}
theorem YP{x y:Operand}{t:TypeId}(v:Hp w0 S L w)(e sz b:Nat)(l m:IntKind)(c:Int)(z:T)(g:G)(r:P.underlying t=some (.slice e))(u:TI P e sz b)(k:0<b)(j:0<sz)
  (p:((P.info? e).bind (·.zero)).map (·.cells)=some (f (z,g)).toArray) (hx:aW n F x=.int l c) (q:aW n F y=.int m c)
  (s:0<=c/\(b:Int)*c<=281474976710656)
  (h:∀o a cap w',Hp w0 S (aX f e sz o a cap (gz (fun _=>g) (hC c.toNat z))::L) w'->W P n ops Q rest (dN F d (.slice a (hC c.toNat z).length cap)) w'):
  W P n ops Q (⟨some d,.makeSlice t x y,ty,pos,after,none⟩::rest) F w:=by
 refine YO (f:=f) v e sz b l m c (z,g) r u k j p hx q s fun o a cap w' i=> ?_;rw [TV]at i;have:=h o a cap w' i;simpa using this
theorem HT{x y:Operand}{t:TypeId}(B:Hp w0 S L w)(k:Nat)(o:Option Nat)(a m:Option Addr)(cap cx e sz b:Nat)(g:Nat->G)(l:List T)(p:T)(q:G)(C:oV f sz)(u:L[k]? =some (aX f e sz o a cap (gz g l)))(s:P.underlying t=some (.slice e))(z:TI P e sz b)(i:0<sz)(j:0<b)
  (hx:aW n F x=.slice a l.length cap) (r:aW n F y=.slice m 1 cx) (A:Rd w m (f (p,q))) (v:(l.length+1)*b<=140737488355328)
  (h:∀o' a' cap' w',Hp w0 S (L.set k (aX f e sz o' a' cap' (gz (zX g l.length q) (l++[p])))) w'->W P n ops Q rest (dN F d (.slice a' (l++[p]).length cap')) w'):
  W P n ops Q (⟨some d,.call ⟨.builtin .append, #[x,y], #[t,t]⟩,ty,pos,after,none⟩::rest) F w:=by
 refine MO B k o a m cap cx e sz b (gz g l) [(p,q)] C u s z i j (by rw [Lh];exact hx) r aE1 (by rw [Lh];exact v) fun o' a' cap' w' c=> ?_;rw [GF]at c⊢;rw [Lh];exact h o' a' cap' w' c
theorem Dk{x:Operand}{s:TypeId}(r:Hp w0 S L w)(k b m e:Nat)(cs:List Value)(l:List UInt8)(p:L[k]? =some (aM b cs e))(f:l.map bt=cs)(u:l.length=m)(z:P.underlying s=some (.slice e))(B:P.underlying e=some (.int .u8))(hx:aW n F x=.slice (some ⟨b,0,none⟩) m m)
  (h:∀w',Hp w0 S (L.set k (eN (.slice (some ⟨b,0,none⟩) m m) m l)) w'->W P n ops Q rest (dN F d (.slice (some ⟨b,0,none⟩) m m)) w'):W P n ops Q (⟨some d,.convert s s x,ty,pos,after,none⟩::rest) F w:=by
 have y:=r.dK k p;have o:=((r.res _ (aG p)).2 b rfl).1;have a:cs.toArray.size=m:=by rw [<-f,<-u];simp
 have g:w.shape? b=some (e,m):=by unfold World.shape?;rw [y];simp only [a]
 have A:(w.freeze ⟨b,m,none⟩ 1).heap[b]? =some (.cells cs.toArray e (m,m+1)):=by unfold World.freeze;rw [aB aA1];simp [fK,y]
 refine fA (w':=w.freeze ⟨b,m,none⟩ 1) rfl rfl ?_ (h _ ?_)
 ·simp [execOp,hx,convert,run_underlying z,run_underlying B,markStringish,g]
 ·have t:w.freeze ⟨b,m,none⟩ 1={w with heap:=(w.freeze ⟨b,m,none⟩ 1).heap}:=by unfold World.freeze;rw [aB aA1]
  refine r.change k _ _ p (by rw [t]) (by rw [t]) (by rw [t]) (by unfold World.freeze;rw [aB aA1];simp) (fun j C i=> ?_) ?_ (fun c v=> ?_)
  ·unfold World.freeze;rw [aB aA1];have q:¬b=j:=fun h=>i (by rw [<-h];rfl);simp [fK,q]
  ·refine⟨u,b,m,cs.toArray,e,(m,m+1),rfl, ?_,eJ _,aA0, ?_,aA0⟩
   ·exact A
   ·rw [f,<-a];simp
  ·simp [eN,yM]at v;subst v;exact⟨.inl rfl,by unfold World.freeze;rw [aB aA1];simpa using o⟩
theorem AI{α:Type}{f:α->List Value}{x y:Operand}{t:TypeId}(g:Hp w0 S L w)(b:Nat)(K:Option Addr)(m cx e sz k:Nat)(l c:List α)(s:oV f sz)(J:Rd w (some ⟨b,0,none⟩) (l.flatMap f))(Y:l.length=m)(U:P.underlying t=some (.slice e))(hT:TI P e sz k)(C:0<sz)(H:0<k)
  (hx:aW n F x=.slice (some ⟨b,0,none⟩) m m) (R:aW n F y=.slice K c.length cx) (N:Rd w K (c.flatMap f)) (u:0<c.length/\(l.length+c.length)*k<=140737488355328)
  (h:∀o a cap w',Hp w0 S (aX f e sz o a cap (l++c)::L) w'->W P n ops Q rest (dN F d (.slice a (l++c).length cap)) w'):
  W P n ops Q (⟨some d,.call ⟨.builtin .append, #[x,y], #[t,t]⟩,ty,pos,after,none⟩::rest) F w:=by
 obtain⟨h2,u⟩:=u;subst Y;obtain⟨i,z,Z,O,V,I,B⟩:=hT.parts;subst V;subst I;have M:l.length+c.length<=140737488355328:=oA (Nat.le_mul_of_pos_right _ H) u;have r:=s.flat c;cases K with
 |none=>
  have:0<(c.flatMap f).length:=by rw [r];exact Ol h2 C
  obtain⟨p,D,_⟩:=N 0 ((c.flatMap f)[0]) (by simp [this]);cases D
 |some p=>
  have rd:∀{q:Addr} {A:List Value},Rd w (some q) A->∀j v,A[j]? =some v->w.cell? (q.add j)=some v:=by intro q A X j v T;obtain⟨p,D,hc⟩:=X j v T;cases D;exact hc
  have key:=run_append_grow (P:=P) w t ty e i z U Z O ⟨b,0,none⟩ l.length l.length (l.flatMap f) (s.flat l) (rd J) p c.length cx (c.flatMap f) r (rd N) aA0 aA0 (growslice_fits aA0 u);have G:=grownCap_ge w (l.length+c.length) l.length e;have E:=grownCap_le_maxLen w (l.length+c.length) l.length e aE7;have hd:Hp w0 S L w.drew:=⟨g.os,g.tape,g.output,g.size,g.below,g.res,g.sep⟩
  have hA:=hd.Ss (.cells ((l.flatMap f).toArray++(c.flatMap f).toArray++Builtin.zeroCells z.cells (grownCap w (l.length+c.length) l.length e-(l.length+c.length))) e) (aX f e i.size (some w.drew.heap.size) (some ⟨w.drew.heap.size,0,none⟩) (grownCap w (l.length+c.length) l.length e) (l++c)) rfl (.inr ⟨w.drew.heap.size,_,rfl,rfl,rfl,by simpa using G,E,(by
   simp only [Array.size_append,List.size_toArray,Builtin.zeroCells,Array.size_map,Array.size_range,s.flat,B,<-gY];congr 1;omega),(by
   simp only [Array.toList_append,cB,LY];rw [yD (by simp [s.flat,gY]),rH (by simp [s.flat,gY])])⟩)
  have h3:=h _ _ _ _ hA;rw [cB]at h3;refine fA rfl rfl ?_ h3;simp [execOp,resolve,invoke,builtin,hx,R,key]
end
section
variable {P : Program} {n : Md} {ops : Array Oper} {Q : Exit -> Act -> World -> Prop} {F : Nat -> Value} {w : World}
variable {d : Nat} {ty : TypeId} {pos : String} {after : Array Edge} {rest : List Oper} {k : Nat} {D : List Deferred} {ro : Option Nat}
theorem YS{b:Operand}{fE:Array Operand}{a:Array TypeId}(f:FuncId)(cap:Array Value)(vs:List Value)(i:Enters P f)
  (c:aW n F b=.func (.func f) #[] cap) (g: #[]++fE.map (aW n F)++cap=vs.toArray) (e:CR P f vs w fun v w'=>W P n ops Q rest (dN F d v) w'):
  W P n ops Q (⟨some d,.call ⟨.value b,fE,a⟩,ty,pos,after,none⟩::rest) F w:=
 oX f cap vs _ i c g e fun _ _ h=>h
end
end Go.Wk
