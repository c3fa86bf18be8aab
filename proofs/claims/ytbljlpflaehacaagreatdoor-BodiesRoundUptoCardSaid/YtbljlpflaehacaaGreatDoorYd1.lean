/-
  The law BodiesRound holds (part 1 of 8).
-/
import Derived.Tactics2
import Derived.Scope
import Derived.Below
import Derived.KernelRfl
import Derived.RangeFuncCalls
import Derived.RangeFuncLeaves
import Derived.TacticsIn
import Derived.Laws.Strings3
import Derived.Laws.Concat
import Derived.Laws.Small
import Derived.Laws.Slices
import Derived.Laws.BitsLemmas
import Derived.Laws.OwnMore
import Derived.Laws.AppendOwn
import Derived.Laws.CopyRow
import Derived.StillTail
import Derived.OrdersHeld
import Derived.Laws.BytesString
import Derived.Laws.MakeOwn
import Derived.WalkSmall
import Derived.Laws.Cover3
import Derived.Laws.StructEq
import Derived.RangeFuncRecord
import Derived.OrdersIn
import Derived.Lib.AppendStr
import Derived.Lib.Builder
import Derived.Lib.AppendZerosOnto
import Derived.Lib.Overlaps
set_option linter.unusedVariables false
namespace Go.Wk
open Go.RowKit (Below)
open Nat renaming beq → cV, blt → fZ
open _root_.Array renaming replicate → Yq
variable {p:Prop}
theorem _root_.aA0(h:p:=by omega):p:=h
theorem _root_.aA1(h:p:=by decide):p:=h
theorem _root_.aA2(h:p:=by simp):p:=h
theorem _root_.aA3(h:p:=by decide+kernel):p:=h
theorem _root_.aA4(h:p:=by first|rfl|(simp;done)|omega|(simp;omega)|(rw [kR];omega)):p:=h
theorem _root_.aA5(h:p:=by simp;omega):p:=h
theorem _root_.aA6(h:p:=by rw [iD];omega):p:=h
theorem _root_.aA7(h:p:=by rw [h];simp):p:=h
theorem _root_.aA8(h:p:=by simp only [bM,eL];omega):p:=h
theorem _root_.aA9(h:p:=by simpa using h):p:=h
theorem _root_.aB0(h:p:=by simp only [eL];omega):p:=h
theorem _root_.aB1(h:p:=by unfold TI;kernel_rfl):p:=h
theorem _root_.aB2(h:p:=by simp only [bM,bR,eO];omega):p:=h
theorem _root_.aB3(h:p:=by simp [lY]):p:=h
theorem _root_.aB4(h:p:=by rw [h];simp [el]):p:=h
theorem _root_.aB5(h:p:=by simp only [bR,eO];omega):p:=h
theorem _root_.aB6(h:p:=by simpa using b):p:=h
theorem _root_.aB7(h:p:=by rw [bM,eL];omega):p:=h
theorem _root_.aB8(h:p:=by first|rfl|(simp;done)|(simp;omega)):p:=h
theorem _root_.aB9(h:p:=by rw [iX];omega):p:=h
theorem _root_.aC0(h:p:=by simpa using a):p:=h
theorem _root_.aC1(h:p:=by show s.length<_;omega):p:=h
theorem _root_.aC2(h:p:=by rw [bM];omega):p:=h
theorem _root_.aC3(h:p:=by simpa using c):p:=h
theorem _root_.aC4(h:p:=by rw [kR];omega):p:=h
theorem _root_.aC5(h:p:=by show some (Value.slice _ _ _)=_;rw [nX]):p:=h
theorem _root_.aC6(h:p:=by intro w N;exact(kL J 1 (hK c a o) 36 (Ub c a o) N rfl aF aF)):p:=h
theorem _root_.aC7(h:p:=by cases vs with|nil=>exact b|cons a gH=>cases gH<;>exact b):p:=h
theorem _root_.aC8(h:p:=by intro w N;exact lN (b:=Result.ok (Next.value (.bool j5)) w) aF (bD (fun b=>Result.ok (Next.value (.bool b)) w) f7)):p:=h
theorem _root_.aC9(h:p:=by simp only [bM,eL,eO];omega):p:=h
theorem _root_.aD0(h:p:=by simpa using d):p:=h
theorem _root_.aD1(h:p:=by rw [d];simp):p:=h
theorem _root_.aD2(h:p:=by unfold fW;rw [kS];rfl):p:=h
theorem _root_.aD3(h:p:=by simpa using f):p:=h
theorem _root_.aD4(h:p:=by simp [dA,NX,List.intersperse]):p:=h
theorem _root_.aD5(h:p:=by show t.length<_;omega):p:=h
theorem _root_.aD6(h:p:=by rw [IJ];omega):p:=h
theorem _root_.aD7(h:p:=by unfold Ap at h;simp only [fS]at h;exact h.2):p:=h
theorem _root_.aD8(h:p:=by unfold Xp;omega):p:=h
theorem _root_.aD9(h:p:=by intro w p;exact(kL d 0 [(Vs s c.2.1.length t)] 88 (Vs s c.2.1.length t) p rfl aF aF)):p:=h
theorem _root_.aE0(h:p:=by simpa using hx):p:=h
theorem _root_.aE1(h:p:=by rw [A];exact Y):p:=h
theorem _root_.aE2(h:p:=by simpa using g):p:=h
theorem _root_.aE3(h:p:=by simp [SC.ids]):p:=h
theorem _root_.aE4(h:p:=by rw [eL];omega):p:=h
theorem _root_.aE5(h:p:=by intro P p;exact(kL d 0 [(Vs i a.length l)] 88 (Vs i a.length l) p rfl aF aF)):p:=h
theorem _root_.aE6(h:p:=by rw [h];omega):p:=h
theorem _root_.aE7(h:p:=by rw [i];simp):p:=h
theorem _root_.aE8(h:p:=by unfold maxLen;omega):p:=h
theorem _root_.aE9(h:p:=by rw [e];rfl):p:=h
theorem _root_.aF0(h:p:=by simpa using e):p:=h
theorem _root_.aF1(h:p:=by simpa using G):p:=h
theorem _root_.aF2(h:p:=by simpa using A):p:=h
theorem _root_.aF3(h:p:=by rw [bM];simp only [bR];omega):p:=h
theorem _root_.aF4(h:p:=by simp [Pu]):p:=h
theorem _root_.aF5(h:p:=by unfold Pn;rw [Go.Ce.Tr.B8]):p:=h
theorem _root_.aF6(h:p:=by rw [M9 (r _ fQ)];exact hid):p:=h
theorem _root_.aF7(h:p:=by rw [j];simp):p:=h
theorem _root_.aF8(h:p:=by simp at b;omega):p:=h
theorem _root_.aF9(h:p:=by rw [gs q dg h A];exact U):p:=h
theorem _root_.aG0(h:p:=by rw [NH];exact a):p:=h
abbrev _root_.O3:=@Array.ext
abbrev _root_.gO:=@Array.getElem?_eq_getElem
abbrev _root_.cI:=@Array.getElem?_eq_some_iff
abbrev _root_.vR:=@Array.getElem?_modify
abbrev _root_.Fl:=@Array.length_toList
abbrev _root_.xH:=@Array.mem_append
abbrev _root_.xG:=@Array.toList_inj
abbrev _root_.dN:=@Bool.and_eq_true
abbrev _root_.L7:=@Bool.and_false
abbrev _root_.pQ:=@Bool.false_eq_true
abbrev _root_.eD:=@Bool.false_or
abbrev _root_.cP:=@Bool.not_eq_true'
abbrev _root_.gU:=@Bool.or_eq_false_iff
abbrev _root_.jU:=@Bool.or_eq_true
abbrev _root_.JD:=@Bool.or_true
abbrev _root_.lX:=@Bool.true_or
abbrev _root_.lN:=@Eq.trans
abbrev _root_.qE:=@Int.le_refl
abbrev _root_.NW:=@Int.natCast_mul
abbrev _root_.Ok:=@Int.natCast_nonneg
abbrev _root_.tH:=@Int.toNat_natCast
abbrev _root_.gF:=@List.Perm.append_left
abbrev _root_.cY:=@List.Sublist.append_left
abbrev _root_.oH:=@List.all_append
abbrev _root_.aT:=@List.all_eq_true
abbrev _root_.gR:=@List.any_append
abbrev _root_.dX:=@List.any_eq_false
abbrev _root_.eI:=@List.any_eq_true
abbrev _root_.tG:=@List.any_nil
abbrev _root_.gN:=@List.append_eq_append_iff
abbrev _root_.vQ:=@List.concat_eq_append
abbrev _root_.bF:=@List.cons.inj
abbrev _root_.jT:=@List.cons.injEq
abbrev _root_.FF:=@List.cons_append
abbrev _root_.iG:=@List.dropWhile_cons
abbrev _root_.lM:=@List.dropWhile_cons_of_neg
abbrev _root_.vP:=@List.dropWhile_suffix
abbrev _root_.iW:=@List.drop_append_of_le_length
abbrev _root_.dS:=@List.drop_eq_getElem_cons
abbrev _root_.JC:=@List.drop_eq_nil_of_le
abbrev _root_.fP:=@List.drop_length
abbrev _root_.Oj:=@List.drop_zero
abbrev _root_.vO:=@List.eq_nil_or_concat
abbrev _root_.cL:=@List.ext_getElem?
abbrev _root_.xF:=@List.flatMap_nil
abbrev _root_.JB:=@List.flatMap_singleton
abbrev _root_.oG:=@List.foldl_cons
abbrev _root_.bP:=@List.getD_eq_getElem?_getD
abbrev _root_.aH:=@List.getElem?_append_left
abbrev _root_.aN:=@List.getElem?_append_right
abbrev _root_.bV:=@List.getElem?_cons_succ
abbrev _root_.bW:=@List.getElem?_drop
abbrev _root_.aM:=@List.getElem?_eq_getElem
abbrev _root_.bL:=@List.getElem?_eq_none
abbrev _root_.aD:=@List.getElem?_eq_some_iff
abbrev _root_.bE:=@List.getElem?_map
abbrev _root_.cZ:=@List.getElem?_range
abbrev _root_.FE:=@List.getElem?_replicate
abbrev _root_.eN:=@List.getElem?_set
abbrev _root_.Be:=@List.getElem?_set_ne
abbrev _root_.bG:=@List.getElem?_set_self
abbrev _root_.bO:=@List.getElem?_take
abbrev _root_.xE:=@List.getElem_mem
abbrev _root_.mP:=@List.getElem_set_ne
abbrev _root_.L6:=@List.getLast?_append
abbrev _root_.cG:=@List.head?_cons
abbrev _root_.Qg:=@List.isEmpty_eq_false_iff
abbrev _root_.eM:=@List.isPrefixOf_iff_prefix
abbrev _root_.pP:=@List.length_append
abbrev _root_.dM:=@List.length_cons
abbrev _root_.FD:=@List.length_drop
abbrev _root_.bK:=@List.length_pos_iff
abbrev _root_.oF:=@List.length_set
abbrev _root_.xD:=@List.length_take
abbrev _root_.hC:=@List.map_cons
abbrev _root_.Oi:=@List.map_inj_right
abbrev _root_.jL:=@List.map_map
abbrev _root_.eE:=@List.map_nil
abbrev _root_.jK:=@List.map_singleton
abbrev _root_.aS:=@List.mem_append
abbrev _root_.aP:=@List.mem_cons
abbrev _root_.lL:=@List.mem_cons_of_mem
abbrev _root_.iV:=@List.mem_eraseIdx_iff_getElem
abbrev _root_.lW:=@List.mem_flatMap
abbrev _root_.kK:=@List.mem_iff_getElem?
abbrev _root_.cN:=@List.mem_map
abbrev _root_.Qf:=@List.mem_of_find?_eq_some
abbrev _root_.aI:=@List.mem_of_getElem?
abbrev _root_.Yc:=@List.mem_of_mem_eraseIdx
abbrev _root_.Bd:=@List.mem_of_mem_take
abbrev _root_.aE:=@List.mem_singleton
abbrev _root_.iK:=@List.not_mem_nil
abbrev _root_.dI:=@List.pairwise_append
abbrev _root_.fY:=@List.pairwise_cons
abbrev _root_.eU:=@List.pairwise_iff_getElem
abbrev _root_.JA:=@List.reverse_singleton
abbrev _root_.L5:=@List.set_append_left
abbrev _root_.gE:=@List.set_append_right
abbrev _root_.Oh:=@List.set_cons_succ
abbrev _root_.Og:=@List.set_cons_zero
abbrev _root_.mG:=@List.sublist_append_right
abbrev _root_.SM:=@List.take_append_drop
abbrev _root_.Bc:=@List.take_append_of_le_length
abbrev _root_.xC:=@List.take_length
abbrev _root_.tF:=@List.take_of_length_le
abbrev _root_.fH:=@List.take_succ_cons
abbrev _root_.L4:=@List.take_take
abbrev _root_.lK:=@Nat.add_mul
abbrev _root_.Of:=@Nat.add_right_comm
abbrev _root_.jJ:=@Nat.blt_eq
abbrev _root_.gD:=@Nat.eq_of_beq_eq_true
abbrev _root_.bH:=@Nat.le_of_ble_eq_true
abbrev _root_.lV:=@Nat.le_of_not_lt
abbrev _root_.qD:=@Nat.le_refl
abbrev _root_.IZ:=@Nat.le_trans
abbrev _root_.cT:=@Nat.lt_of_lt_of_le
abbrev _root_.tE:=@Nat.lt_or_ge
abbrev _root_.cK:=@Nat.lt_succ_self
abbrev _root_.NV:=@Nat.min_eq_left
abbrev _root_.FC:=@Nat.mod_eq_of_lt
abbrev _root_.Tt:=@Nat.mul_pos
abbrev _root_.Od:=@Nat.pos_of_ne_zero
abbrev _root_.Gx:=@Nat.sub_self
abbrev _root_.fN:=@Nat.sub_zero
abbrev _root_.dF:=@Nat.succ_mul
abbrev _root_.IY:=@Nat.zero_mul
abbrev _root_.qC:=@Option.bind_eq_some_iff
abbrev _root_.cO:=@Option.bind_some
abbrev _root_.lU:=@Option.getD_some
abbrev _root_.Yb:=@Option.isSome_iff_exists
abbrev _root_.tD:=@Option.map_eq_none_iff
abbrev _root_.bX:=@Option.map_eq_some_iff
abbrev _root_.Ei:=@Option.map_none
abbrev _root_.aJ:=@Option.some.inj
abbrev _root_.aU:=@Option.some.injEq
abbrev _root_.bQ:=@Prod.mk.injEq
abbrev _root_.L0:=@Sum.inr.inj
abbrev _root_.vN:=@UInt8.le_iff_toNat_le
abbrev _root_.oD:=@UInt8.toNat_inj
abbrev _root_.pO:=@UInt8.toNat_ofNat'
abbrev _root_.Oc:=@and_true
abbrev _root_.eP:=@beq_eq_false_iff_ne
abbrev _root_.aG:=@cond_false
abbrev _root_.aL:=@cond_true
abbrev _root_.bD:=@congrArg
abbrev _root_.eH:=@decide_eq_decide
abbrev _root_.aO:=@decide_eq_false
abbrev _root_.bU:=@decide_eq_false_iff_not
abbrev _root_.aK:=@decide_eq_true
abbrev _root_.aV:=@decide_eq_true_eq
abbrev _root_.cX:=@if_false
abbrev _root_.aA:=@if_neg
abbrev _root_.aB:=@if_pos
abbrev _root_.fM:=@if_true
abbrev _root_.dE:=@not_true_eq_false
abbrev _root_.jI:=@of_decide_eq_false
abbrev _root_.cA:=@of_decide_eq_true
abbrev _root_.K9:=@or_false
abbrev _root_.mQ:=@List.nil_append
abbrev _root_.Bp:=@List.mem_append_left
abbrev _root_.vT:=@cK
abbrev _root_.Bo:=@FF
abbrev _root_.pR:=@Sum.elim_inl
abbrev _root_.xI:=@Bool.not_false
abbrev _root_.qN:=@IZ
abbrev _root_.Yf:=@List.singleton_append
abbrev _root_.Tu:=@List.mem_of_mem_drop
abbrev _root_.vS:=@hC
abbrev _root_.Ys:=@bH
abbrev _root_.Hb:=@List.length_map
abbrev _root_.Fq:=@List.drop_left
abbrev _root_.Bn:=@Nat.add_assoc
abbrev _root_.Ej:=@List.all_cons
abbrev _root_.Yr:=@cT
abbrev _root_.JF:=@SM
abbrev _root_.aY:=@cO
abbrev _root_.bM:=@pP
abbrev _root_.bR:=@dM
abbrev _root_.eL:=@List.length_singleton
abbrev _root_.fB:=@lL
abbrev _root_.eO:=@List.length_nil
abbrev _root_.fQ:=@List.mem_cons_self
abbrev _root_.iL:=@gD
abbrev _root_.gJ:=@List.append_assoc
abbrev _root_.fS:=@dN
abbrev _root_.dL:=@Nat.zero_le
abbrev _root_.gA:=@List.append_nil
abbrev _root_.iY:=@tH
abbrev _root_.iX:=@FD
abbrev _root_.eV:=@qD
abbrev _root_.kS:=@List.flatMap_cons
abbrev _root_.Fp:=@List.eq_nil_of_length_eq_zero
abbrev _root_.kR:=@xD
abbrev _root_.jM:=@Bool.not_true
abbrev _root_.JE:=@List.drop_drop
abbrev _root_.SR:=@Oj
abbrev _root_.ej:=@List.drop_succ_cons
abbrev _root_.TP:=@UInt8.toNat_lt
abbrev _root_.M3:=@Bool.eq_iff_iff
abbrev _root_.zbK:=@List.set_eq_take_append_cons_drop
abbrev _root_.SQ:=@aP
abbrev _root_.vd:=@Nat.add_sub_cancel_left
abbrev _root_.SP:=@Bool.or_false
abbrev _root_.Bm:=@Nat.add_zero
abbrev _root_.Ov:=@List.take_left
abbrev _root_.Ig:=@Bool.true_and
abbrev _root_.Ol:=@List.any_cons
abbrev _root_.Gz:=@Nat.zero_add
abbrev _root_.Gy:=@Nat.add_comm
abbrev _root_.SO:=@List.mem_append_right
abbrev _root_.Yp:=@Option.map_some
abbrev _root_.Yo:=@List.map_append
abbrev _root_.SN:=@List.flatMap_append
abbrev _root_.M2:=@bX
abbrev _root_.TO:=@Nat.mul_le_mul_right
abbrev _root_.M1:=@UInt8.lt_iff_toNat_lt
abbrev _root_.M0:=@List.perm_append_comm
abbrev _root_.O4:=@JC
abbrev _root_.Yd:=@Sum.elim_inr
abbrev _root_.L9:=@List.map_congr_left
def eF(F:Nat->Value)(d:Nat)(v:Value):Nat->Value:=fun t=>bif cV t d then v else F t
structure Md where
 n:Nat
 D:List Deferred
 ro:Option (Option Nat)
def fr(n:Md)(F:Nat->Value):Act:={tmps:=Array.ofFn (n:=n.n) fun i=>F i.val,defers:=n.D}
def aX(n:Md)(F:Nat->Value):Operand->Value
 |.tmp t=>bif fZ t n.n then F t else undef
 |.const v=>v
 |.global g=>.pointer (some ⟨g,0,none⟩)
 |.func f=>.func (.func f) #[] #[]
def EV(l:List Value):Nat->Value:=fun t=>l.getD t undef
abbrev cR(b:Nat):Option Addr:=some ⟨b,0,none⟩
theorem _root_.Go.aF.{u}{c:Sort u}{a b:c}(h:a=b:=by kernel_rfl):a=b:=h
theorem _root_.Go.kqF(h:p:=by first|kernel_rfl|(intro _;kernel_rfl)|decide):p:=h
theorem _root_.Go.Yj(h:p:=by constructor<;>first|exact Go.kqF|(constructor<;>first|exact Go.kqF|(constructor<;>exact Go.kqF))):p:=h
theorem GW{a:Type}{x:a}(h:none=some x):p:=nomatch h
theorem lsz(h:p:=by(try simp only [oF])<;>first|rfl|omega):p:=h
theorem lsy(h:p:=by(try simp only [oF])<;>first|rfl|omega|simp):p:=h
theorem fI{a b:Nat}(h:Nat.ble a b=true:=by rfl):a<=b:=Ys h
theorem dY(a:Nat)(h:0<a:=by omega):∃m,a=m+1:=⟨a-1,aA0⟩
theorem bJ(h:p:=by omega):p:=h
theorem oY(n:Md)(F:Nat->Value)(t:Nat):(fr n F).tmps.getD t undef=bif fZ t n.n then F t else undef:=by
 unfold fr;by_cases h:t<n.n
 ·have a:fZ t n.n=true:=by simpa [jJ] using h
  simp [h,a]
 ·have a:fZ t n.n=false:=by
   cases hx:fZ t n.n
   ·rfl
   ·exact absurd (by simpa [jJ] using hx) h
  simp [h,a]
theorem NH(n:Md)(F:Nat->Value):(fr n F).eval=aX n F:=by
 funext o;cases o with
 |tmp t=>exact oY n F t
 |const v=>rfl
 |global g=>rfl
 |func f=>rfl
theorem dj(F:Nat->Value)(d:Nat)(v:Value):eF F d v d=v:=by simp [eF]
theorem Iq(F:Nat->Value)(d:Nat)(v:Value)(t:Nat)(h:t≠d):eF F d v t=F t:=by
 have:cV t d=false:=by
  cases hx:cV t d
  ·rfl
  ·exact absurd (iL hx) h
 simp [eF,this]
theorem lE(n:Md)(F:Nat->Value)(d:Nat)(v:Value):(fr n F).put (some d) v=fr n (eF F d v):=by
 unfold fr Act.put;simp only [Act.mk.injEq,Oc];apply O3
 ·simp
 ·intro i a b;simp at a b;by_cases hid:i=d
  ·subst hid;simp [dj]
  ·rw [Array.getElem_setIfInBounds_ne aC0 (fun e=>hid e.symm)];simp [Iq _ _ _ _ hid]
theorem Ws(args:List Value)(n:Nat)(h:args.length<=n):
  ({tmps:=args.toArray++Yq (n-args.toArray.size) undef,defers:=[]}:Act)=fr ⟨n,[],none⟩ (EV args):=by
 unfold fr EV;simp only [Act.mk.injEq,Oc];apply O3
 ·simp;omega
 ·intro i c b;simp at c b;simp only [Array.getElem_append,Array.getElem_ofFn,List.getElem_toArray,Array.getElem_replicate];by_cases a:i<args.length
  ·simp [a]
  ·simp [a]
abbrev Mn(x:Option Nat):Fence:={Fence.wide with round:=x}
def WR(P:Program)(r:Option (Option Nat))(ops:Array Oper)(Q:Exit->Act->World->Prop)(l:List Oper)(a:Act)(w:World):Prop:=
 match r with
 |none=>wpList P ops Q l a w
 |some x=>wpListIn (Mn x) 0 P ops Q l a w
def CC(P:Program)(r:Option (Option Nat))(Q:Exit->Act->World->Prop)(c:Code)(a:Act)(w:World):Prop:=
 match r with
 |none=>c.wp P Q a w
 |some x=>c.wpIn (Mn x) 0 P Q a w
def W(P:Program)(n:Md)(ops:Array Oper)(Q:Exit->Act->World->Prop)(l:List Oper)(F:Nat->Value)(w:World):Prop:=WR P n.ro ops Q l (fr n F) w
def C(P:Program)(n:Md)(Q:Exit->Act->World->Prop)(c:Code)(F:Nat->Value)(w:World):Prop:=CC P n.ro Q c (fr n F) w
def Ef(P:Program)(n:Md)(y:Code)(Q:Exit->Act->World->Prop):Exit->Act->World->Prop:=Exit.then (CC P n.ro Q y) Q
def CR(P:Program)(f:FuncId)(args:List Value)(w:World)(R:Value->World->Prop):Prop:=
 Calls P f args.toArray w fun e w'=>∃v,e=.returned v/\R v w'
theorem CR.mono{P:Program}{f:FuncId}{args:List Value}{w:World}{R a:Value->World->Prop}(h:CR P f args w R)(b:∀v w',R v w'->a v w'):CR P f args w a:=
 Calls.mono h fun _ _ ⟨v,e,r⟩=>⟨v,e,b v _ r⟩
section
variable {P:Program}{n:Md}{ops:Array Oper}{Q:Exit->Act->World->Prop}{F:Nat->Value}{w:World}
variable {r:Option (Option Nat)}{c:Code}{e:Exit->Act->World->Prop}
theorem Xg{a:Act}(h:CC P r Q c a w)(b:∀s a w,Q s a w->e s a w):CC P r e c a w:=by
 cases r with
 |none=>exact wp_mono h b
 |some x=>exact wpIn_mono h b
variable {l:FuncId}{i:List Value}{R:Value->World->Prop}
theorem enter{k:Nat}{fn:Func}(d:P.funcs[l]? =some fn)(g:fn.body=some c)(a:fn.ntmps=k)(b:i.length<=k)
  (h:C P ⟨k,[],none⟩ (bodyPost P fn fun e w'=>∃v,e=.returned v/\R v w') c (EV i) w):CR P l i w R:=by
 refine calls_of_wp d g ?_;rw [a,Ws i k b];exact h
variable {y:Code}
theorem Xk(h:C P n (Ef P n y Q) c F w):C P n Q (.seq c y) F w:=by
 obtain⟨k,D,ro⟩:=n;cases ro with
 |none=>exact wp_seq h
 |some r=>exact wpIn_seq h
theorem Ng(h:Q .normal (fr n F) w):C P n Q .skip F w:=by
 obtain⟨k,D,ro⟩:=n;cases ro with
 |none=>exact wp_skip h
 |some r=>exact wpIn_skip h
variable {d:Nat}
theorem bz(h:Q .normal (fr n F) w):C P n Q (.label d) F w:=by
 obtain⟨k,D,ro⟩:=n;cases ro with
 |none=>exact wp_label h
 |some r=>exact wpIn_label h
theorem Gh(h:Q (.exit d) (fr n F) w):C P n Q (.exit d) F w:=by
 obtain⟨k,D,ro⟩:=n;cases ro with
 |none=>exact wp_exit h
 |some r=>exact wpIn_exit h
theorem Tc(h:Q .ret (fr n F) w):C P n Q .ret F w:=by
 obtain⟨k,D,ro⟩:=n;cases ro with
 |none=>exact wp_ret h
 |some r=>exact wpIn_ret h
theorem NB(h:C P n (Exit.inBlock d Q) c F w):C P n Q (.block d c) F w:=by
 obtain⟨k,D,ro⟩:=n;cases ro with
 |none=>exact wp_block h
 |some r=>exact wpIn_block h
variable {D:List Deferred}
theorem Xh(h:C P ⟨d,D,none⟩ (Exit.noGoto Q) c F w):C P ⟨d,D,none⟩ Q (.scope c) F w:=wp_scope_straight h
theorem YT(h:Q .normal (fr n F) w):Exit.noGoto Q .normal (fr n F) w:=h
theorem Rn(h:Q .ret (fr n F) w):Exit.noGoto Q .ret (fr n F) w:=h
theorem pd(h:Q (.exit d) (fr n F) w):Exit.noGoto Q (.exit d) (fr n F) w:=h
theorem IL{l:List Oper}(h:W P n l.toArray Q l F w):C P n Q (.region d l.toArray false) F w:=by
 obtain⟨k,D,ro⟩:=n;cases ro with
 |none=>exact wp_region_lit h
 |some r=>exact wpIn_region_lit h
variable {b:Operand}
theorem sQ(a:aX n F b=.bool true)(h:C P n Q c F w):C P n Q (.cond b c y) F w:=by
 obtain⟨k,D,ro⟩:=n;cases ro with
 |none=>exact wp_cond_true aG0 h
 |some r=>exact wpIn_cond_true aG0 h
theorem mE(a:aX n F b=.bool false)(h:C P n Q y F w):C P n Q (.cond b c y) F w:=by
 obtain⟨k,D,ro⟩:=n;cases ro with
 |none=>exact wp_cond_false aG0 h
 |some r=>exact wpIn_cond_false aG0 h
theorem sS{x:Operand}{b:Bool}(a:aX n F x=.bool b)(d:b=true->C P n Q c F w)(e:b=false->C P n Q y F w):C P n Q (.cond x c y) F w:=by
 cases b with
 |true=>exact sQ a (d rfl)
 |false=>exact mE a (e rfl)
variable {p:Prop}
theorem c_dec[Decidable p](d:aX n F b=.bool (decide p))(a:p->C P n Q c F w)(x:¬p->C P n Q y F w):C P n Q (.cond b c y) F w:=
 sS d (fun h=>a (cA h)) (fun h=>x (jI h))
theorem tf[Decidable p](d:aX n F b=.bool (!decide p))(a:¬p->C P n Q c F w)(x:p->C P n Q y F w):C P n Q (.cond b c y) F w:=
 sS d (fun h=>a aA9) (fun h=>x aA9)
variable {k:Nat}
theorem FK{a:List Deferred}(h:C P ⟨d,D,r⟩ Q c F w):Ef P ⟨k,a,r⟩ c Q .normal (fr ⟨d,D,r⟩ F) w:=h
variable {q:Md}
theorem Zu(h:Q .ret (fr n F) w):Ef P q c Q .ret (fr n F) w:=h
theorem Gj(h:Q (.exit d) (fr n F) w):Ef P q c Q (.exit d) (fr n F) w:=h
variable {K:Act->World->Prop}
theorem oa(h:K (fr n F) w):Exit.then K Q .normal (fr n F) w:=h
theorem jX(h:Q .ret (fr n F) w):Exit.then K Q .ret (fr n F) w:=h
theorem Ie(h:Q (.exit d) (fr n F) w):Exit.then K Q (.exit d) (fr n F) w:=h
theorem I5(h:Q .normal (fr n F) w):Exit.inBlock d Q .normal (fr n F) w:=h
theorem b_ret(h:Q .ret (fr n F) w):Exit.inBlock d Q .ret (fr n F) w:=h
theorem Gg(h:Q .normal (fr n F) w):Exit.inBlock d Q (.exit d) (fr n F) w:=by simpa [Exit.inBlock] using h
theorem I4(b:cV k d=false)(h:Q (.exit k) (fr n F) w):Exit.inBlock d Q (.exit k) (fr n F) w:=by
 have:¬k=d:=fun e=>by subst e;simp at b
 simpa [Exit.inBlock,this] using h
def mO(F:Nat->Value):List (Nat×Value)->Prop
 |[]=>True
 |(t,v)::l=>F t=v/\mO F l
def app:List (Nat×Value)->(Nat->Value)->Nat->Value
 |[],G=>G
 |(t,v)::l,G=>eF (app l G) t v
theorem lx{F:Nat->Value}{v:Value}(h:F d=v):eF F d v=F:=by
 funext s;by_cases a:s=d
 ·subst a;rw [dj,h]
 ·rw [Iq _ _ _ _ a]
theorem IK:∀(l:List (Nat×Value)) (F:Nat->Value),mO F l->app l F=F
 |[],_,_=>rfl
 |(t,v)::l,F,h=>by simp only [app];rw [IK l F h.2];exact lx h.1
theorem G6{σ:Type}(L:σ->List (Nat×Value))(wd:σ->World->Prop)(m:σ->Nat)(B:σ)(O:mO F (L B))(z:wd B w)
  (round:∀s w G,wd s w->C P n (Exit.then (fun a' w'=>∃s' y,a'=fr n y/\mO y (L s')/\wd s' w'/\m s'<m s) Q) c (app (L s) G) w):
  C P n Q (.loop c) F w:=by
 obtain⟨N,D,ro⟩:=n;cases ro with
 |none=>
  have key:∀k:Nat,∀(b:Frame) (o:List Item) (cs:List Frame) (s:σ) (F:Nat->Value) (w:World),m s=k->mO F (L s)->wd s w->
    ∃e a' w',Q e a' w'/\Arrives P (lone (b.at (fr ⟨N,D,none⟩ F) (.code c::.inLoop c::o)) cs w) b o cs e a' w':=by
   intro k;induction k using Nat.strongRecOn with
   |_ k E=>
    intro b o cs s F w J M H;have v:=round s w F H;rw [IK _ _ M]at v;obtain⟨e,f,d,h,a⟩:=v b (.inLoop c::o) cs;cases e with
    |normal=>obtain⟨s',y,rfl,u,r,t⟩:=h;obtain⟨p,q,j,i,g⟩:=E (m s') (J▸t) b o cs s' y d rfl u r;exact⟨p,q,j,i,.of_steps (Steps.trans a (.one step_inLoop)) g⟩
    |exit id=>exact⟨_,f,d,h,.pass (x:=.inLoop c) rfl (fun _ _=>.inl aA2) a⟩
    |goto l=>exact⟨_,f,d,h,.pass (x:=.inLoop c) rfl (fun _ _=>.inl aA2) a⟩
    |ret=>exact⟨_,f,d,h,.pass (x:=.inLoop c) rfl (fun _ _=>.inl aA2) a⟩
    |panic R=>exact⟨_,f,d,h,.pass (x:=.inLoop c) rfl (fun _ _=>.inl aA2) a⟩
    |outgrown=>exact⟨_,f,d,h,.pass (x:=.inLoop c) rfl (fun _ _=>.inl aA2) a⟩
  intro b o cs;obtain⟨e,a',w',h,a⟩:=key _ b o cs B F w rfl O z;exact⟨e,a',w',h,.of_steps (.one step_loop) a⟩
 |some x=>
  intro b o cs I K v;have key:∀k:Nat,∀(s:σ) (F:Nat->Value) (w:World),m s=k->mO F (L s)->wd s w->
    ∃e a' w',Q e a' w'/\ArrivesIn (Machine.fenced P (Mn x)) P (lone (b.atR (fr ⟨N,D,some x⟩ F) (.code c::.inLoop c::o)) cs w) b o cs e a' w':=by
   intro k;induction k using Nat.strongRecOn with
   |_ k E=>
    intro s F w J M H;have A:=round s w F H;rw [IK _ _ M]at A;obtain⟨e,f,d,h,a⟩:=A b (.inLoop c::o) cs I K v;cases e with
    |normal=>obtain⟨s',y,rfl,u,r,t⟩:=h;obtain⟨p,q,j,i,g⟩:=E (m s') (J▸t) s' y d rfl u r;exact⟨p,q,j,i,.of_steps (StepsIn.trans a (.one (fenced_calm K v rfl) stepR_inLoop)) g⟩
    |exit id=>exact⟨_,f,d,h,.pass (x:=.inLoop c) rfl (fun _ _=>.inl aA2) a⟩
    |goto l=>exact⟨_,f,d,h,.pass (x:=.inLoop c) rfl (fun _ _=>.inl aA2) a⟩
    |ret=>exact⟨_,f,d,h,.pass (x:=.inLoop c) rfl (fun _ _=>.inl aA2) a⟩
    |panic R=>exact⟨_,f,d,h,.pass (x:=.inLoop c) rfl (fun _ _=>.inl aA2) a⟩
    |outgrown=>exact⟨_,f,d,h,.pass (x:=.inLoop c) rfl (fun _ _=>.inl aA2) a⟩
  obtain⟨e,a',w',h,a⟩:=key _ B F w rfl O z;exact⟨e,a',w',h,.of_steps (.one (fenced_calm K v rfl) stepR_loop) a⟩
theorem Xi(h:C P n Q c F w)(b:∀s a w,Q s a w->e s a w):C P n e c F w:=Xg h b
def zP(a:List Nat)(A G:Nat->Value):Nat->Value:=fun t=>bif a.any (cV t)then A t else G t
theorem ZL{A:Nat->Value}:∀{a:List Nat} {F:Nat->Value},a.map F=a.map A->zP a A F=F:=by
 intro a F h;funext t;unfold zP;cases b:a.any (cV t)with
 |false=>rfl
 |true=>obtain⟨x,hx,c⟩:=eI.1 b;have:=iL c;subst this;exact((List.map_inj_left.1 h) t hx).symm
theorem cut{σ:Type}(x:List Nat)(L:σ->List (Nat×Value))(wd:σ->World->Prop)
  (hx:C P n (Exit.then (fun a' w'=>∃s' b,a'=fr n b/\x.map b=x.map (app (L s') F)/\wd s' w') Q) c F w)
  (d:∀s w G,wd s w->C P n Q y (zP x (app (L s) F) G) w):C P n Q (.seq c y) F w:=by
 refine Xk (Xg hx fun e a w' h=> ?_);cases e with
 |normal=>obtain⟨s',b,rfl,g,f⟩:=h;have:=d s' w' b f;rw [ZL g]at this;exact this
 |exit id=>exact h
 |goto l=>exact h
 |ret=>exact h
 |panic i=>exact h
 |outgrown=>exact h
theorem LI{σ:Type}(b:List Nat)(L:σ->List (Nat×Value))(wd:σ->World->Prop)(m:σ->Nat)(g:σ)(j:wd g w)
  (round:∀s w G,wd s w->C P n (Exit.then (fun a' w'=>∃s' f,a'=fr n f/\b.map f=b.map (app (L s') F)/\wd s' w'/\m s'<m s) Q) c (zP b (app (L s) F) G) w)
  (x:b.map F=b.map (app (L g) F):=by kernel_rfl):C P n Q (.loop c) F w:=by
 have k:∀(A:Nat->Value) (l:List Nat) (G:Nat->Value),mO G (l.map fun t=>(t,A t))↔l.map G=l.map A:=by
  intro A l G;induction l with
  |nil=>simp [mO]
  |cons t l i=>simp [mO,i]
 have ap:∀(A:Nat->Value) (l:List Nat) (G:Nat->Value),app (l.map fun t=>(t,A t)) G=zP l A G:=by
  intro A l G;induction l with
  |nil=>rfl
  |cons t l i=>
   funext u;simp only [vS,app,eF,i,zP,Ol];by_cases d:u=t
   ·subst d;simp
   ·have:cV u t=false:=by
     cases hx:cV u t
     ·rfl
     ·exact absurd (iL hx) d
    simp [this]
 refine G6 (σ:=σ) (fun s=>b.map fun t=>(t,app (L s) F t)) wd m g ((k _ _ _).2 x) j fun s w G o=> ?_;rw [ap];refine Xg (round s w G o) fun e a w' h=> ?_;cases e with
 |normal=>obtain⟨s',f,v,r,q,p⟩:=h;exact⟨s',f,v,(k _ _ _).2 r,q,p⟩
 |exit id=>exact h
 |goto l=>exact h
 |ret=>exact h
 |panic y=>exact h
 |outgrown=>exact h
theorem kM(h:Q .normal (fr n F) w):W P n ops Q [] F w:=by
 obtain⟨k,D,ro⟩:=n;cases ro with
 |none=>exact h
 |some r=>exact h
variable {o:Oper}
theorem tP{ρ:Operand->Value}{x:Next}{w':World}(ro:Option Nat)(h:(execOp ρ o).run P w=.ok x w')(hx:∀d,x≠.defer d):o.semAt ro ρ=execOp ρ o:=by
 refine Oper.semAt_eq ro ρ o fun c e=> ?_;unfold execOp at h;rw [e]at h;simp only [Sem.run_bind]at h;cases a:(resolve ρ c o.type).run P w with
 |ok d b=>rw [a]at h;simp [Result.andThen]at h;exact hx d h.1.symm
 |halt d b=>rw [a]at h;simp [Result.andThen]at h
variable {a:List Oper}
theorem gM{v:Value}{w':World}(c:o.guard=none)(f:o.dst=some d)
  (s:(execOp (aX n F) o).run P w=.ok (.value v) w') (h:W P n ops Q a (eF F d v) w'):W P n ops Q (o::a) F w:=by
 obtain⟨k,D,ro⟩:=n;cases ro with
 |none=>refine wpList_plain c fun K b=> ?_;unfold Oper.wp;rw [NH,s,Oper.upon_value,f];refine b _ _ ?_;rw [lE];exact h
 |some r=>refine wpListIn_plain c fun K b=>⟨fun _ _=>trivial, ?_⟩;rw [NH,tP _ s (fun d e=>by cases e),s,Oper.uponIn_value,f];refine b _ _ ?_;rw [lE];exact h
theorem vV{w':World}(c:o.guard=none)(f:o.dst=none)
  (s:(execOp (aX n F) o).run P w=.ok .skip w') (h:W P n ops Q a F w'):W P n ops Q (o::a) F w:=by
 obtain⟨k,D,ro⟩:=n;cases ro with
 |none=>refine wpList_plain c fun K b=> ?_;unfold Oper.wp;rw [NH,s,Oper.upon_skip,f];exact b _ _ h
 |some r=>refine wpListIn_plain c fun K b=>⟨fun _ _=>trivial, ?_⟩;rw [NH,tP _ s (fun d e=>by cases e),s,Oper.uponIn_skip,f];exact b _ _ h
theorem JN(g:o.guard=none)
  (f:(execOp (aX n F) o).run P w=.ok (.enter l i.toArray) w) (s:CR P l i w R) (h:∀v w',R v w'->WR P n.ro ops Q a ((fr n F).put o.dst v) w'):W P n ops Q (o::a) F w:=by
 obtain⟨k,D,ro⟩:=n;cases ro with
 |none=>refine wpList_plain g fun K c=> ?_;unfold Oper.wp;rw [NH,f,Oper.upon_enter];refine Calls.mono s ?_;rintro e w' ⟨v,rfl,b⟩;exact c _ _ (h v w' b)
 |some r=>refine wpListIn_plain g fun K c=>⟨fun _ _=>trivial, ?_⟩;rw [NH,tP _ f (fun d e=>by cases e),f,Oper.uponIn_enter];refine⟨fun h=>absurd h Bool.false_ne_true, ?_⟩;refine(callsIn_wide (n:=0)).2 (Calls.mono s ?_);rintro e w' ⟨v,rfl,b⟩;exact c _ _ (h v w' b)
theorem vv(ops:Array Oper)(g:Nat)(dg:Nat)(d:(ops[g]?).bind (·.dst)=some dg)(c:fZ dg n.n=true):
  yielded ops (fr n F).tmps g=match F dg with|.bool b=>some b|_=>none:=by
 have a:dg<n.n:=by simpa [jJ] using c
 unfold yielded;simp [d,fr,a];cases F dg<;>rfl
variable {m:Op}{g:TypeId}{h:String}{f:Array Edge}{j:Bool}
theorem FY{u:Option Nat}(dg:Nat)
  (t:(ops[d]?).bind (·.dst)=some dg) (e:fZ dg n.n=true) (b:F dg=.bool j)
  (s:W P n ops Q (⟨u,m,g,h,f,none⟩::a) F w):W P n ops Q (⟨u,m,g,h,f,some (d,j)⟩::a) F w:=by
 have c:Region.wanted ⟨u,m,g,h,f,some (d,j)⟩ (yielded ops (fr n F).tmps)=true:=by unfold Region.wanted;simp only [vv ops d dg t e,b];simp
 obtain⟨k,D,ro⟩:=n;cases ro with
 |none=>simp only [W,WR]at s⊢;unfold wpList at s⊢;rw [aB c];rw [aB (by simp [Region.wanted])]at s;exact s
 |some r=>simp only [W,WR]at s⊢;unfold wpListIn at s⊢;rw [aB c];rw [aB (by simp [Region.wanted])]at s;exact s
theorem fm(dg:Nat)
  (s:(ops[k]?).bind (·.dst)=some dg) (e:fZ dg n.n=true) (c:F dg=.bool (!j))
  (b:W P n ops Q a (eF F d undef) w):W P n ops Q (⟨some d,m,g,h,f,some (k,j)⟩::a) F w:=by
 have t:¬Region.wanted ⟨some d,m,g,h,f,some (k,j)⟩ (yielded ops (fr n F).tmps)=true:=by unfold Region.wanted;simp only [vv ops k dg s e,c];simp
 obtain⟨u,D,ro⟩:=n;cases ro with
 |none=>simp only [W,WR]at b⊢;unfold wpList;rw [aA t];show wpList P ops Q a ((fr ⟨u,D,none⟩ F).put (some d) undef) w;rw [lE];exact b
 |some r=>simp only [W,WR]at b⊢;unfold wpListIn;rw [aA t];refine⟨fun _ _=>trivial, ?_⟩;show wpListIn (Mn r) 0 P ops Q a ((fr ⟨u,D,some r⟩ F).put (some d) undef) w;rw [lE];exact b
theorem fk(dg:Nat)
  (s:(ops[k]?).bind (·.dst)=some dg) (e:fZ dg n.n=true) (c:F dg=undef)
  (b:W P n ops Q a (eF F d undef) w):W P n ops Q (⟨some d,m,g,h,f,some (k,j)⟩::a) F w:=by
 have t:¬Region.wanted ⟨some d,m,g,h,f,some (k,j)⟩ (yielded ops (fr n F).tmps)=true:=by unfold Region.wanted;simp only [vv ops k dg s e,c];simp [undef]
 obtain⟨u,D,ro⟩:=n;cases ro with
 |none=>simp only [W,WR]at b⊢;unfold wpList;rw [aA t];show wpList P ops Q a ((fr ⟨u,D,none⟩ F).put (some d) undef) w;rw [lE];exact b
 |some r=>simp only [W,WR]at b⊢;unfold wpListIn;rw [aA t];refine⟨fun _ _=>trivial, ?_⟩;show wpListIn (Mn r) 0 P ops Q a ((fr ⟨u,D,some r⟩ F).put (some d) undef) w;rw [lE];exact b
section
variable {d:Nat}{ty:TypeId}{pos:String}{after:Array Edge}{rest:List Oper}
variable {x:Operand}
theorem jY(v:Value)(hx:aX n F x=v)(h:W P n ops Q rest (eF F d v) w):W P n ops Q (⟨some d,.move x,ty,pos,after,none⟩::rest) F w:=
 gM rfl rfl (by rw [<-hx];rfl) h
theorem mR(v:Value)(hx:aX n F x=v)(h:W P n ops Q rest (eF F d v) w):W P n ops Q (⟨some d,.assign x,ty,pos,after,none⟩::rest) F w:=
 gM rfl rfl (by rw [<-hx];rfl) h
theorem qU(b:Bool)(hx:aX n F x=.bool b)(a:b=true->W P n ops Q rest (eF F d (.bool true)) w)(c:b=false->W P n ops Q rest (eF F d (.bool false)) w):
  W P n ops Q (⟨some d,.move x,ty,pos,after,none⟩::rest) F w:=by
 cases b with
 |true=>exact jY _ hx (a rfl)
 |false=>exact jY _ hx (c rfl)
theorem FX(p:Prop)[Decidable p](hx:aX n F x=.bool (decide p))(a:p->W P n ops Q rest (eF F d (.bool true)) w)(b:¬p->W P n ops Q rest (eF F d (.bool false)) w):
  W P n ops Q (⟨some d,.move x,ty,pos,after,none⟩::rest) F w:=
 qU _ hx (fun h=>a (cA h)) (fun h=>b (jI h))
theorem Yx(p:Prop)[Decidable p](hx:aX n F x=.bool (!decide p))(a:¬p->W P n ops Q rest (eF F d (.bool true)) w)(b:p->W P n ops Q rest (eF F d (.bool false)) w):
  W P n ops Q (⟨some d,.move x,ty,pos,after,none⟩::rest) F w:=
 qU _ hx (fun h=>a aA9) (fun h=>b aA9)
variable {y:Operand}
theorem TW{b:Operand}(t:Bool)(v:Value)(f:aX n F x=.bool t)(e:(bif t then aX n F y else aX n F b)=v):(execOp (aX n F) (⟨some d,.pick x y b,ty,pos,after,none⟩:Oper)).run P w=.ok (.value v) w:=by simp only [execOp,f];rw [<-e];cases t<;>rfl
variable {t:TypeId}
theorem TX(b:Bool)(hx:aX n F x=.bool b):(execOp (aX n F) (⟨some d,.unOp .not t x,ty,pos,after,none⟩:Oper)).run P w=.ok (.value (.bool (!b))) w:=by simp only [execOp,hx];rfl
theorem kx(b:Bool)(hx:aX n F x=.bool (!b)):(execOp (aX n F) (⟨some d,.unOp .not t x,ty,pos,after,none⟩:Oper)).run P w=.ok (.value (.bool b)) w:=by simp only [execOp,hx];cases b<;>rfl
structure bZ (a:Int):Prop where
 lo: -9223372036854775808<=a
 hi:a<=9223372036854775807
theorem vq{x:Int}(b: -9223372036854775808<=x)(a:x<=9223372036854775807):IntKind.i64.wrap x=x:=by rw [IntKind.wrap_i64];omega
variable {a:TypeId}
theorem UI(k:IntKind)(e b:Int)(hx:aX n F x=.int k e)(c:aX n F y=.int k b):(execOp (aX n F) (⟨some d,.binOp .add t x y a,ty,pos,after,none⟩:Oper)).run P w=.ok (.value (.int k (k.wrap (e+b)))) w:=by simp only [execOp,hx,c,binOp,ne_eq,dE,cX];rfl
theorem Hd(f b:Int)(hx:aX n F x=.int .i64 f)(e:aX n F y=.int .i64 b)(c:bZ (f+b)):(execOp (aX n F) (⟨some d,.binOp .add t x y a,ty,pos,after,none⟩:Oper)).run P w=.ok (.value (.int .i64 (f+b))) w:=by rw [UI .i64 f b hx e,vq c.1 c.2]
theorem xL(f b:Int)(hx:aX n F x=.int .i64 f)(c:aX n F y=.int .i64 b)(e:bZ (f+b))(h:W P n ops Q rest (eF F d (.int .i64 (f+b))) w):W P n ops Q (⟨some d,.binOp .add t x y a,ty,pos,after,none⟩::rest) F w:=
 gM rfl rfl (Hd f b hx c e) h
theorem TT(k:IntKind)(e b:Int)(hx:aX n F x=.int k e)(c:aX n F y=.int k b):(execOp (aX n F) (⟨some d,.binOp .sub t x y a,ty,pos,after,none⟩:Oper)).run P w=.ok (.value (.int k (k.wrap (e-b)))) w:=by simp only [execOp,hx,c,binOp,ne_eq,dE,cX];rfl
theorem tI(f b:Int)(hx:aX n F x=.int .i64 f)(e:aX n F y=.int .i64 b)(c:bZ (f-b)):(execOp (aX n F) (⟨some d,.binOp .sub t x y a,ty,pos,after,none⟩:Oper)).run P w=.ok (.value (.int .i64 (f-b))) w:=by rw [TT .i64 f b hx e,vq c.1 c.2]
theorem xR(f b:Int)(hx:aX n F x=.int .i64 f)(c:aX n F y=.int .i64 b)(e:bZ (f-b))(h:W P n ops Q rest (eF F d (.int .i64 (f-b))) w):W P n ops Q (⟨some d,.binOp .sub t x y a,ty,pos,after,none⟩::rest) F w:=
 gM rfl rfl (tI f b hx c e) h
theorem TZ(k:IntKind)(e b:Int)(hx:aX n F x=.int k e)(c:aX n F y=.int k b):(execOp (aX n F) (⟨some d,.binOp .mul t x y a,ty,pos,after,none⟩:Oper)).run P w=.ok (.value (.int k (k.wrap (e*b)))) w:=by simp only [execOp,hx,c,binOp,ne_eq,dE,cX];rfl
theorem O5(f b:Int)(hx:aX n F x=.int .i64 f)(e:aX n F y=.int .i64 b)(c:bZ (f*b)):(execOp (aX n F) (⟨some d,.binOp .mul t x y a,ty,pos,after,none⟩:Oper)).run P w=.ok (.value (.int .i64 (f*b))) w:=by rw [TZ .i64 f b hx e,vq c.1 c.2]
theorem UA(k:IntKind)(e b:Int)(hx:aX n F x=.int k e)(c:aX n F y=.int k b):(execOp (aX n F) (⟨some d,.binOp .lss t x y a,ty,pos,after,none⟩:Oper)).run P w=.ok (.value (.bool (decide (e<b)))) w:=by simp only [execOp,hx,c,binOp,ne_eq,dE,cX];rfl
theorem UB(k:IntKind)(e b:Int)(hx:aX n F x=.int k e)(c:aX n F y=.int k b):(execOp (aX n F) (⟨some d,.binOp .leq t x y a,ty,pos,after,none⟩:Oper)).run P w=.ok (.value (.bool (decide (e<=b)))) w:=by simp only [execOp,hx,c,binOp,ne_eq,dE,cX];rfl
theorem UE(k:IntKind)(e b:Int)(hx:aX n F x=.int k e)(c:aX n F y=.int k b):(execOp (aX n F) (⟨some d,.binOp .gtr t x y a,ty,pos,after,none⟩:Oper)).run P w=.ok (.value (.bool (decide (b<e)))) w:=by simp only [execOp,hx,c,binOp,ne_eq,dE,cX];rfl
theorem UF(k:IntKind)(e b:Int)(hx:aX n F x=.int k e)(c:aX n F y=.int k b):(execOp (aX n F) (⟨some d,.binOp .geq t x y a,ty,pos,after,none⟩:Oper)).run P w=.ok (.value (.bool (decide (b<=e)))) w:=by simp only [execOp,hx,c,binOp,ne_eq,dE,cX];rfl
theorem UG(k:IntKind)(e b:Int)(hx:aX n F x=.int k e)(c:aX n F y=.int k b):(execOp (aX n F) (⟨some d,.binOp .eql t x y a,ty,pos,after,none⟩:Oper)).run P w=.ok (.value (.bool (decide (e=b)))) w:=by simp only [execOp,hx,c,binOp,ne_eq,dE,cX];rfl
theorem TY(k:IntKind)(e b:Int)(hx:aX n F x=.int k e)(c:aX n F y=.int k b):(execOp (aX n F) (⟨some d,.binOp .neq t x y a,ty,pos,after,none⟩:Oper)).run P w=.ok (.value (.bool (!decide (e=b)))) w:=by simp only [execOp,hx,c,binOp,ne_eq,dE,cX];rfl
end
end
attribute [irreducible] W C Ef WR CC
def at_(l:List UInt8)(i:Int):UInt8:=l.getD i.toNat 0
def sub(l:List UInt8)(i j:Int):List UInt8:=(l.drop i.toNat).take (j.toNat-i.toNat)
theorem II(l:List UInt8)(k:Nat):at_ l (k:Int)=l.getD k 0:=rfl
end Go.Wk
set_option linter.unusedSimpArgs false
namespace Go.Wk
open Go.Op renaming bytesLess → uH
open Nat renaming blt → fZ
def str(l:List UInt8):Value:=.string ⟨l.toArray⟩
def bt(c:UInt8):Value:=.int .u8 (c.toNat:Int)
def Enters(P : Program)(f : FuncId) : Prop := ∃ fn c, P.funcs[f]? = some fn /\ fn.body = some c /\ (fn.name == "runtime.NumGoroutine") = false
theorem Enters.run{P:Program}{f:FuncId}(h:Enters P f)(args:Array Value)(w:World):(callFunc f args).run P w=.ok (.enter f args) w:=by obtain⟨fn,c,d,b,a⟩:=h;unfold callFunc;show Sem.run P (match P.funcs[f]? with|none=>_|some fn=>_) w=_;rw [d];simp only [a,b];rfl
section
variable {P:Program}{n:Md}{ops:Array Oper}{Q:Exit->Act->World->Prop}{F:Nat->Value}{w:World}
variable {c:Nat}{a:Option (Option Nat)}{b:Func}{R:Value->World->Prop}{t:Nat}
theorem rG(v:Value)(d:b.results= #[.tmp t])(f:aX ⟨c,[],a⟩ F (.tmp t)=v)(h:R v w):
  bodyPost P b (fun e w'=>∃v,e=.returned v/\R v w') .ret (fr ⟨c,[],a⟩ F) w:=
 ⟨rfl,v,by rw [results_tmp d,oY];exact bD (fun x=>Result.ok x w) f,v,rfl,h⟩
theorem wD(d:b.results= #[])(h:R (.tuple #[]) w):
  bodyPost P b (fun e w'=>∃v,e=.returned v/\R v w') .ret (fr ⟨c,[],a⟩ F) w:=
 ⟨rfl,_,results_none d _ _ _,_,rfl,h⟩
theorem tR(d:b.results= #[])(h:R (.tuple #[]) w):
  bodyPost P b (fun e w'=>∃v,e=.returned v/\R v w') .normal (fr ⟨c,[],a⟩ F) w:=
 ⟨rfl,_,results_none d _ _ _,_,rfl,h⟩
theorem Qt{u:Nat}(v k:Value)(d:b.results= #[.tmp t,.tmp u])(j:aX ⟨c,[],a⟩ F (.tmp t)=v)(i:aX ⟨c,[],a⟩ F (.tmp u)=k)(h:R (.tuple #[v,k]) w):
  bodyPost P b (fun e w'=>∃v,e=.returned v/\R v w') .ret (fr ⟨c,[],a⟩ F) w:=by
 refine⟨rfl,_, ?_,_,rfl,h⟩;rw [results_tmp2 d,oY,oY];have g:(bif fZ t c then F t else undef)=v:=j;have f:(bif fZ u c then F u else undef)=k:=i;rw [g,f]
theorem cy{u s:Nat}(v m o:Value)(g:b.results= #[.tmp t,.tmp u,.tmp s])(f:aX ⟨c,[],a⟩ F (.tmp t)=v)(d:aX ⟨c,[],a⟩ F (.tmp u)=m)(l:aX ⟨c,[],a⟩ F (.tmp s)=o)
  (h:R (.tuple #[v,m,o]) w):bodyPost P b (fun e w'=>∃v,e=.returned v/\R v w') .ret (fr ⟨c,[],a⟩ F) w:=by
 refine⟨rfl,_, ?_,_,rfl,h⟩;have k:(bif fZ t c then F t else undef)=v:=f;have j:(bif fZ u c then F u else undef)=m:=d;have i:(bif fZ s c then F s else undef)=o:=l;simp [results,g,oY,k,j,i,-Array.getD_eq_getD_getElem?]
section
variable {d:Nat}{ty:TypeId}{pos:String}{after:Array Edge}{rest:List Oper}
variable {x:Operand}{b:Array Operand}{c:Array TypeId}
theorem pL(f:FuncId)(cap:Array Value)(vs:List Value)(R:Value->World->Prop)(j:Enters P f)
  (e:aX n F x=.func (.func f) #[] cap) (i: #[]++b.map (aX n F)++cap=vs.toArray) (g:CR P f vs w R) (h:∀v w',R v w'->W P n ops Q rest (eF F d v) w'):
  W P n ops Q (⟨some d,.call ⟨.value x,b,c⟩,ty,pos,after,none⟩::rest) F w:=by
 refine JN rfl ?_ g (fun v w' a=> ?_)
 ·simp only [execOp,resolve,e,Deferred.ofValue];show Sem.run P (callFunc f (#[]++b.map (aX n F)++cap)) w=_;rw [i];exact j.run _ _
 ·have:=h v w' a;unfold W at this;rw [<-lE]at this;exact this
theorem P7(f:FuncId)(cap:Array Value)(vs:List Value)(R:Value->World->Prop)(i:Enters P f)
  (d:aX n F x=.func (.func f) #[] cap) (g: #[]++b.map (aX n F)++cap=vs.toArray) (e:CR P f vs w R) (h:∀v w',R v w'->W P n ops Q rest F w'):
  W P n ops Q (⟨none,.call ⟨.value x,b,c⟩,ty,pos,after,none⟩::rest) F w:=by
 refine JN rfl ?_ e (fun v w' a=> ?_)
 ·simp only [execOp,resolve,d,Deferred.ofValue];show Sem.run P (callFunc f (#[]++b.map (aX n F)++cap)) w=_;rw [g];exact i.run _ _
 ·have:=h v w' a;unfold W at this;exact this
variable {y:Operand}
theorem ez(k:IntKind)(a b:Int)(hx:aX n F x=.int k a)(f:aX n F y=.int k b):(execOp (aX n F) (⟨some d,.call ⟨.builtin .min, #[x,y],c⟩,ty,pos,after,none⟩:Oper)).run P w=.ok (.value (.int k (min a b))) w:=by
 have e:(execOp (aX n F) (⟨some d,.call ⟨.builtin .min, #[x,y],c⟩,ty,pos,after,none⟩:Oper)).run P w=.ok (.value (.int k (if b<a then b else a))) w:=by simp only [execOp,resolve,List.map_toArray,vS,eE,hx,f];rfl
 rw [e];congr 3;split<;>omega
theorem yz(k:IntKind)(a b:Int)(hx:aX n F x=.int k a)(e:aX n F y=.int k b)(h:W P n ops Q rest (eF F d (.int k (min a b))) w):W P n ops Q (⟨some d,.call ⟨.builtin .min, #[x,y],c⟩,ty,pos,after,none⟩::rest) F w:=
 gM rfl rfl (ez k a b hx e) h
theorem fa(k:IntKind)(a b:Int)(hx:aX n F x=.int k a)(f:aX n F y=.int k b):(execOp (aX n F) (⟨some d,.call ⟨.builtin .max, #[x,y],c⟩,ty,pos,after,none⟩:Oper)).run P w=.ok (.value (.int k (max a b))) w:=by
 have e:(execOp (aX n F) (⟨some d,.call ⟨.builtin .max, #[x,y],c⟩,ty,pos,after,none⟩:Oper)).run P w=.ok (.value (.int k (if a<b then b else a))) w:=by simp only [execOp,resolve,List.map_toArray,vS,eE,hx,f];rfl
 rw [e];congr 3;split<;>omega
theorem za(k:IntKind)(a b:Int)(hx:aX n F x=.int k a)(e:aX n F y=.int k b)(h:W P n ops Q rest (eF F d (.int k (max a b))) w):W P n ops Q (⟨some d,.call ⟨.builtin .max, #[x,y],c⟩,ty,pos,after,none⟩::rest) F w:=
 gM rfl rfl (fa k a b hx e) h
variable {t:TypeId}
theorem fc(l:List UInt8)(a:P.underlying t=some .string)(hx:aX n F x=str l):(execOp (aX n F) (⟨some d,.call ⟨.builtin .len, #[x], #[t]⟩,ty,pos,after,none⟩:Oper)).run P w=.ok (.value (.int .i64 (l.length:Int))) w:=by simp [execOp,resolve,invoke,builtin,hx,str,run_len_string _ _ _ _ a,goInt];rfl
variable {a:TypeId}
theorem JJ(f b:List UInt8)(hx:aX n F x=str f)(c:aX n F y=str b):(execOp (aX n F) (⟨some d,.binOp .eql t x y a,ty,pos,after,none⟩:Oper)).run P w=.ok (.value (.bool (decide (f=b)))) w:=by
 have e:(f==b)=decide (f=b):=by rw [M3];simp
 simp [execOp,hx,c,str,eqGuard,binOp_string_eql,e]
theorem JG(f b:List UInt8)(hx:aX n F x=str f)(c:aX n F y=str b):(execOp (aX n F) (⟨some d,.binOp .neq t x y a,ty,pos,after,none⟩:Oper)).run P w=.ok (.value (.bool (!decide (f=b)))) w:=by
 have e:(f==b)=decide (f=b):=by rw [M3];simp
 simp [execOp,hx,c,str,eqGuard,binOp_string_neq,e]
theorem JH(e b:List UInt8)(hx:aX n F x=str e)(c:aX n F y=str b):(execOp (aX n F) (⟨some d,.binOp .lss t x y a,ty,pos,after,none⟩:Oper)).run P w=.ok (.value (.bool (uH e b))) w:=by simp [execOp,hx,c,str,eqGuard,binOp_string_lss]
theorem JI(e b:List UInt8)(hx:aX n F x=str e)(c:aX n F y=str b):(execOp (aX n F) (⟨some d,.binOp .gtr t x y a,ty,pos,after,none⟩:Oper)).run P w=.ok (.value (.bool (!(uH e b||e==b)))) w:=by simp [execOp,hx,c,str,eqGuard,binOp,Op.stringOp]
theorem Yt(f b:List UInt8)(hx:aX n F x=str f)(e:aX n F y=str b)(c:f.length+b.length<=9223372036854775807)
  :(execOp (aX n F) (⟨some d,.binOp .add t x y a,ty,pos,after,none⟩:Oper)).run P w=.ok (.value (str (f++b))) w:=by
 simp [execOp,hx,e,str,eqGuard,binOp_string_add,run_string_add_sum (P:=P) w ⟨f.toArray⟩ ⟨b.toArray⟩ c,ByteArray.mk_append_mk]
theorem J4(f b:List UInt8)(hx:aX n F x=str f)(e:aX n F y=str b)(c:f.length+b.length<=9223372036854775807)
  (h:W P n ops Q rest (eF F d (str (f++b))) w):W P n ops Q (⟨some d,.binOp .add t x y a,ty,pos,after,none⟩::rest) F w:=
 gM rfl rfl (Yt f b hx e c) h
theorem oL(l:List UInt8)(k:IntKind)(i:Int)(c:P.underlying t=some .string)(hx:aX n F x=str l)(g:aX n F y=.int k i)
  (h:0<=i/\i<(l.length:Int)):(execOp (aX n F) (⟨some d,.index t x y,ty,pos,after,none⟩:Oper)).run P w=.ok (.value (bt (at_ l i))) w:=by
 have a:0<=i/\i<(⟨l.toArray⟩:ByteArray).size:=h;have f:i.toNat<l.length:=aA0;have e:=run_index_string (P:=P) w t ⟨l.toArray⟩ k i c;rw [dif_pos a]at e;simp only [execOp,hx,g,str,Sem.run_bind,e,Result.andThen_ok];show Result.ok (Next.value (.int .u8 ((l[i.toNat]).toNat:Int))) w=_;simp [bt,at_,f]
theorem tK(l:List UInt8)(k:IntKind)(i:Int)(b:P.underlying t=some .string)(hx:aX n F x=str l)(c:aX n F y=.int k i)
  (e:0<=i/\i<(l.length:Int)) (h:W P n ops Q rest (eF F d (bt (at_ l i))) w):W P n ops Q (⟨some d,.index t x y,ty,pos,after,none⟩::rest) F w:=
 gM rfl rfl (oL l k i b hx c e) h
theorem JK{h:Operand}(l:List UInt8)(k k':IntKind)(i j:Int)(g:P.underlying t=some .string)(hx:aX n F x=str l)(a:aX n F y=.int k i)(b:aX n F h=.int k' j)
  (c:0<=i/\i<=j/\j<=(l.length:Int)):(execOp (aX n F) (⟨some d,.slice t x (some y) (some h) none,ty,pos,after,none⟩:Oper)).run P w=.ok (.value (str (sub l i j))) w:=by
 have e:=run_slice_string (P:=P) w t ⟨l.toArray⟩ k k' i j g c.1 c.2.1 c.2.2;simp only [execOp,hx,a,b,str,Sem.run_bind,Yp,Ei,run_sliceAt_string w t _ _ _ _ g,e,Result.andThen_ok,ByteArray.extract_mk];rfl
theorem JL{e:Operand}(l:List UInt8)(k k':IntKind)(i j:Int)(f:P.underlying t=some .string)(hx:aX n F x=str l)(a:aX n F y=.int k i)(b:aX n F e=.int k' j)
  (g:0<=i/\i<=j/\j<=(l.length:Int)) (h:W P n ops Q rest (eF F d (str (sub l i j))) w):W P n ops Q (⟨some d,.slice t x (some y) (some e) none,ty,pos,after,none⟩::rest) F w:=
 gM rfl rfl (JK l k k' i j f hx a b g) h
theorem oJ{t:TypeId}(l:List UInt8)(k:IntKind)(i:Int)(c:P.underlying t=some .string)(hx:aX n F x=str l)(a:aX n F y=.int k i)
  (f:0<=i/\i<=(l.length:Int)):(execOp (aX n F) (⟨some d,.slice t x (some y) none none,ty,pos,after,none⟩:Oper)).run P w=.ok (.value (str (l.drop i.toNat))) w:=by
 have e:=run_slice_string_l (P:=P) (w:=w) (t:=t) (s:=⟨l.toArray⟩) c k i f.1 f.2;simp only [execOp,hx,a,str,Sem.run_bind,Yp,Ei,run_sliceAt_string w t _ _ _ _ c,e,Result.andThen_ok,ByteArray.extract_mk];have g:(l.drop i.toNat).take ((⟨l.toArray⟩:ByteArray).size-i.toNat)=l.drop i.toNat:=tF (by show(l.drop i.toNat).length<=l.length-i.toNat;simp);rw [g];rfl
theorem we(l:List UInt8)(k:IntKind)(i:Int)(c:P.underlying t=some .string)(hx:aX n F x=str l)(a:aX n F y=.int k i)
  (e:0<=i/\i<=(l.length:Int)) (h:W P n ops Q rest (eF F d (str (l.drop i.toNat))) w):W P n ops Q (⟨some d,.slice t x (some y) none none,ty,pos,after,none⟩::rest) F w:=
 gM rfl rfl (oJ l k i c hx a e) h
theorem Ii{t:TypeId}(l:List UInt8)(k:IntKind)(j:Int)(b:P.underlying t=some .string)(hx:aX n F x=str l)(a:aX n F y=.int k j)
  (f:0<=j/\j<=(l.length:Int)):(execOp (aX n F) (⟨some d,.slice t x none (some y) none,ty,pos,after,none⟩:Oper)).run P w=.ok (.value (str (l.take j.toNat))) w:=by
 have e:=run_slice_string_h (P:=P) (w:=w) (t:=t) (s:=⟨l.toArray⟩) b k j f.1 f.2;simp only [execOp,hx,a,str,Sem.run_bind,Yp,Ei,run_sliceAt_string w t _ _ _ _ b,e,Result.andThen_ok,ByteArray.extract_mk,SR,fN];rfl
theorem Io(l:List UInt8)(k:IntKind)(j:Int)(c:P.underlying t=some .string)(hx:aX n F x=str l)(a:aX n F y=.int k j)
  (e:0<=j/\j<=(l.length:Int)) (h:W P n ops Q rest (eF F d (str (l.take j.toNat))) w):W P n ops Q (⟨some d,.slice t x none (some y) none,ty,pos,after,none⟩::rest) F w:=
 gM rfl rfl (Ii l k j c hx a e) h
theorem FV(k k':IntKind)(s:Int)(c:P.underlying t=some (.int k'))(b:P.underlying a=some (.int k))(hx:aX n F x=.int k' s):(execOp (aX n F) (⟨some d,.convert t a x,ty,pos,after,none⟩:Oper)).run P w=.ok (.value (.int k (k.wrap s))) w:=by simp [execOp,hx,convert,run_underlying c,run_underlying b,Conv.intToInt]
theorem tJ(k k':IntKind)(s:Int)(e:P.underlying t=some (.int k'))(c:P.underlying a=some (.int k))(hx:aX n F x=.int k' s)(b:k.wrap s=s):(execOp (aX n F) (⟨some d,.convert t a x,ty,pos,after,none⟩:Oper)).run P w=.ok (.value (.int k s)) w:=by rw [FV k k' s e c hx,b]
theorem P5(k k':IntKind)(s:Int)(e:P.underlying t=some (.int k'))(c:P.underlying a=some (.int k))(hx:aX n F x=.int k' s)(b:k.wrap s=s)(h:W P n ops Q rest (eF F d (.int k s)) w):W P n ops Q (⟨some d,.convert t a x,ty,pos,after,none⟩::rest) F w:=
 gM rfl rfl (tJ k k' s e c hx b) h
theorem NY(l:List UInt8)(b:P.underlying t=some .string)(s:P.underlying a=some .string)(hx:aX n F x=str l):(execOp (aX n F) (⟨some d,.convert t a x,ty,pos,after,none⟩:Oper)).run P w=.ok (.value (str l)) w:=by simp [execOp,hx,str,convert,run_underlying b,run_underlying s]
theorem yt(f b:Bool)(e:P.underlying t=some .bool)(hx:aX n F x=.bool f)(c:aX n F y=.bool b):(execOp (aX n F) (⟨some d,.binOp .eql t x y a,ty,pos,after,none⟩:Oper)).run P w=.ok (.value (.bool (f==b))) w:=by simp [execOp,hx,c,eqGuard,run_eql_bool _ _ _ _ e]
theorem yq(f b:Bool)(e:P.underlying t=some .bool)(hx:aX n F x=.bool f)(c:aX n F y=.bool b):(execOp (aX n F) (⟨some d,.binOp .neq t x y a,ty,pos,after,none⟩:Oper)).run P w=.ok (.value (.bool (!(f==b)))) w:=by simp [execOp,hx,c,eqGuard,run_neq_bool _ _ _ _ e]
theorem Qi{i:Nat}(vs:Array Value)(v:Value)(hx:aX n F x=.tuple vs)(a:vs[i]? =some v):(execOp (aX n F) (⟨some d,.extract x i,ty,pos,after,none⟩:Oper)).run P w=.ok (.value v) w:=by simp [execOp,hx,Instr.extract,a]
end
end
structure cF where
 own:Option Nat
 ok:Option Obj->Prop
def cF.holds(r:cF)(w:World):Prop:=r.ok (r.own.bind fun b=>w.heap[b]?)
def aQ(b:Nat)(cs:List Value)(e:TypeId):cF:=⟨some b,fun o=>o=some (.cells cs.toArray e (0,0))⟩
def row(v:Value)(e:TypeId)(sz n:Nat)(b:List Value):cF:=
 ⟨v.ownBlock,fun o=>b.length=n*sz/\((v=.slice none 0 0/\n=0)\/
  ∃g cap a,v=.slice (some ⟨g,0,none⟩) n cap/\o=some (.cells a e (0,0))/\n<=cap/\cap<=maxLen/\a.size=cap*sz/\a.toList.take (n*sz)=b)⟩
def fL(v:Value)(n:Nat)(l:List UInt8):cF:=
 ⟨v.ownBlock,fun o=>l.length=n/\∃g cap a e b,v=.slice (some ⟨g,0,none⟩) n cap/\o=some (.cells a e b)/\n<=cap/\cap<=a.size/\a.toList.take n=l.map bt/\a.size<=b.1⟩
structure Hp (w0:World) (S:List Nat) (L:List cF) (w:World):Prop where
 os:w.os=w0.os
 tape:w.tape=w0.tape
 output:w.output=w0.output
 size:w0.heap.size<=w.heap.size
 below:∀k,k<w0.heap.size->k∉S->w.heap[k]? =w0.heap[k]?
 res:∀r∈L,r.holds w/\∀b,r.own=some b->b<w.heap.size/\(w0.heap.size<=b\/b∈S)
 sep:L.Pairwise fun r r'=>∀b,r.own=some b->r'.own≠some b
theorem Hp.refl(w:World):Hp w [] [] w:=⟨rfl,rfl,rfl,eV _,fun _ _ _=>rfl,fun _ h=>by simp at h,List.Pairwise.nil⟩
variable {w a:World}{L:List cF}
theorem Hp.toBelow(h:Hp w [] L a):RowKit.Below w.heap.size w a:=⟨h.os,h.tape,h.output,h.size,fun k c=>h.below k c aA2⟩
theorem Hp.yS(h:RowKit.Below w.heap.size w a):Hp w [] [] a:=⟨h.os,h.tape,h.output,h.size,fun k c _=>h.block k c,fun _ h=>by simp at h,List.Pairwise.nil⟩
theorem cF.holds_of{r:cF}(h:r.holds w)(c:∀b,r.own=some b->a.heap[b]? =w.heap[b]?):r.holds a:=by
 unfold cF.holds at*;cases d:r.own with
 |none=>simpa [d] using h
 |some b=>simpa [d,c b d] using h
variable {S:List Nat}{b:List cF}
theorem Hp.sub(h:Hp w S L a)(d:b.Sublist L):Hp w S b a:=
 ⟨h.os,h.tape,h.output,h.size,h.below,fun r c=>h.res r (d.subset c),h.sep.sublist d⟩
theorem Hp.nil(h:Hp w S L a):Hp w S [] a:=h.sub (List.nil_sublist _)
theorem Hp.perm(h:Hp w S L a)(c:L.Perm b):Hp w S b a:=
 ⟨h.os,h.tape,h.output,h.size,h.below,fun r e=>h.res r (c.symm.subset e),c.pairwise h.sep (fun h d f g=>h d g f)⟩
theorem Hp.mD{w':World}(h:Hp w S L a)(c:Hp a [] b w'):Hp w S (b++L) w':=by
 have d:∀i,i<a.heap.size->w'.heap[i]? =a.heap[i]? :=fun i d=>c.below i d aA2;refine⟨c.os.trans h.os,c.tape.trans h.tape,c.output.trans h.output,qN h.size c.size,fun k g j=> ?_,fun r n=> ?_, ?_⟩
 ·rw [d k (Yr g h.size)];exact h.below k g j
 ·rcases aS.1 n with n|n
  ·refine⟨(c.res r n).1,fun i e=> ?_⟩;have:=(c.res r n).2 i e;simp at this;exact⟨this.1,.inl (qN h.size this.2)⟩
  ·refine⟨cF.holds_of (h.res r n).1 fun i e=>d i ((h.res r n).2 i e).1,fun i e=> ?_⟩;have:=(h.res r n).2 i e;exact⟨Yr this.1 c.size,this.2⟩
 ·refine dI.2 ⟨c.sep,h.sep,fun r n r' f i e e'=> ?_⟩;have l:=(c.res r n).2 i e;have m:=(h.res r' f).2 i e';simp at l;omega
theorem Hp.call{w':World}(h:Hp w S L a)(c:Hp a [] [] w'):Hp w S L w':=h.mD c
theorem Hp.change{w':World}(h:Hp w S L a)(k:Nat)(r r':cF)(D:L[k]? =some r)(N:w'.os=a.os)(K:w'.tape=a.tape)(J:w'.output=a.output)
  (F:a.heap.size<=w'.heap.size) (H:∀j,j<a.heap.size->some j≠r.own->w'.heap[j]? =a.heap[j]?) (M:r'.holds w')
  (C:∀b,r'.own=some b->(r.own=some b\/a.heap.size<=b)/\b<w'.heap.size):Hp w S (L.set k r') w':=by
 have n:r∈L:=aI D;have u:k<L.length:=(aD.1 D).1;have m:∀x,x∈L.eraseIdx k->∀b,x.own=some b->r.own≠some b:=by
  intro x hx b s t;obtain⟨j,c,P,q⟩:∃j,∃(c:j<L.length),j≠k/\L[j]=x:=by rw [iV]at hx;obtain⟨j,c,P,e⟩:=hx;exact⟨j,c,P,e⟩
  have v:L[k]=r:=(aD.1 D).2;have B:=eU.1 h.sep;rcases tE j k with G|G
  ·exact B j k c u G b (by rw [q];exact s) (by rw [v];exact t)
  ·exact B k j u c aA0 b (by rw [v];exact t) (by rw [q];exact s)
 have d:∀x,x∈L.set k r'->x=r'\/x∈L.eraseIdx k:=by
  intro x hx;obtain⟨j,c,e⟩:=List.getElem_of_mem hx;by_cases P:j=k
  ·subst P;left;simpa using e.symm
  ·right;rw [iV];refine⟨j,aC3,P, ?_⟩;rw [mP (fun e=>P e.symm)]at e;exact e
 have f:∀x∈L.eraseIdx k,∀b,x.own=some b->w'.heap[b]? =a.heap[b]? :=fun x hx b e=>
  H b ((h.res x (Yc hx)).2 b e).1 (fun e'=>m x hx b e e'.symm)
 refine⟨N.trans h.os,K.trans h.tape,J.trans h.output,qN h.size F,fun j c I=> ?_,fun x hx=> ?_, ?_⟩
 ·rw [H j (Yr c h.size) (fun e=> ?_)];exact h.below j c I;have:=((h.res r n).2 j e.symm).2;rcases this with l|l
  ·omega
  ·exact I l
 ·rcases d x hx with rfl|hx
  ·refine⟨M,fun b e=>⟨(C b e).2, ?_⟩⟩;rcases(C b e).1 with l|l
   ·exact((h.res r n).2 b l).2
   ·exact .inl (qN h.size l)
  ·have p:=Yc hx;exact⟨cF.holds_of (h.res x p).1 (f x hx),fun b e=>⟨Yr ((h.res x p).2 b e).1 F,((h.res x p).2 b e).2⟩⟩
 ·have o:∀x∈L.eraseIdx k,∀b,r'.own=some b->x.own≠some b:=by
   intro x hx b e e';rcases(C b e).1 with l|l
   ·exact m x hx b e' l
   ·have:=((h.res x (Yc hx)).2 b e').1;omega
  have B:=eU.1 h.sep;refine eU.2 fun i j O c E b=> ?_;have A:i<L.length:=by simpa using O
  have z:j<L.length:=aC3;by_cases g:i=k
  ·subst g;have y:j≠i:=by omega
   rw [List.getElem_set_self,mP (fun e=>y e.symm)];intro e;exact o _ (by rw [iV];exact⟨j,z,y,rfl⟩) b e
  ·by_cases P:j=k
   ·subst P;rw [List.getElem_set_self,mP (fun e=>g e.symm)];intro e e';exact o _ (by rw [iV];exact⟨i,A,g,rfl⟩) b e' e
   ·rw [mP (fun e=>g e.symm),mP (fun e=>P e.symm)];exact B i j A z E b
theorem Hp.alloc{w0 w:World}{S:List Nat}{L:List cF}(h:Hp w0 S L w)(cs:List Value)(e:TypeId):Hp w0 S (aQ w.heap.size cs e::L) (w.alloc (.cells cs.toArray e (0,0))):=by
 have d:Hp w [] [aQ w.heap.size cs e] (w.alloc (.cells cs.toArray e (0,0))):=by
  refine⟨rfl,rfl,rfl,aA2,fun k c _=>RowKit.Below.heap_alloc w _ k c,fun r a=> ?_,aA2⟩;simp at a;subst a;refine⟨?_,fun b e=> ?_⟩
  ·show(w.heap.push (.cells cs.toArray e (0,0)))[w.heap.size]? =_;simp
  ·simp [aQ]at e;subst e;simp
 exact h.mD d
theorem Hp.dV(h:Hp w S L a)(k:Nat){b:Nat}{cs:List Value}{e:TypeId}(c:L[k]? =some (aQ b cs e)):
  a.heap[b]? =some (.cells cs.toArray e (0,0)):=(h.res _ (aI c)).1
section
variable {P:Program}{n:Md}{ops:Array Oper}{Q:Exit->Act->World->Prop}{F:Nat->Value}{w w0:World}{S:List Nat}{L:List cF}
variable {d:Nat}{ty:TypeId}{pos:String}{after:Array Edge}{rest:List Oper}
theorem jF{o:Oper}(g:Hp w0 S L w)(cs:List Value)(e:TypeId)(V:Nat->Value)(c:o.guard=none)(f:o.dst=some d)
  (a:(execOp (aX n F) o).run P w=.ok (.value (V w.heap.size)) (w.alloc (.cells cs.toArray e (0,0))))
  (h:∀b w',Hp w0 S (aQ b cs e::L) w'->W P n ops Q rest (eF F d (V b)) w'):W P n ops Q (o::rest) F w:=
 gM c f a (h _ _ (g.alloc cs e))
variable {a:List Value}{t:TypeId}
theorem tp{b off:Nat}{e:Nat×Nat}(h:w.heap[b]? =some (.cells a.toArray t e)):w.cell? ⟨b,off,none⟩=a[off]? :=by simp [World.cell?,h]
variable {x:Operand}
theorem gZ(i:Hp w0 S L w)(k b off:Nat)(cs:List Value)(e:TypeId)(v:Value)(f:L[k]? =some (aQ b cs e))(c:cs[off]? =some v)
  (hx:aX n F x=.pointer (some ⟨b,off,none⟩)) (g:(isAgg t).run P w=.ok false w) (h:W P n ops Q rest (eF F d v) w):
  W P n ops Q (⟨some d,.load t x,ty,pos,after,none⟩::rest) F w:=by
 refine gM (w':=w) rfl rfl ?_ h;have a:=tp (off:=off) (i.dV k f);rw [c]at a;simp [execOp,hx,Instr.loadAt,Instr.sureAddr,loadVar,g,a]
theorem NO(b off i:Nat):(⟨b,off,none⟩:Addr).add i=⟨b,off+i,none⟩:=by
 unfold Addr.add;by_cases a:i=0
 ·subst a;simp
 ·simp [a]
theorem lZ(r:Hp w0 S L w)(k b off m:Nat)(cs vs:List Value)(e:TypeId)(l:L[k]? =some (aQ b cs e))(f:(cs.drop off).take m=vs)(i:vs.length=m)
  (hx:aX n F x=.pointer (some ⟨b,off,none⟩)) (q:(isAgg t).run P w=.ok true w) (g:(sizeOf t).run P w=.ok m w) (h:W P n ops Q rest (eF F d (.agg vs.toArray)) w):
  W P n ops Q (⟨some d,.load t x,ty,pos,after,none⟩::rest) F w:=by
 refine gM (w':=w) rfl rfl ?_ h;have p:=r.dV k l;have o:(loadCells ⟨b,off,none⟩ m).run P w=.ok vs.toArray w:=by
  rw [<-i];refine run_loadCells_list w ⟨b,off,none⟩ vs fun j v a=> ?_;rw [NO,tp p];rw [<-f]at a;have c:j<m:=by have:=(aD.1 a).1;simp at this;omega
  rw [bO,aB c,bW]at a;exact a
 simp [execOp,hx,Instr.loadAt,Instr.sureAddr,loadVar,q,g,o]
def Gk(cs:List Value)(off:Nat)(vs:List Value):List Value:=cs.take off++vs++cs.drop (off+vs.length)
theorem Hp.stored{k b off:Nat}{vs:List Value}(g:Hp w0 S L w)(f:L[k]? =some (aQ b a t))(h:off+vs.length<=a.length)(i:∀v∈vs,v.oneCell'=true):
  ∃w',(storeCells ⟨b,off,none⟩ vs).run P w=.ok () w'/\Hp w0 S (L.set k (aQ b (Gk a off vs) t)) w':=by
 have d:=g.dV k f;have e:=run_storeCells_at P b off t vs 0 a.toArray w d aA9 i;refine⟨_,e,g.change k (aQ b a t) _ f rfl rfl rfl aA2 (fun j l c=>setRow_other w b j _ (fun t=>c (by simp [aQ,t]))) ?_ ?_⟩
 ·show(w.setRow b _).heap[b]? =_;rw [setRow_heap w b a.toArray _ t _ d];simp [Gk]
 ·intro b' e';simp [aQ]at e';subst e';refine⟨.inl rfl, ?_⟩;have:=(cI.1 d).1;simpa using this
theorem iU{y:Operand}(q:Hp w0 S L w)(k b off:Nat)(cs:List Value)(e:TypeId)(v:Value)(g:List cF)(o:L[k]? =some (aQ b cs e))(m:off<cs.length)
  (hx:aX n F x=.pointer (some ⟨b,off,none⟩)) (i:aX n F y=v) (f:v.oneCell'=true) (j:(sizeOf t).run P w=.ok 1 w) (p:L.set k (aQ b (cs.set off v) e)=g)
  (h:∀w',Hp w0 S g w'->W P n ops Q rest F w'):
  W P n ops Q (⟨none,.store t x y,ty,pos,after,none⟩::rest) F w:=by
 have a:v.cells= #[v]:=by cases v<;>first|rfl|simp [Value.oneCell']at f
 obtain⟨w',l,c⟩:=q.stored (P:=P) (vs:=[v]) (off:=off) o aA5 aD3;have d:Gk cs off [v]=cs.set off v:=by unfold Gk;rw [zbK,aB m];simp
 rw [d,p]at c;refine vV (w':=w') rfl rfl ?_ (h w' c);simp [execOp,hx,i,Instr.storeAt,Instr.sureAddr,storeVar,j,a,l]
theorem pK{y:Operand}(m:Hp w0 S L w)(k b off:Nat)(cs vs:List Value)(e:TypeId)(c:List cF)(j:L[k]? =some (aQ b cs e))(i:off+vs.length<=cs.length)
  (hx:aX n F x=.pointer (some ⟨b,off,none⟩)) (d:aX n F y=.agg vs.toArray) (o:vs.all (·.oneCell')=true) (f:(sizeOf t).run P w=.ok vs.length w) (l:L.set k (aQ b (Gk cs off vs) e)=c)
  (h:∀w',Hp w0 S c w'->W P n ops Q rest F w'):
  W P n ops Q (⟨none,.store t x y,ty,pos,after,none⟩::rest) F w:=by
 obtain⟨w',g,a⟩:=m.stored (P:=P) (vs:=vs) (off:=off) j i (by simpa using o);rw [l]at a;refine vV (w':=w') rfl rfl ?_ (h w' a);simp [execOp,hx,d,Instr.storeAt,Instr.sureAddr,storeVar,f,Value.cells,g]
end
open List renaming replicate → iZ
open Nat renaming beq → cV, blt → fZ
open _root_.Array renaming replicate → Yq
section
variable {P:Program}{ops:Array Oper}{Q:Exit->Act->World->Prop}{md:Region.Mode}{S:Nat->World->World->Prop}
def dK(D:List Nat)(f:World->Prop)(j:Nat)(w w':World):Prop:=D.contains j=false->f w->f w'
variable {D:List Nat}{f:World->Prop}{k:Nat}{w:World}
theorem dK.same:dK D f k w w:=fun _ h=>h
theorem dK.out{w':World}(h:D.contains k=true):dK D f k w w':=fun a=>by rw [h]at a;cases a
theorem dK.new{w':World}(h:f w'):dK D f k w w':=fun _ _=>h
def xP(P:Program)(md:Region.Mode)(ops:Array Oper)(Q:Exit->Act->World->Prop)(S:Nat->World->World->Prop)(k:Nat)(Z:Act->World->Prop):Nat->Array Bool->Act->World->Prop
 |0,listed,a,w=>Region.seqB md ops (ops.size-k) k listed=true/\Z a w
 |f+1,listed,a,w=>Region.ready md ops listed≠[]/\∀i∈Region.ready md ops listed,i<k/\wpOp P ops Q i (fun a' w'=>S i w w'/\xP P md ops Q S k Z f (listed.setIfInBounds i true) a' w') a w
theorem Vl{k:Nat}{Z:Act->World->Prop}(d:k<=ops.size)(c:∀a w,Z a w->wpList P ops Q (ops.toList.drop k) a w):
  ∀(f:Nat) (listed:Array Bool) (a:Act) (w:World),xP P md ops Q S k Z f listed a w->wpAny P md ops Q (f+(ops.size-k)) listed a w
 |0,listed,a,w,h=>by have b:(ops.toList.drop k).length=ops.size-k:=aA2;have:=wpAny_of_seq (md:=md) (Q':=Q) (ops.toList.drop k) k listed a w (fun j=>by simp [bW]) (by rw [b];exact h.1) (c a w h.2);rw [b]at this;rw [Gz];exact this
 |f+1,listed,a,w,h=>by rw [show f+1+(ops.size-k)=(f+(ops.size-k))+1 by omega];exact⟨fun g=>absurd g h.1,fun i e=>wpOp_mono (fun a' w' l=>Vl d c f _ a' w' l.2) (h.2 i e).2⟩
def Mv(md:Region.Mode)(ops:Array Oper)(i:Nat)(D:List Nat):Bool:=
 D.all fun j=>match ops[j]? with
  |some o=>o.after.any fun e=>Region.binds md e&&fZ e.on j&&(cV e.on i||D.contains e.on)
  |none=>true
variable {i:Nat}{a:Array Bool}
theorem Ps(q:Mv md ops i D=true)(c:HeadInv md ops k a)(g:a.getD i true=false):∀j,j∈D->j<ops.size->a.getD j true=false:=by
 intro j;induction j using Nat.strongRecOn with
 |_ j n=>
  intro o b;cases m:a.getD j false with
  |false=>exact getD_in (by rw [c.size];exact b) m
  |true=>
   exfalso;have l:=aT.1 q j o;rw [gO b]at l;simp only [Array.any_eq_true']at l;obtain⟨e,p,f⟩:=l;simp only [fS,jU]at f;have s:=c.closed j ops[j] (gO b) m e p f.1.1;rcases f.2 with h|h
   ·rw [iL h]at s;have:=getD_both g;rw [this]at s;cases s
   ·have d:e.on<j:=by simpa [jJ] using f.1.2
    have r:=n e.on d aA9 aA0;have:=getD_both r;rw [this]at s;cases s
theorem Mu{j:Nat}(p:Mv md ops i D=true)(g:HeadInv md ops k a)(b:a.getD i true=false)(r:j∈Region.ready md ops a):j∉D:=by
 intro h;obtain⟨o,u,c,d⟩:=mem_ready.1 r;have q:j<ops.size:=(cI.1 c).1;have m:=aT.1 p j h;rw [c]at m;simp only [Array.any_eq_true']at m;obtain⟨e,s,f⟩:=m;simp only [fS,jU]at f;have v:=d e s f.1.1;rcases f.2 with l|l
 ·rw [iL l,getD_both b]at v;cases v
 ·have n:e.on<j:=by simpa [jJ] using f.1.2
  have t:=Ps p g b e.on (by simpa using l) aA0;rw [getD_both t]at v;cases v
theorem PG{Z:Act->World->Prop}{oi:Oper}{v:Value}(Si:World->Prop)(D:List Nat)(hD:Mv md ops i D=true)(R:∀j w w',S j w w'->dK D Si j w w')(O:ops[i]? =some oi)(s:∀(j:Nat) (o:Oper) cs b,ops[j]? =some o->o.op≠.select cs b)
  (hQ:∀c a w,Q (.panic c) (a.put oi.dst v) w->Q (.panic c) a w) (Y:i<k)
  (l:∀listed:Array Bool,HeadInv md ops k listed->listed.getD i true=false->∀t,k<=t->t∉Region.ready md ops listed):
  ∀(f:Nat) (listed:Array Bool) (a:Act) (w:World),HeadInv md ops k listed->
   (∀j z,ops[j]? =some z->j≠i->listed.getD j true=false->(∀e∈z.after,Region.binds md e=true->e.on≠i)->oi.apart ops z=true)->
   i∈Region.ready md ops listed->YieldsIf P ops Si oi v a->Si w->(∀j w,S j w w)->
   xP P md ops Q S k Z f (listed.setIfInBounds i true) (a.put oi.dst v) w->xP P md ops Q S k Z (f+1) listed a w:=by
 intro f;induction f with
 |zero=>
  intro listed a w n g u G I r H;have p:=(mem_ready.1 u).1;refine⟨fun T=>(by rw [T]at u;cases u),fun j y=> ?_⟩
  have q:j<k:=by
   rcases tE j k with h|h
   ·exact h
   ·exact absurd y (l listed n p j h)
  by_cases d:j=i
  ·subst d;exact⟨q,G.wpOp O I ⟨r _ _,H⟩⟩
  ·have U:=seqB_ready H.1 j (ready_mono y d);omega
 |succ f W=>
  intro listed a w n g u G I r H;have p:=(mem_ready.1 u).1;refine⟨fun T=>(by rw [T]at u;cases u),fun j y=> ?_⟩
  have q:j<k:=by
   rcases tE j k with h|h
   ·exact h
   ·exact absurd y (l listed n p j h)
  by_cases d:j=i
  ·subst d;exact⟨q,G.wpOp O I ⟨r _ _,H⟩⟩
  ·have U:=(H.2 j (ready_mono y d)).2;have N:=Mu hD n p y;obtain⟨x,z,A,F⟩:=mem_ready.1 y;have C:∀e∈z.after,Region.binds md e=true->e.on≠i:=fun e he hb heq=>by have K:=F e he hb;rw [heq,getD_both p]at K;cases K
   have K:=wpOp_putIf A (g j z A d x C) (fun cs b=>s i oi cs b O) (fun cs b=>s j z cs b A) hQ G U;refine⟨q,wpOp_mono (fun a' w' J=>⟨J.2.1,W (listed.setIfInBounds j true) a' w' (n.set y q) (fun m V X M B L=>g m V X M ?_ L) (ready_mono u (Ne.symm d)) J.1 (R j _ w' J.2.1 (by simpa using N) I) r ?_⟩) K⟩
   ·by_cases E:j=m
    ·subst E;exact x
    ·rw [getD_set_ne true E]at B;exact B
   ·rw [Array.setIfInBounds_comm _ _ d];exact J.2.2
def Ed(ops:Array Oper)(k:Nat):Bool:=Region.noSelect ops&&decide (k<=ops.size)&&(decide (k=ops.size)||(Region.sinkB .any ops k&&Region.chainB .any ops k))
theorem qZ(h:Ed ops k=true)(c:i<k):∀listed:Array Bool,HeadInv .any ops k listed->listed.getD i true=false->∀t,k<=t->t∉Region.ready .any ops listed:=by
 intro listed a b t g f;simp only [Ed,fS,jU,aV]at h;have e:t<ops.size:=by obtain⟨_,o,j,_⟩:=mem_ready.1 f;exact(cI.1 j).1
 rcases h.2 with d|d
 ·omega
 ·exact tail_waits d.1 d.2 aA0 a (k-i) i rfl c b t g f
end
section
variable {P:Program}{kn:Nat}{kD:List Deferred}{ops:Array Oper}{Q:Exit->Act->World->Prop}{S:Nat->World->World->Prop}{Si:World->Prop}{F:Nat->Value}{w:World}
def FB(Q:Exit->Act->World->Prop):Prop:=∀c a w,¬Q (.panic c) a w
def R(P:Program)(n:Md)(ops:Array Oper)(Q:Exit->Act->World->Prop)(S:Nat->World->World->Prop)(k f:Nat)(listed:List Bool)(F:Nat->Value)(w:World):Prop:=
 HeadInv .any ops k listed.toArray->(∀j w,S j w w)->FB Q->xP P .any ops Q S k (fun a w=>wpList P ops Q (ops.toList.drop k) a w) f listed.toArray (fr n F) w
def RK(P:Program)(n:Md)(ops:Array Oper)(Q:Exit->Act->World->Prop)(S:Nat->World->World->Prop)(k f:Nat)(listed:List Bool)(i:Nat)(w:World):Exit->Act->World->Prop:=
 Exit.then (fun a' w'=>∃a,a'=fr n a/\S i w w'/\R P n ops Q S k f listed a w') Q
variable {h:World}{g:List Nat}{L:List cF}
theorem Hp.MW{w:World}(l:Hp h g L w):Hp h g L {w with drawn:=w.drawn+1}:=
 ⟨l.os,l.tape,l.output,l.size,l.below,l.res,l.sep⟩
variable {k:Nat}
theorem TC{l:List Oper}(u:Nat)(S:Nat->World->World->Prop)(listed:List Bool)(b:∀j w,S j w w)(m:P.follows .mixedOrders=true)(f:Ed l.toArray u=true)
  (p:Hp h g L w) (d:iZ l.length false=listed) (o:FB Q) (s:∀w',Hp h g L w'->R P ⟨kn,kD,none⟩ l.toArray Q S u u listed F w'):C P ⟨kn,kD,none⟩ Q (.region k l.toArray true) F w:=by
 unfold C CC;have n:u<=l.toArray.size:=by simp only [Ed,fS,aV]at f;exact f.1.2
 have c:HeadInv .any l.toArray u (Yq l.toArray.size false):=
  ⟨aA2,fun j r _ d=>(by rw [getD_replicate_false]at d;cases d),fun t _ i=>getD_in (by simpa using i) (getD_replicate_false _ _)⟩
 have e:listed.toArray=Yq l.toArray.size false:=by subst d;apply xG.1;simp
 refine wp_region_any m ?_;have q:=s _ p.MW (by rw [e];exact c) b o;have x:=Vl (S:=S) n (fun a w s=>s) u _ _ _ q;rw [e,show u+(l.toArray.size-u)=l.toArray.size by omega]at x;exact x
theorem RX{fn:Func}{d:Value->World->Prop}:FB (bodyPost P fn fun e w'=>∃v,e=.returned v/\d v w'):=by intro c a w h;obtain⟨_,v,b,_⟩:=h;cases b
theorem Gi{y:Code}(h:FB Q):FB (Ef P ⟨kn,kD,none⟩ y Q):=by unfold Ef;exact h
theorem Av(h:FB Q):FB (Exit.inBlock k Q):=h
theorem nD(h:FB Q):FB (Exit.noGoto Q):=h
variable {K:Act->World->Prop}
theorem xK(h:FB Q):FB (Exit.then K Q):=h
variable {o:Oper}{v:Value}
theorem jG(c:o.guard=none)(a:∀w,Si w->(execOp (aX ⟨kn,kD,none⟩ F) o).run P w=.ok (.value v) w):YieldsIf P ops Si o v (fr ⟨kn,kD,none⟩ F):=
 .inl ⟨by simp [Region.wanted,c],fun w b=>by rw [NH];exact a w b⟩
variable {c:Option Nat}{j:Op}{d:TypeId}{e:String}{b:Array Edge}{f:Bool}
theorem qP(dg:Nat)
  (h:(ops[k]?).bind (·.dst)=some dg) (l:fZ dg kn=true) (m:F dg=.bool f)
  (a:∀w,Si w->(execOp (aX ⟨kn,kD,none⟩ F) (⟨c,j,d,e,b,none⟩:Oper)).run P w=.ok (.value v) w):YieldsIf P ops Si ⟨c,j,d,e,b,some (k,f)⟩ v (fr ⟨kn,kD,none⟩ F):=by
 refine .inl ⟨?_,fun w g=> ?_⟩
 ·unfold Region.wanted;simp only [vv (n:=⟨kn,kD,none⟩) ops k dg h l,m];simp
 ·rw [NH];exact a w g
theorem yo(dg:Nat)
  (l:(ops[k]?).bind (·.dst)=some dg) (a:fZ dg kn=true) (g:F dg=.bool (!f)):YieldsIf P ops Si ⟨c,j,d,e,b,some (k,f)⟩ undef (fr ⟨kn,kD,none⟩ F):=by
 refine .inr ⟨?_,rfl⟩;unfold Region.wanted;simp only [vv (n:=⟨kn,kD,none⟩) ops k dg l a,g];cases f<;>rfl
theorem yn(dg:Nat)
  (l:(ops[k]?).bind (·.dst)=some dg) (a:fZ dg kn=true) (g:F dg=undef):YieldsIf P ops Si ⟨c,j,d,e,b,some (k,f)⟩ undef (fr ⟨kn,kD,none⟩ F):=by
 refine .inr ⟨?_,rfl⟩;unfold Region.wanted;simp only [vv (n:=⟨kn,kD,none⟩) ops k dg l a,g];simp [undef]
theorem oT(listed:List Bool)(i:Nat):listed.toArray.setIfInBounds i true=(listed.set i true).toArray:=aA2
variable {i:Nat}{a:List Bool}
theorem sV(b:List Bool)(G d:Nat)(v:Value)(D:List Nat)(t:∀j w w',S j w w'->dK D Si j w w')(o:Oper)(u:ops[G]? =some o)(B:o.dst=some d)(r:Ed ops k=true)(E:Mv .any ops G D=true)(m:Region.free .any ops a.toArray G=true)
  (z:(Region.ready .any ops a.toArray).contains G=true) (s:fZ G k=true) (A:a.set G true=b) (y:YieldsIf P ops Si o v (fr ⟨kn,kD,none⟩ F)) (C:Si w)
  (h:R P ⟨kn,kD,none⟩ ops Q S k i b (eF F d v) w):R P ⟨kn,kD,none⟩ ops Q S k (i+1) a F w:=by
 intro n e x;have g:G<k:=by simpa [jJ] using s
 have q:G∈Region.ready .any ops a.toArray:=by simpa using z
 have p:Region.noSelect ops=true:=by simp only [Ed,fS]at r;exact r.1.1
 refine PG Si D E t u (Region.noSelect_spec p) (fun c f w h=>absurd h (x c _ w)) g (qZ r g) i _ _ _ n (Region.free_spec u m) q y C e ?_;have l:=n.set q g;rw [oT,A]at l⊢;have:=h l e x;rw [<-lE,<-B]at this;exact this
theorem XJ(f:List Bool)(p d:Nat)(v:Value)(o:Oper)(l:ops[p]? =some o)(n:o.dst=some d)(g:Ed ops k=true)(b:Region.free .any ops a.toArray p=true)
  (j:(Region.ready .any ops a.toArray).contains p=true) (c:fZ p k=true) (m:a.set p true=f) (e:YieldsIf P ops (fun _=>True) o v (fr ⟨kn,kD,none⟩ F))
  (h:R P ⟨kn,kD,none⟩ ops Q S k i f (eF F d v) w):R P ⟨kn,kD,none⟩ ops Q S k (i+1) a F w:=
 sV (Si:=fun _=>True) f p d v [] (fun _ _ _ _ _ _=>trivial) o l n g rfl b j c m e trivial h
theorem Kk{a:Act}(c:ops[k]? =some o)(h:wpList P ops (Exit.then K Q) [o] a w):wpOp P ops Q k K a w:=by
 unfold wpOp;simp only [c];unfold wpList at h;split
 ·rename_i b;rw [aB b]at h;rcases h with h|h
  ·refine .inl ?_;unfold Oper.wp at*
   generalize(execOp a.eval o).run P w=r at*
   cases r with
   |ok x w'=>cases x<;>exact h
   |halt x w'=>cases x<;>exact h
  ·exact .inr h
 ·rename_i b;rw [aA b]at h;exact h
theorem nr(b:List Bool)(t:Nat)(o:Oper)(m:ops[t]? =some o)(n:a.set t true=b)(g:HeadInv .any ops k a.toArray)(d:∀j w,S j w w)(r:FB Q)
  (l:t∈Region.ready .any ops a.toArray) (e:t<k) (h:W P ⟨kn,kD,none⟩ ops (RK P ⟨kn,kD,none⟩ ops Q S k i b t w) [o] F w):
  t<k/\wpOp P ops Q t (fun a' w'=>S t w w'/\xP P .any ops Q S k (fun f w=>wpList P ops Q (ops.toList.drop k) f w) i (a.toArray.setIfInBounds t true) a' w') (fr ⟨kn,kD,none⟩ F) w:=by
 refine⟨e, ?_⟩;have c:=g.set l e;rw [oT,n]at c⊢;unfold W WR RK at h;refine wpOp_mono ?_ (Kk m h);rintro a' w' ⟨s,rfl,p,q⟩;exact⟨p,q c d r⟩
theorem XK(f:List Bool)(p:Nat)(o:Oper)(l:ops[p]? =some o)(d:Region.ready .any ops a.toArray=[p])(e:fZ p k=true)(m:a.set p true=f)
  (h:W P ⟨kn,kD,none⟩ ops (RK P ⟨kn,kD,none⟩ ops Q S k i f p w) [o] F w):R P ⟨kn,kD,none⟩ ops Q S k (i+1) a F w:=by
 intro c b n;refine⟨by rw [d];simp,fun j g=> ?_⟩;rw [d]at g;obtain rfl:j=p:=aE2;exact nr f j o l m c b n aD1 (by simpa [jJ] using e) h
theorem mJ{l:Nat}(m:S l h w)(f:R P ⟨kn,kD,none⟩ ops Q S k i a F w):RK P ⟨kn,kD,none⟩ ops Q S k i a l h .normal (fr ⟨kn,kD,none⟩ F) w:=⟨F,rfl,m,f⟩
theorem NF(l:Region.seqB .any ops (ops.size-k) k a.toArray=true)(h:W P ⟨kn,kD,none⟩ ops Q (ops.toList.drop k) F w):R P ⟨kn,kD,none⟩ ops Q S k 0 a F w:=by intro _ _ _;unfold W WR at h;exact⟨l,h⟩
end
attribute [irreducible] R RK
open Go.Value renaming ownBlock → Bl
open List renaming drop → bN, take → nZ
open Nat renaming blt → fZ
open UInt8 renaming ofNat → Fo
open _root_.Array renaming replicate → Yq
def ea(a:Option Addr)(j:Nat):Addr:=match a with
 |some p=>p.add j
 |none=>⟨0,j,none⟩
theorem add_add(p:Addr)(j k:Nat):(p.add j).add k=p.add (j+k):=by
 unfold Addr.add;by_cases b:j=0
 ·subst b;simp
 ·by_cases a:k=0
  ·subst a;simp
  ·simp [b,a,Bn]
theorem HU(a:Option Addr)(j k:Nat):(ea a j).add k=ea a (j+k):=by
 cases a with
 |none=>exact NO 0 j k
 |some p=>exact add_add p j k
def Rd(w:World)(a:Option Addr)(b:List Value):Prop:=∀j v,b[j]? =some v->∃p,a=some p/\w.cell? (p.add j)=some v
variable {w:World}{p:Addr}{v:Value}
theorem Aj(h:w.cell? p=some v):p.block<w.heap.size:=by
 unfold World.cell? at h;cases a:w.heap[p.block]? with
 |none=>simp [a]at h
 |some o=>exact(cI.1 a).1
theorem vm(p:Addr)(j:Nat):(p.add j).block=p.block:=by unfold Addr.add;split<;>rfl
variable {b:World}
theorem Tb(h:b.heap[p.block]? =w.heap[p.block]?):b.cell? p=w.cell? p:=by simp only [World.cell?,h]
variable {a:Option Addr}{c:List Value}
theorem Rd.mono(h:Rd w a c)(f:∀g,g<w.heap.size->b.heap[g]? =w.heap[g]?):Rd b a c:=by intro j v e;obtain⟨p,hp,d⟩:=h j v e;refine⟨p,hp, ?_⟩;rw [Tb (f _ (Aj d))];exact d
variable {L:List cF}
theorem Rd.hp(h:Rd w a c)(e:Hp w [] L b):Rd b a c:=h.mono fun f d=>e.below f d aA2
variable {S:List Nat}
theorem Rd.hpS(h:Rd w a c)(i:Hp w S L b)(k:∀p,a=some p->p.block∉S):Rd b a c:=by
 intro j v f;obtain⟨p,hp,e⟩:=h j v f;refine⟨p,hp, ?_⟩;have d:=Aj e;rw [vm]at d;have g:b.heap[(p.add j).block]? =w.heap[(p.add j).block]? :=by rw [vm];exact i.below _ d (k p hp)
 rw [Tb g];exact e
theorem Rd.nil(w:World)(a:Option Addr):Rd w a []:=fun j v h=>by simp at h
theorem Rd.some_(h:Rd w a c)(b:0<c.length):a≠none:=by obtain⟨p,hp,_⟩:=h 0 c[0] aA2;rw [hp];simp
theorem Rd.take{w:World}{a:Option Addr}{c:List Value}(h:Rd w a c)(k:Nat):Rd w a (c.take k):=by
 intro j v b;rw [bO]at b;split at b
 ·exact h j v b
 ·cases b
theorem Rd.drop{w:World}{p:Addr}{a:List Value}(h:Rd w (some p) a)(k:Nat):Rd w (some (p.add k)) (a.drop k):=by intro j v b;rw [bW]at b;obtain⟨q,c,d⟩:=h _ v b;simp at c;subst c;exact⟨_,rfl,by rw [add_add];exact d⟩
variable {m e:Nat}{l:List UInt8}
theorem Hp.kB(h:Hp w S L b)(k:Nat)(p:L[k]? =some (fL (.slice a m e) m l)):Rd b a (l.map bt):=by
 obtain⟨t,_⟩:=h.res _ (aI p);obtain⟨iN,g,i,f,x,u,y,n,o,r,d,q⟩:=t;intro j v c;simp at y;obtain⟨rfl,rfl⟩:=y;refine⟨_,rfl, ?_⟩;rw [NO];have s:b.heap[g]? =some (.cells f x u):=by simpa [fL,Bl] using n
 simp only [World.cell?,s,Gz];rw [<-d,bO]at c;split at c
 ·simpa using c
 ·cases c
theorem Hp.pT(h:Hp w S L b)(k:Nat)(d:L[k]? =some (aQ m c e)):Rd b (some ⟨m,0,none⟩) c:=by intro j v a;refine⟨_,rfl, ?_⟩;rw [NO,tp (h.dV k d)];simpa using a
theorem Hp.Xj(h:Hp w S L b)(k:Nat)(a:L[k]? =some (fL v m l)):l.length=m:=(h.res _ (aI a)).1.1
theorem Hp.tail{r:cF}(h:Hp w S (r::L) b):Hp w S L b:=h.sub (List.sublist_cons_self r L)
def TI(P:Program)(e sz a:Nat):Prop:=(P.info? e).map (fun i=>(i.zero.map (fun z=>z.cells.size),i.size,i.bytes))=some (some sz,sz,a)
theorem TI.parts{P:Program}{a:Nat}(h:TI P m e a):∃i z,P.info? m=some i/\i.zero=some z/\i.size=e/\i.bytes=a/\z.cells.size=e:=by
 unfold TI at h;cases c:P.info? m with
 |none=>simp [c]at h
 |some i=>simp [c]at h;obtain⟨⟨z,d,b⟩,g,f⟩:=h;exact⟨i,z,rfl,d,g,f,b⟩
section
variable {P:Program}{n:Md}{ops:Array Oper}{Q:Exit->Act->World->Prop}{F:Nat->Value}{w w0:World}{S:List Nat}{L:List cF}
variable {d:Nat}{ty:TypeId}{pos:String}{after:Array Edge}{rest:List Oper}
variable {x:Operand}{t:TypeId}
theorem kL(b off:Nat)(cs:List Value)(e:TypeId)(v:Value)(f:w.heap[b]? =some (.cells cs.toArray e (0,0)))(c:cs[off]? =some v)
  (hx:aX n F x=.pointer (some ⟨b,off,none⟩)) (g:(isAgg t).run P w=.ok false w):(execOp (aX n F) (⟨some d,.load t x,ty,pos,after,none⟩:Oper)).run P w=.ok (.value v) w:=by
 have a:=tp (off:=off) f;rw [c]at a;simp [execOp,hx,Instr.loadAt,Instr.sureAddr,loadVar,g,a]
theorem ew(a:Option Addr)(c:List Value)(j:Nat)(v:Value)(h:Rd w a c)(e:c[j]? =some v)(hx:aX n F x=.pointer (some (ea a j)))
  (g:(isAgg t).run P w=.ok false w):(execOp (aX n F) (⟨some d,.load t x,ty,pos,after,none⟩:Oper)).run P w=.ok (.value v) w:=by
 obtain⟨p,rfl,f⟩:=h j v e;have b:aX n F x=.pointer (some (p.add j)):=hx;simp [execOp,b,Instr.loadAt,Instr.sureAddr,loadVar,g,f]
theorem fe(b off m:Nat)(cs vs:List Value)(e:TypeId)(k:w.heap[b]? =some (.cells cs.toArray e (0,0)))(f:(cs.drop off).take m=vs)(h:vs.length=m)
  (hx:aX n F x=.pointer (some ⟨b,off,none⟩)) (l:(isAgg t).run P w=.ok true w) (g:(sizeOf t).run P w=.ok m w):
  (execOp (aX n F) (⟨some d,.load t x,ty,pos,after,none⟩:Oper)).run P w=.ok (.value (.agg vs.toArray)) w:=by
 have i:(loadCells ⟨b,off,none⟩ m).run P w=.ok vs.toArray w:=by
  rw [<-h];refine run_loadCells_list w ⟨b,off,none⟩ vs fun j v a=> ?_;rw [NO,tp k];rw [<-f]at a;have c:j<m:=by have:=(aD.1 a).1;simp at this;omega
  rw [bO,aB c,bW]at a;exact a
 simp [execOp,hx,Instr.loadAt,Instr.sureAddr,loadVar,l,g,i]
theorem eu(a:Option Addr)(e vs:List Value)(j m:Nat)(l:Rd w a e)(o:(e.drop j).take m=vs)(s:vs.length=m)(A:0<m)(hx:aX n F x=.pointer (some (ea a j)))
  (y:(isAgg t).run P w=.ok true w) (r:(sizeOf t).run P w=.ok m w):
  (execOp (aX n F) (⟨some d,.load t x,ty,pos,after,none⟩:Oper)).run P w=.ok (.value (.agg vs.toArray)) w:=by
 have b:∀i v,vs[i]? =some v->e[j+i]? =some v:=by
  intro i v c;rw [<-o]at c;have g:i<m:=by have:=(aD.1 c).1;simp at this;omega
  rw [bO,aB g,bW]at c;exact c
 have z:vs[0]? =some (vs[0]' aA0):=aA2;obtain⟨p,rfl,_⟩:=l _ _ (b 0 _ z);have f:aX n F x=.pointer (some (p.add j)):=hx;have u:(loadCells (p.add j) m).run P w=.ok vs.toArray w:=by rw [<-s];refine run_loadCells_list w (p.add j) vs fun i v c=> ?_;obtain⟨q,k,h⟩:=l _ _ (b i v c);simp at k;subst k;rw [add_add];exact h
 simp [execOp,f,Instr.loadAt,Instr.sureAddr,loadVar,y,r,u]
theorem Tw(a:Option Addr)(k c e:Nat)(b:P.underlying t=some (.slice e))(hx:aX n F x=.slice a k c):
  (execOp (aX n F) (⟨some d,.call ⟨.builtin .len, #[x], #[t]⟩,ty,pos,after,none⟩:Oper)).run P w=.ok (.value (.int .i64 (k:Int))) w:=by
 simp [execOp,resolve,invoke,builtin,hx,Builtin.len_,run_underlying b,goInt]
variable {y:Operand}
theorem UD(a:Option Addr)(k c e sz:Nat)(q:IntKind)(i:Int)(g:P.underlying t=some (.slice e))(h:(sizeOf e).run P w=.ok sz w)(hx:aX n F x=.slice a k c)(j:aX n F y=.int q i)
  (f:0<=i/\i<(k:Int)) (l:a≠none):(execOp (aX n F) (⟨some d,.indexAddr t x y,ty,pos,after,none⟩:Oper)).run P w=.ok (.value (.pointer (some (ea a (i.toNat*sz))))) w:=by
 cases a with
 |none=>exact absurd rfl l
 |some p=>simp [execOp,hx,j,Instr.indexAt,asIntOf,run_underlying g,h,f.1,f.2,ea]
variable {m f:Nat}
theorem ff(A:Addr)(off:Nat)(hx:aX n F x=.pointer (some A))(a:(Instr.fieldAt m (.pointer (some A)) f).run P w=.ok (.pointer (some (A.add off))) w):
  (execOp (aX n F) (⟨some d,.fieldAddr m x f,ty,pos,after,none⟩:Oper)).run P w=.ok (.value (.pointer (some (A.add off)))) w:=by
 simp [execOp,hx,a]
theorem qR(a:Option Addr)(j off:Nat)(hx:aX n F x=.pointer (some (ea a j)))(b:(Instr.fieldAt m (.pointer (some (ea a j))) f).run P w=.ok (.pointer (some ((ea a j).add off))) w):
  (execOp (aX n F) (⟨some d,.fieldAddr m x f,ty,pos,after,none⟩:Oper)).run P w=.ok (.value (.pointer (some (ea a (j+off))))) w:=by
 rw [ff (ea a j) off hx b,HU]
theorem kY(a:Option Addr)(j off:Nat)(hx:aX n F x=.pointer (some (ea a j)))(b:(Instr.fieldAt m (.pointer (some (ea a j))) f).run P w=.ok (.pointer (some ((ea a j).add off))) w)
  (h:W P n ops Q rest (eF F d (.pointer (some (ea a (j+off))))) w):W P n ops Q (⟨some d,.fieldAddr m x f,ty,pos,after,none⟩::rest) F w:=
 gM rfl rfl (qR a j off hx b) h
variable {b:TypeId}
theorem Im(D:Hp w0 S L w)(l:List UInt8)(e:TypeId)(A:P.underlying t=some .string)(z:P.underlying b=some (.slice e))(C:P.underlying e=some (.int .u8))(hx:aX n F x=str l)
  (h:∀a cap w',(execOp (aX n F) (⟨some d,.convert t b x,ty,pos,after,none⟩:Oper)).run P w=.ok (.value (.slice a l.length cap)) w'->Hp w0 S (fL (.slice a l.length cap) l.length l::L) w'->W P n ops Q rest (eF F d (.slice a l.length cap)) w'):
  W P n ops Q (⟨some d,.convert t b x,ty,pos,after,none⟩::rest) F w:=by
 let cap:=Question.cut (.appendCap l.length 0 e) (w.tape w.drawn (.appendCap l.length 0 e));have g:l.length<=cap:=by show _<=_+_;omega
 let cells:Array Value:=(l.toArray.map fun s=>.int .u8 s.toNat)++Yq (cap-l.length) (.int .u8 0);have p:cells.size=cap:=by simp [cells];omega
 let f:World:={w with drawn:=w.drawn+1,heap:=w.heap.push (.cells cells e (cap,cap+1))}
 have c:(execOp (aX n F) (⟨some d,.convert t b x,ty,pos,after,none⟩:Oper)).run P w=.ok (.value (.slice (some ⟨w.heap.size,0,none⟩) l.length cap)) f:=by
  have G:(convert t b (str l)).run P w=(Conv.stringToBytes e ⟨l.toArray⟩).run P w:=by simp [convert,str,run_underlying A,run_underlying z,run_underlying C]
  have E:(Conv.stringToBytes e ⟨l.toArray⟩).run P w=.ok (.slice (some ⟨w.heap.size,0,none⟩) l.length cap) f:=by
   have j:(⟨l.toArray⟩:ByteArray).size=l.length:=rfl;unfold Conv.stringToBytes markStringish;simp only [Sem.run_bind,j];show Result.andThen (Result.ok cap {w with drawn:=w.drawn+1}) _=_;simp only [Result.andThen_ok,newRow,Sem.run_bind,run_newObj,Sem.run_pure];show Result.andThen (Result.andThen (Result.ok (World.shape? {w with drawn:=w.drawn+1,heap:=w.heap.push (.cells cells e (0,0))} w.heap.size) _) _) _=_;have m:World.shape? {w with drawn:=w.drawn+1,heap:=w.heap.push (.cells cells e (0,0))} w.heap.size=some (e,cap):=by simp [World.shape?,p]
   rw [m];simp only [Result.andThen_ok];show Result.andThen (Result.ok () (World.freeze {w with drawn:=w.drawn+1,heap:=w.heap.push (.cells cells e (0,0))} ⟨w.heap.size,cap,none⟩ 1)) _=_;simp only [Result.andThen_ok,Sem.run_pure,World.freeze];congr 1;simp only [Nat.one_ne_zero,cX];refine bD (fun h=>({w with drawn:=w.drawn+1,heap:=h}:World)) ?_;apply O3
   ·simp
   ·intro i I q;have B:i<w.heap.size+1:=by simpa using q
    rw [Array.getElem_modify];by_cases v:w.heap.size=i
    ·subst v;simp
    ·have o:i<w.heap.size:=by omega
     simp [v,Array.getElem_push,o]
  simp [execOp,hx,G,E]
 refine gM rfl rfl c (h _ _ _ c ?_);have q:Hp w [] [fL (.slice (some ⟨w.heap.size,0,none⟩) l.length cap) l.length l] f:=by
  refine⟨rfl,rfl,rfl,by simp [f],fun k H _=> ?_,fun r u=> ?_,aA2⟩
  ·show(w.heap.push _)[k]? =_;rw [Array.getElem?_push,aA aA0]
  ·simp at u;subst u;refine⟨⟨rfl,w.heap.size,cap,cells,e,(cap,cap+1),rfl, ?_,g,aA0, ?_,aA0⟩,fun s y=> ?_⟩
   ·simp [fL,Bl,f]
   ·simp [cells,bt]
   ·simp [fL,Bl]at y;subst y;simp [f]
 exact D.mD q
theorem Bs(g:Hp w0 S L w)(l:List UInt8)(e:TypeId)(c:P.underlying t=some .string)(s:P.underlying b=some (.slice e))(f:P.underlying e=some (.int .u8))(hx:aX n F x=str l)
  (h:∀a cap w',Hp w0 S (fL (.slice a l.length cap) l.length l::L) w'->W P n ops Q rest (eF F d (.slice a l.length cap)) w'):
  W P n ops Q (⟨some d,.convert t b x,ty,pos,after,none⟩::rest) F w:=Im g l e c s f hx fun a cap w' _=>h a cap w'
theorem RY(l:List UInt8)(a:Option Addr)(m cap:Nat)(e:TypeId)(h:Rd w a (l.map bt))(y:l.length=m)(o:P.underlying t=some (.slice e))(k:P.underlying b=some .string)(B:P.underlying e=some (.int .u8))(hx:aX n F x=.slice a m cap):
  (execOp (aX n F) (⟨some d,.convert t b x,ty,pos,after,none⟩:Oper)).run P w=.ok (.value (str l)) w:=by
 subst y;have D:(convert t b (.slice a l.length cap)).run P w=(Conv.bytesToString (.slice a l.length cap)).run P w:=by simp [convert,run_underlying o,run_underlying k,run_underlying B]
 have C:(Conv.bytesToString (.slice a l.length cap)).run P w=.ok (str l) w:=by
  cases a with
  |none=>
   have:l=[]:=by
    cases l with
    |nil=>rfl
    |cons c l=>obtain⟨p,u,_⟩:=h 0 (bt c) aA2;cases u
   subst this;rfl
  |some p=>
   have s:(loadCells p l.length).run P w=.ok ((l.map fun c=>(c.toNat:Int)).map (Value.int .u8)).toArray w:=by have:=run_loadCells_list (P:=P) w p (l.map bt) (fun j v z=>by obtain⟨q,g,f⟩:=h j v z;simp at g;subst g;exact f);simp only [Hb]at this;rw [this];simp [bt,Function.comp_def]
   have:=run_bytesToString (P:=P) w p l.length cap _ s;rw [this];congr 1;unfold str;congr 1
   have A:∀(l:List UInt8) (r:ByteArray),(l.map fun c=>(c.toNat:Int)).foldl (fun r n=>r.push (Fo n.toNat)) r=⟨r.data++l.toArray⟩:=by
    intro l;induction l with
    |nil=>intro r;simp
    |cons c l i=>intro r;simp only [vS,oG];rw [i];apply ByteArray.ext;simp [ByteArray.push]
   rw [A];apply ByteArray.ext;show(#[]:Array UInt8)++l.toArray=l.toArray;simp
 simp [execOp,hx,D,C]
variable {a:Option Addr}{v:List Value}
theorem Hp.grown{w':World}{a':Option Addr}{k cap' e sz:Nat}{l:List Value}(C:Hp w0 S L w)(A:L[k]? =some (row (.slice a m f) e sz m v)){d:Nat}
  (h:w.grownBy w' (Value.slice a m f).ownBlock) (u:w'.ownsRow 0 e sz (.slice a' d cap') d l) (y:∀p,a'=some p->(∃q,a=some q/\q.block=p.block)\/w.heap.size<=p.block):
  Hp w0 S (L.set k (row (.slice a' d cap') e sz d l)) w':=by
 have G:(row (.slice a' d cap') e sz d l).holds w':=by
  obtain⟨z,o⟩:=u;refine⟨z, ?_⟩;rcases o with o|⟨g,c,t,n,_,i,F,s,E,D⟩
  ·exact .inl o
  ·refine .inr ⟨g,c,t,n, ?_,F,s,E,D⟩;simp only [Value.slice.injEq]at n;obtain⟨rfl,-,rfl⟩:=n;exact i
 refine C.change k _ _ A h.os h.tape h.output h.size (fun j B r=>h.block j B (fun e=>r aE9)) G ?_;intro b i;cases a' with
 |none=>simp [row,Bl]at i
 |some p=>
  simp [row,Bl]at i;subst i;refine⟨?_,(u.lt p.block rfl).2⟩;rcases y p rfl with⟨q,rfl,x⟩|s
  ·left;simp [row,Bl,x]
  ·exact .inr s
theorem Hp.ownsRow{a:Option Addr}{k m cap e sz:Nat}{h:List Value}(n:Hp w0 S L w)(j:L[k]? =some (row (.slice a m cap) e sz m h)):w.ownsRow 0 e sz (.slice a m cap) m h:=by
 obtain⟨⟨i,d⟩,_⟩:=n.res _ (aI j);refine⟨i, ?_⟩;rcases d with d|⟨g,c,f,b,l,r,q,p,o⟩
 ·exact .inl d
 ·refine .inr ⟨g,c,f,b,dL _, ?_,r,q,p,o⟩;simp only [Value.slice.injEq]at b;obtain⟨rfl,-,rfl⟩:=b;exact l
theorem KD{x:Option Addr}{k cx e sz D:Nat}{b:List Value}(t:TypeId)(E:P.underlying t=some (.slice e))(hT:TI P e sz D)(H:0<sz)(d:w.ownsRow 0 e sz (.slice a m f) m v)
  (L:Rd w x b) (A:b.length=k*sz) (h1:∀u∈b,u.oneCell'=true) (K:m+k<=maxLen) (B:(m+k)*D<=140737488355328):
  ∃a' cap' w',(Builtin.append_ #[t,t] ty #[.slice a m f,.slice x k cx]).run P w=.ok (.slice a' (m+k) cap') w'/\w'.ownsRow 0 e sz (.slice a' (m+k) cap') (m+k) (v++b)/\
   w.grownBy w' (Value.slice a m f).ownBlock/\∀p,a'=some p->(∃q,a=some q/\q.block=p.block)\/w.heap.size<=p.block:=by
 obtain⟨i,z,F,N,W,hb,M⟩:=hT.parts;have V:∀{x},x=none->Rd w x b->k=0/\b=[]:=by
  rintro _ rfl L
  have:b=[]:=by
   cases b with
   |nil=>rfl
   |cons u us=>obtain⟨p,n,_⟩:=L 0 u aA2;cases n
  subst this;refine⟨?_,rfl⟩;rcases Nat.eq_zero_or_pos k with h|h
  ·exact h
  ·have:=Tt h H;simp at A;omega
 by_cases Z:k=0
 ·
  subst Z;have Q:b=[]:=Fp aF2;subst Q;refine⟨a,f,w, ?_,aD0,⟨rfl,rfl,rfl,eV _,fun _ _ _=>rfl⟩,fun p n=>.inl ⟨p,n,rfl⟩⟩
  have R:m+0<=f:=by
   rcases d.2 with⟨s,I⟩|⟨g,c,C,s,_,_,U,_⟩
   ·subst I;omega
   ·simp only [Value.slice.injEq]at s;omega
  have l:(Builtin.firstCells i.size 0 (.slice x 0 cx)).run P w=.ok #[] w:=by
   cases x with
   |none=>simp [Builtin.firstCells]
   |some p=>simp [Builtin.firstCells,loadCells,loadCellsFrom]
  have a4:∀q:Addr,(storeCells q []).run P w=.ok () w:=fun q=>rfl;cases a with
  |none=>simp [Builtin.append_,run_underlying E,sizeOf,typeInfo,F,Builtin.lenOf,R,l];omega
  |some p=>have:m<=f:=aA0;simp [Builtin.append_,run_underlying E,sizeOf,typeInfo,F,Builtin.lenOf,this,l,storeCells]
 ·cases x with
  |none=>exact absurd (V rfl L).1 Z
  |some p=>
   have G:∀j u,b[j]? =some u->w.cell? (p.add j)=some u:=by intro j u hu;obtain⟨q,X,U⟩:=L j u hu;simp at X;subst X;exact U
   obtain⟨v',w',r,ho,hg,Y⟩:=run_append_own (P:=P) w 0 t ty e i z sz D E F N W hb M H (.slice a m f) m v d p k cx b A G h1 K B (dL _);have O:∃a' cap',v'=.slice a' (m+k) cap'/\∀p,a'=some p->(∃q,a=some q/\q.block=p.block)\/w.heap.size<=p.block:=by
    subst W;subst hb;have a0:((m+k:Nat):Int)<=9223372036854775807:=by simp only [maxLen]at K;omega
    rcases d.2 with⟨s,I⟩|⟨g,c,C,s,_,S,U,_,T,_⟩
    ·simp only [Value.slice.injEq]at s;obtain⟨rfl,rfl,rfl⟩:=s;have:=run_append_nil (P:=P) w t ty e i z E F N p k cx b A G aA0 (by simpa using a0) (by simp at B;omega);rw [this]at r;simp only [Result.ok.injEq]at r;refine⟨_,_,by rw [<-r.1,Gz],fun p n=>.inr ?_⟩;simp at n;subst n;simp
    ·simp only [Value.slice.injEq]at s;obtain⟨rfl,-,rfl⟩:=s;by_cases o:m+k<=f
     ·have J:m*i.size+b.length<=C.size:=by rw [A,T,<-lK];exact TO _ o
      have:=run_append_room (P:=P) w t ty e i E F g m f C S p k cx b A G h1 o J;rw [this]at r;simp only [Result.ok.injEq]at r;refine⟨_,_,r.1.symm,fun p n=>.inl ?_⟩;simp at n;subst n;exact⟨_,rfl,rfl⟩
     ·have y:∀j u,v[j]? =some u->w.cell? ((⟨g,0,none⟩:Addr).add j)=some u:=d.cells (g:=g) rfl;have:=run_append_grow (P:=P) w t ty e i z E F N ⟨g,0,none⟩ m f v d.1 y p k cx b A G aA0 a0 (growslice_fits aA0 B);rw [this]at r;simp only [Result.ok.injEq]at r;refine⟨_,_,r.1.symm,fun p n=>.inr ?_⟩;simp at n;subst n;simp
   obtain⟨a',cap',rfl,Q⟩:=O;exact⟨a',cap',w',r,ho,hg,Q⟩
theorem Yy(l:Hp w0 S L w)(k:Nat)(a o:Option Addr)(m cap c cx e sz f:Nat)(i b:List Value)(j:L[k]? =some (row (.slice a m cap) e sz m i))(q:P.underlying t=some (.slice e))(C:TI P e sz f)(g:0<sz)
  (hx:aX n F x=.slice a m cap) (p:aX n F y=.slice o c cx) (D:Rd w o b) (z:b.length=c*sz) (G:∀u∈b,u.oneCell'=true) (B:(m+c)*f<=140737488355328) (E:m+c<=9223372036854775807)
  (h:∀a' cap' w',Hp w0 S (L.set k (row (.slice a' (m+c) cap') e sz (m+c) (i++b))) w'->W P n ops Q rest (eF F d (.slice a' (m+c) cap')) w'):
  W P n ops Q (⟨some d,.call ⟨.builtin .append, #[x,y], #[t,t]⟩,ty,pos,after,none⟩::rest) F w:=by
 obtain⟨a',cap',w',r,s,A,v⟩:=KD (P:=P) (ty:=ty) (cx:=cx) t q C g (l.ownsRow j) D z G aE8 B;refine gM (w':=w') rfl rfl ?_ (h a' cap' w' (l.grown j A s v));simp [execOp,resolve,invoke,builtin,hx,p,r]
theorem P4(O:Hp w0 S L w)(e sz j:Nat)(kl p:IntKind)(c:Int)(D:P.underlying t=some (.slice e))(N:TI P e sz j)(hx:aX n F x=.int kl 0)(I:aX n F y=.int p c)
  (X:0<=c) (m:(j:Int)*c<=281474976710656) (R:c<=9223372036854775807)
  (h:∀a cap w',Hp w0 S (row (.slice a 0 cap) e sz 0 []::L) w'->W P n ops Q rest (eF F d (.slice a 0 cap)) w'):
  W P n ops Q (⟨some d,.makeSlice t x y,ty,pos,after,none⟩::rest) F w:=by
 obtain⟨i,z,G,C,E,v,H⟩:=N.parts;obtain⟨cn,rfl⟩:=Int.eq_ofNat_of_zero_le X;have o:i.bytes*cn<=281474976710656:=by
  rw [v];have M:((j*cn:Nat):Int)<=281474976710656:=by rw [NW];exact m
  omega
 obtain⟨w',f,s,l⟩:=run_make_own (P:=P) w 0 t e i z sz D G C E kl p cn o (by simp only [maxLen];omega) (dL _);obtain⟨w',f,s,l⟩:=run_make_own (P:=P) w w.heap.size t e i z sz D G C E kl p cn o (by simp only [maxLen];omega) (eV _);refine gM (w':=w') rfl rfl ?_ (h (some ⟨w.heap.size,0,none⟩) cn w' ?_)
 ·simp [execOp,hx,I,f]
 ·have A:Hp w [] [row (.slice (some ⟨w.heap.size,0,none⟩) 0 cn) e sz 0 []] w':=by
   refine⟨l.os,l.tape,l.output,l.size,fun k K _=>l.block k K aA2,fun r f=> ?_,aA2⟩;simp at f;subst f;have u:=s.lt w.heap.size rfl;refine⟨?_,fun b m=> ?_⟩
   ·obtain⟨J,f⟩:=s;refine⟨J, ?_⟩;rcases f with f|⟨g,c,B,q,_,m,V,A,U,T⟩
    ·exact .inl f
    ·refine .inr ⟨g,c,B,q, ?_,V,A,U,T⟩;simp only [Value.slice.injEq,aU,Addr.mk.injEq]at q;obtain⟨⟨rfl,-⟩,-,rfl⟩:=q;exact m
   ·simp [row,Bl]at m;subst m;exact⟨u.2,.inl (eV _)⟩
  exact O.mD A
theorem Hp.VU{k e sz j:Nat}{vs:List Value}(B:Hp w0 S L w)(A:L[k]? =some (row (.slice a m f) e sz m v))(O:j+vs.length<=v.length)(M:∀R∈vs,R.oneCell'=true)(N:vs≠[]):
  ∃w',(storeCells (ea a j) vs).run P w=.ok () w'/\Hp w0 S (L.set k (row (.slice a m f) e sz m (Gk v j vs))) w':=by
 have z:0<vs.length:=bK.2 N;obtain⟨h,E⟩:=B.ownsRow A;rcases E with⟨q,F⟩|⟨g,c,d,q,_,y,o,x,n,r⟩
 ·exfalso;subst F;rw [IY]at h;omega
 ·simp only [Value.slice.injEq]at q;obtain⟨rfl,-,rfl⟩:=q;have D:v.length<=d.size:=by rw [h,n];exact TO _ o
  have s:=run_storeCells_at P g j e vs 0 d w y aA0 M;have u:ea (some ⟨g,0,none⟩) j=⟨g,j,none⟩:=by show(⟨g,0,none⟩:Addr).add j=_;rw [NO,Gz]
  rw [u];refine⟨_,s,B.change k _ _ A rfl rfl rfl aA2 (fun i Q t=>setRow_other w g i _ (fun e=>t (by simp [row,Bl,e]))) ?_ ?_⟩
  ·refine⟨by rw [<-h];unfold Gk;simp;omega,.inr ⟨g,f,(nZ (j+0) d.toList++vs++bN (j+0+vs.length) d.toList).toArray,rfl, ?_,o,x, ?_, ?_⟩⟩
   ·show(w.setRow g _).heap[g]? =_;rw [setRow_heap w g d _ e _ y]
   ·rw [<-n];simp;omega
   ·rw [<-h];simp only [Bm];have C:v=d.toList.take v.length:=by rw [h];exact r.symm
    unfold Gk;rw [List.take_append,List.take_append];simp only [bM,kR,Fl];have K:min j d.size=j:=aA0;rw [K];rw [L4,tF (l:=vs) aA0];have J:min v.length j=j:=aA0;rw [J,List.take_drop];have I:j+vs.length+(v.length-(j+vs.length))=v.length:=aA0
    rw [I];have H:nZ j v=nZ j d.toList:=by
     conv=>lhs;rw [C]
     rw [L4,NV aA0]
    rw [H];have G:bN (j+vs.length) v=bN (j+vs.length) (nZ v.length d.toList):=by rw [<-C]
    rw [G]
  ·intro b p;simp [row,Bl]at p;subst p;refine⟨.inl (by simp [row,Bl]), ?_⟩;have:=(cI.1 y).1;simpa using this
theorem UR(J:Hp w0 S L w)(k:Nat)(a:Option Addr)(m cap j:Nat)(l:List UInt8)(c:UInt8)(I:L[k]? =some (fL (.slice a m cap) m l))(R:j<m)
  (hx:aX n F x=.pointer (some (ea a j))) (M:aX n F y=bt c) (N:(sizeOf t).run P w=.ok 1 w)
  (h:∀w',Hp w0 S (L.set k (fL (.slice a m cap) m (l.set j c))) w'->W P n ops Q rest F w'):W P n ops Q (⟨none,.store t x y,ty,pos,after,none⟩::rest) F w:=by
 obtain⟨⟨iN,g,K,d,e,u,G,O,E,D,v,B⟩,H⟩:=J.res _ (aI I);simp only [Value.slice.injEq]at G;obtain⟨rfl,-,rfl⟩:=G;have s:w.heap[g]? =some (.cells d e u):=by simpa [fL,Bl] using O
 have C:ea (some ⟨g,0,none⟩) j=⟨g,j,none⟩:=by show(⟨g,0,none⟩:Addr).add j=_;rw [NO,Gz]
 rw [C]at hx;have p:w.cell? ⟨g,j,none⟩=some (d[j]' aA0):=by simp only [World.cell?,s];have:j<d.size:=aA0;simp [this]
 have o:w.frozen? ⟨g,j,none⟩=false:=by simp only [World.frozen?,s];have:¬u.1<=j:=aA0;simp [this]
 have z:(storeCells ⟨g,j,none⟩ [bt c]).run P w=.ok () (w.setCell ⟨g,j,none⟩ (bt c)):=by simp only [storeCells,Sem.run_bind,NO,Bm,store];simp only [Sem.run,bt,p,o];rfl
 have q:(w.setCell ⟨g,j,none⟩ (bt c)).heap[g]? =some (.cells (d.setIfInBounds j (bt c)) e u):=by simp [World.setCell,vR,s]
 refine vV (w':=w.setCell ⟨g,j,none⟩ (bt c)) rfl rfl ?_ (h _ ?_)
 ·simp [execOp,hx,M,Instr.storeAt,Instr.sureAddr,storeVar,N,bt,Value.cells];have f:=z;simp only [bt]at f;rw [f];rfl
 ·refine J.change k _ _ I rfl rfl rfl (by simp [World.setCell]) (fun i T A=>RowKit.Below.heap_setCell w ⟨g,j,none⟩ _ i (fun e=>A (by simp [fL,Bl,e]))) ?_ ?_
  ·refine⟨by simpa using iN,g,cap,_,e,u,rfl,q,E,by simpa using D, ?_,by simpa using B⟩;rw [List.map_set,<-v,<-List.take_set];simp
  ·intro b r;simp [fL,Bl]at r;subst r;refine⟨.inl (by simp [fL,Bl]), ?_⟩;have:=(cI.1 s).1;simpa [World.setCell] using this
end
theorem Jm{a:Type}{P:Program}{w:World}(f:a->Sem Value):∀(l:List a) (vs:List Value),l.length=vs.length->(∀(i:Nat) (x:a) (v:Value),l[i]? =some x->vs[i]? =some v->(f x).run P w=.ok v w)->(l.mapM f).run P w=.ok vs w
 |[],[],_,_=>by simp
 |[],_::_,h,_=>by simp at h
 |_::_,[],h,_=>by simp at h
 |x::l,v::vs,h,b=>by rw [List.mapM_cons];simp only [Sem.run_bind,b 0 x v rfl rfl,Result.andThen_ok];rw [Jm f l vs aA9 (fun i y u c d=>b (i+1) y u aC3 aD0)];simp
def Xz(P:Program)(kk:Nat)(F:Nat->Value)(w:World):ResultVar->Value->Prop
 |.tmp t,v=>aX ⟨kk,[],none⟩ F (.tmp t)=v
 |.cell a t,v=>∃(b e:Nat) (cs:List Value),aX ⟨kk,[],none⟩ F (.tmp a)=.pointer (some ⟨b,0,none⟩)/\w.heap[b]? =some (.cells cs.toArray e (0,0))/\
   (((isAgg t).run P w=.ok true w/\(sizeOf t).run P w=.ok cs.length w/\v=.agg cs.toArray)\/((isAgg t).run P w=.ok false w/\cs=[v]))
def iH(tmps:Array Value):ResultVar->Sem Value
 |.tmp t=>pure (tmps.getD t undef)
 |.cell a t=>do loadVar t (<-asAddr (tmps.getD a undef))
variable {P:Program}{m:Nat}{F:Nat->Value}{w:World}{r:ResultVar}{v:Value}
theorem T0(h:Xz P m F w r v):(iH (fr ⟨m,[],none⟩ F).tmps r).run P w=.ok v w:=by
 unfold iH;cases r with
 |tmp t=>have f:(bif fZ t m then F t else undef)=v:=h;simp only [oY,f,Sem.run_pure]
 |cell a t=>
  obtain⟨b,e,cs,o,g,l⟩:=h;have f:(bif fZ a m then F a else undef)=.pointer (some ⟨b,0,none⟩):=o;simp only [oY,f,asAddr,Sem.run_bind,Sem.run_pure,Result.andThen_ok];rcases l with⟨d,n,rfl⟩|⟨d,rfl⟩
  ·have i:(loadCells ⟨b,0,none⟩ cs.length).run P w=.ok cs.toArray w:=
    run_loadCells_list w ⟨b,0,none⟩ cs fun j u k=>by rw [NO,tp g,Gz];exact k
   simp [loadVar,d,n,i]
  ·have c:w.cell? ⟨b,0,none⟩=some v:=by rw [tp g];rfl
   simp [loadVar,d,c]
variable {d:Func}
theorem rA{P:Program}{kk:Nat}{F:Nat->Value}{w:World}(l:List ResultVar)(vs:List Value)(k:d.results=l.toArray)(f:l.length=vs.length)
  (c:∀(i:Nat) (x:ResultVar) (v:Value),l[i]? =some x->vs[i]? =some v->Xz P kk F w x v) (v:Value) (a:(match vs with|[u]=>u|b=>.tuple b.toArray)=v):
  (results d (fr ⟨kk,[],none⟩ F).tmps).run P w=.ok v w:=by
 have e:=Jm (P:=P) (w:=w) (iH (fr ⟨kk,[],none⟩ F).tmps) l vs f (fun i x v j g=>T0 (c i x v j g));unfold results;rw [k];change Sem.run P (do let vs<-l.toArray.mapM (iH (fr ⟨kk,[],none⟩ F).tmps);pure (if h:vs.size=1 then vs[0]else .tuple vs)) w=_;simp only [List.mapM_toArray,Sem.run_bind,Sem.run_map];rw [e];simp only [Result.andThen_ok,Sem.run_pure];subst a;congr 1;cases vs with
 |nil=>simp
 |cons u b=>cases b with
  |nil=>simp
  |cons u' b=>simp
theorem Xo{ro:Option (Option Nat)}{R:Value->World->Prop}(l:List ResultVar)(vs:List Value)(v:Value)(g:d.results=l.toArray)(f:l.length=vs.length)
  (c:∀(i:Nat) (x:ResultVar) (v:Value),l[i]? =some x->vs[i]? =some v->Xz P m F w x v) (a:(match vs with|[u]=>u|b=>.tuple b.toArray)=v) (h:R v w):
  bodyPost P d (fun e w'=>∃v,e=.returned v/\R v w') .ret (fr ⟨m,[],ro⟩ F) w:=
 ⟨rfl,v,rA l vs g f c v a,v,rfl,h⟩
theorem Bj:∀(i:Nat) (x:ResultVar) (v:Value),([]:List ResultVar)[i]? =some x->([]:List Value)[i]? =some v->Xz P m F w x v:=fun i x v h=>by simp at h
theorem hO{l:List ResultVar}{vs:List Value}(b:Xz P m F w r v)
  (h:∀(i:Nat) (x:ResultVar) (u:Value),l[i]? =some x->vs[i]? =some u->Xz P m F w x u):∀(i:Nat) (x:ResultVar) (u:Value),(r::l)[i]? =some x->(v::vs)[i]? =some u->Xz P m F w x u
 |0,x,u,hx,a=>by simp at hx a;subst hx;subst a;exact b
 |i+1,x,u,hx,a=>h i x u aE0 aC0
variable {t:Nat}
theorem adc(h:aX ⟨m,[],none⟩ F (.tmp t)=v):Xz P m F w (.tmp t) v:=h
variable {b:World}{S:List Nat}{L:List cF}{e:Nat}
theorem Xr(f:Hp b S L w)(k i a:Nat)(cs:List Value)(c:L[k]? =some (aQ i cs a))(d:aX ⟨m,[],none⟩ F (.tmp t)=.pointer (some ⟨i,0,none⟩))
  (h:(isAgg e).run P w=.ok true w) (g:(sizeOf e).run P w=.ok cs.length w):Xz P m F w (.cell t e) (.agg cs.toArray):=⟨i,a,cs,d,f.dV k c,.inl ⟨h,g,rfl⟩⟩
theorem Uz(f:Hp b S L w)(k h a:Nat)(v:Value)(c:L[k]? =some (aQ h [v] a))(d:aX ⟨m,[],none⟩ F (.tmp t)=.pointer (some ⟨h,0,none⟩))
  (g:(isAgg e).run P w=.ok false w):Xz P m F w (.cell t e) v:=⟨h,a,[v],d,f.dV k c,.inr ⟨g,rfl⟩⟩
theorem N5{a:Option Addr}(h:m=t):Value.slice a m e=Value.slice a t e:=by rw [h]
theorem iC{p:Prop}(h:p:=by first|rfl|(simp;done)|(simp;omega)|exact N5 (by rw [xD];omega)):p:=h
def el{a:Type}[Inhabited a](l:List a)(i:Int):a:=l.getD i.toNat default
theorem Dp{a:Type}(f:a->List Value)(sz:Nat)(b:∀x,(f x).length=sz):∀(l:List a) (i:Nat),(l.flatMap f).drop (i*sz)=(l.drop i).flatMap f
 |l,0=>by simp
 |[],i+1=>by simp
 |x::l,i+1=>by rw [kS,ej,<-Dp f sz b l i,dF,Gy,<-JE];congr 1;rw [<-b x];simp
variable {c:Type}
theorem zY[Inhabited c](f:c->List Value)(sz:Nat)(a:∀x,(f x).length=sz)(l:List c)(i:Int)(d:0<=i/\i<(l.length:Int)):((l.flatMap f).drop (i.toNat*sz)).take sz=f (el l i):=by have b:i.toNat<l.length:=aA0;rw [Dp f sz a,dS b,kS];rw [show f (el l i)=f l[i.toNat]by simp [el,b]];rw [<-a l[i.toNat]];simp
theorem D3[Inhabited c](f:c->List Value)(sz k:Nat)(d:∀x,(f x).length=sz)(l:List c)(i:Int)(v:Value)(e:0<=i/\i<(l.length:Int))(a:k<sz)(b:(f (el l i))[k]? =some v):(l.flatMap f)[i.toNat*sz+k]? =some v:=by rw [<-zY f sz d l i e,bO,aB a,bW]at b;exact b
theorem D2(f:c->List Value)(sz:Nat)(a:∀x,(f x).length=sz)(l:List c):(l.flatMap f).length=l.length*sz:=by
 induction l with
 |nil=>simp
 |cons x l b=>rw [kS,bM,b,a,bR,dF,Gy]
def dC(L:List cF):List Nat:=L.filterMap (·.own)
theorem nF(h:m∈dC L):∃r∈L,r.own=some m:=by unfold dC at h;obtain⟨r,a,e⟩:=List.mem_filterMap.1 h;exact⟨r,a,e⟩
theorem Hp.eK{w':World}{L1 L2:List cF}(h:Hp w S (L1++L2) b)(c:Hp b (dC L1) L w'):Hp w S (L++L2) w':=by
 have f:∀l,l∈dC L1->l<b.heap.size/\(w.heap.size<=l\/l∈S):=by intro l m;obtain⟨r,a,e⟩:=nF m;exact(h.res r (aS.2 (.inl a))).2 l e
 have d:=dI.1 h.sep;have g:∀r∈L2,∀l,r.own=some l->l∉dC L1:=by intro r a l e m;obtain⟨q,t,e'⟩:=nF m;exact d.2.2 q t r a l e' e
 refine⟨c.os.trans h.os,c.tape.trans h.tape,c.output.trans h.output,qN h.size c.size,fun k o p=> ?_,fun r a=> ?_, ?_⟩
 ·rw [c.below k (Yr o h.size) (fun u=> ?_)];exact h.below k o p;rcases(f k u).2 with i|i
  ·omega
  ·exact p i
 ·rcases aS.1 a with a|a
  ·refine⟨(c.res r a).1,fun l e=> ?_⟩;have:=(c.res r a).2 l e;refine⟨this.1, ?_⟩;rcases this.2 with i|i
   ·exact .inl (qN h.size i)
   ·exact(f l i).2
  ·have n:=aS.2 (.inr a:r∈L1\/r∈L2);refine⟨cF.holds_of (h.res r n).1 fun l e=>c.below l ((h.res r n).2 l e).1 (g r a l e),fun l e=> ?_⟩;have:=(h.res r n).2 l e;exact⟨Yr this.1 c.size,this.2⟩
 ·refine dI.2 ⟨c.sep,d.2.1,fun r a r' j l e e'=> ?_⟩;have i:=(c.res r a).2 l e;have v:=(h.res r' (aS.2 (.inr j))).2 l e';rcases i.2 with s|s
  ·omega
  ·exact g r' j l e' s
theorem Hp.front(h:Hp w S L b)(k:Nat)(r:cF)(a:L[k]? =some r):Hp w S (r::L.eraseIdx k) b:=by
 refine h.perm ?_;clear h;induction L generalizing k with
 |nil=>simp at a
 |cons x L g=>
  cases k with
  |zero=>simp at a;subst a;simp
  |succ k=>simp at a;simp only [List.eraseIdx_cons_succ];exact(List.Perm.cons x (g k a)).trans (List.Perm.swap r x _)
theorem Hp.Wj{L1 L2:List cF}(h:Hp w S (L1++L2) b):Hp w S L1 b:=h.sub (List.sublist_append_left _ _)
theorem Hp.hand{L1 L2:List cF}(h:Hp w S (L1++L2) b):Hp b (dC L1) L1 b:=
 ⟨rfl,rfl,rfl,eV _,fun _ _ _=>rfl,fun r a=>by have:=h.res r (aS.2 (.inl a));exact⟨this.1,fun g e=>⟨(this.2 g e).1,.inr (List.mem_filterMap.2 ⟨r,a,e⟩)⟩⟩,(dI.1 h.sep).1⟩
variable {f:FuncId}{a:List Value}
theorem sM(h:Calls P f a.toArray w fun e w'=>e=.returned v/\RowKit.Below w.heap.size w w'):CR P f a w fun u w'=>u=v/\Hp w [] [] w':=
 Calls.mono h fun _ _ ⟨e,g⟩=>⟨v,e,rfl,Hp.yS g⟩
theorem M7(h:Calls P f a.toArray w fun e w'=>e=.returned v/\w'=w):CR P f a w fun u w'=>u=v/\Hp w [] [] w':=
 Calls.mono h fun _ _ ⟨e,g⟩=>⟨v,e,rfl,g▸Hp.refl w⟩
theorem z1(k:Nat):Hp w [] [] (w.drewN k):=Hp.yS ⟨rfl,rfl,rfl,eV _,fun _ _=>rfl⟩
theorem MZ(h:Calls P f a.toArray w fun e w'=>e=.returned v/\∃k,w'=w.drewN k):CR P f a w fun u w'=>u=v/\Hp w [] [] w':=
 Calls.mono h fun _ _ ⟨e,k,g⟩=>⟨v,e,rfl,g▸z1 k⟩
def OT(b:Nat)(l:List UInt8)(pos:Nat):cF:=⟨some b,fun o=>o=some (.stringIter ⟨l.toArray⟩ pos)⟩
theorem Hp.dn(h:Hp w S L b)(l:List UInt8)(pos:Nat):Hp w S (OT b.heap.size l pos::L) (b.alloc (.stringIter ⟨l.toArray⟩ pos)):=by
 have e:Hp b [] [OT b.heap.size l pos] (b.alloc (.stringIter ⟨l.toArray⟩ pos)):=by
  refine⟨rfl,rfl,rfl,aA2,fun k d _=>RowKit.Below.heap_alloc b _ k d,fun r a=> ?_,aA2⟩;simp at a;subst a;refine⟨?_,fun g c=> ?_⟩
  ·show(b.heap.push (.stringIter ⟨l.toArray⟩ pos))[b.heap.size]? =_;simp
  ·simp [OT]at c;subst c;simp
 exact h.mD e
theorem Hp.zo(h:Hp w S L b)(k n:Nat)(l:List UInt8)(pos a:Nat)(f:L[k]? =some (OT n l pos)):
  Hp w S (L.set k (OT n l a)) {b with heap:=b.heap.setIfInBounds n (.stringIter ⟨l.toArray⟩ a)}:=by
 have g:=((h.res _ (aI f)).2 n rfl).1;refine h.change k _ _ f rfl rfl rfl aA2 (fun j m d=> ?_) ?_ (fun c i=> ?_)
 ·show(b.heap.setIfInBounds n _)[j]? =_;rw [Array.getElem?_setIfInBounds_ne (fun e=>d aE9)]
 ·show(b.heap.setIfInBounds n _)[n]? =_;simp [g]
 ·cases i;exact⟨.inl rfl,aE2⟩
section
variable {P:Program}{n:Md}{ops:Array Oper}{Q:Exit->Act->World->Prop}{F:Nat->Value}{w:World}
variable {d:Nat}{ty:TypeId}{pos:String}{after:Array Edge}{rest:List Oper}
variable {x y:Operand}{t a:TypeId}
theorem ey(k:IntKind)(j b:Int)(hx:aX n F x=.int k j)(f:aX n F y=.int k b)(h:0<=j)(i:0<b)(g:k.wrap (j/b)=j/b):
  (execOp (aX n F) (⟨some d,.binOp .quo t x y a,ty,pos,after,none⟩:Oper)).run P w=.ok (.value (.int k (j/b))) w:=by
 have e:j.tdiv b=j/b:=Int.tdiv_eq_ediv_of_nonneg h;have c:¬b=0:=aA0;simp [execOp,hx,f,binOp,eqGuard,Op.intDiv,c,e,g]
theorem et(k:IntKind)(j b:Int)(hx:aX n F x=.int k j)(f:aX n F y=.int k b)(h:0<=j)(i:0<b)(g:k.wrap (j%b)=j%b):
  (execOp (aX n F) (⟨some d,.binOp .rem t x y a,ty,pos,after,none⟩:Oper)).run P w=.ok (.value (.int k (j%b))) w:=by
 have e:j.tmod b=j%b:=Int.tmod_eq_emod_of_nonneg h;have c:¬b=0:=aA0;simp [execOp,hx,f,binOp,eqGuard,Op.intDiv,c,e,g]
def ui(k:IntKind)(a b:Int):Int:=k.wrap ((BitVec.ofInt k.bits a&&&BitVec.ofInt k.bits b).toNat:Int)
def orI(k:IntKind)(a b:Int):Int:=k.wrap ((BitVec.ofInt k.bits a|||BitVec.ofInt k.bits b).toNat:Int)
theorem fg(k:IntKind)(e b:Int)(hx:aX n F x=.int k e)(c:aX n F y=.int k b):(execOp (aX n F) (⟨some d,.binOp .and t x y a,ty,pos,after,none⟩:Oper)).run P w=.ok (.value (.int k (ui k e b))) w:=by simp only [execOp,hx,c,binOp,ne_eq,dE,cX];rfl
theorem yp(k:IntKind)(e b:Int)(hx:aX n F x=.int k e)(c:aX n F y=.int k b):(execOp (aX n F) (⟨some d,.binOp .or t x y a,ty,pos,after,none⟩:Oper)).run P w=.ok (.value (.int k (orI k e b))) w:=by simp only [execOp,hx,c,binOp,ne_eq,dE,cX];rfl
theorem er(k k':IntKind)(h b p:Int)(hx:aX n F x=.int k h)(c:aX n F y=.int k' b)(g:0<=b)(e:2^(min b.toNat k.bits)=p):(execOp (aX n F) (⟨some d,.binOp .shl t x y a,ty,pos,after,none⟩:Oper)).run P w=.ok (.value (.int k (k.wrap (h*p)))) w:=by have f:¬b<0:=aA0;rw [<-e];simp [execOp,hx,c,binOp,eqGuard,Op.shift,f]
theorem ep(k k':IntKind)(j b p:Int)(hx:aX n F x=.int k j)(c:aX n F y=.int k' b)(i:0<=b)(g:2^(min b.toNat k.bits)=p)(f:0<p):(execOp (aX n F) (⟨some d,.binOp .shr t x y a,ty,pos,after,none⟩:Oper)).run P w=.ok (.value (.int k (j/p))) w:=by have h:¬b<0:=aA0;have e:j.fdiv p=j/p:=Int.fdiv_eq_ediv_of_nonneg _ aA0;rw [<-e,<-g];simp [execOp,hx,c,binOp,eqGuard,Op.shift,h]
theorem FR(g:Option Addr)(m c e:Nat)(f:P.underlying t=some (.slice e))(hx:aX n F x=.slice g m c)(b:aX n F y=.slice none 0 0):(execOp (aX n F) (⟨some d,.binOp .eql t x y a,ty,pos,after,none⟩:Oper)).run P w=.ok (.value (.bool g.isNone)) w:=by
 have e:(binOp .eql t (.slice g m c) (.slice none 0 0)).run P w=.ok (.bool g.isNone) w:=by simp only [binOp];simp [run_equal_slice_nil w t e g m c f]
 simp [execOp,hx,b,eqGuard,e]
theorem US(g:Option Addr)(m c e:Nat)(f:P.underlying t=some (.slice e))(hx:aX n F x=.slice g m c)(b:aX n F y=.slice none 0 0)(h:W P n ops Q rest (eF F d (.bool g.isNone)) w):W P n ops Q (⟨some d,.binOp .eql t x y a,ty,pos,after,none⟩::rest) F w:=
 gM rfl rfl (FR g m c e f hx b) h
theorem UC(p:Addr)(k e sz:Nat)(q:IntKind)(i:Int)(c:P.underlying t=some (.array k e))(f:(sizeOf e).run P w=.ok sz w)(hx:aX n F x=.pointer (some p))(g:aX n F y=.int q i)
  (b:0<=i/\i<(k:Int)) (h:2<=k):(execOp (aX n F) (⟨some d,.indexAddr t x y,ty,pos,after,none⟩:Oper)).run P w=.ok (.value (.pointer (some (ea (some p) (i.toNat*sz))))) w:=by
 simp [execOp,hx,g,Instr.indexAt,Instr.sureAddr,asIntOf,run_underlying c,f,b.1,b.2,ea]
variable {b:World}{S:List Nat}{L:List cF}
theorem JM(c:Hp b S L w)(l:List UInt8)(a:P.underlying t=some .string)(hx:aX n F x=str l)
  (h:∀e w',Hp b S (OT e l 0::L) w'->W P n ops Q rest (eF F d (.pointer (some ⟨e,0,none⟩))) w'):W P n ops Q (⟨some d,.range t x,ty,pos,after,none⟩::rest) F w:=by
 refine gM (v:=.pointer (some ⟨w.heap.size,0,none⟩)) (w':=w.alloc (.stringIter ⟨l.toArray⟩ 0)) rfl rfl ?_ (h _ _ (c.dn l 0));simp [execOp,hx,str,Instr.range,run_underlying a]
theorem Tz(f:Hp b S L w)(k r:Nat)(l:List UInt8)(p:Nat)(e:L[k]? =some (OT r l p))(hx:aX n F x=.pointer (some ⟨r,0,none⟩))
  (q:p<l.length->∀w',Hp b S (L.set k (OT r l (p+(Utf8.decode ⟨l.toArray⟩ p).2))) w'->W P n ops Q rest (eF F d (.tuple #[.bool true,.int .i64 (p:Int),.int .i32 ((Utf8.decode ⟨l.toArray⟩ p).1:Int)])) w')
  (m:¬p<l.length->W P n ops Q rest (eF F d (.tuple #[.bool false])) w):W P n ops Q (⟨some d,.next x true,ty,pos,after,none⟩::rest) F w:=by
 have h:w.heap[r]? =some (.stringIter ⟨l.toArray⟩ p):=(f.res _ (aI e)).1;have j:=((f.res _ (aI e)).2 r rfl).1;have g:(getObj r).run P w=.ok (.stringIter ⟨l.toArray⟩ p) w:=by simp [getObj,Sem.run,h]
 have i:∀o,(setObj r o).run P w=.ok () {w with heap:=w.heap.setIfInBounds r o}:=fun o=>by simp [setObj,Sem.run,h]
 by_cases c:p<l.length
 ·have a:p<(⟨l.toArray⟩:ByteArray).size:=c;refine gM (v:=.tuple #[.bool true,.int .i64 (p:Int),.int .i32 ((Utf8.decode ⟨l.toArray⟩ p).1:Int)]) (w':={w with heap:=w.heap.setIfInBounds r (.stringIter ⟨l.toArray⟩ (p+(Utf8.decode ⟨l.toArray⟩ p).2))}) rfl rfl ?_ (q c _ (f.zo k r l p _ e));simp [execOp,hx,Instr.next,g,i,a,goInt]
 ·have a:¬p<(⟨l.toArray⟩:ByteArray).size:=c;refine gM (v:=.tuple #[.bool false]) (w':=w) rfl rfl ?_ (m c);simp [execOp,hx,Instr.next,g,a]
theorem Qh(k k':IntKind)(s:Int)(c:P.underlying t=some (.int k'))(b:P.underlying a=some .string)(hx:aX n F x=.int k s):(execOp (aX n F) (⟨some d,.convert t a x,ty,pos,after,none⟩:Oper)).run P w=.ok (.value (str (Utf8.encode s).data.toList)) w:=by simp [execOp,hx,convert,run_underlying c,run_underlying b,Conv.intToString,str]
theorem OA(k k':IntKind)(s:Int)(c:P.underlying t=some (.int k'))(b:P.underlying a=some .string)(hx:aX n F x=.int k s)(h:W P n ops Q rest (eF F d (str (Utf8.encode s).data.toList)) w):W P n ops Q (⟨some d,.convert t a x,ty,pos,after,none⟩::rest) F w:=
 gM rfl rfl (Qh k k' s c b hx) h
end
open Go.Value renaming ownBlock → Bl
open UInt8 renaming ofNat → Fo
abbrev aC:=List UInt8
abbrev PQ:=aC×aC×Bool
abbrev LQ:=List PQ
abbrev UQ:=aC×aC×aC×Int×LQ×LQ
abbrev AQ:=aC×UQ×LQ
abbrev eC:=List (aC×aC)
abbrev uU:=eC×List UInt8
abbrev dB:=List uU
abbrev dP:=List (Int×aC)
def gd{α:Type}(p:Prop)[Decidable p](k:Option α):Option α:=if p then k else none
variable {a:Type}{p:Prop}{k:Option a}{r:a}
theorem C0[Decidable p](h:gd p k=some r):p/\k=some r:=by
 unfold gd at h;split at h
 ·exact⟨by assumption,h⟩
 ·cases h
theorem bA{α:Type}{p:Prop}[Decidable p]{k:Option α}(h:p):gd p k=k:=aB h
theorem Am{o:Type}{f:a->Option o}{r:o}(h:k.bind f=some r):∃y,k=some y/\f y=some r:=by
 cases k with
 |none=>cases h
 |some y=>exact⟨y,rfl,h⟩
variable {i j:a}
theorem FH[Decidable p](h:p)(e:(if p then r else i)=j):r=j:=by rw [<-e,aB h]
theorem FI[Decidable p](h:¬p)(e:(if p then r else i)=j):i=j:=by rw [<-e,aA h]
variable {d:Bool}
theorem cft(h:d=true)(e:cond d r i=j):r=j:=by rw [<-e,h];rfl
theorem cff(h:d=false)(e:cond d r i=j):i=j:=by rw [<-e,h];rfl
def dMk(b:Nat):(c:Int)->Decidable (0<=c/\(b:Int)*c<=281474976710656)
 |.ofNat n=>match h:Nat.ble (b*n) 281474976710656 with
  |true=>.isTrue ⟨Ok n,by have d:=Ys h;have a:((b*n:Nat):Int)<=((281474976710656:Nat):Int):=Int.ofNat_le.2 d;rw [NW]at a;exact a⟩
  |false=>.isFalse fun⟨_,a⟩=>by
   have e:((b*n:Nat):Int)<=((281474976710656:Nat):Int):=by rw [NW];exact a
   rw [Nat.ble_eq_true_of_le (Int.ofNat_le.1 e)]at h;cases h
 |.negSucc n=>.isFalse fun⟨d,_⟩=>absurd d aA0
instance instOk64:(a:Int)->Decidable (bZ a)
 |.ofNat n=>if h:Nat.ble n 9223372036854775807=true then .isTrue (show bZ (n:Int)from⟨aA0,by have:=Ys h;omega⟩)else .isFalse fun q=>h (Nat.ble_eq▸(by have:(n:Int)<=9223372036854775807:=q.hi;omega))
 |.negSucc n=>if h:Nat.ble n 9223372036854775807=true then .isTrue ⟨by have:=Ys h;rw [Int.negSucc_eq];omega,by rw [Int.negSucc_eq];omega⟩else .isFalse fun q=>h (Nat.ble_eq▸(by have:=q.lo;rw [Int.negSucc_eq]at this;omega))
structure tC {α:Type} (f:α->List Value) (sz:Nat):Prop where
 len:∀x,(f x).length=sz
 one:∀x,∀v∈f x,v.oneCell'=true
def eS(s:aC):List Value:=[str s]
def eB(c:UInt8):List Value:=[bt c]
theorem E5:tC eS 1:=⟨fun _=>rfl,fun x v h=>by simp [eS]at h;subst h;rfl⟩
theorem sI:tC eB 1:=⟨fun _=>rfl,fun x v h=>by simp [eB]at h;subst h;rfl⟩
theorem oZ(l:List UInt8):l.flatMap eB=l.map bt:=by induction l with
 |nil=>rfl
 |cons c l a=>rw [kS,a];rfl
variable {f:a->List Value}{e:Nat}
theorem tC.flat(h:tC f e)(l:List a):(l.flatMap f).length=l.length*e:=D2 f e h.len l
theorem tC.cells(h:tC f e)(l:List a):∀v∈l.flatMap f,v.oneCell'=true:=by intro v α;obtain⟨x,_,hx⟩:=lW.1 α;exact h.one x v hx
def aW(f:a->List Value)(e sz:Nat)(o:Option Nat)(α:Option Addr)(cap:Nat)(l:List a):cF:=
 ⟨o,fun ob=>(o=none/\l=[]/\cap=0/\α=none)\/
  ∃g b,o=some g/\α=some ⟨g,0,none⟩/\ob=some (.cells b e (0,0))/\l.length<=cap/\cap<=maxLen/\b.size=cap*sz/\b.toList.take (l.length*sz)=l.flatMap f⟩
variable {c w:World}{S:List Nat}{L:List cF}
theorem Hp.dG(h:Hp c S L w)(f:a->List Value)(e sz:Nat)(α:Option Addr):Hp c S (aW f e sz none none 0 []::L) w:=by
 refine⟨h.os,h.tape,h.output,h.size,h.below,fun r m=> ?_, ?_⟩
 ·rcases aP.1 m with rfl|m
  ·exact⟨.inl ⟨rfl,rfl,rfl,rfl⟩,fun b d=>by simp [aW]at d⟩
  ·exact h.res r m
 ·refine List.Pairwise.cons (fun r _ b d=>by simp [aW]at d) h.sep
variable {g h:Nat}{o:Option Nat}{b:Option Addr}{l:List a}
theorem Hp.iO(α:Hp c S L w)(k:Nat)(p:L[k]? =some (aW f e g o b h l)):Rd w b (l.flatMap f):=by
 obtain⟨r,_⟩:=α.res _ (aI p);rcases r with⟨_,rfl,_⟩|⟨u,m,n,rfl,d,_,_,_,t⟩
 ·exact Rd.nil _ _
 ·intro j v s;refine⟨_,rfl, ?_⟩;rw [NO];have q:w.heap[u]? =some (.cells m e (0,0)):=by have i:o=some u:=n;subst i;simpa [aW] using d
  simp only [World.cell?,q,Gz];rw [<-t,bO]at s;split at s
  ·simpa using s
  ·cases s
theorem Hp.Zv{z:Nat}(α:Hp c S L w)(s:tC f g)(k:Nat)(o:L[k]? =some (aW f e g (some z) b h l)):
  b=some ⟨z,0,none⟩/\Hp c S (L.set k (row (.slice b l.length h) e g l.length (l.flatMap f))) w:=by
 obtain⟨u,t⟩:=α.res _ (aI o);rcases u with⟨r,_⟩|⟨v,n,q,rfl,d,m,j,i,y⟩
 ·cases r
 ·cases q;refine⟨rfl,α.change k _ _ o rfl rfl rfl (eV _) (fun _ _ _=>rfl) ?_ ?_⟩
  ·exact⟨s.flat l,.inr ⟨z,h,n,rfl,d,m,j,i,y⟩⟩
  ·intro x p;simp [row,Bl]at p;subst p;exact⟨.inl rfl,(t z rfl).1⟩
theorem Hp.Jn{f:a->List Value}{l:List a}(α:Hp c S L w)(k:Nat)(j:L[k]? =some (row (.slice b l.length h) e g l.length (l.flatMap f))):
  ∃o,Hp c S (L.set k (aW f e g o b h l)) w:=by
 obtain⟨x,v⟩:=α.res _ (aI j);obtain⟨y,s⟩:=x;rcases s with⟨A,u⟩|⟨B,r,q,A,t,p,n,m,i⟩
 ·simp only [Value.slice.injEq]at A;obtain⟨rfl,-,rfl⟩:=A;refine⟨none,α.change k _ _ j rfl rfl rfl (eV _) (fun _ _ _=>rfl) (.inl ⟨rfl,Fp u,rfl,rfl⟩) (fun z d=>by simp [aW]at d)⟩
 ·simp only [Value.slice.injEq]at A;obtain⟨rfl,-,rfl⟩:=A;refine⟨some B,α.change k _ _ j rfl rfl rfl (eV _) (fun _ _ _=>rfl) (.inr ⟨B,q,rfl,rfl,t,p,n,m,i⟩) (fun z d=> ?_)⟩;simp [aW]at d;subst d;exact⟨.inl (by simp [row,Bl]),(v B (by simp [row,Bl])).1⟩
theorem Hp.Tf{cs:List Value}{f:a->List Value}(h:Hp c S L w)(k sz m:Nat)(l:List a)(d:L[k]? =some (aQ e cs g))(i:tC f sz)(α:l.flatMap f=cs)(n:l.length=m)(j:m<=maxLen):
  Hp c S (L.set k (aW f g sz (some e) (some ⟨e,0,none⟩) m l)) w:=by
 have q:=h.dV k d;subst α;subst n;refine h.change k _ _ d rfl rfl rfl (eV _) (fun _ _ _=>rfl) ?_ ?_
 ·exact .inr ⟨e,_,rfl,rfl,q,eV _,j,by simpa using i.flat l,by rw [<-i.flat l];exact xC⟩
 ·intro b' b;simp [aW]at b;subst b;exact⟨.inl rfl,(cI.1 q).1⟩
theorem Hp.cuts(α:Hp c S L w)(s:tC f g)(k:Nat)(p:L[k]? =some (aW f e g o b h l))(m:Nat):
  Hp c S (L.set k (aW f e g o b h (l.take m))) w:=by
 obtain⟨u,t⟩:=α.res _ (aI p);refine α.change k _ _ p rfl rfl rfl (eV _) (fun _ _ _=>rfl) ?_ (fun x q=>⟨.inl q,(t x q).1⟩);rcases u with⟨rfl,rfl,rfl,rfl⟩|⟨z,n,rfl,rfl,d,r,j,i,y⟩
 ·exact .inl ⟨rfl,aA2,rfl,rfl⟩
 ·refine .inr ⟨z,n,rfl,rfl,d,by simp;omega,j,i, ?_⟩;have v:(l.take m).flatMap f=(l.flatMap f).take ((l.take m).length*g):=by
   have:l.flatMap f=(l.take m).flatMap f++(l.drop m).flatMap f:=by rw [<-SN,JF]
   rw [this,<-s.flat (l.take m),Ov]
  rw [v,<-y,L4,NV (TO _ aA5)]
section
variable {P:Program}{n:Md}{ops:Array Oper}{Q:Exit->Act->World->Prop}{F:Nat->Value}{w w0:World}{S:List Nat}{L:List cF}
variable {d:Nat}{ty:TypeId}{pos:String}{after:Array Edge}{rest:List Oper}{α:Type}{f:α->List Value}
theorem SD{a:Type}(l:List a)(k:Nat)(x y:a):(l.set k x).set k y=l.set k y:=aA2
variable {x y:Operand}{t:TypeId}
theorem NR(hH:Hp w0 S L w)(k:Nat)(o:Option Nat)(a G:Option Addr)(cap cx e sz s:Nat)(l c:List α)(C:tC f sz)(J:L[k]? =some (aW f e sz o a cap l))(O:P.underlying t=some (.slice e))(hT:TI P e sz s)(D:0<sz)(a6:0<s)
  (hx:aX n F x=.slice a l.length cap) (Y:aX n F y=.slice G c.length cx) (X:Rd w G (c.flatMap f)) (M:(l.length+c.length)*s<=140737488355328)
  (h:∀o' a' cap' w',Hp w0 S (L.set k (aW f e sz o' a' cap' (l++c))) w'->W P n ops Q rest (eF F d (.slice a' (l++c).length cap')) w'):
  W P n ops Q (⟨some d,.call ⟨.builtin .append, #[x,y], #[t,t]⟩,ty,pos,after,none⟩::rest) F w:=by
 have B:l.length+c.length<=9223372036854775807:=by have:l.length+c.length<=(l.length+c.length)*s:=Nat.le_mul_of_pos_right _ a6;omega
 have N:∀a' cap' w',Hp w0 S (L.set k (row (.slice a' (l.length+c.length) cap') e sz (l.length+c.length) (l.flatMap f++c.flatMap f))) w'->W P n ops Q rest (eF F d (.slice a' (l.length+c.length) cap')) w':=by intro a' cap' w' R;rw [<-bM,<-SN]at R;rw [<-bM];have m:k<L.length:=(aD.1 J).1;obtain⟨o',r⟩:=R.Jn k (bG m);rw [SD]at r;exact h o' a' cap' w' r
 have m:k<L.length:=(aD.1 J).1;cases o with
 |some g=>obtain⟨rfl,R⟩:=hH.Zv C k J;refine Yy R k (some ⟨g,0,none⟩) G l.length cap c.length cx e sz s (l.flatMap f) (c.flatMap f) (bG m) O hT D hx Y X (C.flat c) (C.cells c) M B ?_;intro a' cap' w' r;rw [SD]at r;exact N a' cap' w' r
 |none=>
  obtain⟨R,_⟩:=hH.res _ (aI J);have a9:l=[]/\cap=0:=by
   rcases R with⟨_,r,h3,_⟩|⟨g,c1,r,_⟩
   ·exact⟨r,h3⟩
   ·cases r
  obtain⟨rfl,rfl⟩:=a9;have v:Hp w0 S (L.set k (row (.slice none 0 0) e sz 0 [])) w:=hH.change k _ _ J rfl rfl rfl (eV _) (fun _ _ _=>rfl) ⟨aA2,.inl ⟨rfl,rfl⟩⟩ (fun b M=>by simp [row,Bl]at M);cases a with
  |none=>refine Yy v k none G 0 0 c.length cx e sz s [] (c.flatMap f) (bG m) O hT D hx Y X (C.flat c) (C.cells c) (by simpa using M) (by simpa using B) ?_;intro a' cap' w' r;rw [SD]at r;exact N a' cap' w' (by simpa using r)
  |some p=>
   obtain⟨i,z,hi,hz,hs,a7,b3⟩:=hT.parts;subst hs;subst a7;by_cases hm:c=[]
   ·subst hm;have E:(Builtin.firstCells i.size 0 (.slice G 0 cx)).run P w=.ok #[] w:=by
     cases G with
     |none=>simp [Builtin.firstCells]
     |some p=>simp [Builtin.firstCells,loadCells,loadCellsFrom]
    have T:(Builtin.append_ #[t,t] ty #[.slice (some p) 0 0,.slice G 0 cx]).run P w=.ok (.slice (some p) 0 0) w:=by simp [Builtin.append_,run_underlying O,sizeOf,typeInfo,hi,Builtin.lenOf,E,storeCells]
    refine gM (w':=w) rfl rfl ?_ (h none (some p) 0 w ?_)
    ·have a2:aX n F y=.slice G 0 cx:=Y;have H:aX n F x=.slice (some p) 0 0:=hx;simp [execOp,resolve,invoke,builtin,H,a2,T]
    ·have e:L.set k (aW f e i.size none (some p) 0 ([]++[]))=L:=by
      apply cL;intro j;by_cases V:j=k
      ·subst V;simp [m,J];have:=J;rw [aM m]at this;exact(aJ this).symm
      ·rw [Be (fun e=>V e.symm)]
     rw [e];exact hH
   ·have U:0<c.length:=bK.2 hm;cases G with
    |none=>
     have:c.flatMap f=[]:=by
      cases Z:c.flatMap f with
      |nil=>rfl
      |cons u us=>obtain⟨p,hp,_⟩:=X 0 u (by rw [Z];rfl);cases hp
     have:=C.flat c;rename_i h0;rw [h0]at this;have:=Tt U D;simp at*
     omega
    |some q=>
     have A:∀j u,(c.flatMap f)[j]? =some u->w.cell? (q.add j)=some u:=by intro j u hu;obtain⟨q',Z,hc⟩:=X j u hu;simp at Z;subst Z;exact hc
     have K:=run_append_grow (P:=P) w t ty e i z O hi hz p 0 0 [] aA2 (fun j u hu=>by simp at hu) q c.length cx (c.flatMap f) (C.flat c) A aA0 (by simp at B⊢;omega) (growslice_fits aA0 (by simpa using M));have a5:=run_append_nil (P:=P) w t ty e i z O hi hz q c.length cx (c.flatMap f) (C.flat c) A aA0 (by simp at B⊢;omega) (by simp at M;omega);have I:(Builtin.append_ #[t,t] ty #[.slice (some p) 0 0,.slice (some q) c.length cx]).run P w=(Builtin.append_ #[t,t] ty #[.slice none 0 0,.slice (some q) c.length cx]).run P w:=by rw [a5,K];simp
     obtain⟨a',cap',w',hr,ho,hg,hn⟩:=KD (P:=P) (ty:=ty) (cx:=cx) t O hT D (v.ownsRow (k:=k) (bG m)) X (C.flat c) (C.cells c) (by unfold maxLen;simp at B⊢;omega) (by simpa using M);have r:=v.grown (k:=k) (bG m) hg ho hn;rw [SD]at r;have h3:=N a' cap' w' (by simpa using r);refine gM (w':=w') rfl rfl ?_ (by simpa using h3);have H:aX n F x=.slice (some p) 0 0:=hx;rw [<-I]at hr;simp [execOp,resolve,invoke,builtin,H,Y,hr]
theorem P1(s:Hp w0 S L w)(e sz b:Nat)(kl i:IntKind)(c:Int)(m:P.underlying t=some (.slice e))(r:TI P e sz b)(q:0<b)(hx:aX n F x=.int kl 0)(k:aX n F y=.int i c)
  (g:0<=c/\(b:Int)*c<=281474976710656)
  (h:∀o a cap w',Hp w0 S (aW f e sz o a cap []::L) w'->W P n ops Q rest (eF F d (.slice a 0 cap)) w'):
  W P n ops Q (⟨some d,.makeSlice t x y,ty,pos,after,none⟩::rest) F w:=by
 have p:c<=9223372036854775807:=by have j:(1:Int)*c<=b*c:=Int.mul_le_mul_of_nonneg_right aA0 g.1;omega
 refine P4 s e sz b kl i c m r hx k g.1 g.2 p ?_;intro a cap w' j;obtain⟨o,u⟩:=j.Jn (f:=f) (l:=([]:List α)) 0 rfl;exact h o a cap w' u
theorem qQ(a:Option Addr)(m c e sz:Nat)(q:IntKind)(i:Int)(h:P.underlying t=some (.slice e))(j:(sizeOf e).run P w=.ok sz w)(hx:aX n F x=.slice a m c)(o:aX n F y=.int q i)
  (l:List α) (k:m=l.length) (p:0<=i/\i<(l.length:Int)) (r:Rd w a (l.flatMap f)) (s:tC f sz) (b:0<sz):
  (execOp (aX n F) (⟨some d,.indexAddr t x y,ty,pos,after,none⟩:Oper)).run P w=.ok (.value (.pointer (some (ea a (i.toNat*sz))))) w:=by
 subst k;refine UD a l.length c e sz q i h j hx o p (r.some_ ?_);rw [s.flat];exact Tt aA0 b
theorem Qa(a:Option Addr)(m c e sz:Nat)(q:IntKind)(i:Int)(j:P.underlying t=some (.slice e))(k:(sizeOf e).run P w=.ok sz w)(hx:aX n F x=.slice a m c)(p:aX n F y=.int q i)
  (l:List α) (o:m=l.length) (r:0<=i/\i<(l.length:Int)) (s:Rd w a (l.flatMap f)) (u:tC f sz) (b:0<sz) (h:W P n ops Q rest (eF F d (.pointer (some (ea a (i.toNat*sz))))) w):
  W P n ops Q (⟨some d,.indexAddr t x y,ty,pos,after,none⟩::rest) F w:=gM rfl rfl (qQ a m c e sz q i j k hx p l o r s u b) h
theorem Yu[Inhabited α](a:Option Addr)(f:α->List Value)(l:List α)(sz:Nat)(i:Int)(e:tC f sz)(k:Rd w a (l.flatMap f))(vs:List Value)(h:0<=i/\i<(l.length:Int))(c:f (el l i)=vs)
  (hx:aX n F x=.pointer (some (ea a (i.toNat*sz)))) (j:(isAgg t).run P w=.ok true w) (g:(sizeOf t).run P w=.ok sz w) (b:0<sz):
  (execOp (aX n F) (⟨some d,.load t x,ty,pos,after,none⟩:Oper)).run P w=.ok (.value (.agg vs.toArray)) w:=
 eu a (l.flatMap f) vs (i.toNat*sz) sz k (by rw [zY f sz e.len l i h,c]) (by rw [<-c];exact e.len _) b hx j g
theorem xT[Inhabited α](a:Option Addr)(f:α->List Value)(l:List α)(sz:Nat)(i:Int)(m:tC f sz)(k:Rd w a (l.flatMap f))(vs:List Value)(g:0<=i/\i<(l.length:Int))(c:f (el l i)=vs)
  (hx:aX n F x=.pointer (some (ea a (i.toNat*sz)))) (j:(isAgg t).run P w=.ok true w) (e:(sizeOf t).run P w=.ok sz w) (b:0<sz) (h:W P n ops Q rest (eF F d (.agg vs.toArray)) w):
  W P n ops Q (⟨some d,.load t x,ty,pos,after,none⟩::rest) F w:=gM rfl rfl (Yu a f l sz i m k vs g c hx j e b) h
theorem Ij[Inhabited α](a:Option Addr)(f:α->List Value)(l:List α)(sz:Nat)(i:Int)(off:Nat)(j:tC f sz)(h:Rd w a (l.flatMap f))(v:Value)(e:0<=i/\i<(l.length:Int))(c:off<sz)(b:(f (el l i))[off]? =some v)
  (hx:aX n F x=.pointer (some (ea a (i.toNat*sz+off)))) (g:(isAgg t).run P w=.ok false w):
  (execOp (aX n F) (⟨some d,.load t x,ty,pos,after,none⟩:Oper)).run P w=.ok (.value v) w:=
 ew a (l.flatMap f) (i.toNat*sz+off) v h (D3 f sz off j.len l i v e c b) hx g
theorem xS[Inhabited α](a:Option Addr)(f:α->List Value)(l:List α)(sz:Nat)(i:Int)(off:Nat)(k:tC f sz)(j:Rd w a (l.flatMap f))(v:Value)(e:0<=i/\i<(l.length:Int))(c:off<sz)(b:(f (el l i))[off]? =some v)
  (hx:aX n F x=.pointer (some (ea a (i.toNat*sz+off)))) (g:(isAgg t).run P w=.ok false w) (h:W P n ops Q rest (eF F d v) w):
  W P n ops Q (⟨some d,.load t x,ty,pos,after,none⟩::rest) F w:=gM rfl rfl (Ij a f l sz i off k j v e c b hx g) h
theorem Fb(sz:Nat)(a:tC f sz):∀(l:List α) (j:Nat) (y:α),j<l.length->Gk (l.flatMap f) (j*sz) (f y)=(l.set j y).flatMap f
 |[],j,y,h=>by simp at h
 |x::l,0,y,h=>by unfold Gk;simp only [IY,List.take_zero,mQ,Gz,Og,kS,a.len];rw [<-a.len x,Fq]
 |x::l,j+1,y,h=>by have b:=Fb sz a l j y aA9;unfold Gk at*;simp only [Oh,kS,<-b];rw [dF,Gy (j*sz) sz,Bn sz,<-a.len x,List.take_length_add_append,List.drop_length_add_append];simp [gJ]
theorem Hp.zv{k e sz cap j:Nat}{o:Option Nat}{a:Option Addr}{l:List α}{y:α}(s:Hp w0 S L w)(d:tC f sz)(u:0<sz)(n:L[k]? =some (aW f e sz o a cap l))(h:j<l.length):
  ∃w',(storeCells (ea a (j*sz)) (f y)).run P w=.ok () w'/\Hp w0 S (L.set k (aW f e sz o a cap (l.set j y))) w':=by
 cases o with
 |none=>
  exfalso;obtain⟨q,_⟩:=s.res _ (aI n);rcases q with⟨_,c,_⟩|⟨g,r,c,_⟩
  ·subst c;simp at h
  ·cases c
 |some g=>
  obtain⟨rfl,q⟩:=s.Zv d k n;have b:k<L.length:=(aD.1 n).1;have p:j*sz+sz<=l.length*sz:=by rw [<-dF];exact TO _ h
  obtain⟨w',v,c⟩:=q.VU (P:=P) (k:=k) (vs:=f y) (j:=j*sz) (bG b) (by rw [d.len,d.flat];exact p) (d.one y) (by intro C;have:=d.len y;rw [C]at this;simp at this;omega);refine⟨w',v, ?_⟩;rw [SD,Fb sz d l j y h]at c;have z:l.length=(l.set j y).length:=aA2
  rw [z]at c;obtain⟨o',m⟩:=c.Jn (k:=k) (l:=l.set j y) (bG b);rw [SD]at m;have x:o'=some g:=by
   obtain⟨B,_⟩:=m.res _ (aI (bG b));rcases B with⟨t,i,_⟩|⟨D,r,t,i,_⟩
   ·exfalso;have:(l.set j y).length=0:=by have A:l.set j y=[]:=i;rw [A];rfl
    simp at this;subst this;simp at h
   ·simp only [aU,Addr.mk.injEq,Oc]at i;rw [i];exact t
  rw [x]at m;exact m
theorem yw{y:Operand}[Inhabited α](s:Hp w0 S L w)(k:Nat)(o:Option Nat)(a:Option Addr)(cap e sz:Nat)(i:Int)(l:List α)(z:α)(r:L[k]? =some (aW f e sz o a cap l))(d:tC f sz)(vs:List Value)(u:0<=i/\i<(l.length:Int))(j:f z=vs)
  (hx:aX n F x=.pointer (some (ea a (i.toNat*sz)))) (g:aX n F y=.agg vs.toArray) (b:0<sz) (m:(sizeOf t).run P w=.ok sz w)
  (h:∀w',Hp w0 S (L.set k (aW f e sz o a cap (l.set i.toNat z))) w'->W P n ops Q rest F w'):W P n ops Q (⟨none,.store t x y,ty,pos,after,none⟩::rest) F w:=by
 subst j;obtain⟨w',p,c⟩:=s.zv (P:=P) (y:=z) d b r (show i.toNat<l.length by omega);refine vV (w':=w') rfl rfl ?_ (h w' c);have q:=d.len z;simp [execOp,hx,g,Instr.storeAt,Instr.sureAddr,storeVar,m,Value.cells,p,q]
theorem RC(sz off:Nat)(a:tC f sz)[Inhabited α](l:List α)(j:Nat)(y:α)(v:Value)(c:j<l.length)(g:off<sz)(b:f y=(f (l.getD j default)).set off v):Gk (l.flatMap f) (j*sz+off) [v]=(l.set j y).flatMap f:=by
 have d:Gk (l.flatMap f) (j*sz+off) [v]=(l.flatMap f).set (j*sz+off) v:=by
  unfold Gk;rw [zbK,aB (by rw [a.flat];calc j*sz+off<j*sz+sz:=by omega
   _=(j+1)*sz:=by rw [dF]
   _<=l.length*sz:=TO _ c)]
  simp
 rw [d];clear d;induction l generalizing j with
 |nil=>simp at c
 |cons x l e=>
  cases j with
  |zero=>simp only [IY,Gz,kS,Og];simp at b;rw [b,L5 _ _ (by rw [a.len];exact g)]
  |succ j=>simp only [kS,Oh];rw [dF,gE _ _ (by rw [a.len];omega),a.len];rw [show j*sz+sz+off-sz=j*sz+off by omega];rw [e j aC3 aB6]
theorem fj[Inhabited α](G:Hp w0 S L w)(k:Nat)(o:Option Nat)(a:Option Addr)(cap e sz:Nat)(i:Int)(off:Nat)(l:List α)(z:α)(u:L[k]? =some (aW f e sz o a cap l))(d:tC f sz)(v:Value)(R:0<=i/\i<(l.length:Int))
  (D:f z=(f (el l i)).set off v) (hx:aX n F x=.pointer (some (ea a (i.toNat*sz+off)))) (J:aX n F y=v) (K:(sizeOf t).run P w=.ok 1 w) (E:off<sz)
  (h:∀w',Hp w0 S (L.set k (aW f e sz o a cap (l.set i.toNat z))) w'->W P n ops Q rest F w'):W P n ops Q (⟨none,.store t x y,ty,pos,after,none⟩::rest) F w:=by
 have B:i.toNat<l.length:=aA0;have r:v.oneCell'=true:=d.one z v (by rw [D];exact aI (bG (by rw [d.len];exact E)));have b:v.cells= #[v]:=by cases v<;>first|rfl|simp [Value.oneCell']at r
 cases o with
 |none=>
  exfalso;obtain⟨r,_⟩:=G.res _ (aI u);rcases r with⟨_,m,_⟩|⟨g,C,m,_⟩
  ·subst m;simp at B
  ·cases m
 |some g=>
  obtain⟨rfl,m⟩:=G.Zv d k u;have c:k<L.length:=(aD.1 u).1;have A:i.toNat*sz+off+1<=l.length*sz:=by
   calc i.toNat*sz+off+1<=i.toNat*sz+sz:=by omega
    _=(i.toNat+1)*sz:=by rw [dF]
    _<=l.length*sz:=TO _ B
  obtain⟨w',M,I⟩:=m.VU (P:=P) (k:=k) (vs:=[v]) (j:=i.toNat*sz+off) (bG c) (by rw [d.flat];exact A) (by simpa using r) aA2;rw [SD,RC sz off d l i.toNat z v B E D,show l.length=(l.set i.toNat z).length by simp]at I;obtain⟨o',q⟩:=I.Jn (k:=k) (l:=l.set i.toNat z) (bG c);rw [SD]at q;have s:o'=some g:=by
   obtain⟨O,_⟩:=q.res _ (aI (bG c));rcases O with⟨H,p,_⟩|⟨T,C,H,p,_⟩
   ·exfalso;have N:l.set i.toNat z=[]:=p;have:(l.set i.toNat z).length=0:=by rw [N];rfl
    rw [oF]at this;omega
   ·simp only [aU,Addr.mk.injEq,Oc]at p;rw [p];exact H
  rw [s]at q;refine vV (w':=w') rfl rfl ?_ (h w' q);simp [execOp,hx,J,Instr.storeAt,Instr.sureAddr,storeVar,K,b,M]
theorem yx(d:Hp w0 S L w)(k:Nat)(a:Option Addr)(m cap:Nat)(i:Int)(l:List UInt8)(c:UInt8)(b:L[k]? =some (fL (.slice a m cap) m l))(g:0<=i/\i<(l.length:Int))
  (hx:aX n F x=.pointer (some (ea a (i.toNat*1)))) (e:aX n F y=bt c) (f:(sizeOf t).run P w=.ok 1 w)
  (h:∀w',Hp w0 S (L.set k (fL (.slice a m cap) m (l.set i.toNat c))) w'->W P n ops Q rest F w'):W P n ops Q (⟨none,.store t x y,ty,pos,after,none⟩::rest) F w:=
 UR d k a m cap (i.toNat*1) l c b (by have:=d.Xj k b;omega) hx e f aA9
theorem H3{a b:UInt8}:((a.toNat:Int)=(b.toNat:Int))↔a=b:=by
 constructor
 ·intro h;exact oD.1 aA0
 ·intro h;rw [h]
variable {a:TypeId}
theorem UM(e b:UInt8)(hx:aX n F x=bt e)(c:aX n F y=bt b):(execOp (aX n F) (⟨some d,.binOp .eql t x y a,ty,pos,after,none⟩:Oper)).run P w=.ok (.value (.bool (decide (e=b)))) w:=by rw [UG .u8 _ _ hx c];congr 3;exact eH.2 H3
theorem UL(e b:UInt8)(hx:aX n F x=bt e)(c:aX n F y=bt b):(execOp (aX n F) (⟨some d,.binOp .neq t x y a,ty,pos,after,none⟩:Oper)).run P w=.ok (.value (.bool (!decide (e=b)))) w:=by rw [TY .u8 _ _ hx c];congr 4;exact eH.2 H3
theorem ld(e b:UInt8)(hx:aX n F x=bt e)(c:aX n F y=bt b):(execOp (aX n F) (⟨some d,.binOp .lss t x y a,ty,pos,after,none⟩:Oper)).run P w=.ok (.value (.bool (decide (e<b)))) w:=by rw [UA .u8 _ _ hx c];congr 3;exact eH.2 (by rw [M1];omega)
theorem lf(e b:UInt8)(hx:aX n F x=bt e)(c:aX n F y=bt b):(execOp (aX n F) (⟨some d,.binOp .leq t x y a,ty,pos,after,none⟩:Oper)).run P w=.ok (.value (.bool (decide (e<=b)))) w:=by rw [UB .u8 _ _ hx c];congr 3;exact eH.2 (by rw [vN];omega)
theorem lh(e b:UInt8)(hx:aX n F x=bt e)(c:aX n F y=bt b):(execOp (aX n F) (⟨some d,.binOp .gtr t x y a,ty,pos,after,none⟩:Oper)).run P w=.ok (.value (.bool (decide (b<e)))) w:=by rw [UE .u8 _ _ hx c];congr 3;exact eH.2 (by rw [M1];omega)
theorem lj(e b:UInt8)(hx:aX n F x=bt e)(c:aX n F y=bt b):(execOp (aX n F) (⟨some d,.binOp .geq t x y a,ty,pos,after,none⟩:Oper)).run P w=.ok (.value (.bool (decide (b<=e)))) w:=by rw [UF .u8 _ _ hx c];congr 3;exact eH.2 (by rw [vN];omega)
theorem lq(e b:UInt8)(hx:aX n F x=bt e)(c:aX n F y=bt b):(execOp (aX n F) (⟨some d,.binOp .add t x y a,ty,pos,after,none⟩:Oper)).run P w=.ok (.value (bt (e+b))) w:=by rw [UI .u8 _ _ hx c];unfold bt;rw [UInt8.toNat_add,IntKind.wrap_u8];congr 3
theorem ky(e b:UInt8)(hx:aX n F x=bt e)(c:aX n F y=bt b):(execOp (aX n F) (⟨some d,.binOp .sub t x y a,ty,pos,after,none⟩:Oper)).run P w=.ok (.value (bt (e-b))) w:=by rw [TT .u8 _ _ hx c];unfold bt;rw [UInt8.toNat_sub,IntKind.wrap_u8];congr 3;have:=TP e;have:=TP b;omega
theorem lb(e b:UInt8)(hx:aX n F x=bt e)(c:aX n F y=bt b):(execOp (aX n F) (⟨some d,.binOp .mul t x y a,ty,pos,after,none⟩:Oper)).run P w=.ok (.value (bt (e*b))) w:=by rw [TZ .u8 _ _ hx c];unfold bt;rw [UInt8.toNat_mul,IntKind.wrap_u8];congr 3
theorem ofInt_u8(a:UInt8):BitVec.ofInt 8 (a.toNat:Int)=a.toBitVec:=by apply BitVec.eq_of_toNat_eq;have:=TP a;simp
theorem ll(e b:UInt8)(hx:aX n F x=bt e)(c:aX n F y=bt b):(execOp (aX n F) (⟨some d,.binOp .and t x y a,ty,pos,after,none⟩:Oper)).run P w=.ok (.value (bt (e&&&b))) w:=by rw [fg .u8 _ _ hx c];unfold bt ui;congr 3;show IntKind.u8.wrap ((BitVec.ofInt 8 (e.toNat:Int)&&&BitVec.ofInt 8 (b.toNat:Int)).toNat:Int)=_;rw [ofInt_u8,ofInt_u8,IntKind.wrap_u8];have:(e&&&b).toNat=(e.toBitVec&&&b.toBitVec).toNat:=rfl;have:=TP (e&&&b);omega
theorem yu(e b:UInt8)(hx:aX n F x=bt e)(c:aX n F y=bt b):(execOp (aX n F) (⟨some d,.binOp .or t x y a,ty,pos,after,none⟩:Oper)).run P w=.ok (.value (bt (e|||b))) w:=by rw [yp .u8 _ _ hx c];unfold bt orI;congr 3;show IntKind.u8.wrap ((BitVec.ofInt 8 (e.toNat:Int)|||BitVec.ofInt 8 (b.toNat:Int)).toNat:Int)=_;rw [ofInt_u8,ofInt_u8,IntKind.wrap_u8];have:(e|||b).toNat=(e.toBitVec|||b.toBitVec).toNat:=rfl;have:=TP (e|||b);omega
def Ut(c:UInt8)(i:Int):UInt8:=Fo (c.toNat/2^(min i.toNat 8))
def GI(c:UInt8)(i:Int):UInt8:=Fo (c.toNat*2^(min i.toNat 8))
def fq(i:Int):UInt8:=Fo (i%256).toNat
theorem UJ(k:IntKind)(i:UInt8)(b:Int)(hx:aX n F x=bt i)(c:aX n F y=.int k b)(f:0<=b):(execOp (aX n F) (⟨some d,.binOp .shr t x y a,ty,pos,after,none⟩:Oper)).run P w=.ok (.value (bt (Ut i b))) w:=by have e:(0:Int)<2^(min b.toNat IntKind.u8.bits):=Int.pow_pos aA1;rw [ep .u8 k _ b _ hx c f rfl e];unfold bt Ut;congr 3;show(i.toNat:Int)/2^(min b.toNat 8)=_;have h:=TP i;have g:i.toNat/2^(min b.toNat 8)<=i.toNat:=Nat.div_le_self _ _;rw [pO,FC aA0];simp
theorem UK(k:IntKind)(g:UInt8)(b:Int)(hx:aX n F x=bt g)(c:aX n F y=.int k b)(e:0<=b):(execOp (aX n F) (⟨some d,.binOp .shl t x y a,ty,pos,after,none⟩:Oper)).run P w=.ok (.value (bt (GI g b))) w:=by rw [er .u8 k _ b _ hx c e rfl];unfold bt GI;congr 3
theorem TS(k:IntKind)(s:Int)(c:P.underlying t=some (.int k))(b:P.underlying a=some (.int .u8))(hx:aX n F x=.int k s):(execOp (aX n F) (⟨some d,.convert t a x,ty,pos,after,none⟩:Oper)).run P w=.ok (.value (bt (fq s))) w:=by rw [FV .u8 k s c b hx];unfold bt fq;rw [IntKind.wrap_u8];congr 3;have f:0<=s%256:=Int.emod_nonneg _ aA1;have e:s%256<256:=Int.emod_lt_of_pos _ aA1;rw [pO,FC aA0];omega
theorem Bt(e b:UInt8)(hx:aX n F x=bt e)(c:aX n F y=bt b)(h:W P n ops Q rest (eF F d (.bool (decide (e=b)))) w):W P n ops Q (⟨some d,.binOp .eql t x y a,ty,pos,after,none⟩::rest) F w:=gM rfl rfl (UM e b hx c) h
theorem IH(e b:UInt8)(hx:aX n F x=bt e)(c:aX n F y=bt b)(h:W P n ops Q rest (eF F d (.bool (!decide (e=b)))) w):W P n ops Q (⟨some d,.binOp .neq t x y a,ty,pos,after,none⟩::rest) F w:=gM rfl rfl (UL e b hx c) h
theorem lr(k:IntKind)(s:Int)(c:P.underlying t=some (.int k))(b:P.underlying a=some (.int .u8))(hx:aX n F x=.int k s)(h:W P n ops Q rest (eF F d (bt (fq s))) w):W P n ops Q (⟨some d,.convert t a x,ty,pos,after,none⟩::rest) F w:=gM rfl rfl (TS k s c b hx) h
theorem Yv(c:UInt8):IntKind.wrap .i64 (c.toNat:Int)=c.toNat:=by rw [IntKind.wrap_i64];have:=TP c;omega
theorem kv(e b:Int)(hx:aX n F x=.int .i64 e)(c:aX n F y=.int .i64 b)(g:0<=e/\0<b/\bZ e):(execOp (aX n F) (⟨some d,.binOp .quo t x y a,ty,pos,after,none⟩:Oper)).run P w=.ok (.value (.int .i64 (e/b))) w:=
 ey .i64 e b hx c g.1 g.2.1 (vq (by have:=Int.ediv_nonneg g.1 (Int.le_of_lt g.2.1);omega) (by have:=Int.ediv_le_self b g.1;have:=g.2.2.2;omega))
theorem ku(e b:Int)(hx:aX n F x=.int .i64 e)(c:aX n F y=.int .i64 b)(g:0<=e/\0<b/\bZ e):(execOp (aX n F) (⟨some d,.binOp .rem t x y a,ty,pos,after,none⟩:Oper)).run P w=.ok (.value (.int .i64 (e%b))) w:=
 et .i64 e b hx c g.1 g.2.1 (vq (by have:=Int.emod_nonneg e (show b≠0 by omega);omega) (by have:=Int.emod_nonneg e (show b≠0 by omega);have:e%b<=e:=(by rw [Int.emod_def];have:=Int.mul_nonneg (Int.le_of_lt g.2.1) (Int.ediv_nonneg g.1 (Int.le_of_lt g.2.1));omega);have:=g.2.2.2;omega))
end
theorem toNat_le{t:Int}{m cap:Nat}(h:0<=t/\t<=(m:Int))(a:m<=cap):t.toNat<=cap:=aA0
theorem Hp.Et{w0 w:World}{S:List Nat}{L:List cF}{α:Type}{f:α->List Value}{e sz cap:Nat}{o:Option Nat}{a:Option Addr}{l:List α}(h:Hp w0 S L w)(k:Nat)(b:L[k]? =some (aW f e sz o a cap l)):l.length<=cap:=by
 obtain⟨d,_⟩:=h.res _ (aI b);rcases d with⟨_,rfl,rfl,_⟩|⟨g,i,_,_,_,c,_⟩
 ·exact eV _
 ·exact c
section
variable {P:Program}{n:Md}{ops:Array Oper}{Q:Exit->Act->World->Prop}{F:Nat->Value}{w w0:World}{S:List Nat}{L:List cF}
variable {d:Nat}{ty:TypeId}{pos:String}{after:Array Edge}{rest:List Oper}{α:Type}{f:α->List Value}
variable {t e:TypeId}
theorem MT(a:P.underlying t=some (.slice e)):P.elem t=e:=by simp [Program.elem,a]
variable {x g:Operand}
theorem TU(a:Option Addr)(m c e sz:Nat)(k:IntKind)(j:Int)(h:P.underlying t=some (.slice e))(p:(sizeOf e).run P w=.ok sz w)(hx:aX n F x=.slice a m c)(f:aX n F g=.int k j)(l:List α)(r:m=l.length)
  (q:0<=j/\j<=(l.length:Int)) (s:m<=c):(execOp (aX n F) (⟨some d,.slice t x none (some g) none,ty,pos,after,none⟩:Oper)).run P w=.ok (.value (.slice a j.toNat c)) w:=by
 have i:=MT h;have b:P.underlying t=some (.slice (P.elem t)):=by rw [i];exact h
 have o:=run_slice_h (P:=P) w t a m c b k j q.1 aA0;rw [i,p]at o;simp only [execOp,hx,f,Sem.run_bind,Yp,Ei,run_sliceAt_slice w t _ _ _ _ b,o,Result.andThen_ok,sliced];simp;intro _;cases a<;>simp [Addr.add]
theorem UT{f:Operand}(a:Option Addr)(m c e sz:Nat)(k:IntKind)(j:Int)(g:P.underlying t=some (.slice e))(i:(sizeOf e).run P w=.ok sz w)(hx:aX n F x=.slice a m c)(b:aX n F f=.int k j)(l:List α)(o:m=l.length)
  (q:0<=j/\j<=(l.length:Int)) (p:m<=c) (h:W P n ops Q rest (eF F d (.slice a j.toNat c)) w):W P n ops Q (⟨some d,.slice t x none (some f) none,ty,pos,after,none⟩::rest) F w:=
 gM rfl rfl (TU a m c e sz k j g i hx b l o q p) h
def R8(a:Option Addr)(cap b sz:Nat):Option Addr:=if cap=b then a else a.map (·.add (b*sz))
theorem TV(a:Option Addr)(m c e sz:Nat)(k:IntKind)(j:Int)(h:P.underlying t=some (.slice e))(p:(sizeOf e).run P w=.ok sz w)(hx:aX n F x=.slice a m c)(f:aX n F g=.int k j)(l:List α)(r:m=l.length)
  (q:0<=j/\j<=(l.length:Int)):(execOp (aX n F) (⟨some d,.slice t x (some g) none none,ty,pos,after,none⟩:Oper)).run P w=.ok (.value (.slice (R8 a c j.toNat sz) (m-j.toNat) (c-j.toNat))) w:=by
 have i:=MT h;have b:P.underlying t=some (.slice (P.elem t)):=by rw [i];exact h
 have o:=run_slice_l (P:=P) w t a m c b k j q.1 aA0;rw [i,p]at o;simp only [execOp,hx,f,Sem.run_bind,Yp,Ei,run_sliceAt_slice w t _ _ _ _ b,o,Result.andThen_ok,sliced,R8,Sem.run_pure]
theorem ys[Inhabited α]{e:TypeId}(f:α->List Value)(l:List α)(m:Nat)(k:IntKind)(i:Int)(cs:List Value)(v:Value)(r:l.map f=cs.map (fun c=>[c]))(p:P.underlying t=some (.array m e))(z:l.length=m)(u:(isAgg e).run P w=.ok false w)(q:(sizeOf e).run P w=.ok 1 w)
  (hx:aX n F x=.agg cs.toArray) (s:aX n F g=.int k i) (o:f (el l i)=[v]) (A:0<=i/\i<(l.length:Int)):(execOp (aX n F) (⟨some d,.index t x g,ty,pos,after,none⟩:Oper)).run P w=.ok (.value v) w:=by
 have j:i.toNat<l.length:=aA0;have a:(cs.map (fun c=>[c]))[i.toNat]? =some [v]:=by rw [<-r,bE,aM j];simp only [Yp];rw [<-o];simp [el,j]
 have y:cs[i.toNat]? =some v:=by
  rw [bE]at a;cases h:cs[i.toNat]? with
  |none=>rw [h]at a;simp at a
  |some c=>rw [h]at a;simp at a;rw [a]
 have b:0<=i/\i<(m:Int):=aA0;simp [execOp,hx,s,Instr.index,asIntOf,run_underlying p,b,q,part,u,y]
theorem Hz{w:World}(d:Nat)(a b:aC)(h:P.underlying t=some .string):(Op.equalIn (d+1) t (str a) (str b)).run P w=.ok (decide (a=b)) w:=by
 have e:((⟨a.toArray⟩:ByteArray).toList==(⟨b.toArray⟩:ByteArray).toList)=decide (a=b):=by rw [ByteArray.toList_eq,ByteArray.toList_eq,M3];simp
 unfold str;rw [run_equalIn_string w d t _ _ h,e]
def EqF(P:Program)(w:World)(c a:List Value):List Field->List Bool->Prop
 |[],[]=>True
 | f :: e, b :: g => f.name ≠ "_" /\ (∃ u v, (part f.type c.toArray f.offset).run P w = .ok u w /\ (part f.type a.toArray f.offset).run P w = .ok v w /\ ∀ d, (Op.equalIn (d + 1) f.type u v).run P w = .ok b w) /\ EqF P w c a e g
 |_,_=>False
theorem MS{w:World}{g e:List Value}(d:Nat):∀(a:List Field) (c:List Bool),EqF P w g e a c->(Op.eqFields (d+1) g.toArray e.toArray a).run P w=.ok (c.all id) w
 |[],[],_=>rfl
 |[],_::_,h=>h.elim
 |_::_,[],h=>h.elim
 |f::a,b::c,⟨n,⟨u,v,m,l,k⟩,j⟩=>by
  have i:=MS d a c j;simp only [Op.eqFields,n,ne_eq,not_false_eq_true,fM,Sem.run_bind,m,l,k d,Result.andThen_ok];cases b with
  |true=>simpa using i
  |false=>simp
variable {b:List Field}
theorem UH(y c:List Value)(f:List Bool)(r:Bool)(p:P.underlying t=some (.struct b.toArray))(k:P.stoodInHeld t=false)(l:P.eqGuardType P.depth t=false)(hx:aX n F x=.agg y.toArray)(i:aX n F g=.agg c.toArray)
  (m:EqF P w y c b f) (j:f.all id=r):(execOp (aX n F) (⟨some d,.binOp .neq t x g e,ty,pos,after,none⟩:Oper)).run P w=.ok (.value (.bool (!r))) w:=by
 have a:P.fieldsOf t=b.toArray:=by simp [Program.fieldsOf,p]
 have h:=run_equalIn_agg (P:=P) w 9999 t y.toArray c.toArray (by rw [a];exact p) k;rw [a]at h;have o:=MS 9998 b f m;simp only [execOp,hx,i,Sem.run_bind,run_eqGuard_agg w .neq t x g _ _ l,Result.andThen_ok,run_neq_struct,h,o,j];simp
theorem Yz(y a:List Value)(c:List Bool)(r:Bool)(m:P.underlying t=some (.struct b.toArray))(j:P.stoodInHeld t=false)(k:P.eqGuardType P.depth t=false)(hx:aX n F x=.agg y.toArray)(f:aX n F g=.agg a.toArray)
  (l:EqF P w y a b c) (i:c.all id=r) (h:W P n ops Q rest (eF F d (.bool (!r))) w):W P n ops Q (⟨some d,.binOp .neq t x g e,ty,pos,after,none⟩::rest) F w:=gM rfl rfl (UH y a c r m j k hx f l i) h
end
variable {w:World}{a:Option Addr}{l:List UInt8}
theorem Rd.bytes(h:Rd w a (l.flatMap eB)):Rd w a (l.map bt):=oZ l▸h
theorem Rd.jN(h:Rd w a (l.map bt)):Rd w a (l.flatMap eB):=(oZ l).symm▸h
variable {e:Type}{g:Nat}{f:e->List Value}{c:List e}
theorem Rd.zh(b:tC f g)(m:Nat)(h:Rd w a (c.flatMap f)):Rd w a ((c.take m).flatMap f):=by
 have l:(c.take m).flatMap f=(c.flatMap f).take ((c.take m).length*g):=by
  have:c.flatMap f=(c.take m).flatMap f++(c.drop m).flatMap f:=by rw [<-SN,JF]
  rw [this,<-b.flat (c.take m),Ov]
 rw [l];exact h.take _
variable {d:World}{S:List Nat}{L:List cF}{b:List Value}
theorem Rd.M6(h:Rd w a b)(i:Hp w S L d)(c:b≠[]->∀p,a=some p->p.block∉S):Rd d a b:=by
 cases b with
 |nil=>exact Rd.nil _ _
 |cons x b=>exact h.hpS i (c aA2)
theorem Rd.DX(α:tC f g)(cap k:Nat)(d:c.length<=cap)(h:Rd w a (c.flatMap f)):Rd w (R8 a cap k g) ((c.drop k).flatMap f):=by
 unfold R8;split
 ·rename_i l;rw [O4 aA0];exact Rd.nil _ _
 ·rw [<-Dp f g α.len c k];cases a with
  |none=>intro j v b;rw [bW]at b;obtain⟨p,hp,_⟩:=h _ v b;cases hp
  |some p=>exact h.drop (k*g)
theorem Hp.As{L1:List cF}(h:Hp w S L d)(m:Nat)(n:Rd w a b)(s:b≠[]->∀p,a=some p->p.block∉S)(o:L.take m=L1):
  b≠[]->∀p,a=some p->p.block∉dC L1:=by
 intro hx p f j;obtain⟨r,i,l⟩:=nF j;subst o;have c:=(h.res r (Bd i)).2 p.block l;rcases c.2 with g|g
 ·cases b with
  |nil=>exact hx rfl
  |cons x b=>obtain⟨q,e,k⟩:=n 0 x rfl;rw [f]at e;cases e;have:=Aj k;rw [vm]at this;omega
 ·exact s hx p f g
def jmp:Nat->Option Code
 |0=>none
 |1=>some .ret
 |n+2=>some (.exit n)
def SX(j:Nat):LoopState:=if j=0 then .ready else .done
def bY(l j:Nat)(a:Loop):cF:=⟨some l,fun o=>o=some (.loop {a with state:=SX j,pending:=jmp j})⟩
def Py(l:Nat)(a:Loop):cF:=⟨some l,fun o=>∃b,o=some (.loop {a with state:=.busy,pending:=b})⟩
def lR(r:Nat):cF:=⟨some r,fun o=>o=some (.deferred (some []))⟩
def gone(r:Nat):cF:=⟨some r,fun _=>True⟩
theorem Hp.put(h:Hp w S L d)(k b:Nat)(r r':cF)(o:Obj)(g:L[k]? =some r)(p:r.own=some b)(a:r'.own=some b)(m:r'.ok (some o)):Hp w S (L.set k r') (d.putObj b o):=by
 have l:=((h.res _ (aI g)).2 b p).1;refine h.change k _ _ g rfl rfl rfl aA2 (fun j n f=>World.putObj_heap_other (fun e=>f (by rw [p,e]))) ?_ (fun c i=> ?_)
 ·unfold cF.holds;rw [a];simp only [aY];rw [World.putObj_heap_same l];exact m
 ·rw [a]at i;cases i;exact⟨.inl p,by simpa using l⟩
theorem Hp.Xs(h:Hp w S L d)(o:Obj)(r:cF)(a:r.own=some d.heap.size)(i:r.ok (some o)):Hp w S (r::L) (d.alloc o):=by
 have f:Hp d [] [r] (d.alloc o):=by
  refine⟨rfl,rfl,rfl,aA2,fun k e _=>RowKit.Below.heap_alloc d _ k e,fun x hx=> ?_,aA2⟩;simp at hx;subst hx;refine⟨?_,fun b c=> ?_⟩
  ·unfold cF.holds;rw [a];show x.ok ((d.heap.push o)[d.heap.size]?);simpa using i
  ·rw [a]at c;cases c;simp
 exact h.mD f
def YR(P:Program)(l:Nat)(args:List Value)(w:World)(R:Value->World->Prop):Prop:=
 ∃f a gH b,(Instr.yield l args.toArray).run P w=.ok (.round l f a gH b) w/\RoundIn Fence.wide 0 P l f a gH b w (fun e w'=>∃v,e=.returned v/\R v w')
theorem YR.mono{P:Program}{l:Nat}{args:List Value}{w:World}{R b:Value->World->Prop}(h:YR P l args w R)(d:∀v w',R v w'->b v w'):YR P l args w b:=by obtain⟨f,a,gH,k,j,i⟩:=h;exact⟨f,a,gH,k,j,i.mono fun e w' ⟨v,c,g⟩=>⟨v,c,d v w' g⟩⟩
section
variable {P:Program}{ops:Array Oper}{Q:Exit->Act->World->Prop}{F:Nat->Value}{w w0:World}{S:List Nat}{L:List cF}
variable {d:Nat}{ty:TypeId}{pos:String}{after:Array Edge}{rest:List Oper}{k:Nat}{D:List Deferred}{ro:Option Nat}
variable {g:Operand}
theorem xQ{gH:Array Operand}{c:Array TypeId}(l:Nat)(vs:List Value)(R:Value->World->Prop)
  (m:aX ⟨k,D,some ro⟩ F g=.func (.yield l) #[] #[]) (p: #[]++gH.map (aX ⟨k,D,some ro⟩ F)++ #[]=vs.toArray) (o:YR P l vs w R) (h:∀v w',R v w'->W P ⟨k,D,some ro⟩ ops Q rest (eF F d v) w'):
  W P ⟨k,D,some ro⟩ ops Q (⟨some d,.call ⟨.value g,gH,c⟩,ty,pos,after,none⟩::rest) F w:=by
 obtain⟨f,b,i,t,s,r⟩:=o;have a:(execOp (aX ⟨k,D,some ro⟩ F) (⟨some d,.call ⟨.value g,gH,c⟩,ty,pos,after,none⟩:Oper)).run P w=.ok (.round l f b i t) w:=by simp only [execOp,resolve,m,Deferred.ofValue];show Sem.run P (Instr.yield l (#[]++gH.map (aX ⟨k,D,some ro⟩ F)++ #[])) w=_;rw [p];exact s
 unfold W WR;refine wpListIn_plain rfl fun K q=>⟨fun _ _=>trivial, ?_⟩;rw [NH,tP _ a (fun d e=>by cases e),a,Oper.uponIn_round];refine⟨fun h=>absurd h Bool.false_ne_true, ?_⟩;refine RoundIn.mono (F:=Fence.wide) (n:=0) r ?_;rintro e w' ⟨v,rfl,j⟩;refine q _ _ ?_;have:=h v w' j;unfold W WR at this;rw [<-lE]at this;exact this
variable {e:FuncId}{a:Func}{f:Code}{b:List Value}{R:Value->World->Prop}
theorem HT(d:P.funcs[e]? =some a)(g:a.body=some f)(j:a.ntmps=k)(i:b.length<=k)
  (h:C P ⟨k,[],some none⟩ (bodyPost P a fun c w'=>∃v,c=.returned v/\R v w') f (EV b) w):CR P e b w R:=by
 refine(callsIn_wide (n:=0)).1 (callsIn_of_wp d g trivial ?_);rw [j,Ws b k i];unfold C CC at h;exact h
theorem HS(d:P.funcs[e]? =some a)(g:a.body=some f)(j:a.ntmps=k)(i:b.length<=k)
  (h:C P ⟨k,[],some none⟩ (bodyPostM Fence.wide 0 P a fun c w'=>∃v,c=.returned v/\R v w') f (EV b) w):CR P e b w R:=by
 refine(callsIn_wide (n:=0)).1 (callsIn_of_wp_marks d g trivial ?_);rw [j,Ws b k i];unfold C CC at h;exact h
def mark(r:Nat):Deferred:={target:=.collected r,args:= #[]}
theorem ph(h:∃v,(results a (fr ⟨k,[],none⟩ F).tmps).run P w=.ok v w/\R v w):
  bodyPostM Fence.wide 0 P a (fun e w'=>∃v,e=.returned v/\R v w') .ret (fr ⟨k,[],some none⟩ F) w:=by
 obtain⟨v,b,i⟩:=h;exact⟨v,b,v,rfl,i⟩
theorem pg(c:Hp w0 S L w)(i r:Nat)(b:L[i]? =some (lR r))(h:∀w',Hp w0 S (L.set i (gone r)) w'->∃v,(results a (fr ⟨k,[],none⟩ F).tmps).run P w'=.ok v w'/\R v w'):
  bodyPostM Fence.wide 0 P a (fun e w'=>∃v,e=.returned v/\R v w') .ret (fr ⟨k,[mark r],some none⟩ F) w:=by
 have d:w.heap[r]? =some (.deferred (some [])):=(c.res _ (aI b)).1;obtain⟨v,g,f⟩:=h _ (c.put i r (lR r) (gone r) (.deferred none) b rfl rfl trivial);exact⟨aA2,.inl ⟨r,_,rfl,run_takeDeferred d,v,g,v,rfl,f⟩⟩
variable {l:Nat}
theorem KN{fn:Func}(j:List ResultVar)(vs:List Value)(v:Value)(e:fn.results=j.toArray)(f:j.length=vs.length)
  (d:∀(i:Nat) (x:ResultVar) (v:Value),j[i]? =some x->vs[i]? =some v->Xz P l F w x v) (b:(match vs with|[u]=>u|c=>.tuple c.toArray)=v) (h:R v w):
  ∃v,(results fn (fr ⟨l,[],none⟩ F).tmps).run P w=.ok v w/\R v w:=⟨v,rA j vs e f d v aC7,h⟩
theorem Ku{fn:Func}(l:List ResultVar)(vs:List Value)(v:Value)(f:fn.results=l.toArray)(g:l.length=vs.length)
  (d:∀(i:Nat) (x:ResultVar) (v:Value),l[i]? =some x->vs[i]? =some v->Xz P k F w x v) (b:(match vs with|[u]=>u|c=>.tuple c.toArray)=v) (h:R v w):
  bodyPostM Fence.wide 0 P fn (fun e w'=>∃v,e=.returned v/\R v w') .ret (fr ⟨k,[],some none⟩ F) w:=
 ph (KN l vs v f g d aC7 h)
theorem Wc{fn:Func}(o:Hp w0 S L w)(c r:Nat)(n:L[c]? =some (lR r))(l:List ResultVar)(vs:List Value)(v:Value)(j:fn.results=l.toArray)(m:l.length=vs.length)
  (g:∀w',Hp w0 S (L.set c (gone r)) w'->∀(i:Nat) (x:ResultVar) (v:Value),l[i]? =some x->vs[i]? =some v->Xz P k F w' x v) (b:(match vs with|[u]=>u|f=>.tuple f.toArray)=v) (h:∀w',Hp w0 S (L.set c (gone r)) w'->R v w'):
  bodyPostM Fence.wide 0 P fn (fun e w'=>∃v,e=.returned v/\R v w') .ret (fr ⟨k,[mark r],some none⟩ F) w:=
 pg o c r n fun w' d=>KN l vs v j m (g w' d) aC7 (h w' d)
def RgQ(P:Program)(k r:Nat)(Q:Exit->Act->World->Prop)(F:Nat->Value)(j:Nat)(w:World):Prop:=
 match jmp j with
 |none=>Q .normal (fr ⟨k,[mark r],some none⟩ F) w
 |some c=>C P ⟨k,[mark r],some none⟩ Q c F w
theorem rg0{j:Nat}(a:j=0)(h:Q .normal (fr ⟨k,[mark l],some none⟩ F) w):RgQ P k l Q F j w:=by subst a;exact h
theorem rg1{j:Nat}(a:j=1)(h:C P ⟨k,[mark l],some none⟩ Q .ret F w):RgQ P k l Q F j w:=by subst a;exact h
theorem sR{a:Array Tmp}{assign body:Code}(B:Hp w0 S L w)(f:Nat)(cap:List Value)(y:aX ⟨k,[],some none⟩ F g=.func (.func f) #[] cap.toArray)(D:Enters P f)
  (h:∀(r l:Nat) (b:Loop) (s:World),b.assign=assign->b.body=body->b.params=a->b.tmps=(fr ⟨k,[],some none⟩ F).tmps->Hp w0 S (bY l 0 b::lR r::L) s->
   CR P f (.func (.yield l) #[] #[]::cap) s fun _ i=>∃j p,Hp w0 S (bY l j b::p) i/\∀q,Hp w0 S p q->RgQ P k r Q F j q):
  C P ⟨k,[],some none⟩ Q (.rangeFunc g a assign body) F w:=by
 unfold C CC;refine wpIn_rangeFunc fun fn _=> ?_;have o:=B.Xs (.deferred (some [])) (lR w.heap.size) rfl rfl;have m:=o.Xs (.loop {state:=.ready,pending:=none,fn:=fn,tmps:=(fr ⟨k,[],some none⟩ F).tmps,params:=a,assign:=assign,body:=body,defers:=w.heap.size}) (bY (w.heap.size+1) 0 {state:=.ready,pending:=none,fn:=fn,tmps:=(fr ⟨k,[],some none⟩ F).tmps,params:=a,assign:=assign,body:=body,defers:=w.heap.size}) (by simp [bY]) rfl;have z:=h w.heap.size (w.heap.size+1) _ _ rfl rfl rfl rfl m;refine⟨w.heap.size+1,[mark w.heap.size],((w.alloc (.deferred (some []))).alloc (.loop {state:=.ready,pending:=none,fn:=fn,tmps:=(fr ⟨k,[],some none⟩ F).tmps,params:=a,assign:=assign,body:=body,defers:=w.heap.size})),{target:=.fn (.func f) cap.toArray,args:= #[]++ #[.func (.yield (w.heap.size+1)) #[] #[]]},((w.alloc (.deferred (some []))).alloc (.loop {state:=.ready,pending:=none,fn:=fn,tmps:=(fr ⟨k,[],some none⟩ F).tmps,params:=a,assign:=assign,body:=body,defers:=w.heap.size})),f,(Value.func (.yield (w.heap.size+1)) #[] #[]::cap).toArray,((w.alloc (.deferred (some []))).alloc (.loop {state:=.ready,pending:=none,fn:=fn,tmps:=(fr ⟨k,[],some none⟩ F).tmps,params:=a,assign:=assign,body:=body,defers:=w.heap.size})),run_enterLoop_outer fn _ _ _ _, ?_,fun _ _=>trivial, ?_,fun h=>absurd h Bool.false_ne_true, ?_⟩
 ·rw [NH];simp only [resolve,rangeCall,y,Deferred.ofValue];simp;rfl
 ·have e:(#[]++ #[Value.func (.yield (w.heap.size+1)) #[] #[]]:Array Value)++cap.toArray=(Value.func (.yield (w.heap.size+1)) #[] #[]::cap).toArray:=by simp
  rw [<-e];exact D.run _ _
 ·refine(callsIn_wide (n:=0)).2 (Calls.mono z ?_);rintro e i ⟨v,rfl,j,p,t,G⟩;have x:i.heap[w.heap.size+1]? =_:=(t.res _ (fQ)).1;have A:SX j≠.busy:=by unfold SX;split<;>simp
  refine⟨jmp j,_,run_endLoop x A, ?_⟩;have E:=(t.put 0 (w.heap.size+1) _ (gone (w.heap.size+1)) (.loop {({state:=.ready,pending:=none,fn:=fn,tmps:=(fr ⟨k,[],some none⟩ F).tmps,params:=a,assign:=assign,body:=body,defers:=w.heap.size}:Loop)with state:=.exhausted,pending:=jmp j}) rfl rfl rfl trivial).tail;have d:=G _ E;unfold RgQ at d;revert d;generalize jmp j=u;intro d;cases u with
  |none=>exact d
  |some c=>unfold C CC at d;exact d
def Ir(F:Nat->Value):List Nat->List Value->Nat->Value
 |p::b,v::a=>Ir (eF F p v) b a
 |_,_=>F
theorem Qk(m:Md):∀(a:List Nat) (vs:List Value) (F:Nat->Value),(a.zip vs).foldl (fun t (x:Nat×Value)=>t.setIfInBounds x.1 x.2) (fr m F).tmps=(fr m (Ir F a vs)).tmps
 |[],_,F=>by simp [Ir]
 |_::_,[],F=>by simp [Ir]
 |p::a,v::vs,F=>by simp only [List.zip_cons_cons,oG,Ir];rw [<-Qk m a vs (eF F p v)];congr 1;have:=lE m F p v;unfold Act.put at this;exact bD Act.tmps this
def vc(P:Program)(l:Nat)(c:Code)(R:Value->World->Prop):Exit->Act->World->Prop:=
 Exit.then (fun d b=>∃a,(Instr.beginRound l).run P b=.ok () a/\c.wpIn (Mn (some l)) 0 P (roundPost P l fun e w'=>∃v,e=.returned v/\R v w') d a) (fun _ _ _=>False)
def K7(P:Program)(l:Nat)(R:Value->World->Prop):Exit->Act->World->Prop:=roundPost P l fun e w'=>∃v,e=.returned v/\R v w'
variable {c:Loop}
theorem Ih{t:List Nat}{m:Option (Option Nat)}{a:Code}(q:Hp w0 S L w)(kl:Nat)(n:L[kl]? =some (bY l 0 c))(p:c.assign=f)(o:c.body=a)(d:c.params=t.toArray)(g:c.tmps=(fr ⟨k,[],m⟩ F).tmps)(j:t.length=b.length)
  (h:C P ⟨k,[],some (some l)⟩ (vc P l a R) f (Ir F t b) w):YR P l b w R:=by
 have i:w.heap[l]? =some (.loop {c with state:=SX 0,pending:=jmp 0}):=(q.res _ (aI n)).1;subst p;subst o;refine⟨c.fn,_,c.assign,c.body,run_yield (r:={c with state:=SX 0,pending:=jmp 0}) i (by simp [d,j]), ?_⟩;refine roundIn_of_wpIn trivial ?_;have e:(({c with state:=SX 0,pending:=jmp 0}:Loop).params.zip b.toArray).foldl (fun tmps (x:Nat×Value)=>tmps.setIfInBounds x.1 x.2) ({c with state:=SX 0,pending:=jmp 0}:Loop).tmps=(fr ⟨k,[],some (some l)⟩ (Ir F t b)).tmps:=by show((c.params.zip b.toArray).foldl _ c.tmps)=_;rw [d,g];have:=Qk ⟨k,[],m⟩ t b F;rw [show(fr ⟨k,[],some (some l)⟩ (Ir F t b)).tmps=(fr ⟨k,[],m⟩ (Ir F t b)).tmps from rfl,<-this];simp
 unfold C CC at h;have s:fr ⟨k,[],some (some l)⟩ (Ir F t b)={tmps:=(fr ⟨k,[],some (some l)⟩ (Ir F t b)).tmps,defers:=[]}:=rfl;rw [s,<-e]at h;exact h
theorem Nk(d:Hp w0 S L w)(kl:Nat)(a:L[kl]? =some (bY l 0 c))(h:∀b,Hp w0 S (L.set kl (Py l c)) b->C P ⟨k,[],some (some l)⟩ (K7 P l R) f F b):
  vc P l f R .normal (fr ⟨k,[],some (some l)⟩ F) w:=by
 have g:w.heap[l]? =some (.loop {c with state:=SX 0,pending:=jmp 0}):=(d.res _ (aI a)).1;have e:=h _ (d.put kl l (bY l 0 c) (Py l c) (.loop {c with state:=.busy,pending:=jmp 0}) a rfl rfl ⟨_,rfl⟩);unfold C CC K7 at e;exact⟨_,run_beginRound g rfl,e⟩
theorem KJ(j:Nat)(e:Hp w0 S L w)(kl:Nat)(d:L[kl]? =some (Py l c))(h:∀w',Hp w0 S (L.set kl (bY l j c)) w'->R (.bool (decide (j=0))) w'):
  ∃v w',(Instr.endRound l (jmp j)).run P w=.ok v w'/\∃u,Ending.returned v=.returned u/\R u w':=by
 obtain⟨f,g⟩:=(e.res _ (aI d)).1;have b:w.heap[l]? =some (.loop {c with state:=.busy,pending:=f}):=g;have a:(jmp j).isNone=decide (j=0):=by
  cases j with
  |zero=>rfl
  |succ n=>cases n<;>rfl
 have k:(if(jmp j).isNone=true then LoopState.ready else .done)=SX j:=by rw [a];unfold SX;simp
 refine⟨_,_,run_endRound (jmp j) b,_,rfl, ?_⟩;rw [a];refine h _ ?_;have i:=e.put kl l (Py l c) (bY l j c) (.loop {c with state:=SX j,pending:=jmp j}) d rfl rfl rfl;rw [<-a,k];exact i
theorem oU(a:Hp w0 S L w)(kl:Nat)(b:L[kl]? =some (Py l c))(h:∀w',Hp w0 S (L.set kl (bY l 0 c)) w'->R (.bool true) w'):K7 P l R .normal (fr ⟨k,[],some (some l)⟩ F) w:=KJ 0 a kl b h
theorem KI(a:Hp w0 S L w)(kl:Nat)(b:L[kl]? =some (Py l c))(h:∀w',Hp w0 S (L.set kl (bY l 1 c)) w'->R (.bool false) w'):K7 P l R .ret (fr ⟨k,[],some (some l)⟩ F) w:=KJ 1 a kl b h
end
attribute [irreducible] RgQ vc K7
open List renaming replicate → iZ
open Nat renaming blt → fZ
open _root_.Array renaming replicate → Yq
def NoD(ops:Array Oper):Prop:=∀(j:Nat) (o:Oper) c,ops[j]? =some o->o.op≠.defer c
def va(ops:Array Oper)(Q:Exit->Act->World->Prop):Prop:=FB Q/\NoD ops
section
variable {P:Program}{ops:Array Oper}{Q:Exit->Act->World->Prop}{md:Region.Mode}{S:Nat->World->World->Prop}{x:Option Nat}
variable {o:Oper}{w:World}
theorem pM{x:Option Nat}{ρ:Operand->Value}:∀f,o.about P w ρ=some f->(Mn x).fn f:=fun _ _=>trivial
variable {a:World->Prop}{i:Nat}{v:Value}{b:Act}{K:Act->World->Prop}
theorem _root_.Go.YieldsIf.fh(f:ops[i]? =some o)(g:∀c,o.op≠.defer c)(j:a w)(d:YieldsIf P ops a o v b)(h:K (b.put o.dst v) w):wpOpIn (Mn x) 0 P ops Q i K b w:=by
 unfold wpOpIn;simp only [f];rcases d with⟨k,e⟩|⟨k,rfl⟩
 ·simp only [k,fM,Oper.wpIn,Oper.semAt_eq _ _ _ g,e w j,Oper.uponIn];exact⟨pM,h⟩
 ·simp only [k,pQ,cX];exact⟨pM,h⟩
theorem Tx{I:Oper}(G:ops[i]? =some I)(A:o.apart ops I=true)
  (z:∀cs H,o.op≠.select cs H) (t:∀cs H,I.op≠.select cs H) (q:∀c,I.op≠.defer c)
  (B:∀c b w,Q (.panic c) (b.put o.dst v) w->Q (.panic c) b w)   
  (k:YieldsIf P ops a o v b) (h:wpOpIn (Mn x) 0 P ops Q i K (b.put o.dst v) w):
  wpOpIn (Mn x) 0 P ops Q i (fun a' w'=>YieldsIf P ops a o v a'/\K (a'.put o.dst v) w') b w:=by
 obtain⟨E,j,D⟩:=Oper.apart_spec A;have g:∀(b:Act),YieldsIf P ops a o v b->∀u,YieldsIf P ops a o v (b.put I.dst u):=fun b k u=>
  k.of_same (execOp_put o z b I.dst u D) (wanted_put o b I.dst u D)
 have n:∀d,YieldsIf P ops a o v {b with defers:=d::b.defers}:=fun d=>k.of_same rfl rfl;unfold wpOpIn at*;simp only [G]at*;rw [wanted_put I b o.dst v E]at h;split
 ·rename_i s;simp only [s,fM]at h;unfold Oper.wpIn at*;refine⟨pM, ?_⟩;have h:=h.2;rw [Oper.semAt_eq _ _ _ q,execOp_put I t b o.dst v E]at h;rw [Oper.semAt_eq _ _ _ q];generalize(execOp b.eval I).run P w=r at*
  cases r with
  |ok y w'=>
   cases y<;>simp only [Oper.uponIn]at h⊢
   case value u=>exact⟨g b k u,by rw [<-Act.put_comm b v u j];exact h⟩
   case skip=>exact⟨g b k _,by rw [<-Act.put_comm b v undef j];exact h⟩
   case defer d=>
    refine⟨g _ (n d) _, ?_⟩;rw [<-Act.put_comm _ v undef j,<-Act.put_defers];exact h
   case enter f args=>
    refine⟨h.1,CallsIn.mono h.2 fun e p m=> ?_⟩;cases e with
    |returned u=>exact⟨g b k u,by rw [<-Act.put_comm b v u j];exact m⟩
    |panicked c=>exact B _ _ _ m
    |outgrown=>exact m
   case row row args=>exact⟨h.1,RowsIn.mono h.2 fun u p m=>⟨g b k u,by rw [<-Act.put_comm b v u j];exact m⟩⟩
   case round l f C assign F=>
    refine⟨h.1,RoundIn.mono h.2 fun e p m=> ?_⟩;cases e with
    |returned u=>exact⟨g b k u,by rw [<-Act.put_comm b v u j];exact m⟩
    |panicked c=>exact B _ _ _ m
    |outgrown=>exact m
  |halt y w'=>
   cases y<;>simp only [Oper.uponIn]at h⊢
   case panic u=>exact B _ _ _ h
 ·rename_i s;simp only [s]at h;exact⟨pM,g b k _,by rw [<-Act.put_comm b v undef j];exact h.2⟩
theorem qS{Q':Exit->Act->World->Prop}:∀(l:List Oper) (k:Nat) (listed:Array Bool) (a:Act) (w:World),(∀j,l[j]? =ops[k+j]?)->
  Region.seqB md ops l.length k listed=true->wpListIn (Mn x) 0 P ops Q' l a w->wpAnyIn (Mn x) 0 P md ops Q' l.length listed a w
 |[],_,_,_,_,_,b,h=>⟨by simpa [Region.seqB] using b,h⟩
 |o::l,k,listed,a,w,d,b,h=>by
  have m:ops[k]? =some o:=by simpa using (d 0).symm
  simp only [bR,Region.seqB,fS,aV]at b;refine⟨fun f=>(by rw [b.1]at f;cases f),fun i e=> ?_⟩;rw [b.1]at e;have c:i=k:=aF0;subst c;have g:wpOpIn (Mn x) 0 P ops Q' i (wpListIn (Mn x) 0 P ops Q' l) a w:=by unfold wpOpIn;simp only [m];unfold wpListIn at h;exact h
  exact wpOpIn_mono (fun a' w' n=>qS l (i+1) _ a' w' (fun j=>by have:=d (j+1);simpa [Bn,Gy 1 j] using this) b.2 n) g
def Bq(x:Option Nat)(P:Program)(md:Region.Mode)(ops:Array Oper)(Q:Exit->Act->World->Prop)(S:Nat->World->World->Prop)(k:Nat)(Z:Act->World->Prop):Nat->Array Bool->Act->World->Prop
 |0,listed,a,w=>Region.seqB md ops (ops.size-k) k listed=true/\Z a w
 |f+1,listed,a,w=>Region.ready md ops listed≠[]/\∀i∈Region.ready md ops listed,i<k/\wpOpIn (Mn x) 0 P ops Q i (fun a' w'=>S i w w'/\Bq x P md ops Q S k Z f (listed.setIfInBounds i true) a' w') a w
theorem AO{k:Nat}{Z:Act->World->Prop}(d:k<=ops.size)(c:∀a w,Z a w->wpListIn (Mn x) 0 P ops Q (ops.toList.drop k) a w):
  ∀(f:Nat) (listed:Array Bool) (a:Act) (w:World),Bq x P md ops Q S k Z f listed a w->wpAnyIn (Mn x) 0 P md ops Q (f+(ops.size-k)) listed a w
 |0,listed,a,w,h=>by have b:(ops.toList.drop k).length=ops.size-k:=aA2;have:=qS (md:=md) (Q':=Q) (ops.toList.drop k) k listed a w (fun j=>by simp [bW]) (by rw [b];exact h.1) (c a w h.2);rw [b]at this;rw [Gz];exact this
 |f+1,listed,a,w,h=>by rw [show f+1+(ops.size-k)=(f+(ops.size-k))+1 by omega];exact⟨fun g=>absurd g h.1,fun i e=>wpOpIn_mono (fun a' w' l=>AO d c f _ a' w' l.2) (h.2 i e).2⟩
theorem GP{k:Nat}(Si:World->Prop)(D:List Nat)(hD:Mv md ops k D=true)(U:∀j w w',S j w w'->dK D Si j w w')(I:ops[k]? =some o)(y:∀(j:Nat) (Z:Oper) cs b,ops[j]? =some Z->Z.op≠.select cs b)
  (hQ:∀c a w,Q (.panic c) (a.put o.dst v) w->Q (.panic c) a w) (C:NoD ops) (a1:k<i)
  (l:∀listed:Array Bool,HeadInv md ops i listed->listed.getD k true=false->∀t,i<=t->t∉Region.ready md ops listed):
  ∀(f:Nat) (listed:Array Bool) (a:Act) (w:World),HeadInv md ops i listed->
   (∀j u,ops[j]? =some u->j≠k->listed.getD j true=false->(∀e∈u.after,Region.binds md e=true->e.on≠k)->o.apart ops u=true)->
   k∈Region.ready md ops listed->YieldsIf P ops Si o v a->Si w->(∀j w,S j w w)->
   Bq x P md ops Q S i K f (listed.setIfInBounds k true) (a.put o.dst v) w->Bq x P md ops Q S i K (f+1) listed a w:=by
 intro f;induction f with
 |zero=>
  intro listed a w n g z a0 L s H;have p:=(mem_ready.1 z).1;refine⟨fun V=>(by rw [V]at z;cases z),fun j B=> ?_⟩
  have q:j<i:=by
   rcases tE j i with h|h
   ·exact h
   ·exact absurd B (l listed n p j h)
  by_cases d:j=k
  ·subst d;exact⟨q,a0.fh I (fun c=>C j o c I) L ⟨s _ _,H⟩⟩
  ·have W:=seqB_ready H.1 j (ready_mono B d);omega
 |succ f Y=>
  intro listed a w n g z a0 L s H;have p:=(mem_ready.1 z).1;refine⟨fun V=>(by rw [V]at z;cases z),fun j B=> ?_⟩
  have q:j<i:=by
   rcases tE j i with h|h
   ·exact h
   ·exact absurd B (l listed n p j h)
  by_cases d:j=k
  ·subst d;exact⟨q,a0.fh I (fun c=>C j o c I) L ⟨s _ _,H⟩⟩
  ·have W:=(H.2 j (ready_mono B d)).2;have T:=Mu hD n p B;obtain⟨A,u,r,J⟩:=mem_ready.1 B;have F:∀e∈u.after,Region.binds md e=true->e.on≠k:=fun e he hb heq=>by have N:=J e he hb;rw [heq,getD_both p]at N;cases N
   have N:=Tx r (g j u r d A F) (fun cs b=>y k o cs b I) (fun cs b=>y j u cs b r) (fun c=>C j u c r) hQ a0 W;refine⟨q,wpOpIn_mono (fun a' w' M=>⟨M.2.1,Y (listed.setIfInBounds j true) a' w' (n.set B q) (fun m X hm R E O=>g m X hm R ?_ O) (ready_mono z (Ne.symm d)) M.1 (U j _ w' M.2.1 (by simpa using T) L) s ?_⟩) N⟩
   ·by_cases G:j=m
    ·subst G;exact A
    ·rw [getD_set_ne true G]at E;exact E
   ·rw [Array.setIfInBounds_comm _ _ d];exact M.2.2
end
section
variable {P:Program}{kn:Nat}{kD:List Deferred}{ops:Array Oper}{Q:Exit->Act->World->Prop}{S:Nat->World->World->Prop}{Si:World->Prop}{F:Nat->Value}{w:World}{x:Option Nat}
def RI(x:Option Nat)(P:Program)(n:Md)(ops:Array Oper)(Q:Exit->Act->World->Prop)(S:Nat->World->World->Prop)(k f:Nat)(listed:List Bool)(F:Nat->Value)(w:World):Prop:=
 HeadInv .any ops k listed.toArray->(∀j w,S j w w)->va ops Q->Bq x P .any ops Q S k (fun a w=>wpListIn (Mn x) 0 P ops Q (ops.toList.drop k) a w) f listed.toArray (fr n F) w
def yj(x:Option Nat)(P:Program)(n:Md)(ops:Array Oper)(Q:Exit->Act->World->Prop)(S:Nat->World->World->Prop)(k f:Nat)(listed:List Bool)(i:Nat)(w:World):Exit->Act->World->Prop:=
 Exit.then (fun a' w'=>∃a,a'=fr n a/\S i w w'/\RI x P n ops Q S k f listed a w') Q
variable {b:World}{k:Nat}
theorem G8{S0:List Nat}{L:List cF}{l:List Oper}(u:Nat)(S:Nat->World->World->Prop)(listed:List Bool)(s:∀j w,S j w w)(m:P.follows .mixedOrders=true)(f:Ed l.toArray u=true)
  (p:Hp b S0 L w) (d:iZ l.length false=listed) (o:va l.toArray Q) (h:∀w',Hp b S0 L w'->RI x P ⟨kn,kD,some x⟩ l.toArray Q S u u listed F w'):C P ⟨kn,kD,some x⟩ Q (.region k l.toArray true) F w:=by
 unfold C CC;have n:u<=l.toArray.size:=by simp only [Ed,fS,aV]at f;exact f.1.2
 have c:HeadInv .any l.toArray u (Yq l.toArray.size false):=
  ⟨aA2,fun j r _ d=>(by rw [getD_replicate_false]at d;cases d),fun t _ i=>getD_in (by simpa using i) (getD_replicate_false _ _)⟩
 have e:listed.toArray=Yq l.toArray.size false:=by subst d;apply xG.1;simp
 refine wpIn_region_any m ?_;have q:=h _ p.MW (by rw [e];exact c) s o;have g:=AO (S:=S) n (fun a w h=>h) u _ _ _ q;rw [e,show u+(l.toArray.size-u)=l.toArray.size by omega]at g;exact g
variable {f:Nat}{a:List Bool}
theorem XL(b:List Bool)(i d:Nat)(v:Value)(D:List Nat)(t:∀j w w',S j w w'->dK D Si j w w')(o:Oper)(y:ops[i]? =some o)(C:o.dst=some d)(r:Ed ops k=true)(G:Mv .any ops i D=true)(m:Region.free .any ops a.toArray i=true)
  (A:(Region.ready .any ops a.toArray).contains i=true) (s:fZ i k=true) (B:a.set i true=b) (z:YieldsIf P ops Si o v (fr ⟨kn,kD,some x⟩ F)) (E:Si w)
  (h:RI x P ⟨kn,kD,some x⟩ ops Q S k f b (eF F d v) w):RI x P ⟨kn,kD,some x⟩ ops Q S k (f+1) a F w:=by
 intro n e u;have g:i<k:=by simpa [jJ] using s
 have q:i∈Region.ready .any ops a.toArray:=aF2;have p:Region.noSelect ops=true:=by simp only [Ed,fS]at r;exact r.1.1
 refine GP Si D G t y (Region.noSelect_spec p) (fun c H w h=>absurd h (u.1 c _ w)) u.2 g (qZ r g) f _ _ _ n (Region.free_spec y m) q z E e ?_;have l:=n.set q g;rw [oT,B]at l⊢;have:=h l e u;rw [<-lE,<-C]at this;exact this
theorem BA{o:Oper}{K:Act->World->Prop}{a:Act}(c:ops[k]? =some o)(h:wpListIn (Mn x) 0 P ops (Exit.then K Q) [o] a w):wpOpIn (Mn x) 0 P ops Q k K a w:=by
 unfold wpOpIn;simp only [c];unfold wpListIn at h;split
 ·rename_i b;rw [aB b]at h;unfold Oper.wpIn at*;refine⟨h.1, ?_⟩;have h:=h.2;generalize(o.semAt (Mn x).round a.eval).run P w=r at*
  cases r with
  |ok y w'=>cases y<;>exact h
  |halt y w'=>cases y<;>exact h
 ·rename_i b;rw [aA b]at h;exact h
theorem T9(b:List Bool)(i:Nat)(o:Oper)(m:ops[i]? =some o)(n:a.set i true=b)(g:HeadInv .any ops k a.toArray)(d:∀j w,S j w w)(r:va ops Q)
  (l:i∈Region.ready .any ops a.toArray) (e:i<k) (h:W P ⟨kn,kD,some x⟩ ops (yj x P ⟨kn,kD,some x⟩ ops Q S k f b i w) [o] F w):
  i<k/\wpOpIn (Mn x) 0 P ops Q i (fun a' w'=>S i w w'/\Bq x P .any ops Q S k (fun t w=>wpListIn (Mn x) 0 P ops Q (ops.toList.drop k) t w) f (a.toArray.setIfInBounds i true) a' w') (fr ⟨kn,kD,some x⟩ F) w:=by
 refine⟨e, ?_⟩;have c:=g.set l e;rw [oT,n]at c⊢;unfold W WR yj at h;refine wpOpIn_mono ?_ (BA m h);rintro a' w' ⟨s,rfl,p,q⟩;exact⟨p,q c d r⟩
theorem U0(p:List Bool)(i:Nat)(o:Oper)(l:ops[i]? =some o)(d:Region.ready .any ops a.toArray=[i])(e:fZ i k=true)(m:a.set i true=p)
  (h:W P ⟨kn,kD,some x⟩ ops (yj x P ⟨kn,kD,some x⟩ ops Q S k f p i w) [o] F w):RI x P ⟨kn,kD,some x⟩ ops Q S k (f+1) a F w:=by
 intro c b n;refine⟨by rw [d];simp,fun j g=> ?_⟩;rw [d]at g;obtain rfl:j=i:=aE2;exact T9 p j o l m c b n aD1 (by simpa [jJ] using e) h
theorem U1{i:Nat}(c:S i b w)(h:RI x P ⟨kn,kD,some x⟩ ops Q S k f a F w):yj x P ⟨kn,kD,some x⟩ ops Q S k f a i b .normal (fr ⟨kn,kD,some x⟩ F) w:=⟨F,rfl,c,h⟩
theorem T8(c:Region.seqB .any ops (ops.size-k) k a.toArray=true)(h:W P ⟨kn,kD,some x⟩ ops Q (ops.toList.drop k) F w):RI x P ⟨kn,kD,some x⟩ ops Q S k 0 a F w:=by intro _ _ _;unfold W WR at h;exact⟨c,h⟩
end
section
variable {P:Program}{kn:Nat}{kD:List Deferred}{ro:Option (Option Nat)}{ops:Array Oper}{Q:Exit->Act->World->Prop}{S:Nat->World->World->Prop}{Si:World->Prop}{F:Nat->Value}{w:World}
def RO(P:Program)(n:Md)(ops:Array Oper)(Q:Exit->Act->World->Prop)(S:Nat->World->World->Prop)(k f:Nat)(listed:List Bool)(F:Nat->Value)(w:World):Prop:=
 match n.ro with
 |none=>R P n ops Q S k f listed F w
 |some x=>RI x P n ops Q S k f listed F w
def RKO(P:Program)(n:Md)(ops:Array Oper)(Q:Exit->Act->World->Prop)(S:Nat->World->World->Prop)(k f:Nat)(listed:List Bool)(i:Nat)(w:World):Exit->Act->World->Prop:=
 match n.ro with
 |none=>RK P n ops Q S k f listed i w
 |some x=>yj x P n ops Q S k f listed i w
variable {b:World}{k:Nat}
theorem G7{S0:List Nat}{L:List cF}{l:List Oper}(m:Nat)(S:Nat->World->World->Prop)(listed:List Bool)(a:∀j w,S j w w)(c:P.follows .mixedOrders=true)(i:Ed l.toArray m=true)
  (f:Hp b S0 L w) (d:iZ l.length false=listed) (e:FB Q) (g:ro.isSome=true->NoD l.toArray) (h:∀w',Hp b S0 L w'->RO P ⟨kn,kD,ro⟩ l.toArray Q S m m listed F w'):C P ⟨kn,kD,ro⟩ Q (.region k l.toArray true) F w:=by
 cases ro with
 |none=>exact TC m S listed a c i f d e h
 |some x=>exact G8 m S listed a c i f d ⟨e,g rfl⟩ h
variable {f:Nat}{a:List Bool}
theorem tr(t:List Bool)(i d:Nat)(v:Value)(D:List Nat)(e:∀j w w',S j w w'->dK D Si j w w')(o:Oper)(n:ops[i]? =some o)(q:o.dst=some d)(l:Ed ops k=true)(s:Mv .any ops i D=true)(b:Region.free .any ops a.toArray i=true)
  (m:(Region.ready .any ops a.toArray).contains i=true) (c:fZ i k=true) (p:a.set i true=t) (g:YieldsIf P ops Si o v (fr ⟨kn,kD,ro⟩ F)) (r:Si w)
  (h:RO P ⟨kn,kD,ro⟩ ops Q S k f t (eF F d v) w):RO P ⟨kn,kD,ro⟩ ops Q S k (f+1) a F w:=by
 cases ro with
 |none=>exact sV t i d v D e o n q l s b m c p g r h
 |some x=>exact XL t i d v D e o n q l s b m c p g r h
theorem KU(p:List Bool)(i d:Nat)(v:Value)(o:Oper)(l:ops[i]? =some o)(n:o.dst=some d)(g:Ed ops k=true)(b:Region.free .any ops a.toArray i=true)
  (j:(Region.ready .any ops a.toArray).contains i=true) (c:fZ i k=true) (m:a.set i true=p) (e:YieldsIf P ops (fun _=>True) o v (fr ⟨kn,kD,ro⟩ F))
  (h:RO P ⟨kn,kD,ro⟩ ops Q S k f p (eF F d v) w):RO P ⟨kn,kD,ro⟩ ops Q S k (f+1) a F w:=
 tr (Si:=fun _=>True) p i d v [] (fun _ _ _ _ _ _=>trivial) o l n g rfl b j c m e trivial h
theorem T7(g:List Bool)(i:Nat)(o:Oper)(d:ops[i]? =some o)(c:Region.ready .any ops a.toArray=[i])(b:fZ i k=true)(e:a.set i true=g)
  (h:W P ⟨kn,kD,ro⟩ ops (RKO P ⟨kn,kD,ro⟩ ops Q S k f g i w) [o] F w):RO P ⟨kn,kD,ro⟩ ops Q S k (f+1) a F w:=by
 cases ro with
 |none=>exact XK g i o d c b e h
 |some x=>exact U0 g i o d c b e h
theorem KV{i:Nat}(c:S i b w)(h:RO P ⟨kn,kD,ro⟩ ops Q S k f a F w):RKO P ⟨kn,kD,ro⟩ ops Q S k f a i b .normal (fr ⟨kn,kD,ro⟩ F) w:=by
 cases ro with
 |none=>exact mJ c h
 |some x=>exact U1 c h
theorem KT(c:Region.seqB .any ops (ops.size-k) k a.toArray=true)(h:W P ⟨kn,kD,ro⟩ ops Q (ops.toList.drop k) F w):RO P ⟨kn,kD,ro⟩ ops Q S k 0 a F w:=by
 cases ro with
 |none=>exact NF c h
 |some x=>exact T8 c h
end
attribute [irreducible] RI yj RO RKO
open Go.Lib
open Go.Value renaming ownBlock → Bl
open Nat renaming beq → cV
theorem strCells_eq(l:aC):strCells (⟨l.toArray⟩:ByteArray)=l.flatMap eB:=by rw [oZ];simp [strCells,bt]
section
variable {P:Program}{n:Md}{ops:Array Oper}{Q:Exit->Act->World->Prop}{F:Nat->Value}{w w0:World}{S:List Nat}{L:List cF}
variable {d:Nat}{ty:TypeId}{pos:String}{after:Array Edge}{rest:List Oper}
theorem WT{a:Option Addr}{m cap e:Nat}{s:List Value}(t u:TypeId)(B:P.underlying t=some (.slice e))(A:P.underlying u=some .string)(U:TI P e 1 1)(I:(P.info? e).bind (·.zero)=some (.int .u8 0))(d:w.ownsRow 0 e 1 (.slice a m cap) m s)(l:aC)
  (T:m+l.length<=140737488355328):
  ∃a' cap' w',(Builtin.append_ #[t,u] ty #[.slice a m cap,str l]).run P w=.ok (.slice a' (m+l.length) cap') w'/\w'.ownsRow 0 e 1 (.slice a' (m+l.length) cap') (m+l.length) (s++l.flatMap eB)/\
   w.grownBy w' (Value.slice a m cap).ownBlock/\∀p,a'=some p->(∃q,a=some q/\q.block=p.block)\/w.heap.size<=p.block:=by
 obtain⟨i,z,y,N,E,r,M⟩:=U.parts;have k:i.zero=some (.int .u8 0):=by rw [y]at I;simpa using I
 have R:m+l.length<=maxLen:=aE8
 obtain⟨L,w',f,J,S,x⟩:=run_append_own_string (P:=P) w 0 t u ty e i B A y k E r (.slice a m cap) m s d ⟨l.toArray⟩ (by show m+l.length<=_;exact R) (by show m+l.length<=_;exact T) (dL _);rw [strCells_eq]at J;have b:(⟨l.toArray⟩:ByteArray).size=l.length:=rfl;have D:∃a' cap',L=.slice a' (m+l.length) cap'/\∀p,a'=some p->(∃q,a=some q/\q.block=p.block)\/w.heap.size<=p.block:=by
  have C:s.length=m:=by simpa using d.1
  rcases d.2 with⟨v,Q⟩|⟨g,c,H,v,_,F,V,_,G,_⟩
  ·simp only [Value.slice.injEq]at v;obtain⟨rfl,rfl,rfl⟩:=v;by_cases K:l.length=0
   ·have:=x.2 ⟨rfl,by rw [b];exact K⟩;exact⟨none,0,by rw [this,K],fun p h=>by cases h⟩
   ·have:=run_append_nil_string (P:=P) w t u ty e i (.int .u8 0) B A y k ⟨l.toArray⟩ aA0 (by rw [b];omega) (by rw [r,b];omega);rw [this]at f;simp only [Result.ok.injEq]at f;refine⟨_,_,by rw [<-f.1,Gz,b],fun p h=>.inr ?_⟩;simp at h;subst h;simp
  ·simp only [Value.slice.injEq]at v;obtain⟨rfl,-,rfl⟩:=v;by_cases n:m+l.length<=cap
   ·have:=run_append_room_string (P:=P) w t u ty e i B A y E g m cap H F ⟨l.toArray⟩ n (by rw [b];simp at G;omega);rw [this]at f;simp only [Result.ok.injEq]at f;refine⟨_,_,by rw [<-f.1,b],fun p h=>.inl ?_⟩;simp at h;subst h;exact⟨_,rfl,rfl⟩
   ·have o:∀j u,s[j]? =some u->w.cell? ((⟨g,0,none⟩:Addr).add j)=some u:=d.cells (g:=g) rfl;have:=run_append_grow_string (P:=P) w t u ty e i (.int .u8 0) B A y k ⟨g,0,none⟩ m cap s (by rw [E];simpa using C) o ⟨l.toArray⟩ (by rw [b];omega) (by rw [b];omega) (by rw [r,b];exact growslice_fits aA0 aA0);rw [this]at f;simp only [Result.ok.injEq]at f;refine⟨_,_,by rw [<-f.1,b],fun p h=>.inr ?_⟩;simp at h;subst h;simp
 obtain⟨a',cap',rfl,O⟩:=D;exact⟨a',cap',w',f,J,S,O⟩
variable {x y:Operand}{t u:TypeId}
theorem vW(M:Hp w0 S L w)(k:Nat)(o:Option Nat)(a:Option Addr)(cap e:Nat)(l c:aC)(E:L[k]? =some (aW eB e 1 o a cap l))(J:P.underlying t=some (.slice e))(v:P.underlying u=some .string)(V:TI P e 1 1)(N:(P.info? e).bind (·.zero)=some (.int .u8 0))
  (hx:aX n F x=.slice a l.length cap) (Z:aX n F y=str c) (A:(l.length+c.length)*1<=140737488355328)
  (h:∀o' a' cap' w',Hp w0 S (L.set k (aW eB e 1 o' a' cap' (l++c))) w'->W P n ops Q rest (eF F d (.slice a' (l++c).length cap')) w'):
  W P n ops Q (⟨some d,.call ⟨.builtin .append, #[x,y], #[t,u]⟩,ty,pos,after,none⟩::rest) F w:=by
 have r:k<L.length:=(aD.1 E).1;have I:∀U:Option Addr,Hp w0 S (L.set k (row (.slice U l.length cap) e 1 l.length (l.flatMap eB))) w->∃a' cap' w',(Builtin.append_ #[t,u] ty #[.slice U l.length cap,str c]).run P w=.ok (.slice a' (l++c).length cap') w'/\∃o',Hp w0 S (L.set k (aW eB e 1 o' a' cap' (l++c))) w':=by intro U s;obtain⟨a',cap',w',q,ho,hg,hn⟩:=WT (P:=P) (ty:=ty) t u J v V N (s.ownsRow (k:=k) (bG r)) c aA0;have B:=s.grown (k:=k) (bG r) hg ho hn;rw [SD,<-bM,<-SN]at B;obtain⟨o',m⟩:=B.Jn k (bG r);rw [SD]at m;rw [<-bM]at q;exact⟨a',cap',w',q,o',m⟩
 have go:∀a' cap' w',(Builtin.append_ #[t,u] ty #[.slice a l.length cap,str c]).run P w=.ok (.slice a' (l++c).length cap') w'->(∃o',Hp w0 S (L.set k (aW eB e 1 o' a' cap' (l++c))) w')->
   W P n ops Q (⟨some d,.call ⟨.builtin .append, #[x,y], #[t,u]⟩,ty,pos,after,none⟩::rest) F w:=by
  rintro a' cap' w' q ⟨o',m⟩;refine gM (w':=w') rfl rfl ?_ (h o' a' cap' w' m);simp only [execOp,resolve,invoke,builtin,List.map_toArray,vS,eE,hx,Z,Sem.run_bind,Sem.run_pure,Result.andThen_ok,q]
 cases o with
 |some g=>obtain⟨a',cap',w',q,m⟩:=I a (M.Zv sI k E).2;exact go a' cap' w' q m
 |none=>
  obtain⟨h1,_⟩:=M.res _ (aI E);have R:l=[]/\cap=0:=by
   rcases h1 with⟨_,B,m,_⟩|⟨g,b0,B,_⟩
   ·exact⟨B,m⟩
   ·cases B
  obtain⟨rfl,rfl⟩:=R;have D:Hp w0 S (L.set k (row (.slice none 0 0) e 1 0 [])) w:=M.change k _ _ E rfl rfl rfl (eV _) (fun _ _ _=>rfl) ⟨aA2,.inl ⟨rfl,rfl⟩⟩ (fun b A=>by simp [row,Bl]at A);obtain⟨a',cap',w',q,m⟩:=I none D;cases a with
  |none=>exact go a' cap' w' q m
  |some p=>
   obtain⟨i,z,K,Y,hs,H,X⟩:=V.parts;have C:i.zero=some (.int .u8 0):=by rw [K]at N;simpa using N
   have f:(⟨c.toArray⟩:ByteArray).size=c.length:=rfl;by_cases hm:c.length=0
   ·have T:c=[]:=Fp hm;subst T;have hf:=run_firstCells_string (P:=P) w 1 ⟨#[]⟩;have O:(Builtin.firstCells 1 0 (.string ⟨#[]⟩)).run P w=.ok #[] w:=hf;refine go (some p) 0 w ?_ ⟨none, ?_⟩
    ·show(Builtin.append_ #[t,u] ty #[.slice (some p) 0 0,.string ⟨#[]⟩]).run P w=.ok (.slice (some p) 0 0) w;have T:(⟨#[]⟩:ByteArray).size=0:=rfl;simp [Builtin.append_,run_underlying J,run_underlying v,sizeOf,typeInfo,K,hs,Builtin.lenOf,storeCells,T,O]
    ·have e:L.set k (aW eB e 1 none (some p) 0 ([]++[]))=L:=by
      apply cL;intro j;by_cases G:j=k
      ·subst G;rw [bG r,E];rfl
      ·rw [Be (fun e=>G e.symm)]
     rw [e];exact M
   ·refine go a' cap' w' ?_ m;rw [<-q];have h5:=run_append_grow_string (P:=P) w t u ty e i (.int .u8 0) J v K C p 0 0 [] aA2 (fun j u v=>by simp at v) ⟨c.toArray⟩ (by rw [f];omega) (by rw [f];simp at A;omega) (by rw [H,f];exact growslice_fits aA0 (by simp at A;omega));have h6:=run_append_nil_string (P:=P) w t u ty e i (.int .u8 0) J v K C ⟨c.toArray⟩ (by rw [f];omega) (by rw [f];simp at A;omega) (by rw [H,f];simp at A;omega);show(Builtin.append_ #[t,u] ty #[.slice (some p) 0 0,.string ⟨c.toArray⟩]).run P w=(Builtin.append_ #[t,u] ty #[.slice none 0 0,.string ⟨c.toArray⟩]).run P w;rw [h5,h6];simp [f,strCells]
variable {e:TypeId}
theorem FT(p:Option Addr)(a:P.underlying t=some (.pointer e))(hx:aX n F x=.pointer p)(b:aX n F y=.pointer none):(execOp (aX n F) (⟨some d,.binOp .eql t x y u,ty,pos,after,none⟩:Oper)).run P w=.ok (.value (.bool p.isNone)) w:=by
 have c:P.pointee t=e:=by simp [Program.pointee,a]
 have g:=run_equal_pointer_nil (P:=P) w t p (by rw [c];exact a);have f:(binOp .eql t (.pointer p) (.pointer none)).run P w=.ok (.bool p.isNone) w:=by simp only [binOp];simp [g]
 simp [execOp,hx,b,eqGuard,f]
theorem UW(p:Option Addr)(b:P.underlying t=some (.pointer e))(hx:aX n F x=.pointer p)(a:aX n F y=.pointer none)(h:W P n ops Q rest (eF F d (.bool p.isNone)) w):W P n ops Q (⟨some d,.binOp .eql t x y u,ty,pos,after,none⟩::rest) F w:=gM rfl rfl (FT p b hx a) h
theorem O7(a:Addr)(c:P.underlying t=some (.pointer e))(g:(P.info? e).isSome=true)(hx:aX n F x=.pointer (some a))(b:aX n F y=.pointer (some a))(h:W P n ops Q rest (eF F d (.bool false)) w):W P n ops Q (⟨some d,.binOp .neq t x y u,ty,pos,after,none⟩::rest) F w:=by obtain⟨j,f⟩:=Yb.1 g;have i:=run_neq_ptr_same (P:=P) w a c f;refine gM (v:=.bool false) (w':=w) rfl rfl ?_ h;simp [execOp,hx,b,eqGuard,i]
theorem O6(v:Hp w0 S L w)(k b off s:Nat)(cs:List Value)(o:L[k]? =some (aQ b cs s))(l:P.underlying t=some (.pointer e))(g:P.underlying u=some .unsafePointer)(q:((P.info? e).map (fun i=>cV i.size 0))=some false)(m:off<cs.length)(hx:aX n F x=.pointer (some ⟨b,off,none⟩))
  (h:W P n ops Q rest (eF F d (.pointer (some ⟨b,off,none⟩))) w):W P n ops Q (⟨some d,.convert t u x,ty,pos,after,none⟩::rest) F w:=by
 obtain⟨j,p,a⟩:=bX.1 q;have f:j.size≠0:=fun z=>by rw [z]at a;cases a
 have r:=v.dV k o;have c:w.shape? b=some (s,cs.length):=by simp [World.shape?,r]
 have y:=run_to_unsafe (P:=P) w ⟨b,off,none⟩ l g p f c m;refine gM (w':=w) rfl rfl ?_ h;simp [execOp,hx,y]
theorem O8(p:Hp w0 S L w)(k b off s:Nat)(cs:List Value)(i:L[k]? =some (aQ b cs s))(f:P.underlying t=some .unsafePointer)(c:P.underlying u=some (.pointer e))(m:(P.info? e).isSome=true)(g:liesAt P P.depth s (cs.length/P.cellsOf s) off e 1=true)(hx:aX n F x=.pointer (some ⟨b,off,none⟩))
  (h:W P n ops Q rest (eF F d (.pointer (some ⟨b,off,none⟩))) w):W P n ops Q (⟨some d,.convert t u x,ty,pos,after,none⟩::rest) F w:=by
 obtain⟨j,l⟩:=Yb.1 m;have o:=p.dV k i;have a:w.shape? b=some (s,cs.length):=by simp [World.shape?,o]
 have q:=run_from_unsafe (P:=P) w ⟨b,off,none⟩ f c l a g;refine gM (w':=w) rfl rfl ?_ h;simp [execOp,hx,q]
theorem O9{gH : Array Operand}{a : Array TypeId}{fn : Func}(j : Hp w0 S L w)(f : FuncId)(v : Value)(g : aX n F x = .func (.func f) #[] #[])(i : #[] ++ gH.map (aX n F) ++ #[] = #[v])(p : P.funcs[f]? = some fn)(o : (fn.name == "runtime.NumGoroutine") = false)(m : fn.body.isNone = true)(l : Extern.findNext fn = none)(k : Extern.find fn = some Extern.AbiNoEscape.same)
  (h:∀w',Hp w0 S L w'->W P n ops Q rest (eF F d v) w'):W P n ops Q (⟨some d,.call ⟨.value x,gH,a⟩,ty,pos,after,none⟩::rest) F w:=by
 have c:=run_callFunc_extern (P:=P) p o m l (e:=Extern.AbiNoEscape.same) k (args:= #[v]) (w:=w);rw [run_noEscape]at c;refine gM (v:=v) (w':=w) rfl rfl ?_ (h w j);simp only [execOp,resolve,g,Deferred.ofValue];show Sem.run P (callFunc f (#[]++gH.map (aX n F)++ #[])) w=_;rw [i,c];rfl
end
open Go.Op renaming bytesLess → uH
open List renaming replicate → iZ
open Nat renaming blt → fZ
def Uk{α:Type}(P:Program):Sem α->Option α
 |.pure a=>some a
 |.program k=>Uk P (k P)
 |.mark _ k=>Uk P k
 |_=>none
theorem xX{α:Type}{P:Program}:∀{s:Sem α} {a:α},Uk P s=some a->∀w,s.run P w=.ok a w:=by
 intro s;induction s with
 |pure a=>intro b h w;simp only [Uk,aU]at h;subst h;rfl
 |program k c=>intro b h w;exact c P h w
 |mark m k c=>intro b h w;exact c h w
 |_=>intro b h;simp [Uk]at h
def AT(b:BinOp)(x y:Value):Option Value:=
 match x,y with
 |.string s,.string t=>
  match b with
  |.eql=>some (.bool (decide (s.data.toList=t.data.toList)))
  |.neq=>some (.bool (!decide (s.data.toList=t.data.toList)))
  |.lss=>some (.bool (uH s.data.toList t.data.toList))
  |.gtr=>some (.bool (!(uH s.data.toList t.data.toList||s.data.toList==t.data.toList)))
  |_=>none
 |.int k a,.int k' c=>
  if k=k' then
   match b with
   |.lss=>some (.bool (decide (a<c)))
   |.leq=>some (.bool (decide (a<=c)))
   |.gtr=>some (.bool (decide (c<a)))
   |.geq=>some (.bool (decide (c<=a)))
   |.eql=>some (.bool (decide (a=c)))
   |.neq=>some (.bool (!decide (a=c)))
   |_=>none
  else none
 |_,_=>none
def isLen:Callee->Bool
 |.builtin .len=>true
 |_=>false
def oh(P:Program)(n:Md)(F:Nat->Value)(c:Call):Option Value:=
 bif isLen c.callee then
  match c.args.toList with
  |[x]=>match c.argTypes.toList with
   |[t]=>match P.underlying t with
    |some .string=>match aX n F x with|.string s=>some (.int .i64 (s.data.toList.length:Int))|_=>none
    |some (.slice _)=>match aX n F x with|.slice _ m _=>some (.int .i64 (m:Int))|_=>none
    |_=>none
   |_=>none
  |_=>none
 else none
def Pf(P:Program)(n:Md)(F:Nat->Value)(o:Oper):Option Value:=
 match o.op with
 |.move x=>some (aX n F x)
 |.assign x=>some (aX n F x)
 |.pick c a b=>match aX n F c with|.bool t=>some (bif t then aX n F a else aX n F b)|_=>none
 |.unOp .not _ x=>match aX n F x with|.bool b=>some (.bool (!b))|_=>none
 |.extract x i=>match aX n F x with|.tuple d=>d[i]? |_=>none
 |.binOp b _ x y _=>AT b (aX n F x) (aX n F y)
 |.call c=>oh P n F c
 |_=>match Uk P (execOp (aX n F) o)with|some (.value v)=>some v|_=>none
section
variable {P:Program}{n:Md}{ops:Array Oper}{Q:Exit->Act->World->Prop}{F:Nat->Value}{w:World}
theorem DS(ρ : Operand -> Value)(a : Option Nat)(op : Op)(ty : TypeId)(pos : String)(after : Array Edge)(g : Option (Nat × Bool)) : execOp ρ ⟨a, op, ty, pos, after, g⟩ = execOp ρ ⟨some 0, op, ty, "", #[], none⟩ := rfl
variable {t:TypeId}{i:Option Nat}{e:String}{d:Array Edge}{g:Option (Nat×Bool)}{v:Value}
theorem YC{b:BinOp}{t':TypeId}{x y:Operand}{ty:TypeId}(h:AT b (aX n F x) (aX n F y)=some v)(w:World):
  (execOp (aX n F) (⟨i,.binOp b t x y t',ty,e,d,g⟩:Oper)).run P w=.ok (.value v) w:=by
 rw [DS];generalize hx:aX n F x=a at h;generalize f:aX n F y=c at h;cases a with
 |string s=>
  cases c with
  |string t2=>
   have m:aX n F x=str s.data.toList:=hx;have p:aX n F y=str t2.data.toList:=f;cases b<;>simp only [AT,aU,reduceCtorEq]at h<;>subst h
   ·exact JJ _ _ m p
   ·exact JG _ _ m p
   ·exact JH _ _ m p
   ·exact JI _ _ m p
  |_=>simp [AT]at h
 |int k a=>
  cases c with
  |int k' c=>
   by_cases j:k=k'
   ·subst j;cases b<;>simp only [AT,fM,aU,reduceCtorEq]at h<;>subst h
    ·exact UG k _ _ hx f
    ·exact TY k _ _ hx f
    ·exact UA k _ _ hx f
    ·exact UB k _ _ hx f
    ·exact UE k _ _ hx f
    ·exact UF k _ _ hx f
   ·simp [AT,j]at h
  |_=>simp [AT]at h
 |_=>simp [AT]at h
theorem XW{c:Call}(h:oh P n F c=some v)(w:World):
  (execOp (aX n F) (⟨i,.call c,t,e,d,g⟩:Oper)).run P w=.ok (.value v) w:=by
 rw [DS];obtain⟨cl,gH,p⟩:=c;unfold oh at h;cases b:isLen cl with
 |false=>rw [b]at h;cases h
 |true=>
  obtain rfl:cl=.builtin .len:=by
   unfold isLen at b;split at b
   ·rfl
   ·cases b
  rw [b]at h;simp only [aL]at h;obtain⟨gH⟩:=gH;obtain⟨p⟩:=p
  match gH,p,h with
  |[x],[q],h=>
   dsimp only at h;split at h
   ·rename_i f;split at h
    ·rename_i s hx;cases h;exact fc s.data.toList f hx
    ·cases h
   ·rename_i j f;split at h
    ·rename_i a m c hx;cases h;exact Tw a m c j f hx
    ·cases h
   ·cases h
  |[],_,h=>cases h
  |[_],[],h=>cases h
  |[_],_::_::_,h=>cases h
  |_::_::_,_,h=>cases h
theorem yJ{o:Oper}(h:Pf P n F o=some v)(w:World):(execOp (aX n F) o).run P w=.ok (.value v) w:=by
 obtain⟨i,op,ty,pos,after,g⟩:=o;unfold Pf at h;dsimp only at h;split at h
 ·cases h;rfl
 ·cases h;rfl
 ·rename_i c a b;rw [DS];split at h
  ·rename_i t f;cases h;exact TW t _ f rfl
  ·cases h
 ·rw [DS];split at h
  ·rename_i b hx;cases h;exact TX b hx
  ·cases h
 ·rw [DS];split at h
  ·rename_i d hx;exact Qi d v hx h
  ·cases h
 ·exact YC h w
 ·exact XW h w
 ·split at h
  ·rename_i j e;cases h;exact xX e w
  ·cases h
def gof(ops:Array Oper)(g:Nat):Option Nat:=(ops[g]?).bind (·.dst)
def M5(P:Program)(n:Md)(ops:Array Oper)(F:Nat->Value)(o:Oper):Value:=
 match o.guard with
 |none=>(Pf P n F o).getD undef
 |some (g,b)=>match gof ops g with
  |none=>undef
  |some dg=>match F dg with
   |.bool c=>bif c==b then(Pf P n F o).getD undef else undef
   |_=>undef
def Cm(P:Program)(n:Md)(ops:Array Oper)(F:Nat->Value)(o:Oper):Nat->Value:=
 match o.dst with
 |none=>F
 |some d=>eF F d (M5 P n ops F o)
def oX:Value->Bool
 |.tuple a=>a.toList.isEmpty
 |_=>false
theorem Lu(h:oX v=true):v=undef:=by
 unfold oX at h;split at h
 ·rename_i b;obtain⟨l⟩:=b;cases l with
  |nil=>rfl
  |cons a l=>cases h
 ·cases h
def SW(P:Program)(n:Md)(ops:Array Oper)(F:Nat->Value)(o:Oper):Bool:=
 match o.dst with
 |none=>false
 |some d=>match o.guard with
  |none=>(Pf P n F o).isSome
  |some (g,b)=>match gof ops g with
   |none=>false
   |some dg=>fZ dg n.n&&match F dg with
    |.bool c=>bif c==b then(Pf P n F o).isSome else true
    |v=>oX v
def pF(P:Program)(n:Md)(ops:Array Oper):Nat->List Oper->(Nat->Value)->Nat->Value
 |0,_,F=>F
 |_+1,[],F=>F
 |m+1,o::l,F=>pF P n ops m l (Cm P n ops F o)
def pOK(P:Program)(n:Md)(ops:Array Oper):Nat->List Oper->(Nat->Value)->Bool
 |0,_,_=>true
 |_+1,[],_=>false
 |m+1,o::l,F=>SW P n ops F o&&pOK P n ops m l (Cm P n ops F o)
variable {l:List Oper}
theorem yy{o:Oper}(a:SW P n ops F o=true)(h:W P n ops Q l (Cm P n ops F o) w):W P n ops Q (o::l) F w:=by
 obtain⟨s,op,ty,pos,after,gd⟩:=o;cases s with
 |none=>simp [SW]at a
 |some d=>
  cases gd with
  |none=>
   simp only [SW]at a;cases e:Pf P n F ⟨some d,op,ty,pos,after,none⟩with
   |none=>rw [e]at a;cases a
   |some v=>simp only [Cm,M5,e,lU]at h;exact gM rfl rfl (yJ e w) h
  |some r=>
   obtain⟨g,b⟩:=r;simp only [SW]at a;cases i:gof ops g with
   |none=>rw [i]at a;cases a
   |some dg=>
    rw [i]at a;simp only [fS]at a;simp only [Cm,M5,i]at h;cases j:F dg with
    |bool c=>
     rw [j]at a h;cases k:c==b with
     |true=>
      have f:c=b:=by simpa using k
      subst f;simp only [k,aL]at a h;cases e:Pf P n F ⟨some d,op,ty,pos,after,some (g,c)⟩with
      |none=>rw [e]at a;exact absurd a.2 aA2
      |some v=>rw [e]at h;exact FY dg i a.1 j (gM rfl rfl (yJ (o:=⟨some d,op,ty,pos,after,none⟩) e w) h)
     |false=>
      have f:c= !b:=by cases c<;>cases b<;>simp_all
      subst f;simp only [k,aG]at h;exact fm dg i a.1 j h
    |tuple m=>
     rw [j]at a h;have p:F dg=undef:=by rw [j];have q:oX (.tuple m)=true:=a.2;exact Lu q
     exact fk dg i a.1 p h
    |_=>rw [j]at a;exact absurd a.2 (by simp [oX])
theorem UP:∀(m:Nat) (l:List Oper) (F:Nat->Value),pOK P n ops m l F=true->W P n ops Q (l.drop m) (pF P n ops m l F) w->W P n ops Q l F w
 |0,l,F,_,h=>h
 |m+1,[],F,a,_=>by simp [pOK]at a
 |m+1,o::l,F,a,h=>by simp only [pOK,fS]at a;exact yy a.1 (UP m l _ a.2 h)
theorem wp(m:Nat)(h:W P n ops Q (l.drop m) (pF P n ops m l F) w)(a:pOK P n ops m l F=true:=by kernel_rfl):W P n ops Q l F w:=UP m l F a h
variable {b:Nat}{c:List Deferred}
theorem eo{o:Oper}(a:SW P ⟨b,c,none⟩ ops F o=true):YieldsIf P ops (fun _=>True) o (M5 P ⟨b,c,none⟩ ops F o) (fr ⟨b,c,none⟩ F):=by
 obtain⟨m,op,ty,pos,after,gd⟩:=o;cases m with
 |none=>simp [SW]at a
 |some d=>
  cases gd with
  |none=>
   simp only [SW]at a;cases f:Pf P ⟨b,c,none⟩ F ⟨some d,op,ty,pos,after,none⟩with
   |none=>rw [f]at a;cases a
   |some v=>simp only [M5,f,lU];exact jG rfl fun w _=>yJ f w
  |some r=>
   obtain⟨g,k⟩:=r;simp only [SW]at a;cases h:gof ops g with
   |none=>rw [h]at a;cases a
   |some dg=>
    rw [h]at a;simp only [fS]at a;simp only [M5,h];cases i:F dg with
    |bool j=>
     rw [i]at a;cases l:j==k with
     |true=>
      have e:j=k:=by simpa using l
      subst e;simp only [l,aL]at a⊢;cases f:Pf P ⟨b,c,none⟩ F ⟨some d,op,ty,pos,after,some (g,j)⟩with
      |none=>rw [f]at a;exact absurd a.2 aA2
      |some v=>exact qP dg h a.1 i fun w _=>yJ (o:=⟨some d,op,ty,pos,after,none⟩) f w
     |false=>
      have e:j= !k:=by cases j<;>cases k<;>simp_all
      subst e;simp only [l,aG];exact yo dg h a.1 i
    |tuple n=>
     rw [i]at a;have q:oX (.tuple n)=true:=a.2;have p:F dg=undef:=by rw [i];exact Lu q
     exact yn dg h a.1 p
    |_=>rw [i]at a;exact absurd a.2 (by simp [oX])
def rF(P:Program)(n:Md)(ops:Array Oper):List Nat->(Nat->Value)->Nat->Value
 |[],F=>F
 |i::a,F=>rF P n ops a (match ops[i]? with|some o=>Cm P n ops F o|none=>F)
def rL:List Nat->List Bool->List Bool
 |[],l=>l
 |i::a,l=>rL a (l.set i true)
def nt(P:Program)(n:Md)(ops:Array Oper)(k:Nat):List Nat->List Bool->(Nat->Value)->Bool
 |[],_,_=>true
 |i::a,l,F=>(match ops[i]? with|some o=>SW P n ops F o|none=>false)&&Region.free .any ops l.toArray i&&(Region.ready .any ops l.toArray).contains i&&fZ i k&&
   nt P n ops k a (l.set i true) (match ops[i]? with|some o=>Cm P n ops F o|none=>F)
theorem WV{a:Nat}{b:List Deferred}{S:Nat->World->World->Prop}{k f':Nat}(n:Ed ops k=true):∀(c:List Nat) (l:List Bool) (F:Nat->Value),nt P ⟨a,b,none⟩ ops k c l F=true->
  R P ⟨a,b,none⟩ ops Q S k f' (rL c l) (rF P ⟨a,b,none⟩ ops c F) w->R P ⟨a,b,none⟩ ops Q S k (f'+c.length) l F w
 |[],l,F,_,h=>h
 |i::c,l,F,g,h=>by
  simp only [nt,fS]at g;obtain⟨⟨⟨⟨j,s⟩,r⟩,q⟩,p⟩:=g;cases m:ops[i]? with
  |none=>rw [m]at j;cases j
  |some o=>
   rw [m]at j p;simp only [rL,rF,m]at h;have f:∃d,o.dst=some d:=by
    cases f:o.dst with
    |none=>simp [SW,f]at j
    |some d=>exact⟨d,rfl⟩
   obtain⟨d,f⟩:=f;have e:Cm P ⟨a,b,none⟩ ops F o=eF F d (M5 P ⟨a,b,none⟩ ops F o):=by simp [Cm,f]
   refine XJ _ i d (M5 P ⟨a,b,none⟩ ops F o) o m f n s r q rfl (eo j) ?_;rw [<-e];exact WV n c (l.set i true) (Cm P ⟨a,b,none⟩ ops F o) p h
variable {S:Nat->World->World->Prop}{k f:Nat}{a:List Bool}
theorem rp(f':Nat)(l:List Nat)(h:R P ⟨b,c,none⟩ ops Q S k f' (rL l a) (rF P ⟨b,c,none⟩ ops l F) w)
  (g:f=f'+l.length:=by kernel_rfl) (e:Ed ops k=true:=by kernel_rfl) (d:nt P ⟨b,c,none⟩ ops k l a F=true:=by kernel_rfl):R P ⟨b,c,none⟩ ops Q S k f a F w:=by
 subst g;exact WV e l a F d h
variable {o:Oper}
theorem rt{d:Nat}(i:Nat)(v:Value)(n:ops[i]? =some o)(p:o.dst=some d)(g:YieldsIf P ops (fun _=>True) o v (fr ⟨b,c,none⟩ F))
  (h:R P ⟨b,c,none⟩ ops Q S k f (a.set i true) (eF F d v) w) (j:Ed ops k=true:=by kernel_rfl) (l:Region.free .any ops a.toArray i=true:=by kernel_rfl)
  (m:(Region.ready .any ops a.toArray).contains i=true:=by kernel_rfl) (e:fZ i k=true:=by kernel_rfl):R P ⟨b,c,none⟩ ops Q S k (f+1) a F w:=XJ _ i d v o n p j l m e rfl g h
theorem ro(i:Nat)(e:ops[i]? =some o)(h:W P ⟨b,c,none⟩ ops (RK P ⟨b,c,none⟩ ops Q S k f (a.set i true) i w) [o] F w)
  (d:Region.ready .any ops a.toArray=[i]:=by kernel_rfl) (l:fZ i k=true:=by kernel_rfl):R P ⟨b,c,none⟩ ops Q S k (f+1) a F w:=XK _ i o e d l rfl h
theorem cdr{w0:World}{S0:List Nat}{L:List cF}(a:Nat)(f:Hp w0 S0 L w)(e:FB Q)
  (h:∀w',Hp w0 S0 L w'->R P ⟨b,c,none⟩ l.toArray Q (fun _ _ _=>True) a a (iZ l.length false) F w') (d:P.follows .mixedOrders=true:=by kernel_rfl) (j:Ed l.toArray a=true:=by kernel_rfl):
  C P ⟨b,c,none⟩ Q (.region k l.toArray true) F w:=TC a _ _ (fun _ _=>trivial) d j f rfl e h
section
variable {α:Type}{c:Operand}{x y:Code}{p:Prop}{ip:Decidable p}{a b r:α}{t:Bool}
theorem cd(d:(if p then a else b)=r)(e:p->a=r->C P n Q x F w)(f:¬p->b=r->C P n Q y F w)(g:aX n F c=.bool (decide p):=by kernel_rfl):C P n Q (.cond c x y) F w:=
 c_dec g (fun h=>e h (FH h d)) (fun h=>f h (FI h d))
theorem cn(d:(if p then a else b)=r)(e:¬p->b=r->C P n Q x F w)(f:p->a=r->C P n Q y F w)(g:aX n F c=.bool (!decide p):=by kernel_rfl):C P n Q (.cond c x y) F w:=
 tf g (fun h=>e h (FI h d)) (fun h=>f h (FH h d))
theorem cb(d:cond t a b=r)(e:t=true->a=r->C P n Q x F w)(f:t=false->b=r->C P n Q y F w)(g:aX n F c=.bool t:=by kernel_rfl):C P n Q (.cond c x y) F w:=
 sS g (fun h=>e h (cft h d)) (fun h=>f h (cff h d))
variable {d:Nat}{ty:TypeId}{pos:String}{after:Array Edge}{rest:List Oper}{o:Operand}
theorem wd(c:(if p then a else b)=r)(e:p->a=r->W P n ops Q rest (eF F d (.bool true)) w)(f:¬p->b=r->W P n ops Q rest (eF F d (.bool false)) w)(g:aX n F o=.bool (decide p):=by kernel_rfl):W P n ops Q (⟨some d,.move o,ty,pos,after,none⟩::rest) F w:=
 FX p g (fun h=>e h (FH h c)) (fun h=>f h (FI h c))
theorem wn(c:(if p then a else b)=r)(e:¬p->b=r->W P n ops Q rest (eF F d (.bool true)) w)(f:p->a=r->W P n ops Q rest (eF F d (.bool false)) w)(g:aX n F o=.bool (!decide p):=by kernel_rfl):W P n ops Q (⟨some d,.move o,ty,pos,after,none⟩::rest) F w:=
 Yx p g (fun h=>e h (FI h c)) (fun h=>f h (FH h c))
theorem wb(c:cond t a b=r)(e:t=true->a=r->W P n ops Q rest (eF F d (.bool true)) w)(f:t=false->b=r->W P n ops Q rest (eF F d (.bool false)) w)(g:aX n F o=.bool t:=by kernel_rfl):W P n ops Q (⟨some d,.move o,ty,pos,after,none⟩::rest) F w:=
 qU t g (fun h=>e h (cft h c)) (fun h=>f h (cff h c))
end
variable {x:Code}{a:World}{S:List Nat}{R:List cF}
theorem lF{y:Code}(j:Hp a S R w)(b:List Nat)(L:List (Nat×Value))
  (hx:C P n (Exit.then (fun a' w'=>∃c,a'=fr n c/\b.map c=b.map (app L F)/\Hp a S R w') Q) x F w)
  (d:∀w G,Hp a S R w->C P n Q y (zP b (app L F) G) w):C P n Q (.seq x y) F w:=
 cut (σ:=Unit) b (fun _=>L) (fun _ w'=>Hp a S R w') (Xi hx fun e m w' h=>by
  cases e with
  |normal=>obtain⟨c,i,g,f⟩:=h;exact⟨(),c,i,g,f⟩
  |exit id=>exact h
  |goto l=>exact h
  |ret=>exact h
  |panic k=>exact h
  |outgrown=>exact h) (fun _ w G h=>d w G h)
variable {f:World}{b:List Nat}{A d:Nat->Value}
theorem je(e:Hp a S R f)(h:b.map d=b.map A:=by kernel_rfl):∃c,fr n d=fr n c/\b.map c=b.map A/\Hp a S R f:=⟨_,rfl,h,e⟩
variable {c e:Type}
theorem EG{y:Code}(d:Hp a S R w)(j:c⊕e)(ρ:List Nat)(L:c->List (Nat×Value))
  (hx:C P n (Exit.then (fun a' w'=>∃s' b,a'=fr n b/\ρ.map b=ρ.map (app (L s') F)/\Hp a S R w'/\j=.inl s') Q) x F w)
  (σ:∀s w G,Hp a S R w->j=.inl s->C P n Q y (zP ρ (app (L s) F) G) w):C P n Q (.seq x y) F w:=
 cut ρ L (fun s w'=>Hp a S R w'/\j=.inl s) hx (fun s w G h=>σ s w G h.1 h.2)
variable {L:c->List (Nat×Value)}
theorem Z4{j:c⊕e}{s:c}(ρ:j=.inl s)(σ:Hp a S R f)(h:b.map d=b.map (app (L s) A):=by kernel_rfl):
  ∃s' g,fr n d=fr n g/\b.map g=b.map (app (L s') A)/\Hp a S R f/\j=.inl s':=⟨s,_,rfl,h,σ,ρ⟩
variable {t:Nat}
theorem mc(h:A t=d t)(b:S.map A=S.map d):(t::S).map A=(t::S).map d:=by simp [h,b]
theorem SY{r:e}(g:Nat->c->Option e)(j:c)(o:Hp a S R w)(m:g t j=some r)(d:List Nat)(L:c->List (Nat×Value))(u:∀s,g 0 s=none)
  (round:∀b s w G,Hp a S R w->g (b+1) s=some r->C P n (Exit.then (fun a' w'=>∃s' i,a'=fr n i/\d.map i=d.map (app (L s') F)/\Hp a S R w'/\g b s'=some r) Q) x (zP d (app (L s) F) G) w)
  (y:d.map F=d.map (app (L j) F):=by kernel_rfl):C P n Q (.loop x) F w:=by
 refine LI (σ:=Nat×c) d (fun s=>L s.2) (fun s w'=>Hp a S R w'/\g s.1 s.2=some r) (fun s=>s.1) (t,j) ⟨o,m⟩ (fun s w G h=> ?_) y;obtain⟨b,s⟩:=s;obtain⟨k,f⟩:=h;cases b with
 |zero=>rw [u]at f;cases f
 |succ b=>
  refine Xi (round b s w G k f) fun τ ρ w' h=> ?_;cases τ with
  |normal=>obtain⟨s',i,k,f,q,p⟩:=h;exact⟨(b,s'),i,k,f,⟨q,p⟩,vT _⟩
  |exit id=>exact h
  |goto l=>exact h
  |ret=>exact h
  |panic v=>exact h
  |outgrown=>exact h
theorem X0{r:e}{g:c->Option e}(s:c)(ρ:Hp a S R f)(τ:g s=some r)(h:b.map d=b.map (app (L s) A):=by kernel_rfl):
  ∃s' i,fr n d=fr n i/\b.map i=b.map (app (L s') A)/\Hp a S R f/\g s'=some r:=⟨s,_,rfl,h,ρ,τ⟩
theorem Hp.kp{w:World}{L1:List cF}(h:Hp a S R w)(L:R.take L1.length=L1:=by kernel_rfl):Hp a S L1 w:=h.sub (by rw [<-L];exact List.take_sublist _ _)
theorem oi{a b:c}(h:some a=some b):a=b:=aJ h
section
variable {d:Nat}{ty:TypeId}{pos:String}{after:Array Edge}{rest:List Oper}{w0:World}{S:List Nat}{L:List cF}
theorem wc{b:Operand}{gH:Array Operand}{a:Array TypeId}{f:FuncId}{vs:List Value}{V:Value}(k:Enters P f)(j:Hp w0 S L w)(g:CR P f vs w fun v w'=>v=V/\Hp w [] [] w')
  (h:∀w',Hp w0 S L w'->W P n ops Q rest (eF F d V) w') (e:aX n F b=.func (.func f) #[] #[]:=by kernel_rfl) (i: #[]++gH.map (aX n F)++ #[]=vs.toArray:=by kernel_rfl):
  W P n ops Q (⟨some d,.call ⟨.value b,gH,a⟩,ty,pos,after,none⟩::rest) F w:=by
 refine pL f #[] vs _ k e i g ?_;rintro _ w' ⟨rfl,c⟩;exact h w' (j.call c)
end
def zz(n:Md)(F:Nat->Value):ResultVar->Value
 |.tmp t=>aX n F (.tmp t)
 |.cell _ _=>undef
def ng(n:Md)(F:Nat->Value)(fn:Func):Value:=
 match fn.results.toList.map (zz n F)with
 |[u]=>u
 |a=>.tuple a.toArray
def IQ(fn:Func):Bool:=fn.results.toList.all fun|.tmp _=>true|.cell _ _=>false
variable {a:Option (Option Nat)}{b:Func}
theorem na{kk:Nat}(h:IQ b=true):(results b (fr ⟨kk,[],a⟩ F).tmps).run P w=.ok (ng ⟨kk,[],a⟩ F b) w:=by
 have key:∀f:List Value,f=b.results.toList.map (zz ⟨kk,[],none⟩ F)->(results b (fr ⟨kk,[],none⟩ F).tmps).run P w=.ok (match f with|[u]=>u|d=>.tuple d.toArray) w:=by
  intro f e;refine rA (kk:=kk) (F:=F) b.results.toList f rfl (by simp [e]) ?_ _ (by cases f with|nil=>rfl|cons j gH=>cases gH<;>rfl);intro i x v hx c;subst e;simp only [bE,hx,Yp,aU]at c;have:=aT.1 h x (aI hx);cases x with
  |tmp t=>exact adc c
  |cell j t=>cases this
 exact key _ rfl
variable {k:Nat}
theorem rx{R:Value->World->Prop}(h:R (ng ⟨k,[],a⟩ F b) w)(d:IQ b=true:=by kernel_rfl):
  bodyPost P b (fun e w'=>∃v,e=.returned v/\R v w') .ret (fr ⟨k,[],a⟩ F) w:=⟨rfl,_,na d,_,rfl,h⟩
theorem rv{V:Value}{w0:World}{S:List Nat}{L:List cF}(h:Hp w0 S L w)(f:ng ⟨k,[],a⟩ F b=V:=by kernel_rfl)(d:IQ b=true:=by kernel_rfl):
  bodyPost P b (fun e w'=>∃v,e=.returned v/\v=V/\Hp w0 S L w') .ret (fr ⟨k,[],a⟩ F) w:=rx ⟨f,h⟩ d
variable {c:Type}{g:Prop}{o:Option c}
theorem bi{α:Type}{f:c->Option α}{r:α}(h:o.bind f=some r)(k:∀y,o=some y->f y=some r->g):g:=let ⟨y,a,b⟩:=Am h;k y a b
theorem gi{ip:Decidable g}{r:c}{p:Prop}(h:gd g o=some r)(k:g->o=some r->p):p:=let ⟨a,b⟩:=C0 h;k a b
variable {y:Code}
theorem cs{x:Code}(h:C P n (Ef P n x Q) y F w):C P n Q (.seq y x) F w:=Xk h
variable {l:List Oper}
theorem cr(h:W P n l.toArray Q l F w):C P n Q (.region k l.toArray false) F w:=IL h
theorem wl(h:Q .normal (fr n F) w):W P n ops Q [] F w:=kM h
theorem qn{k':Nat}{D d:List Deferred}(h:C P ⟨k,D,a⟩ Q y F w):Ef P ⟨k',d,a⟩ y Q .normal (fr ⟨k,D,a⟩ F) w:=FK h
theorem ct(h:Q .ret (fr n F) w):C P n Q .ret F w:=Tc h
theorem ck(h:Q .normal (fr n F) w):C P n Q .skip F w:=Ng h
theorem ce(h:C P n (Exit.inBlock k Q) y F w):C P n Q (.block k y) F w:=NB h
theorem ql{K:Act->World->Prop}(h:K (fr n F) w):Exit.then K Q .normal (fr n F) w:=h
theorem st{m:Md}(h:Q .ret (fr n F) w):Ef P m y Q .ret (fr n F) w:=Zu h
theorem gB(h:Q .ret (fr n F) w):Exit.inBlock k Q .ret (fr n F) w:=h
theorem bn(h:Q .normal (fr n F) w):Exit.inBlock k Q .normal (fr n F) w:=h
theorem gy{a:Option Nat}{op:Op}{ty:TypeId}{pos:String}{after:Array Edge}{b:Bool}(dg:Nat)(h:W P n ops Q (⟨a,op,ty,pos,after,none⟩::l) F w)
  (e:(ops[k]?).bind (·.dst)=some dg:=by kernel_rfl) (d:fZ dg n.n=true:=by kernel_rfl) (c:F dg=.bool b:=by kernel_rfl):W P n ops Q (⟨a,op,ty,pos,after,some (k,b)⟩::l) F w:=FY dg e d c h
theorem sr(h:W P n l.toArray (Ef P n y Q) l F w):C P n Q (.seq (.region k l.toArray false) y) F w:=Xk (IL h)
theorem nq{k':Nat}{D d:List Deferred}(h:C P ⟨k,D,a⟩ Q y F w):W P ⟨k,D,a⟩ ops (Ef P ⟨k',d,a⟩ y Q) [] F w:=kM (FK h)
end
open Go
open List renaming replicate → iZ
open Nat renaming blt → fZ
section
variable {P:Program}{kn:Nat}{kD:List Deferred}{ro:Option (Option Nat)}{ops:Array Oper}{Q:Exit->Act->World->Prop}{S:Nat->World->World->Prop}{F:Nat->Value}{w:World}
@[reducible] def NP (Q:Exit->Act->World->Prop):Exit->Act->World->Prop:=fun e a w=>match e with|.panic _=>False|e=>Q e a w
theorem gk:FB (NP Q):=fun _ _ _ h=>h
variable {b:World}{L:List cF}
theorem Hp.blkeq{S:List Nat}(h:Hp b S L w)(k m:Nat)(cs a:List Value)(e:TypeId)(d:L[k]? =some (aQ m cs e))(g:cs=a):Hp b S (L.set k (aQ m a e)) w:=by
 subst g;have c:k<L.length:=(aD.1 d).1;have j:L.set k (aQ m cs e)=L:=by
  apply cL;intro i;rw [eN];by_cases f:k=i
  ·subst f;rw [d];simp [c]
  ·simp [f]
 rw [j];exact h
theorem Rm{a:Act}(h:Q .normal a w):NP Q .normal a w:=h
theorem c_np{n:Md}{c:Code}(h:C P n (NP Q) c F w):C P n Q c F w:=Xi h fun e a w b=>by
 cases e with
 |panic c=>exact b.elim
 |_=>exact b
def nodB(l:List Oper):Bool:=l.all fun o=>match o.op with|.defer _=>false|_=>true
variable {a:List Oper}
theorem pb(h:nodB a=true):NoD a.toArray:=by intro j o c d l;have b:=aT.1 h o (by have:=aI (show a[j]? =some o by simpa using d);simpa using this);rw [l]at b;cases b
variable {k:Nat}
theorem Td{S0:List Nat}(i:Nat)(S:Nat->World->World->Prop)(listed:List Bool)(m:∀j w,S j w w)(c:P.follows .mixedOrders=true)(l:Ed a.toArray i=true)
  (f:Hp b S0 L w) (d:iZ a.length false=listed) (e:FB Q) (h:∀w',Hp b S0 L w'->RO P ⟨kn,kD,ro⟩ a.toArray Q S i i listed F w') (g:nodB a=true:=by kernel_rfl):C P ⟨kn,kD,ro⟩ Q (.region k a.toArray true) F w:=
 G7 i S listed m c l f d e (fun _=>pb g) h
variable {f:Nat}{l:List Bool}{o:Oper}
theorem rtO{d:Nat}(i:Nat)(v:Value)(j:ops[i]? =some o)(m:o.dst=some d)(c:YieldsIf P ops (fun _=>True) o v (fr ⟨kn,kD,ro⟩ F))
  (h:RO P ⟨kn,kD,ro⟩ ops Q S k f (l.set i true) (eF F d v) w) (e:Ed ops k=true:=by kernel_rfl) (a:Region.free .any ops l.toArray i=true:=by kernel_rfl)
  (g:(Region.ready .any ops l.toArray).contains i=true:=by kernel_rfl) (b:fZ i k=true:=by kernel_rfl):RO P ⟨kn,kD,ro⟩ ops Q S k (f+1) l F w:=KU _ i d v o j m e a g b rfl c h
theorem roO(i:Nat)(c:ops[i]? =some o)(h:W P ⟨kn,kD,ro⟩ ops (RKO P ⟨kn,kD,ro⟩ ops Q S k f (l.set i true) i w) [o] F w)
  (b:Region.ready .any ops l.toArray=[i]:=by kernel_rfl) (a:fZ i k=true:=by kernel_rfl):RO P ⟨kn,kD,ro⟩ ops Q S k (f+1) l F w:=T7 _ i o c b a rfl h
theorem KE{k f':Nat}(j:Ed ops k=true):∀(a:List Nat) (l:List Bool) (F:Nat->Value),nt P ⟨kn,kD,none⟩ ops k a l F=true->
  RO P ⟨kn,kD,ro⟩ ops Q S k f' (rL a l) (rF P ⟨kn,kD,none⟩ ops a F) w->RO P ⟨kn,kD,ro⟩ ops Q S k (f'+a.length) l F w
 |[],l,F,_,h=>h
 |i::a,l,F,c,h=>by
  simp only [nt,fS]at c;obtain⟨⟨⟨⟨f,q⟩,p⟩,n⟩,m⟩:=c;cases g:ops[i]? with
  |none=>rw [g]at f;cases f
  |some o=>
   rw [g]at f m;simp only [rL,rF,g]at h;have b:∃d,o.dst=some d:=by
    cases b:o.dst with
    |none=>simp [SW,b]at f
    |some d=>exact⟨d,rfl⟩
   obtain⟨d,b⟩:=b;have e:Cm P ⟨kn,kD,none⟩ ops F o=eF F d (M5 P ⟨kn,kD,none⟩ ops F o):=by simp [Cm,b]
   refine KU _ i d (M5 P ⟨kn,kD,none⟩ ops F o) o g b j q p n rfl (eo f) ?_;rw [<-e];exact KE j a (l.set i true) (Cm P ⟨kn,kD,none⟩ ops F o) m h
theorem rpO(f':Nat)(a:List Nat)(h:RO P ⟨kn,kD,ro⟩ ops Q S k f' (rL a l) (rF P ⟨kn,kD,none⟩ ops a F) w)
  (d:f=f'+a.length:=by kernel_rfl) (c:Ed ops k=true:=by kernel_rfl) (b:nt P ⟨kn,kD,none⟩ ops k a l F=true:=by kernel_rfl):RO P ⟨kn,kD,ro⟩ ops Q S k f l F w:=by
 subst d;exact KE c a l F b h
end
open Go
def Rp(b:Nat)(l:List Int):cF:=
 ⟨some b,fun o=>∃a clock,o=some (.map a clock)/\a.toList.map (·.key)=l.map (Value.int .i64)/\∀e∈a.toList,e.val=.bool true⟩
theorem Fc(n:Int):∀(b:List MapEntry) (l:List Int) (i:Nat),b.map (·.key)=l.map (Value.int .i64)->(∀e∈b,e.val=.bool true)->
  ∃j,Instr.findNow (.int .i64) (.int .i64 n) b i=some (if n∈l then some (i+j,.bool true)else none)/\(n∈l->l[j]? =some n)
 |[],[],i,_,_=>⟨0,by simp [Instr.findNow]⟩
 |[],_::_,i,h,_=>by cases h
 |_::_,[],i,h,_=>by cases h
 |e::b,m::l,i,h,d=>by
  simp only [vS,jT]at h;obtain⟨f,o⟩:=h;obtain⟨j,g,c⟩:=Fc n b l (i+1) o fun e k=>d e (by simp [k]);by_cases a:n=m
  ·subst a;refine⟨0, ?_,fun _=>rfl⟩;simp [Instr.findNow,Instr.sameNow,f,d e aA2]
  ·refine⟨j+1, ?_,fun h=>by simpa [a] using c (by simpa [a] using h)⟩;simp only [Instr.findNow,Instr.sameNow,f,fM,SQ,a,false_or];have:(n==m)=false:=by simp [a]
   simp only [this,g];split
   ·simp;omega
   ·rfl
section
variable {P:Program}{n:Md}{ops:Array Oper}{Q:Exit->Act->World->Prop}{F:Nat->Value}{w w0:World}{S:List Nat}{L:List cF}
variable {d:Nat}{ty:TypeId}{pos:String}{after:Array Edge}{rest:List Oper}
variable {t:TypeId}
theorem P0(a:Hp w0 S L w)(h:∀b w',Hp w0 S (Rp b []::L) w'->W P n ops Q rest (eF F d (.map (some b))) w'):W P n ops Q (⟨some d,.makeMap t none,ty,pos,after,none⟩::rest) F w:=by refine gM (w':=w.alloc (.map #[] 0)) rfl rfl ?_ (h w.heap.size _ (a.Xs _ (Rp w.heap.size []) rfl ⟨#[],0,rfl,rfl,aA2⟩));simp [execOp,Instr.makeMap]
theorem Ks(a:P.underlying t=some (.int .i64))(m:Int)(b:Bool):(Instr.checkKey b 10000 t (.int .i64 m)).run P w=.ok () w:=by
 have key:∀i,(Instr.checkKey b (i+1) t (.int .i64 m)).run P w=.ok () w:=fun i=>by simp [Instr.checkKey,run_underlying a]
 exact key 9999
theorem BF(d:P.underlying t=some (.int .i64)){b:Nat}{a:Array MapEntry}{l:List Int}(m:Int)(h:a.toList.map (·.key)=l.map (Value.int .i64))(g:∀e∈a.toList,e.val=.bool true):
  ∃j,(Instr.findKey t (.int .i64 m) a.toList).run P w=.ok (if m∈l then some (j,.bool true)else none) w/\(m∈l->l[j]? =some m):=by
 obtain⟨j,f,c⟩:=Fc m a.toList l 0 h g;refine⟨j, ?_,c⟩;unfold Instr.findKey;simp [run_underlying d,f]
theorem ls{k e:TypeId}{x i:Operand}(u:Hp w0 S L w)(kk b:Nat)(l:List Int)(m:Int)(s:L[kk]? =some (Rp b l))(o:P.underlying t=some (.map k e))(g:P.underlying k=some (.int .i64))(r:(zeroValue e).run P w=.ok (.bool false) w)
  (hx:aX n F x=.map (some b)) (p:aX n F i=.int .i64 m) (h:W P n ops Q rest (eF F d (.bool (decide (m∈l)))) w):W P n ops Q (⟨some d,.lookup t x i false,ty,pos,after,none⟩::rest) F w:=by
 obtain⟨q,clock,z,y,v⟩:=(u.res _ (aI s)).1;have a:(getObj b).run P w=.ok (.map q clock) w:=by have:w.heap[b]? =some (.map q clock):=z;simp [getObj,Sem.run,this]
 obtain⟨j,f,_⟩:=BF (P:=P) (w:=w) g (b:=b) m y v;refine gM (w':=w) rfl rfl ?_ h;by_cases c:m∈l
 ·simp only [c,fM]at f;simp [execOp,hx,p,Instr.lookup,run_underlying o,a,Ks g,f,c]
 ·simp only [c,cX]at f;simp [execOp,hx,p,Instr.lookup,run_underlying o,a,Ks g,f,c,r]
end
open Go.Value renaming ownBlock → Bl
open List renaming replicate → iZ
theorem DQ{α:Type}(f:α->List Value)(sz:Nat)(z:α)(a:(f z).length=sz):∀(n j:Nat),j<n*sz->((iZ n z).flatMap f)[j]? =(f z)[j%sz]?
 |0,j,h=>by simp at h
 |n+1,j,h=>by
  rw [List.replicate_succ,kS];by_cases b:j<sz
  ·rw [aH aA0,FC b]
  ·rw [aN aA0,a,DQ f sz z a n (j-sz) (by rw [dF]at h;omega)];congr 1;rw [<-Nat.mod_eq_sub_mod aA0]
theorem PY{α:Type}(f:α->List Value)(sz:Nat)(z:α)(b:Array Value)(g:b.toList=f z)(e:b.size=sz)(d:0<sz)(n:Nat):(madeCells b (n*sz)).toList=(iZ n z).flatMap f:=by
 have c:(f z).length=sz:=by rw [<-g];simpa using e
 apply cL;intro j;by_cases i:j<n*sz
 ·rw [DQ f sz z c n j i];have h:j%sz<b.size:=by rw [e];exact Nat.mod_lt _ d
  simp [madeCells,i,<-g,e];rw [gO h,getElem!_pos b _ h]
 ·rw [bL (by simp [madeCells];omega),bL];rw [a f sz z c];omega
where
 a {α:Type} (f:α->List Value) (sz:Nat) (z:α) (c:(f z).length=sz) {n:Nat}:((iZ n z).flatMap f).length=n*sz:=by
  induction n with
  |zero=>simp
  |succ n k=>rw [List.replicate_succ,kS,bM,k,c,dF];omega
section
variable {P:Program}{n:Md}{ops:Array Oper}{Q:Exit->Act->World->Prop}{F:Nat->Value}{w w0:World}{S:List Nat}{L:List cF}
variable {d:Nat}{ty:TypeId}{pos:String}{after:Array Edge}{rest:List Oper}{α:Type}{f:α->List Value}
theorem P2{x y:Operand}{t:TypeId}(hH:Hp w0 S L w)(e sz j:Nat)(kl V:IntKind)(c:Int)(z:α)(Z:P.underlying t=some (.slice e))(hT:TI P e sz j)(K:0<j)(H:0<sz)
  (E:((P.info? e).bind (·.zero)).map (·.cells)=some (f z).toArray) (hx:aX n F x=.int kl c) (Y:aX n F y=.int V c)
  (p:0<=c/\(j:Int)*c<=281474976710656)
  (h:∀o a cap w',Hp w0 S (aW f e sz o a cap (iZ c.toNat z)::L) w'->W P n ops Q rest (eF F d (.slice a (iZ c.toNat z).length cap)) w'):
  W P n ops Q (⟨some d,.makeSlice t x y,ty,pos,after,none⟩::rest) F w:=by
 obtain⟨i,B,X,q,hs,v,C⟩:=hT.parts;obtain⟨h0,M⟩:=p;obtain⟨cn,rfl⟩:=Int.eq_ofNat_of_zero_le h0;have N:i.bytes*cn<=281474976710656:=by
  rw [v];have a3:((j*cn:Nat):Int)<=281474976710656:=by rw [NW];exact M
  omega
 have O:cn<=maxLen:=by have:cn<=i.bytes*cn:=Nat.le_mul_of_pos_left _ (by rw [v];exact K);simp only [maxLen];omega
 have D:B.cells.toList=f z:=by rw [X]at E;simp [q]at E;rw [E]
 obtain⟨w',m,I,u⟩:=run_make_full (P:=P) w w.heap.size t e i B sz Z X q hs kl V cn N O (eV _);rw [PY f sz z B.cells D C H cn]at I;have T:Hp w [] [row (.slice (some ⟨w.heap.size,0,none⟩) cn cn) e sz cn ((iZ cn z).flatMap f)] w':=by
  refine⟨u.os,u.tape,u.output,u.size,fun k hk _=>u.block k hk aA2,fun r m=> ?_,aA2⟩;simp at m;subst m;have J:=I.lt w.heap.size rfl;refine⟨?_,fun b p=> ?_⟩
  ·obtain⟨hl,m⟩:=I;refine⟨hl, ?_⟩;rcases m with m|⟨g,c,U,G,_,p,h1,T,A,R⟩
   ·exact .inl m
   ·refine .inr ⟨g,c,U,G, ?_,h1,T,A,R⟩;simp only [Value.slice.injEq,aU,Addr.mk.injEq]at G;obtain⟨⟨rfl,-⟩,-,rfl⟩:=G;exact p
  ·simp [row,Bl]at p;subst p;exact⟨J.2,.inl (eV _)⟩
 have A:=hH.mD T;have s:(iZ cn z).length=cn:=aA2;have R:(row (.slice (some ⟨w.heap.size,0,none⟩) cn cn) e sz cn ((iZ cn z).flatMap f))=row (.slice (some ⟨w.heap.size,0,none⟩) (iZ cn z).length cn) e sz (iZ cn z).length ((iZ cn z).flatMap f):=by rw [s]
 rw [R]at A;obtain⟨o,h5⟩:=A.Jn (f:=f) (l:=iZ cn z) 0 rfl;have h6:=h o _ cn w' h5;refine gM (w':=w') rfl rfl ?_ h6;simp [execOp,hx,Y,m]
end
section
variable {P:Program}{n:Md}{ops:Array Oper}{Q:Exit->Act->World->Prop}{F:Nat->Value}{w w0:World}{S:List Nat}{L:List cF}
variable {d:Nat}{ty:TypeId}{pos:String}{after:Array Edge}{rest:List Oper}{α:Type}{f:α->List Value}
end
theorem Jh{cs vs:List Value}{o:Nat}(h:o+vs.length<=cs.length):(Gk cs o vs).length=cs.length:=by unfold Gk;simp;omega
section
variable {α:Type}{f:α->List Value}{sz:Nat}
end
open Go
open Go.Value renaming ownBlock → Bl
open Int renaming toNat → aZ
open List renaming replicate → iZ
abbrev PA:=Option Nat×Option Addr×Nat
abbrev Ub(g:Nat->PA×PA)(l:List (List (aC×aC)×List UInt8))(i:Int):Value:=Value.slice ((g (aZ i)).2.2.1) (((el l i).2).length) ((g (aZ i)).2.2.2)
abbrev SS(g:Nat->PA×PA)(l:List (List (aC×aC)×List UInt8))(i:Int):Value:=Value.slice ((g (aZ i)).1.2.1) (((el l i).1).length) ((g (aZ i)).1.2.2)
abbrev hK(g:Nat->PA×PA)(l:List (List (aC×aC)×List UInt8))(i:Int):List Value:=[SS g l i,Ub g l i]
abbrev qJ:Nat->PA×PA:=fun _=>((none,none,0),(none,none,0))
variable {T G:Type}
def gz(g:Nat->G)(l:List T):List (T×G):=l.mapIdx fun i x=>(x,g i)
theorem xJ(g:Nat->G)(l:List T):(gz g l).length=l.length:=by unfold gz;simp
theorem oB(g:Nat->G)(l:List T){i:Int}(h:0<=i/\i<(l.length:Int)):0<=i/\i<((gz g l).length:Int):=by rw [xJ];exact h
theorem Xn[Inhabited T][Inhabited G](g:Nat->G)(l:List T)(i:Int)(h:0<=i/\i<(l.length:Int)):el (gz g l) i=(el l i,g i.toNat):=by have:i.toNat<l.length:=aA0;simp [el,gz,this]
def Dm(g:Nat->T)(i:Nat)(x:T):Nat->T:=fun k=>if k=i then x else g k
theorem Ey(g:Nat->G)(l:List T)(j:Nat):(gz g l)[j]? =l[j]?.map fun x=>(x,g j):=by unfold gz;simp
theorem B0(g:Nat->G)(l:List T)(i:Nat)(p:T)(x:G):(gz g l).set i (p,x)=gz (Dm g i x) (l.set i p):=by
 apply cL;intro j;rw [Ey,eN,eN,Ey,xJ];by_cases h:i=j
 ·subst h;by_cases a:i<l.length<;>simp [a,Dm]
 ·simp [h,Dm,show¬j=i by omega]
theorem MM(g:Nat->G)(l:List T)(p:T)(x:G):gz g l++[(p,x)]=gz (Dm g l.length x) (l++[p]):=by
 apply cL;intro j;rw [Ey];by_cases h:j<l.length
 ·rw [aH (by rw [xJ];exact h),aH h,Ey];simp [h,Dm,show¬j=l.length by omega]
 ·rw [aN (by rw [xJ];omega),aN aA0,xJ];by_cases a:j=l.length
  ·subst a;simp [Dm]
  ·rw [bL aA5,bL aA5];rfl
theorem B1(n:Nat)(z:T)(x:G):iZ n (z,x)=gz (fun _=>x) (iZ n z):=by apply cL;intro j;rw [Ey,FE,FE];by_cases h:j<n<;>simp [h]
variable {w:World}{a:Option Addr}
theorem Rd.of{c b:List Value}(h:Rd w a c)(e:c=b):Rd w a b:=e▸h
def zX(f:T->List Value)(o:Option Nat)(a:Option Addr)(cap:Nat)(l:List T):cF:=
 ⟨o,fun ob=>(o=none/\l=[]/\cap=0/\a=none)\/∃g b e d,o=some g/\a=some ⟨g,0,none⟩/\ob=some (.cells b e d)/\l.length<=cap/\b.toList.take (l.flatMap f).length=l.flatMap f⟩
variable {f:T->List Value}{o:Option Nat}{e:Nat}{c:List T}
theorem C3(h:(zX f o a e c).holds w):Rd w a (c.flatMap f)/\c.length<=e/\(a=none->e=0):=by
 rcases h with⟨_,rfl,rfl,rfl⟩|⟨g,d,l,n,p,rfl,m,q,k⟩
 ·exact⟨Rd.nil _ _,dL _,fun _=>rfl⟩
 ·refine⟨fun j v i=>⟨_,rfl, ?_⟩,q,fun h=>nomatch h⟩
  have m:w.heap[g]? =some (.cells d l n):=by
   have s:((some g).bind fun b=>w.heap[b]?)=some (.cells d l n):=by rw [<-p];exact m
   exact s
  rw [NO];have r:d.toList[j]? =some v:=by
   rw [<-k]at i;have t:=(aD.1 i).1;rw [bO]at i;split at i
   ·exact i
   ·cases i
  simp only [World.cell?,m];simpa using r
variable {b:World}{S:List Nat}{L:List cF}{d:Nat}
theorem Hp.Cf{f:T×G->List Value}{cap:Nat}{g:Nat->G}(h:Hp w S L b)(k:Nat)(l:L[k]? =some (aW f e d o a cap (gz g c))):c.length<=cap:=by
 have:=h.Et k l
 rwa [xJ]at this
theorem Hp.zrw{cap:Nat}(h:Hp w S L b)(k:Nat)(l:L[k]? =some (aW f e d o a cap c)):a=none->cap=0:=by
 intro i;rcases(h.res _ (aI l)).1 with⟨_,_,j,_⟩|⟨g,m,_,n,_⟩
 ·exact j
 ·rw [i]at n;cases n
theorem Hp.yv(h:Hp w S L b)(k:Nat)(r r':cF)(c:L[k]? =some r)(a:r'.own=r.own)(e:r.holds b->r'.holds b):Hp w S (L.set k r') b:=by obtain⟨g,f⟩:=h.res r (aI c);exact h.change k r r' c rfl rfl rfl (eV _) (fun _ _ _=>rfl) (e g) fun i d=>⟨.inl (by rw [<-a];exact d),(f i (by rw [<-a];exact d)).1⟩
theorem Hp.WS{cap:Nat}(h:Hp w S L b)(t:tC f d)(k:Nat)(p:L[k]? =some (aW f e d o a cap c)):Hp w S (L.set k (zX f o a cap c)) b:=by
 refine h.yv k _ _ p rfl fun m=> ?_;rcases m with⟨rfl,rfl,rfl,rfl⟩|⟨g,i,n,s,u,j,r,q,l⟩
 ·exact .inl ⟨rfl,rfl,rfl,rfl⟩
 ·exact .inr ⟨g,i,e,(0,0),n,s,u,j,by rw [t.flat];exact l⟩
variable {l:List UInt8}
theorem Hp.jn(h:Hp w S L b)(k:Nat)(o:L[k]? =some (fL (.slice a e d) e l)):Hp w S (L.set k (zX eB (Value.slice a e d).ownBlock a d l)) b:=by refine h.yv k _ _ o rfl fun j=> ?_;obtain⟨m,g,f,t,n,p,i,c,r,q,s⟩:=j;cases i;refine .inr ⟨g,t,n,p,rfl,rfl,c,aA0, ?_⟩;rw [oZ,Hb,m];exact s.1
theorem Hp.HA(h:Hp w S L b)(f:T->List Value):Hp w S (zX f none none 0 []::L) b:=by
 refine⟨h.os,h.tape,h.output,h.size,h.below,fun r a=> ?_, ?_⟩
 ·rcases aP.1 a with rfl|a
  ·exact⟨.inl ⟨rfl,rfl,rfl,rfl⟩,fun d c=>by simp [zX]at c⟩
  ·exact h.res r a
 ·refine List.Pairwise.cons (fun r _ d c=>by simp [zX]at c) h.sep
theorem Hp.EP(h:Hp w S L b)(k:Nat)(p:L[k]? =some (fL (.slice a e d) e l)):e<=d:=by obtain⟨_,g,m,i,n,j,c,_,f,_⟩:=(h.res _ (aI p)).1;cases c;exact f
theorem Hp.zbr(h:Hp w S L b)(k:Nat)(p:L[k]? =some (fL (.slice a e d) e l)):a=none->d=0:=by intro f;obtain⟨_,g,c,i,n,j,m,_⟩:=(h.res _ (aI p)).1;rw [f]at m;cases m
def gI(inn:T×G->List cF)(g:Nat->G)(l:List T):List cF:=(gz g l).flatMap inn
theorem rb[Inhabited T][Inhabited G](inn:T×G->List cF)(g:Nat->G)(l:List T)(i:Int)(h:0<=i/\i<(l.length:Int)):∀r∈inn (el l i,g i.toNat),r∈gI inn g l:=by intro r a;refine lW.2 ⟨_, ?_,a⟩;have b:i.toNat<l.length:=aA0;refine aI (i:=i.toNat) ?_;rw [Ey];simp [el,b]
theorem ai(inn:T×G->List cF)(g:Nat->G)(l:List T)(p:T)(x:G):gI inn (Dm g l.length x) (l++[p])=gI inn g l++inn (p,x):=by unfold gI;rw [<-MM];simp
theorem Hp.qw{L:List cF}{inn:T×G->List cF}{g:Nat->G}{l:List T}(p:T)(x:G)(Z:List cF)(h:Hp w S (inn (p,x)++(L++(gI inn g l++Z))) b):Hp w S (L++(gI inn (Dm g l.length x) (l++[p])++Z)) b:=by refine h.perm ?_;rw [ai];refine(M0).trans ?_;rw [gJ,gJ];refine gF L ?_;rw [gJ];exact gF _ M0
theorem C1(inn:T×G->List cF)(g:Nat->G)(l:List T)(i:Nat)(h:i<l.length)(p:T)(x:G):gI inn g l=((gz g l).take i).flatMap inn++(inn (l[i],g i)++((gz g l).drop (i+1)).flatMap inn)/\gI inn (Dm g i x) (l.set i p)=((gz g l).take i).flatMap inn++(inn (p,x)++((gz g l).drop (i+1)).flatMap inn):=by
 have a:i<(gz g l).length:=by rw [xJ];exact h
 have e:(gz g l)[i]=(l[i],g i):=by have:=Ey g l i;rw [aM a,aM h]at this;exact aJ this
 constructor
 ·unfold gI
  conv=>lhs;rw [<-JF i (gz g l),dS a]
  rw [SN,kS,e]
 ·unfold gI;rw [<-B0,zbK,aB a,SN,kS]
theorem Hp.giSet{L:List cF}{inn:T×G->List cF}{g:Nat->G}{l:List T}(p:T)(x:G)(Z:List cF)(i:Int)(d:0<=i/\i<(l.length:Int))(h:Hp w S (inn (p,x)++(L++(gI inn g l++Z))) b):Hp w S (L++(gI inn (Dm g i.toNat x) (l.set i.toNat p)++Z)) b:=by
 obtain⟨c,j⟩:=C1 inn g l i.toNat aA0 p x;rw [c]at h;rw [j];have a:Hp w S (inn (p,x)++(L++((((gz g l).take i.toNat).flatMap inn++((gz g l).drop (i.toNat+1)).flatMap inn)++Z))) b:=by refine h.sub (cY (cY (List.Sublist.append_right (cY (mG _ _) _) _) _) _)
 refine a.perm ?_;refine(M0).trans ?_;rw [gJ];refine gF L ?_;rw [gJ,gJ,gJ,gJ];refine gF _ ?_;rw [<-gJ];exact M0
theorem Hp.giNil{L:List cF}{inn:T×G->List cF}(z:T)(x:G)(n:Nat)(Z:List cF)(g:∀r∈inn (z,x),r.own=none/\r.ok none)(h:Hp w S (L++Z) b):Hp w S (L++(gI inn (fun _=>x) (iZ n z)++Z)) b:=by
 have key:∀r∈gI inn (fun _=>x) (iZ n z),r.own=none/\r.ok none:=by intro r a;obtain⟨q,e,a⟩:=lW.1 a;rw [<-B1]at e;rw [List.eq_of_mem_replicate e]at a;exact g r a
 have i:Hp w S (gI inn (fun _=>x) (iZ n z)++(L++Z)) b:=by
  refine⟨h.os,h.tape,h.output,h.size,h.below,fun r a=> ?_, ?_⟩
  ·rcases aS.1 a with a|a
   ·obtain⟨d,f⟩:=key r a;exact⟨by unfold cF.holds;rw [d];exact f,fun j c=>by rw [d]at c;cases c⟩
   ·exact h.res r a
  ·refine dI.2 ⟨?_,h.sep,fun r a r' _ j c=>by rw [(key r a).1]at c;cases c⟩;exact List.Pairwise.imp_of_mem (R:=fun _ _=>True) (fun a _ _ j c=>by rw [(key _ a).1]at c;cases c) (List.pairwise_of_forall aA2)
 refine i.perm ?_;refine(M0).trans ?_;rw [gJ];exact gF L M0
theorem Hp.zG{L1:List cF}(h:Hp w S L b)(n m:Nat)(a:n<=m)(g:L.take n++L.drop m=L1:=by kernel_rfl):Hp w S L1 b:=by
 refine h.sub ?_;rw [<-g];have e:L=L.take n++L.drop n:=(JF n L).symm
 conv=>rhs;rw [e]
 exact cY (List.drop_sublist_drop_left L a) _
theorem Hp.DX(L1 T a:List cF)(h:Hp w S (L1++T) b)(p:a.Sublist T):Hp w S (L1++a) b:=h.sub (cY p L1)
theorem Hp.I3(A B C D:List cF)(h:Hp w S ((A++(B++[]))++(C++D)) b):Hp w S (A++(C++(B++D))) b:=by refine h.perm ?_;rw [gA,gJ];refine gF A ?_;rw [<-gJ,<-gJ];exact List.Perm.append_right D M0
section
variable {P:Program}{n:Md}{ops:Array Oper}{Q:Exit->Act->World->Prop}{F:Nat->Value}{w w0:World}{S:List Nat}{L:List cF}
variable {d:Nat}{ty:TypeId}{pos:String}{after:Array Edge}{rest:List Oper}
variable {T G:Type}{f:T×G->List Value}
variable {x y:Operand}{t:TypeId}
theorem P3(u:Hp w0 S L w)(e sz b:Nat)(kl l:IntKind)(c:Int)(z:T)(g:G)(q:P.underlying t=some (.slice e))(s:TI P e sz b)(k:0<b)(j:0<sz)
  (m:((P.info? e).bind (·.zero)).map (·.cells)=some (f (z,g)).toArray) (hx:aX n F x=.int kl c) (p:aX n F y=.int l c)
  (r:0<=c/\(b:Int)*c<=281474976710656)
  (h:∀o a cap w',Hp w0 S (aW f e sz o a cap (gz (fun _=>g) (iZ c.toNat z))::L) w'->W P n ops Q rest (eF F d (.slice a (iZ c.toNat z).length cap)) w'):
  W P n ops Q (⟨some d,.makeSlice t x y,ty,pos,after,none⟩::rest) F w:=by
 refine P2 (f:=f) u e sz b kl l c (z,g) q s k j m hx p r fun o a cap w' i=> ?_;rw [B1]at i;have:=h o a cap w' i;simpa using this
theorem OB(B:Hp w0 S L w)(k:Nat)(o:Option Nat)(a m:Option Addr)(cap cx e sz b:Nat)(g:Nat->G)(l:List T)(p:T)(q:G)(C:tC f sz)(u:L[k]? =some (aW f e sz o a cap (gz g l)))(s:P.underlying t=some (.slice e))(z:TI P e sz b)(i:0<sz)(j:0<b)
  (hx:aX n F x=.slice a l.length cap) (r:aX n F y=.slice m 1 cx) (A:Rd w m (f (p,q))) (v:(l.length+1)*b<=140737488355328)
  (h:∀o' a' cap' w',Hp w0 S (L.set k (aW f e sz o' a' cap' (gz (Dm g l.length q) (l++[p])))) w'->W P n ops Q rest (eF F d (.slice a' (l++[p]).length cap')) w'):
  W P n ops Q (⟨some d,.call ⟨.builtin .append, #[x,y], #[t,t]⟩,ty,pos,after,none⟩::rest) F w:=by
 refine NR B k o a m cap cx e sz b (gz g l) [(p,q)] C u s z i j (by rw [xJ];exact hx) r aF2 (by rw [xJ];exact v) fun o' a' cap' w' c=> ?_;rw [MM]at c⊢;rw [xJ];exact h o' a' cap' w' c
theorem He(r:Hp w0 S L w)(k b m e:Nat)(cs:List Value)(l:List UInt8)(p:L[k]? =some (aQ b cs e))(f:l.map bt=cs)(u:l.length=m)(z:P.underlying t=some (.slice e))(B:P.underlying e=some (.int .u8))(hx:aX n F x=.slice (some ⟨b,0,none⟩) m m)
  (h:∀w',Hp w0 S (L.set k (fL (.slice (some ⟨b,0,none⟩) m m) m l)) w'->W P n ops Q rest (eF F d (.slice (some ⟨b,0,none⟩) m m)) w'):W P n ops Q (⟨some d,.convert t t x,ty,pos,after,none⟩::rest) F w:=by
 have y:=r.dV k p;have o:=((r.res _ (aI p)).2 b rfl).1;have a:cs.toArray.size=m:=by rw [<-f,<-u];simp
 have g:w.shape? b=some (e,m):=by unfold World.shape?;rw [y];simp only [a]
 have A:(w.freeze ⟨b,m,none⟩ 1).heap[b]? =some (.cells cs.toArray e (m,m+1)):=by unfold World.freeze;rw [aA aA1];simp [vR,y]
 refine gM (w':=w.freeze ⟨b,m,none⟩ 1) rfl rfl ?_ (h _ ?_)
 ·simp [execOp,hx,convert,run_underlying z,run_underlying B,markStringish,g]
 ·have s:w.freeze ⟨b,m,none⟩ 1={w with heap:=(w.freeze ⟨b,m,none⟩ 1).heap}:=by unfold World.freeze;rw [aA aA1]
  refine r.change k _ _ p (by rw [s]) (by rw [s]) (by rw [s]) (by unfold World.freeze;rw [aA aA1];simp) (fun j C i=> ?_) ?_ (fun c v=> ?_)
  ·unfold World.freeze;rw [aA aA1];have q:¬b=j:=fun h=>i (by rw [<-h];rfl);simp [vR,q]
  ·refine⟨u,b,m,cs.toArray,e,(m,m+1),rfl, ?_,eV _,aA0, ?_,aA0⟩
   ·exact A
   ·rw [f,<-a];simp
  ·simp [fL,Bl]at v;subst v;exact⟨.inl rfl,by unfold World.freeze;rw [aA aA1];simpa using o⟩
theorem FZ{M:Type}{f:M->List Value}(g:Hp w0 S L w)(b:Nat)(K:Option Addr)(m cx e sz k:Nat)(l c:List M)(s:tC f sz)(J:Rd w (some ⟨b,0,none⟩) (l.flatMap f))(hm:l.length=m)(X:P.underlying t=some (.slice e))(hT:TI P e sz k)(C:0<sz)(H:0<k)
  (hx:aX n F x=.slice (some ⟨b,0,none⟩) m m) (U:aX n F y=.slice K c.length cx) (O:Rd w K (c.flatMap f)) (u:0<c.length/\(l.length+c.length)*k<=140737488355328)
  (h:∀o a cap w',Hp w0 S (aW f e sz o a cap (l++c)::L) w'->W P n ops Q rest (eF F d (.slice a (l++c).length cap)) w'):
  W P n ops Q (⟨some d,.call ⟨.builtin .append, #[x,y], #[t,t]⟩,ty,pos,after,none⟩::rest) F w:=by
 obtain⟨h2,u⟩:=u;subst hm;obtain⟨i,z,hi,T,Y,I,B⟩:=hT.parts;subst Y;subst I;have N:l.length+c.length<=140737488355328:=qN (Nat.le_mul_of_pos_right _ H) u;have r:=s.flat c;cases K with
 |none=>
  have:0<(c.flatMap f).length:=by rw [r];exact Tt h2 C
  obtain⟨p,D,_⟩:=O 0 ((c.flatMap f)[0]) (by simp [this]);cases D
 |some p=>
  have rd:∀{q:Addr} {A:List Value},Rd w (some q) A->∀j v,A[j]? =some v->w.cell? (q.add j)=some v:=by intro q A Z j v V;obtain⟨p,D,hc⟩:=Z j v V;cases D;exact hc
  have key:=run_append_grow (P:=P) w t ty e i z X hi T ⟨b,0,none⟩ l.length l.length (l.flatMap f) (s.flat l) (rd J) p c.length cx (c.flatMap f) r (rd O) aA0 aA0 (growslice_fits aA0 u);have G:=grownCap_ge w (l.length+c.length) l.length e;have E:=grownCap_le_maxLen w (l.length+c.length) l.length e aE8;have hd:Hp w0 S L w.drew:=⟨g.os,g.tape,g.output,g.size,g.below,g.res,g.sep⟩
  have hA:=hd.Xs (.cells ((l.flatMap f).toArray++(c.flatMap f).toArray++Builtin.zeroCells z.cells (grownCap w (l.length+c.length) l.length e-(l.length+c.length))) e) (aW f e i.size (some w.drew.heap.size) (some ⟨w.drew.heap.size,0,none⟩) (grownCap w (l.length+c.length) l.length e) (l++c)) rfl (.inr ⟨w.drew.heap.size,_,rfl,rfl,rfl,aF1,E,(by
   simp only [Array.size_append,List.size_toArray,Builtin.zeroCells,Array.size_map,Array.size_range,s.flat,B,<-lK];congr 1;omega),(by
   simp only [Array.toList_append,bM,SN];rw [Bc (by simp [s.flat,lK]),tF (by simp [s.flat,lK])])⟩)
  have R:=h _ _ _ _ hA;rw [bM]at R;refine gM rfl rfl ?_ R;simp [execOp,resolve,invoke,builtin,hx,U,key]
end
section
variable {P:Program}{n:Md}{ops:Array Oper}{Q:Exit->Act->World->Prop}{F:Nat->Value}{w:World}
variable {d:Nat}{ty:TypeId}{pos:String}{after:Array Edge}{rest:List Oper}{k:Nat}{D:List Deferred}{ro:Option Nat}
theorem P6{b:Operand}{gH:Array Operand}{a:Array TypeId}(f:FuncId)(cap:Array Value)(vs:List Value)(i:Enters P f)
  (c:aX n F b=.func (.func f) #[] cap) (g: #[]++gH.map (aX n F)++cap=vs.toArray) (e:CR P f vs w fun v w'=>W P n ops Q rest (eF F d v) w'):
  W P n ops Q (⟨some d,.call ⟨.value b,gH,a⟩,ty,pos,after,none⟩::rest) F w:=
 pL f cap vs _ i c g e fun _ _ h=>h
end
end Go.Wk
namespace Go.Px
open Go.Wk
def cC(c:UInt8):Bool:=c==32||c==9
def eW(c:UInt8):Bool:=(decide (c<32)&&c !=9)||c==127
def tY(c:UInt8):Bool:=(decide (97<=c)&&decide (c<=122))||(decide (65<=c)&&decide (c<=90))
def gW(c:UInt8):Bool:=decide (48<=c)&&decide (c<=57)
def cB(c:UInt8):Bool:=tY c||gW c||c==45||c==46||c==33||c==37||c==42||c==95||c==43||c==39||c==126||c==96
def iF(c:UInt8):UInt8:=if 65<=c/\c<=90 then c+32 else c
def Tm(c:UInt8):UInt8:=if 97<=c/\c<=122 then c-32 else c
def dQ(p:UInt8->Bool):List UInt8->Nat
 |[]=>0
 |c::l=>if p c then dQ p l+1 else 0
def Xp(i:Int)(n:Nat):Nat:=(min (max i 0) (n:Int)).toNat
def cD(p:UInt8->Bool)(s:List UInt8)(i:Int):Nat:=Xp i s.length+dQ p (s.drop (Xp i s.length))
theorem FN(p:UInt8->Bool):∀l,dQ p l<=l.length
 |[]=>qD _
 |c::l=>by simp only [dQ];have:=FN p l;split<;>simp<;>omega
theorem Dx(i:Int)(n:Nat):Xp i n<=n:=aD8
theorem qA(p:UInt8->Bool)(s:List UInt8)(i:Int):cD p s i<=s.length:=by unfold cD;have a:=FN p (s.drop (Xp i s.length));have b:=Dx i s.length;simp at a;omega
theorem jx(k n:Nat)(h:k<=n):Xp (k:Int) n=k:=aD8
theorem drop_at(s:List UInt8)(k:Nat)(h:k<s.length):s.drop k=at_ s k::s.drop (k+1):=by rw [dS h];simp [at_,h]
theorem Qr(p:UInt8->Bool)(s:List UInt8):cD p s (s.length:Int)=s.length:=by unfold cD;rw [jx _ _ (qD _)];simp [dQ]
theorem eA(p:UInt8->Prop)(h:∀i:Fin 256,p (UInt8.ofFin i)):∀c,p c:=fun c=>h c.toFin
set_option maxRecDepth 10000
theorem pB(c:UInt8):gW c=true↔48<=(c.toNat:Int)/\(c.toNat:Int)<=57:=by revert c;exact eA _ aA1
def N0(c:UInt8):Bool:=decide (32<=c)&&decide (c<=126)
def eY(s:List UInt8):Bool:= !s.isEmpty&&s.all cB
theorem qX(p:UInt8->Bool):∀l,dQ p l=l.length↔l.all p=true
 |[]=>by simp [dQ]
 |c::l=>by
  have b:=qX p l;have d:=FN p l;simp only [dQ,dM,List.all_cons,dN];split
  ·rename_i a;simp [a,b]
  ·rename_i a;simp [a]
theorem Q7(s:List UInt8):(s≠[]/\(cD cB s 0:Int)=(s.length:Int))↔eY s=true:=by
 have h:=qX cB s;have e:cD cB s 0=dQ cB s:=by have c:Xp 0 s.length=0:=aD8;unfold cD;rw [c];simp
 rw [e];unfold eY;simp only [dN,cP,Qg,<-h];constructor
 ·rintro⟨a,b⟩;exact⟨a,aA0⟩
 ·rintro⟨a,b⟩;exact⟨a,aA0⟩
def vK(s:List UInt8):Nat:=s.foldl (fun n c=>10*n+(c.toNat-48)) 0
theorem azz(s:List UInt8)(c:UInt8):vK (s++[c])=10*vK s+(c.toNat-48):=by simp [vK,List.foldl_append]
theorem OM(s:List UInt8)(k:Nat)(h:k<s.length):s.take (k+1)=s.take k++[at_ s k]:=by rw [List.take_succ_eq_append_getElem h];simp [at_,h]
theorem Dw:∀(n:Nat) (s:List UInt8),s.length<=n->s.all gW=true->vK s<10^n:=by
 intro n;induction n with
 |zero=>intro s b _;have:s=[]:=List.eq_nil_of_length_eq_zero aA0;subst this;decide
 |succ n d=>
  intro s b a;rcases vO s with rfl|⟨l,c,rfl⟩
  ·simp [vK];exact Nat.pow_pos aA0
  ·simp only [vQ]at*;rw [azz];rw [oH]at a;simp only [dN,List.all_cons,List.all_nil,Bool.and_true]at a;have f:=d l aF8 a.1;have e:=(pB c).1 a.2;rw [Nat.pow_succ];omega
def dH(s:List UInt8):List UInt8:=s.map iF
def jH(s:List UInt8):List UInt8:=s.map Tm
def nV(c:UInt8):List UInt8:=if c=34\/c=92 then [92,c]else [c]
end Go.Px
