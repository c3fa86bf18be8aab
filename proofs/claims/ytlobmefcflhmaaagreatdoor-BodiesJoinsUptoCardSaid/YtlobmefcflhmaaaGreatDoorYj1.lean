/-
  The law BodiesJoins holds (part 1 of 9).
-/
import Derived.Tactics2
import Derived.Scope
import Derived.Below
import Derived.KernelRfl
import Derived.RangeFuncCalls
import Derived.RangeFuncLeaves
import Derived.TacticsIn
import Derived.Laws.Strings3
import Derived.Laws.Concat
import Derived.Laws.Small
import Derived.Laws.Slices
import Derived.Laws.BitsLemmas
import Derived.Laws.OwnMore
import Derived.Laws.AppendOwn
import Derived.Laws.CopyRow
import Derived.StillTail
import Derived.OrdersHeld
import Derived.Laws.BytesString
import Derived.Laws.MakeOwn
import Derived.WalkSmall
import Derived.Laws.Cover3
import Derived.Laws.StructEq
import Derived.RangeFuncRecord
import Derived.OrdersIn
import Derived.Lib.AppendStr
import Derived.Lib.Builder
import Derived.Lib.AppendZerosOnto
import Derived.Lib.Overlaps
import Derived.Lib.Bytealg
import Derived.Lib.IndexAny
import Derived.Lib.LastIndexByte
import Derived.Lib.IndexMore
import Derived.Lib.SlTrimSet
import Derived.Lib.TrimByte
import Derived.Lib.Strings
import Derived.Lib.ItoaNum
import Derived.Lib.Join
import Derived.Sort.Grow
open Bool renaming false → ν, true → μ
open Go renaming Addr → Γ, IntKind → Ε, Oper → Α, Operand → χ, Program → Β, TypeId → ω, Value → ξ, World → ο, execOp → ς
open Go.Region renaming ready → Ζ
open Go.Utf8 renaming encode → ψ
open Go.Value renaming func → Θ, int → Δ, slice → π
open List renaming length → γ
open Option renaming none → ι, some → θ
abbrev δ:=@List
abbrev ε:=@Option
abbrev ζ:=UInt8
abbrev η:=Bool
set_option linter.unusedVariables false
namespace Go.Wk
open Go.RowKit (Below)
open Nat renaming beq → cU, blt → fL
open _root_.Array renaming replicate → IY
variable {p:Prop}
theorem _root_.aA0(h:p:=by omega):p:=h
theorem _root_.aA1(h:p:=by decide):p:=h
theorem _root_.aA2(h:p:=by simp;omega):p:=h
theorem _root_.aA3(h:p:=by simp):p:=h
theorem _root_.aA4(h:p:=by rw[dK];omega):p:=h
theorem _root_.aA5(h:p:=by decide+kernel):p:=h
theorem _root_.aA6(h:p:=by rw[h];simp):p:=h
theorem _root_.aA7(h:p:=by first|rfl|(simp;done)|omega|(simp;omega)|(rw[jS];omega)):p:=h
theorem _root_.aA8(h:p:=by simpa using h):p:=h
theorem _root_.aA9(h:p:=by rw[h];simp[el]):p:=h
theorem _root_.aB0(h:p:=by first|rfl|(simp;done)|omega|(simp;omega)|(rw[cM];omega)):p:=h
theorem _root_.aB1(h:p:=by unfold TI;kernel_rfl):p:=h
theorem _root_.aB2(h:p:=by simp only[cG,cN,iP];omega):p:=h
theorem _root_.aB3(h:p:=by simp[lM]):p:=h
theorem _root_.aB4(h:p:=by rw[cG,eI];omega):p:=h
theorem _root_.aB5(h:p:=by simp only[eI];omega):p:=h
theorem _root_.aB6(h:p:=by rw[fB];omega):p:=h
theorem _root_.aB7(h:p:=by simp only[cG,eI];omega):p:=h
theorem _root_.aB8(h:p:=by rw[jS];omega):p:=h
theorem _root_.aB9(h:p:=by simp only[cN,iP];omega):p:=h
theorem _root_.aC0(h:p:=by simpa using a):p:=h
theorem _root_.aC1(h:p:=by first|omega|assumption|decide):p:=h
theorem _root_.aC2(h:p:=by simpa using b):p:=h
theorem _root_.aC3(h:p:=by rw[eI];omega):p:=h
theorem _root_.aC4(h:p:=by rw[Hr];omega):p:=h
theorem _root_.aC5(h:p:=by first|rfl|(simp;done)|(simp;omega)):p:=h
theorem _root_.aC6(h:p:=by rw[h];omega):p:=h
theorem _root_.aC7(h:p:=by show γ s<_;omega):p:=h
theorem _root_.aC8(h:p:=by simpa using c):p:=h
theorem _root_.aC9(h:p:=by rw[cG];omega):p:=h
theorem _root_.aD0(h:p:=by show θ (π _ _ _)=_;rw[oB]):p:=h
theorem _root_.aD1(h:p:=by cases vs with|nil=>exact b|cons a dT=>cases dT<;>exact b):p:=h
theorem _root_.aD2(h:p:=by simp only[cG,eI,iP];omega):p:=h
theorem _root_.aD3(h:p:=by simpa using d):p:=h
theorem _root_.aD4(h:p:=by unfold Fo;omega):p:=h
theorem _root_.aD5(h:p:=by simpa using f):p:=h
theorem _root_.aD6(h:p:=by show γ t<_;omega):p:=h
theorem _root_.aD7(h:p:=by intro w C;exact(pS A 1 _ 42 _ C rfl aK aK)):p:=h
theorem _root_.aD8(h:p:=by simpa using hx):p:=h
theorem _root_.aD9(h:p:=by rw[A];exact W):p:=h
theorem _root_.aE0(h:p:=by rw[h,Rp]):p:=h
theorem _root_.aE1(h:p:=by simpa using g):p:=h
theorem _root_.aE2(h:p:=by simpa using e):p:=h
theorem _root_.aE3(h:p:=by simp[SC.ids]):p:=h
theorem _root_.aE4(h:p:=by dsimp only;omega):p:=h
theorem _root_.aE5(h:p:=by unfold maxLen;omega):p:=h
theorem _root_.aE6(h:p:=by simpa using q):p:=h
theorem _root_.aE7(h:p:=by simpa using l):p:=h
theorem _root_.aE8(h:p:=by rw[eT];omega):p:=h
theorem _root_.aE9(h:p:=by simp[Xh]):p:=h
theorem _root_.aF0(h:p:=by rw[Rx]):p:=h
theorem _root_.aF1(h:p:=by rw[NH]at h;omega):p:=h
theorem _root_.aF2(h:p:=by unfold Te;rw[Go.Ce.Tr.T0]):p:=h
theorem _root_.aF3(h:p:=by rw[aw (r _ gK)];exact hid):p:=h
theorem _root_.aF4(h:p:=by rw[gs q dg h A];exact U):p:=h
theorem _root_.aF5(h:p:=by rw[RY];exact a):p:=h
theorem _root_.aF6(h:p:=by rw[e];rfl):p:=h
theorem _root_.aF7(h:p:=by rw[show(8:Int)=((8:Nat):Int)from rfl,Hr];omega):p:=h
abbrev _root_.bx:=@Array.ext
abbrev _root_.gB:=@Array.getElem?_eq_getElem
abbrev _root_.cF:=@Array.getElem?_eq_some_iff
abbrev _root_.jR:=@Array.getElem?_modify
abbrev _root_.jQ:=@Array.getElem?_toList
abbrev _root_.yP:=@Array.mem_append
abbrev _root_.yO:=@Bool.and_eq_true
abbrev _root_.eN:=@Bool.and_false
abbrev _root_.oD:=@Bool.and_true
abbrev _root_.tT:=@Bool.false_and
abbrev _root_.gJ:=@Bool.not_eq_true'
abbrev _root_.oC:=@Bool.or_assoc
abbrev _root_.dU:=@Bool.or_false
abbrev _root_.tS:=@Bool.true_or
abbrev _root_.fK:=@Eq.trans
abbrev _root_.qJ:=@Int.le_refl
abbrev _root_.Rj:=@Int.natCast_nonneg
abbrev _root_.tR:=@Int.toNat_natCast
abbrev _root_.fP:=@List.Perm.append_left
abbrev _root_.gQ:=@List.Sublist.append_left
abbrev _root_.eA:=@List.all_append
abbrev _root_.aT:=@List.all_eq_true
abbrev _root_.dC:=@List.any_eq_false
abbrev _root_.cV:=@List.any_eq_true
abbrev _root_.iY:=@List.any_nil
abbrev _root_.qI:=@List.append_cancel_left
abbrev _root_.NK:=@List.append_eq_nil_iff
abbrev _root_.oH:=@List.cons.injEq
abbrev _root_.IX:=@List.cons_append
abbrev _root_.wQ:=@List.dropWhile_suffix
abbrev _root_.iO:=@List.drop_append_of_le_length
abbrev _root_.Tw:=@List.drop_eq_getElem_cons
abbrev _root_.NJ:=@List.drop_eq_nil_of_le
abbrev _root_.eM:=@List.drop_left
abbrev _root_.Hu:=@List.drop_succ_cons
abbrev _root_.Ri:=@List.drop_take
abbrev _root_.Rh:=@List.drop_zero
abbrev _root_.cD:=@List.ext_getElem?
abbrev _root_.Rf:=@List.filter_append
abbrev _root_.iX:=@List.flatMap_singleton
abbrev _root_.bJ:=@List.getD_eq_getElem?_getD
abbrev _root_.aJ:=@List.getElem?_append_left
abbrev _root_.aO:=@List.getElem?_append_right
abbrev _root_.iA:=@List.getElem?_cons_succ
abbrev _root_.bU:=@List.getElem?_drop
abbrev _root_.aN:=@List.getElem?_eq_getElem
abbrev _root_.bO:=@List.getElem?_eq_none
abbrev _root_.aF:=@List.getElem?_eq_some_iff
abbrev _root_.aY:=@List.getElem?_map
abbrev _root_.cX:=@List.getElem?_range
abbrev _root_.qH:=@List.getElem?_replicate
abbrev _root_.eR:=@List.getElem?_set
abbrev _root_.Co:=@List.getElem?_set_ne
abbrev _root_.bE:=@List.getElem?_set_self
abbrev _root_.bQ:=@List.getElem?_take
abbrev _root_.CJ:=@List.getElem?_take_of_lt
abbrev _root_.lL:=@List.getElem_mem
abbrev _root_.mO:=@List.getElem_set_ne
abbrev _root_.Tu:=@List.isEmpty_eq_false_iff
abbrev _root_.dW:=@List.isPrefixOf_iff_prefix
abbrev _root_.Re:=@List.length_append
abbrev _root_.dI:=@List.length_cons
abbrev _root_.IW:=@List.length_drop
abbrev _root_.bL:=@List.length_pos_iff
abbrev _root_.jJ:=@List.length_set
abbrev _root_.cM:=@List.length_take
abbrev _root_.gP:=@List.map_cons
abbrev _root_.Rc:=@List.map_inj_right
abbrev _root_.lK:=@List.map_map
abbrev _root_.gH:=@List.map_nil
abbrev _root_.aV:=@List.mem_append
abbrev _root_.aQ:=@List.mem_cons
abbrev _root_.kY:=@List.mem_cons_of_mem
abbrev _root_.iN:=@List.mem_eraseIdx_iff_getElem
abbrev _root_.fO:=@List.mem_iff_getElem?
abbrev _root_.dB:=@List.mem_map
abbrev _root_.aI:=@List.mem_of_getElem?
abbrev _root_.CI:=@List.mem_of_mem_eraseIdx
abbrev _root_.Cn:=@List.mem_of_mem_take
abbrev _root_.aG:=@List.mem_singleton
abbrev _root_.IV:=@List.not_any_eq_all_not
abbrev _root_.lJ:=@List.not_mem_nil
abbrev _root_.dF:=@List.pairwise_append
abbrev _root_.iW:=@List.pairwise_cons
abbrev _root_.eE:=@List.pairwise_iff_getElem
abbrev _root_.ag:=@List.set_append_left
abbrev _root_.wP:=@List.set_append_right
abbrev _root_.yX:=@List.sum_cons
abbrev _root_.XS:=@List.take_append_drop
abbrev _root_.iM:=@List.take_append_of_le_length
abbrev _root_.fJ:=@List.take_left
abbrev _root_.hZ:=@List.take_length
abbrev _root_.eW:=@List.take_of_length_le
abbrev _root_.dY:=@List.take_succ_cons
abbrev _root_.Rb:=@List.take_take
abbrev _root_.iL:=@Nat.add_mul
abbrev _root_.Ra:=@Nat.add_right_comm
abbrev _root_.iV:=@Nat.blt_eq
abbrev _root_.fN:=@Nat.eq_of_beq_eq_true
abbrev _root_.aZ:=@Nat.le_of_ble_eq_true
abbrev _root_.Jb:=@Nat.le_of_eq
abbrev _root_.IU:=@Nat.le_of_not_lt
abbrev _root_.qG:=@Nat.le_refl
abbrev _root_.Ja:=@Nat.le_trans
abbrev _root_.cQ:=@Nat.lt_of_lt_of_le
abbrev _root_.tQ:=@Nat.lt_or_ge
abbrev _root_.bW:=@Nat.lt_succ_self
abbrev _root_.SR:=@Nat.min_eq_left
abbrev _root_.IT:=@Nat.mod_eq_of_lt
abbrev _root_.NI:=@Nat.mod_lt
abbrev _root_.af:=@Nat.mul_le_mul
abbrev _root_.Xy:=@Nat.mul_pos
abbrev _root_.SQ:=@Nat.not_lt_zero
abbrev _root_.Qz:=@Nat.pos_of_ne_zero
abbrev _root_.NH:=@Nat.pow_succ
abbrev _root_.iU:=@Nat.sub_zero
abbrev _root_.dA:=@Nat.succ_mul
abbrev _root_.cL:=@Option.bind_some
abbrev _root_.IS:=@Option.getD_some
abbrev _root_.CH:=@Option.isSome_iff_exists
abbrev _root_.tP:=@Option.map_eq_none_iff
abbrev _root_.bR:=@Option.map_eq_some_iff
abbrev _root_.Gd:=@Option.map_none
abbrev _root_.aP:=@Option.some.inj
abbrev _root_.bG:=@Option.some.injEq
abbrev _root_.cO:=@Prod.mk.injEq
abbrev _root_.ae:=@Sum.inl.inj
abbrev _root_.ab:=@Sum.inr.inj
abbrev _root_.wO:=@UInt8.le_iff_toNat_le
abbrev _root_.jI:=@UInt8.toNat_inj
abbrev _root_.fI:=@UInt8.toNat_lt
abbrev _root_.iT:=@UInt8.toNat_ofNat'
abbrev _root_.XR:=@UInt8.toNat_sub_of_le
abbrev _root_.dX:=@beq_eq_false_iff_ne
abbrev _root_.aH:=@cond_false
abbrev _root_.aM:=@cond_true
abbrev _root_.bF:=@congrArg
abbrev _root_.bZ:=@decide_eq_decide
abbrev _root_.aE:=@decide_eq_false
abbrev _root_.bM:=@decide_eq_false_iff_not
abbrev _root_.aD:=@decide_eq_true
abbrev _root_.aW:=@decide_eq_true_eq
abbrev _root_.Xx:=@dif_pos
abbrev _root_.IQ:=@if_false
abbrev _root_.aA:=@if_neg
abbrev _root_.aB:=@if_pos
abbrev _root_.gG:=@if_true
abbrev _root_.fH:=@of_decide_eq_false
abbrev _root_.bY:=@of_decide_eq_true
abbrev _root_.kA:=@Sum.elim_inl
abbrev _root_.Rm:=@NJ
abbrev _root_.Ki:=@List.mem_append_left
abbrev _root_.yQ:=@bW
abbrev _root_.oF:=@Ja
abbrev _root_.vP:=@Bool.not_false
abbrev _root_.uX:=@gP
abbrev _root_.Kh:=@List.flatMap_cons
abbrev _root_.Gf:=@List.length_map
abbrev _root_.CQ:=@aZ
abbrev _root_.IZ:=@List.mem_of_mem_drop
abbrev _root_.Ct:=@Nat.add_assoc
abbrev _root_.Rl:=@List.nil_append
abbrev _root_.NO:=@XS
abbrev _root_.Ry:=@List.map_append
abbrev _root_.Jf:=@List.all_cons
abbrev _root_.aR:=@cL
abbrev _root_.cG:=@Re
abbrev _root_.cN:=@dI
abbrev _root_.eI:=@List.length_singleton
abbrev _root_.eU:=@kY
abbrev _root_.gR:=@fN
abbrev _root_.cW:=@Nat.zero_le
abbrev _root_.gK:=@List.mem_cons_self
abbrev _root_.fB:=@IW
abbrev _root_.dO:=@qG
abbrev _root_.gZ:=@List.append_assoc
abbrev _root_.gD:=@List.append_nil
abbrev _root_.iP:=@List.length_nil
abbrev _root_.jS:=@cM
abbrev _root_.lB:=@tR
abbrev _root_.gL:=@Bool.not_true
abbrev _root_.Je:=@List.eq_nil_of_length_eq_zero
abbrev _root_.lA:=@yO
abbrev _root_.cf:=@List.map_singleton
abbrev _root_.YP:=@Bool.eq_iff_iff
abbrev _root_.YO:=@Bool.or_eq_true
abbrev _root_.zbD:=@Tw
abbrev _root_.YN:=@Rh
abbrev _root_.aj:=@Option.map_some
abbrev _root_.zbI:=@List.set_eq_take_append_cons_drop
abbrev _root_.zbJ:=@Nat.add_sub_cancel_left
abbrev _root_.Rx:=@List.drop_drop
abbrev _root_.Hv:=@Nat.add_comm
abbrev _root_.NN:=@List.flatMap_append
abbrev _root_.Jd:=@Nat.zero_add
abbrev _root_.Rw:=@Bool.true_and
abbrev _root_.Tx:=@List.any_cons
abbrev _root_.YM:=@List.mem_append_right
abbrev _root_.SS:=@cQ
abbrev _root_.Ru:=@Nat.add_zero
abbrev _root_.Rt:=@Sum.elim_inr
abbrev _root_.YL:=@Nat.mul_le_mul_right
abbrev _root_.NM:=@IX
abbrev _root_.ai:=@List.perm_append_comm
abbrev _root_.ca:=@UInt8.lt_iff_toNat_lt
abbrev _root_.XT:=@List.drop_length
abbrev _root_.bz:=@List.map_congr_left
abbrev _root_.pj:=@List.singleton_append
abbrev _root_.NL:=@Bool.false_or
def dQ(F:Nat->ξ)(d:Nat)(v:ξ):Nat->ξ:=λt=>bif cU t d then v else F t
structure Md where
 n:Nat
 D:List Deferred
 ro:Option (Option Nat)
def fr(n:Md)(F:Nat->ξ):Act:={tmps:=Array.ofFn (n:=n.n) λi=>F i.val,defers:=n.D}
def aX(n:Md)(F:Nat->ξ):χ->ξ
 |.tmp t=>bif fL t n.n then F t else undef
 |.const v=>v
 |.global g=>.pointer (θ ⟨g,0,ι⟩)
 |.func f=>.func (.func f) #[] #[]
def MS(l:δ ξ):Nat->ξ:=λt=>l.getD t undef
abbrev dH(b:Nat):ε Γ:=θ ⟨b,0,ι⟩
theorem _root_.Go.aK.{u}{c:Sort u}{a b:c}(h:a=b:=by kernel_rfl):a=b:=h
theorem _root_.Go.kqF(h:p:=by first|kernel_rfl|(intro _;kernel_rfl)|decide):p:=h
theorem _root_.Go.CN(h:p:=by constructor<;>first|exact Go.kqF|(constructor<;>first|exact Go.kqF|(constructor<;>exact Go.kqF))):p:=h
theorem yS{a:Type}{x:a}(h:ι=θ x):p:=nomatch h
theorem lsz(h:p:=by(try simp only[jJ])<;>first|rfl|omega):p:=h
theorem lsy(h:p:=by(try simp only[jJ])<;>first|rfl|omega|simp):p:=h
theorem lT{a b:Nat}(h:Nat.ble a b=μ:=by rfl):a<=b:=CQ h
theorem bV(a:Nat)(h:0<a:=by omega):∃m,a=m+1:=⟨a-1,aA0⟩
theorem aU(h:p:=by omega):p:=h
theorem pE(n:Md)(F:Nat->ξ)(t:Nat):(fr n F).tmps.getD t undef=bif fL t n.n then F t else undef:=by
 unfold fr;by_cases h:t<n.n
 ·have a:fL t n.n=μ:=by simpa [iV] using h
  simp[h,a]
 ·have a:fL t n.n=ν:=by
   cases hx:fL t n.n
   ·rfl
   ·exact absurd (by simpa [iV] using hx) h
  simp[h,a]
theorem RY(n:Md)(F:Nat->ξ):(fr n F).eval=aX n F:=by
 funext o;cases o with
 |tmp t=>exact pE n F t
 |const v=>rfl
 |global g=>rfl
 |func f=>rfl
theorem nr(F:Nat->ξ)(d:Nat)(v:ξ):dQ F d v d=v:=by simp[dQ]
theorem Kv(F:Nat->ξ)(d:Nat)(v:ξ)(t:Nat)(h:t≠d):dQ F d v t=F t:=by
 have:cU t d=ν:=by
  cases hx:cU t d
  ·rfl
  ·exact absurd (gR hx) h
 simp[dQ,this]
theorem kL(n:Md)(F:Nat->ξ)(d:Nat)(v:ξ):(fr n F).put (θ d) v=fr n (dQ F d v):=by
 unfold fr Act.put;simp;apply bx
 ·simp
 ·intro i a b;by_cases hid:i=d
  ·subst hid;simp[nr]
  ·rw[Array.getElem_setIfInBounds_ne aC0 (λe=>hid e.symm)];simp[Kv _ _ _ _ hid]
theorem AX(args:δ ξ)(n:Nat)(h:γ args<=n):
  ({tmps:=args.toArray++IY (n-args.toArray.size) undef,defers:=[]})=fr ⟨n,[],ι⟩ (MS args):=by
 unfold fr MS;simp;apply bx
 ·simp;omega
 ·intro i c b;simp only[Array.getElem_append];by_cases a:i<γ args
  ·simp[a]
  ·simp[a]
abbrev Ti(x:ε Nat):Fence:={Fence.wide with round:=x}
def WR(P:Β)(r:ε (ε Nat))(ops:Array Α)(Q:Exit->Act->ο->Prop)(l:δ Α)(a:Act)(w:ο):Prop:=
 match r with
 |none=>wpList P ops Q l a w
 |some x=>wpListIn (Ti x) 0 P ops Q l a w
def CC(P:Β)(r:ε (ε Nat))(Q:Exit->Act->ο->Prop)(c:Code)(a:Act)(w:ο):Prop:=
 match r with
 |none=>c.wp P Q a w
 |some x=>c.wpIn (Ti x) 0 P Q a w
def W(P:Β)(n:Md)(ops:Array Α)(Q:Exit->Act->ο->Prop)(l:δ Α)(F:Nat->ξ)(w:ο):Prop:=WR P n.ro ops Q l (fr n F) w
def C(P:Β)(n:Md)(Q:Exit->Act->ο->Prop)(c:Code)(F:Nat->ξ)(w:ο):Prop:=CC P n.ro Q c (fr n F) w
def Fw(P:Β)(n:Md)(y:Code)(Q:Exit->Act->ο->Prop):Exit->Act->ο->Prop:=Exit.then (CC P n.ro Q y) Q
def CR(P:Β)(f:FuncId)(args:δ ξ)(w:ο)(R:ξ->ο->Prop):Prop:=
 Calls P f args.toArray w λe w'=>∃v,e=.returned v/\R v w'
theorem CR.mono{P:Β}{f:FuncId}{args:δ ξ}{w:ο}{R a:ξ->ο->Prop}(h:CR P f args w R)(b:∀v w',R v w'->a v w'):CR P f args w a:=
 Calls.mono h λ_ _ ⟨v,e,r⟩=>⟨v,e,b v _ r⟩
section
variable {P:Β}{n:Md}{ops:Array Α}{Q:Exit->Act->ο->Prop}{F:Nat->ξ}{w:ο}
variable {r:ε (ε Nat)}{c:Code}{b:Exit->Act->ο->Prop}
theorem BP{a:Act}(h:CC P r Q c a w)(s:∀e a w,Q e a w->b e a w):CC P r b c a w:=by
 cases r with
 |none=>exact wp_mono h s
 |some x=>exact wpIn_mono h s
variable {h:δ ξ}{R:ξ->ο->Prop}
theorem enter{k:Nat}{f:FuncId}{fn:Func}(d:P.funcs[f]? =θ fn)(g:fn.body=θ c)(a:fn.ntmps=k)(b:γ h<=k)
  (s:C P ⟨k,[],ι⟩ (bodyPost P fn λe w'=>∃v,e=.returned v/\R v w') c (MS h) w):CR P f h w R:=by
 refine calls_of_wp d g ?_;rw[a,AX h k b];exact s
variable {y:Code}
theorem BS(h:C P n (Fw P n y Q) c F w):C P n Q (.seq c y) F w:=by
 obtain⟨k,D,ro⟩:=n;cases ro with
 |none=>exact wp_seq h
 |some r=>exact wpIn_seq h
theorem Qg(h:Q .normal (fr n F) w):C P n Q .skip F w:=by
 obtain⟨k,D,ro⟩:=n;cases ro with
 |none=>exact wp_skip h
 |some r=>exact wpIn_skip h
variable {d:Nat}
theorem mj(h:Q .normal (fr n F) w):C P n Q (.label d) F w:=by
 obtain⟨k,D,ro⟩:=n;cases ro with
 |none=>exact wp_label h
 |some r=>exact wpIn_label h
theorem wI(h:Q (.exit d) (fr n F) w):C P n Q (.exit d) F w:=by
 obtain⟨k,D,ro⟩:=n;cases ro with
 |none=>exact wp_exit h
 |some r=>exact wpIn_exit h
theorem Xe(h:Q .ret (fr n F) w):C P n Q .ret F w:=by
 obtain⟨k,D,ro⟩:=n;cases ro with
 |none=>exact wp_ret h
 |some r=>exact wpIn_ret h
theorem RU(h:C P n (Exit.inBlock d Q) c F w):C P n Q (.block d c) F w:=by
 obtain⟨k,D,ro⟩:=n;cases ro with
 |none=>exact wp_block h
 |some r=>exact wpIn_block h
variable {D:δ Deferred}
theorem BQ(h:C P ⟨d,D,ι⟩ (Exit.noGoto Q) c F w):C P ⟨d,D,ι⟩ Q (.scope c) F w:=wp_scope_straight h
theorem M9(h:Q .normal (fr n F) w):Exit.noGoto Q .normal (fr n F) w:=h
theorem Vw(h:Q .ret (fr n F) w):Exit.noGoto Q .ret (fr n F) w:=h
theorem yf(h:Q (.exit d) (fr n F) w):Exit.noGoto Q (.exit d) (fr n F) w:=h
variable {l:δ Α}
theorem MQ(h:W P n l.toArray Q l F w):C P n Q (.region d l.toArray ν) F w:=by
 obtain⟨k,D,ro⟩:=n;cases ro with
 |none=>exact wp_region_lit h
 |some r=>exact wpIn_region_lit h
theorem tG{x:χ}(a:aX n F x=.bool μ)(h:C P n Q c F w):C P n Q (.cond x c y) F w:=by
 obtain⟨k,D,ro⟩:=n;cases ro with
 |none=>exact wp_cond_true aF5 h
 |some r=>exact wpIn_cond_true aF5 h
theorem mr{x:χ}(a:aX n F x=.bool ν)(h:C P n Q y F w):C P n Q (.cond x c y) F w:=by
 obtain⟨k,D,ro⟩:=n;cases ro with
 |none=>exact wp_cond_false aF5 h
 |some r=>exact wpIn_cond_false aF5 h
variable {a:χ}
theorem tI{b:η}(x:aX n F a=.bool b)(d:b=μ->C P n Q c F w)(e:b=ν->C P n Q y F w):C P n Q (.cond a c y) F w:=by
 cases b with
 |true=>exact tG x (d rfl)
 |false=>exact mr x (e rfl)
variable {p:Prop}
theorem c_dec[Decidable p](d:aX n F a=.bool (decide p))(x:p->C P n Q c F w)(b:¬p->C P n Q y F w):C P n Q (.cond a c y) F w:=
 tI d (λh=>x (bY h)) (λh=>b (fH h))
theorem c_ndec[Decidable p](d:aX n F a=.bool (!decide p))(x:¬p->C P n Q c F w)(b:p->C P n Q y F w):C P n Q (.cond a c y) F w:=
 tI d (λh=>x aA8) (λh=>b aA8)
variable {j:Nat}
theorem JG{a:δ Deferred}(h:C P ⟨d,D,r⟩ Q c F w):Fw P ⟨j,a,r⟩ c Q .normal (fr ⟨d,D,r⟩ F) w:=h
variable {q:Md}
theorem DG(h:Q .ret (fr n F) w):Fw P q c Q .ret (fr n F) w:=h
theorem vH(h:Q (.exit d) (fr n F) w):Fw P q c Q (.exit d) (fr n F) w:=h
variable {K:Act->ο->Prop}
theorem xj(h:K (fr n F) w):Exit.then K Q .normal (fr n F) w:=h
theorem vG(h:Q .ret (fr n F) w):Exit.then K Q .ret (fr n F) w:=h
theorem wJ(h:Q (.exit d) (fr n F) w):Exit.then K Q (.exit d) (fr n F) w:=h
theorem Z1(h:Q .normal (fr n F) w):Exit.inBlock d Q .normal (fr n F) w:=h
theorem b_ret(h:Q .ret (fr n F) w):Exit.inBlock d Q .ret (fr n F) w:=h
theorem wH(h:Q .normal (fr n F) w):Exit.inBlock d Q (.exit d) (fr n F) w:=by simpa [Exit.inBlock] using h
theorem MP(b:cU j d=ν)(h:Q (.exit j) (fr n F) w):Exit.inBlock d Q (.exit j) (fr n F) w:=by
 have:¬j=d:=λe=>by subst e;simp at b
 simpa [Exit.inBlock,this] using h
def mN(F:Nat->ξ):δ (Nat×ξ)->Prop
 |[]=>True
 |(t,v)::l=>F t=v/\mN F l
def app:δ (Nat×ξ)->(Nat->ξ)->Nat->ξ
 |[],G=>G
 |(t,v)::l,G=>dQ (app l G) t v
theorem vi{F:Nat->ξ}{v:ξ}(h:F d=v):dQ F d v=F:=by
 funext s;by_cases a:s=d
 ·subst a;rw[nr,h]
 ·rw[Kv _ _ _ _ a]
theorem MT:∀l F,mN F l->app l F=F
 |[],_,_=>rfl
 |(t,v)::l,F,h=>by simp only[app];rw[MT l F h.2];exact vi h.1
theorem X1{σ:Type}(L:σ->δ (Nat×ξ))(wd:σ->ο->Prop)(m:σ->Nat)(B:σ)(O:mN F (L B))(z:wd B w)
  (round:∀s w G,wd s w->C P n (Exit.then (λa' w'=>∃s' y,a'=fr n y/\mN y (L s')/\wd s' w'/\m s'<m s) Q) c (app (L s) G) w):
  C P n Q (.loop c) F w:=by
 obtain⟨N,D,ro⟩:=n;cases ro with
 |none=>
  have key:∀k:Nat,∀b q cs s F w,m s=k->mN F (L s)->wd s w->
    ∃e a' w',Q e a' w'/\Arrives P (lone (b.at (fr ⟨N,D,ι⟩ F) (.code c::.inLoop c::q)) cs w) b q cs e a' w':=by
   intro k;induction k using Nat.strongRecOn with
   |_ k E=>
    intro b q cs s F w J M H;have v:=round s w F H;rw[MT _ _ M]at v;obtain⟨e,f,d,h,a⟩:=v b _ cs;cases e with
    |normal=>obtain⟨s',y,rfl,u,r,t⟩:=h;obtain⟨o,p,j,i,g⟩:=E _ (J▸t) b q cs s' y d rfl u r;exact⟨o,p,j,i,.of_steps (Steps.trans a (.one step_inLoop)) g⟩
    |exit id=>exact⟨_,f,d,h,.pass rfl (λ_ _=>.inl aA3) a⟩
    |goto l=>exact⟨_,f,d,h,.pass rfl (λ_ _=>.inl aA3) a⟩
    |ret=>exact⟨_,f,d,h,.pass rfl (λ_ _=>.inl aA3) a⟩
    |panic R=>exact⟨_,f,d,h,.pass rfl (λ_ _=>.inl aA3) a⟩
    |outgrown=>exact⟨_,f,d,h,.pass rfl (λ_ _=>.inl aA3) a⟩
  intro b q cs;obtain⟨e,a',w',h,a⟩:=key _ b q cs B F w rfl O z;exact⟨e,a',w',h,.of_steps (.one step_loop) a⟩
 |some x=>
  intro b q cs I K v;have key:∀k:Nat,∀s F w,m s=k->mN F (L s)->wd s w->
    ∃e a' w',Q e a' w'/\ArrivesIn (Machine.fenced P (Ti x)) P (lone (b.atR (fr ⟨N,D,θ x⟩ F) (.code c::.inLoop c::q)) cs w) b q cs e a' w':=by
   intro k;induction k using Nat.strongRecOn with
   |_ k E=>
    intro s F w J M H;have A:=round s w F H;rw[MT _ _ M]at A;obtain⟨e,f,d,h,a⟩:=A b _ cs I K v;cases e with
    |normal=>obtain⟨s',y,rfl,u,r,t⟩:=h;obtain⟨o,p,j,i,g⟩:=E _ (J▸t) s' y d rfl u r;exact⟨o,p,j,i,.of_steps (StepsIn.trans a (.one (fenced_calm K v rfl) stepR_inLoop)) g⟩
    |exit id=>exact⟨_,f,d,h,.pass rfl (λ_ _=>.inl aA3) a⟩
    |goto l=>exact⟨_,f,d,h,.pass rfl (λ_ _=>.inl aA3) a⟩
    |ret=>exact⟨_,f,d,h,.pass rfl (λ_ _=>.inl aA3) a⟩
    |panic R=>exact⟨_,f,d,h,.pass rfl (λ_ _=>.inl aA3) a⟩
    |outgrown=>exact⟨_,f,d,h,.pass rfl (λ_ _=>.inl aA3) a⟩
  obtain⟨e,a',w',h,a⟩:=key _ B F w rfl O z;exact⟨e,a',w',h,.of_steps (.one (fenced_calm K v rfl) stepR_loop) a⟩
theorem BR(h:C P n Q c F w)(s:∀e a w,Q e a w->b e a w):C P n b c F w:=BP h s
def Bd(a:δ Nat)(A G:Nat->ξ):Nat->ξ:=λt=>bif a.any (cU t)then A t else G t
theorem O8{A:Nat->ξ}:∀{a:δ Nat} {F:Nat->ξ},a.map F=a.map A->Bd a A F=F:=by
 intro a F h;funext t;unfold Bd;cases b:a.any _ with
 |false=>rfl
 |true=>obtain⟨x,hx,c⟩:=cV.1 b;have:=gR c;subst this;exact((List.map_inj_left.1 h) t hx).symm
theorem cut{σ:Type}(x:δ Nat)(L:σ->δ (Nat×ξ))(wd:σ->ο->Prop)
  (hx:C P n (Exit.then (λa' w'=>∃s' b,a'=fr n b/\x.map b=x.map (app (L s') F)/\wd s' w') Q) c F w)
  (d:∀s w G,wd s w->C P n Q y (Bd x (app (L s) F) G) w):C P n Q (.seq c y) F w:=by
 refine BS (BP hx λe a w' h=> ?_);cases e with
 |normal=>obtain⟨s',b,rfl,g,f⟩:=h;have:=d s' w' b f;rw[O8 g]at this;exact this
 |exit id=>exact h
 |goto l=>exact h
 |ret=>exact h
 |panic i=>exact h
 |outgrown=>exact h
theorem CM{σ:Type}(b:δ Nat)(L:σ->δ (Nat×ξ))(wd:σ->ο->Prop)(m:σ->Nat)(g:σ)(j:wd g w)
  (round:∀s w G,wd s w->C P n (Exit.then (λa' w'=>∃s' f,a'=fr n f/\b.map f=b.map (app (L s') F)/\wd s' w'/\m s'<m s) Q) c (Bd b (app (L s) F) G) w)
  (x:b.map F=b.map (app (L g) F):=by kernel_rfl):C P n Q (.loop c) F w:=by
 have k:∀A (l:δ Nat) (G:Nat->ξ),mN G (l.map λt=>(t,A t))↔l.map G=l.map A:=by
  intro A l G;induction l with
  |nil=>simp[mN]
  |cons t l i=>simp[mN,i]
 have ap:∀A l G,app (l.map λt=>(t,A t)) G=Bd l A G:=by
  intro A l G;induction l with
  |nil=>rfl
  |cons t l i=>
   funext u;simp only[uX,app,dQ,i,Bd];by_cases d:u=t
   ·subst d;simp
   ·have:cU u t=ν:=by
     cases hx:cU u t
     ·rfl
     ·exact absurd (gR hx) d
    simp[this]
 refine X1 (σ:=σ) (λs=>b.map λt=>(t,app (L s) F t)) wd m g ((k _ _ _).2 x) j λs w G o=> ?_;rw[ap];refine BP (round s w G o) λe a w' h=> ?_;cases e with
 |normal=>obtain⟨s',f,v,r,q,p⟩:=h;exact⟨s',f,v,(k _ _ _).2 r,q,p⟩
 |exit id=>exact h
 |goto l=>exact h
 |ret=>exact h
 |panic y=>exact h
 |outgrown=>exact h
theorem jT(h:Q .normal (fr n F) w):W P n ops Q [] F w:=by
 obtain⟨k,D,ro⟩:=n;cases ro with
 |none=>exact h
 |some r=>exact h
variable {o:Α}
theorem uA{ρ:χ->ξ}{x:Next}{w':ο}(ro:ε Nat)(h:(ς ρ o).run P w=.ok x w')(hx:∀d,x≠.defer d):o.semAt ro ρ=ς ρ o:=by
 refine Oper.semAt_eq ro ρ o λc e=> ?_;unfold ς at h;rw[e]at h;simp at h;cases a:(resolve ρ c o.type).run P w with
 |ok d b=>rw[a]at h;simp at h;exact hx d h.1.symm
 |halt d b=>rw[a]at h;simp at h
theorem fE{v:ξ}{w':ο}(c:o.guard=ι)(f:o.dst=θ d)
  (a:(ς (aX n F) o).run P w=.ok (.value v) w') (h:W P n ops Q l (dQ F d v) w'):W P n ops Q (o::l) F w:=by
 obtain⟨k,D,ro⟩:=n;cases ro with
 |none=>refine wpList_plain c λK b=> ?_;unfold Oper.wp;rw[RY,a,Oper.upon_value,f];refine b _ _ ?_;rw[kL];exact h
 |some r=>refine wpListIn_plain c λK b=>⟨λ_ _=>trivial, ?_⟩;rw[RY,uA _ a (λd e=>by cases e),a,Oper.uponIn_value,f];refine b _ _ ?_;rw[kL];exact h
theorem oP{w':ο}(c:o.guard=ι)(f:o.dst=ι)
  (a:(ς (aX n F) o).run P w=.ok .skip w') (h:W P n ops Q l F w'):W P n ops Q (o::l) F w:=by
 obtain⟨k,D,ro⟩:=n;cases ro with
 |none=>refine wpList_plain c λK b=> ?_;unfold Oper.wp;rw[RY,a,Oper.upon_skip,f];exact b _ _ h
 |some r=>refine wpListIn_plain c λK b=>⟨λ_ _=>trivial, ?_⟩;rw[RY,uA _ a (λd e=>by cases e),a,Oper.uponIn_skip,f];exact b _ _ h
variable {k:FuncId}
theorem OB(g:o.guard=ι)
  (a:(ς (aX n F) o).run P w=.ok (.enter k h.toArray) w) (i:CR P k h w R) (f:∀v w',R v w'->WR P n.ro ops Q l ((fr n F).put o.dst v) w'):W P n ops Q (o::l) F w:=by
 obtain⟨s,D,ro⟩:=n;cases ro with
 |none=>refine wpList_plain g λK c=> ?_;unfold Oper.wp;rw[RY,a];refine Calls.mono i ?_;rintro e w' ⟨v,rfl,b⟩;exact c _ _ (f v w' b)
 |some r=>refine wpListIn_plain g λK c=>⟨λ_ _=>trivial, ?_⟩;rw[RY,uA _ a (λd e=>by cases e),a];refine⟨λf=>absurd f Bool.false_ne_true, ?_⟩;refine(callsIn_wide).2 (Calls.mono i ?_);rintro e w' ⟨v,rfl,b⟩;exact c _ _ (f v w' b)
theorem bfo(ops:Array Α)(g:Nat)(dg:Nat)(d:(ops[g]?).bind (·.dst)=θ dg)(c:fL dg n.n=μ):
  yielded ops (fr n F).tmps g=match F dg with|.bool b=>θ b|_=>ι:=by
 have a:dg<n.n:=by simpa [iV] using c
 unfold yielded;simp[d,fr,a];cases F dg<;>rfl
variable {m:Op}{f:ω}{g:String}{e:Array Edge}{i:η}
theorem JS{a:ε Nat}(dg:Nat)
  (b:(ops[d]?).bind (·.dst)=θ dg) (s:fL dg n.n=μ) (t:F dg=.bool i)
  (h:W P n ops Q (⟨a,m,f,g,e,ι⟩::l) F w):W P n ops Q (⟨a,m,f,g,e,θ (d,i)⟩::l) F w:=by
 have c:Region.wanted ⟨a,m,f,g,e,θ (d,i)⟩ (yielded ops (fr n F).tmps)=μ:=by unfold Region.wanted;simp only[bfo ops d dg b s,t];simp
 obtain⟨k,D,ro⟩:=n;cases ro with
 |none=>simp only[W,WR]at h⊢;unfold wpList at h⊢;rw[aB c];exact h
 |some r=>simp only[W,WR]at h⊢;unfold wpListIn at h⊢;rw[aB c];exact h
theorem qk(dg:Nat)
  (b:(ops[j]?).bind (·.dst)=θ dg) (s:fL dg n.n=μ) (c:F dg=.bool (!i))
  (h:W P n ops Q l (dQ F d undef) w):W P n ops Q (⟨θ d,m,f,g,e,θ (j,i)⟩::l) F w:=by
 have a:¬Region.wanted ⟨θ d,m,f,g,e,θ (j,i)⟩ (yielded ops (fr n F).tmps)=μ:=by unfold Region.wanted;simp only[bfo ops j dg b s,c];simp
 obtain⟨k,D,ro⟩:=n;cases ro with
 |none=>simp only[W,WR]at h⊢;unfold wpList;rw[aA a];rw[kL];exact h
 |some r=>simp only[W,WR]at h⊢;unfold wpListIn;rw[aA a];refine⟨λ_ _=>trivial, ?_⟩;rw[kL];exact h
theorem qj(dg:Nat)
  (b:(ops[j]?).bind (·.dst)=θ dg) (s:fL dg n.n=μ) (c:F dg=undef)
  (h:W P n ops Q l (dQ F d undef) w):W P n ops Q (⟨θ d,m,f,g,e,θ (j,i)⟩::l) F w:=by
 have a:¬Region.wanted ⟨θ d,m,f,g,e,θ (j,i)⟩ (yielded ops (fr n F).tmps)=μ:=by unfold Region.wanted;simp only[bfo ops j dg b s,c];simp[undef]
 obtain⟨k,D,ro⟩:=n;cases ro with
 |none=>simp only[W,WR]at h⊢;unfold wpList;rw[aA a];rw[kL];exact h
 |some r=>simp only[W,WR]at h⊢;unfold wpListIn;rw[aA a];refine⟨λ_ _=>trivial, ?_⟩;rw[kL];exact h
section
variable {d:Nat}{ty:ω}{pos:String}{after:Array Edge}{rest:δ Α}
variable {x:χ}
theorem jM(v:ξ)(hx:aX n F x=v)(h:W P n ops Q rest (dQ F d v) w):W P n ops Q (⟨θ d,.move x,ty,pos,after,ι⟩::rest) F w:=
 fE rfl rfl (by rw[<-hx];rfl) h
theorem mQ(v:ξ)(hx:aX n F x=v)(h:W P n ops Q rest (dQ F d v) w):W P n ops Q (⟨θ d,.assign x,ty,pos,after,ι⟩::rest) F w:=
 fE rfl rfl (by rw[<-hx];rfl) h
theorem Gj(b:η)(hx:aX n F x=.bool b)(a:b=μ->W P n ops Q rest (dQ F d (.bool μ)) w)(c:b=ν->W P n ops Q rest (dQ F d (.bool ν)) w):
  W P n ops Q (⟨θ d,.move x,ty,pos,after,ι⟩::rest) F w:=by
 cases b with
 |true=>exact jM _ hx (a rfl)
 |false=>exact jM _ hx (c rfl)
theorem JR(p:Prop)[Decidable p](hx:aX n F x=.bool (decide p))(a:p->W P n ops Q rest (dQ F d (.bool μ)) w)(b:¬p->W P n ops Q rest (dQ F d (.bool ν)) w):
  W P n ops Q (⟨θ d,.move x,ty,pos,after,ι⟩::rest) F w:=
 Gj _ hx (λh=>a (bY h)) (λh=>b (fH h))
variable {y:χ}
theorem YV{b:χ}(t:η)(v:ξ)(f:aX n F x=.bool t)(e:(bif t then aX n F y else aX n F b)=v):(ς (aX n F) (⟨θ d,.pick x y b,ty,pos,after,ι⟩)).run P w=.ok (.value v) w:=by simp only[ς,f];rw[<-e];cases t<;>rfl
variable {t:ω}
theorem YW(b:η)(hx:aX n F x=.bool b):(ς (aX n F) (⟨θ d,.unOp .not t x,ty,pos,after,ι⟩)).run P w=.ok (.value (.bool (!b))) w:=by simp only[ς,hx];rfl
theorem uu(b:η)(hx:aX n F x=.bool (!b)):(ς (aX n F) (⟨θ d,.unOp .not t x,ty,pos,after,ι⟩)).run P w=.ok (.value (.bool b)) w:=by simp only[ς,hx];cases b<;>rfl
structure bK (a:Int):Prop where
 lo: -9223372036854775808<=a
 hi:a<=9223372036854775807
theorem bjb{x:Int}(b: -9223372036854775808<=x)(a:x<=9223372036854775807):IntKind.i64.wrap x=x:=by rw[IntKind.wrap_i64];omega
variable {a:ω}
theorem ZJ(k:Ε)(e b:Int)(hx:aX n F x=.int k e)(c:aX n F y=.int k b):(ς (aX n F) (⟨θ d,.binOp .add t x y a,ty,pos,after,ι⟩)).run P w=.ok (.value (.int k (k.wrap (e+b)))) w:=by simp only[ς,hx,c,binOp,ne_eq];rfl
theorem Jg(f b:Int)(hx:aX n F x=.int .i64 f)(e:aX n F y=.int .i64 b)(c:bK (f+b)):(ς (aX n F) (⟨θ d,.binOp .add t x y a,ty,pos,after,ι⟩)).run P w=.ok (.value (.int .i64 (f+b))) w:=by rw[ZJ .i64 f b hx e,bjb c.1 c.2]
theorem rA(f b:Int)(hx:aX n F x=.int .i64 f)(c:aX n F y=.int .i64 b)(e:bK (f+b))(h:W P n ops Q rest (dQ F d (.int .i64 (f+b))) w):W P n ops Q (⟨θ d,.binOp .add t x y a,ty,pos,after,ι⟩::rest) F w:=
 fE rfl rfl (Jg f b hx c e) h
theorem YU(k:Ε)(e b:Int)(hx:aX n F x=.int k e)(c:aX n F y=.int k b):(ς (aX n F) (⟨θ d,.binOp .sub t x y a,ty,pos,after,ι⟩)).run P w=.ok (.value (.int k (k.wrap (e-b)))) w:=by simp only[ς,hx,c,binOp,ne_eq];rfl
theorem oL(f b:Int)(hx:aX n F x=.int .i64 f)(e:aX n F y=.int .i64 b)(c:bK (f-b)):(ς (aX n F) (⟨θ d,.binOp .sub t x y a,ty,pos,after,ι⟩)).run P w=.ok (.value (.int .i64 (f-b))) w:=by rw[YU .i64 f b hx e,bjb c.1 c.2]
theorem tW(f b:Int)(hx:aX n F x=.int .i64 f)(c:aX n F y=.int .i64 b)(e:bK (f-b))(h:W P n ops Q rest (dQ F d (.int .i64 (f-b))) w):W P n ops Q (⟨θ d,.binOp .sub t x y a,ty,pos,after,ι⟩::rest) F w:=
 fE rfl rfl (oL f b hx c e) h
theorem YY(k:Ε)(e b:Int)(hx:aX n F x=.int k e)(c:aX n F y=.int k b):(ς (aX n F) (⟨θ d,.binOp .mul t x y a,ty,pos,after,ι⟩)).run P w=.ok (.value (.int k (k.wrap (e*b)))) w:=by simp only[ς,hx,c,binOp,ne_eq];rfl
theorem NV(f b:Int)(hx:aX n F x=.int .i64 f)(e:aX n F y=.int .i64 b)(c:bK (f*b)):(ς (aX n F) (⟨θ d,.binOp .mul t x y a,ty,pos,after,ι⟩)).run P w=.ok (.value (.int .i64 (f*b))) w:=by rw[YY .i64 f b hx e,bjb c.1 c.2]
theorem cp(f b:Int)(hx:aX n F x=.int .i64 f)(c:aX n F y=.int .i64 b)(e:bK (f*b))(h:W P n ops Q rest (dQ F d (.int .i64 (f*b))) w):W P n ops Q (⟨θ d,.binOp .mul t x y a,ty,pos,after,ι⟩::rest) F w:=
 fE rfl rfl (NV f b hx c e) h
theorem YZ(k:Ε)(e b:Int)(hx:aX n F x=.int k e)(c:aX n F y=.int k b):(ς (aX n F) (⟨θ d,.binOp .lss t x y a,ty,pos,after,ι⟩)).run P w=.ok (.value (.bool (decide (e<b)))) w:=by simp only[ς,hx,c,binOp,ne_eq];rfl
theorem ZA(k:Ε)(e b:Int)(hx:aX n F x=.int k e)(c:aX n F y=.int k b):(ς (aX n F) (⟨θ d,.binOp .leq t x y a,ty,pos,after,ι⟩)).run P w=.ok (.value (.bool (decide (e<=b)))) w:=by simp only[ς,hx,c,binOp,ne_eq];rfl
theorem ZE(k:Ε)(e b:Int)(hx:aX n F x=.int k e)(c:aX n F y=.int k b):(ς (aX n F) (⟨θ d,.binOp .gtr t x y a,ty,pos,after,ι⟩)).run P w=.ok (.value (.bool (decide (b<e)))) w:=by simp only[ς,hx,c,binOp,ne_eq];rfl
theorem ZF(k:Ε)(e b:Int)(hx:aX n F x=.int k e)(c:aX n F y=.int k b):(ς (aX n F) (⟨θ d,.binOp .geq t x y a,ty,pos,after,ι⟩)).run P w=.ok (.value (.bool (decide (b<=e)))) w:=by simp only[ς,hx,c,binOp,ne_eq];rfl
theorem ZG(k:Ε)(e b:Int)(hx:aX n F x=.int k e)(c:aX n F y=.int k b):(ς (aX n F) (⟨θ d,.binOp .eql t x y a,ty,pos,after,ι⟩)).run P w=.ok (.value (.bool (decide (e=b)))) w:=by simp only[ς,hx,c,binOp,ne_eq];rfl
theorem YX(k:Ε)(e b:Int)(hx:aX n F x=.int k e)(c:aX n F y=.int k b):(ς (aX n F) (⟨θ d,.binOp .neq t x y a,ty,pos,after,ι⟩)).run P w=.ok (.value (.bool (!decide (e=b)))) w:=by simp only[ς,hx,c,binOp,ne_eq];rfl
end
end
attribute [irreducible] W C Fw WR CC
def at_(l:δ ζ)(i:Int):ζ:=l.getD i.toNat 0
def sub(l:δ ζ)(i j:Int):δ ζ:=(l.drop i.toNat).take (j.toNat-i.toNat)
end Go.Wk
set_option linter.unusedSimpArgs false
namespace Go.Wk
open Go.Op renaming bytesLess → qZ
open Nat renaming blt → fL
def str(l:δ ζ):ξ:=.string ⟨l.toArray⟩
def bt(c:ζ):ξ:=.int .u8 (c.toNat:Int)
def Enters(P : Β)(f : FuncId) : Prop := ∃ fn c, P.funcs[f]? = θ fn /\ fn.body = θ c /\ (fn.name == "runtime.NumGoroutine") = ν
theorem Enters.run{P:Β}{f:FuncId}(h:Enters P f)(args:Array ξ)(w:ο):(callFunc f args).run P w=.ok (.enter f args) w:=by obtain⟨fn,c,d,b,a⟩:=h;show Sem.run P (match P.funcs[f]? with|none=>_|some fn=>_) w=_;rw[d];simp only[a,b];rfl
section
variable {P:Β}{n:Md}{ops:Array Α}{Q:Exit->Act->ο->Prop}{F:Nat->ξ}{w:ο}
variable {c:Nat}{a:ε (ε Nat)}{b:Func}{R:ξ->ο->Prop}{t:Nat}
theorem pV(v:ξ)(f:b.results= #[.tmp t])(d:aX ⟨c,[],a⟩ F (.tmp t)=v)(h:R v w):
  bodyPost P b (λe w'=>∃v,e=.returned v/\R v w') .ret (fr ⟨c,[],a⟩ F) w:=
 ⟨rfl,v,by rw[results_tmp f,pE];exact bF (λx=>Result.ok x w) d,v,rfl,h⟩
theorem Mj(d:b.results= #[])(h:R (.tuple #[]) w):
  bodyPost P b (λe w'=>∃v,e=.returned v/\R v w') .ret (fr ⟨c,[],a⟩ F) w:=
 ⟨rfl,_,results_none d _ _ _,_,rfl,h⟩
theorem uD(d:b.results= #[])(h:R (.tuple #[]) w):
  bodyPost P b (λe w'=>∃v,e=.returned v/\R v w') .normal (fr ⟨c,[],a⟩ F) w:=
 ⟨rfl,_,results_none d _ _ _,_,rfl,h⟩
theorem rX{u:Nat}(v j:ξ)(f:b.results= #[.tmp t,.tmp u])(d:aX ⟨c,[],a⟩ F (.tmp t)=v)(k:aX ⟨c,[],a⟩ F (.tmp u)=j)(h:R (.tuple #[v,j]) w):
  bodyPost P b (λe w'=>∃v,e=.returned v/\R v w') .ret (fr ⟨c,[],a⟩ F) w:=by
 refine⟨rfl,_, ?_,_,rfl,h⟩;rw[results_tmp2 f,pE,pE];have i:(bif fL t c then F t else undef)=v:=d;have g:(bif fL u c then F u else undef)=j:=k;rw[i,g]
theorem Zg{u s:Nat}(v d m:ξ)(i:b.results= #[.tmp t,.tmp u,.tmp s])(g:aX ⟨c,[],a⟩ F (.tmp t)=v)(f:aX ⟨c,[],a⟩ F (.tmp u)=d)(o:aX ⟨c,[],a⟩ F (.tmp s)=m)
  (h:R (.tuple #[v,d,m]) w):bodyPost P b (λe w'=>∃v,e=.returned v/\R v w') .ret (fr ⟨c,[],a⟩ F) w:=by
 refine⟨rfl,_, ?_,_,rfl,h⟩;have l:(bif fL t c then F t else undef)=v:=g;have k:(bif fL u c then F u else undef)=d:=f;have j:(bif fL s c then F s else undef)=m:=o;simp[results,i,pE,l,k,j,-Array.getD_eq_getD_getElem?]
section
variable {d:Nat}{ty:ω}{pos:String}{after:Array Edge}{rest:δ Α}
variable {x:χ}{b:Array χ}{c:Array ω}
theorem wK(f:FuncId)(cap:Array ξ)(vs:δ ξ)(R:ξ->ο->Prop)(j:Enters P f)
  (e:aX n F x=.func (.func f) #[] cap) (i: #[]++b.map (aX n F)++cap=vs.toArray) (g:CR P f vs w R) (h:∀v w',R v w'->W P n ops Q rest (dQ F d v) w'):
  W P n ops Q (⟨θ d,.call ⟨.value x,b,c⟩,ty,pos,after,ι⟩::rest) F w:=by
 refine OB rfl ?_ g (λv w' a=> ?_)
 ·simp only[ς,resolve,e,Deferred.ofValue];show Sem.run P (callFunc f _) w=_;rw[i];exact j.run _ _
 ·have:=h v w' a;unfold W at this;rw[<-kL]at this;exact this
theorem db(f:FuncId)(cap:Array ξ)(vs:δ ξ)(R:ξ->ο->Prop)(i:Enters P f)
  (d:aX n F x=.func (.func f) #[] cap) (g: #[]++b.map (aX n F)++cap=vs.toArray) (e:CR P f vs w R) (h:∀v w',R v w'->W P n ops Q rest F w'):
  W P n ops Q (⟨ι,.call ⟨.value x,b,c⟩,ty,pos,after,ι⟩::rest) F w:=by
 refine OB rfl ?_ e (λv w' a=> ?_)
 ·simp only[ς,resolve,d,Deferred.ofValue];show Sem.run P (callFunc f _) w=_;rw[g];exact i.run _ _
 ·have:=h v w' a;unfold W at this;exact this
variable {y:χ}
theorem x_min(k:Ε)(a b:Int)(hx:aX n F x=.int k a)(f:aX n F y=.int k b):(ς (aX n F) (⟨θ d,.call ⟨.builtin .min, #[x,y],c⟩,ty,pos,after,ι⟩)).run P w=.ok (.value (.int k (min a b))) w:=by
 have e:(ς (aX n F) (⟨θ d,.call ⟨.builtin .min, #[x,y],c⟩,ty,pos,after,ι⟩:Α)).run P w=.ok (.value (.int k (if b<a then b else a))) w:=by simp only[ς,resolve,List.map_toArray,uX,hx,f];rfl
 rw[e];congr 3;split<;>omega
theorem pz(k:Ε)(a b:Int)(hx:aX n F x=.int k a)(f:aX n F y=.int k b):(ς (aX n F) (⟨θ d,.call ⟨.builtin .max, #[x,y],c⟩,ty,pos,after,ι⟩)).run P w=.ok (.value (.int k (max a b))) w:=by
 have e:(ς (aX n F) (⟨θ d,.call ⟨.builtin .max, #[x,y],c⟩,ty,pos,after,ι⟩:Α)).run P w=.ok (.value (.int k (if a<b then b else a))) w:=by simp only[ς,resolve,List.map_toArray,uX,hx,f];rfl
 rw[e];congr 3;split<;>omega
theorem w_max(k:Ε)(a b:Int)(hx:aX n F x=.int k a)(e:aX n F y=.int k b)(h:W P n ops Q rest (dQ F d (.int k (max a b))) w):W P n ops Q (⟨θ d,.call ⟨.builtin .max, #[x,y],c⟩,ty,pos,after,ι⟩::rest) F w:=
 fE rfl rfl (pz k a b hx e) h
variable {t:ω}
theorem qa(l:δ ζ)(a:P.underlying t=θ .string)(hx:aX n F x=str l):(ς (aX n F) (⟨θ d,.call ⟨.builtin .len, #[x], #[t]⟩,ty,pos,after,ι⟩)).run P w=.ok (.value (.int .i64 (γ l))) w:=by simp[ς,resolve,invoke,builtin,hx,str,run_len_string _ _ _ _ a];rfl
variable {a:ω}
theorem NT(f b:δ ζ)(hx:aX n F x=str f)(c:aX n F y=str b):(ς (aX n F) (⟨θ d,.binOp .eql t x y a,ty,pos,after,ι⟩)).run P w=.ok (.value (.bool (decide (f=b)))) w:=by
 have e:(f==b)=decide (f=b):=by rw[YP];simp
 simp[ς,hx,c,str,eqGuard,binOp_string_eql,e]
theorem NQ(f b:δ ζ)(hx:aX n F x=str f)(c:aX n F y=str b):(ς (aX n F) (⟨θ d,.binOp .neq t x y a,ty,pos,after,ι⟩)).run P w=.ok (.value (.bool (!decide (f=b)))) w:=by
 have e:(f==b)=decide (f=b):=by rw[YP];simp
 simp[ς,hx,c,str,eqGuard,binOp_string_neq,e]
theorem NR(e b:δ ζ)(hx:aX n F x=str e)(c:aX n F y=str b):(ς (aX n F) (⟨θ d,.binOp .lss t x y a,ty,pos,after,ι⟩)).run P w=.ok (.value (.bool (qZ e b))) w:=by simp[ς,hx,c,str,eqGuard,binOp_string_lss]
theorem NS(e b:δ ζ)(hx:aX n F x=str e)(c:aX n F y=str b):(ς (aX n F) (⟨θ d,.binOp .gtr t x y a,ty,pos,after,ι⟩)).run P w=.ok (.value (.bool (!(qZ e b||e==b)))) w:=by simp[ς,hx,c,str,eqGuard,binOp,Op.stringOp]
theorem yY(f b:δ ζ)(hx:aX n F x=str f)(e:aX n F y=str b)(c:γ f+γ b<=9223372036854775807)
  :(ς (aX n F) (⟨θ d,.binOp .add t x y a,ty,pos,after,ι⟩)).run P w=.ok (.value (str (f++b))) w:=by
 simp[ς,hx,e,str,eqGuard,binOp_string_add,run_string_add_sum w ⟨f.toArray⟩ ⟨b.toArray⟩ c,ByteArray.mk_append_mk]
theorem Qt(f b:δ ζ)(hx:aX n F x=str f)(e:aX n F y=str b)(c:γ f+γ b<=9223372036854775807)
  (h:W P n ops Q rest (dQ F d (str (f++b))) w):W P n ops Q (⟨θ d,.binOp .add t x y a,ty,pos,after,ι⟩::rest) F w:=
 fE rfl rfl (yY f b hx e c) h
theorem oN(l:δ ζ)(k:Ε)(i:Int)(c:P.underlying t=θ .string)(hx:aX n F x=str l)(g:aX n F y=.int k i)
  (h:0<=i/\i<γ l):(ς (aX n F) (⟨θ d,.index t x y,ty,pos,after,ι⟩)).run P w=.ok (.value (bt (at_ l i))) w:=by
 have a:0<=i/\i<(⟨l.toArray⟩:ByteArray).size:=h;have f:i.toNat<γ l:=aA0;have e:=run_index_string (P:=P) w t ⟨l.toArray⟩ k i c;rw[Xx a]at e;simp only[ς,hx,g,str,Sem.run_bind,e];show Result.ok (Next.value (.int .u8 ((l[i.toNat]).toNat))) w=_;simp[bt,at_,f]
theorem na(l:δ ζ)(k:Ε)(i:Int)(b:P.underlying t=θ .string)(hx:aX n F x=str l)(c:aX n F y=.int k i)
  (e:0<=i/\i<(γ l:Int)) (h:W P n ops Q rest (dQ F d (bt (at_ l i))) w):W P n ops Q (⟨θ d,.index t x y,ty,pos,after,ι⟩::rest) F w:=
 fE rfl rfl (oN l k i b hx c e) h
theorem NU{h:χ}(l:δ ζ)(k k':Ε)(i j:Int)(g:P.underlying t=θ .string)(hx:aX n F x=str l)(a:aX n F y=.int k i)(b:aX n F h=.int k' j)
  (c:0<=i/\i<=j/\j<=γ l):(ς (aX n F) (⟨θ d,.slice t x (θ y) (θ h) ι,ty,pos,after,ι⟩)).run P w=.ok (.value (str (sub l i j))) w:=by
 have e:=run_slice_string w t ⟨l.toArray⟩ k k' i j g c.1 c.2.1 c.2.2;simp only[ς,hx,a,b,str,Sem.run_bind,aj,Gd,run_sliceAt_string w t _ _ _ _ g,e,ByteArray.extract_mk];rfl
theorem NY{e:χ}(l:δ ζ)(k k':Ε)(i j:Int)(f:P.underlying t=θ .string)(hx:aX n F x=str l)(a:aX n F y=.int k i)(b:aX n F e=.int k' j)
  (g:0<=i/\i<=j/\j<=(γ l:Int)) (h:W P n ops Q rest (dQ F d (str (sub l i j))) w):W P n ops Q (⟨θ d,.slice t x (θ y) (θ e) ι,ty,pos,after,ι⟩::rest) F w:=
 fE rfl rfl (NU l k k' i j f hx a b g) h
theorem oM{t:ω}(l:δ ζ)(k:Ε)(i:Int)(c:P.underlying t=θ .string)(hx:aX n F x=str l)(a:aX n F y=.int k i)
  (f:0<=i/\i<=γ l):(ς (aX n F) (⟨θ d,.slice t x (θ y) ι ι,ty,pos,after,ι⟩)).run P w=.ok (.value (str (l.drop i.toNat))) w:=by
 have e:=run_slice_string_l (w:=w) (t:=t) (s:=⟨l.toArray⟩) c k i f.1 f.2;simp only[ς,hx,a,str,Sem.run_bind,aj,Gd,run_sliceAt_string w t _ _ _ _ c,e,ByteArray.extract_mk];have g:(l.drop i.toNat).take ((⟨l.toArray⟩:ByteArray).size-i.toNat)=l.drop i.toNat:=eW (by show(l.drop i.toNat).length<=γ l-i.toNat;simp);rw[g];rfl
theorem oO(l:δ ζ)(k:Ε)(i:Int)(c:P.underlying t=θ .string)(hx:aX n F x=str l)(a:aX n F y=.int k i)
  (e:0<=i/\i<=(γ l:Int)) (h:W P n ops Q rest (dQ F d (str (l.drop i.toNat))) w):W P n ops Q (⟨θ d,.slice t x (θ y) ι ι,ty,pos,after,ι⟩::rest) F w:=
 fE rfl rfl (oM l k i c hx a e) h
theorem Kk{t:ω}(l:δ ζ)(k:Ε)(j:Int)(b:P.underlying t=θ .string)(hx:aX n F x=str l)(a:aX n F y=.int k j)
  (f:0<=j/\j<=γ l):(ς (aX n F) (⟨θ d,.slice t x ι (θ y) ι,ty,pos,after,ι⟩)).run P w=.ok (.value (str (l.take j.toNat))) w:=by
 have e:=run_slice_string_h (w:=w) (t:=t) (s:=⟨l.toArray⟩) b k j f.1 f.2;simp only[ς,hx,a,str,Sem.run_bind,aj,Gd,run_sliceAt_string w t _ _ _ _ b,e,ByteArray.extract_mk];rfl
theorem JQ(l:δ ζ)(k:Ε)(j:Int)(c:P.underlying t=θ .string)(hx:aX n F x=str l)(a:aX n F y=.int k j)
  (e:0<=j/\j<=(γ l:Int)) (h:W P n ops Q rest (dQ F d (str (l.take j.toNat))) w):W P n ops Q (⟨θ d,.slice t x ι (θ y) ι,ty,pos,after,ι⟩::rest) F w:=
 fE rfl rfl (Kk l k j c hx a e) h
theorem JO(k k':Ε)(s:Int)(c:P.underlying t=θ (.int k'))(b:P.underlying a=θ (.int k))(hx:aX n F x=.int k' s):(ς (aX n F) (⟨θ d,.convert t a x,ty,pos,after,ι⟩)).run P w=.ok (.value (.int k (k.wrap s))) w:=by simp[ς,hx,convert,run_underlying c,run_underlying b,Conv.intToInt]
theorem tU(k k':Ε)(s:Int)(e:P.underlying t=θ (.int k'))(c:P.underlying a=θ (.int k))(hx:aX n F x=.int k' s)(b:k.wrap s=s):(ς (aX n F) (⟨θ d,.convert t a x,ty,pos,after,ι⟩)).run P w=.ok (.value (.int k s)) w:=by rw[JO k k' s e c hx,b]
theorem OC(k k':Ε)(s:Int)(e:P.underlying t=θ (.int k'))(c:P.underlying a=θ (.int k))(hx:aX n F x=.int k' s)(b:k.wrap s=s)(h:W P n ops Q rest (dQ F d (.int k s)) w):W P n ops Q (⟨θ d,.convert t a x,ty,pos,after,ι⟩::rest) F w:=
 fE rfl rfl (tU k k' s e c hx b) h
theorem SU(l:δ ζ)(b:P.underlying t=θ .string)(s:P.underlying a=θ .string)(hx:aX n F x=str l):(ς (aX n F) (⟨θ d,.convert t a x,ty,pos,after,ι⟩)).run P w=.ok (.value (str l)) w:=by simp[ς,hx,str,convert,run_underlying b,run_underlying s]
theorem x_eqb(f b:η)(e:P.underlying t=θ .bool)(hx:aX n F x=.bool f)(c:aX n F y=.bool b):(ς (aX n F) (⟨θ d,.binOp .eql t x y a,ty,pos,after,ι⟩)).run P w=.ok (.value (.bool (f==b))) w:=by simp[ς,hx,c,eqGuard,run_eql_bool _ _ _ _ e]
theorem x_neb(f b:η)(e:P.underlying t=θ .bool)(hx:aX n F x=.bool f)(c:aX n F y=.bool b):(ς (aX n F) (⟨θ d,.binOp .neq t x y a,ty,pos,after,ι⟩)).run P w=.ok (.value (.bool (!(f==b)))) w:=by simp[ς,hx,c,eqGuard,run_neq_bool _ _ _ _ e]
theorem Uc{i:Nat}(vs:Array ξ)(v:ξ)(hx:aX n F x=.tuple vs)(a:vs[i]? =θ v):(ς (aX n F) (⟨θ d,.extract x i,ty,pos,after,ι⟩)).run P w=.ok (.value v) w:=by simp[ς,hx,Instr.extract,a]
end
end
structure cB where
 own:Option Nat
 ok:Option Obj->Prop
def cB.holds(r:cB)(w:ο):Prop:=r.ok (r.own.bind λb=>w.heap[b]?)
def bA(b:Nat)(cs:δ ξ)(e:ω):cB:=⟨θ b,λo=>o=θ (.cells cs.toArray e (0,0))⟩
def row(v:ξ)(e:ω)(sz n:Nat)(b:δ ξ):cB:=
 ⟨v.ownBlock,λo=>γ b=n*sz/\((v=.slice ι 0 0/\n=0)\/
  ∃g cap a,v=.slice (θ ⟨g,0,ι⟩) n cap/\o=θ (.cells a e (0,0))/\n<=cap/\cap<=maxLen/\a.size=cap*sz/\a.toList.take (n*sz)=b)⟩
def gW(v:ξ)(n:Nat)(l:δ ζ):cB:=
 ⟨v.ownBlock,λo=>γ l=n/\∃g cap a e b,v=.slice (θ ⟨g,0,ι⟩) n cap/\o=θ (.cells a e b)/\n<=cap/\cap<=a.size/\a.toList.take n=l.map bt/\a.size<=b.1⟩
structure Hp (w0:ο) (S:List Nat) (L:List cB) (w:ο):Prop where
 os:w.os=w0.os
 tape:w.tape=w0.tape
 output:w.output=w0.output
 size:w0.heap.size<=w.heap.size
 below:∀k,k<w0.heap.size->k∉S->w.heap[k]? =w0.heap[k]?
 res:∀r∈L,r.holds w/\∀b,r.own=θ b->b<w.heap.size/\(w0.heap.size<=b\/b∈S)
 sep:L.Pairwise λr r'=>∀b,r.own=θ b->r'.own≠θ b
theorem Hp.refl(w:ο):Hp w [] [] w:=⟨rfl,rfl,rfl,dO _,λ_ _ _=>rfl,λ_ h=>by simp at h,List.Pairwise.nil⟩
variable {w a:ο}{L:δ cB}
theorem Hp.toBelow(h:Hp w [] L a):RowKit.Below w.heap.size w a:=⟨h.os,h.tape,h.output,h.size,λk c=>h.below k c aA3⟩
theorem Hp.Ag(h:RowKit.Below w.heap.size w a):Hp w [] [] a:=⟨h.os,h.tape,h.output,h.size,λk c _=>h.block k c,λ_ h=>by simp at h,List.Pairwise.nil⟩
theorem cB.holds_of{r:cB}(h:r.holds w)(c:∀b,r.own=θ b->a.heap[b]? =w.heap[b]?):r.holds a:=by
 unfold cB.holds at*;cases d:r.own with
 |none=>simpa [d] using h
 |some b=>simpa [d,c b d] using h
variable {S:δ Nat}{b:δ cB}
theorem Hp.sub(h:Hp w S L a)(d:b.Sublist L):Hp w S b a:=
 ⟨h.os,h.tape,h.output,h.size,h.below,λr c=>h.res r (d.subset c),h.sep.sublist d⟩
theorem Hp.nil(h:Hp w S L a):Hp w S [] a:=h.sub (List.nil_sublist _)
theorem Hp.perm(h:Hp w S L a)(c:L.Perm b):Hp w S b a:=
 ⟨h.os,h.tape,h.output,h.size,h.below,λr e=>h.res r (c.symm.subset e),c.pairwise h.sep (λh g f d=>h g d f)⟩
theorem Hp.lX{w':ο}(h:Hp w S L a)(c:Hp a [] b w'):Hp w S (b++L) w':=by
 have d:∀n,n<a.heap.size->w'.heap[n]? =a.heap[n]? :=λn d=>c.below n d aA3;refine⟨c.os.trans h.os,c.tape.trans h.tape,c.output.trans h.output,oF h.size c.size,λk g j=> ?_,λr i=> ?_, ?_⟩
 ·rw[d k (SS g h.size)];exact h.below k g j
 ·rcases aV.1 i with i|i
  ·refine⟨(c.res r i).1,λn e=> ?_⟩;have:=(c.res r i).2 n e;simp at this;exact⟨this.1,.inl (oF h.size this.2)⟩
  ·refine⟨cB.holds_of (h.res r i).1 λn e=>d n ((h.res r i).2 n e).1,λn e=> ?_⟩;have:=(h.res r i).2 n e;exact⟨SS this.1 c.size,this.2⟩
 ·refine dF.2 ⟨c.sep,h.sep,λr i r' f n e e'=> ?_⟩;have l:=(c.res r i).2 n e;have m:=(h.res r' f).2 n e';simp at l;omega
theorem Hp.call{w':ο}(h:Hp w S L a)(c:Hp a [] [] w'):Hp w S L w':=h.lX c
theorem Hp.change{w':ο}(h:Hp w S L a)(k:Nat)(r r':cB)(D:L[k]? =θ r)(N:w'.os=a.os)(K:w'.tape=a.tape)(J:w'.output=a.output)
  (F:a.heap.size<=w'.heap.size) (H:∀j,j<a.heap.size->θ j≠r.own->w'.heap[j]? =a.heap[j]?) (M:r'.holds w')
  (C:∀b,r'.own=θ b->(r.own=θ b\/a.heap.size<=b)/\b<w'.heap.size):Hp w S (L.set k r') w':=by
 have n:r∈L:=aI D;have u:k<γ L:=(aF.1 D).1;have m:∀x,x∈L.eraseIdx k->∀b,x.own=θ b->r.own≠θ b:=by
  intro x hx b s t;obtain⟨j,c,P,q⟩:∃j,∃(c:j<γ L),j≠k/\L[j]=x:=by rw[iN]at hx;obtain⟨j,c,P,e⟩:=hx;exact⟨j,c,P,e⟩
  have v:L[k]=r:=(aF.1 D).2;have B:=eE.1 h.sep;rcases tQ j k with G|G
  ·exact B j k c u G b (by rw[q];exact s) (by rw[v];exact t)
  ·exact B k j u c aA0 b (by rw[v];exact t) (by rw[q];exact s)
 have d:∀x,x∈L.set k r'->x=r'\/x∈L.eraseIdx k:=by
  intro x hx;obtain⟨j,c,e⟩:=List.getElem_of_mem hx;by_cases P:j=k
  ·subst P;left;simpa using e.symm
  ·right;rw[iN];refine⟨j,aC8,P, ?_⟩;rw[mO (λe=>P e.symm)]at e;exact e
 have f:∀x∈L.eraseIdx k,∀b,x.own=θ b->w'.heap[b]? =a.heap[b]? :=λx hx b e=>
  H b ((h.res x (CI hx)).2 b e).1 (λe'=>m x hx b e e'.symm)
 refine⟨N.trans h.os,K.trans h.tape,J.trans h.output,oF h.size F,λj c I=> ?_,λx hx=> ?_, ?_⟩
 ·rw[H j (SS c h.size) (λe=> ?_)];exact h.below j c I;have:=((h.res r n).2 j e.symm).2;rcases this with l|l
  ·omega
  ·exact I l
 ·rcases d x hx with rfl|hx
  ·refine⟨M,λb e=>⟨(C b e).2, ?_⟩⟩;rcases(C b e).1 with l|l
   ·exact((h.res r n).2 b l).2
   ·exact .inl (oF h.size l)
  ·have p:=CI hx;exact⟨cB.holds_of (h.res x p).1 (f x hx),λb e=>⟨SS ((h.res x p).2 b e).1 F,((h.res x p).2 b e).2⟩⟩
 ·have o:∀x∈L.eraseIdx k,∀b,r'.own=θ b->x.own≠θ b:=by
   intro x hx b e e';rcases(C b e).1 with l|l
   ·exact m x hx b e' l
   ·have:=((h.res x (CI hx)).2 b e').1;omega
  have B:=eE.1 h.sep;refine eE.2 λi j O c E b=> ?_;have A:i<γ L:=by simpa using O
  have z:j<γ L:=aC8;by_cases g:i=k
  ·subst g;have y:j≠i:=by omega
   rw[List.getElem_set_self,mO (λe=>y e.symm)];intro e;exact o _ (by rw[iN];exact⟨j,z,y,rfl⟩) b e
  ·by_cases P:j=k
   ·subst P;rw[List.getElem_set_self,mO (λe=>g e.symm)];intro e e';exact o _ (by rw[iN];exact⟨i,A,g,rfl⟩) b e' e
   ·rw[mO (λe=>g e.symm),mO (λe=>P e.symm)];exact B i j A z E b
theorem Hp.alloc{w0 w:ο}{S:δ Nat}{L:δ cB}(h:Hp w0 S L w)(cs:δ ξ)(e:ω):Hp w0 S (bA w.heap.size cs e::L) (w.alloc (.cells cs.toArray e (0,0))):=by
 have d:Hp w [] [bA w.heap.size cs e] (w.alloc (.cells cs.toArray e (0,0))):=by
  refine⟨rfl,rfl,rfl,aA3,λk c _=>RowKit.Below.heap_alloc w _ k c,λr a=> ?_,aA3⟩;simp at a;subst a;refine⟨?_,λb e=> ?_⟩
  ·show(w.heap.push _)[w.heap.size]? =_;simp
  ·simp[bA]at e;subst e;simp
 exact h.lX d
theorem Hp.dV(h:Hp w S L a)(k:Nat){b:Nat}{cs:δ ξ}{e:ω}(c:L[k]? =θ (bA b cs e)):
  a.heap[b]? =θ (.cells cs.toArray e (0,0)):=(h.res _ (aI c)).1
section
variable {P:Β}{n:Md}{ops:Array Α}{Q:Exit->Act->ο->Prop}{F:Nat->ξ}{w w0:ο}{S:δ Nat}{L:δ cB}
variable {d:Nat}{ty:ω}{pos:String}{after:Array Edge}{rest:δ Α}
theorem lH{o:Α}(g:Hp w0 S L w)(cs:δ ξ)(e:ω)(V:Nat->ξ)(c:o.guard=ι)(f:o.dst=θ d)
  (a:(ς (aX n F) o).run P w=.ok (.value (V w.heap.size)) (w.alloc (.cells cs.toArray e (0,0))))
  (h:∀b w',Hp w0 S (bA b cs e::L) w'->W P n ops Q rest (dQ F d (V b)) w'):W P n ops Q (o::rest) F w:=
 fE c f a (h _ _ (g.alloc cs e))
variable {a:δ ξ}{t:ω}
theorem bla{b off:Nat}{e:Nat×Nat}(h:w.heap[b]? =θ (.cells a.toArray t e)):w.cell? ⟨b,off,ι⟩=a[off]? :=by simp[World.cell?,h]
variable {x:χ}
theorem nX(i:Hp w0 S L w)(k b off:Nat)(cs:δ ξ)(e:ω)(v:ξ)(f:L[k]? =θ (bA b cs e))(c:cs[off]? =θ v)
  (hx:aX n F x=.pointer (θ ⟨b,off,ι⟩)) (g:(isAgg t).run P w=.ok ν w) (h:W P n ops Q rest (dQ F d v) w):
  W P n ops Q (⟨θ d,.load t x,ty,pos,after,ι⟩::rest) F w:=by
 refine fE (w':=w) rfl rfl ?_ h;have a:=bla (off:=off) (i.dV k f);rw[c]at a;simp[ς,hx,Instr.loadAt,Instr.sureAddr,loadVar,g,a]
theorem SI(b off i:Nat):(⟨b,off,ι⟩:Γ).add i=⟨b,off+i,ι⟩:=by
 unfold Addr.add;by_cases a:i=0
 ·subst a;simp
 ·simp[a]
theorem vQ(r:Hp w0 S L w)(k b off m:Nat)(cs vs:δ ξ)(e:ω)(l:L[k]? =θ (bA b cs e))(f:(cs.drop off).take m=vs)(i:γ vs=m)
  (hx:aX n F x=.pointer (θ ⟨b,off,ι⟩)) (q:(isAgg t).run P w=.ok μ w) (g:(sizeOf t).run P w=.ok m w) (h:W P n ops Q rest (dQ F d (.agg vs.toArray)) w):
  W P n ops Q (⟨θ d,.load t x,ty,pos,after,ι⟩::rest) F w:=by
 refine fE (w':=w) rfl rfl ?_ h;have p:=r.dV k l;have o:(loadCells ⟨b,off,ι⟩ m).run P w=.ok vs.toArray w:=by
  rw[<-i];refine run_loadCells_list w _ vs λj v a=> ?_;rw[SI,bla p];rw[<-f]at a;have c:j<m:=by have:=(aF.1 a).1;simp at this;omega
  rw[bQ,aB c,bU]at a;exact a
 simp[ς,hx,Instr.loadAt,Instr.sureAddr,loadVar,q,g,o]
def Qk(cs:δ ξ)(off:Nat)(vs:δ ξ):δ ξ:=cs.take off++vs++cs.drop (off+γ vs)
theorem Hp.stored{k b off:Nat}{vs:δ ξ}(g:Hp w0 S L w)(f:L[k]? =θ (bA b a t))(h:off+γ vs<=γ a)(i:∀v∈vs,v.oneCell'=μ):
  ∃w',(storeCells ⟨b,off,ι⟩ vs).run P w=.ok () w'/\Hp w0 S (L.set k (bA b (Qk a off vs) t)) w':=by
 have d:=g.dV k f;have e:=run_storeCells_at P b off t vs 0 a.toArray w d aA8 i;refine⟨_,e,g.change k _ _ f rfl rfl rfl aA3 (λj l c=>setRow_other w b j _ (λt=>c (by simp[bA,t]))) ?_ ?_⟩
 ·show(w.setRow b _).heap[b]? =_;rw[setRow_heap w b a.toArray _ t _ d];simp[Qk]
 ·intro b' e';simp[bA]at e';subst e';refine⟨.inl rfl, ?_⟩;have:=(cF.1 d).1;simpa using this
theorem lO{y:χ}(q:Hp w0 S L w)(k b off:Nat)(cs:δ ξ)(e:ω)(v:ξ)(g:δ cB)(o:L[k]? =θ (bA b cs e))(m:off<γ cs)
  (hx:aX n F x=.pointer (θ ⟨b,off,ι⟩)) (i:aX n F y=v) (f:v.oneCell'=μ) (j:(sizeOf t).run P w=.ok 1 w) (p:L.set k (bA b (cs.set off v) e)=g)
  (h:∀w',Hp w0 S g w'->W P n ops Q rest F w'):
  W P n ops Q (⟨ι,.store t x y,ty,pos,after,ι⟩::rest) F w:=by
 have a:v.cells= #[v]:=by cases v<;>first|rfl|simp[Value.oneCell']at f
 obtain⟨w',l,c⟩:=q.stored (P:=P) (vs:=[v]) (off:=off) o aA2 aD5;have d:Qk cs off [v]=cs.set off v:=by unfold Qk;rw[zbI,aB m];simp
 rw[d,p]at c;refine oP (w':=w') rfl rfl ?_ (h w' c);simp[ς,hx,i,Instr.storeAt,Instr.sureAddr,storeVar,j,a,l]
theorem iI{y:χ}(m:Hp w0 S L w)(k b off:Nat)(cs vs:δ ξ)(e:ω)(c:δ cB)(j:L[k]? =θ (bA b cs e))(i:off+γ vs<=γ cs)
  (hx:aX n F x=.pointer (θ ⟨b,off,ι⟩)) (d:aX n F y=.agg vs.toArray) (o:vs.all (·.oneCell')=μ) (f:(sizeOf t).run P w=.ok (γ vs) w) (l:L.set k (bA b (Qk cs off vs) e)=c)
  (h:∀w',Hp w0 S c w'->W P n ops Q rest F w'):
  W P n ops Q (⟨ι,.store t x y,ty,pos,after,ι⟩::rest) F w:=by
 obtain⟨w',g,a⟩:=m.stored (P:=P) j i (by simpa using o);rw[l]at a;refine oP (w':=w') rfl rfl ?_ (h w' a);simp[ς,hx,d,Instr.storeAt,Instr.sureAddr,storeVar,f,Value.cells,g]
end
open List renaming replicate → iZ
open Nat renaming beq → cU, blt → fL
open _root_.Array renaming replicate → IY
section
variable {P:Β}{ops:Array Α}{Q:Exit->Act->ο->Prop}{md:Region.Mode}{S:Nat->ο->ο->Prop}
def eL(D:δ Nat)(f:ο->Prop)(j:Nat)(w w':ο):Prop:=D.contains j=ν->f w->f w'
variable {D:δ Nat}{f:ο->Prop}{k:Nat}{w:ο}
theorem eL.same:eL D f k w w:=λ_ h=>h
theorem eL.out{w':ο}(h:D.contains k=μ):eL D f k w w':=λa=>by rw[h]at a;cases a
theorem eL.new{w':ο}(h:f w'):eL D f k w w':=λ_ _=>h
def zB(P:Β)(md:Region.Mode)(ops:Array Α)(Q:Exit->Act->ο->Prop)(S:Nat->ο->ο->Prop)(k:Nat)(Z:Act->ο->Prop):Nat->Array η->Act->ο->Prop
 |0,listed,a,w=>Region.seqB md ops (ops.size-k) k listed=μ/\Z a w
 |f+1,listed,a,w=>Ζ md ops listed≠[]/\∀i∈Ζ md ops listed,i<k/\wpOp P ops Q i (λa' w'=>S i w w'/\zB P md ops Q S k Z f (listed.setIfInBounds i μ) a' w') a w
theorem Zn{k:Nat}{Z:Act->ο->Prop}(d:k<=ops.size)(c:∀a w,Z a w->wpList P ops Q (ops.toList.drop k) a w):
  ∀f listed a w,zB P md ops Q S k Z f listed a w->wpAny P md ops Q (f+(ops.size-k)) listed a w
 |0,listed,a,w,h=>by have b:γ (ops.toList.drop k)=ops.size-k:=aA3;have:=wpAny_of_seq (Q':=Q) (ops.toList.drop k) k listed a w (λj=>by simp) (by rw[b];exact h.1) (c a w h.2);rw[b]at this;rw[Jd];exact this
 |f+1,listed,a,w,h=>by rw[show f+1+(ops.size-k)=(f+(ops.size-k))+1 by omega];exact⟨λg=>absurd g h.1,λi e=>wpOp_mono (λa' w' l=>Zn d c f _ a' w' l.2) (h.2 i e).2⟩
def Pu(md:Region.Mode)(ops:Array Α)(i:Nat)(D:δ Nat):η:=
 D.all λj=>match ops[j]? with
  |some o=>o.after.any λe=>Region.binds md e&&fL e.on j&&(cU e.on i||D.contains e.on)
  |none=>μ
variable {i:Nat}{a:Array η}
theorem Tl(q:Pu md ops i D=μ)(c:HeadInv md ops k a)(g:a.getD i μ=ν):∀j,j∈D->j<ops.size->a.getD j μ=ν:=by
 intro j;induction j using Nat.strongRecOn with
 |_ j n=>
  intro o b;cases m:a.getD j ν with
  |false=>exact getD_in (by rw[c.size];exact b) m
  |true=>
   have l:=aT.1 q j o;rw[gB b]at l;simp only[Array.any_eq_true']at l;obtain⟨e,p,f⟩:=l;simp only[lA,YO]at f;have s:=c.closed j ops[j] (gB b) m e p f.1.1;rcases f.2 with h|h
   ·rw[gR h]at s;have:=getD_both g;rw[this]at s;cases s
   ·have d:e.on<j:=by simpa [iV] using f.1.2
    have r:=n e.on d aA8 aA0;have:=getD_both r;rw[this]at s;cases s
theorem Pt{j:Nat}(p:Pu md ops i D=μ)(g:HeadInv md ops k a)(b:a.getD i μ=ν)(r:j∈Ζ md ops a):j∉D:=by
 intro h;obtain⟨o,u,c,d⟩:=mem_ready.1 r;have q:=(cF.1 c).1;have m:=aT.1 p j h;rw[c]at m;simp only[Array.any_eq_true']at m;obtain⟨e,s,f⟩:=m;simp only[lA,YO]at f;have v:=d e s f.1.1;rcases f.2 with l|l
 ·rw[gR l,getD_both b]at v;cases v
 ·have n:e.on<j:=by simpa [iV] using f.1.2
  have t:=Tl p g b e.on aE7 aA0;rw[getD_both t]at v;cases v
theorem US{Z:Act->ο->Prop}{oi:Α}{v:ξ}(Si:ο->Prop)(D:δ Nat)(hD:Pu md ops i D=μ)(R:∀j w w',S j w w'->eL D Si j w w')(O:ops[i]? =θ oi)(s:∀(j:Nat) o cs b,ops[j]? =θ o->o.op≠.select cs b)
  (hQ:∀c a w,Q (.panic c) (a.put oi.dst v) w->Q (.panic c) a w) (Y:i<k)
  (l:∀listed:Array η,HeadInv md ops k listed->listed.getD i μ=ν->∀t,k<=t->t∉Ζ md ops listed):
  ∀f listed a w,HeadInv md ops k listed->
   (∀j z,ops[j]? =θ z->j≠i->listed.getD j μ=ν->(∀e∈z.after,Region.binds md e=μ->e.on≠i)->oi.apart ops z=μ)->
   i∈Ζ md ops listed->YieldsIf P ops Si oi v a->Si w->(∀j w,S j w w)->
   zB P md ops Q S k Z f (listed.setIfInBounds i μ) (a.put oi.dst v) w->zB P md ops Q S k Z (f+1) listed a w:=by
 intro f;induction f with
 |zero=>
  intro listed a w n g u G I r H;have p:=(mem_ready.1 u).1;refine⟨λT=>(by rw[T]at u;cases u),λj y=> ?_⟩
  have q:j<k:=by
   rcases tQ j k with h|h
   ·exact h
   ·exact absurd y (l listed n p j h)
  by_cases d:j=i
  ·subst d;exact⟨q,G.wpOp O I ⟨r _ _,H⟩⟩
  ·have U:=seqB_ready H.1 j (ready_mono y d);omega
 |succ f W=>
  intro listed a w n g u G I r H;have p:=(mem_ready.1 u).1;refine⟨λT=>(by rw[T]at u;cases u),λj y=> ?_⟩
  have q:j<k:=by
   rcases tQ j k with h|h
   ·exact h
   ·exact absurd y (l listed n p j h)
  by_cases d:j=i
  ·subst d;exact⟨q,G.wpOp O I ⟨r _ _,H⟩⟩
  ·have U:=(H.2 j (ready_mono y d)).2;have N:=Pt hD n p y;obtain⟨x,z,A,F⟩:=mem_ready.1 y;have C:∀e∈z.after,Region.binds md e=μ->e.on≠i:=λe he hb heq=>by have K:=F e he hb;rw[heq,getD_both p]at K;cases K
   have K:=wpOp_putIf A (g j z A d x C) (λcs b=>s i oi cs b O) (λcs b=>s j z cs b A) hQ G U;refine⟨q,wpOp_mono (λa' w' J=>⟨J.2.1,W _ a' w' (n.set y q) (λm V X M B L=>g m V X M ?_ L) (ready_mono u (Ne.symm d)) J.1 (R j _ w' J.2.1 (by simpa using N) I) r ?_⟩) K⟩
   ·by_cases E:j=m
    ·subst E;exact x
    ·rw[getD_set_ne μ E]at B;exact B
   ·rw[Array.setIfInBounds_comm _ _ d];exact J.2.2
def Fq(ops:Array Α)(k:Nat):η:=Region.noSelect ops&&decide (k<=ops.size)&&(decide (k=ops.size)||(Region.sinkB .any ops k&&Region.chainB .any ops k))
theorem rO(h:Fq ops k=μ)(c:i<k):∀listed:Array η,HeadInv .any ops k listed->listed.getD i μ=ν->∀t,k<=t->t∉Ζ .any ops listed:=by
 intro listed a b t g f;simp only[Fq,lA,YO,aW]at h;have e:t<ops.size:=by obtain⟨_,o,j,_⟩:=mem_ready.1 f;exact(cF.1 j).1
 rcases h.2 with d|d
 ·omega
 ·exact tail_waits d.1 d.2 aA0 a _ i rfl c b t g f
end
section
variable {P:Β}{kn:Nat}{kD:δ Deferred}{ops:Array Α}{Q:Exit->Act->ο->Prop}{S:Nat->ο->ο->Prop}{Si:ο->Prop}{F:Nat->ξ}{w:ο}
def IP(Q:Exit->Act->ο->Prop):Prop:=∀c a w,¬Q (.panic c) a w
def R(P:Β)(n:Md)(ops:Array Α)(Q:Exit->Act->ο->Prop)(S:Nat->ο->ο->Prop)(k f:Nat)(listed:δ η)(F:Nat->ξ)(w:ο):Prop:=
 HeadInv .any ops k listed.toArray->(∀j w,S j w w)->IP Q->zB P .any ops Q S k (λa w=>wpList P ops Q (ops.toList.drop k) a w) f listed.toArray (fr n F) w
def RK(P:Β)(n:Md)(ops:Array Α)(Q:Exit->Act->ο->Prop)(S:Nat->ο->ο->Prop)(k f:Nat)(listed:δ η)(i:Nat)(w:ο):Exit->Act->ο->Prop:=
 Exit.then (λa' w'=>∃a,a'=fr n a/\S i w w'/\R P n ops Q S k f listed a w') Q
variable {h:ο}{g:δ Nat}{L:δ cB}
theorem Hp.RL{w:ο}(l:Hp h g L w):Hp h g L {w with drawn:=w.drawn+1}:=
 ⟨l.os,l.tape,l.output,l.size,l.below,l.res,l.sep⟩
variable {k:Nat}
theorem lY{l:δ Α}(x:Nat)(S:Nat->ο->ο->Prop)(listed:δ η)(b:∀j w,S j w w)(m:P.follows .mixedOrders=μ)(f:Fq l.toArray x=μ)
  (p:Hp h g L w) (d:iZ (γ l) ν=listed) (o:IP Q) (u:∀w',Hp h g L w'->R P ⟨kn,kD,ι⟩ l.toArray Q S x x listed F w'):C P ⟨kn,kD,ι⟩ Q (.region k l.toArray μ) F w:=by
 unfold C CC;have n:x<=l.toArray.size:=by simp only[Fq,lA,aW]at f;exact f.1.2
 have c:HeadInv .any l.toArray x (IY l.toArray.size ν):=
  ⟨aA3,λj r _ d=>(by rw[getD_replicate_false]at d;cases d),λt _ i=>getD_in (by simpa using i) (getD_replicate_false _ _)⟩
 have e:listed.toArray=IY l.toArray.size ν:=by subst d;simp
 refine wp_region_any m ?_;have q:=u _ p.RL (by rw[e];exact c) b o;have s:=Zn n (λa w u=>u) x _ _ _ q;rw[e,show x+(l.toArray.size-x)=l.toArray.size by omega]at s;exact s
theorem ax{fn:Func}{d:ξ->ο->Prop}:IP (bodyPost P fn λe w'=>∃v,e=.returned v/\d v w'):=by intro c a w h;obtain⟨_,v,b,_⟩:=h;cases b
theorem IE{y:Code}(h:IP Q):IP (Fw P ⟨kn,kD,ι⟩ y Q):=by unfold Fw;exact h
theorem Fv(h:IP Q):IP (Exit.inBlock k Q):=h
theorem nC(h:IP Q):IP (Exit.noGoto Q):=h
variable {K:Act->ο->Prop}
theorem yD(h:IP Q):IP (Exit.then K Q):=h
variable {o:Α}{v:ξ}
theorem nY(c:o.guard=ι)(a:∀w,Si w->(ς (aX ⟨kn,kD,ι⟩ F) o).run P w=.ok (.value v) w):YieldsIf P ops Si o v (fr ⟨kn,kD,ι⟩ F):=
 .inl ⟨by simp[Region.wanted,c],λw b=>by rw[RY];exact a w b⟩
variable {c:ε Nat}{j:Op}{d:ω}{e:String}{b:Array Edge}{f:η}
theorem oJ(dg:Nat)
  (h:(ops[k]?).bind (·.dst)=θ dg) (g:fL dg kn=μ) (l:F dg=.bool f)
  (a:∀w,Si w->(ς (aX ⟨kn,kD,ι⟩ F) (⟨c,j,d,e,b,ι⟩)).run P w=.ok (.value v) w):YieldsIf P ops Si ⟨c,j,d,e,b,θ (k,f)⟩ v (fr ⟨kn,kD,ι⟩ F):=by
 refine .inl ⟨?_,λw m=> ?_⟩
 ·unfold Region.wanted;simp only[bfo (n:=⟨kn,kD,ι⟩) ops k dg h g,l];simp
 ·rw[RY];exact a w m
theorem y_gno(dg:Nat)
  (g:(ops[k]?).bind (·.dst)=θ dg) (a:fL dg kn=μ) (l:F dg=.bool (!f)):YieldsIf P ops Si ⟨c,j,d,e,b,θ (k,f)⟩ undef (fr ⟨kn,kD,ι⟩ F):=by
 refine .inr ⟨?_,rfl⟩;unfold Region.wanted;simp only[bfo (n:=⟨kn,kD,ι⟩) ops k dg g a,l];cases f<;>rfl
theorem y_gun(dg:Nat)
  (g:(ops[k]?).bind (·.dst)=θ dg) (a:fL dg kn=μ) (l:F dg=undef):YieldsIf P ops Si ⟨c,j,d,e,b,θ (k,f)⟩ undef (fr ⟨kn,kD,ι⟩ F):=by
 refine .inr ⟨?_,rfl⟩;unfold Region.wanted;simp only[bfo (n:=⟨kn,kD,ι⟩) ops k dg g a,l];simp[undef]
theorem oV(listed:δ η)(i:Nat):listed.toArray.setIfInBounds i μ=(listed.set i μ).toArray:=aA3
variable {i:Nat}{a:δ η}
theorem BW(b:δ η)(G d:Nat)(v:ξ)(D:δ Nat)(t:∀j w w',S j w w'->eL D Si j w w')(o:Α)(u:ops[G]? =θ o)(B:o.dst=θ d)(r:Fq ops k=μ)(E:Pu .any ops G D=μ)(m:Region.free .any ops a.toArray G=μ)
  (z:(Ζ .any ops a.toArray).contains G=μ) (s:fL G k=μ) (A:a.set G μ=b) (y:YieldsIf P ops Si o v (fr ⟨kn,kD,ι⟩ F)) (C:Si w)
  (h:R P ⟨kn,kD,ι⟩ ops Q S k i b (dQ F d v) w):R P ⟨kn,kD,ι⟩ ops Q S k (i+1) a F w:=by
 intro n e x;have g:G<k:=by simpa [iV] using s
 have q:G∈Ζ .any ops a.toArray:=by simpa using z
 have p:Region.noSelect ops=μ:=by simp only[Fq,lA]at r;exact r.1.1
 refine US Si D E t u (Region.noSelect_spec p) (λc f w h=>absurd h (x c _ w)) g (rO r g) i _ _ _ n (Region.free_spec u m) q y C e ?_;have l:=n.set q g;rw[oV,A]at l⊢;have:=h l e x;rw[<-kL,<-B]at this;exact this
theorem I9(f:δ η)(p d:Nat)(v:ξ)(o:Α)(l:ops[p]? =θ o)(n:o.dst=θ d)(g:Fq ops k=μ)(b:Region.free .any ops a.toArray p=μ)
  (j:(Ζ .any ops a.toArray).contains p=μ) (c:fL p k=μ) (m:a.set p μ=f) (e:YieldsIf P ops (λ_=>True) o v (fr ⟨kn,kD,ι⟩ F))
  (h:R P ⟨kn,kD,ι⟩ ops Q S k i f (dQ F d v) w):R P ⟨kn,kD,ι⟩ ops Q S k (i+1) a F w:=
 BW (Si:=λ_=>True) f p d v [] (λ_ _ _ _ _ _=>trivial) o l n g rfl b j c m e trivial h
theorem Mx{a:Act}(c:ops[k]? =θ o)(h:wpList P ops (Exit.then K Q) [o] a w):wpOp P ops Q k K a w:=by
 unfold wpOp;simp only[c];unfold wpList at h;split
 ·rename_i b;rw[aB b]at h;rcases h with h|h
  ·refine .inl ?_;generalize(ς a.eval o).run P w=r at*
   cases r with
   |ok x w'=>cases x<;>exact h
   |halt x w'=>cases x<;>exact h
  ·exact .inr h
 ·rename_i b;rw[aA b]at h;exact h
theorem xf(b:δ η)(t:Nat)(o:Α)(m:ops[t]? =θ o)(n:a.set t μ=b)(g:HeadInv .any ops k a.toArray)(d:∀j w,S j w w)(r:IP Q)
  (l:t∈Ζ .any ops a.toArray) (e:t<k) (h:W P ⟨kn,kD,ι⟩ ops (RK P ⟨kn,kD,ι⟩ ops Q S k i b t w) [o] F w):
  t<k/\wpOp P ops Q t (λa' w'=>S t w w'/\zB P .any ops Q S k (λf w=>wpList P ops Q (ops.toList.drop k) f w) i (a.toArray.setIfInBounds t μ) a' w') (fr ⟨kn,kD,ι⟩ F) w:=by
 refine⟨e, ?_⟩;have c:=g.set l e;rw[oV,n]at c⊢;unfold W WR RK at h;refine wpOp_mono ?_ (Mx m h);rintro a' w' ⟨s,rfl,p,q⟩;exact⟨p,q c d r⟩
theorem J0(f:δ η)(p:Nat)(o:Α)(l:ops[p]? =θ o)(d:Ζ .any ops a.toArray=[p])(e:fL p k=μ)(m:a.set p μ=f)
  (h:W P ⟨kn,kD,ι⟩ ops (RK P ⟨kn,kD,ι⟩ ops Q S k i f p w) [o] F w):R P ⟨kn,kD,ι⟩ ops Q S k (i+1) a F w:=by
 intro c b n;refine⟨by rw[d];simp,λj g=> ?_⟩;rw[d]at g;obtain rfl:j=p:=aE1;exact xf f j o l m c b n (by rw[d];simp) (by simpa [iV] using e) h
theorem oZ{l:Nat}(f:S l h w)(m:R P ⟨kn,kD,ι⟩ ops Q S k i a F w):RK P ⟨kn,kD,ι⟩ ops Q S k i a l h .normal (fr ⟨kn,kD,ι⟩ F) w:=⟨F,rfl,f,m⟩
theorem kF(l:Region.seqB .any ops (ops.size-k) k a.toArray=μ)(h:W P ⟨kn,kD,ι⟩ ops Q (ops.toList.drop k) F w):R P ⟨kn,kD,ι⟩ ops Q S k 0 a F w:=by intro _ _ _;unfold W WR at h;exact⟨l,h⟩
end
attribute [irreducible] R RK
open Go.Value renaming ownBlock → Cs
open List renaming drop → cC, take → eZ
open Nat renaming blt → fL
open UInt8 renaming ofNat → qK
open _root_.Array renaming replicate → IY
def ea(a:ε Γ)(j:Nat):Γ:=match a with
 |some p=>p.add j
 |none=>⟨0,j,ι⟩
theorem add_add(p:Γ)(j k:Nat):(p.add j).add k=p.add (j+k):=by
 unfold Addr.add;by_cases b:j=0
 ·subst b;simp
 ·by_cases a:k=0
  ·subst a;simp
  ·simp[b,a,Ct]
theorem ME(a:ε Γ)(j k:Nat):(ea a j).add k=ea a (j+k):=by
 cases a with
 |none=>exact SI 0 j k
 |some p=>exact add_add p j k
def Rd(w:ο)(a:ε Γ)(b:δ ξ):Prop:=∀j v,b[j]? =θ v->∃p,a=θ p/\w.cell? (p.add j)=θ v
variable {w:ο}{p:Γ}{v:ξ}
theorem Bv(h:w.cell? p=θ v):p.block<w.heap.size:=by
 unfold World.cell? at h;cases a:w.heap[p.block]? with
 |none=>simp[a]at h
 |some o=>exact(cF.1 a).1
theorem bjx(p:Γ)(j:Nat):(p.add j).block=p.block:=by unfold Addr.add;split<;>rfl
variable {b:ο}
theorem Xd(h:b.heap[p.block]? =w.heap[p.block]?):b.cell? p=w.cell? p:=by simp only[World.cell?,h]
variable {a:ε Γ}{c:δ ξ}
theorem Rd.mono(h:Rd w a c)(f:∀g,g<w.heap.size->b.heap[g]? =w.heap[g]?):Rd b a c:=by intro j v e;obtain⟨p,hp,d⟩:=h j v e;refine⟨p,hp, ?_⟩;rw[Xd (f _ (Bv d))];exact d
variable {L:δ cB}
theorem Rd.hp(h:Rd w a c)(e:Hp w [] L b):Rd b a c:=h.mono λf d=>e.below f d aA3
variable {S:δ Nat}
theorem Rd.hpS(h:Rd w a c)(i:Hp w S L b)(k:∀p,a=θ p->p.block∉S):Rd b a c:=by
 intro j v f;obtain⟨p,hp,e⟩:=h j v f;refine⟨p,hp, ?_⟩;have d:=Bv e;rw[bjx]at d;have g:b.heap[(p.add j).block]? =w.heap[(p.add j).block]? :=by rw[bjx];exact i.below _ d (k p hp)
 rw[Xd g];exact e
theorem Rd.nil(w:ο)(a:ε Γ):Rd w a []:=λj v h=>by simp at h
theorem Rd.some_(h:Rd w a c)(b:0<γ c):a≠ι:=by obtain⟨p,hp,_⟩:=h 0 c[0] aA3;rw[hp];simp
theorem Rd.take{w:ο}{a:ε Γ}{c:δ ξ}(h:Rd w a c)(k:Nat):Rd w a (c.take k):=by
 intro j v b;rw[bQ]at b;split at b
 ·exact h j v b
 ·cases b
theorem Rd.drop{w:ο}{p:Γ}{a:δ ξ}(h:Rd w (θ p) a)(k:Nat):Rd w (θ (p.add k)) (a.drop k):=by intro j v b;rw[bU]at b;obtain⟨q,c,d⟩:=h _ v b;simp at c;subst c;exact⟨_,rfl,by rw[add_add];exact d⟩
variable {m e:Nat}{l:δ ζ}
theorem Hp.dP(h:Hp w S L b)(k:Nat)(p:L[k]? =θ (gW (.slice a m e) m l)):Rd b a (l.map bt):=by
 obtain⟨t,_⟩:=h.res _ (aI p);obtain⟨jZ,g,i,f,x,u,c,n,o,r,d,q⟩:=t;intro j v y;obtain⟨rfl,rfl⟩:=c;refine⟨_,rfl, ?_⟩;rw[SI];have s:b.heap[g]? =θ (.cells f x u):=by simpa [gW,Cs] using n
 simp only[World.cell?,s];rw[<-d,bQ]at y;split at y
 ·simpa using y
 ·cases y
theorem Hp.gS(h:Hp w S L b)(k:Nat)(d:L[k]? =θ (bA m c e)):Rd b (θ ⟨m,0,ι⟩) c:=by intro j v a;refine⟨_,rfl, ?_⟩;rw[SI,bla (h.dV k d)];simpa using a
theorem Hp.hV(h:Hp w S L b)(k:Nat)(a:L[k]? =θ (gW v m l)):γ l=m:=(h.res _ (aI a)).1.1
theorem Hp.tail{r:cB}(h:Hp w S (r::L) b):Hp w S L b:=h.sub (List.sublist_cons_self r L)
def TI(P:Β)(e sz a:Nat):Prop:=(P.info? e).map (λi=>(i.zero.map (λz=>z.cells.size),i.size,i.bytes))=θ (θ sz,sz,a)
theorem TI.parts{P:Β}{a:Nat}(h:TI P m e a):∃i z,P.info? m=θ i/\i.zero=θ z/\i.size=e/\i.bytes=a/\z.cells.size=e:=by
 unfold TI at h;cases c:P.info? m with
 |none=>simp[c]at h
 |some i=>simp[c]at h;obtain⟨⟨z,d,b⟩,g,f⟩:=h;exact⟨i,z,rfl,d,g,f,b⟩
section
variable {P:Β}{n:Md}{ops:Array Α}{Q:Exit->Act->ο->Prop}{F:Nat->ξ}{w w0:ο}{S:δ Nat}{L:δ cB}
variable {d:Nat}{ty:ω}{pos:String}{after:Array Edge}{rest:δ Α}
variable {x:χ}{t:ω}
theorem pS(b off:Nat)(cs:δ ξ)(e:ω)(v:ξ)(f:w.heap[b]? =θ (.cells cs.toArray e (0,0)))(c:cs[off]? =θ v)
  (hx:aX n F x=.pointer (θ ⟨b,off,ι⟩)) (g:(isAgg t).run P w=.ok ν w):(ς (aX n F) (⟨θ d,.load t x,ty,pos,after,ι⟩)).run P w=.ok (.value v) w:=by
 have a:=bla (off:=off) f;rw[c]at a;simp[ς,hx,Instr.loadAt,Instr.sureAddr,loadVar,g,a]
theorem px(a:ε Γ)(c:δ ξ)(j:Nat)(v:ξ)(h:Rd w a c)(e:c[j]? =θ v)(hx:aX n F x=.pointer (θ (ea a j)))
  (g:(isAgg t).run P w=.ok ν w):(ς (aX n F) (⟨θ d,.load t x,ty,pos,after,ι⟩)).run P w=.ok (.value v) w:=by
 obtain⟨p,rfl,f⟩:=h j v e;have b:aX n F x=.pointer (θ (p.add j)):=hx;simp[ς,b,Instr.loadAt,Instr.sureAddr,loadVar,g,f]
theorem qb(b off m:Nat)(cs vs:δ ξ)(e:ω)(k:w.heap[b]? =θ (.cells cs.toArray e (0,0)))(f:(cs.drop off).take m=vs)(h:γ vs=m)
  (hx:aX n F x=.pointer (θ ⟨b,off,ι⟩)) (l:(isAgg t).run P w=.ok μ w) (g:(sizeOf t).run P w=.ok m w):
  (ς (aX n F) (⟨θ d,.load t x,ty,pos,after,ι⟩)).run P w=.ok (.value (.agg vs.toArray)) w:=by
 have i:(loadCells ⟨b,off,ι⟩ m).run P w=.ok vs.toArray w:=by
  rw[<-h];refine run_loadCells_list w _ vs λj v a=> ?_;rw[SI,bla k];rw[<-f]at a;have c:j<m:=by have:=(aF.1 a).1;simp at this;omega
  rw[bQ,aB c,bU]at a;exact a
 simp[ς,hx,Instr.loadAt,Instr.sureAddr,loadVar,l,g,i]
theorem pw(a:ε Γ)(e vs:δ ξ)(j m:Nat)(l:Rd w a e)(o:(e.drop j).take m=vs)(s:γ vs=m)(A:0<m)(hx:aX n F x=.pointer (θ (ea a j)))
  (y:(isAgg t).run P w=.ok μ w) (r:(sizeOf t).run P w=.ok m w):
  (ς (aX n F) (⟨θ d,.load t x,ty,pos,after,ι⟩)).run P w=.ok (.value (.agg vs.toArray)) w:=by
 have b:∀i v,vs[i]? =θ v->e[j+i]? =θ v:=by
  intro i v c;rw[<-o]at c;have g:i<m:=by have:=(aF.1 c).1;simp at this;omega
  rw[bQ,aB g,bU]at c;exact c
 have z:vs[0]? =θ (vs[0]' aA0):=aA3;obtain⟨p,rfl,_⟩:=l _ _ (b 0 _ z);have f:aX n F x=.pointer (θ (p.add j)):=hx;have u:(loadCells (p.add j) m).run P w=.ok vs.toArray w:=by rw[<-s];refine run_loadCells_list w _ vs λi v c=> ?_;obtain⟨q,k,h⟩:=l _ _ (b i v c);simp at k;subst k;rw[add_add];exact h
 simp[ς,f,Instr.loadAt,Instr.sureAddr,loadVar,y,r,u]
theorem Xz(a:ε Γ)(k c e:Nat)(b:P.underlying t=θ (.slice e))(hx:aX n F x=.slice a k c):
  (ς (aX n F) (⟨θ d,.call ⟨.builtin .len, #[x], #[t]⟩,ty,pos,after,ι⟩)).run P w=.ok (.value (.int .i64 k)) w:=by
 simp[ς,resolve,invoke,builtin,hx,Builtin.len_,run_underlying b,goInt]
variable {y:χ}
theorem ZD(a:ε Γ)(k c e sz:Nat)(q:Ε)(i:Int)(g:P.underlying t=θ (.slice e))(h:(sizeOf e).run P w=.ok sz w)(hx:aX n F x=.slice a k c)(j:aX n F y=.int q i)
  (f:0<=i/\i<k) (l:a≠ι):(ς (aX n F) (⟨θ d,.indexAddr t x y,ty,pos,after,ι⟩)).run P w=.ok (.value (.pointer (θ (ea a (i.toNat*sz))))) w:=by
 cases a with
 |none=>exact absurd rfl l
 |some p=>simp[ς,hx,j,Instr.indexAt,asIntOf,run_underlying g,h,f.1,f.2,ea]
variable {m f:Nat}
theorem qc(A:Γ)(off:Nat)(hx:aX n F x=.pointer (θ A))(a:(Instr.fieldAt m (.pointer (θ A)) f).run P w=.ok (.pointer (θ (A.add off))) w):
  (ς (aX n F) (⟨θ d,.fieldAddr m x f,ty,pos,after,ι⟩)).run P w=.ok (.value (.pointer (θ (A.add off)))) w:=by
 simp[ς,hx,a]
theorem Cu(a:ε Γ)(j off:Nat)(hx:aX n F x=.pointer (θ (ea a j)))(b:(Instr.fieldAt m (.pointer (θ (ea a j))) f).run P w=.ok (.pointer (θ ((ea a j).add off))) w):
  (ς (aX n F) (⟨θ d,.fieldAddr m x f,ty,pos,after,ι⟩)).run P w=.ok (.value (.pointer (θ (ea a (j+off))))) w:=by
 rw[qc _ off hx b,ME]
theorem Cw(a:ε Γ)(j off:Nat)(hx:aX n F x=.pointer (θ (ea a j)))(b:(Instr.fieldAt m (.pointer (θ (ea a j))) f).run P w=.ok (.pointer (θ ((ea a j).add off))) w)
  (h:W P n ops Q rest (dQ F d (.pointer (θ (ea a (j+off))))) w):W P n ops Q (⟨θ d,.fieldAddr m x f,ty,pos,after,ι⟩::rest) F w:=
 fE rfl rfl (Cu a j off hx b) h
variable {b:ω}
theorem Kq(C:Hp w0 S L w)(l:δ ζ)(e:ω)(z:P.underlying t=θ .string)(y:P.underlying b=θ (.slice e))(B:P.underlying e=θ (.int .u8))(hx:aX n F x=str l)
  (h:∀a cap w',(ς (aX n F) (⟨θ d,.convert t b x,ty,pos,after,ι⟩)).run P w=.ok (.value (.slice a (γ l) cap)) w'->Hp w0 S (gW (.slice a (γ l) cap) (γ l) l::L) w'->W P n ops Q rest (dQ F d (.slice a (γ l) cap)) w'):
  W P n ops Q (⟨θ d,.convert t b x,ty,pos,after,ι⟩::rest) F w:=by
 let cap:=Question.cut (.appendCap (γ l) 0 e) (w.tape w.drawn (.appendCap (γ l) 0 e));have g:γ l<=cap:=by show _<=_+_;omega
 let cells:Array ξ:=(l.toArray.map λs=>.int .u8 s.toNat)++IY (cap-γ l) (.int .u8 0);have o:cells.size=cap:=by simp[cells];omega
 let f:ο:={w with drawn:=w.drawn+1,heap:=w.heap.push (.cells cells e (cap,cap+1))}
 have c:(ς (aX n F) (⟨θ d,.convert t b x,ty,pos,after,ι⟩:Α)).run P w=.ok (.value (.slice (θ ⟨w.heap.size,0,ι⟩) (γ l) cap)) f:=by
  have E:(convert t b (str l)).run P w=(Conv.stringToBytes e ⟨l.toArray⟩).run P w:=by simp[convert,str,run_underlying z,run_underlying y,run_underlying B]
  have D:(Conv.stringToBytes e ⟨l.toArray⟩).run P w=.ok (.slice (θ ⟨w.heap.size,0,ι⟩) (γ l) cap) f:=by
   have eT:(⟨l.toArray⟩:ByteArray).size=γ l:=rfl;unfold Conv.stringToBytes markStringish;simp only[Sem.run_bind,eT];simp only[Sem.run_pure];show Result.andThen (Result.andThen (Result.ok (World.shape? {w with drawn:=w.drawn+1,heap:=w.heap.push _} w.heap.size) _) _) _=_;have j:World.shape? {w with drawn:=w.drawn+1,heap:=w.heap.push (.cells cells e (0,0))} w.heap.size=θ (e,cap):=by simp[World.shape?,o]
   rw[j];show Result.andThen (Result.ok () (World.freeze {w with drawn:=w.drawn+1,heap:=w.heap.push (.cells cells e _)} ⟨w.heap.size,cap,ι⟩ 1)) _=_;simp only[Result.andThen_ok,World.freeze];congr 1;refine bF (λh=>({w with drawn:=w.drawn+1,heap:=h}:ο)) ?_;apply bx
   ·simp
   ·intro i H p;have A:i<w.heap.size+1:=by simpa using p
    rw[Array.getElem_modify];by_cases u:w.heap.size=i
    ·subst u;simp
    ·have m:i<w.heap.size:=by omega
     simp[u,Array.getElem_push,m]
  simp[ς,hx,E,D]
 refine fE rfl rfl c (h _ _ _ c ?_);have p:Hp w [] [gW (.slice (θ ⟨w.heap.size,0,ι⟩) (γ l) cap) (γ l) l] f:=by
  refine⟨rfl,rfl,rfl,by simp[f],λk G _=> ?_,λr q=> ?_,aA3⟩
  ·show(w.heap.push _)[k]? =_;rw[Array.getElem?_push,aA aA0]
  ·simp at q;subst q;refine⟨⟨rfl,w.heap.size,cap,cells,e,(cap,cap+1),rfl, ?_,g,aA0, ?_,aA0⟩,λs v=> ?_⟩
   ·simp[gW,Cs,f]
   ·simp[cells,bt]
   ·simp[gW,Cs]at v;subst v;simp[f]
 exact C.lX p
theorem tV(g:Hp w0 S L w)(l:δ ζ)(e:ω)(c:P.underlying t=θ .string)(s:P.underlying b=θ (.slice e))(f:P.underlying e=θ (.int .u8))(hx:aX n F x=str l)
  (h:∀a cap w',Hp w0 S (gW (.slice a (γ l) cap) (γ l) l::L) w'->W P n ops Q rest (dQ F d (.slice a (γ l) cap)) w'):
  W P n ops Q (⟨θ d,.convert t b x,ty,pos,after,ι⟩::rest) F w:=Kq g l e c s f hx λa cap w' _=>h a cap w'
theorem lN(l:δ ζ)(a:ε Γ)(m cap:Nat)(e:ω)(h:Rd w a (l.map bt))(y:γ l=m)(o:P.underlying t=θ (.slice e))(k:P.underlying b=θ .string)(B:P.underlying e=θ (.int .u8))(hx:aX n F x=.slice a m cap):
  (ς (aX n F) (⟨θ d,.convert t b x,ty,pos,after,ι⟩)).run P w=.ok (.value (str l)) w:=by
 subst y;have D:(convert t b (.slice a (γ l) cap)).run P w=(Conv.bytesToString (.slice a (γ l) cap)).run P w:=by simp[convert,run_underlying o,run_underlying k,run_underlying B]
 have C:(Conv.bytesToString (.slice a (γ l) cap)).run P w=.ok (str l) w:=by
  cases a with
  |none=>
   have:l=[]:=by
    cases l with
    |nil=>rfl
    |cons c l=>obtain⟨p,u,_⟩:=h 0 (bt c) aA3;cases u
   subst this;rfl
  |some p=>
   have s:(loadCells p (γ l)).run P w=.ok ((l.map λc=>c.toNat).map (Δ .u8)).toArray w:=by have:=run_loadCells_list (P:=P) w p _ (λj v z=>by obtain⟨q,g,f⟩:=h j v z;simp at g;subst g;exact f);simp at this;rw[this];simp[bt]
   have:=run_bytesToString w p (γ l) cap _ s
   rw[this];unfold str;have A:∀(l:δ ζ) (r:ByteArray),(l.map λc=>(c.toNat:Int)).foldl (λr n=>r.push (qK n.toNat)) r=⟨r.data++l.toArray⟩:=by
    intro l;induction l with
    |nil=>intro r;simp
    |cons c l i=>intro r;simp;rw[i];simp
   rw[A];simp
 simp[ς,hx,D,C]
variable {a:ε Γ}{v:δ ξ}
theorem Hp.grown{w':ο}{a':ε Γ}{cap cap' e sz:Nat}{l:δ ξ}(C:Hp w0 S L w)(A:L[m]? =θ (row (.slice a f cap) e sz f v)){d:Nat}
  (h:w.grownBy w' (π a f cap).ownBlock) (u:w'.ownsRow 0 e sz (.slice a' d cap') d l) (y:∀p,a'=θ p->(∃q,a=θ q/\q.block=p.block)\/w.heap.size<=p.block):
  Hp w0 S (L.set m (row (.slice a' d cap') e sz d l)) w':=by
 have k:(row (.slice a' d cap') e sz d l).holds w':=by
  obtain⟨z,n⟩:=u;refine⟨z, ?_⟩;rcases n with n|⟨g,c,s,t,_,i,F,r,E,D⟩
  ·exact .inl n
  ·refine .inr ⟨g,c,s,t, ?_,F,r,E,D⟩;obtain⟨rfl,-,rfl⟩:=t;exact i
 refine C.change m _ _ A h.os h.tape h.output h.size (λj B o=>h.block j B (λe=>o aF6)) k ?_;intro b i;cases a' with
 |none=>simp[row,Cs]at i
 |some p=>
  simp[row,Cs]at i;subst i;refine⟨?_,(u.lt p.block rfl).2⟩;rcases y p rfl with⟨q,rfl,x⟩|r
  ·left;simp[row,Cs,x]
  ·exact .inr r
theorem Hp.ownsRow{a:ε Γ}{k m cap e sz:Nat}{f:δ ξ}(n:Hp w0 S L w)(j:L[k]? =θ (row (.slice a m cap) e sz m f)):w.ownsRow 0 e sz (.slice a m cap) m f:=by
 obtain⟨⟨i,b⟩,_⟩:=n.res _ (aI j);refine⟨i, ?_⟩;rcases b with b|⟨g,c,d,h,l,r,q,p,o⟩
 ·exact .inl b
 ·refine .inr ⟨g,c,d,h,cW _, ?_,r,q,p,o⟩;obtain⟨rfl,-,rfl⟩:=h;exact l
theorem OR{x:ε Γ}{k cx e sz D:Nat}{b:δ ξ}(t:ω)(E:P.underlying t=θ (.slice e))(hT:TI P e sz D)(eT:0<sz)(d:w.ownsRow 0 e sz (.slice a m f) m v)
  (K:Rd w x b) (A:γ b=k*sz) (Z:∀u∈b,u.oneCell'=μ) (I:m+k<=maxLen) (B:(m+k)*D<=140737488355328):
  ∃a' cap' w',(Builtin.append_ #[t,t] ty #[.slice a m f,.slice x k cx]).run P w=.ok (.slice a' (m+k) cap') w'/\w'.ownsRow 0 e sz (.slice a' (m+k) cap') (m+k) (v++b)/\
   w.grownBy w' (π a m f).ownBlock/\∀p,a'=θ p->(∃q,a=θ q/\q.block=p.block)\/w.heap.size<=p.block:=by
 obtain⟨i,z,F,M,U,Y,L⟩:=hT.parts;have T:∀{x},x=ι->Rd w x b->k=0/\b=[]:=by
  rintro _ rfl K
  have:b=[]:=by
   cases b with
   |nil=>rfl
   |cons u us=>obtain⟨p,n,_⟩:=K 0 u aA3;cases n
  subst this;refine⟨?_,rfl⟩;rcases Nat.eq_zero_or_pos k with h|h
  ·exact h
  ·have:=Xy h eT;simp at A;omega
 by_cases X:k=0
 ·
  subst X;have O:=Je (by simpa using A);subst O;refine⟨a,f,w, ?_,aD3,⟨rfl,rfl,rfl,dO _,λ_ _ _=>rfl⟩,λp n=>.inl ⟨p,n,rfl⟩⟩
  have a4:m+0<=f:=by
   rcases d.2 with⟨s,G⟩|⟨g,c,C,s,_,_,S,_⟩
   ·subst G;omega
   ·simp at s;omega
  have l:(Builtin.firstCells i.size 0 (.slice x 0 cx)).run P w=.ok #[] w:=by
   cases x with
   |none=>simp[Builtin.firstCells]
   |some p=>simp[Builtin.firstCells,loadCells,loadCellsFrom]
  have a2:∀q:Γ,(storeCells q []).run P w=.ok () w:=λq=>rfl;cases a with
  |none=>simp[Builtin.append_,run_underlying E,sizeOf,typeInfo,F,Builtin.lenOf,l];omega
  |some p=>have:m<=f:=aA0;simp[Builtin.append_,run_underlying E,sizeOf,typeInfo,F,Builtin.lenOf,this,l,storeCells]
 ·cases x with
  |none=>exact absurd (T rfl K).1 X
  |some p=>
   have a0:∀j u,b[j]? =θ u->w.cell? (p.add j)=θ u:=by intro j u hu;obtain⟨q,V,S⟩:=K j u hu;simp at V;subst V;exact S
   obtain⟨v',w',r,ho,hg,W⟩:=run_append_own w 0 t ty e i z sz D E F M U Y L eT _ m v d p k cx b A a0 Z I B (cW _);have N:∃a' cap',v'=.slice a' (m+k) cap'/\∀p,a'=θ p->(∃q,a=θ q/\q.block=p.block)\/w.heap.size<=p.block:=by
    subst U;subst Y;have J:((m+k):Int)<=9223372036854775807:=by simp only[maxLen]at I;omega
    rcases d.2 with⟨s,G⟩|⟨g,c,C,s,_,Q,S,_,R,_⟩
    ·simp at s;obtain⟨rfl,rfl,rfl⟩:=s;have:=run_append_nil (P:=P) w t ty e i z E F M p k cx b A a0 aA0 (by simpa using J) (by simp at B;omega);rw[this]at r;simp at r;refine⟨_,_,by rw[<-r.1,Jd],λp n=>.inr ?_⟩;simp at n;subst n;simp
    ·simp at s;obtain⟨rfl,-,rfl⟩:=s;by_cases o:m+k<=f
     ·have H:m*i.size+γ b<=C.size:=by rw[A,R,<-iL];exact YL _ o
      have:=run_append_room w t ty e i E F g m f C Q p k cx b A a0 Z o H;rw[this]at r;simp at r;refine⟨_,_,r.1.symm,λp n=>.inl ?_⟩;simp at n;subst n;exact⟨_,rfl,rfl⟩
     ·have y:=d.cells rfl;have:=run_append_grow w t ty e i z E F M _ m f v d.1 y p k cx b A a0 aA0 J (growslice_fits aA0 B);rw[this]at r;simp at r;refine⟨_,_,r.1.symm,λp n=>.inr ?_⟩;simp at n;subst n;simp
   obtain⟨a',cap',rfl,O⟩:=N;exact⟨a',cap',w',r,ho,hg,O⟩
theorem CT(j:Hp w0 S L w)(k:Nat)(a l:ε Γ)(m cap c cx e sz f:Nat)(g b:δ ξ)(i:L[k]? =θ (row (.slice a m cap) e sz m g))(p:P.underlying t=θ (.slice e))(B:TI P e sz f)(eT:0<sz)
  (hx:aX n F x=.slice a m cap) (o:aX n F y=.slice l c cx) (C:Rd w l b) (v:γ b=c*sz) (E:∀u∈b,u.oneCell'=μ) (A:(m+c)*f<=140737488355328) (D:m+c<=9223372036854775807)
  (h:∀a' cap' w',Hp w0 S (L.set k (row (.slice a' (m+c) cap') e sz (m+c) (g++b))) w'->W P n ops Q rest (dQ F d (.slice a' (m+c) cap')) w'):
  W P n ops Q (⟨θ d,.call ⟨.builtin .append, #[x,y], #[t,t]⟩,ty,pos,after,ι⟩::rest) F w:=by
 obtain⟨a',cap',w',q,r,z,s⟩:=OR (P:=P) (ty:=ty) (cx:=cx) t p B eT (j.ownsRow i) C v E aE5 A;refine fE (w':=w') rfl rfl ?_ (h a' cap' w' (j.grown i z r s));simp[ς,resolve,invoke,builtin,hx,o,q]
theorem cz(N:Hp w0 S L w)(e sz m:Nat)(kl v:Ε)(c:Int)(G:P.underlying t=θ (.slice e))(M:TI P e sz m)(hx:aX n F x=.int kl 0)(E:aX n F y=.int v c)
  (V:0<=c) (l:m*c<=281474976710656) (O:c<=9223372036854775807)
  (h:∀a cap w',Hp w0 S (row (.slice a 0 cap) e sz 0 []::L) w'->W P n ops Q rest (dQ F d (.slice a 0 cap)) w'):
  W P n ops Q (⟨θ d,.makeSlice t x y,ty,pos,after,ι⟩::rest) F w:=by
 obtain⟨i,z,K,D,H,p,C⟩:=M.parts;obtain⟨cn,rfl⟩:=Int.eq_ofNat_of_zero_le V;have q:i.bytes*cn<=281474976710656:=by rw[p];omega
 obtain⟨w',f,B,j⟩:=run_make_own w 0 t e i z sz G K D H kl v cn q (by simp only[maxLen];omega) (cW _);refine fE (w':=w') rfl rfl ?_ (h (θ ⟨w.heap.size,0,ι⟩) cn w' ?_)
 ·simp[ς,hx,E,f]
 ·have s:Hp w [] [row (.slice (θ ⟨w.heap.size,0,ι⟩) 0 cn) e sz 0 []] w':=by
   refine⟨j.os,j.tape,j.output,j.size,λk J _=>j.block k J aA3,λr f=> ?_,aA3⟩;simp at f;subst f;have o:=B.lt w.heap.size rfl;refine⟨?_,λb l=> ?_⟩
   ·obtain⟨I,f⟩:=B;refine⟨I, ?_⟩;rcases f with f|⟨g,c,u,A,_,l,U,s,T,R⟩
    ·exact .inl f
    ·refine .inr ⟨g,c,u,A, ?_,U,s,T,R⟩;obtain⟨⟨rfl,-⟩,-,rfl⟩:=A;exact l
   ·simp[row,Cs]at l;subst l;exact⟨o.2,.inl (dO _)⟩
  exact N.lX s
theorem Hp.C6{k e sz j:Nat}{vs:δ ξ}(B:Hp w0 S L w)(A:L[k]? =θ (row (.slice a m f) e sz m v))(O:j+γ vs<=γ v)(M:∀R∈vs,R.oneCell'=μ)(N:vs≠[]):
  ∃w',(storeCells (ea a j) vs).run P w=.ok () w'/\Hp w0 S (L.set k (row (.slice a m f) e sz m (Qk v j vs))) w':=by
 have z:=bL.2 N;obtain⟨h,E⟩:=B.ownsRow A;rcases E with⟨q,F⟩|⟨g,c,d,q,_,y,o,x,n,r⟩
 ·exfalso;subst F;rw[Nat.zero_mul]at h;omega
 ·simp at q;obtain⟨rfl,-,rfl⟩:=q;have D:γ v<=d.size:=by rw[h,n];exact YL _ o
  have s:=run_storeCells_at P g j e vs 0 d w y aA0 M;have u:ea (θ ⟨g,0,ι⟩) j=⟨g,j,ι⟩:=by show(⟨g,0,ι⟩:Γ).add j=_;rw[SI,Jd]
  rw[u];refine⟨_,s,B.change k _ _ A rfl rfl rfl aA3 (λi Q t=>setRow_other w g i _ (λe=>t (by simp[row,Cs,e]))) ?_ ?_⟩
  ·refine⟨by rw[<-h];unfold Qk;simp;omega,.inr ⟨g,f,(eZ (j+0) d.toList++vs++cC (j+0+γ vs) d.toList).toArray,rfl, ?_,o,x, ?_, ?_⟩⟩
   ·show(w.setRow g _).heap[g]? =_;rw[setRow_heap w g d _ e _ y]
   ·rw[<-n];simp;omega
   ·rw[<-h];have C:v=d.toList.take (γ v):=by rw[h];exact r.symm
    unfold Qk;rw[List.take_append,List.take_append];simp;have K:min j d.size=j:=aA0;rw[K];rw[Rb,eW (l:=vs) aA0];have J:min (γ v) j=j:=aA0;rw[J,List.take_drop];have I:j+γ vs+(γ v-(j+γ vs))=γ v:=aA0;rw[I];have H:eZ j v=eZ j d.toList:=by rw[C];rw[Rb,SR aA0]
    rw[H];have G:cC (j+γ vs) v=cC (j+γ vs) (eZ (γ v) d.toList):=by rw[<-C]
    rw[G]
  ·intro b p;simp[row,Cs]at p;subst p;refine⟨.inl (by simp[row,Cs]), ?_⟩;have:=(cF.1 y).1;simpa using this
theorem ZW(J:Hp w0 S L w)(k:Nat)(a:ε Γ)(m cap j:Nat)(l:δ ζ)(c:ζ)(I:L[k]? =θ (gW (.slice a m cap) m l))(R:j<m)
  (hx:aX n F x=.pointer (θ (ea a j))) (M:aX n F y=bt c) (N:(sizeOf t).run P w=.ok 1 w)
  (h:∀w',Hp w0 S (L.set k (gW (.slice a m cap) m (l.set j c))) w'->W P n ops Q rest F w'):W P n ops Q (⟨ι,.store t x y,ty,pos,after,ι⟩::rest) F w:=by
 obtain⟨⟨jZ,g,K,d,e,u,G,O,E,D,v,B⟩,H⟩:=J.res _ (aI I);simp at G;obtain⟨rfl,-,rfl⟩:=G;have s:w.heap[g]? =θ (.cells d e u):=by simpa [gW,Cs] using O
 have C:ea (θ ⟨g,0,ι⟩) j=⟨g,j,ι⟩:=by show(⟨g,0,ι⟩:Γ).add j=_;rw[SI,Jd]
 rw[C]at hx;have p:w.cell? ⟨g,j,ι⟩=θ (d[j]' aA0):=by simp only[World.cell?,s];have:j<d.size:=aA0;simp
 have o:w.frozen? ⟨g,j,ι⟩=ν:=by simp only[World.frozen?,s];have:¬u.1<=j:=aA0;simp[this]
 have z:(storeCells ⟨g,j,ι⟩ [bt c]).run P w=.ok () (w.setCell ⟨g,j,ι⟩ (bt c)):=by simp only[storeCells,Sem.run_bind,SI,Ru,store];simp only[Sem.run,bt,p,o];rfl
 have q:(w.setCell ⟨g,j,ι⟩ (bt c)).heap[g]? =θ (.cells (d.setIfInBounds j (bt c)) e u):=by simp[World.setCell,jR,s]
 refine oP (w':=w.setCell ⟨g,j,ι⟩ (bt c)) rfl rfl ?_ (h _ ?_)
 ·simp[ς,hx,M,Instr.storeAt,Instr.sureAddr,storeVar,N,bt,Value.cells];have f:=z;simp only[bt]at f;rw[f];rfl
 ·refine J.change k _ _ I rfl rfl rfl aA3 (λi T A=>RowKit.Below.heap_setCell w _ _ i (λe=>A (by simp[gW,Cs,e]))) ?_ ?_
  ·refine⟨by simpa using jZ,g,cap,_,e,u,rfl,q,E,by simpa using D, ?_,by simpa using B⟩;rw[List.map_set,<-v,<-List.take_set];simp
  ·intro b r;simp[gW,Cs]at r;subst r;refine⟨.inl (by simp[gW,Cs]), ?_⟩;have:=(cF.1 s).1;simpa [World.setCell] using this
end
theorem Ls{a:Type}{P:Β}{w:ο}(f:a->Sem ξ):∀(l:δ a) vs,γ l=γ vs->(∀(i:Nat) x v,l[i]? =θ x->vs[i]? =θ v->(f x).run P w=.ok v w)->(l.mapM f).run P w=.ok vs w
 |[],[],_,_=>by simp
 |[],_::_,h,_=>by simp at h
 |_::_,[],h,_=>by simp at h
 |x::l,v::vs,h,b=>by rw[List.mapM_cons];simp only[Sem.run_bind,b 0 x v rfl rfl,Result.andThen_ok];rw[Ls f l vs aA8 (λi y u c d=>b (i+1) y u aC8 aD3)];simp
def Xu(P:Β)(c:Nat)(F:Nat->ξ)(w:ο):ResultVar->ξ->Prop
 |.tmp t,v=>aX ⟨c,[],ι⟩ F (.tmp t)=v
 |.cell a t,v=>∃(b e:Nat) (cs:δ ξ),aX ⟨c,[],ι⟩ F (.tmp a)=.pointer (θ ⟨b,0,ι⟩)/\w.heap[b]? =θ (.cells cs.toArray e (0,0))/\
   (((isAgg t).run P w=.ok μ w/\(sizeOf t).run P w=.ok (γ cs) w/\v=.agg cs.toArray)\/((isAgg t).run P w=.ok ν w/\cs=[v]))
def iJ(tmps:Array ξ):ResultVar->Sem ξ
 |.tmp t=>pure (tmps.getD t undef)
 |.cell a t=>do loadVar t (<-asAddr (tmps.getD a undef))
variable {P:Β}{b:Nat}{F:Nat->ξ}{w:ο}{r:ResultVar}{v:ξ}
theorem et(h:Xu P b F w r v):(iJ (fr ⟨b,[],ι⟩ F).tmps r).run P w=.ok v w:=by
 unfold iJ;cases r with
 |tmp t=>have g:(bif fL t b then F t else undef)=v:=h;simp only[pE,g,Sem.run_pure]
 |cell a t=>
  obtain⟨d,e,cs,n,i,m⟩:=h;have g:(bif fL a b then F a else undef)=.pointer _:=n;simp only[pE,g,asAddr];rcases m with⟨f,o,rfl⟩|⟨f,rfl⟩
  ·have k:(loadCells ⟨d,0,ι⟩ (γ cs)).run P w=.ok cs.toArray w:=
    run_loadCells_list w _ cs λj u l=>by rw[SI,bla i,Jd];exact l
   simp[loadVar,f,o,k]
  ·have c:w.cell? ⟨d,0,ι⟩=θ v:=by rw[bla i];rfl
   simp[loadVar,f,c]
theorem rU{P:Β}{c:Nat}{F:Nat->ξ}{w:ο}{fn:Func}(l:δ ResultVar)(vs:δ ξ)(e:fn.results=l.toArray)(g:γ l=γ vs)
  (d:∀(i:Nat) x v,l[i]? =θ x->vs[i]? =θ v->Xu P c F w x v) (v:ξ) (a:(match vs with|[u]=>u|b=>.tuple b.toArray)=v):
  (results fn (fr ⟨c,[],ι⟩ F).tmps).run P w=.ok v w:=by
 have f:=Ls (iJ (fr ⟨c,[],ι⟩ F).tmps) l vs g (λi x v k j=>et (d i x v k j));unfold results;rw[e];change Sem.run P (do let vs<-l.toArray.mapM (iJ (fr _ F).tmps);pure (if h:vs.size=1 then vs[0]else .tuple vs)) w=_;simp;rw[f];subst a;cases vs with
 |nil=>simp
 |cons u b=>cases b with
  |nil=>simp
  |cons u' b=>simp
theorem r_res{P:Β}{ro:ε (ε Nat)}{b:Nat}{F:Nat->ξ}{w:ο}{fn:Func}{R:ξ->ο->Prop}(l:δ ResultVar)(vs:δ ξ)(v:ξ)(f:fn.results=l.toArray)(g:γ l=γ vs)
  (d:∀(i:Nat) (x:ResultVar) (v:ξ),l[i]? =θ x->vs[i]? =θ v->Xu P b F w x v) (a:(match vs with|[u]=>u|c=>.tuple c.toArray)=v) (h:R v w):
  bodyPost P fn (λe w'=>∃v,e=.returned v/\R v w') .ret (fr ⟨b,[],ro⟩ F) w:=
 ⟨rfl,v,rU l vs f g d v a,v,rfl,h⟩
theorem ay:∀(i:Nat) x v,[][i]? =θ x->[][i]? =θ v->Xu P b F w x v:=λi x v h=>by simp at h
theorem Rs{l:δ ResultVar}{vs:δ ξ}(c:Xu P b F w r v)
  (h:∀(i:Nat) x u,l[i]? =θ x->vs[i]? =θ u->Xu P b F w x u):∀(i:Nat) x u,(r::l)[i]? =θ x->(v::vs)[i]? =θ u->Xu P b F w x u
 |0,x,u,hx,a=>by simp at hx a;subst hx;subst a;exact c
 |i+1,x,u,hx,a=>h i x u aD8 aC0
variable {t:Nat}
theorem BX(h:aX ⟨b,[],ι⟩ F (.tmp t)=v):Xu P b F w (.tmp t) v:=h
variable {c:ο}{S:δ Nat}{L:δ cB}{e:Nat}
theorem eu(g:Hp c S L w)(k j a:Nat)(cs:δ ξ)(d:L[k]? =θ (bA j cs a))(f:aX ⟨b,[],ι⟩ F (.tmp t)=.pointer (θ ⟨j,0,ι⟩))
  (i:(isAgg e).run P w=.ok μ w) (h:(sizeOf e).run P w=.ok (γ cs) w):Xu P b F w (.cell t e) (.agg cs.toArray):=⟨j,a,cs,f,g.dV k d,.inl ⟨i,h,rfl⟩⟩
theorem Yy(g:Hp c S L w)(k i a:Nat)(v:ξ)(d:L[k]? =θ (bA i [v] a))(f:aX ⟨b,[],ι⟩ F (.tmp t)=.pointer (θ ⟨i,0,ι⟩))
  (h:(isAgg e).run P w=.ok ν w):Xu P b F w (.cell t e) v:=⟨i,a,[v],f,g.dV k d,.inr ⟨h,rfl⟩⟩
theorem SJ{a:ε Γ}(h:b=t):π a b e=π a t e:=by rw[h]
theorem pD{p:Prop}(h:p:=by first|rfl|(simp;done)|(simp;omega)|exact SJ (by rw[cM];omega)):p:=h
def el{a:Type}[Inhabited a](l:δ a)(i:Int):a:=l.getD i.toNat default
theorem Ez{a:Type}(f:a->δ ξ)(sz:Nat)(b:∀x,γ (f x)=sz):∀(l:δ a) i,(l.flatMap f).drop (i*sz)=(l.drop i).flatMap f
 |l,0=>by simp
 |[],i+1=>by simp
 |x::l,i+1=>by rw[Hu,<-Ez f sz b l i,dA,Hv,<-Rx];rw[<-b x];simp
variable {d:Type}
theorem Bn[Inhabited d](f:d->δ ξ)(sz:Nat)(c:∀x,γ (f x)=sz)(l:δ d)(i:Int)(a:0<=i/\i<γ l):((l.flatMap f).drop (i.toNat*sz)).take sz=f (el l i):=by have b:i.toNat<γ l:=aA0;rw[Ez f sz c,zbD b,Kh];rw[show f (el l i)=f l[i.toNat]by simp[el,b]];rw[<-c l[i.toNat]];simp
theorem U3[Inhabited d](f:d->δ ξ)(sz k:Nat)(a:∀x,γ (f x)=sz)(l:δ d)(i:Int)(v:ξ)(e:0<=i/\i<γ l)(c:k<sz)(b:(f (el l i))[k]? =θ v):(l.flatMap f)[i.toNat*sz+k]? =θ v:=by rw[<-Bn f sz a l i e,bQ,aB c,bU]at b;exact b
theorem U2(f:d->δ ξ)(sz:Nat)(c:∀x,γ (f x)=sz)(l:δ d):γ (l.flatMap f)=γ l*sz:=by
 induction l with
 |nil=>simp
 |cons x l b=>rw[Kh,cG,b,c,cN,dA,Hv]
def eK(L:δ cB):δ Nat:=L.filterMap (·.own)
theorem nF(h:b∈eK L):∃r∈L,r.own=θ b:=by obtain⟨r,a,e⟩:=List.mem_filterMap.1 h;exact⟨r,a,e⟩
theorem Hp.eG{w':ο}{L1 L2:δ cB}(h:Hp w S (L1++L2) c)(l:Hp c (eK L1) L w'):Hp w S (L++L2) w':=by
 have f:∀b,b∈eK L1->b<c.heap.size/\(w.heap.size<=b\/b∈S):=by intro b m;obtain⟨r,a,e⟩:=nF m;exact(h.res r (aV.2 (.inl a))).2 b e
 have d:=dF.1 h.sep;have g:∀r∈L2,∀b,r.own=θ b->b∉eK L1:=by intro r a b e m;obtain⟨q,t,e'⟩:=nF m;exact d.2.2 q t r a b e' e
 refine⟨l.os.trans h.os,l.tape.trans h.tape,l.output.trans h.output,oF h.size l.size,λk o p=> ?_,λr a=> ?_, ?_⟩
 ·rw[l.below k (SS o h.size) (λu=> ?_)];exact h.below k o p;rcases(f k u).2 with i|i
  ·omega
  ·exact p i
 ·rcases aV.1 a with a|a
  ·refine⟨(l.res r a).1,λb e=> ?_⟩;have:=(l.res r a).2 b e;refine⟨this.1, ?_⟩;rcases this.2 with i|i
   ·exact .inl (oF h.size i)
   ·exact(f b i).2
  ·have n:=aV.2 (.inr a:r∈L1\/r∈L2);refine⟨cB.holds_of (h.res r n).1 λb e=>l.below b ((h.res r n).2 b e).1 (g r a b e),λb e=> ?_⟩;have:=(h.res r n).2 b e;exact⟨SS this.1 l.size,this.2⟩
 ·refine dF.2 ⟨l.sep,d.2.1,λr a r' j b e e'=> ?_⟩;have i:=(l.res r a).2 b e;have v:=(h.res r' (aV.2 (.inr j))).2 b e';rcases i.2 with s|s
  ·omega
  ·exact g r' j b e' s
theorem Hp.front(h:Hp w S L c)(k:Nat)(r:cB)(a:L[k]? =θ r):Hp w S (r::L.eraseIdx k) c:=by
 refine h.perm ?_;clear h;induction L generalizing k with
 |nil=>simp at a
 |cons x L b=>
  cases k with
  |zero=>simp at a;subst a;simp
  |succ k=>exact(List.Perm.cons x (b k a)).trans (List.Perm.swap r x _)
theorem Hp.FT{L1 L2:δ cB}(h:Hp w S (L1++L2) c):Hp w S L1 c:=h.sub (List.sublist_append_left _ _)
theorem Hp.hand{L1 L2:δ cB}(h:Hp w S (L1++L2) c):Hp c (eK L1) L1 c:=
 ⟨rfl,rfl,rfl,dO _,λ_ _ _=>rfl,λr a=>by have:=h.res r (aV.2 (.inl a));exact⟨this.1,λb e=>⟨(this.2 b e).1,.inr (List.mem_filterMap.2 ⟨r,a,e⟩)⟩⟩,(dF.1 h.sep).1⟩
variable {f:FuncId}{a:δ ξ}
theorem tA(h:Calls P f a.toArray w λe w'=>e=.returned v/\RowKit.Below w.heap.size w w'):CR P f a w λu w'=>u=v/\Hp w [] [] w':=
 Calls.mono h λ_ _ ⟨e,g⟩=>⟨v,e,rfl,Hp.Ag g⟩
theorem av(h:Calls P f a.toArray w λe w'=>e=.returned v/\w'=w):CR P f a w λu w'=>u=v/\Hp w [] [] w':=
 Calls.mono h λ_ _ ⟨e,g⟩=>⟨v,e,rfl,g▸Hp.refl w⟩
theorem ko(k:Nat):Hp w [] [] (w.drewN k):=Hp.Ag ⟨rfl,rfl,rfl,dO _,λ_ _=>rfl⟩
theorem RQ(h:Calls P f a.toArray w λe w'=>e=.returned v/\∃k,w'=w.drewN k):CR P f a w λu w'=>u=v/\Hp w [] [] w':=
 Calls.mono h λ_ _ ⟨e,k,g⟩=>⟨v,e,rfl,g▸ko k⟩
def TT(b:Nat)(l:δ ζ)(pos:Nat):cB:=⟨θ b,λo=>o=θ (.stringIter ⟨l.toArray⟩ pos)⟩
theorem Hp.og(h:Hp w S L c)(l:δ ζ)(pos:Nat):Hp w S (TT c.heap.size l pos::L) (c.alloc (.stringIter ⟨l.toArray⟩ pos)):=by
 have e:Hp c [] [TT c.heap.size l pos] (c.alloc (.stringIter ⟨l.toArray⟩ pos)):=by
  refine⟨rfl,rfl,rfl,aA3,λk d _=>RowKit.Below.heap_alloc c _ k d,λr a=> ?_,aA3⟩;simp at a;subst a;refine⟨?_,λb g=> ?_⟩
  ·show(c.heap.push _)[c.heap.size]? =_;simp
  ·simp[TT]at g;subst g;simp
 exact h.lX e
theorem Hp.setIt(h:Hp w S L c)(k b:Nat)(l:δ ζ)(pos a:Nat)(f:L[k]? =θ (TT b l pos)):
  Hp w S (L.set k (TT b l a)) {c with heap:=c.heap.setIfInBounds b (.stringIter ⟨l.toArray⟩ a)}:=by
 have g:=((h.res _ (aI f)).2 b rfl).1;refine h.change k _ _ f rfl rfl rfl aA3 (λj m d=> ?_) ?_ (λn i=> ?_)
 ·show(c.heap.setIfInBounds b _)[j]? =_;rw[Array.getElem?_setIfInBounds_ne (λe=>d aF6)]
 ·show(c.heap.setIfInBounds b _)[b]? =_;simp[g]
 ·cases i;exact⟨.inl rfl,aE1⟩
section
variable {P:Β}{n:Md}{ops:Array Α}{Q:Exit->Act->ο->Prop}{F:Nat->ξ}{w:ο}
variable {d:Nat}{ty:ω}{pos:String}{after:Array Edge}{rest:δ Α}
variable {x y:χ}{t a:ω}
theorem py(k:Ε)(j b:Int)(hx:aX n F x=.int k j)(f:aX n F y=.int k b)(h:0<=j)(i:0<b)(g:k.wrap (j/b)=j/b):
  (ς (aX n F) (⟨θ d,.binOp .quo t x y a,ty,pos,after,ι⟩)).run P w=.ok (.value (.int k (j/b))) w:=by
 have e:j.tdiv b=j/b:=Int.tdiv_eq_ediv_of_nonneg h;have c:¬b=0:=aA0;simp[ς,hx,f,binOp,eqGuard,Op.intDiv,c,e,g]
theorem pt(k:Ε)(j b:Int)(hx:aX n F x=.int k j)(f:aX n F y=.int k b)(g:0<=j)(i:0<b)(h:k.wrap (j%b)=j%b):
  (ς (aX n F) (⟨θ d,.binOp .rem t x y a,ty,pos,after,ι⟩)).run P w=.ok (.value (.int k (j%b))) w:=by
 have e:j.tmod b=j%b:=Int.tmod_eq_emod_of_nonneg g;have c:¬b=0:=aA0;simp[ς,hx,f,binOp,eqGuard,Op.intDiv,c,e]
def andI(k:Ε)(a b:Int):Int:=k.wrap ((BitVec.ofInt k.bits a&&&BitVec.ofInt k.bits b).toNat)
def orI(k:Ε)(a b:Int):Int:=k.wrap ((BitVec.ofInt k.bits a|||BitVec.ofInt k.bits b).toNat)
theorem qd(k:Ε)(e b:Int)(hx:aX n F x=.int k e)(c:aX n F y=.int k b):(ς (aX n F) (⟨θ d,.binOp .and t x y a,ty,pos,after,ι⟩)).run P w=.ok (.value (.int k (andI k e b))) w:=by simp only[ς,hx,c,binOp,ne_eq];rfl
theorem x_or(k:Ε)(e b:Int)(hx:aX n F x=.int k e)(c:aX n F y=.int k b):(ς (aX n F) (⟨θ d,.binOp .or t x y a,ty,pos,after,ι⟩)).run P w=.ok (.value (.int k (orI k e b))) w:=by simp only[ς,hx,c,binOp,ne_eq];rfl
theorem pq(k k':Ε)(h b p:Int)(hx:aX n F x=.int k h)(c:aX n F y=.int k' b)(g:0<=b)(e:2^(min b.toNat k.bits)=p):(ς (aX n F) (⟨θ d,.binOp .shl t x y a,ty,pos,after,ι⟩)).run P w=.ok (.value (.int k (k.wrap (h*p)))) w:=by have f:¬b<0:=aA0;rw[<-e];simp[ς,hx,c,binOp,eqGuard,Op.shift,f]
theorem po(k k':Ε)(j b p:Int)(hx:aX n F x=.int k j)(c:aX n F y=.int k' b)(i:0<=b)(g:2^(min b.toNat k.bits)=p)(f:0<p):(ς (aX n F) (⟨θ d,.binOp .shr t x y a,ty,pos,after,ι⟩)).run P w=.ok (.value (.int k (j/p))) w:=by have h:¬b<0:=aA0;have e:j.fdiv p=j/p:=Int.fdiv_eq_ediv_of_nonneg _ aA0;rw[<-e,<-g];simp[ς,hx,c,binOp,eqGuard,Op.shift,h]
theorem JL(g:ε Γ)(m c e:Nat)(f:P.underlying t=θ (.slice e))(hx:aX n F x=.slice g m c)(b:aX n F y=.slice ι 0 0):(ς (aX n F) (⟨θ d,.binOp .eql t x y a,ty,pos,after,ι⟩)).run P w=.ok (.value (.bool g.isNone)) w:=by
 have e:(binOp .eql t (.slice g m c) (.slice ι 0 0)).run P w=.ok (.bool g.isNone) w:=by simp only[binOp];simp[run_equal_slice_nil w t e g m c f]
 simp[ς,hx,b,eqGuard,e]
theorem ZX(g:ε Γ)(m c e:Nat)(f:P.underlying t=θ (.slice e))(hx:aX n F x=.slice g m c)(b:aX n F y=.slice ι 0 0)(h:W P n ops Q rest (dQ F d (.bool g.isNone)) w):W P n ops Q (⟨θ d,.binOp .eql t x y a,ty,pos,after,ι⟩::rest) F w:=
 fE rfl rfl (JL g m c e f hx b) h
theorem ZC(p:Γ)(k e sz:Nat)(q:Ε)(i:Int)(c:P.underlying t=θ (.array k e))(f:(sizeOf e).run P w=.ok sz w)(hx:aX n F x=.pointer (θ p))(g:aX n F y=.int q i)
  (b:0<=i/\i<k) (h:2<=k):(ς (aX n F) (⟨θ d,.indexAddr t x y,ty,pos,after,ι⟩)).run P w=.ok (.value (.pointer (θ (ea (θ p) (i.toNat*sz))))) w:=by
 simp[ς,hx,g,Instr.indexAt,Instr.sureAddr,asIntOf,run_underlying c,f,b.1,b.2,ea]
variable {b:ο}{S:δ Nat}{L:δ cB}
theorem NZ(c:Hp b S L w)(l:δ ζ)(a:P.underlying t=θ .string)(hx:aX n F x=str l)
  (h:∀e w',Hp b S (TT e l 0::L) w'->W P n ops Q rest (dQ F d (.pointer (θ ⟨e,0,ι⟩))) w'):W P n ops Q (⟨θ d,.range t x,ty,pos,after,ι⟩::rest) F w:=by
 refine fE (v:=.pointer (θ ⟨w.heap.size,0,ι⟩)) (w':=w.alloc (.stringIter ⟨l.toArray⟩ 0)) rfl rfl ?_ (h _ _ (c.og l 0));simp[ς,hx,str,Instr.range,run_underlying a]
theorem Yb(h:Hp b S L w)(k q:Nat)(l:δ ζ)(p:Nat)(e:L[k]? =θ (TT q l p))(hx:aX n F x=.pointer (θ ⟨q,0,ι⟩))
  (m:p<γ l->∀w',Hp b S (L.set k (TT q l (p+(Utf8.decode ⟨l.toArray⟩ p).2))) w'->W P n ops Q rest (dQ F d (.tuple #[.bool μ,.int .i64 p,.int .i32 ((Utf8.decode ⟨l.toArray⟩ p).1)])) w')
  (j:¬p<γ l->W P n ops Q rest (dQ F d (.tuple #[.bool ν])) w):W P n ops Q (⟨θ d,.next x μ,ty,pos,after,ι⟩::rest) F w:=by
 have g:w.heap[q]? =θ _:=(h.res _ (aI e)).1;have f:(getObj q).run P w=.ok (.stringIter ⟨l.toArray⟩ p) w:=by simp[getObj,Sem.run,g]
 have i:∀o,(setObj q o).run P w=.ok () {w with heap:=w.heap.setIfInBounds q o}:=λo=>by simp[setObj,Sem.run,g]
 by_cases c:p<γ l
 ·have a:p<(⟨l.toArray⟩:ByteArray).size:=c;refine fE (v:=.tuple #[.bool μ,.int .i64 (p:Int),.int .i32 ((Utf8.decode ⟨l.toArray⟩ p).1:Int)]) (w':={w with heap:=w.heap.setIfInBounds q (.stringIter ⟨l.toArray⟩ (p+(Utf8.decode _ p).2))}) rfl rfl ?_ (m c _ (h.setIt k q l p _ e));simp[ς,hx,Instr.next,f,i,a,goInt]
 ·have a:¬p<(⟨l.toArray⟩:ByteArray).size:=c;refine fE (v:=.tuple #[.bool ν]) (w':=w) rfl rfl ?_ (j c);simp[ς,hx,Instr.next,f,a]
theorem Ua(k k':Ε)(s:Int)(c:P.underlying t=θ (.int k'))(b:P.underlying a=θ .string)(hx:aX n F x=.int k s):(ς (aX n F) (⟨θ d,.convert t a x,ty,pos,after,ι⟩)).run P w=.ok (.value (str (ψ s).data.toList)) w:=by simp[ς,hx,convert,run_underlying c,run_underlying b,Conv.intToString,str]
theorem SY(k k':Ε)(s:Int)(c:P.underlying t=θ (.int k'))(b:P.underlying a=θ .string)(hx:aX n F x=.int k s)(h:W P n ops Q rest (dQ F d (str (ψ s).data.toList)) w):W P n ops Q (⟨θ d,.convert t a x,ty,pos,after,ι⟩::rest) F w:=
 fE rfl rfl (Ua k k' s c b hx) h
end
open Go.Value renaming ownBlock → Cs
open UInt8 renaming ofNat → qK
abbrev aC:=δ ζ
abbrev PQ:=aC×aC×η
abbrev LQ:=δ PQ
abbrev UQ:=aC×aC×aC×Int×LQ×LQ
abbrev AQ:=aC×UQ×LQ
abbrev mA:=δ (aC×aC)
abbrev oG:=mA×δ ζ
abbrev fF:=δ oG
abbrev hY:=δ (Int×aC)
def gd{α:Type}(p:Prop)[Decidable p](k:ε α):ε α:=if p then k else ι
variable {a:Type}{p:Prop}{k:ε a}{r:a}
theorem T2[Decidable p](h:gd p k=θ r):p/\k=θ r:=by
 unfold gd at h;split at h
 ·exact⟨by assumption,h⟩
 ·cases h
theorem aS{α:Type}{p:Prop}[Decidable p]{k:ε α}(h:p):gd p k=k:=aB h
theorem Bw{o:Type}{f:a->ε o}{r:o}(h:k.bind f=θ r):∃y,k=θ y/\f y=θ r:=by
 cases k with
 |none=>cases h
 |some y=>exact⟨y,rfl,h⟩
variable {i j:a}
theorem QS[Decidable p](h:p)(e:(if p then r else i)=j):r=j:=by rw[<-e,aB h]
theorem QT[Decidable p](h:¬p)(e:(if p then r else i)=j):i=j:=by rw[<-e,aA h]
variable {d:η}
theorem cft(h:d=μ)(e:cond d r i=j):r=j:=by rw[<-e,h];rfl
theorem cff(h:d=ν)(e:cond d r i=j):i=j:=by rw[<-e,h];rfl
def dMk(b:Nat):(c:Int)->Decidable (0<=c/\b*c<=281474976710656)
 |.ofNat n=>match h:Nat.ble (b*n) 281474976710656 with
  |true=>.isTrue ⟨Rj n,by have d:=CQ h;have a:((b*n:Nat))<=(281474976710656:Int):=Int.ofNat_le.2 d;rw[Int.natCast_mul]at a;exact a⟩
  |false=>.isFalse λ⟨_,a⟩=>by
   have e:((b*n:Nat))<=(281474976710656:Int):=by rw[Int.natCast_mul];exact a
   rw[Nat.ble_eq_true_of_le (Int.ofNat_le.1 e)]at h;cases h
 |.negSucc n=>.isFalse λ⟨d,_⟩=>absurd d aA0
instance instOk64:(a:Int)->Decidable (bK a)
 |.ofNat n=>if h:Nat.ble n 9223372036854775807=μ then .isTrue (show bK (n:Int)from⟨aA0,by have:=CQ h;omega⟩)else .isFalse λq=>h (Nat.ble_eq▸(by have:(n:Int)<=9223372036854775807:=q.hi;omega))
 |.negSucc n=>if h:Nat.ble n 9223372036854775807=μ then .isTrue ⟨by have:=CQ h;rw[Int.negSucc_eq];omega,by rw[Int.negSucc_eq];omega⟩else .isFalse λq=>h (Nat.ble_eq▸(by have:=q.lo;rw[Int.negSucc_eq]at this;omega))
structure qY {α:Type} (f:α->List ξ) (sz:Nat):Prop where
 len:∀x,γ (f x)=sz
 one:∀x,∀v∈f x,v.oneCell'=μ
def eS(s:aC):δ ξ:=[str s]
def eB(c:ζ):δ ξ:=[bt c]
theorem sY:qY eS 1:=⟨λ_=>rfl,λx v h=>by simp[eS]at h;subst h;rfl⟩
theorem Io:qY eB 1:=⟨λ_=>rfl,λx v h=>by simp[eB]at h;subst h;rfl⟩
theorem lV(l:δ ζ):l.flatMap eB=l.map bt:=by induction l with
 |nil=>rfl
 |cons c l a=>rw[Kh,a];rfl
variable {f:a->δ ξ}{e:Nat}
theorem qY.flat(h:qY f e)(l:δ a):γ (l.flatMap f)=γ l*e:=U2 f e h.len l
theorem qY.cells(h:qY f e)(l:δ a):∀v∈l.flatMap f,v.oneCell'=μ:=by intro v α;obtain⟨x,_,hx⟩:=List.mem_flatMap.1 α;exact h.one x v hx
def bN(f:a->δ ξ)(e sz:Nat)(o:ε Nat)(α:ε Γ)(cap:Nat)(l:δ a):cB:=
 ⟨o,λob=>(o=ι/\l=[]/\cap=0/\α=ι)\/
  ∃g b,o=θ g/\α=θ ⟨g,0,ι⟩/\ob=θ (.cells b e (0,0))/\γ l<=cap/\cap<=maxLen/\b.size=cap*sz/\b.toList.take (γ l*sz)=l.flatMap f⟩
variable {c w:ο}{S:δ Nat}{L:δ cB}
theorem Hp.eX(h:Hp c S L w)(f:a->δ ξ)(e sz:Nat)(α:ε Γ):Hp c S (bN f e sz ι ι 0 []::L) w:=by
 refine⟨h.os,h.tape,h.output,h.size,h.below,λr m=> ?_, ?_⟩
 ·rcases aQ.1 m with rfl|m
  ·exact⟨.inl ⟨rfl,rfl,rfl,rfl⟩,λb d=>by simp[bN]at d⟩
  ·exact h.res r m
 ·refine List.Pairwise.cons (λr _ b d=>by simp[bN]at d) h.sep
variable {g h:Nat}{o:ε Nat}{b:ε Γ}{l:δ a}
theorem Hp.hK(t:Hp c S L w)(k:Nat)(p:L[k]? =θ (bN f e g o b h l)):Rd w b (l.flatMap f):=by
 obtain⟨r,_⟩:=t.res _ (aI p);rcases r with⟨_,rfl,_⟩|⟨s,m,n,rfl,d,_,_,_,u⟩
 ·exact Rd.nil _ _
 ·intro j v α;refine⟨_,rfl, ?_⟩;rw[SI];have q:w.heap[s]? =θ (.cells m e (0,0)):=by have i:=n;subst i;simpa [bN] using d
  simp only[World.cell?,q];rw[<-u,bQ]at α;split at α
  ·simpa using α
  ·cases α
theorem Hp.DH{x:Nat}(y:Hp c S L w)(s:qY f g)(k:Nat)(o:L[k]? =θ (bN f e g (θ x) b h l)):
  b=θ ⟨x,0,ι⟩/\Hp c S (L.set k (row (.slice b (γ l) h) e g (γ l) (l.flatMap f))) w:=by
 obtain⟨u,t⟩:=y.res _ (aI o);rcases u with⟨r,_⟩|⟨v,n,q,rfl,d,m,j,i,z⟩
 ·cases r
 ·cases q;refine⟨rfl,y.change k _ _ o rfl rfl rfl (dO _) (λ_ _ _=>rfl) ?_ ?_⟩
  ·exact⟨s.flat l,.inr ⟨x,h,n,rfl,d,m,j,i,z⟩⟩
  ·intro α p;simp[row,Cs]at p;subst p;exact⟨.inl rfl,(t x rfl).1⟩
theorem Hp.Lt{l:δ a}(A:Hp c S L w)(k:Nat)(j:L[k]? =θ (row (.slice b (γ l) h) e g (γ l) (l.flatMap f))):
  ∃o,Hp c S (L.set k (bN f e g o b h l)) w:=by
 obtain⟨x,v⟩:=A.res _ (aI j);obtain⟨y,s⟩:=x;rcases s with⟨B,u⟩|⟨z,r,q,B,t,p,n,m,i⟩
 ·simp at B;obtain⟨rfl,-,rfl⟩:=B;refine⟨ι,A.change k _ _ j rfl rfl rfl (dO _) (λ_ _ _=>rfl) (.inl ⟨rfl,Je u,rfl,rfl⟩) (λα d=>by simp[bN]at d)⟩
 ·simp at B;obtain⟨rfl,-,rfl⟩:=B;refine⟨θ z,A.change k _ _ j rfl rfl rfl (dO _) (λ_ _ _=>rfl) (.inr ⟨z,q,rfl,rfl,t,p,n,m,i⟩) (λα d=> ?_)⟩;simp[bN]at d;subst d;exact⟨.inl (by simp[row,Cs]),(v z (by simp[row,Cs])).1⟩
theorem Hp.IC{cs:δ ξ}(h:Hp c S L w)(k sz m:Nat)(l:δ a)(d:L[k]? =θ (bA e cs g))(i:qY f sz)(q:l.flatMap f=cs)(n:γ l=m)(j:m<=maxLen):
  Hp c S (L.set k (bN f g sz (θ e) (θ ⟨e,0,ι⟩) m l)) w:=by
 have α:=h.dV k d;subst q;subst n;refine h.change k _ _ d rfl rfl rfl (dO _) (λ_ _ _=>rfl) ?_ ?_
 ·exact .inr ⟨e,_,rfl,rfl,α,dO _,j,by simpa using i.flat l,by rw[<-i.flat l];exact hZ⟩
 ·intro b' b;simp[bN]at b;subst b;exact⟨.inl rfl,(cF.1 α).1⟩
theorem Hp.cuts(y:Hp c S L w)(s:qY f g)(k:Nat)(p:L[k]? =θ (bN f e g o b h l))(m:Nat):
  Hp c S (L.set k (bN f e g o b h (l.take m))) w:=by
 obtain⟨u,t⟩:=y.res _ (aI p);refine y.change k _ _ p rfl rfl rfl (dO _) (λ_ _ _=>rfl) ?_ (λα q=>⟨.inl q,(t α q).1⟩);rcases u with⟨rfl,rfl,rfl,rfl⟩|⟨x,n,rfl,rfl,d,r,j,i,z⟩
 ·exact .inl ⟨rfl,aA3,rfl,rfl⟩
 ·refine .inr ⟨x,n,rfl,rfl,d,by simp;omega,j,i, ?_⟩;have v:(l.take m).flatMap f=(l.flatMap f).take (γ (l.take m)*g):=by
   have:l.flatMap f=(l.take m).flatMap f++(l.drop m).flatMap f:=by rw[<-NN,NO]
   rw[this,<-s.flat (l.take m),fJ]
  rw[v,<-z,Rb,SR (YL _ aA2)]
section
variable {P:Β}{n:Md}{ops:Array Α}{Q:Exit->Act->ο->Prop}{F:Nat->ξ}{w w0:ο}{S:δ Nat}{L:δ cB}
variable {d:Nat}{ty:ω}{pos:String}{after:Array Edge}{rest:δ Α}{α:Type}{f:α->δ ξ}
theorem XJ{a:Type}(l:δ a)(k:Nat)(x y:a):(l.set k x).set k y=l.set k y:=aA3
variable {x y:χ}{t:ω}
theorem SK(hH:Hp w0 S L w)(k:Nat)(o:ε Nat)(a E:ε Γ)(cap cx e sz s:Nat)(l c:δ α)(C:qY f sz)(N:L[k]? =θ (bN f e sz o a cap l))(M:P.underlying t=θ (.slice e))(Z:TI P e sz s)(eT:0<sz)(a5:0<s)
  (hx:aX n F x=.slice a (γ l) cap) (X:aX n F y=.slice E (γ c) cx) (V:Rd w E (c.flatMap f)) (J:(γ l+γ c)*s<=140737488355328)
  (h:∀o' a' cap' w',Hp w0 S (L.set k (bN f e sz o' a' cap' (l++c))) w'->W P n ops Q rest (dQ F d (.slice a' (γ (l++c)) cap')) w'):
  W P n ops Q (⟨θ d,.call ⟨.builtin .append, #[x,y], #[t,t]⟩,ty,pos,after,ι⟩::rest) F w:=by
 have B:γ l+γ c<=9223372036854775807:=by have:γ l+γ c<=(γ l+γ c)*s:=Nat.le_mul_of_pos_right _ a5;omega
 have K:∀a' cap' w',Hp w0 S (L.set k (row (.slice a' (γ l+γ c) cap') e sz (γ l+γ c) (l.flatMap f++c.flatMap f))) w'->W P n ops Q rest (dQ F d (.slice a' (γ l+γ c) cap')) w':=by intro a' cap' w' O;rw[<-cG,<-NN]at O;rw[<-cG];have m:=(aF.1 N).1;obtain⟨o',r⟩:=O.Lt k (bE m);rw[XJ]at r;exact h o' a' cap' w' r
 have m:=(aF.1 N).1;cases o with
 |some g=>obtain⟨rfl,O⟩:=hH.DH C k N;refine CT O k _ E (γ l) cap (γ c) cx e sz s _ _ (bE m) M Z eT hx X V (C.flat c) (C.cells c) J B ?_;intro a' cap' w' r;rw[XJ]at r;exact K a' cap' w' r
 |none=>
  obtain⟨O,_⟩:=hH.res _ (aI N);have a8:l=[]/\cap=0:=by
   rcases O with⟨_,r,h3,_⟩|⟨g,c0,r,_⟩
   ·exact⟨r,h3⟩
   ·cases r
  obtain⟨rfl,rfl⟩:=a8;have v:Hp w0 S (L.set k (row _ e sz 0 [])) w:=hH.change k _ _ N rfl rfl rfl (dO _) (λ_ _ _=>rfl) ⟨aA3,.inl ⟨rfl,rfl⟩⟩ (λb J=>by simp[row,Cs]at J);cases a with
  |none=>refine CT v k ι E 0 0 (γ c) cx e sz s [] _ (bE m) M Z eT hx X V (C.flat c) (C.cells c) (by simpa using J) (by simpa using B) ?_;intro a' cap' w' r;rw[XJ]at r;exact K a' cap' w' (by simpa using r)
  |some p=>
   obtain⟨i,z,hi,hz,hs,a6,b2⟩:=Z.parts;subst hs;subst a6;by_cases hm:c=[]
   ·subst hm;have D:(Builtin.firstCells i.size 0 (.slice E 0 cx)).run P w=.ok #[] w:=by
     cases E with
     |none=>simp[Builtin.firstCells]
     |some p=>simp[Builtin.firstCells,loadCells,loadCellsFrom]
    have R:(Builtin.append_ #[t,t] ty #[.slice (θ p) 0 0,.slice E 0 cx]).run P w=.ok (.slice (θ p) 0 0) w:=by simp[Builtin.append_,run_underlying M,sizeOf,typeInfo,hi,Builtin.lenOf,D,storeCells]
    refine fE (w':=w) rfl rfl ?_ (h ι (θ p) 0 w ?_)
    ·have a1:=X;have G:=hx;simp[ς,resolve,invoke,builtin,G,a1,R]
    ·have e:L.set k (bN f e i.size ι (θ p) 0 ([]++[]))=L:=by
      apply cD;intro j;by_cases U:j=k
      ·subst U;simp[m];have:=N;rw[aN m]at this;exact(aP this).symm
      ·rw[Co (λe=>U e.symm)]
     rw[e];exact hH
   ·have T:=bL.2 hm;cases E with
    |none=>
     have:c.flatMap f=[]:=by
      cases Y:c.flatMap f with
      |nil=>rfl
      |cons u us=>obtain⟨p,hp,_⟩:=V 0 u (by rw[Y];rfl);cases hp
     have:=C.flat c;rename_i h0;rw[h0]at this;have:=Xy T eT;simp at*
     omega
    |some q=>
     have A:∀j u,(c.flatMap f)[j]? =θ u->w.cell? (q.add j)=θ u:=by intro j u hu;obtain⟨q',Y,hc⟩:=V j u hu;simp at Y;subst Y;exact hc
     have I:=run_append_grow w t ty e i z M hi hz p 0 0 [] aA3 (λj u hu=>by simp at hu) q (γ c) cx _ (C.flat c) A aA0 (by simp at B⊢;omega) (growslice_fits aA0 (by simpa using J));have a4:=run_append_nil w t ty e i z M hi hz q (γ c) cx _ (C.flat c) A aA0 (by simp at B⊢;omega) (by simp at J;omega);have H:(Builtin.append_ #[t,t] ty #[.slice (θ p) 0 0,.slice (θ q) (γ c) cx]).run P w=(Builtin.append_ #[t,t] ty #[.slice ι 0 0,.slice (θ q) (γ c) cx]).run P w:=by rw[a4,I];simp
     obtain⟨a',cap',w',hr,ho,hg,hn⟩:=OR t M Z eT (v.ownsRow (bE m)) V (C.flat c) (C.cells c) (by unfold maxLen;simp at B⊢;omega) (by simpa using J);have r:=v.grown (bE m) hg ho hn;rw[XJ]at r;have h3:=K a' cap' w' (by simpa using r);refine fE (w':=w') rfl rfl ?_ (by simpa using h3);have G:=hx;rw[<-H]at hr;simp[ς,resolve,invoke,builtin,G,X,hr]
theorem cu(s:Hp w0 S L w)(e sz b:Nat)(kl i:Ε)(c:Int)(m:P.underlying t=θ (.slice e))(r:TI P e sz b)(q:0<b)(hx:aX n F x=.int kl 0)(k:aX n F y=.int i c)
  (g:0<=c/\b*c<=281474976710656)
  (h:∀o a cap w',Hp w0 S (bN f e sz o a cap []::L) w'->W P n ops Q rest (dQ F d (.slice a 0 cap)) w'):
  W P n ops Q (⟨θ d,.makeSlice t x y,ty,pos,after,ι⟩::rest) F w:=by
 have p:c<=9223372036854775807:=by have j:1*c<=b*c:=Int.mul_le_mul_of_nonneg_right aA0 g.1;omega
 refine cz s e sz b kl i c m r hx k g.1 g.2 p ?_;intro a cap w' j;obtain⟨o,u⟩:=j.Lt (l:=[]) 0 rfl;exact h o a cap w' u
theorem Km(a:ε Γ)(m c e sz:Nat)(q:Ε)(i:Int)(g:P.underlying t=θ (.slice e))(h:(sizeOf e).run P w=.ok sz w)(hx:aX n F x=.slice a m c)(k:aX n F y=.int q i)
  (l:δ α) (j:m=γ l) (o:0<=i/\i<γ l) (p:Rd w a (l.flatMap f)) (r:qY f sz) (eT:0<sz):
  (ς (aX n F) (⟨θ d,.indexAddr t x y,ty,pos,after,ι⟩)).run P w=.ok (.value (.pointer (θ (ea a (i.toNat*sz))))) w:=by
 subst j;refine ZD a (γ l) c e sz q i g h hx k o (p.some_ ?_);rw[r.flat];exact Xy aA0 eT
theorem Cq(a:ε Γ)(m c e sz:Nat)(q:Ε)(i:Int)(g:P.underlying t=θ (.slice e))(j:(sizeOf e).run P w=.ok sz w)(hx:aX n F x=.slice a m c)(o:aX n F y=.int q i)
  (l:δ α) (k:m=γ l) (p:0<=i/\i<γ l) (r:Rd w a (l.flatMap f)) (s:qY f sz) (eT:0<sz) (h:W P n ops Q rest (dQ F d (.pointer (θ (ea a (i.toNat*sz))))) w):
  W P n ops Q (⟨θ d,.indexAddr t x y,ty,pos,after,ι⟩::rest) F w:=fE rfl rfl (Km a m c e sz q i g j hx o l k p r s eT) h
theorem ZB[Inhabited α](a:ε Γ)(f:α->δ ξ)(l:δ α)(sz:Nat)(i:Int)(c:qY f sz)(j:Rd w a (l.flatMap f))(vs:δ ξ)(g:0<=i/\i<(γ l:Int))(b:f (el l i)=vs)
  (hx:aX n F x=.pointer (θ (ea a (i.toNat*sz)))) (h:(isAgg t).run P w=.ok μ w) (e:(sizeOf t).run P w=.ok sz w) (eT:0<sz):
  (ς (aX n F) (⟨θ d,.load t x,ty,pos,after,ι⟩:Α)).run P w=.ok (.value (.agg vs.toArray)) w:=
 pw a _ vs _ sz j (by rw[Bn f sz c.len l i g,b]) (by rw[<-b];exact c.len _) eT hx h e
theorem zD[Inhabited α](a:ε Γ)(f:α->δ ξ)(l:δ α)(sz:Nat)(i:Int)(k:qY f sz)(j:Rd w a (l.flatMap f))(vs:δ ξ)(e:0<=i/\i<γ l)(b:f (el l i)=vs)
  (hx:aX n F x=.pointer (θ (ea a (i.toNat*sz)))) (g:(isAgg t).run P w=.ok μ w) (c:(sizeOf t).run P w=.ok sz w) (eT:0<sz) (h:W P n ops Q rest (dQ F d (.agg vs.toArray)) w):
  W P n ops Q (⟨θ d,.load t x,ty,pos,after,ι⟩::rest) F w:=fE rfl rfl (ZB a f l sz i k j vs e b hx g c eT) h
theorem Ub[Inhabited α](a:ε Γ)(f:α->δ ξ)(l:δ α)(sz:Nat)(i:Int)(off:Nat)(j:qY f sz)(h:Rd w a (l.flatMap f))(v:ξ)(e:0<=i/\i<(γ l:Int))(c:off<sz)(b:(f (el l i))[off]? =θ v)
  (hx:aX n F x=.pointer (θ (ea a (i.toNat*sz+off)))) (g:(isAgg t).run P w=.ok ν w):
  (ς (aX n F) (⟨θ d,.load t x,ty,pos,after,ι⟩:Α)).run P w=.ok (.value v) w:=
 px a _ _ v h (U3 f sz off j.len l i v e c b) hx g
theorem OA[Inhabited α](a:ε Γ)(f:α->δ ξ)(l:δ α)(sz:Nat)(i:Int)(off:Nat)(k:qY f sz)(j:Rd w a (l.flatMap f))(v:ξ)(e:0<=i/\i<γ l)(c:off<sz)(b:(f (el l i))[off]? =θ v)
  (hx:aX n F x=.pointer (θ (ea a (i.toNat*sz+off)))) (g:(isAgg t).run P w=.ok ν w) (h:W P n ops Q rest (dQ F d v) w):
  W P n ops Q (⟨θ d,.load t x,ty,pos,after,ι⟩::rest) F w:=fE rfl rfl (Ub a f l sz i off k j v e c b hx g) h
theorem uv[Inhabited α](a:ε Γ)(f:α->δ ξ)(l:δ α)(sz:Nat)(i:Int)(j:qY f sz)(h:Rd w a (l.flatMap f))(v:ξ)(e:0<=i/\i<γ l)(c:0<sz)(b:(f (el l i))[0]? =θ v)
  (hx:aX n F x=.pointer (θ (ea a (i.toNat*sz)))) (g:(isAgg t).run P w=.ok ν w):
  (ς (aX n F) (⟨θ d,.load t x,ty,pos,after,ι⟩)).run P w=.ok (.value v) w:=Ub a f l sz i 0 j h v e c b hx g
theorem kB[Inhabited α](a:ε Γ)(f:α->δ ξ)(l:δ α)(sz:Nat)(i:Int)(k:qY f sz)(j:Rd w a (l.flatMap f))(v:ξ)(e:0<=i/\i<γ l)(c:0<sz)(b:(f (el l i))[0]? =θ v)
  (hx:aX n F x=.pointer (θ (ea a (i.toNat*sz)))) (g:(isAgg t).run P w=.ok ν w) (h:W P n ops Q rest (dQ F d v) w):
  W P n ops Q (⟨θ d,.load t x,ty,pos,after,ι⟩::rest) F w:=fE rfl rfl (uv a f l sz i k j v e c b hx g) h
theorem Hh(sz:Nat)(a:qY f sz):∀(l:δ α) j y,j<γ l->Qk (l.flatMap f) (j*sz) (f y)=(l.set j y).flatMap f
 |[],j,y,h=>by simp at h
 |x::l,0,y,h=>by unfold Qk;simp only[Nat.zero_mul,List.take_zero,Rl,Jd,List.set_cons_zero,Kh,a.len];rw[<-a.len x,eM]
 |x::l,j+1,y,h=>by have b:=Hh sz a l j y aA8;unfold Qk at*;simp only[List.set_cons_succ,Kh,<-b];rw[dA,Hv _ sz,Ct sz,<-a.len x,List.take_length_add_append];simp
theorem Hp.rwset{k e sz cap j:Nat}{o:ε Nat}{a:ε Γ}{l:δ α}{y:α}(s:Hp w0 S L w)(d:qY f sz)(eT:0<sz)(n:L[k]? =θ (bN f e sz o a cap l))(h:j<γ l):
  ∃w',(storeCells (ea a (j*sz)) (f y)).run P w=.ok () w'/\Hp w0 S (L.set k (bN f e sz o a cap (l.set j y))) w':=by
 cases o with
 |none=>
  obtain⟨q,_⟩:=s.res _ (aI n);rcases q with⟨_,c,_⟩|⟨g,r,c,_⟩
  ·subst c;simp at h
  ·cases c
 |some g=>
  obtain⟨rfl,q⟩:=s.DH d k n;have b:=(aF.1 n).1;have p:j*sz+sz<=γ l*sz:=by rw[<-dA];exact YL _ h
  obtain⟨w',u,c⟩:=q.C6 (vs:=f y) (j:=j*sz) (bE b) (by rw[d.len,d.flat];exact p) (d.one y) (by intro B;have:=d.len y;rw[B]at this;simp at this;omega);refine⟨w',u, ?_⟩;rw[XJ,Hh sz d l j y h]at c;have x:γ l=γ (l.set j y):=aA3
  rw[x]at c;obtain⟨o',m⟩:=c.Lt (k:=k) (l:=l.set j y) (bE b);rw[XJ]at m;have v:o'=θ g:=by
   obtain⟨A,_⟩:=m.res _ (aI (bE b));rcases A with⟨t,i,_⟩|⟨C,r,t,i,_⟩
   ·exfalso;have:γ (l.set j y)=0:=by have z:=i;rw[z];rfl
    simp at this;subst this;simp at h
   ·simp at i;rw[i];exact t
  rw[v]at m;exact m
theorem w_stE[Inhabited α](r:Hp w0 S L w)(k:Nat)(o:ε Nat)(a:ε Γ)(cap e sz:Nat)(i:Int)(l:δ α)(z:α)(q:L[k]? =θ (bN f e sz o a cap l))(c:qY f sz)(vs:δ ξ)(s:0<=i/\i<γ l)(g:f z=vs)
  (hx:aX n F x=.pointer (θ (ea a (i.toNat*sz)))) (d:aX n F y=.agg vs.toArray) (eT:0<sz) (j:(sizeOf t).run P w=.ok sz w)
  (h:∀w',Hp w0 S (L.set k (bN f e sz o a cap (l.set i.toNat z))) w'->W P n ops Q rest F w'):W P n ops Q (⟨ι,.store t x y,ty,pos,after,ι⟩::rest) F w:=by
 subst g;obtain⟨w',m,b⟩:=r.rwset (P:=P) c eT q (show i.toNat<γ l by omega);refine oP (w':=w') rfl rfl ?_ (h w' b);have p:=c.len z;simp[ς,hx,d,Instr.storeAt,Instr.sureAddr,storeVar,j,Value.cells,m,p]
theorem WQ(sz off:Nat)(a:qY f sz)[Inhabited α](l:δ α)(j:Nat)(y:α)(v:ξ)(c:j<γ l)(g:off<sz)(b:f y=(f (l.getD j default)).set off v):Qk (l.flatMap f) (j*sz+off) [v]=(l.set j y).flatMap f:=by
 have d:Qk (l.flatMap f) (j*sz+off) [v]=(l.flatMap f).set (j*sz+off) v:=by
  unfold Qk;rw[zbI,aB (by rw[a.flat];calc j*sz+off<j*sz+sz:=by omega
   _=(j+1)*sz:=by rw[dA]
   _<=γ l*sz:=YL _ c)]
  simp
 rw[d];clear d;induction l generalizing j with
 |nil=>simp at c
 |cons x l e=>
  cases j with
  |zero=>simp;simp at b;rw[b,ag _ _ (by rw[a.len];exact g)]
  |succ j=>simp;rw[dA,wP _ _ (by rw[a.len];omega),a.len];rw[show j*sz+sz+off-sz=j*sz+off by omega];rw[e j aC8 aC2]
theorem qh[Inhabited α](G:Hp w0 S L w)(k:Nat)(o:ε Nat)(a:ε Γ)(cap e sz:Nat)(i:Int)(off:Nat)(l:δ α)(z:α)(u:L[k]? =θ (bN f e sz o a cap l))(d:qY f sz)(v:ξ)(R:0<=i/\i<γ l)
  (D:f z=(f (el l i)).set off v) (hx:aX n F x=.pointer (θ (ea a (i.toNat*sz+off)))) (J:aX n F y=v) (K:(sizeOf t).run P w=.ok 1 w) (E:off<sz)
  (h:∀w',Hp w0 S (L.set k (bN f e sz o a cap (l.set i.toNat z))) w'->W P n ops Q rest F w'):W P n ops Q (⟨ι,.store t x y,ty,pos,after,ι⟩::rest) F w:=by
 have B:i.toNat<γ l:=aA0;have r:v.oneCell'=μ:=d.one z v (by rw[D];exact aI (bE (by rw[d.len];exact E)));have b:v.cells= #[v]:=by cases v<;>first|rfl|simp[Value.oneCell']at r
 cases o with
 |none=>
  obtain⟨r,_⟩:=G.res _ (aI u);rcases r with⟨_,m,_⟩|⟨g,C,m,_⟩
  ·subst m;simp at B
  ·cases m
 |some g=>
  obtain⟨rfl,m⟩:=G.DH d k u;have c:k<γ L:=(aF.1 u).1;have A:i.toNat*sz+off+1<=γ l*sz:=by
   calc i.toNat*sz+off+1<=i.toNat*sz+sz:=by omega
    _=(i.toNat+1)*sz:=by rw[dA]
    _<=γ l*sz:=YL _ B
  obtain⟨w',M,I⟩:=m.C6 (P:=P) (vs:=[v]) (j:=i.toNat*sz+off) (bE c) (by rw[d.flat];exact A) (by simpa using r) aA3;rw[XJ,WQ sz off d l i.toNat z v B E D,show γ l=γ (l.set i.toNat z) by simp]at I;obtain⟨o',q⟩:=I.Lt (k:=k) (l:=l.set i.toNat z) (bE c);rw[XJ]at q;have s:o'=θ g:=by
   obtain⟨O,_⟩:=q.res _ (aI (bE c));rcases O with⟨H,p,_⟩|⟨T,C,H,p,_⟩
   ·exfalso;have N:=p;have:γ (l.set i.toNat z)=0:=by rw[N];rfl
    rw[jJ]at this;omega
   ·simp at p;rw[p];exact H
  rw[s]at q;refine oP (w':=w') rfl rfl ?_ (h w' q);simp[ς,hx,J,Instr.storeAt,Instr.sureAddr,storeVar,K,b,M]
theorem qi(d:Hp w0 S L w)(k:Nat)(a:ε Γ)(m cap:Nat)(i:Int)(l:δ ζ)(c:ζ)(b:L[k]? =θ (gW (.slice a m cap) m l))(g:0<=i/\i<(γ l:Int))
  (hx:aX n F x=.pointer (θ (ea a (i.toNat*1)))) (e:aX n F y=bt c) (f:(sizeOf t).run P w=.ok 1 w)
  (h:∀w',Hp w0 S (L.set k (gW (.slice a m cap) m (l.set i.toNat c))) w'->W P n ops Q rest F w'):W P n ops Q (⟨ι,.store t x y,ty,pos,after,ι⟩::rest) F w:=
 ZW d k a m cap _ l c b (by have:=d.hV k b;omega) hx e f aA8
theorem X6{a b:ζ}:(a.toNat=(b.toNat:Int))↔a=b:=by
 constructor
 ·intro h;exact jI.1 aA0
 ·intro h;rw[h]
variable {a:ω}
theorem ZS(e b:ζ)(hx:aX n F x=bt e)(c:aX n F y=bt b):(ς (aX n F) (⟨θ d,.binOp .eql t x y a,ty,pos,after,ι⟩)).run P w=.ok (.value (.bool (decide (e=b)))) w:=by rw[ZG .u8 _ _ hx c];congr 3;exact bZ.2 X6
theorem ZN(e b:ζ)(hx:aX n F x=bt e)(c:aX n F y=bt b):(ς (aX n F) (⟨θ d,.binOp .neq t x y a,ty,pos,after,ι⟩)).run P w=.ok (.value (.bool (!decide (e=b)))) w:=by rw[YX .u8 _ _ hx c];congr 4;exact bZ.2 X6
theorem ZO(e b:ζ)(hx:aX n F x=bt e)(c:aX n F y=bt b):(ς (aX n F) (⟨θ d,.binOp .lss t x y a,ty,pos,after,ι⟩)).run P w=.ok (.value (.bool (decide (e<b)))) w:=by rw[YZ .u8 _ _ hx c];congr 3;exact bZ.2 (by rw[ca];omega)
theorem ZP(e b:ζ)(hx:aX n F x=bt e)(c:aX n F y=bt b):(ς (aX n F) (⟨θ d,.binOp .leq t x y a,ty,pos,after,ι⟩)).run P w=.ok (.value (.bool (decide (e<=b)))) w:=by rw[ZA .u8 _ _ hx c];congr 3;exact bZ.2 (by rw[wO];omega)
theorem ZQ(e b:ζ)(hx:aX n F x=bt e)(c:aX n F y=bt b):(ς (aX n F) (⟨θ d,.binOp .gtr t x y a,ty,pos,after,ι⟩)).run P w=.ok (.value (.bool (decide (b<e)))) w:=by rw[ZE .u8 _ _ hx c];congr 3;exact bZ.2 (by rw[ca];omega)
theorem ZR(e b:ζ)(hx:aX n F x=bt e)(c:aX n F y=bt b):(ς (aX n F) (⟨θ d,.binOp .geq t x y a,ty,pos,after,ι⟩)).run P w=.ok (.value (.bool (decide (b<=e)))) w:=by rw[ZF .u8 _ _ hx c];congr 3;exact bZ.2 (by rw[wO];omega)
theorem va(e b:ζ)(hx:aX n F x=bt e)(c:aX n F y=bt b):(ς (aX n F) (⟨θ d,.binOp .add t x y a,ty,pos,after,ι⟩)).run P w=.ok (.value (bt (e+b))) w:=by rw[ZJ .u8 _ _ hx c];congr 3
theorem ZK(e b:ζ)(hx:aX n F x=bt e)(c:aX n F y=bt b):(ς (aX n F) (⟨θ d,.binOp .sub t x y a,ty,pos,after,ι⟩)).run P w=.ok (.value (bt (e-b))) w:=by rw[YU .u8 _ _ hx c];unfold bt;rw[UInt8.toNat_sub,IntKind.wrap_u8];congr 3;have:=fI b;omega
theorem uy(e b:ζ)(hx:aX n F x=bt e)(c:aX n F y=bt b):(ς (aX n F) (⟨θ d,.binOp .mul t x y a,ty,pos,after,ι⟩)).run P w=.ok (.value (bt (e*b))) w:=by rw[YY .u8 _ _ hx c];congr 3
theorem ofInt_u8(a:ζ):BitVec.ofInt 8 a.toNat=a.toBitVec:=by simp
theorem uz(e b:ζ)(hx:aX n F x=bt e)(c:aX n F y=bt b):(ς (aX n F) (⟨θ d,.binOp .and t x y a,ty,pos,after,ι⟩)).run P w=.ok (.value (bt (e&&&b))) w:=by rw[qd .u8 _ _ hx c];congr 3;show IntKind.u8.wrap ((BitVec.ofInt 8 _&&&BitVec.ofInt 8 _).toNat)=_;rw[ofInt_u8,ofInt_u8,IntKind.wrap_u8];have:(e&&&b).toNat=(e.toBitVec&&&b.toBitVec).toNat:=rfl;omega
theorem x8_or(e b:ζ)(hx:aX n F x=bt e)(c:aX n F y=bt b):(ς (aX n F) (⟨θ d,.binOp .or t x y a,ty,pos,after,ι⟩)).run P w=.ok (.value (bt (e|||b))) w:=by rw[x_or .u8 _ _ hx c];congr 3;show IntKind.u8.wrap ((BitVec.ofInt 8 _|||BitVec.ofInt 8 b.toNat).toNat)=_;rw[ofInt_u8,ofInt_u8,IntKind.wrap_u8];have:(e|||b).toNat=(e.toBitVec|||b.toBitVec).toNat:=rfl;omega
def Ys(c:ζ)(i:Int):ζ:=qK (c.toNat/2^(min i.toNat 8))
def TU(c:ζ)(i:Int):ζ:=qK (c.toNat*2^(min i.toNat 8))
def XU(i:Int):ζ:=qK (i%256).toNat
theorem ZL(k:Ε)(i:ζ)(b:Int)(hx:aX n F x=bt i)(c:aX n F y=.int k b)(f:0<=b):(ς (aX n F) (⟨θ d,.binOp .shr t x y a,ty,pos,after,ι⟩)).run P w=.ok (.value (bt (Ys i b))) w:=by have e:(0:Int)<2^(min b.toNat IntKind.u8.bits):=Int.pow_pos aA1;rw[po .u8 k _ b _ hx c f rfl e];unfold bt Ys;congr 3;show(i.toNat:Int)/2^(min b.toNat 8)=_;have h:=fI i;have g:i.toNat/2^(min b.toNat 8)<=i.toNat:=Nat.div_le_self _ _;rw[iT,IT aA0];simp
theorem ZM(k:Ε)(g:ζ)(b:Int)(hx:aX n F x=bt g)(c:aX n F y=.int k b)(e:0<=b):(ς (aX n F) (⟨θ d,.binOp .shl t x y a,ty,pos,after,ι⟩)).run P w=.ok (.value (bt (TU g b))) w:=by rw[pq .u8 k _ b _ hx c e rfl];congr 3
theorem YT(k:Ε)(s:Int)(c:P.underlying t=θ (.int k))(b:P.underlying a=θ (.int .u8))(hx:aX n F x=.int k s):(ς (aX n F) (⟨θ d,.convert t a x,ty,pos,after,ι⟩)).run P w=.ok (.value (bt (XU s))) w:=by rw[JO .u8 k s c b hx];unfold bt XU;rw[IntKind.wrap_u8];congr 3;rw[iT];omega
theorem rK(e b:ζ)(hx:aX n F x=bt e)(c:aX n F y=bt b)(h:W P n ops Q rest (dQ F d (.bool (decide (e=b)))) w):W P n ops Q (⟨θ d,.binOp .eql t x y a,ty,pos,after,ι⟩::rest) F w:=fE rfl rfl (ZS e b hx c) h
theorem Cy(e b:ζ)(hx:aX n F x=bt e)(c:aX n F y=bt b)(h:W P n ops Q rest (dQ F d (.bool (!decide (e=b)))) w):W P n ops Q (⟨θ d,.binOp .neq t x y a,ty,pos,after,ι⟩::rest) F w:=fE rfl rfl (ZN e b hx c) h
theorem vf(e b:ζ)(hx:aX n F x=bt e)(c:aX n F y=bt b)(h:W P n ops Q rest (dQ F d (.bool (decide (e<b)))) w):W P n ops Q (⟨θ d,.binOp .lss t x y a,ty,pos,after,ι⟩::rest) F w:=fE rfl rfl (ZO e b hx c) h
theorem A3(e b:ζ)(hx:aX n F x=bt e)(c:aX n F y=bt b)(h:W P n ops Q rest (dQ F d (.bool (decide (e<=b)))) w):W P n ops Q (⟨θ d,.binOp .leq t x y a,ty,pos,after,ι⟩::rest) F w:=fE rfl rfl (ZP e b hx c) h
theorem vg(e b:ζ)(hx:aX n F x=bt e)(c:aX n F y=bt b)(h:W P n ops Q rest (dQ F d (.bool (decide (b<e)))) w):W P n ops Q (⟨θ d,.binOp .gtr t x y a,ty,pos,after,ι⟩::rest) F w:=fE rfl rfl (ZQ e b hx c) h
theorem A4(e b:ζ)(hx:aX n F x=bt e)(c:aX n F y=bt b)(h:W P n ops Q rest (dQ F d (.bool (decide (b<=e)))) w):W P n ops Q (⟨θ d,.binOp .geq t x y a,ty,pos,after,ι⟩::rest) F w:=fE rfl rfl (ZR e b hx c) h
theorem A2(e b:ζ)(hx:aX n F x=bt e)(c:aX n F y=bt b)(h:W P n ops Q rest (dQ F d (bt (e-b))) w):W P n ops Q (⟨θ d,.binOp .sub t x y a,ty,pos,after,ι⟩::rest) F w:=fE rfl rfl (ZK e b hx c) h
theorem vc(k:Ε)(s:Int)(c:P.underlying t=θ (.int k))(b:P.underlying a=θ (.int .u8))(hx:aX n F x=.int k s)(h:W P n ops Q rest (dQ F d (bt (XU s))) w):W P n ops Q (⟨θ d,.convert t a x,ty,pos,after,ι⟩::rest) F w:=fE rfl rfl (YT k s c b hx) h
theorem Gh(c:ζ):IntKind.wrap .i64 c.toNat=c.toNat:=by rw[IntKind.wrap_i64];have:=fI c;omega
theorem ur(e b:Int)(hx:aX n F x=.int .i64 e)(c:aX n F y=.int .i64 b)(g:0<=e/\0<b/\bK e):(ς (aX n F) (⟨θ d,.binOp .quo t x y a,ty,pos,after,ι⟩:Α)).run P w=.ok (.value (.int .i64 (e/b))) w:=
 py .i64 e b hx c g.1 g.2.1 (bjb (by have:=Int.ediv_nonneg g.1 (Int.le_of_lt g.2.1);omega) (by have:=Int.ediv_le_self b g.1;have:=g.2.2.2;omega))
theorem uq(e b:Int)(hx:aX n F x=.int .i64 e)(c:aX n F y=.int .i64 b)(g:0<=e/\0<b/\bK e):(ς (aX n F) (⟨θ d,.binOp .rem t x y a,ty,pos,after,ι⟩:Α)).run P w=.ok (.value (.int .i64 (e%b))) w:=
 pt .i64 e b hx c g.1 g.2.1 (bjb (by have:=Int.emod_nonneg e (show b≠0 by omega);omega) (by have:=Int.emod_nonneg e (show b≠0 by omega);have:e%b<=e:=(by rw[Int.emod_def];have:=Int.mul_nonneg (Int.le_of_lt g.2.1) (Int.ediv_nonneg g.1 (Int.le_of_lt g.2.1));omega);have:=g.2.2.2;omega))
end
theorem Hp.Gr{w0 w:ο}{S:δ Nat}{L:δ cB}{α:Type}{f:α->δ ξ}{e sz cap:Nat}{o:ε Nat}{a:ε Γ}{l:δ α}(h:Hp w0 S L w)(k:Nat)(b:L[k]? =θ (bN f e sz o a cap l)):γ l<=cap:=by
 obtain⟨d,_⟩:=h.res _ (aI b);rcases d with⟨_,rfl,rfl,_⟩|⟨g,i,_,_,_,c,_⟩
 ·exact dO _
 ·exact c
section
variable {P:Β}{n:Md}{ops:Array Α}{Q:Exit->Act->ο->Prop}{F:Nat->ξ}{w w0:ο}{S:δ Nat}{L:δ cB}
variable {d:Nat}{ty:ω}{pos:String}{after:Array Edge}{rest:δ Α}{α:Type}{f:α->δ ξ}
variable {t e:ω}
theorem RE(a:P.underlying t=θ (.slice e)):P.elem t=e:=by simp[Program.elem,a]
variable {x g:χ}
theorem JM(a:ε Γ)(m c e sz:Nat)(k:Ε)(j:Int)(h:P.underlying t=θ (.slice e))(p:(sizeOf e).run P w=.ok sz w)(hx:aX n F x=.slice a m c)(f:aX n F g=.int k j)(l:δ α)(r:m=γ l)
  (q:0<=j/\j<=γ l) (s:m<=c):(ς (aX n F) (⟨θ d,.slice t x ι (θ g) ι,ty,pos,after,ι⟩)).run P w=.ok (.value (.slice a j.toNat c)) w:=by
 have i:=RE h;have b:P.underlying t=θ (.slice (P.elem t)):=by rw[i];exact h
 have o:=run_slice_h w t a m c b k j q.1 aA0;rw[i,p]at o;simp only[ς,hx,f,Sem.run_bind,aj,Gd,run_sliceAt_slice w t _ _ _ _ b,o,sliced];cases a<;>simp[Addr.add]
theorem ZY{f:χ}(a:ε Γ)(m c e sz:Nat)(k:Ε)(j:Int)(g:P.underlying t=θ (.slice e))(i:(sizeOf e).run P w=.ok sz w)(hx:aX n F x=.slice a m c)(b:aX n F f=.int k j)(l:δ α)(o:m=γ l)
  (q:0<=j/\j<=(γ l:Int)) (p:m<=c) (h:W P n ops Q rest (dQ F d (.slice a j.toNat c)) w):W P n ops Q (⟨θ d,.slice t x ι (θ f) ι,ty,pos,after,ι⟩::rest) F w:=
 fE rfl rfl (JM a m c e sz k j g i hx b l o q p) h
def Yr(a:ε Γ)(cap b sz:Nat):ε Γ:=if cap=b then a else a.map (·.add (b*sz))
theorem Kl(a:ε Γ)(m c e sz:Nat)(k:Ε)(j:Int)(h:P.underlying t=θ (.slice e))(p:(sizeOf e).run P w=.ok sz w)(hx:aX n F x=.slice a m c)(f:aX n F g=.int k j)(l:δ α)(r:m=γ l)
  (q:0<=j/\j<=γ l):(ς (aX n F) (⟨θ d,.slice t x (θ g) ι ι,ty,pos,after,ι⟩)).run P w=.ok (.value (.slice (Yr a c j.toNat sz) (m-j.toNat) (c-j.toNat))) w:=by
 have i:=RE h;have b:P.underlying t=θ (.slice (P.elem t)):=by rw[i];exact h
 have o:=run_slice_l w t a m c b k j q.1 aA0;rw[i,p]at o;simp only[ς,hx,f,Sem.run_bind,aj,Gd,run_sliceAt_slice w t _ _ _ _ b,o,Result.andThen_ok,sliced,Yr,Sem.run_pure]
theorem ZZ{f:χ}(a:ε Γ)(m c e sz:Nat)(k:Ε)(j:Int)(g:P.underlying t=θ (.slice e))(i:(sizeOf e).run P w=.ok sz w)(hx:aX n F x=.slice a m c)(b:aX n F f=.int k j)(l:δ α)(o:m=γ l)
  (p:0<=j/\j<=(γ l:Int)) (h:W P n ops Q rest (dQ F d (.slice (Yr a c j.toNat sz) (m-j.toNat) (c-j.toNat))) w):W P n ops Q (⟨θ d,.slice t x (θ f) ι ι,ty,pos,after,ι⟩::rest) F w:=
 fE rfl rfl (Kl a m c e sz k j g i hx b l o p) h
theorem x_ixA[Inhabited α](f:α->δ ξ)(l:δ α)(m:Nat)(k:Ε)(i:Int)(cs:δ ξ)(v:ξ)(q:l.map f=cs.map (λc=>[c]))(o:P.underlying t=θ (.array m e))(z:γ l=m)(s:(isAgg e).run P w=.ok ν w)(p:(sizeOf e).run P w=.ok 1 w)
  (hx:aX n F x=.agg cs.toArray) (r:aX n F g=.int k i) (j:f (el l i)=[v]) (A:0<=i/\i<γ l):(ς (aX n F) (⟨θ d,.index t x g,ty,pos,after,ι⟩)).run P w=.ok (.value v) w:=by
 have y:i.toNat<γ l:=aA0;have a:(cs.map (λc=>[c]))[i.toNat]? =θ [v]:=by rw[<-q];rw[<-j];simp[el,y]
 have u:cs[i.toNat]? =θ v:=by
  rw[aY]at a;cases h:cs[i.toNat]? with
  |none=>rw[h]at a;simp at a
  |some c=>rw[h]at a;simp at a;rw[a]
 have b:0<=i/\i<m:=aA0;simp[ς,hx,r,Instr.index,asIntOf,run_underlying o,b,p,part,s,u]
theorem RD{w:ο}(d:Nat)(a b:aC)(h:P.underlying t=θ .string):(Op.equalIn (d+1) t (str a) (str b)).run P w=.ok (decide (a=b)) w:=by
 have e:((⟨a.toArray⟩:ByteArray).toList==(⟨b.toArray⟩:ByteArray).toList)=decide (a=b):=by rw[YP];simp
 unfold str;rw[run_equalIn_string w d t _ _ h,e]
def EqF(P:Β)(w:ο)(c a:δ ξ):δ Field->δ η->Prop
 |[],[]=>True
 | f :: e, b :: g => f.name ≠ "_" /\ (∃ u v, (part f.type c.toArray f.offset).run P w = .ok u w /\ (part f.type a.toArray f.offset).run P w = .ok v w /\ ∀ d, (Op.equalIn (d + 1) f.type u v).run P w = .ok b w) /\ EqF P w c a e g
 |_,_=>False
theorem BA{w:ο}{g e:δ ξ}(d:Nat):∀a c,EqF P w g e a c->(Op.eqFields (d+1) g.toArray e.toArray a).run P w=.ok (c.all id) w
 |[],[],_=>rfl
 |[],_::_,h=>h.elim
 |_::_,[],h=>h.elim
 |f::a,b::c,⟨n,⟨u,v,m,l,k⟩,j⟩=>by
  have i:=BA d a c j;simp only[Op.eqFields,n,ne_eq,not_false_eq_true,gG,Sem.run_bind,m,l,k d,Result.andThen_ok];cases b with
  |true=>simpa using i
  |false=>simp
variable {b:δ Field}
theorem ZI(y c:δ ξ)(f:δ η)(r:η)(p:P.underlying t=θ (.struct b.toArray))(k:P.stoodInHeld t=ν)(l:P.eqGuardType P.depth t=ν)(hx:aX n F x=.agg y.toArray)(i:aX n F g=.agg c.toArray)
  (m:EqF P w y c b f) (j:f.all id=r):(ς (aX n F) (⟨θ d,.binOp .eql t x g e,ty,pos,after,ι⟩)).run P w=.ok (.value (.bool r)) w:=by
 have a:P.fieldsOf t=b.toArray:=by simp[Program.fieldsOf,p]
 have h:=run_equalIn_agg w 9999 t y.toArray c.toArray (by rw[a];exact p) k;rw[a]at h;have o:=BA 9998 b f m;simp only[ς,hx,i,Sem.run_bind,run_eqGuard_agg w .eql t x g _ _ l,Result.andThen_ok,run_eql_struct,h,o,j];simp
theorem ZH(y c:δ ξ)(f:δ η)(r:η)(p:P.underlying t=θ (.struct b.toArray))(k:P.stoodInHeld t=ν)(l:P.eqGuardType P.depth t=ν)(hx:aX n F x=.agg y.toArray)(i:aX n F g=.agg c.toArray)
  (m:EqF P w y c b f) (j:f.all id=r):(ς (aX n F) (⟨θ d,.binOp .neq t x g e,ty,pos,after,ι⟩)).run P w=.ok (.value (.bool (!r))) w:=by
 have a:P.fieldsOf t=b.toArray:=by simp[Program.fieldsOf,p]
 have h:=run_equalIn_agg w 9999 t y.toArray c.toArray (by rw[a];exact p) k;rw[a]at h;have o:=BA 9998 b f m;simp only[ς,hx,i,Sem.run_bind,run_eqGuard_agg w .neq t x g _ _ l,Result.andThen_ok,run_neq_struct,h,o,j];simp
end
variable {w:ο}{a:ε Γ}{l:δ ζ}
theorem Rd.bytes(h:Rd w a (l.flatMap eB)):Rd w a (l.map bt):=lV l▸h
theorem Rd.dD(h:Rd w a (l.map bt)):Rd w a (l.flatMap eB):=(lV l).symm▸h
variable {e:Type}{g:Nat}{f:e->δ ξ}{c:δ e}
theorem Rd.takeT(b:qY f g)(m:Nat)(h:Rd w a (c.flatMap f)):Rd w a ((c.take m).flatMap f):=by
 have l:(c.take m).flatMap f=(c.flatMap f).take (γ (c.take m)*g):=by
  have:c.flatMap f=(c.take m).flatMap f++(c.drop m).flatMap f:=by rw[<-NN,NO]
  rw[this,<-b.flat _,fJ]
 rw[l];exact h.take _
variable {d:ο}{S:δ Nat}{L:δ cB}{b:δ ξ}
theorem Rd.XX(h:Rd w a b)(i:Hp w S L d)(c:b≠[]->∀p,a=θ p->p.block∉S):Rd d a b:=by
 cases b with
 |nil=>exact Rd.nil _ _
 |cons x b=>exact h.hpS i (c aA3)
theorem Rd.Wx(α:qY f g)(cap k:Nat)(d:γ c<=cap)(h:Rd w a (c.flatMap f)):Rd w (Yr a cap k g) ((c.drop k).flatMap f):=by
 unfold Yr;split
 ·rename_i l;rw[Rm aA0];exact Rd.nil _ _
 ·rw[<-Ez f g α.len c k];cases a with
  |none=>intro j v b;rw[bU]at b;obtain⟨p,hp,_⟩:=h _ v b;cases hp
  |some p=>exact h.drop _
theorem Hp.Bz{L1:δ cB}(h:Hp w S L d)(m:Nat)(n:Rd w a b)(s:b≠[]->∀p,a=θ p->p.block∉S)(o:L.take m=L1):
  b≠[]->∀p,a=θ p->p.block∉eK L1:=by
 intro hx p f j;obtain⟨r,i,l⟩:=nF j;subst o;have c:=(h.res r (Cn i)).2 p.block l;rcases c.2 with g|g
 ·cases b with
  |nil=>exact hx rfl
  |cons x b=>obtain⟨q,e,k⟩:=n 0 x rfl;rw[f]at e;cases e;have:=Bv k;rw[bjx]at this;omega
 ·exact s hx p f g
def jmp:Nat->ε Code
 |0=>ι
 |1=>θ .ret
 |n+2=>θ (.exit n)
def aq(j:Nat):LoopState:=if j=0 then .ready else .done
def eH(l j:Nat)(a:Loop):cB:=⟨θ l,λo=>o=θ (.loop {a with state:=aq j,pending:=jmp j})⟩
def Ni(l:Nat)(a:Loop):cB:=⟨θ l,λo=>∃b,o=θ (.loop {a with state:=.busy,pending:=b})⟩
def HP(r:Nat):cB:=⟨θ r,λo=>o=θ (.deferred (θ []))⟩
def gone(r:Nat):cB:=⟨θ r,λ_=>True⟩
theorem Hp.put(h:Hp w S L d)(k b:Nat)(r r':cB)(o:Obj)(g:L[k]? =θ r)(p:r.own=θ b)(a:r'.own=θ b)(m:r'.ok (θ o)):Hp w S (L.set k r') (d.putObj b o):=by
 have l:=((h.res _ (aI g)).2 b p).1;refine h.change k _ _ g rfl rfl rfl aA3 (λj n f=>World.putObj_heap_other (λe=>f (by rw[p,e]))) ?_ (λc i=> ?_)
 ·unfold cB.holds;rw[a];simp;rw[World.putObj_heap_same l];exact m
 ·rw[a]at i;cases i;exact⟨.inl p,aE7⟩
theorem Hp.BY(h:Hp w S L d)(o:Obj)(r:cB)(a:r.own=θ d.heap.size)(i:r.ok (θ o)):Hp w S (r::L) (d.alloc o):=by
 have f:Hp d [] [r] (d.alloc o):=by
  refine⟨rfl,rfl,rfl,aA3,λk e _=>RowKit.Below.heap_alloc d _ k e,λx hx=> ?_,aA3⟩;simp at hx;subst hx;refine⟨?_,λb c=> ?_⟩
  ·unfold cB.holds;rw[a];show x.ok ((d.heap.push o)[d.heap.size]?);simpa using i
  ·rw[a]at c;cases c;simp
 exact h.lX f
def YR(P:Β)(l:Nat)(args:δ ξ)(w:ο)(R:ξ->ο->Prop):Prop:=
 ∃f a dT b,(Instr.yield l args.toArray).run P w=.ok (.round l f a dT b) w/\RoundIn Fence.wide 0 P l f a dT b w (λe w'=>∃v,e=.returned v/\R v w')
theorem YR.mono{P:Β}{l:Nat}{args:δ ξ}{w:ο}{R b:ξ->ο->Prop}(h:YR P l args w R)(d:∀v w',R v w'->b v w'):YR P l args w b:=by obtain⟨f,a,dT,k,j,i⟩:=h;exact⟨f,a,dT,k,j,i.mono λe w' ⟨v,c,g⟩=>⟨v,c,d v w' g⟩⟩
section
variable {P:Β}{ops:Array Α}{Q:Exit->Act->ο->Prop}{F:Nat->ξ}{w w0:ο}{S:δ Nat}{L:δ cB}
variable {d:Nat}{ty:ω}{pos:String}{after:Array Edge}{rest:δ Α}{k:Nat}{D:δ Deferred}{ro:ε Nat}
variable {g:χ}
theorem Jh{dT:Array χ}{c:Array ω}(l:Nat)(vs:δ ξ)(R:ξ->ο->Prop)
  (m:aX ⟨k,D,θ ro⟩ F g=.func (.yield l) #[] #[]) (p: #[]++dT.map (aX ⟨k,D,θ ro⟩ F)++ #[]=vs.toArray) (o:YR P l vs w R) (h:∀v w',R v w'->W P ⟨k,D,θ ro⟩ ops Q rest (dQ F d v) w'):
  W P ⟨k,D,θ ro⟩ ops Q (⟨θ d,.call ⟨.value g,dT,c⟩,ty,pos,after,ι⟩::rest) F w:=by
 obtain⟨f,b,i,t,s,r⟩:=o;have a:(ς (aX ⟨k,D,θ ro⟩ F) (⟨θ d,.call ⟨.value g,dT,c⟩,ty,pos,after,ι⟩:Α)).run P w=.ok (.round l f b i t) w:=by simp only[ς,resolve,m,Deferred.ofValue];show Sem.run P (Instr.yield l (#[]++dT.map (aX ⟨k,D,θ ro⟩ F)++ #[])) w=_;rw[p];exact s
 unfold W WR;refine wpListIn_plain rfl λK q=>⟨λ_ _=>trivial, ?_⟩;rw[RY,uA _ a (λd e=>by cases e),a,Oper.uponIn_round];refine⟨λh=>absurd h Bool.false_ne_true, ?_⟩;refine RoundIn.mono (F:=Fence.wide) (n:=0) r ?_;rintro e w' ⟨v,rfl,j⟩;refine q _ _ ?_;have:=h v w' j;unfold W WR at this;rw[<-kL]at this;exact this
variable {e:FuncId}{c:Func}{f:Code}{a:δ ξ}{R:ξ->ο->Prop}
theorem MD(d:P.funcs[e]? =θ c)(g:c.body=θ f)(i:c.ntmps=k)(b:γ a<=k)
  (h:C P ⟨k,[],θ ι⟩ (bodyPost P c λj w'=>∃v,j=.returned v/\R v w') f (MS a) w):CR P e a w R:=by
 refine(callsIn_wide (n:=0)).1 (callsIn_of_wp d g trivial ?_);rw[i,AX a k b];unfold C CC at h;exact h
theorem MC(d:P.funcs[e]? =θ c)(g:c.body=θ f)(i:c.ntmps=k)(b:γ a<=k)
  (h:C P ⟨k,[],θ ι⟩ (bodyPostM Fence.wide 0 P c λj w'=>∃v,j=.returned v/\R v w') f (MS a) w):CR P e a w R:=by
 refine(callsIn_wide (n:=0)).1 (callsIn_of_wp_marks d g trivial ?_);rw[i,AX a k b];unfold C CC at h;exact h
def mark(r:Nat):Deferred:={target:=.collected r,args:= #[]}
theorem yj(h:∃v,(results c (fr ⟨k,[],ι⟩ F).tmps).run P w=.ok v w/\R v w):
  bodyPostM Fence.wide 0 P c (λe w'=>∃v,e=.returned v/\R v w') .ret (fr ⟨k,[],θ ι⟩ F) w:=by
 obtain⟨v,b,a⟩:=h;exact⟨v,b,v,rfl,a⟩
theorem yi(i:Hp w0 S L w)(a r:Nat)(b:L[a]? =θ (HP r))(h:∀w',Hp w0 S (L.set a (gone r)) w'->∃v,(results c (fr ⟨k,[],ι⟩ F).tmps).run P w'=.ok v w'/\R v w'):
  bodyPostM Fence.wide 0 P c (λe w'=>∃v,e=.returned v/\R v w') .ret (fr ⟨k,[mark r],θ ι⟩ F) w:=by
 have d:=(i.res _ (aI b)).1;obtain⟨v,g,f⟩:=h _ (i.put a r _ _ _ b rfl rfl trivial);exact⟨aA3,.inl ⟨r,_,rfl,run_takeDeferred d,v,g,v,rfl,f⟩⟩
theorem PH{c:Nat}{fn:Func}{R:ξ->ο->Prop}(l:δ ResultVar)(vs:δ ξ)(v:ξ)(f:fn.results=l.toArray)(g:γ l=γ vs)
  (e:∀(i:Nat) (x:ResultVar) (v:ξ),l[i]? =θ x->vs[i]? =θ v->Xu P c F w x v) (b:(match vs with|[u]=>u|d=>.tuple d.toArray)=v) (h:R v w):
  ∃v,(results fn (fr ⟨c,[],ι⟩ F).tmps).run P w=.ok v w/\R v w:=⟨v,rU l vs f g e v aD1,h⟩
theorem Nd{fn:Func}{R:ξ->ο->Prop}(l:δ ResultVar)(vs:δ ξ)(v:ξ)(f:fn.results=l.toArray)(g:γ l=γ vs)
  (d:∀(i:Nat) (x:ResultVar) (v:ξ),l[i]? =θ x->vs[i]? =θ v->Xu P k F w x v) (b:(match vs with|[u]=>u|c=>.tuple c.toArray)=v) (h:R v w):
  bodyPostM Fence.wide 0 P fn (λe w'=>∃v,e=.returned v/\R v w') .ret (fr ⟨k,[],θ ι⟩ F) w:=
 yj (PH l vs v f g d aD1 h)
theorem AF{fn:Func}{R:ξ->ο->Prop}(o:Hp w0 S L w)(c r:Nat)(n:L[c]? =θ (HP r))(l:δ ResultVar)(vs:δ ξ)(v:ξ)(j:fn.results=l.toArray)(m:γ l=γ vs)
  (g:∀w',Hp w0 S (L.set c (gone r)) w'->∀(i:Nat) (x:ResultVar) (v:ξ),l[i]? =θ x->vs[i]? =θ v->Xu P k F w' x v) (b:(match vs with|[u]=>u|f=>.tuple f.toArray)=v) (h:∀w',Hp w0 S (L.set c (gone r)) w'->R v w'):
  bodyPostM Fence.wide 0 P fn (λe w'=>∃v,e=.returned v/\R v w') .ret (fr ⟨k,[mark r],θ ι⟩ F) w:=
 yi o c r n λw' d=>PH l vs v j m (g w' d) aD1 (h w' d)
def RgQ(P:Β)(k r:Nat)(Q:Exit->Act->ο->Prop)(F:Nat->ξ)(j:Nat)(w:ο):Prop:=
 match jmp j with
 |none=>Q .normal (fr ⟨k,[mark r],θ ι⟩ F) w
 |some c=>C P ⟨k,[mark r],θ ι⟩ Q c F w
variable {l:Nat}
theorem rg0{j:Nat}(a:j=0)(h:Q .normal (fr ⟨k,[mark l],θ ι⟩ F) w):RgQ P k l Q F j w:=by subst a;exact h
theorem rg1{j:Nat}(a:j=1)(h:C P ⟨k,[mark l],θ ι⟩ Q .ret F w):RgQ P k l Q F j w:=by subst a;exact h
theorem tH{b:Array Tmp}{assign body:Code}(A:Hp w0 S L w)(f:Nat)(cap:δ ξ)(x:aX ⟨k,[],θ ι⟩ F g=.func (.func f) #[] cap.toArray)(B:Enters P f)
  (h:∀r l a q,a.assign=assign->a.body=body->a.params=b->a.tmps=(fr ⟨k,[],θ ι⟩ F).tmps->Hp w0 S (eH l 0 a::HP r::L) q->
   CR P f (.func (.yield l) #[] #[]::cap) q λ_ i=>∃j o,Hp w0 S (eH l j a::o) i/\∀p,Hp w0 S o p->RgQ P k r Q F j p):
  C P ⟨k,[],θ ι⟩ Q (.rangeFunc g b assign body) F w:=by
 unfold C CC;refine wpIn_rangeFunc λfn _=> ?_;have n:=A.BY _ (HP w.heap.size) rfl rfl;have m:=n.BY _ (eH (w.heap.size+1) 0 {state:=.ready,pending:=ι,fn:=fn,tmps:=(fr ⟨k,[],θ ι⟩ F).tmps,params:=b,assign:=assign,body:=body,defers:=w.heap.size}) (by simp[eH]) rfl;have y:=h w.heap.size _ _ _ rfl rfl rfl rfl m;refine⟨w.heap.size+1,[mark w.heap.size],((w.alloc _).alloc _),{target:=.fn (.func f) cap.toArray,args:= #[]++ #[.func (.yield (w.heap.size+1)) #[] #[]]},((w.alloc (.deferred (θ []))).alloc (.loop {state:=.ready,pending:=ι,fn:=fn,tmps:=(fr ⟨k,[],θ ι⟩ F).tmps,params:=b,assign:=assign,body:=body,defers:=w.heap.size})),f,(Θ (.yield (w.heap.size+1)) #[] #[]::cap).toArray,((w.alloc (.deferred (θ []))).alloc (.loop {state:=.ready,pending:=ι,fn:=fn,tmps:=(fr ⟨k,[],θ ι⟩ F).tmps,params:=b,assign:=assign,body:=body,defers:=w.heap.size})),run_enterLoop_outer fn _ _ _ _, ?_,λ_ _=>trivial, ?_,λh=>absurd h Bool.false_ne_true, ?_⟩
 ·rw[RY];simp only[resolve,x];simp;rfl
 ·have e:(#[]++ #[Θ (.yield (w.heap.size+1)) #[] #[]]:Array ξ)++cap.toArray=(Θ (.yield (w.heap.size+1)) #[] #[]::cap).toArray:=by simp
  rw[<-e];exact B.run _ _
 ·refine(callsIn_wide).2 (Calls.mono y ?_);rintro e i ⟨v,rfl,j,o,s,E⟩;have u:i.heap[w.heap.size+1]? =_:=(s.res _ (gK)).1;have z:aq j≠.busy:=by unfold aq;split<;>simp
  refine⟨jmp j,_,run_endLoop u z, ?_⟩;have D:=(s.put 0 _ _ (gone _) (.loop {({state:=.ready,pending:=ι,fn:=fn,tmps:=(fr ⟨k,[],θ ι⟩ F).tmps,params:=b,assign:=assign,body:=body,defers:=w.heap.size}:Loop)with state:=.exhausted,pending:=jmp j}) rfl rfl rfl trivial).tail;have d:=E _ D;unfold RgQ at d;revert d;generalize jmp j=t;intro d;cases t with
  |none=>exact d
  |some c=>unfold C CC at d;exact d
def Yd(F:Nat->ξ):δ Nat->δ ξ->Nat->ξ
 |p::b,v::a=>Yd (dQ F p v) b a
 |_,_=>F
theorem Ug(m:Md):∀a vs F,(a.zip vs).foldl (λt x=>t.setIfInBounds x.1 x.2) (fr m F).tmps=(fr m (Yd F a vs)).tmps
 |[],_,F=>by simp[Yd]
 |_::_,[],F=>by simp[Yd]
 |p::a,v::vs,F=>by simp only[List.zip_cons_cons,List.foldl_cons,Yd];rw[<-Ug m a vs _];congr 1;have:=kL m F p v;exact bF Act.tmps this
def AsgQ(P:Β)(l:Nat)(c:Code)(R:ξ->ο->Prop):Exit->Act->ο->Prop:=
 Exit.then (λd b=>∃a,(Instr.beginRound l).run P b=.ok () a/\c.wpIn (Ti (θ l)) 0 P (roundPost P l λe w'=>∃v,e=.returned v/\R v w') d a) (λ_ _ _=>False)
def z8(P:Β)(l:Nat)(R:ξ->ο->Prop):Exit->Act->ο->Prop:=roundPost P l λe w'=>∃v,e=.returned v/\R v w'
variable {b:Loop}
theorem Kj{c:δ Nat}{m:ε (ε Nat)}{t:Code}(q:Hp w0 S L w)(kl:Nat)(n:L[kl]? =θ (eH l 0 b))(p:b.assign=f)(o:b.body=t)(d:b.params=c.toArray)(g:b.tmps=(fr ⟨k,[],m⟩ F).tmps)(j:γ c=γ a)
  (h:C P ⟨k,[],θ (θ l)⟩ (AsgQ P l t R) f (Yd F c a) w):YR P l a w R:=by
 have i:=(q.res _ (aI n)).1;subst p;subst o;refine⟨b.fn,_,b.assign,b.body,run_yield (r:={b with state:=aq 0,pending:=jmp 0}) i (by simp[d,j]), ?_⟩;refine roundIn_of_wpIn trivial ?_;have e:(({b with state:=aq 0,pending:=jmp 0}:Loop).params.zip a.toArray).foldl (λtmps x=>tmps.setIfInBounds x.1 x.2) ({b with state:=aq 0,pending:=jmp 0}:Loop).tmps=(fr ⟨k,[],θ (θ l)⟩ (Yd F c a)).tmps:=by rw[d,g];have:=Ug ⟨k,[],m⟩ c a F;rw[show(fr ⟨k,[],θ _⟩ _).tmps=(fr ⟨k,[],m⟩ (Yd F c a)).tmps from rfl,<-this];simp
 unfold C CC at h;have s:fr ⟨k,[],θ _⟩ _={tmps:=(fr ⟨k,[],θ (θ l)⟩ (Yd F c a)).tmps,defers:=[]}:=rfl;rw[s,<-e]at h;exact h
theorem Ql(d:Hp w0 S L w)(kl:Nat)(c:L[kl]? =θ (eH l 0 b))(h:∀a,Hp w0 S (L.set kl (Ni l b)) a->C P ⟨k,[],θ (θ l)⟩ (z8 P l R) f F a):
  AsgQ P l f R .normal (fr ⟨k,[],θ (θ l)⟩ F) w:=by
 have g:=(d.res _ (aI c)).1;have e:=h _ (d.put kl l _ _ (.loop {b with state:=.busy,pending:=jmp 0}) c rfl rfl ⟨_,rfl⟩);unfold C CC z8 at e;exact⟨_,run_beginRound g rfl,e⟩
theorem OW(j:Nat)(e:Hp w0 S L w)(kl:Nat)(d:L[kl]? =θ (Ni l b))(h:∀w',Hp w0 S (L.set kl (eH l j b)) w'->R (.bool (decide (j=0))) w'):
  ∃v w',(Instr.endRound l (jmp j)).run P w=.ok v w'/\∃u,Ending.returned v=.returned u/\R u w':=by
 obtain⟨k,f⟩:=(e.res _ (aI d)).1;have a:=f;have c:(jmp j).isNone=decide (j=0):=by
  cases j with
  |zero=>rfl
  |succ n=>cases n<;>rfl
 have i:(if(jmp j).isNone=μ then LoopState.ready else .done)=aq j:=by rw[c];unfold aq;simp
 refine⟨_,_,run_endRound _ a,_,rfl, ?_⟩;rw[c];refine h _ ?_;have g:=e.put kl l _ (eH l j b) (.loop {b with state:=aq j,pending:=jmp j}) d rfl rfl rfl;rw[<-c,i];exact g
theorem oW(c:Hp w0 S L w)(kl:Nat)(a:L[kl]? =θ (Ni l b))(h:∀w',Hp w0 S (L.set kl (eH l 0 b)) w'->R (.bool μ) w'):z8 P l R .normal (fr ⟨k,[],θ (θ l)⟩ F) w:=OW 0 c kl a h
theorem OV(c:Hp w0 S L w)(kl:Nat)(a:L[kl]? =θ (Ni l b))(h:∀w',Hp w0 S (L.set kl (eH l 1 b)) w'->R (.bool ν) w'):z8 P l R .ret (fr ⟨k,[],θ (θ l)⟩ F) w:=OW 1 c kl a h
end
attribute [irreducible] RgQ AsgQ z8
open List renaming replicate → iZ
open Nat renaming blt → fL
open _root_.Array renaming replicate → IY
def NoD(ops:Array Α):Prop:=∀(j:Nat) o c,ops[j]? =θ o->o.op≠.defer c
def NoPD(ops:Array Α)(Q:Exit->Act->ο->Prop):Prop:=IP Q/\NoD ops
section
variable {P:Β}{ops:Array Α}{Q:Exit->Act->ο->Prop}{md:Region.Mode}{S:Nat->ο->ο->Prop}{x:ε Nat}
variable {o:Α}{w:ο}
theorem pO{x:ε Nat}{ρ:χ->ξ}:∀f,o.about P w ρ=θ f->(Ti x).fn f:=λ_ _=>trivial
variable {a:ο->Prop}{i:Nat}{v:ξ}{b:Act}{K:Act->ο->Prop}
theorem _root_.Go.YieldsIf.qf(f:ops[i]? =θ o)(g:∀c,o.op≠.defer c)(j:a w)(d:YieldsIf P ops a o v b)(h:K (b.put o.dst v) w):wpOpIn (Ti x) 0 P ops Q i K b w:=by
 unfold wpOpIn;simp only[f];rcases d with⟨k,e⟩|⟨k,rfl⟩
 ·simp only[k,Oper.wpIn,Oper.semAt_eq _ _ _ g,e w j];exact⟨pO,h⟩
 ·simp only[k];exact⟨pO,h⟩
theorem Ya{H:Α}(G:ops[i]? =θ H)(A:o.apart ops H=μ)
  (z:∀cs j,o.op≠.select cs j) (t:∀cs j,H.op≠.select cs j) (q:∀c,H.op≠.defer c)
  (B:∀c b w,Q (.panic c) (b.put o.dst v) w->Q (.panic c) b w)   
  (k:YieldsIf P ops a o v b) (h:wpOpIn (Ti x) 0 P ops Q i K (b.put o.dst v) w):
  wpOpIn (Ti x) 0 P ops Q i (λa' w'=>YieldsIf P ops a o v a'/\K (a'.put o.dst v) w') b w:=by
 obtain⟨E,I,D⟩:=Oper.apart_spec A;have g:∀b,YieldsIf P ops a o v b->∀u,YieldsIf P ops a o v _:=λb k u=>
  k.of_same (execOp_put o z b H.dst u D) (wanted_put o b H.dst u D)
 have n:∀d,YieldsIf P ops a o v {b with defers:=d::b.defers}:=λd=>k.of_same rfl rfl;unfold wpOpIn at*;simp only[G]at*;rw[wanted_put H b o.dst v E]at h;split
 ·rename_i s;simp only[s]at h;refine⟨pO, ?_⟩;have h:=h.2;rw[Oper.semAt_eq _ _ _ q,execOp_put H t b o.dst v E]at h;rw[Oper.semAt_eq _ _ _ q];generalize(ς b.eval H).run P w=r at*
  cases r with
  |ok y w'=>
   cases y<;>simp only[Oper.uponIn]at h⊢
   case value u=>exact⟨g b k u,by rw[<-Act.put_comm b v u I];exact h⟩
   case skip=>exact⟨g b k _,by rw[<-Act.put_comm b v undef I];exact h⟩
   case defer d=>
    refine⟨g _ (n d) _, ?_⟩;rw[<-Act.put_comm _ v undef I,<-Act.put_defers];exact h
   case enter f args=>
    refine⟨h.1,CallsIn.mono h.2 λe p m=> ?_⟩;cases e with
    |returned u=>exact⟨g b k u,by rw[<-Act.put_comm b v u I];exact m⟩
    |panicked c=>exact B _ _ _ m
    |outgrown=>exact m
   case row row args=>exact⟨h.1,RowsIn.mono h.2 λu p m=>⟨g b k u,by rw[<-Act.put_comm b v u I];exact m⟩⟩
   case round l f C assign F=>
    refine⟨h.1,RoundIn.mono h.2 λe p m=> ?_⟩;cases e with
    |returned u=>exact⟨g b k u,by rw[<-Act.put_comm b v u I];exact m⟩
    |panicked c=>exact B _ _ _ m
    |outgrown=>exact m
  |halt y w'=>
   cases y<;>simp only[Oper.uponIn]at h⊢
   case panic u=>exact B _ _ _ h
 ·rename_i s;simp only[s]at h;exact⟨pO,g b k _,by rw[<-Act.put_comm b v undef I];exact h.2⟩
theorem rJ{Q':Exit->Act->ο->Prop}:∀l k listed a w,(∀j,l[j]? =ops[k+j]?)->
  Region.seqB md ops (γ l) k listed=μ->wpListIn (Ti x) 0 P ops Q' l a w->wpAnyIn (Ti x) 0 P md ops Q' (γ l) listed a w
 |[],_,_,_,_,_,b,h=>⟨by simpa [Region.seqB] using b,h⟩
 |o::l,k,listed,a,w,d,b,h=>by
  have m:ops[k]? =θ o:=by simpa using (d 0).symm
  simp only[cN,Region.seqB,lA,aW]at b;refine⟨λf=>(by rw[b.1]at f;cases f),λi e=> ?_⟩;rw[b.1]at e;have c:i=k:=aE2;subst c;have g:wpOpIn (Ti x) 0 P ops Q' i (wpListIn (Ti x) 0 P ops Q' l) a w:=by unfold wpOpIn;simp only[m];exact h
  exact wpOpIn_mono (λa' w' n=>rJ l _ _ a' w' (λj=>by have:=d (j+1);simpa [Ct,Hv 1 j] using this) b.2 n) g
def Cv(x:ε Nat)(P:Β)(md:Region.Mode)(ops:Array Α)(Q:Exit->Act->ο->Prop)(S:Nat->ο->ο->Prop)(k:Nat)(Z:Act->ο->Prop):Nat->Array η->Act->ο->Prop
 |0,listed,a,w=>Region.seqB md ops (ops.size-k) k listed=μ/\Z a w
 |f+1,listed,a,w=>Ζ md ops listed≠[]/\∀i∈Ζ md ops listed,i<k/\wpOpIn (Ti x) 0 P ops Q i (λa' w'=>S i w w'/\Cv x P md ops Q S k Z f (listed.setIfInBounds i μ) a' w') a w
theorem EJ{k:Nat}{Z:Act->ο->Prop}(d:k<=ops.size)(c:∀a w,Z a w->wpListIn (Ti x) 0 P ops Q (ops.toList.drop k) a w):
  ∀f listed a w,Cv x P md ops Q S k Z f listed a w->wpAnyIn (Ti x) 0 P md ops Q (f+(ops.size-k)) listed a w
 |0,listed,a,w,h=>by have b:γ (ops.toList.drop k)=ops.size-k:=aA3;have:=rJ (Q':=Q) (ops.toList.drop k) k listed a w (λj=>by simp) (by rw[b];exact h.1) (c a w h.2);rw[b]at this;rw[Jd];exact this
 |f+1,listed,a,w,h=>by rw[show f+1+(ops.size-k)=(f+(ops.size-k))+1 by omega];exact⟨λg=>absurd g h.1,λi e=>wpOpIn_mono (λa' w' l=>EJ d c f _ a' w' l.2) (h.2 i e).2⟩
theorem KV{Z:Nat}(Si:ο->Prop)(D:δ Nat)(hD:Pu md ops Z D=μ)(U:∀j w w',S j w w'->eL D Si j w w')(I:ops[Z]? =θ o)(y:∀(j:Nat) k cs b,ops[j]? =θ k->k.op≠.select cs b)
  (hQ:∀c a w,Q (.panic c) (a.put o.dst v) w->Q (.panic c) a w) (C:NoD ops) (a1:Z<i)
  (l:∀listed:Array η,HeadInv md ops i listed->listed.getD Z μ=ν->∀t,i<=t->t∉Ζ md ops listed):
  ∀f listed a w,HeadInv md ops i listed->
   (∀j u,ops[j]? =θ u->j≠Z->listed.getD j μ=ν->(∀e∈u.after,Region.binds md e=μ->e.on≠Z)->o.apart ops u=μ)->
   Z∈Ζ md ops listed->YieldsIf P ops Si o v a->Si w->(∀j w,S j w w)->
   Cv x P md ops Q S i K f (listed.setIfInBounds Z μ) (a.put o.dst v) w->Cv x P md ops Q S i K (f+1) listed a w:=by
 intro f;induction f with
 |zero=>
  intro listed a w n g z a0 L s H;have p:=(mem_ready.1 z).1;refine⟨λV=>(by rw[V]at z;cases z),λj B=> ?_⟩
  have q:j<i:=by
   rcases tQ j i with h|h
   ·exact h
   ·exact absurd B (l listed n p j h)
  by_cases d:j=Z
  ·subst d;exact⟨q,a0.qf I (λc=>C j o c I) L ⟨s _ _,H⟩⟩
  ·have W:=seqB_ready H.1 j (ready_mono B d);omega
 |succ f Y=>
  intro listed a w n g z a0 L s H;have p:=(mem_ready.1 z).1;refine⟨λV=>(by rw[V]at z;cases z),λj B=> ?_⟩
  have q:j<i:=by
   rcases tQ j i with h|h
   ·exact h
   ·exact absurd B (l listed n p j h)
  by_cases d:j=Z
  ·subst d;exact⟨q,a0.qf I (λc=>C j o c I) L ⟨s _ _,H⟩⟩
  ·have W:=(H.2 j (ready_mono B d)).2;have T:=Pt hD n p B;obtain⟨A,u,r,J⟩:=mem_ready.1 B;have F:∀e∈u.after,Region.binds md e=μ->e.on≠Z:=λe he hb heq=>by have N:=J e he hb;rw[heq,getD_both p]at N;cases N
   have N:=Ya r (g j u r d A F) (λcs b=>y Z o cs b I) (λcs b=>y j u cs b r) (λc=>C j u c r) hQ a0 W;refine⟨q,wpOpIn_mono (λa' w' M=>⟨M.2.1,Y _ a' w' (n.set B q) (λm X hm R E O=>g m X hm R ?_ O) (ready_mono z (Ne.symm d)) M.1 (U j _ w' M.2.1 (by simpa using T) L) s ?_⟩) N⟩
   ·by_cases G:j=m
    ·subst G;exact A
    ·rw[getD_set_ne μ G]at E;exact E
   ·rw[Array.setIfInBounds_comm _ _ d];exact M.2.2
end
section
variable {P:Β}{kn:Nat}{kD:δ Deferred}{ops:Array Α}{Q:Exit->Act->ο->Prop}{S:Nat->ο->ο->Prop}{Si:ο->Prop}{F:Nat->ξ}{w:ο}{x:ε Nat}
def RI(x:ε Nat)(P:Β)(n:Md)(ops:Array Α)(Q:Exit->Act->ο->Prop)(S:Nat->ο->ο->Prop)(k f:Nat)(listed:δ η)(F:Nat->ξ)(w:ο):Prop:=
 HeadInv .any ops k listed.toArray->(∀j w,S j w w)->NoPD ops Q->Cv x P .any ops Q S k (λa w=>wpListIn (Ti x) 0 P ops Q (ops.toList.drop k) a w) f listed.toArray (fr n F) w
def RKI(x:ε Nat)(P:Β)(n:Md)(ops:Array Α)(Q:Exit->Act->ο->Prop)(S:Nat->ο->ο->Prop)(k f:Nat)(listed:δ η)(i:Nat)(w:ο):Exit->Act->ο->Prop:=
 Exit.then (λa' w'=>∃a,a'=fr n a/\S i w w'/\RI x P n ops Q S k f listed a w') Q
variable {b:ο}{k:Nat}
theorem X4{S0:δ Nat}{L:δ cB}{l:δ Α}(u:Nat)(S:Nat->ο->ο->Prop)(listed:δ η)(s:∀j w,S j w w)(m:P.follows .mixedOrders=μ)(f:Fq l.toArray u=μ)
  (p:Hp b S0 L w) (d:iZ (γ l) ν=listed) (o:NoPD l.toArray Q) (h:∀w',Hp b S0 L w'->RI x P ⟨kn,kD,θ x⟩ l.toArray Q S u u listed F w'):C P ⟨kn,kD,θ x⟩ Q (.region k l.toArray μ) F w:=by
 unfold C CC;have n:u<=l.toArray.size:=by simp only[Fq,lA,aW]at f;exact f.1.2
 have c:HeadInv .any l.toArray u (IY l.toArray.size ν):=
  ⟨aA3,λj r _ d=>(by rw[getD_replicate_false]at d;cases d),λt _ i=>getD_in (by simpa using i) (getD_replicate_false _ _)⟩
 have e:listed.toArray=IY l.toArray.size ν:=by subst d;simp
 refine wpIn_region_any m ?_;have q:=h _ p.RL (by rw[e];exact c) s o;have g:=EJ n (λa w h=>h) u _ _ _ q;rw[e,show u+(l.toArray.size-u)=l.toArray.size by omega]at g;exact g
variable {f:Nat}{a:δ η}
theorem J2(b:δ η)(i d:Nat)(v:ξ)(D:δ Nat)(t:∀j w w',S j w w'->eL D Si j w w')(o:Α)(y:ops[i]? =θ o)(C:o.dst=θ d)(r:Fq ops k=μ)(G:Pu .any ops i D=μ)(m:Region.free .any ops a.toArray i=μ)
  (A:(Ζ .any ops a.toArray).contains i=μ) (s:fL i k=μ) (B:a.set i μ=b) (z:YieldsIf P ops Si o v (fr ⟨kn,kD,θ x⟩ F)) (E:Si w)
  (h:RI x P ⟨kn,kD,θ x⟩ ops Q S k f b (dQ F d v) w):RI x P ⟨kn,kD,θ x⟩ ops Q S k (f+1) a F w:=by
 intro n e u;have g:i<k:=by simpa [iV] using s
 have q:i∈Ζ .any ops a.toArray:=by simpa using A
 have p:Region.noSelect ops=μ:=by simp only[Fq,lA]at r;exact r.1.1
 refine KV Si D G t y (Region.noSelect_spec p) (λc H w h=>absurd h (u.1 c _ w)) u.2 g (rO r g) f _ _ _ n (Region.free_spec y m) q z E e ?_;have l:=n.set q g;rw[oV,B]at l⊢;have:=h l e u;rw[<-kL,<-C]at this;exact this
theorem EV{o:Α}{K:Act->ο->Prop}{a:Act}(c:ops[k]? =θ o)(h:wpListIn (Ti x) 0 P ops (Exit.then K Q) [o] a w):wpOpIn (Ti x) 0 P ops Q k K a w:=by
 unfold wpOpIn;simp only[c];unfold wpListIn at h;split
 ·rename_i b;rw[aB b]at h;refine⟨h.1, ?_⟩;have h:=h.2;generalize(o.semAt (Ti x).round a.eval).run P w=r at*
  cases r with
  |ok y w'=>cases y<;>exact h
  |halt y w'=>cases y<;>exact h
 ·rename_i b;rw[aA b]at h;exact h
theorem fz(b:δ η)(i:Nat)(o:Α)(m:ops[i]? =θ o)(n:a.set i μ=b)(g:HeadInv .any ops k a.toArray)(d:∀j w,S j w w)(r:NoPD ops Q)
  (l:i∈Ζ .any ops a.toArray) (e:i<k) (h:W P ⟨kn,kD,θ x⟩ ops (RKI x P ⟨kn,kD,θ x⟩ ops Q S k f b i w) [o] F w):
  i<k/\wpOpIn (Ti x) 0 P ops Q i (λa' w'=>S i w w'/\Cv x P .any ops Q S k (λt w=>wpListIn (Ti x) 0 P ops Q (ops.toList.drop k) t w) f (a.toArray.setIfInBounds i μ) a' w') (fr ⟨kn,kD,θ x⟩ F) w:=by
 refine⟨e, ?_⟩;have c:=g.set l e;rw[oV,n]at c⊢;unfold W WR RKI at h;refine wpOpIn_mono ?_ (EV m h);rintro a' w' ⟨s,rfl,p,q⟩;exact⟨p,q c d r⟩
theorem ga(p:δ η)(i:Nat)(o:Α)(l:ops[i]? =θ o)(d:Ζ .any ops a.toArray=[i])(e:fL i k=μ)(m:a.set i μ=p)
  (h:W P ⟨kn,kD,θ x⟩ ops (RKI x P ⟨kn,kD,θ x⟩ ops Q S k f p i w) [o] F w):RI x P ⟨kn,kD,θ x⟩ ops Q S k (f+1) a F w:=by
 intro c b n;refine⟨by rw[d];simp,λj g=> ?_⟩;rw[d]at g;obtain rfl:j=i:=aE1;exact fz p j o l m c b n (by rw[d];simp) (by simpa [iV] using e) h
theorem gb{i:Nat}(c:S i b w)(h:RI x P ⟨kn,kD,θ x⟩ ops Q S k f a F w):RKI x P ⟨kn,kD,θ x⟩ ops Q S k f a i b .normal (fr ⟨kn,kD,θ x⟩ F) w:=⟨F,rfl,c,h⟩
theorem fy(c:Region.seqB .any ops (ops.size-k) k a.toArray=μ)(h:W P ⟨kn,kD,θ x⟩ ops Q (ops.toList.drop k) F w):RI x P ⟨kn,kD,θ x⟩ ops Q S k 0 a F w:=by intro _ _ _;unfold W WR at h;exact⟨c,h⟩
end
section
variable {P:Β}{kn:Nat}{kD:δ Deferred}{ro:ε (ε Nat)}{ops:Array Α}{Q:Exit->Act->ο->Prop}{S:Nat->ο->ο->Prop}{Si:ο->Prop}{F:Nat->ξ}{w:ο}
def RO(P:Β)(n:Md)(ops:Array Α)(Q:Exit->Act->ο->Prop)(S:Nat->ο->ο->Prop)(k f:Nat)(listed:δ η)(F:Nat->ξ)(w:ο):Prop:=
 match n.ro with
 |none=>R P n ops Q S k f listed F w
 |some x=>RI x P n ops Q S k f listed F w
def RKO(P:Β)(n:Md)(ops:Array Α)(Q:Exit->Act->ο->Prop)(S:Nat->ο->ο->Prop)(k f:Nat)(listed:δ η)(i:Nat)(w:ο):Exit->Act->ο->Prop:=
 match n.ro with
 |none=>RK P n ops Q S k f listed i w
 |some x=>RKI x P n ops Q S k f listed i w
variable {b:ο}{k:Nat}
theorem X2{S0:δ Nat}{L:δ cB}{l:δ Α}(m:Nat)(S:Nat->ο->ο->Prop)(listed:δ η)(a:∀j w,S j w w)(c:P.follows .mixedOrders=μ)(i:Fq l.toArray m=μ)
  (f:Hp b S0 L w) (d:iZ (γ l) ν=listed) (e:IP Q) (g:ro.isSome=μ->NoD l.toArray) (h:∀w',Hp b S0 L w'->RO P ⟨kn,kD,ro⟩ l.toArray Q S m m listed F w'):C P ⟨kn,kD,ro⟩ Q (.region k l.toArray μ) F w:=by
 cases ro with
 |none=>exact lY m S listed a c i f d e h
 |some x=>exact X4 m S listed a c i f d ⟨e,g rfl⟩ h
variable {f:Nat}{a:δ η}
theorem bkm(t:δ η)(i d:Nat)(v:ξ)(D:δ Nat)(e:∀j w w',S j w w'->eL D Si j w w')(o:Α)(n:ops[i]? =θ o)(q:o.dst=θ d)(l:Fq ops k=μ)(s:Pu .any ops i D=μ)(b:Region.free .any ops a.toArray i=μ)
  (m:(Ζ .any ops a.toArray).contains i=μ) (c:fL i k=μ) (p:a.set i μ=t) (g:YieldsIf P ops Si o v (fr ⟨kn,kD,ro⟩ F)) (r:Si w)
  (h:RO P ⟨kn,kD,ro⟩ ops Q S k f t (dQ F d v) w):RO P ⟨kn,kD,ro⟩ ops Q S k (f+1) a F w:=by
 cases ro with
 |none=>exact BW t i d v D e o n q l s b m c p g r h
 |some x=>exact J2 t i d v D e o n q l s b m c p g r h
theorem PS(p:δ η)(i d:Nat)(v:ξ)(o:Α)(l:ops[i]? =θ o)(n:o.dst=θ d)(g:Fq ops k=μ)(b:Region.free .any ops a.toArray i=μ)
  (j:(Ζ .any ops a.toArray).contains i=μ) (c:fL i k=μ) (m:a.set i μ=p) (e:YieldsIf P ops (λ_=>True) o v (fr ⟨kn,kD,ro⟩ F))
  (h:RO P ⟨kn,kD,ro⟩ ops Q S k f p (dQ F d v) w):RO P ⟨kn,kD,ro⟩ ops Q S k (f+1) a F w:=
 bkm p i d v [] (λ_ _ _ _ _ _=>trivial) o l n g rfl b j c m e trivial h
theorem fx(g:δ η)(i:Nat)(o:Α)(d:ops[i]? =θ o)(c:Ζ .any ops a.toArray=[i])(b:fL i k=μ)(e:a.set i μ=g)
  (h:W P ⟨kn,kD,ro⟩ ops (RKO P ⟨kn,kD,ro⟩ ops Q S k f g i w) [o] F w):RO P ⟨kn,kD,ro⟩ ops Q S k (f+1) a F w:=by
 cases ro with
 |none=>exact J0 g i o d c b e h
 |some x=>exact ga g i o d c b e h
theorem PT{i:Nat}(c:S i b w)(h:RO P ⟨kn,kD,ro⟩ ops Q S k f a F w):RKO P ⟨kn,kD,ro⟩ ops Q S k f a i b .normal (fr ⟨kn,kD,ro⟩ F) w:=by
 cases ro with
 |none=>exact oZ c h
 |some x=>exact gb c h
theorem PO(c:Region.seqB .any ops (ops.size-k) k a.toArray=μ)(h:W P ⟨kn,kD,ro⟩ ops Q (ops.toList.drop k) F w):RO P ⟨kn,kD,ro⟩ ops Q S k 0 a F w:=by
 cases ro with
 |none=>exact kF c h
 |some x=>exact fy c h
end
attribute [irreducible] RI RKI RO RKO
open Go.Lib
open Go.Value renaming ownBlock → Cs
open Nat renaming beq → cU
theorem strCells_eq(l:aC):strCells (⟨l.toArray⟩)=l.flatMap eB:=by rw[lV];simp[strCells,bt]
section
variable {P:Β}{n:Md}{ops:Array Α}{Q:Exit->Act->ο->Prop}{F:Nat->ξ}{w w0:ο}{S:δ Nat}{L:δ cB}
variable {d:Nat}{ty:ω}{pos:String}{after:Array Edge}{rest:δ Α}
theorem E5{a:ε Γ}{m cap e:Nat}{o:δ ξ}(t u:ω)(y:P.underlying t=θ (.slice e))(x:P.underlying u=θ .string)(S:TI P e 1 1)(G:(P.info? e).bind (·.zero)=θ (.int .u8 0))(b:w.ownsRow 0 e 1 (.slice a m cap) m o)(l:aC)
  (R:m+γ l<=140737488355328):
  ∃a' cap' w',(Builtin.append_ #[t,u] ty #[.slice a m cap,str l]).run P w=.ok (.slice a' (m+γ l) cap') w'/\w'.ownsRow 0 e 1 (.slice a' (m+γ l) cap') (m+γ l) (o++l.flatMap eB)/\
   w.grownBy w' (π a m cap).ownBlock/\∀p,a'=θ p->(∃q,a=θ q/\q.block=p.block)\/w.heap.size<=p.block:=by
 obtain⟨i,z,v,L,C,n,K⟩:=S.parts;have h:i.zero=θ (.int .u8 0):=by rw[v]at G;simpa using G
 have O:m+γ l<=maxLen:=aE5
 obtain⟨J,w',d,H,Q,s⟩:=run_append_own_string w 0 t u ty e i y x v h C n _ m o b ⟨l.toArray⟩ (by show m+γ l<=_;exact O) (by show m+γ l<=_;exact R) (cW _);rw[strCells_eq]at H;have eT:(⟨l.toArray⟩:ByteArray).size=γ l:=rfl;have B:∃a' cap',J=.slice a' (m+γ l) cap'/\∀p,a'=θ p->(∃q,a=θ q/\q.block=p.block)\/w.heap.size<=p.block:=by
  have A:γ o=m:=by simpa using b.1
  rcases b.2 with⟨r,N⟩|⟨g,c,F,r,_,D,T,_,E,_⟩
  ·simp at r;obtain⟨rfl,rfl,rfl⟩:=r;by_cases I:γ l=0
   ·have:=s.2 ⟨rfl,by rw[eT];exact I⟩;exact⟨ι,0,by rw[this,I],λp f=>by cases f⟩
   ·have:=run_append_nil_string w t u ty e i _ y x v h ⟨l.toArray⟩ aA0 aE8 (by rw[n];omega);rw[this]at d;simp at d;refine⟨_,_,by rw[<-d.1,Jd,eT],λp f=>.inr ?_⟩;simp at f;subst f;simp
  ·simp at r;obtain⟨rfl,-,rfl⟩:=r;by_cases j:m+γ l<=cap
   ·have:=run_append_room_string w t u ty e i y x v C g m cap F D ⟨l.toArray⟩ j (by rw[eT];simp at E;omega);rw[this]at d;simp at d;refine⟨_,_,by rw[<-d.1,eT],λp f=>.inl ?_⟩;simp at f;subst f;exact⟨_,rfl,rfl⟩
   ·have k:=b.cells rfl;have:=run_append_grow_string w t u ty e i _ y x v h _ m cap o (by rw[C];simpa using A) k _ aE8 aE8 (by rw[n];exact growslice_fits aA0 aA0);rw[this]at d;simp at d;refine⟨_,_,by rw[<-d.1,eT],λp f=>.inr ?_⟩;simp at f;subst f;simp
 obtain⟨a',cap',rfl,M⟩:=B;exact⟨a',cap',w',d,H,Q,M⟩
variable {x y:χ}{t u:ω}
theorem wS(K:Hp w0 S L w)(k:Nat)(o:ε Nat)(a:ε Γ)(cap e:Nat)(l c:aC)(D:L[k]? =θ (bN eB e 1 o a cap l))(I:P.underlying t=θ (.slice e))(s:P.underlying u=θ .string)(U:TI P e 1 1)(M:(P.info? e).bind (·.zero)=θ (.int .u8 0))
  (hx:aX n F x=.slice a (γ l) cap) (Y:aX n F y=str c) (v:(γ l+γ c)*1<=140737488355328)
  (h:∀o' a' cap' w',Hp w0 S (L.set k (bN eB e 1 o' a' cap' (l++c))) w'->W P n ops Q rest (dQ F d (.slice a' (γ (l++c)) cap')) w'):
  W P n ops Q (⟨θ d,.call ⟨.builtin .append, #[x,y], #[t,u]⟩,ty,pos,after,ι⟩::rest) F w:=by
 have q:=(aF.1 D).1;have H:∀T:ε Γ,Hp w0 S (L.set k (row (.slice T (γ l) cap) e 1 (γ l) (l.flatMap eB))) w->∃a' cap' w',(Builtin.append_ #[t,u] ty #[.slice T (γ l) cap,str c]).run P w=.ok (.slice a' (γ (l++c)) cap') w'/\∃o',Hp w0 S (L.set k (bN eB e 1 o' a' cap' (l++c))) w':=by intro T r;obtain⟨a',cap',w',m,ho,hg,hn⟩:=E5 t u I s U M (r.ownsRow (bE q)) c aA0;have A:=r.grown (bE q) hg ho hn;rw[XJ,<-cG,<-NN]at A;obtain⟨o',f⟩:=A.Lt k (bE q);rw[XJ]at f;rw[<-cG]at m;exact⟨a',cap',w',m,o',f⟩
 have go:∀a' cap' w',(Builtin.append_ #[t,u] ty #[.slice a (γ l) cap,str c]).run P w=.ok (.slice a' (γ (l++c)) cap') w'->(∃o',Hp w0 S (L.set k (bN eB e 1 o' a' cap' (l++c))) w')->
   W P n ops Q (⟨θ d,.call ⟨.builtin .append, #[x,y], #[t,u]⟩,ty,pos,after,ι⟩::rest) F w:=by
  rintro a' cap' w' m ⟨o',f⟩;refine fE (w':=w') rfl rfl ?_ (h o' a' cap' w' f);simp only[ς,resolve,invoke,builtin,List.map_toArray,uX,gH,hx,Y,Sem.run_bind,Sem.run_pure,Result.andThen_ok,m]
 cases o with
 |some g=>obtain⟨a',cap',w',m,f⟩:=H a (K.DH Io k D).2;exact go a' cap' w' m f
 |none=>
  obtain⟨h1,_⟩:=K.res _ (aI D);have O:l=[]/\cap=0:=by
   rcases h1 with⟨_,A,f,_⟩|⟨g,a9,A,_⟩
   ·exact⟨A,f⟩
   ·cases A
  obtain⟨rfl,rfl⟩:=O;have C:Hp w0 S (L.set k (row _ e 1 0 [])) w:=K.change k _ _ D rfl rfl rfl (dO _) (λ_ _ _=>rfl) ⟨aA3,.inl ⟨rfl,rfl⟩⟩ (λb v=>by simp[row,Cs]at v);obtain⟨a',cap',w',m,f⟩:=H ι C;cases a with
  |none=>exact go a' cap' w' m f
  |some p=>
   obtain⟨i,z,J,X,Z,G,V⟩:=U.parts;have B:i.zero=θ (.int .u8 0):=by rw[J]at M;simpa using M
   have eT:(⟨c.toArray⟩:ByteArray).size=γ c:=rfl;by_cases hm:γ c=0
   ·have R:=Je hm;subst R;have hf:=run_firstCells_string (P:=P) w 1 ⟨#[]⟩;have N:(Builtin.firstCells 1 0 _).run P w=.ok #[] w:=hf;refine go (θ p) 0 w ?_ ⟨ι, ?_⟩
    ·show(Builtin.append_ #[t,u] ty #[.slice (θ p) 0 0,.string ⟨#[]⟩]).run P w=.ok (.slice (θ p) 0 0) w;have R:(⟨#[]⟩:ByteArray).size=0:=rfl;simp[Builtin.append_,run_underlying I,run_underlying s,sizeOf,typeInfo,J,Z,Builtin.lenOf,storeCells,R,N]
    ·have e:L.set k (bN eB e 1 ι (θ p) 0 ([]++[]))=L:=by
      apply cD;intro j;by_cases E:j=k
      ·subst E;rw[bE q,D];rfl
      ·rw[Co (λe=>E e.symm)]
     rw[e];exact K
   ·refine go a' cap' w' ?_ f;rw[<-m];have h5:=run_append_grow_string w t u ty e i _ I s J B p 0 0 [] aA3 (λj u s=>by simp at s) _ aE8 (by rw[eT];simp at v;omega) (by rw[G];exact growslice_fits aA0 (by simp at v;omega));have h6:=run_append_nil_string w t u ty e i _ I s J B _ aE8 (by rw[eT];simp at v;omega) (by rw[G];simp at v;omega);show(Builtin.append_ #[t,u] ty #[.slice _ 0 0,.string _]).run P w=(Builtin.append_ #[t,u] ty #[.slice ι 0 0,.string _]).run P w;rw[h5,h6];simp[strCells]
variable {e:ω}
theorem JN(p:ε Γ)(a:P.underlying t=θ (.pointer e))(hx:aX n F x=.pointer p)(b:aX n F y=.pointer ι):(ς (aX n F) (⟨θ d,.binOp .eql t x y u,ty,pos,after,ι⟩)).run P w=.ok (.value (.bool p.isNone)) w:=by
 have c:P.pointee t=e:=by simp[Program.pointee,a]
 have g:=run_equal_pointer_nil w t p (by rw[c];exact a);have f:(binOp .eql t (.pointer p) (.pointer ι)).run P w=.ok (.bool p.isNone) w:=by simp only[binOp];simp[g]
 simp[ς,hx,b,eqGuard,f]
theorem A0(p:ε Γ)(b:P.underlying t=θ (.pointer e))(hx:aX n F x=.pointer p)(a:aX n F y=.pointer ι)(h:W P n ops Q rest (dQ F d (.bool p.isNone)) w):W P n ops Q (⟨θ d,.binOp .eql t x y u,ty,pos,after,ι⟩::rest) F w:=fE rfl rfl (JN p b hx a) h
theorem ch(a:Γ)(c:P.underlying t=θ (.pointer e))(g:(P.info? e).isSome=μ)(hx:aX n F x=.pointer (θ a))(b:aX n F y=.pointer (θ a))(h:W P n ops Q rest (dQ F d (.bool ν)) w):W P n ops Q (⟨θ d,.binOp .neq t x y u,ty,pos,after,ι⟩::rest) F w:=by obtain⟨j,f⟩:=CH.1 g;have i:=run_neq_ptr_same w a c f;refine fE (v:=.bool ν) (w':=w) rfl rfl ?_ h;simp[ς,hx,b,eqGuard,i]
theorem cg(v:Hp w0 S L w)(k b off s:Nat)(cs:δ ξ)(o:L[k]? =θ (bA b cs s))(l:P.underlying t=θ (.pointer e))(g:P.underlying u=θ .unsafePointer)(q:((P.info? e).map (λi=>cU i.size 0))=θ ν)(m:off<γ cs)(hx:aX n F x=.pointer (θ ⟨b,off,ι⟩))
  (h:W P n ops Q rest (dQ F d (.pointer (θ ⟨b,off,ι⟩))) w):W P n ops Q (⟨θ d,.convert t u x,ty,pos,after,ι⟩::rest) F w:=by
 obtain⟨j,p,a⟩:=bR.1 q;have f:j.size≠0:=λz=>by rw[z]at a;cases a
 have r:=v.dV k o;have c:w.shape? b=θ (s,γ cs):=by simp[World.shape?,r]
 have y:=run_to_unsafe w ⟨b,off,ι⟩ l g p f c m;refine fE (w':=w) rfl rfl ?_ h;simp[ς,hx,y]
theorem cj(p:Hp w0 S L w)(k b off s:Nat)(cs:δ ξ)(i:L[k]? =θ (bA b cs s))(f:P.underlying t=θ .unsafePointer)(c:P.underlying u=θ (.pointer e))(m:(P.info? e).isSome=μ)(g:liesAt P P.depth s (γ cs/P.cellsOf s) off e 1=μ)(hx:aX n F x=.pointer (θ ⟨b,off,ι⟩))
  (h:W P n ops Q rest (dQ F d (.pointer (θ ⟨b,off,ι⟩))) w):W P n ops Q (⟨θ d,.convert t u x,ty,pos,after,ι⟩::rest) F w:=by
 obtain⟨j,l⟩:=CH.1 m;have o:=p.dV k i;have a:w.shape? b=θ (s,γ cs):=by simp[World.shape?,o]
 have q:=run_from_unsafe w ⟨b,off,ι⟩ f c l a g;refine fE (w':=w) rfl rfl ?_ h;simp[ς,hx,q]
theorem cm{dT : Array χ}{a : Array ω}{fn : Func}(j : Hp w0 S L w)(f : FuncId)(v : ξ)(g : aX n F x = .func (.func f) #[] #[])(i : #[] ++ dT.map (aX n F) ++ #[] = #[v])(p : P.funcs[f]? = θ fn)(o : (fn.name == "runtime.NumGoroutine") = ν)(m : fn.body.isNone = μ)(l : Extern.findNext fn = ι)(k : Extern.find fn = θ Extern.AbiNoEscape.same)
  (h:∀w',Hp w0 S L w'->W P n ops Q rest (dQ F d v) w'):W P n ops Q (⟨θ d,.call ⟨.value x,dT,a⟩,ty,pos,after,ι⟩::rest) F w:=by
 have c:=run_callFunc_extern (P:=P) p o m l (e:=Extern.AbiNoEscape.same) k (args:= #[v]) (w:=w);rw[run_noEscape]at c;refine fE (v:=v) (w':=w) rfl rfl ?_ (h w j);simp only[ς,resolve,g,Deferred.ofValue];show Sem.run P (callFunc f (#[]++dT.map (aX n F)++ #[])) w=_;rw[i,c];rfl
end
open Go.Op renaming bytesLess → qZ
open List renaming replicate → iZ
open Nat renaming blt → fL
def Yk{α:Type}(P:Β):Sem α->ε α
 |.pure a=>θ a
 |.program k=>Yk P (k P)
 |.mark _ k=>Yk P k
 |_=>ι
theorem zG{α:Type}{P:Β}:∀{s:Sem α} {a:α},Yk P s=θ a->∀w,s.run P w=.ok a w:=by
 intro s;induction s with
 |pure a=>intro b h w;simp only[Yk,bG]at h;subst h;rfl
 |program k c=>intro b h w;exact c P h w
 |mark m k c=>intro b h w;exact c h w
 |_=>intro b h;simp[Yk]at h
def EP(b:BinOp)(x y:ξ):ε ξ:=
 match x,y with
 |.string s,.string t=>
  match b with
  |.eql=>θ (.bool (decide (s.data.toList=t.data.toList)))
  |.neq=>θ (.bool (!decide (s.data.toList=t.data.toList)))
  |.lss=>θ (.bool (qZ s.data.toList t.data.toList))
  |.gtr=>θ (.bool (!(qZ s.data.toList t.data.toList||s.data.toList==t.data.toList)))
  |_=>ι
 |.int k a,.int k' c=>
  if k=k' then
   match b with
   |.lss=>θ (.bool (decide (a<c)))
   |.leq=>θ (.bool (decide (a<=c)))
   |.gtr=>θ (.bool (decide (c<a)))
   |.geq=>θ (.bool (decide (c<=a)))
   |.eql=>θ (.bool (decide (a=c)))
   |.neq=>θ (.bool (!decide (a=c)))
   |_=>ι
  else ι
 |_,_=>ι
def isLen:Callee->η
 |.builtin .len=>μ
 |_=>ν
def xn(P:Β)(n:Md)(F:Nat->ξ)(c:Call):ε ξ:=
 bif isLen c.callee then
  match c.args.toList with
  |[x]=>match c.argTypes.toList with
   |[t]=>match P.underlying t with
    |some .string=>match aX n F x with|.string s=>θ (.int .i64 (γ s.data.toList))|_=>ι
    |some (.slice _)=>match aX n F x with|.slice _ m _=>θ (.int .i64 m)|_=>ι
    |_=>ι
   |_=>ι
  |_=>ι
 else ι
def So(P:Β)(n:Md)(F:Nat->ξ)(o:Α):ε ξ:=
 match o.op with
 |.move x=>θ (aX n F x)
 |.assign x=>θ (aX n F x)
 |.pick c a b=>match aX n F c with|.bool t=>θ (bif t then aX n F a else aX n F b)|_=>ι
 |.unOp .not _ x=>match aX n F x with|.bool b=>θ (.bool (!b))|_=>ι
 |.extract x i=>match aX n F x with|.tuple d=>d[i]? |_=>ι
 |.binOp b _ x y _=>EP b (aX n F x) (aX n F y)
 |.call c=>xn P n F c
 |_=>match Yk P (ς (aX n F) o)with|some (.value v)=>θ v|_=>ι
section
variable {P:Β}{n:Md}{ops:Array Α}{Q:Exit->Act->ο->Prop}{F:Nat->ξ}{w:ο}
theorem HI(ρ : χ -> ξ)(a : ε Nat)(op : Op)(ty : ω)(pos : String)(after : Array Edge)(g : ε (Nat × η)) : ς ρ ⟨a, op, ty, pos, after, g⟩ = ς ρ ⟨θ 0, op, ty, "", #[], ι⟩ := rfl
variable {t:ω}{i:ε Nat}{e:String}{d:Array Edge}{g:ε (Nat×η)}{v:ξ}
theorem K9{b:BinOp}{t':ω}{x y:χ}{ty:ω}(h:EP b (aX n F x) (aX n F y)=θ v)(w:ο):
  (ς (aX n F) (⟨i,.binOp b t x y t',ty,e,d,g⟩)).run P w=.ok (.value v) w:=by
 rw[HI];generalize hx:aX n F x=a at h;generalize f:aX n F y=c at h;cases a with
 |string s=>
  cases c with
  |string t2=>
   have m:=hx;have p:=f;cases b<;>simp only[EP,bG,reduceCtorEq]at h<;>subst h
   ·exact NT _ _ m p
   ·exact NQ _ _ m p
   ·exact NR _ _ m p
   ·exact NS _ _ m p
  |_=>simp[EP]at h
 |int k a=>
  cases c with
  |int k' c=>
   by_cases j:k=k'
   ·subst j;cases b<;>simp only[EP,gG,bG,reduceCtorEq]at h<;>subst h
    ·exact ZG k _ _ hx f
    ·exact YX k _ _ hx f
    ·exact YZ k _ _ hx f
    ·exact ZA k _ _ hx f
    ·exact ZE k _ _ hx f
    ·exact ZF k _ _ hx f
   ·simp[EP,j]at h
  |_=>simp[EP]at h
 |_=>simp[EP]at h
theorem K4{c:Call}(h:xn P n F c=θ v)(w:ο):
  (ς (aX n F) (⟨i,.call c,t,e,d,g⟩:Α)).run P w=.ok (.value v) w:=by
 rw[HI];obtain⟨cl,dT,q⟩:=c;unfold xn at h;cases b:isLen cl with
 |false=>rw[b]at h;cases h
 |true=>
  obtain rfl:cl=.builtin .len:=by
   unfold isLen at b;split at b
   ·rfl
   ·cases b
  rw[b]at h;simp only[aM]at h;obtain⟨dT⟩:=dT;obtain⟨q⟩:=q
  match dT,q,h with
  |[x],[p],h=>
   dsimp only at h;split at h
   ·rename_i f;split at h
    ·rename_i s hx;cases h;exact qa s.data.toList f hx
    ·cases h
   ·rename_i j f;split at h
    ·rename_i a m c hx;cases h;exact Xz a m c j f hx
    ·cases h
   ·cases h
  |[],_,h=>cases h
  |[_],[],h=>cases h
  |[_],_::_::_,h=>cases h
  |_::_::_,_,h=>cases h
variable {o:Α}
theorem zW(h:So P n F o=θ v)(w:ο):(ς (aX n F) o).run P w=.ok (.value v) w:=by
 obtain⟨i,op,ty,pos,after,g⟩:=o;unfold So at h;dsimp only at h;split at h
 ·cases h;rfl
 ·cases h;rfl
 ·rename_i c a b;rw[HI];split at h
  ·rename_i t f;cases h;exact YV t _ f rfl
  ·cases h
 ·rw[HI];split at h
  ·rename_i b hx;cases h;exact YW b hx
  ·cases h
 ·rw[HI];split at h
  ·rename_i d hx;exact Uc d v hx h
  ·cases h
 ·exact K9 h w
 ·exact K4 h w
 ·split at h
  ·rename_i j e;cases h;exact zG e w
  ·cases h
def gof(ops:Array Α)(g:Nat):ε Nat:=(ops[g]?).bind (·.dst)
def gg(P:Β)(n:Md)(ops:Array Α)(F:Nat->ξ)(o:Α):ξ:=
 match o.guard with
 |none=>(So P n F o).getD undef
 |some (g,b)=>match gof ops g with
  |none=>undef
  |some dg=>match F dg with
   |.bool c=>bif c==b then(So P n F o).getD undef else undef
   |_=>undef
def Hy(P:Β)(n:Md)(ops:Array Α)(F:Nat->ξ)(o:Α):Nat->ξ:=
 match o.dst with
 |none=>F
 |some d=>dQ F d (gg P n ops F o)
def Bf:ξ->η
 |.tuple a=>a.toList.isEmpty
 |_=>ν
theorem Ow(h:Bf v=μ):v=undef:=by
 unfold Bf at h;split at h
 ·rename_i b;obtain⟨l⟩:=b;cases l with
  |nil=>rfl
  |cons a l=>cases h
 ·cases h
def XV(P:Β)(n:Md)(ops:Array Α)(F:Nat->ξ)(o:Α):η:=
 match o.dst with
 |none=>ν
 |some d=>match o.guard with
  |none=>(So P n F o).isSome
  |some (g,b)=>match gof ops g with
   |none=>ν
   |some dg=>fL dg n.n&&match F dg with
    |.bool c=>bif c==b then(So P n F o).isSome else μ
    |v=>Bf v
def pF(P:Β)(n:Md)(ops:Array Α):Nat->δ Α->(Nat->ξ)->Nat->ξ
 |0,_,F=>F
 |_+1,[],F=>F
 |m+1,o::l,F=>pF P n ops m l (Hy P n ops F o)
def pOK(P:Β)(n:Md)(ops:Array Α):Nat->δ Α->(Nat->ξ)->η
 |0,_,_=>μ
 |_+1,[],_=>ν
 |m+1,o::l,F=>XV P n ops F o&&pOK P n ops m l (Hy P n ops F o)
theorem w_pok{rest:δ Α}(a:XV P n ops F o=μ)(h:W P n ops Q rest (Hy P n ops F o) w):W P n ops Q (o::rest) F w:=by
 obtain⟨k,op,ty,pos,after,gd⟩:=o;cases k with
 |none=>simp[XV]at a
 |some d=>
  cases gd with
  |none=>
   simp only[XV]at a;cases e:So P n F _ with
   |none=>rw[e]at a;cases a
   |some v=>simp only[Hy,gg,e]at h;exact fE rfl rfl (zW e w) h
  |some q=>
   obtain⟨g,b⟩:=q;simp only[XV]at a;cases i:gof ops g with
   |none=>rw[i]at a;cases a
   |some dg=>
    rw[i]at a;simp only[lA]at a;simp only[Hy,gg,i]at h;cases j:F dg with
    |bool c=>
     rw[j]at a h;cases l:c==b with
     |true=>
      have f:c=b:=aE7;subst f;simp only[l]at a h;cases e:So P n F _ with
      |none=>rw[e]at a;exact absurd a.2 aA3
      |some v=>rw[e]at h;exact JS dg i a.1 j (fE rfl rfl (zW e w) h)
     |false=>
      have f:c= !b:=by cases c<;>cases b<;>simp_all
      subst f;simp at h;exact qk dg i a.1 j h
    |tuple r=>
     rw[j]at a h;have m:F dg=undef:=by rw[j];have p:=a.2;exact Ow p
     exact qj dg i a.1 m h
    |_=>rw[j]at a;exact absurd a.2 (by simp[Bf])
theorem ZV:∀m l F,pOK P n ops m l F=μ->W P n ops Q (l.drop m) (pF P n ops m l F) w->W P n ops Q l F w
 |0,l,F,_,h=>h
 |m+1,[],F,a,_=>by simp[pOK]at a
 |m+1,o::l,F,a,h=>by simp only[pOK,lA]at a;exact w_pok a.1 (ZV m l _ a.2 h)
variable {l:δ Α}
theorem wp(m:Nat)(h:W P n ops Q (l.drop m) (pF P n ops m l F) w)(a:pOK P n ops m l F=μ:=by kernel_rfl):W P n ops Q l F w:=ZV m l F a h
variable {b:Nat}{c:δ Deferred}
theorem pn(a:XV P ⟨b,c,ι⟩ ops F o=μ):YieldsIf P ops (λ_=>True) o (gg P ⟨b,c,ι⟩ ops F o) (fr ⟨b,c,ι⟩ F):=by
 obtain⟨l,op,ty,pos,after,gd⟩:=o;cases l with
 |none=>simp[XV]at a
 |some d=>
  cases gd with
  |none=>
   simp only[XV]at a;cases f:So P _ F _ with
   |none=>rw[f]at a;cases a
   |some v=>simp only[gg,f];exact nY rfl λw _=>zW f w
  |some q=>
   obtain⟨g,j⟩:=q;simp only[XV]at a;cases h:gof ops g with
   |none=>rw[h]at a;cases a
   |some dg=>
    rw[h]at a;simp only[lA]at a;simp only[gg,h];cases i:F dg with
    |bool k=>
     rw[i]at a;cases m:k==j with
     |true=>
      have e:k=j:=by simpa using m
      subst e;simp only[m]at a⊢;cases f:So P _ F _ with
      |none=>rw[f]at a;exact absurd a.2 aA3
      |some v=>exact oJ dg h a.1 i λw _=>zW f w
     |false=>
      have e:k= !j:=by cases k<;>cases j<;>simp_all
      subst e;simp;exact y_gno dg h a.1 i
    |tuple r=>
     rw[i]at a;have p:=a.2;have n:F dg=undef:=by rw[i];exact Ow p
     exact y_gun dg h a.1 n
    |_=>rw[i]at a;exact absurd a.2 (by simp[Bf])
def rF(P:Β)(n:Md)(ops:Array Α):δ Nat->(Nat->ξ)->Nat->ξ
 |[],F=>F
 |i::a,F=>rF P n ops a (match ops[i]? with|some o=>Hy P n ops F o|none=>F)
def rL:δ Nat->δ η->δ η
 |[],l=>l
 |i::a,l=>rL a (l.set i μ)
def xg(P:Β)(n:Md)(ops:Array Α)(k:Nat):δ Nat->δ η->(Nat->ξ)->η
 |[],_,_=>μ
 |i::a,l,F=>(match ops[i]? with|some o=>XV P n ops F o|none=>ν)&&Region.free .any ops l.toArray i&&(Ζ .any ops l.toArray).contains i&&fL i k&&
   xg P n ops k a (l.set i μ) (match ops[i]? with|some o=>Hy P n ops F o|none=>F)
theorem E9{a:Nat}{b:δ Deferred}{S:Nat->ο->ο->Prop}{k f':Nat}(n:Fq ops k=μ):∀c l F,xg P ⟨a,b,ι⟩ ops k c l F=μ->
  R P ⟨a,b,ι⟩ ops Q S k f' (rL c l) (rF P ⟨a,b,ι⟩ ops c F) w->R P ⟨a,b,ι⟩ ops Q S k (f'+γ c) l F w
 |[],l,F,_,h=>h
 |i::c,l,F,g,h=>by
  simp only[xg,lA]at g;obtain⟨⟨⟨⟨j,s⟩,r⟩,q⟩,p⟩:=g;cases m:ops[i]? with
  |none=>rw[m]at j;cases j
  |some o=>
   rw[m]at j p;simp only[rL,rF,m]at h;have f:∃d,o.dst=θ d:=by
    cases f:o.dst with
    |none=>simp[XV,f]at j
    |some d=>exact⟨d,rfl⟩
   obtain⟨d,f⟩:=f;have e:Hy P ⟨a,b,ι⟩ ops F o=dQ F d (gg P ⟨a,b,ι⟩ ops F o):=by simp[Hy,f]
   refine I9 _ i d _ o m f n s r q rfl (pn j) ?_;rw[<-e];exact E9 n c _ _ p h
variable {S:Nat->ο->ο->Prop}{k f:Nat}{a:δ η}
theorem rp(f':Nat)(l:δ Nat)(h:R P ⟨b,c,ι⟩ ops Q S k f' (rL l a) (rF P ⟨b,c,ι⟩ ops l F) w)
  (g:f=f'+γ l:=by kernel_rfl) (e:Fq ops k=μ:=by kernel_rfl) (d:xg P ⟨b,c,ι⟩ ops k l a F=μ:=by kernel_rfl):R P ⟨b,c,ι⟩ ops Q S k f a F w:=by
 subst g;exact E9 e l a F d h
theorem rt{d:Nat}(i:Nat)(v:ξ)(n:ops[i]? =θ o)(p:o.dst=θ d)(g:YieldsIf P ops (λ_=>True) o v (fr ⟨b,c,ι⟩ F))
  (h:R P ⟨b,c,ι⟩ ops Q S k f (a.set i μ) (dQ F d v) w) (j:Fq ops k=μ:=by kernel_rfl) (l:Region.free .any ops a.toArray i=μ:=by kernel_rfl)
  (m:(Ζ .any ops a.toArray).contains i=μ:=by kernel_rfl) (e:fL i k=μ:=by kernel_rfl):R P ⟨b,c,ι⟩ ops Q S k (f+1) a F w:=I9 _ i d v o n p j l m e rfl g h
theorem ro(i:Nat)(e:ops[i]? =θ o)(h:W P ⟨b,c,ι⟩ ops (RK P ⟨b,c,ι⟩ ops Q S k f (a.set i μ) i w) [o] F w)
  (d:Ζ .any ops a.toArray=[i]:=by kernel_rfl) (l:fL i k=μ:=by kernel_rfl):R P ⟨b,c,ι⟩ ops Q S k (f+1) a F w:=J0 _ i o e d l rfl h
theorem cdr{w0:ο}{S0:δ Nat}{L:δ cB}(a:Nat)(f:Hp w0 S0 L w)(e:IP Q)
  (h:∀w',Hp w0 S0 L w'->R P ⟨b,c,ι⟩ l.toArray Q (λ_ _ _=>True) a a (iZ (γ l) ν) F w') (d:P.follows .mixedOrders=μ:=by kernel_rfl) (j:Fq l.toArray a=μ:=by kernel_rfl):
  C P ⟨b,c,ι⟩ Q (.region k l.toArray μ) F w:=lY a _ _ (λ_ _=>trivial) d j f rfl e h
section
variable {α:Type}{c:χ}{x y:Code}{p:Prop}{ip:Decidable p}{a b r:α}{t:η}
theorem cd(d:(if p then a else b)=r)(e:p->a=r->C P n Q x F w)(f:¬p->b=r->C P n Q y F w)(g:aX n F c=.bool (decide p):=by kernel_rfl):C P n Q (.cond c x y) F w:=
 c_dec g (λh=>e h (QS h d)) (λh=>f h (QT h d))
theorem cn(d:(if p then a else b)=r)(e:¬p->b=r->C P n Q x F w)(f:p->a=r->C P n Q y F w)(g:aX n F c=.bool (!decide p):=by kernel_rfl):C P n Q (.cond c x y) F w:=
 c_ndec g (λh=>e h (QT h d)) (λh=>f h (QS h d))
theorem cb(d:cond t a b=r)(e:t=μ->a=r->C P n Q x F w)(f:t=ν->b=r->C P n Q y F w)(g:aX n F c=.bool t:=by kernel_rfl):C P n Q (.cond c x y) F w:=
 tI g (λh=>e h (cft h d)) (λh=>f h (cff h d))
variable {d:Nat}{ty:ω}{pos:String}{after:Array Edge}{rest:δ Α}{o:χ}
theorem wd(c:(if p then a else b)=r)(e:p->a=r->W P n ops Q rest (dQ F d (.bool μ)) w)(f:¬p->b=r->W P n ops Q rest (dQ F d (.bool ν)) w)(g:aX n F o=.bool (decide p):=by kernel_rfl):W P n ops Q (⟨θ d,.move o,ty,pos,after,ι⟩::rest) F w:=
 JR p g (λh=>e h (QS h c)) (λh=>f h (QT h c))
theorem wb(c:cond t a b=r)(e:t=μ->a=r->W P n ops Q rest (dQ F d (.bool μ)) w)(f:t=ν->b=r->W P n ops Q rest (dQ F d (.bool ν)) w)(g:aX n F o=.bool t:=by kernel_rfl):W P n ops Q (⟨θ d,.move o,ty,pos,after,ι⟩::rest) F w:=
 Gj t g (λh=>e h (cft h c)) (λh=>f h (cff h c))
end
variable {x:Code}{a:ο}{S:δ Nat}{R:δ cB}
theorem jF{y:Code}(j:Hp a S R w)(b:δ Nat)(L:δ (Nat×ξ))
  (hx:C P n (Exit.then (λa' w'=>∃c,a'=fr n c/\b.map c=b.map (app L F)/\Hp a S R w') Q) x F w)
  (d:∀w G,Hp a S R w->C P n Q y (Bd b (app L F) G) w):C P n Q (.seq x y) F w:=
 cut (σ:=Unit) b (λ_=>L) (λ_ w'=>Hp a S R w') (BR hx λe m w' h=>by
  cases e with
  |normal=>obtain⟨c,i,g,f⟩:=h;exact⟨(),c,i,g,f⟩
  |exit id=>exact h
  |goto l=>exact h
  |ret=>exact h
  |panic k=>exact h
  |outgrown=>exact h) (λ_ w G h=>d w G h)
variable {f:ο}{b:δ Nat}{A d:Nat->ξ}
theorem je(e:Hp a S R f)(h:b.map d=b.map A:=by kernel_rfl):∃c,fr n d=fr n c/\b.map c=b.map A/\Hp a S R f:=⟨_,rfl,h,e⟩
variable {c e:Type}
theorem HS{y:Code}(d:Hp a S R w)(j:c⊕e)(σ:δ Nat)(L:c->δ (Nat×ξ))
  (hx:C P n (Exit.then (λa' w'=>∃s' b,a'=fr n b/\σ.map b=σ.map (app (L s') F)/\Hp a S R w'/\j=.inl s') Q) x F w)
  (ρ:∀s w G,Hp a S R w->j=.inl s->C P n Q y (Bd σ (app (L s) F) G) w):C P n Q (.seq x y) F w:=
 cut σ L _ hx (λs w G h=>ρ s w G h.1 h.2)
variable {L:c->δ (Nat×ξ)}
theorem jw{j:c⊕e}{s:c}(ρ:j=.inl s)(g:Hp a S R f)(h:b.map d=b.map (app (L s) A):=by kernel_rfl):
  ∃s' σ,fr n d=fr n σ/\b.map σ=b.map (app (L s') A)/\Hp a S R f/\j=.inl s':=⟨s,_,rfl,h,g,ρ⟩
variable {t:Nat}
theorem mc(h:A t=d t)(b:S.map A=S.map d):(t::S).map A=(t::S).map d:=by simp[h,b]
theorem LC{r:e}(g:Nat->c->ε e)(j:c)(o:Hp a S R w)(m:g t j=θ r)(d:δ Nat)(L:c->δ (Nat×ξ))(u:∀s,g 0 s=ι)
  (round:∀b s w G,Hp a S R w->g (b+1) s=θ r->C P n (Exit.then (λa' w'=>∃s' i,a'=fr n i/\d.map i=d.map (app (L s') F)/\Hp a S R w'/\g b s'=θ r) Q) x (Bd d (app (L s) F) G) w)
  (y:d.map F=d.map (app (L j) F):=by kernel_rfl):C P n Q (.loop x) F w:=by
 refine CM (σ:=Nat×c) d (λs=>L s.2) (λs w'=>Hp a S R w'/\g s.1 s.2=θ r) (λs=>s.1) (t,j) ⟨o,m⟩ (λs w G h=> ?_) y;obtain⟨b,s⟩:=s;obtain⟨k,f⟩:=h;cases b with
 |zero=>rw[u]at f;cases f
 |succ b=>
  refine BR (round b s w G k f) λρ τ w' h=> ?_;cases ρ with
  |normal=>obtain⟨s',i,k,f,q,p⟩:=h;exact⟨(b,s'),i,k,f,⟨q,p⟩,yQ _⟩
  |exit id=>exact h
  |goto l=>exact h
  |ret=>exact h
  |panic v=>exact h
  |outgrown=>exact h
theorem QI{r:e}{g:c->ε e}(s:c)(i:Hp a S R f)(ρ:g s=θ r)(h:b.map d=b.map (app (L s) A):=by kernel_rfl):
  ∃s' τ,fr n d=fr n τ/\b.map τ=b.map (app (L s') A)/\Hp a S R f/\g s'=θ r:=⟨s,_,rfl,h,i,ρ⟩
theorem Hp.kp{w:ο}{L1:δ cB}(h:Hp a S R w)(L:R.take (γ L1)=L1:=by kernel_rfl):Hp a S L1 w:=h.sub (by rw[<-L];exact List.take_sublist _ _)
theorem oi{a b:c}(h:θ a=θ b):a=b:=aP h
section
variable {d:Nat}{ty:ω}{pos:String}{after:Array Edge}{rest:δ Α}{w0:ο}{S:δ Nat}{L:δ cB}
theorem wc{b:χ}{dT:Array χ}{a:Array ω}{f:FuncId}{vs:δ ξ}{V:ξ}(k:Enters P f)(j:Hp w0 S L w)(g:CR P f vs w λv w'=>v=V/\Hp w [] [] w')
  (h:∀w',Hp w0 S L w'->W P n ops Q rest (dQ F d V) w') (e:aX n F b=.func (.func f) #[] #[]:=by kernel_rfl) (i: #[]++dT.map (aX n F)++ #[]=vs.toArray:=by kernel_rfl):
  W P n ops Q (⟨θ d,.call ⟨.value b,dT,a⟩,ty,pos,after,ι⟩::rest) F w:=by
 refine wK f #[] vs _ k e i g ?_;rintro _ w' ⟨rfl,c⟩;exact h w' (j.call c)
end
def rone(n:Md)(F:Nat->ξ):ResultVar->ξ
 |.tmp t=>aX n F (.tmp t)
 |.cell _ _=>undef
def wk(n:Md)(F:Nat->ξ)(fn:Func):ξ:=
 match fn.results.toList.map (rone n F)with
 |[u]=>u
 |a=>.tuple a.toArray
def MW(fn:Func):η:=fn.results.toList.all λ|.tmp _=>μ|.cell _ _=>ν
variable {k:Nat}{a:ε (ε Nat)}{b:Func}
theorem wj(h:MW b=μ):(results b (fr ⟨k,[],a⟩ F).tmps).run P w=.ok (wk ⟨k,[],a⟩ F b) w:=by
 have key:∀j:δ ξ,j=b.results.toList.map (rone ⟨k,[],ι⟩ F)->(results b (fr ⟨k,[],ι⟩ F).tmps).run P w=.ok (match j with|[u]=>u|f=>.tuple f.toArray) w:=by
  intro j e;refine rU b.results.toList j rfl (by simp[e]) ?_ _ (by cases j with|nil=>rfl|cons c dT=>cases dT<;>rfl);intro i x v hx d;subst e;simp only[aY,hx,aj,bG]at d;have:=aT.1 h x (aI hx);cases x with
  |tmp t=>exact BX d
  |cell c t=>cases this
 exact key _ rfl
theorem rx{R:ξ->ο->Prop}(h:R (wk ⟨k,[],a⟩ F b) w)(d:MW b=μ:=by kernel_rfl):
  bodyPost P b (λe w'=>∃v,e=.returned v/\R v w') .ret (fr ⟨k,[],a⟩ F) w:=⟨rfl,_,wj d,_,rfl,h⟩
theorem rv{V:ξ}{w0:ο}{S:δ Nat}{L:δ cB}(h:Hp w0 S L w)(d:wk ⟨k,[],a⟩ F b=V:=by kernel_rfl)(c:MW b=μ:=by kernel_rfl):
  bodyPost P b (λe w'=>∃v,e=.returned v/\v=V/\Hp w0 S L w') .ret (fr ⟨k,[],a⟩ F) w:=rx ⟨d,h⟩ c
variable {c:Type}{g:Prop}{o:ε c}
theorem bi{α:Type}{f:c->ε α}{r:α}(h:o.bind f=θ r)(k:∀y,o=θ y->f y=θ r->g):g:=let ⟨y,a,b⟩:=Bw h;k y a b
theorem gi{ip:Decidable g}{r:c}{p:Prop}(h:gd g o=θ r)(k:g->o=θ r->p):p:=let ⟨a,b⟩:=T2 h;k a b
variable {y:Code}
theorem cs{x:Code}(h:C P n (Fw P n x Q) y F w):C P n Q (.seq y x) F w:=BS h
variable {l:δ Α}
theorem cr(h:W P n l.toArray Q l F w):C P n Q (.region k l.toArray ν) F w:=MQ h
theorem wl(h:Q .normal (fr n F) w):W P n ops Q [] F w:=jT h
theorem qn{k':Nat}{D d:δ Deferred}(h:C P ⟨k,D,a⟩ Q y F w):Fw P ⟨k',d,a⟩ y Q .normal (fr ⟨k,D,a⟩ F) w:=JG h
theorem ct(h:Q .ret (fr n F) w):C P n Q .ret F w:=Xe h
theorem ck(h:Q .normal (fr n F) w):C P n Q .skip F w:=Qg h
theorem ce(h:C P n (Exit.inBlock k Q) y F w):C P n Q (.block k y) F w:=RU h
theorem ql{K:Act->ο->Prop}(h:K (fr n F) w):Exit.then K Q .normal (fr n F) w:=h
theorem st{m:Md}(h:Q .ret (fr n F) w):Fw P m y Q .ret (fr n F) w:=DG h
theorem lD(h:Q .ret (fr n F) w):Exit.inBlock k Q .ret (fr n F) w:=h
theorem bn(h:Q .normal (fr n F) w):Exit.inBlock k Q .normal (fr n F) w:=h
theorem gy{a:ε Nat}{op:Op}{ty:ω}{pos:String}{after:Array Edge}{b:η}(dg:Nat)(h:W P n ops Q (⟨a,op,ty,pos,after,ι⟩::l) F w)
  (e:(ops[k]?).bind (·.dst)=θ dg:=by kernel_rfl) (d:fL dg n.n=μ:=by kernel_rfl) (c:F dg=.bool b:=by kernel_rfl):W P n ops Q (⟨a,op,ty,pos,after,θ (k,b)⟩::l) F w:=JS dg e d c h
theorem sr(h:W P n l.toArray (Fw P n y Q) l F w):C P n Q (.seq (.region k l.toArray ν) y) F w:=BS (MQ h)
theorem nq{k':Nat}{D d:δ Deferred}(h:C P ⟨k,D,a⟩ Q y F w):W P ⟨k,D,a⟩ ops (Fw P ⟨k',d,a⟩ y Q) [] F w:=jT (JG h)
end
open Go
open List renaming replicate → iZ
open Nat renaming blt → fL
section
variable {P:Β}{kn:Nat}{kD:δ Deferred}{ro:ε (ε Nat)}{ops:Array Α}{Q:Exit->Act->ο->Prop}{S:Nat->ο->ο->Prop}{F:Nat->ξ}{w:ο}
@[reducible] def NP (Q:Exit->Act->ο->Prop):Exit->Act->ο->Prop:=λe a w=>match e with|.panic _=>False|e=>Q e a w
theorem rb:IP (NP Q):=λ_ _ _ h=>h
variable {b:ο}{L:δ cB}
theorem Hp.blkeq{S:δ Nat}(h:Hp b S L w)(k m:Nat)(cs a:δ ξ)(e:ω)(d:L[k]? =θ (bA m cs e))(g:cs=a):Hp b S (L.set k (bA m a e)) w:=by
 subst g;have c:k<γ L:=(aF.1 d).1;have j:L.set k (bA m cs e)=L:=by
  apply cD;intro i;rw[eR];by_cases f:k=i
  ·subst f;rw[d];simp[c]
  ·simp[f]
 rw[j];exact h
theorem Vt{a:Act}(h:Q .normal a w):NP Q .normal a w:=h
theorem c_np{n:Md}{c:Code}(h:C P n (NP Q) c F w):C P n Q c F w:=BR h λe a w b=>by
 cases e with
 |panic c=>exact b.elim
 |_=>exact b
def nodB(l:δ Α):η:=l.all λo=>match o.op with|.defer _=>ν|_=>μ
variable {a:δ Α}
theorem yb(h:nodB a=μ):NoD a.toArray:=by intro j o c d l;have b:=aT.1 h o (by have:=aI (show a[j]? =θ o by simpa using d);simpa using this);rw[l]at b;cases b
variable {k:Nat}
theorem Xf{S0:δ Nat}(m:Nat)(S:Nat->ο->ο->Prop)(listed:δ η)(l:∀j w,S j w w)(c:P.follows .mixedOrders=μ)(i:Fq a.toArray m=μ)
  (f:Hp b S0 L w) (d:iZ (γ a) ν=listed) (e:IP Q) (h:∀w',Hp b S0 L w'->RO P ⟨kn,kD,ro⟩ a.toArray Q S m m listed F w') (g:nodB a=μ:=by kernel_rfl):C P ⟨kn,kD,ro⟩ Q (.region k a.toArray μ) F w:=
 X2 m S listed l c i f d e (λ_=>yb g) h
variable {f:Nat}{l:δ η}{o:Α}
theorem rtO{d:Nat}(i:Nat)(v:ξ)(j:ops[i]? =θ o)(m:o.dst=θ d)(c:YieldsIf P ops (λ_=>True) o v (fr ⟨kn,kD,ro⟩ F))
  (h:RO P ⟨kn,kD,ro⟩ ops Q S k f (l.set i μ) (dQ F d v) w) (e:Fq ops k=μ:=by kernel_rfl) (a:Region.free .any ops l.toArray i=μ:=by kernel_rfl)
  (g:(Ζ .any ops l.toArray).contains i=μ:=by kernel_rfl) (b:fL i k=μ:=by kernel_rfl):RO P ⟨kn,kD,ro⟩ ops Q S k (f+1) l F w:=PS _ i d v o j m e a g b rfl c h
theorem roO(i:Nat)(c:ops[i]? =θ o)(h:W P ⟨kn,kD,ro⟩ ops (RKO P ⟨kn,kD,ro⟩ ops Q S k f (l.set i μ) i w) [o] F w)
  (b:Ζ .any ops l.toArray=[i]:=by kernel_rfl) (a:fL i k=μ:=by kernel_rfl):RO P ⟨kn,kD,ro⟩ ops Q S k (f+1) l F w:=fx _ i o c b a rfl h
theorem OS{k f':Nat}(j:Fq ops k=μ):∀(a:δ Nat) (l:δ η) (F:Nat->ξ),xg P ⟨kn,kD,ι⟩ ops k a l F=μ->
  RO P ⟨kn,kD,ro⟩ ops Q S k f' (rL a l) (rF P ⟨kn,kD,ι⟩ ops a F) w->RO P ⟨kn,kD,ro⟩ ops Q S k (f'+γ a) l F w
 |[],l,F,_,h=>h
 |i::a,l,F,c,h=>by
  simp only[xg,lA]at c;obtain⟨⟨⟨⟨f,q⟩,p⟩,n⟩,m⟩:=c;cases g:ops[i]? with
  |none=>rw[g]at f;cases f
  |some o=>
   rw[g]at f m;simp only[rL,rF,g]at h;have b:∃d,o.dst=θ d:=by
    cases b:o.dst with
    |none=>simp[XV,b]at f
    |some d=>exact⟨d,rfl⟩
   obtain⟨d,b⟩:=b;have e:Hy P ⟨kn,kD,ι⟩ ops F o=dQ F d (gg P ⟨kn,kD,ι⟩ ops F o):=by simp[Hy,b]
   refine PS _ i d (gg P ⟨kn,kD,ι⟩ ops F o) o g b j q p n rfl (pn f) ?_;rw[<-e];exact OS j a (l.set i μ) (Hy P ⟨kn,kD,ι⟩ ops F o) m h
theorem rpO(f':Nat)(a:δ Nat)(h:RO P ⟨kn,kD,ro⟩ ops Q S k f' (rL a l) (rF P ⟨kn,kD,ι⟩ ops a F) w)
  (d:f=f'+γ a:=by kernel_rfl) (c:Fq ops k=μ:=by kernel_rfl) (b:xg P ⟨kn,kD,ι⟩ ops k a l F=μ:=by kernel_rfl):RO P ⟨kn,kD,ro⟩ ops Q S k f l F w:=by
 subst d;exact OS c a l F b h
end
open Go
open List renaming drop → cC, flatMap → gY
variable {a:ε Γ}
theorem ed{cap b sz:Nat}(h:a=ι->cap=0):Yr a cap b sz=ι->cap-b=0:=by
 unfold Yr;split
 ·intro _;omega
 ·cases a with
  |none=>intro _;have:=h rfl;omega
  |some p=>intro c;cases c
theorem vv{cap k sz:Nat}{l:δ ζ}{S:δ Nat}(h:gY eB l≠[]->∀p,a=θ p->p.block∉S):gY eB (cC k l)≠[]->∀p,Yr a cap k sz=θ p->p.block∉S:=by
 intro c p b;have d:gY eB l≠[]:=by intro f;rw[lV]at f c;have:l=[]:=aD5;subst this;simp at c
 unfold Yr at b;split at b
 ·exact h d p b
 ·cases a with
  |none=>cases b
  |some q=>
   simp at b;have e:(q.add (k*sz)).block=q.block:=by unfold Addr.add;split<;>rfl
   rw[<-b,e];exact h d q rfl
def Ib(b:Nat)(l:δ Int):cB:=
 ⟨θ b,λo=>∃a clock,o=θ (.map a clock)/\a.toList.map (·.key)=l.map (Δ .i64)/\∀e∈a.toList,e.val=.bool μ⟩
def To(l:δ Int)(n:Int):δ Int:=if n∈l then l else l++[n]
theorem Hi(n:Int):∀(b:δ MapEntry) (l:δ Int) (i:Nat),b.map (·.key)=l.map (Δ .i64)->(∀e∈b,e.val=.bool μ)->
  ∃j,Instr.findNow (.int .i64) (.int .i64 n) b i=θ (if n∈l then θ (i+j,.bool μ)else ι)/\(n∈l->l[j]? =θ n)
 |[],[],i,_,_=>⟨0,by simp[Instr.findNow]⟩
 |[],_::_,i,h,_=>by cases h
 |_::_,[],i,h,_=>by cases h
 |e::b,m::l,i,h,d=>by
  simp only[uX,oH]at h;obtain⟨f,o⟩:=h;obtain⟨j,g,c⟩:=Hi n b l (i+1) o λe k=>d e (by simp[k]);by_cases a:n=m
  ·subst a;refine⟨0, ?_,λ_=>rfl⟩;simp[Instr.findNow,Instr.sameNow,f,d e aA3]
  ·refine⟨j+1, ?_,λh=>by simpa [a] using c (by simpa [a] using h)⟩;simp only[Instr.findNow,Instr.sameNow,f,gG,aQ,a,false_or];have:(n==m)=ν:=by simp[a]
   simp only[this,g];split
   ·simp;omega
   ·rfl
section
variable {P:Β}{n:Md}{ops:Array Α}{Q:Exit->Act->ο->Prop}{F:Nat->ξ}{w w0:ο}{S:δ Nat}{L:δ cB}
variable {d:Nat}{ty:ω}{pos:String}{after:Array Edge}{rest:δ Α}
variable {t:ω}
theorem cq(a:Hp w0 S L w)(h:∀b w',Hp w0 S (Ib b []::L) w'->W P n ops Q rest (dQ F d (.map (θ b))) w'):W P n ops Q (⟨θ d,.makeMap t ι,ty,pos,after,ι⟩::rest) F w:=by refine fE (w':=w.alloc (.map #[] 0)) rfl rfl ?_ (h w.heap.size _ (a.BY _ _ rfl ⟨#[],0,rfl,rfl,aA3⟩));simp[ς,Instr.makeMap]
theorem pB(a:P.underlying t=θ (.int .i64))(m:Int)(b:η):(Instr.checkKey b 10000 t (.int .i64 m)).run P w=.ok () w:=by
 have key:∀i,(Instr.checkKey b (i+1) t (.int .i64 m)).run P w=.ok () w:=λi=>by simp[Instr.checkKey,run_underlying a]
 exact key 9999
theorem Gy(d:P.underlying t=θ (.int .i64)){b:Nat}{a:Array MapEntry}{l:δ Int}(m:Int)(h:a.toList.map (·.key)=l.map (Δ .i64))(g:∀e∈a.toList,e.val=.bool μ):
  ∃j,(Instr.findKey t (.int .i64 m) a.toList).run P w=.ok (if m∈l then θ (j,.bool μ)else ι) w/\(m∈l->l[j]? =θ m):=by
 obtain⟨j,f,c⟩:=Hi m a.toList l 0 h g;refine⟨j, ?_,c⟩;unfold Instr.findKey;simp[run_underlying d,f]
theorem ve{k e:ω}{x i:χ}(u:Hp w0 S L w)(q b:Nat)(l:δ Int)(m:Int)(s:L[q]? =θ (Ib b l))(o:P.underlying t=θ (.map k e))(g:P.underlying k=θ (.int .i64))(r:(zeroValue e).run P w=.ok (.bool ν) w)
  (hx:aX n F x=.map (θ b)) (p:aX n F i=.int .i64 m) (h:W P n ops Q rest (dQ F d (.bool (decide (m∈l)))) w):W P n ops Q (⟨θ d,.lookup t x i ν,ty,pos,after,ι⟩::rest) F w:=by
 obtain⟨A,clock,z,y,v⟩:=(u.res _ (aI s)).1;have a:(getObj b).run P w=.ok (.map A clock) w:=by have:w.heap[b]? =θ _:=z;simp[getObj,Sem.run,this]
 obtain⟨j,f,_⟩:=Gy (w:=w) g (b:=b) m y v;refine fE (w':=w) rfl rfl ?_ h;by_cases c:m∈l
 ·simp only[c]at f;simp[ς,hx,p,Instr.lookup,run_underlying o,a,pB g,f,c]
 ·simp only[c]at f;simp[ς,hx,p,Instr.lookup,run_underlying o,a,pB g,f,c,r]
theorem vd{k e:ω}{x M y:χ}(J:Hp w0 S L w)(v b:Nat)(l:δ Int)(m:Int)(I:L[v]? =θ (Ib b l))(O:P.underlying t=θ (.map k e))(E:P.underlying k=θ (.int .i64))
  (hx:aX n F x=.map (θ b)) (c:aX n F M=.int .i64 m) (N:aX n F y=.bool μ) (h:∀w',Hp w0 S (L.set v (Ib b (To l m))) w'->W P n ops Q rest F w'):W P n ops Q (⟨ι,.mapUpdate t x M y,ty,pos,after,ι⟩::rest) F w:=by
 obtain⟨g,clock,B,A,K⟩:=(J.res _ (aI I)).1;have B:w.heap[b]? =θ _:=B;have s:(getObj b).run P w=.ok (.map g clock) w:=by simp[getObj,Sem.run,B]
 have p:∀o c',(setObj b (.map o c')).run P w=.ok () (w.putObj b _):=λo c'=>by simp[setObj,Sem.run,B];rfl
 obtain⟨j,z,H⟩:=Gy (w:=w) E (b:=b) m A K;by_cases q:m∈l
 ·simp only[q]at z;have G:=H q;have C:∃u,g.toList[j]? =θ u/\u.key=.int .i64 m:=by
   have:=bF (·[j]?) A;simp only[aY,G]at this;cases d:g.toList[j]? with
   |none=>rw[d]at this;cases this
   |some u=>rw[d]at this;exact⟨u,rfl,by simpa using this⟩
  obtain⟨u,f,r⟩:=C;have D:((g[j]?.map (·.key)).getD (.int .i64 m))=.int .i64 m:=by rw[<-jQ,f];exact r
  refine oP (w':=w.putObj b (.map (g.modify j λe=>{e with key:=.int .i64 m,val:=.bool μ}) clock)) rfl rfl ?_ (h _ ?_)
  ·simp[ς,hx,c,N,Instr.mapUpdate,run_underlying O,s,pB E,z,Instr.keyThatStays,D,Instr.sameBits,p]
  ·refine J.put v b _ _ _ I rfl rfl ⟨_,_,rfl, ?_, ?_⟩
   ·rw[show To l m=l by simp[To,q],<-A];refine cD λi=> ?_;simp;by_cases a:j=i
    ·subst a;rw[jQ]at f;simp[f,r]
    ·simp[a]
   ·intro e d;obtain⟨i,c⟩:=fO.1 d;rw[jQ,jR]at c;by_cases a:j=i
    ·subst a;cases R:g[j]? with
     |none=>rw[R]at c;simp at c
     |some T=>rw[R]at c;simp at c;rw[<-c]
    ·simp only[a]at c;exact K e (aI (by rw[jQ];exact c))
 ·simp only[q]at z;refine oP (w':=w.putObj b (.map (g.push {key:=.int .i64 m,val:=.bool μ,born:=clock}) (clock+1))) rfl rfl ?_ (h _ ?_)
  ·simp[ς,hx,c,N,Instr.mapUpdate,run_underlying O,s,pB E,z,p]
  ·refine J.put v b _ _ _ I rfl rfl ⟨_,_,rfl, ?_, ?_⟩
   ·simp[To,q,A]
   ·intro e d;simp at d;rcases d with d|rfl
    ·exact K e aD3
    ·rfl
end
open Go.Value renaming ownBlock → Cs
open List renaming replicate → iZ
theorem HD{α:Type}(f:α->δ ξ)(sz:Nat)(z:α)(a:γ (f z)=sz):∀(n j:Nat),j<n*sz->((iZ n z).flatMap f)[j]? =(f z)[j%sz]?
 |0,j,h=>by simp at h
 |n+1,j,h=>by
  rw[List.replicate_succ,Kh];by_cases b:j<sz
  ·rw[aJ aA0,IT b]
  ·rw[aO aA0,a,HD f sz z a n _ (by rw[dA]at h;omega)];congr 1;rw[<-Nat.mod_eq_sub_mod aA0]
theorem VM{α:Type}(f:α->δ ξ)(sz:Nat)(z:α)(b:Array ξ)(e:b.toList=f z)(d:b.size=sz)(eT:0<sz)(n:Nat):(madeCells b (n*sz)).toList=(iZ n z).flatMap f:=by
 have c:γ (f z)=sz:=by rw[<-e];simpa using d
 apply cD;intro j;by_cases h:j<n*sz
 ·rw[HD f sz z c n j h];have g:j%sz<b.size:=by rw[d];exact NI _ eT
  simp[madeCells,h,<-e,d];rw[gB g,getElem!_pos b _ g]
 ·rw[bO (by simp[madeCells];omega),bO];rw[a f sz z c];omega
where
 a {α:Type} (f:α->δ ξ) (sz:Nat) (z:α) (c:γ (f z)=sz) {n:Nat}:γ ((iZ n z).flatMap f)=n*sz:=by
  induction n with
  |zero=>simp
  |succ n i=>rw[List.replicate_succ,Kh,cG,i,c,dA];omega
section
variable {P:Β}{n:Md}{ops:Array Α}{Q:Exit->Act->ο->Prop}{F:Nat->ξ}{w w0:ο}{S:δ Nat}{L:δ cB}
variable {d:Nat}{ty:ω}{pos:String}{after:Array Edge}{rest:δ Α}{α:Type}{f:α->δ ξ}
theorem cw{x y:χ}{t:ω}(hH:Hp w0 S L w)(e sz j:Nat)(kl T:Ε)(c:Int)(z:α)(X:P.underlying t=θ (.slice e))(hT:TI P e sz j)(I:0<j)(eT:0<sz)
  (D:((P.info? e).bind (·.zero)).map (·.cells)=θ (f z).toArray) (hx:aX n F x=.int kl c) (V:aX n F y=.int T c)
  (m:0<=c/\(j:Int)*c<=281474976710656)
  (h:∀o a cap w',Hp w0 S (bN f e sz o a cap (iZ c.toNat z)::L) w'->W P n ops Q rest (dQ F d (.slice a (γ (iZ c.toNat z)) cap)) w'):
  W P n ops Q (⟨θ d,.makeSlice t x y,ty,pos,after,ι⟩::rest) F w:=by
 obtain⟨i,A,U,p,Y,u,B⟩:=hT.parts;obtain⟨h0,J⟩:=m;obtain⟨cn,rfl⟩:=Int.eq_ofNat_of_zero_le h0;have K:i.bytes*cn<=281474976710656:=by
  rw[u];have a1:((j*cn:Nat):Int)<=281474976710656:=by rw[Int.natCast_mul];exact J
  omega
 have M:cn<=maxLen:=by have:cn<=i.bytes*cn:=Nat.le_mul_of_pos_left _ (by rw[u];exact I);simp only[maxLen];omega
 have C:A.cells.toList=f z:=by rw[U]at D;simp[p]at D;rw[D]
 obtain⟨w',l,G,s⟩:=run_make_full w w.heap.size t e i A sz X U p Y kl T cn K M (dO _);rw[VM f sz z A.cells C B eT cn]at G;have O:Hp w [] [row (.slice (θ ⟨w.heap.size,0,ι⟩) cn cn) e sz cn ((iZ cn z).flatMap f)] w':=by
  refine⟨s.os,s.tape,s.output,s.size,λk hk _=>s.block k hk aA3,λr l=> ?_,aA3⟩;simp at l;subst l;have H:=G.lt w.heap.size rfl;refine⟨?_,λb m=> ?_⟩
  ·obtain⟨Z,l⟩:=G;refine⟨Z, ?_⟩;rcases l with l|⟨g,c,R,E,_,m,h1,O,v,N⟩
   ·exact .inl l
   ·refine .inr ⟨g,c,R,E, ?_,h1,O,v,N⟩;simp only[Value.slice.injEq,bG,Addr.mk.injEq]at E;obtain⟨⟨rfl,-⟩,-,rfl⟩:=E;exact m
  ·simp[row,Cs]at m;subst m;exact⟨H.2,.inl (dO _)⟩
 have v:=hH.lX O;have q:γ (iZ cn z)=cn:=aA3;have N:(row (.slice (θ ⟨w.heap.size,0,ι⟩) cn cn) e sz cn ((iZ cn z).flatMap f))=row (.slice (θ ⟨w.heap.size,0,ι⟩) (γ (iZ cn z)) cn) e sz (γ (iZ cn z)) ((iZ cn z).flatMap f):=by rw[q]
 rw[N]at v;obtain⟨o,h5⟩:=v.Lt 0 rfl;have h6:=h o _ cn w' h5;refine fE (w':=w') rfl rfl ?_ h6;simp[ς,hx,V,l]
end
section
variable {P:Β}{n:Md}{ops:Array Α}{Q:Exit->Act->ο->Prop}{F:Nat->ξ}{w w0:ο}{S:δ Nat}{L:δ cB}
variable {d:Nat}{ty:ω}{pos:String}{after:Array Edge}{rest:δ Α}{α:Type}{f:α->δ ξ}
end
section
variable {α:Type}{f:α->δ ξ}{sz:Nat}
end
open Go
open Go.Value renaming ownBlock → Cs
open Int renaming toNat → bH
open List renaming replicate → iZ
abbrev PA:=ε Nat×ε Γ×Nat
abbrev vBq(g:Nat->PA×PA)(l:δ (δ (aC×aC)×δ ζ))(i:Int):ξ:=π ((g (bH i)).2.2.1) (γ ((el l i).2)) ((g (bH i)).2.2.2)
abbrev vHq(g:Nat->PA×PA)(l:δ (δ (aC×aC)×δ ζ))(i:Int):ξ:=π ((g (bH i)).1.2.1) (γ ((el l i).1)) ((g (bH i)).1.2.2)
abbrev Da(g:Nat->PA×PA)(l:δ (δ (aC×aC)×δ ζ))(i:Int):δ ξ:=[vHq g l i,vBq g l i]
abbrev gNq:Nat->PA×PA:=λ_=>((ι,ι,0),(ι,ι,0))
variable {T G:Type}
def gz(g:Nat->G)(l:δ T):δ (T×G):=l.mapIdx λi x=>(x,g i)
theorem Rq(g:Nat->G)(l:δ T):γ (gz g l)=γ l:=by unfold gz;simp
theorem Kd(g:Nat->G)(l:δ T){i:Int}(h:0<=i/\i<γ l):0<=i/\i<(γ (gz g l)):=by rw[Rq];exact h
theorem sS[Inhabited T][Inhabited G](g:Nat->G)(l:δ T)(i:Int)(h:0<=i/\i<γ l):el (gz g l) i=(el l i,g i.toNat):=by have:i.toNat<γ l:=aA0;simp[el,gz,this]
def WC(g:Nat->T)(i:Nat)(x:T):Nat->T:=λk=>if k=i then x else g k
theorem Hf(g:Nat->G)(l:δ T)(j:Nat):(gz g l)[j]? =l[j]?.map λx=>(x,g j):=by unfold gz;simp
theorem R7(g:Nat->G)(l:δ T)(i:Nat)(p:T)(x:G):(gz g l).set i (p,x)=gz (WC g i x) (l.set i p):=by
 apply cD;intro j;rw[Hf,eR,Hf,Rq];by_cases h:i=j
 ·subst h;by_cases a:i<γ l<;>simp[a,WC]
 ·simp[h,WC,show¬j=i by omega]
theorem RA(g:Nat->G)(l:δ T)(p:T)(x:G):gz g l++[(p,x)]=gz (WC g (γ l) x) (l++[p]):=by
 apply cD;intro j;rw[Hf];by_cases h:j<γ l
 ·rw[aJ (by rw[Rq];exact h),aJ h,Hf];simp[h,WC,show¬j=γ l by omega]
 ·rw[aO (by rw[Rq];omega),Rq];by_cases a:j=γ l
  ·subst a;simp[WC]
  ·rw[bO aA2,bO aA2];rfl
theorem R8(n:Nat)(z:T)(x:G):iZ n (z,x)=gz (λ_=>x) (iZ n z):=by apply cD;intro j;rw[Hf,qH,qH];by_cases h:j<n<;>simp
variable {w:ο}{a:ε Γ}
theorem Rd.of{c b:δ ξ}(h:Rd w a c)(e:c=b):Rd w a b:=e▸h
def Th(f:T->δ ξ)(o:ε Nat)(a:ε Γ)(cap:Nat)(l:δ T):cB:=
 ⟨o,λob=>(o=ι/\l=[]/\cap=0/\a=ι)\/∃g b e d,o=θ g/\a=θ ⟨g,0,ι⟩/\ob=θ (.cells b e d)/\γ l<=cap/\b.toList.take (γ (l.flatMap f))=l.flatMap f⟩
variable {f:T->δ ξ}{o:ε Nat}{e:Nat}{l:δ T}
theorem LW(h:(Th f o a e l).holds w):Rd w a (l.flatMap f)/\γ l<=e/\(a=ι->e=0):=by
 rcases h with⟨_,rfl,rfl,rfl⟩|⟨g,d,m,n,p,rfl,c,q,k⟩
 ·exact⟨Rd.nil _ _,cW _,λ_=>rfl⟩
 ·refine⟨λj v i=>⟨_,rfl, ?_⟩,q,λh=>nomatch h⟩
  have c:w.heap[g]? =θ (.cells d m n):=by
   have s:((θ g).bind λb=>w.heap[b]?)=θ (.cells d m n):=by rw[<-p];exact c
   exact s
  rw[SI];have r:d.toList[j]? =θ v:=by
   rw[<-k]at i;rw[bQ]at i;split at i
   ·exact i
   ·cases i
  simp only[World.cell?,c];simpa using r
variable {b:ο}{S:δ Nat}{L:δ cB}
theorem Hp.rdfrz(h:Hp w S L b)(k:Nat)(c:L[k]? =θ (Th f o a e l)):Rd b a (l.flatMap f):=(LW (h.res _ (aI c)).1).1
variable {d:Nat}
theorem Hp.E4{f:T×G->δ ξ}{cap:Nat}{g:Nat->G}(h:Hp w S L b)(k:Nat)(i:L[k]? =θ (bN f e d o a cap (gz g l))):γ l<=cap:=by
 have:=h.Gr k i
 rwa [Rq]at this
theorem Hp.zrw{cap:Nat}(h:Hp w S L b)(k:Nat)(n:L[k]? =θ (bN f e d o a cap l)):a=ι->cap=0:=by
 intro i;rcases(h.res _ (aI n)).1 with⟨_,_,j,_⟩|⟨g,m,_,c,_⟩
 ·exact j
 ·rw[i]at c;cases c
theorem Hp.weak(h:Hp w S L b)(k:Nat)(r r':cB)(c:L[k]? =θ r)(a:r'.own=r.own)(e:r.holds b->r'.holds b):Hp w S (L.set k r') b:=by obtain⟨g,f⟩:=h.res r (aI c);exact h.change k r r' c rfl rfl rfl (dO _) (λ_ _ _=>rfl) (e g) λi d=>⟨.inl (by rw[<-a];exact d),(f i (by rw[<-a];exact d)).1⟩
theorem Hp.E3{cap:Nat}(h:Hp w S L b)(t:qY f d)(k:Nat)(p:L[k]? =θ (bN f e d o a cap l)):Hp w S (L.set k (Th f o a cap l)) b:=by
 refine h.weak k _ _ p rfl λm=> ?_;rcases m with⟨rfl,rfl,rfl,rfl⟩|⟨g,i,n,s,c,u,r,q,j⟩
 ·exact .inl ⟨rfl,rfl,rfl,rfl⟩
 ·exact .inr ⟨g,i,e,(0,0),n,s,c,u,by rw[t.flat];exact j⟩
variable {c:δ ζ}
theorem Hp.tb(h:Hp w S L b)(k:Nat)(o:L[k]? =θ (gW (.slice a e d) e c)):Hp w S (L.set k (Th eB (π a e d).ownBlock a d c)) b:=by refine h.weak k _ _ o rfl λj=> ?_;obtain⟨m,g,f,t,l,p,i,s,r,q,n⟩:=j;cases i;refine .inr ⟨g,t,l,p,rfl,rfl,s,aA0, ?_⟩;rw[lV,Gf,m];exact n.1
theorem Hp.AB(h:Hp w S L b)(f:T->δ ξ):Hp w S (Th f ι ι 0 []::L) b:=by
 refine⟨h.os,h.tape,h.output,h.size,h.below,λr a=> ?_, ?_⟩
 ·rcases aQ.1 a with rfl|a
  ·exact⟨.inl ⟨rfl,rfl,rfl,rfl⟩,λd c=>by simp[Th]at c⟩
  ·exact h.res r a
 ·refine List.Pairwise.cons (λr _ d c=>by simp[Th]at c) h.sep
theorem Hp.HY(h:Hp w S L b)(k:Nat)(p:L[k]? =θ (gW (.slice a e d) e c)):e<=d:=by obtain⟨_,g,n,i,l,j,m,_,f,_⟩:=(h.res _ (aI p)).1;cases m;exact f
theorem Hp.zbr(h:Hp w S L b)(k:Nat)(p:L[k]? =θ (gW (.slice a e d) e c)):a=ι->d=0:=by intro f;obtain⟨_,g,m,i,l,j,n,_⟩:=(h.res _ (aI p)).1;rw[f]at n;cases n
def gI(inn:T×G->δ cB)(g:Nat->G)(l:δ T):δ cB:=(gz g l).flatMap inn
theorem zp[Inhabited T][Inhabited G](inn:T×G->δ cB)(g:Nat->G)(l:δ T)(i:Int)(h:0<=i/\i<γ l):∀r∈inn (el l i,g i.toNat),r∈gI inn g l:=by intro r a;refine List.mem_flatMap.2 ⟨_, ?_,a⟩;have b:i.toNat<γ l:=aA0;refine aI (i:=i.toNat) ?_;rw[Hf];simp[el,b]
theorem la(inn:T×G->δ cB)(g:Nat->G)(l:δ T)(p:T)(x:G):gI inn (WC g (γ l) x) (l++[p])=gI inn g l++inn (p,x):=by unfold gI;rw[<-RA];simp
theorem Hp.zm{L:δ cB}{inn:T×G->δ cB}{g:Nat->G}{l:δ T}(p:T)(x:G)(Z:δ cB)(h:Hp w S (inn (p,x)++(L++(gI inn g l++Z))) b):Hp w S (L++(gI inn (WC g (γ l) x) (l++[p])++Z)) b:=by refine h.perm ?_;rw[la];refine(ai).trans ?_;rw[gZ,gZ];refine fP L ?_;rw[gZ];exact fP _ ai
theorem T4(inn:T×G->δ cB)(g:Nat->G)(l:δ T)(i:Nat)(h:i<γ l)(p:T)(x:G):gI inn g l=((gz g l).take i).flatMap inn++(inn (l[i],g i)++((gz g l).drop (i+1)).flatMap inn)/\gI inn (WC g i x) (l.set i p)=((gz g l).take i).flatMap inn++(inn (p,x)++((gz g l).drop (i+1)).flatMap inn):=by
 have a:i<γ (gz g l):=by rw[Rq];exact h
 have e:(gz g l)[i]=(l[i],g i):=by have:=Hf g l i;rw[aN a,aN h]at this;exact aP this
 constructor
 ·unfold gI
  conv=>lhs;rw[<-NO i (gz g l),zbD a]
  rw[NN,Kh,e]
 ·unfold gI;rw[<-R7,zbI,aB a,NN,Kh]
theorem Hp.giSet{L:δ cB}{inn:T×G->δ cB}{g:Nat->G}{l:δ T}(p:T)(x:G)(Z:δ cB)(i:Int)(d:0<=i/\i<γ l)(h:Hp w S (inn (p,x)++(L++(gI inn g l++Z))) b):Hp w S (L++(gI inn (WC g i.toNat x) (l.set i.toNat p)++Z)) b:=by
 obtain⟨c,j⟩:=T4 inn g l i.toNat aA0 p x;rw[c]at h;rw[j];have a:Hp w S (inn (p,x)++(L++((((gz g l).take i.toNat).flatMap inn++((gz g l).drop (i.toNat+1)).flatMap inn)++Z))) b:=by refine h.sub (gQ (gQ (List.Sublist.append_right (gQ (List.sublist_append_right _ _) _) _) _) _)
 refine a.perm ?_;refine(ai).trans ?_;rw[gZ];refine fP L ?_;rw[gZ,gZ,gZ,gZ];refine fP _ ?_;rw[<-gZ];exact ai
theorem Hp.giNil{L:δ cB}{inn:T×G->δ cB}(z:T)(x:G)(n:Nat)(Z:δ cB)(g:∀r∈inn (z,x),r.own=ι/\r.ok ι)(h:Hp w S (L++Z) b):Hp w S (L++(gI inn (λ_=>x) (iZ n z)++Z)) b:=by
 have key:∀r∈gI inn (λ_=>x) (iZ n z),r.own=ι/\r.ok ι:=by intro r a;obtain⟨q,e,a⟩:=List.mem_flatMap.1 a;rw[<-R8]at e;rw[List.eq_of_mem_replicate e]at a;exact g r a
 have i:Hp w S (gI inn (λ_=>x) (iZ n z)++(L++Z)) b:=by
  refine⟨h.os,h.tape,h.output,h.size,h.below,λr a=> ?_, ?_⟩
  ·rcases aV.1 a with a|a
   ·obtain⟨d,f⟩:=key r a;exact⟨by unfold cB.holds;rw[d];exact f,λj c=>by rw[d]at c;cases c⟩
   ·exact h.res r a
  ·refine dF.2 ⟨?_,h.sep,λr a r' _ j c=>by rw[(key r a).1]at c;cases c⟩;exact List.Pairwise.imp_of_mem (R:=λ_ _=>True) (λa _ _ j c=>by rw[(key _ a).1]at c;cases c) (List.pairwise_of_forall aA3)
 refine i.perm ?_;refine(ai).trans ?_;rw[gZ];exact fP L ai
theorem Hp.FQ{L1:δ cB}(h:Hp w S L b)(n m:Nat)(a:n<=m)(g:L.take n++L.drop m=L1:=by kernel_rfl):Hp w S L1 b:=by
 refine h.sub ?_;rw[<-g];have e:=(NO n L).symm
 conv=>rhs;rw[e]
 exact gQ (List.drop_sublist_drop_left L a) _
theorem Hp.Wx(L1 T a:δ cB)(h:Hp w S (L1++T) b)(p:a.Sublist T):Hp w S (L1++a) b:=h.sub (gQ p L1)
theorem Hp.back1(A B C D:δ cB)(h:Hp w S ((A++(B++[]))++(C++D)) b):Hp w S (A++(C++(B++D))) b:=by refine h.perm ?_;rw[gD,gZ];refine fP A ?_;rw[<-gZ,<-gZ];exact List.Perm.append_right D ai
section
variable {P:Β}{n:Md}{ops:Array Α}{Q:Exit->Act->ο->Prop}{F:Nat->ξ}{w w0:ο}{S:δ Nat}{L:δ cB}
variable {d:Nat}{ty:ω}{pos:String}{after:Array Edge}{rest:δ Α}
variable {T G:Type}{f:T×G->δ ξ}
variable {x y:χ}{t:ω}
theorem cy(s:Hp w0 S L w)(e sz b:Nat)(kl k:Ε)(c:Int)(z:T)(g:G)(p:P.underlying t=θ (.slice e))(r:TI P e sz b)(j:0<b)(eT:0<sz)
  (l:((P.info? e).bind (·.zero)).map (·.cells)=θ (f (z,g)).toArray) (hx:aX n F x=.int kl c) (m:aX n F y=.int k c)
  (q:0<=c/\b*c<=281474976710656)
  (h:∀o a cap w',Hp w0 S (bN f e sz o a cap (gz (λ_=>g) (iZ c.toNat z))::L) w'->W P n ops Q rest (dQ F d (.slice a (γ (iZ c.toNat z)) cap)) w'):
  W P n ops Q (⟨θ d,.makeSlice t x y,ty,pos,after,ι⟩::rest) F w:=by
 refine cw s e sz b kl k c _ p r j eT l hx m q λo a cap w' i=> ?_;rw[R8]at i;have:=h o a cap w' i;simpa using this
theorem SZ(A:Hp w0 S L w)(k:Nat)(o:ε Nat)(a j:ε Γ)(cap cx e sz b:Nat)(g:Nat->G)(l:δ T)(p:T)(m:G)(B:qY f sz)(s:L[k]? =θ (bN f e sz o a cap (gz g l)))(r:P.underlying t=θ (.slice e))(v:TI P e sz b)(eT:0<sz)(i:0<b)
  (hx:aX n F x=.slice a (γ l) cap) (q:aX n F y=.slice j 1 cx) (z:Rd w j (f (p,m))) (u:(γ l+1)*b<=140737488355328)
  (h:∀o' a' cap' w',Hp w0 S (L.set k (bN f e sz o' a' cap' (gz (WC g (γ l) m) (l++[p])))) w'->W P n ops Q rest (dQ F d (.slice a' (γ (l++[p])) cap')) w'):
  W P n ops Q (⟨θ d,.call ⟨.builtin .append, #[x,y], #[t,t]⟩,ty,pos,after,ι⟩::rest) F w:=by
 refine SK A k o a j cap cx e sz b _ [(p,m)] B s r v eT i (by rw[Rq];exact hx) q (by simpa using z) (by rw[Rq];exact u) λo' a' cap' w' c=> ?_;rw[RA]at c⊢;rw[Rq];exact h o' a' cap' w' c
theorem Ji(q:Hp w0 S L w)(k b m e:Nat)(cs:δ ξ)(l:δ ζ)(o:L[k]? =θ (bA b cs e))(a:l.map bt=cs)(s:γ l=m)(y:P.underlying t=θ (.slice e))(A:P.underlying e=θ (.int .u8))(hx:aX n F x=.slice (θ ⟨b,0,ι⟩) m m)
  (h:∀w',Hp w0 S (L.set k (gW (.slice (θ ⟨b,0,ι⟩) m m) m l)) w'->W P n ops Q rest (dQ F d (.slice (θ ⟨b,0,ι⟩) m m)) w'):W P n ops Q (⟨θ d,.convert t t x,ty,pos,after,ι⟩::rest) F w:=by
 have v:=q.dV k o;have i:=((q.res _ (aI o)).2 b rfl).1;have eT:cs.toArray.size=m:=by rw[<-a,<-s];simp
 have f:w.shape? b=θ (e,m):=by unfold World.shape?;rw[v];simp only[eT]
 have z:(w.freeze ⟨b,m,ι⟩ 1).heap[b]? =θ (.cells cs.toArray e (m,m+1)):=by unfold World.freeze;simp[jR,v]
 refine fE (w':=w.freeze ⟨b,m,ι⟩ 1) rfl rfl ?_ (h _ ?_)
 ·simp[ς,hx,convert,run_underlying y,run_underlying A,markStringish,f]
 ·have r:w.freeze ⟨b,m,ι⟩ 1={w with heap:=(w.freeze ⟨b,m,ι⟩ 1).heap}:=by unfold World.freeze;rw[aA aA1]
  refine q.change k _ _ o (by rw[r]) (by rw[r]) (by rw[r]) (by unfold World.freeze;rw[aA aA1];simp) (λj B g=> ?_) ?_ (λc u=> ?_)
  ·unfold World.freeze;have p:¬b=j:=λh=>g (by rw[<-h];rfl);simp[jR,p]
  ·refine⟨s,b,m,cs.toArray,e,(m,m+1),rfl, ?_,dO _,aA0, ?_,aA0⟩
   ·exact z
   ·rw[a,<-eT];simp
  ·simp[gW,Cs]at u;subst u;exact⟨.inl rfl,by unfold World.freeze;rw[aA aA1];simpa using i⟩
theorem JT{K:Type}{f:K->δ ξ}(g:Hp w0 S L w)(b:Nat)(J:ε Γ)(m cx e sz k:Nat)(l c:δ K)(s:qY f sz)(I:Rd w (θ ⟨b,0,ι⟩) (l.flatMap f))(Y:γ l=m)(U:P.underlying t=θ (.slice e))(hT:TI P e sz k)(eT:0<sz)(G:0<k)
  (hx:aX n F x=.slice (θ ⟨b,0,ι⟩) m m) (R:aX n F y=.slice J (γ c) cx) (N:Rd w J (c.flatMap f)) (u:0<γ c/\(γ l+γ c)*k<=140737488355328)
  (h:∀o a cap w',Hp w0 S (bN f e sz o a cap (l++c)::L) w'->W P n ops Q rest (dQ F d (.slice a (γ (l++c)) cap)) w'):
  W P n ops Q (⟨θ d,.call ⟨.builtin .append, #[x,y], #[t,t]⟩,ty,pos,after,ι⟩::rest) F w:=by
 obtain⟨h2,u⟩:=u;subst Y;obtain⟨i,z,Z,O,V,H,B⟩:=hT.parts;subst V;subst H;have M:=oF (Nat.le_mul_of_pos_right _ G) u;have r:=s.flat c;cases J with
 |none=>
  have:0<γ (c.flatMap f):=by rw[r];exact Xy h2 eT
  obtain⟨p,C,_⟩:=N 0 ((c.flatMap f)[0]) aA3;cases C
 |some p=>
  have rd:∀{q:Γ} {A:δ ξ},Rd w (θ q) A->∀j v,A[j]? =θ v->w.cell? (q.add j)=θ v:=by intro q A X j v T;obtain⟨p,C,hc⟩:=X j v T;cases C;exact hc
  have key:=run_append_grow w t ty e i z U Z O ⟨b,0,ι⟩ (γ l) (γ l) (l.flatMap f) (s.flat l) (rd I) p (γ c) cx _ r (rd N) aA0 aA0 (growslice_fits aA0 u);have E:=grownCap_ge w (γ l+γ c) (γ l) e;have D:=grownCap_le_maxLen w (γ l+γ c) (γ l) e aE5;have hd:Hp w0 S L w.drew:=⟨g.os,g.tape,g.output,g.size,g.below,g.res,g.sep⟩
  have hA:=hd.BY (.cells ((l.flatMap f).toArray++(c.flatMap f).toArray++Builtin.zeroCells z.cells (grownCap w (γ l+γ c) (γ l) e-(γ l+γ c))) e) (bN f e i.size (θ w.drew.heap.size) (θ ⟨w.drew.heap.size,0,ι⟩) (grownCap w (γ l+γ c) (γ l) e) (l++c)) rfl (.inr ⟨w.drew.heap.size,_,rfl,rfl,rfl,by simpa using E,D,(by
   simp only[Array.size_append,List.size_toArray,Builtin.zeroCells,Array.size_map,Array.size_range,s.flat,B,<-iL];congr 1;omega),(by
   simp only[Array.toList_append,NN];rw[iM (by simp[s.flat,iL]),eW (by simp[s.flat,iL])])⟩)
  have h3:=h _ _ _ _ hA;refine fE rfl rfl ?_ h3;simp[ς,resolve,invoke,builtin,hx,R,key]
end
section
variable {P:Β}{n:Md}{ops:Array Α}{Q:Exit->Act->ο->Prop}{F:Nat->ξ}{w:ο}
variable {d:Nat}{ty:ω}{pos:String}{after:Array Edge}{rest:δ Α}{k:Nat}{D:δ Deferred}{ro:ε Nat}
theorem da{b:χ}{dT:Array χ}{a:Array ω}(f:FuncId)(cap:Array ξ)(vs:δ ξ)(i:Enters P f)
  (c:aX n F b=.func (.func f) #[] cap) (g: #[]++dT.map (aX n F)++cap=vs.toArray) (e:CR P f vs w λv w'=>W P n ops Q rest (dQ F d v) w'):
  W P n ops Q (⟨θ d,.call ⟨.value b,dT,a⟩,ty,pos,after,ι⟩::rest) F w:=
 wK f cap vs _ i c g e λ_ _ h=>h
end
end Go.Wk
namespace Go.Px
open Go.Wk
def bX(c:ζ):η:=c==32||c==9
def eJ(c:ζ):η:=(decide (c<32)&&c !=9)||c==127
def mw(c:ζ):η:=(decide (97<=c)&&decide (c<=122))||(decide (65<=c)&&decide (c<=90))
def gA(c:ζ):η:=decide (48<=c)&&decide (c<=57)
def cJ(c:ζ):η:=mw c||gA c||c==45||c==46||c==33||c==37||c==42||c==95||c==43||c==39||c==126||c==96
def eQ(c:ζ):ζ:=if 65<=c/\c<=90 then c+32 else c
def Hn(c:ζ):ζ:=if 97<=c/\c<=122 then c-32 else c
def cI(p:ζ->η):δ ζ->Nat
 |[]=>0
 |c::l=>if p c then cI p l+1 else 0
def Fo(i:Int)(n:Nat):Nat:=(min (max i 0) (n:Int)).toNat
def bT(p:ζ->η)(s:δ ζ)(i:Int):Nat:=Fo i (γ s)+cI p (s.drop (Fo i (γ s)))
theorem Tp(p:ζ->η):∀l,cI p l<=γ l
 |[]=>qG _
 |c::l=>by simp only[cI];have:=Tp p l;split<;>simp<;>omega
theorem uT(i:Int)(n:Nat):Fo i n<=n:=aD4
theorem jL(p:ζ->η)(s:δ ζ)(i:Int):bT p s i<=γ s:=by unfold bT;have a:=Tp p (s.drop (Fo i (γ s)));have b:=uT i (γ s);simp at a;omega
theorem tt(k n:Nat)(h:k<=n):Fo (k:Int) n=k:=aD4
theorem Iq(s:δ ζ)(k:Nat)(h:k<γ s):s.drop k=at_ s k::s.drop (k+1):=by rw[Tw h];simp[at_,h]
theorem KD(p:ζ->η)(s:δ ζ)(k:Nat)(h:k<γ s)(a:p (at_ s k)=ν):bT p s (k:Int)=k:=by unfold bT;rw[tt k _ aA0];have b:=Iq s k h;rw[b];simp only[cI,a];simp
theorem Us(p:ζ->η)(s:δ ζ):bT p s (γ s:Int)=γ s:=by unfold bT;rw[tt _ _ (qG _)];simp[cI]
theorem fM(p:ζ->Prop)(h:∀i:Fin 256,p (UInt8.ofFin i)):∀c,p c:=λc=>h c.toFin
set_option maxRecDepth 10000
theorem pH(c:ζ):gA c=μ↔48<=(c.toNat:Int)/\(c.toNat:Int)<=57:=by revert c;exact fM _ aA1
def Y9(c:ζ):η:=decide (32<=c)&&decide (c<=126)
def iH(s:δ ζ):η:= !s.isEmpty&&s.all cJ
theorem bkk(p:ζ->η):∀l,cI p l=γ l↔l.all p=μ
 |[]=>by simp[cI]
 |c::l=>by
  have b:=bkk p l;have d:=Tp p l;simp only[cI,dI,List.all_cons,yO];split
  ·rename_i a;simp[a,b]
  ·rename_i a;simp[a]
theorem dr(s:δ ζ):(s≠[]/\(bT cJ s 0:Int)=(γ s:Int))↔iH s=μ:=by
 have h:=bkk cJ s;have e:bT cJ s 0=cI cJ s:=by have c:Fo 0 (γ s)=0:=aD4;unfold bT;rw[c];simp
 rw[e];unfold iH;simp only[yO,gJ,Tu,<-h];constructor
 ·rintro⟨a,b⟩;exact⟨a,aA0⟩
 ·rintro⟨a,b⟩;exact⟨a,aA0⟩
def mP(s:δ ζ):Nat:=s.foldl (λn c=>10*n+(c.toNat-48)) 0
theorem bcm(s:δ ζ)(c:ζ):mP (s++[c])=10*mP s+(c.toNat-48):=by simp[mP,List.foldl_append]
theorem tY(s:δ ζ)(k:Nat)(h:k<γ s):s.take (k+1)=s.take k++[at_ s k]:=by rw[List.take_succ_eq_append_getElem h];simp[at_,h]
theorem uS:∀(n:Nat) (s:δ ζ),γ s<=n->s.all gA=μ->mP s<10^n:=by
 intro n;induction n with
 |zero=>intro s b _;have:s=[]:=List.eq_nil_of_length_eq_zero aA0;subst this;decide
 |succ n d=>
  intro s b a;rcases List.eq_nil_or_concat s with rfl|⟨l,c,rfl⟩
  ·simp[mP];exact Nat.pow_pos aA0
  ·simp only[List.concat_eq_append]at*;rw[bcm];rw[eA]at a;simp only[yO,List.all_cons,List.all_nil,oD]at a;have f:=d l (by simp at b;omega) a.1;have e:=(pH c).1 a.2;rw[NH];omega
def cK(s:δ ζ):δ ζ:=s.map eQ
def wE(c:ζ):δ ζ:=if c=34\/c=92 then [92,c]else [c]
def dN(p:ζ->η):δ ζ->Int
 |[]=> -1
 |b::l=>if p b then 0 else if dN p l= -1 then-1 else dN p l+1
theorem sQ(p:ζ->η):∀l,-1<=dN p l
 |[]=>by simp[dN]
 |b::l=>by have:=sQ p l;unfold dN;split;(·omega);(·split<;>omega)
theorem Ot(p:ζ->η):∀l,dN p l=if cI (λc=> !p c) l=γ l then(-1:Int)else(cI (λc=> !p c) l:Int)
 |[]=>by simp[dN,cI]
 |b::l=>by
  have a:=Ot p l;have d:=Tp (λc=> !p c) l;unfold dN cI;cases e:p b
  ·simp only[Bool.not_false,gG,Bool.false_eq_true,IQ,dI];rw[a];by_cases h:cI (λc=> !p c) l=γ l
   ·rw[aB h,aB rfl,aB aA0]
   ·rw[aA h,aA aA0,aA aA0];omega
  ·simp
theorem nk(p:ζ->η)(l:δ ζ):(dN p l= -1/\cI (λc=> !p c) l=γ l)\/(0<=dN p l/\dN p l<(γ l:Int)/\dN p l=(cI (λc=> !p c) l:Int)):=by
 have:=Tp (λc=> !p c) l;rw[Ot];split
 ·exact .inl ⟨rfl,by assumption⟩
 ·exact .inr ⟨aA0,aA0,rfl⟩
theorem vY(c:ζ):∀l,Lib.indexByte l c=dN (·==c) l
 |[]=>rfl
 |b::l=>by unfold Lib.indexByte dN;rw[vY c l];simp
theorem azk(cs:δ ζ):∀l,Lib.indexAny l cs=dN (cs.contains ·) l
 |[]=>rfl
 |b::l=>by unfold Lib.indexAny dN;rw[azk cs l];simp
def kS(p:ζ->η):δ ζ->Int
 |[]=> -1
 |b::l=>if kS p l= -1 then(if p b then 0 else-1)else kS p l+1
theorem uJ(p:ζ->η):∀l:δ ζ,(kS p l= -1/\l.any p=ν)\/(0<=kS p l/\kS p l<(γ l:Int))
 |[]=>.inl ⟨rfl,rfl⟩
 |b::l=>by
  have c:=uJ p l;unfold kS;by_cases h:kS p l= -1
  ·rw[aB h];have e:l.any p=ν:=by rcases c with a|a;exact a.2;omega
   cases d:p b
   ·left;simp[d,e]
   ·right;simp
  ·rw[aA h];right;rcases c with a|a
   ·exact absurd a.1 h
   ·simp only[dI];omega
theorem Wc(p:ζ->η)(b:ζ):∀l:δ ζ,kS p (l++[b])=if p b then(γ l:Int)else kS p l
 |[]=>by simp[kS]
 |a::l=>by
  rw[IX,kS,Wc p b l];cases c:p b
  ·simp[kS]
  ·simp
theorem Aq(s:δ ζ)(c:ζ):∀k:Nat,k<=γ s->Lib.lastIdx ⟨s.toArray⟩ (c.toNat:Int) k=kS (·==c) (s.take k)
 |0,_=>by simp[Lib.lastIdx,kS]
 |k+1,h=>by
  rw[tY s k aA0,Wc,Lib.lastIdx,Aq s c k aA0];have e:(⟨s.toArray⟩:ByteArray).data[k]! =at_ s k:=by simp[at_,show k<γ s by omega]
  rw[e];by_cases a:at_ s k=c
  ·rw[aB (by rw[a]),aB (by simp[a])];simp;omega
  ·rw[aA (λh=>a (jI.1 aA0)),aA aC0]
theorem xJ(s:δ ζ)(c:ζ):Lib.lastIndexByte ⟨s.toArray⟩ (c.toNat:Int)=kS (·==c) s:=by unfold Lib.lastIndexByte;have:=Aq s c (γ s) (qG _);rw[hZ]at this;exact this
theorem BH(s t:δ ζ):γ (Lib.cut s t).1<=γ s/\γ (Lib.cut s t).2.1<=γ s:=by unfold Lib.cut;split<;>simp<;>omega
theorem Ky(s t:δ ζ):γ (Lib.trimPrefix s t)<=γ s:=by unfold Lib.trimPrefix;split<;>simp
theorem bkz(p:ζ->η)(l:δ ζ):γ (l.dropWhile p)<=γ l:=(wQ p).length_le
theorem Rz(s t:δ ζ):γ (Lib.trimLeftS s t)<=γ s:=bkz _ _
theorem Hr(l:δ ζ)(i j:Int):γ (sub l i j)=min (j.toNat-i.toNat) (γ l-i.toNat):=by simp[sub]
theorem sub_le(s:δ ζ)(i j:Int):γ (sub s i j)<=γ s:=aC4
theorem kj{w:ο}(k:Nat)(a:Array Obj):Hp w [] [] (Sort.grow (w.drewN k) a):=Hp.Ag ⟨rfl,rfl,rfl,by simp[Sort.grow,World.drewN],λk b=>by have:k<w.heap.size:=b;show(w.heap++a)[k]? =w.heap[k]?;rw[Array.getElem?_append_left this]⟩
abbrev Pce:=Int×δ ζ
abbrev Prm:=δ ζ×δ ζ×η
section
variable (s : δ ζ) (sep : ζ) (f k b : Nat) (acc : δ Pce)
end
open Go.Wk
def vj:δ ζ:=[45,95,46,33,126,42,39,40,41]
def BL(k:Int):δ ζ:=if k=0 then [38,61,43,36,44,59,63,47]else if k=1 then [91,93,47,58,38,43,36]else if k=2 then [91,93,47,63,58,43,36]else []
def fT(l:δ ζ)(c:ζ):η:=l.any (·==c)
def Ik(c:ζ)(k:Int):η:=mw c||gA c||fT vj c||fT (BL k) c
theorem jx(l:δ ζ)(c:ζ):(0<=dN (·==c) l)↔fT l c=μ:=by
 induction l with
 |nil=>simp[dN,fT]
 |cons b l d=>
  have h:=sQ (·==c) l;unfold dN fT;rw[List.any_cons];by_cases a:(b==c)=μ
  ·simp[a]
  ·rw[aA a];simp only[a,Bool.false_or];unfold fT at d;rw[<-d];split<;>omega
theorem FY(l:δ ζ)(c:ζ):decide (0<=dN (·==c) l)=fT l c:=by rw[Bool.eq_iff_iff,aW,jx]
def fX(c:ζ):η:=gA c||decide (97<=(c.toNat:Int)/\(c.toNat:Int)<=102)||decide (65<=(c.toNat:Int)/\(c.toNat:Int)<=70)
section
variable (s : δ ζ) (f k : Nat) (acc : δ ζ)
end
abbrev LD(s:δ ζ):δ ζ:=s.map eQ
def Il(l:δ Prm)(name:δ ζ):δ ζ×η:=match l.find? (λp=>LD p.1==LD name)with|some p=>(p.2.1,μ)|none=>([],ν)
variable {a:Type}
theorem Pr[Inhabited a](l:δ a)(k:Nat)(h:k<γ l):el l (k:Int)=l[k]:=by simp[el,h]
theorem wV[Inhabited a](l:δ a)(k:Nat)(h:k<γ l):l.take (k+1)=l.take k++[el l (k:Int)]:=by rw[List.take_succ_eq_append_getElem h,Pr l k h]
end Go.Px
