/-
  The law BodiesBack holds (part 1 of 9).
-/
import Derived.Tactics2
import Derived.Scope
import Derived.Below
import Derived.KernelRfl
import Derived.RangeFuncCalls
import Derived.RangeFuncLeaves
import Derived.TacticsIn
import Derived.Laws.Strings3
import Derived.Laws.Concat
import Derived.Laws.Small
import Derived.Laws.Slices
import Derived.Laws.BitsLemmas
import Derived.Laws.OwnMore
import Derived.Laws.AppendOwn
import Derived.Laws.CopyRow
import Derived.StillTail
import Derived.OrdersHeld
import Derived.Laws.BytesString
import Derived.Laws.MakeOwn
import Derived.WalkSmall
import Derived.Laws.Cover3
import Derived.Laws.StructEq
import Derived.RangeFuncRecord
import Derived.OrdersIn
import Derived.Lib.AppendStr
import Derived.Lib.Builder
import Derived.Lib.AppendZerosOnto
import Derived.Lib.Overlaps
open Bool renaming false → η, true → ζ
open Go renaming Addr → χ, IntKind → Α, Oper → ψ, Operand → π, Program → ω, TypeId → φ, Value → θ, World → ν, execOp → ξ
open Go.Region renaming ready → Β
open Go.Utf8 renaming decode → Δ, encode → ο
open Go.Value renaming func → Γ, int → υ, slice → μ
open List renaming length → γ
open Option renaming none → ε, some → δ
set_option linter.unusedVariables false
namespace Go.Wk
open Go.RowKit (Below)
open Nat renaming beq → cV, blt → gA
open _root_.Array renaming replicate → HU
variable {p:Prop}
theorem _root_.aA0(h:p:=by omega):p:=h
theorem _root_.aA1(h:p:=by decide):p:=h
theorem _root_.aA2(h:p:=by simp):p:=h
theorem _root_.aA3(h:p:=by decide+kernel):p:=h
theorem _root_.aA4(h:p:=by simp;omega):p:=h
theorem _root_.aA5(h:p:=by rw [h];simp):p:=h
theorem _root_.aA6(h:p:=by rw [eZ];omega):p:=h
theorem _root_.aA7(h:p:=by first|rfl|(simp;done)|omega|(simp;omega)|(rw [kX];omega)):p:=h
theorem _root_.aA8(h:p:=by simpa using h):p:=h
theorem _root_.aA9(h:p:=by unfold TI;kernel_rfl):p:=h
theorem _root_.aB0(h:p:=by simp only [fD];omega):p:=h
theorem _root_.aB1(h:p:=by simp [mL]):p:=h
theorem _root_.aB2(h:p:=by simp only [bP,fD];omega):p:=h
theorem _root_.aB3(h:p:=by rw [h];simp [el]):p:=h
theorem _root_.aB4(h:p:=by simp only [bX,fT];omega):p:=h
theorem _root_.aB5(h:p:=by rw [bP,fD];omega):p:=h
theorem _root_.aB6(h:p:=by simpa using b):p:=h
theorem _root_.aB7(h:p:=by rw [gZ];omega):p:=h
theorem _root_.aB8(h:p:=by first|rfl|(simp;done)|(simp;omega)):p:=h
theorem _root_.aB9(h:p:=by simpa using a):p:=h
theorem _root_.aC0(h:p:=by simp only [bP,bX,fT];omega):p:=h
theorem _root_.aC1(h:p:=by rw [bP];omega):p:=h
theorem _root_.aC2(h:p:=by simpa using c):p:=h
theorem _root_.aC3(h:p:=by show γ s<_;omega):p:=h
theorem _root_.aC4(h:p:=by rw [kX];omega):p:=h
theorem _root_.aC5(h:p:=by show δ (μ _ _ _)=_;rw [oU]):p:=h
theorem _root_.aC6(h:p:=by cases vs with|nil=>exact b|cons a gK=>cases gK<;>exact b):p:=h
theorem _root_.aC7(h:p:=by intro w B;exact gX (b:=Result.ok (Next.value (.bool j5)) w) aF (aV (λb=>Result.ok (Next.value (.bool b)) w) f3)):p:=h
theorem _root_.aC8(h:p:=by simp only [bP,fD,fT];omega):p:=h
theorem _root_.aC9(h:p:=by simpa using d):p:=h
theorem _root_.aD0(h:p:=by rw [LL];omega):p:=h
theorem _root_.aD1(h:p:=by rw [d];simp):p:=h
theorem _root_.aD2(h:p:=by simpa using e):p:=h
theorem _root_.aD3(h:p:=by show γ t<_;omega):p:=h
theorem _root_.aD4(h:p:=by rw [h];exact Fq _ _ _):p:=h
theorem _root_.aD5(h:p:=by unfold AM;omega):p:=h
theorem _root_.aD6(h:p:=by intro w B;exact(jW z 1 _ 40 _ B rfl aF aF)):p:=h
theorem _root_.aD7(h:p:=by simpa using hx):p:=h
theorem _root_.aD8(h:p:=by rw [A];exact W):p:=h
theorem _root_.aD9(h:p:=by simpa using g):p:=h
theorem _root_.aE0(h:p:=by simpa using f):p:=h
theorem _root_.aE1(h:p:=by simp [SC.ids]):p:=h
theorem _root_.aE2(h:p:=by rw [fD];omega):p:=h
theorem _root_.aE3(h:p:=by rw [h];omega):p:=h
theorem _root_.aE4(h:p:=by simp at b;omega):p:=h
theorem _root_.aE5(h:p:=by rw [i];simp):p:=h
theorem _root_.aE6(h:p:=by unfold maxLen;omega):p:=h
theorem _root_.aE7(h:p:=by rw [e];rfl):p:=h
theorem _root_.aE8(h:p:=by simpa using B):p:=h
theorem _root_.aE9(h:p:=by rw [bP];simp only [bX];omega):p:=h
theorem _root_.aF0(h:p:=by simp [el]):p:=h
theorem _root_.aF1(h:p:=by simp [Wg]):p:=h
theorem _root_.aF2(h:p:=by unfold Sa;rw [Go.Ce.Tr.O4]):p:=h
theorem _root_.aF3(h:p:=by rw [x1 (r _ fE)];exact hid):p:=h
theorem _root_.aF4(h:p:=by rw [j];simp):p:=h
theorem _root_.aF5(h:p:=by rw [e];simp):p:=h
theorem _root_.aF6(h:p:=by rw [gs q dg h A];exact U):p:=h
theorem _root_.aF7(h:p:=by rw [IA];exact a):p:=h
abbrev _root_.ae:=@Array.ext
abbrev _root_.gP:=@Array.getElem?_eq_getElem
abbrev _root_.bW:=@Array.getElem?_eq_some_iff
abbrev _root_.gG:=@Array.getElem?_modify
abbrev _root_.gF:=@Array.getElem?_toList
abbrev _root_.yQ:=@Array.mem_append
abbrev _root_.yP:=@Bool.and_eq_true
abbrev _root_.Qw:=@Bool.and_false
abbrev _root_.Y7:=@Bool.false_and
abbrev _root_.Qv:=@Bool.false_ne_true
abbrev _root_.dX:=@Bool.false_or
abbrev _root_.dT:=@Bool.not_eq_true'
abbrev _root_.gY:=@Bool.or_eq_false_iff
abbrev _root_.Ge:=@Bool.or_eq_true
abbrev _root_.eE:=@Bool.or_false
abbrev _root_.mK:=@Bool.true_or
abbrev _root_.gX:=@Eq.trans
abbrev _root_.fO:=@Int.le_refl
abbrev _root_.Qu:=@Int.natCast_nonneg
abbrev _root_.uE:=@Int.toNat_natCast
abbrev _root_.gE:=@List.Perm.append_left
abbrev _root_.MI:=@List.Perm.append_right
abbrev _root_.cW:=@List.Sublist.append_left
abbrev _root_.Qt:=@List.Sublist.trans
abbrev _root_.pE:=@List.all_append
abbrev _root_.aT:=@List.all_eq_true
abbrev _root_.gR:=@List.any_append
abbrev _root_.dC:=@List.any_eq_false
abbrev _root_.iU:=@List.any_eq_true
abbrev _root_.uD:=@List.any_nil
abbrev _root_.rH:=@List.append_cancel_left
abbrev _root_.gO:=@List.append_eq_append_iff
abbrev _root_.wS:=@List.concat_eq_append
abbrev _root_.bG:=@List.cons.inj
abbrev _root_.cU:=@List.cons.injEq
abbrev _root_.HT:=@List.cons_append
abbrev _root_.iM:=@List.dropWhile_cons
abbrev _root_.lV:=@List.dropWhile_cons_of_neg
abbrev _root_.wR:=@List.dropWhile_suffix
abbrev _root_.jF:=@List.drop_append_of_le_length
abbrev _root_.Sy:=@List.drop_eq_getElem_cons
abbrev _root_.MH:=@List.drop_eq_nil_of_le
abbrev _root_.fS:=@List.drop_length
abbrev _root_.MG:=@List.drop_of_length_le
abbrev _root_.Y6:=@List.drop_take
abbrev _root_.Qs:=@List.drop_zero
abbrev _root_.wQ:=@List.eq_nil_or_concat
abbrev _root_.bV:=@List.ext_getElem?
abbrev _root_.jP:=@List.filter_append
abbrev _root_.Hy:=@List.filter_eq_self
abbrev _root_.RS:=@List.find?_cons
abbrev _root_.RR:=@List.find?_some
abbrev _root_.yO:=@List.flatMap_nil
abbrev _root_.MF:=@List.flatMap_singleton
abbrev _root_.RQ:=@List.foldl_cons
abbrev _root_.bQ:=@List.getD_eq_getElem?_getD
abbrev _root_.aI:=@List.getElem?_append_left
abbrev _root_.aN:=@List.getElem?_append_right
abbrev _root_.iT:=@List.getElem?_cons_succ
abbrev _root_.bZ:=@List.getElem?_drop
abbrev _root_.aO:=@List.getElem?_eq_getElem
abbrev _root_.bM:=@List.getElem?_eq_none
abbrev _root_.aD:=@List.getElem?_eq_some_iff
abbrev _root_.bE:=@List.getElem?_map
abbrev _root_.cX:=@List.getElem?_range
abbrev _root_.rG:=@List.getElem?_replicate
abbrev _root_.eH:=@List.getElem?_set
abbrev _root_.gW:=@List.getElem?_set_ne
abbrev _root_.aY:=@List.getElem?_set_self
abbrev _root_.bO:=@List.getElem?_take
abbrev _root_.yN:=@List.getElem_mem
abbrev _root_.nE:=@List.getElem_set_ne
abbrev _root_.Y5:=@List.getLast?_append
abbrev _root_.dZ:=@List.head?_cons
abbrev _root_.Sx:=@List.isEmpty_eq_false_iff
abbrev _root_.dI:=@List.isPrefixOf_iff_prefix
abbrev _root_.jO:=@List.length_append
abbrev _root_.dM:=@List.length_cons
abbrev _root_.HS:=@List.length_drop
abbrev _root_.WT:=@List.length_filter_le
abbrev _root_.bK:=@List.length_pos_iff
abbrev _root_.pD:=@List.length_set
abbrev _root_.yM:=@List.length_take
abbrev _root_.eR:=@List.map_cons
abbrev _root_.Qr:=@List.map_inj_right
abbrev _root_.jN:=@List.map_map
abbrev _root_.eG:=@List.map_nil
abbrev _root_.jM:=@List.map_singleton
abbrev _root_.aR:=@List.mem_append
abbrev _root_.aP:=@List.mem_cons
abbrev _root_.lU:=@List.mem_cons_of_mem
abbrev _root_.jE:=@List.mem_eraseIdx_iff_getElem
abbrev _root_.pC:=@List.mem_filter
abbrev _root_.mJ:=@List.mem_flatMap
abbrev _root_.gD:=@List.mem_iff_getElem?
abbrev _root_.cJ:=@List.mem_map
abbrev _root_.mU:=@List.mem_of_find?_eq_some
abbrev _root_.aG:=@List.mem_of_getElem?
abbrev _root_.AX:=@List.mem_of_mem_eraseIdx
abbrev _root_.Cw:=@List.mem_of_mem_take
abbrev _root_.aE:=@List.mem_singleton
abbrev _root_.fR:=@List.not_mem_nil
abbrev _root_.dH:=@List.pairwise_append
abbrev _root_.fZ:=@List.pairwise_cons
abbrev _root_.eM:=@List.pairwise_iff_getElem
abbrev _root_.Hx:=@List.replicate_succ
abbrev _root_.ME:=@List.reverse_singleton
abbrev _root_.Y4:=@List.set_append_left
abbrev _root_.kQ:=@List.set_append_right
abbrev _root_.mT:=@List.sublist_append_right
abbrev _root_.yL:=@List.take_append
abbrev _root_.WS:=@List.take_append_drop
abbrev _root_.Cv:=@List.take_append_of_le_length
abbrev _root_.iS:=@List.take_length
abbrev _root_.jL:=@List.take_of_length_le
abbrev _root_.fG:=@List.take_succ_cons
abbrev _root_.uC:=@List.take_take
abbrev _root_.Qq:=@List.take_zero
abbrev _root_.fN:=@Nat.add_mul
abbrev _root_.Qp:=@Nat.add_right_comm
abbrev _root_.jK:=@Nat.blt_eq
abbrev _root_.gC:=@Nat.eq_of_beq_eq_true
abbrev _root_.bH:=@Nat.le_of_ble_eq_true
abbrev _root_.Jb:=@Nat.le_of_eq
abbrev _root_.yK:=@Nat.le_of_not_lt
abbrev _root_.rE:=@Nat.le_refl
abbrev _root_.Ja:=@Nat.le_trans
abbrev _root_.cP:=@Nat.lt_of_lt_of_le
abbrev _root_.uB:=@Nat.lt_or_ge
abbrev _root_.cI:=@Nat.lt_succ_self
abbrev _root_.kB:=@Nat.min_eq_left
abbrev _root_.HR:=@Nat.min_le_right
abbrev _root_.Y3:=@Nat.mul_le_mul
abbrev _root_.Ww:=@Nat.mul_pos
abbrev _root_.fC:=@Nat.not_lt_zero
abbrev _root_.Qo:=@Nat.pos_of_ne_zero
abbrev _root_.Iz:=@Nat.sub_self
abbrev _root_.jJ:=@Nat.sub_zero
abbrev _root_.dB:=@Nat.succ_mul
abbrev _root_.iR:=@Option.bind_eq_some_iff
abbrev _root_.cL:=@Option.bind_some
abbrev _root_.HQ:=@Option.getD_some
abbrev _root_.AW:=@Option.isSome_iff_exists
abbrev _root_.uA:=@Option.map_eq_none_iff
abbrev _root_.bT:=@Option.map_eq_some_iff
abbrev _root_.Gd:=@Option.map_none
abbrev _root_.aJ:=@Option.some.inj
abbrev _root_.aW:=@Option.some.injEq
abbrev _root_.bR:=@Prod.mk.injEq
abbrev _root_.eF:=@Sum.elim_inr
abbrev _root_.Y2:=@Sum.inr.inj
abbrev _root_.wP:=@UInt8.le_iff_toNat_le
abbrev _root_.pB:=@UInt8.toNat_inj
abbrev _root_.lT:=@UInt8.toNat_lt
abbrev _root_.qO:=@UInt8.toNat_ofNat'
abbrev _root_.WQ:=@UInt8.toNat_sub_of_le
abbrev _root_.tZ:=@and_true
abbrev _root_.eJ:=@beq_eq_false_iff_ne
abbrev _root_.aH:=@cond_false
abbrev _root_.aQ:=@cond_true
abbrev _root_.aV:=@congrArg
abbrev _root_.eA:=@decide_eq_decide
abbrev _root_.aL:=@decide_eq_false
abbrev _root_.bL:=@decide_eq_false_iff_not
abbrev _root_.aK:=@decide_eq_true
abbrev _root_.bD:=@decide_eq_true_eq
abbrev _root_.oZ:=@if_false
abbrev _root_.aA:=@if_neg
abbrev _root_.aB:=@if_pos
abbrev _root_.iL:=@if_true
abbrev _root_.fY:=@of_decide_eq_false
abbrev _root_.bU:=@of_decide_eq_true
abbrev _root_.HP:=@or_false
abbrev _root_.yT:=@List.mem_append_left
abbrev _root_.rZ:=@List.flatMap_cons
abbrev _root_.lE:=@Ja
abbrev _root_.vX:=@List.nil_append
abbrev _root_.Rh:=@List.mem_of_mem_drop
abbrev _root_.yX:=@Bool.not_false
abbrev _root_.BJ:=@bH
abbrev _root_.BI:=@List.singleton_append
abbrev _root_.yS:=@eR
abbrev _root_.Tb:=@cP
abbrev _root_.Kg:=@HT
abbrev _root_.BH:=@Nat.mul_le_mul_right
abbrev _root_.Gg:=@List.drop_left
abbrev _root_.De:=@Nat.add_assoc
abbrev _root_.IL:=@WS
abbrev _root_.yR:=@Sum.elim_inl
abbrev _root_.Gf:=@List.all_cons
abbrev _root_.aX:=@cL
abbrev _root_.bP:=@jO
abbrev _root_.bX:=@dM
abbrev _root_.fD:=@List.length_singleton
abbrev _root_.eT:=@lU
abbrev _root_.fE:=@List.mem_cons_self
abbrev _root_.iB:=@gC
abbrev _root_.cO:=@Nat.zero_le
abbrev _root_.gH:=@List.append_assoc
abbrev _root_.fI:=@List.append_nil
abbrev _root_.fT:=@List.length_nil
abbrev _root_.vJ:=@List.eq_nil_of_length_eq_zero
abbrev _root_.gZ:=@HS
abbrev _root_.iO:=@uE
abbrev _root_.hO:=@yP
abbrev _root_.eK:=@rE
abbrev _root_.kX:=@yM
abbrev _root_.iN:=@Bool.not_true
abbrev _root_.nF:=@cI
abbrev _root_.WW:=@Option.map_some
abbrev _root_.zbF:=@Sy
abbrev _root_.WV:=@Qs
abbrev _root_.nt:=@List.drop_succ_cons
abbrev _root_.Z2:=@Bool.eq_iff_iff
abbrev _root_.zbK:=@List.set_eq_take_append_cons_drop
abbrev _root_.WU:=@aP
abbrev _root_.zbM:=@Nat.add_sub_cancel_left
abbrev _root_.Rf:=@List.length_map
abbrev _root_.Qy:=@List.take_left
abbrev _root_.IK:=@List.flatMap_append
abbrev _root_.Qx:=@Bool.true_and
abbrev _root_.Jc:=@Nat.add_comm
abbrev _root_.AY:=@List.map_append
abbrev _root_.Re:=@List.any_cons
abbrev _root_.XQ:=@List.perm_append_comm
abbrev _root_.XP:=@List.mem_append_right
abbrev _root_.Z1:=@bT
abbrev _root_.Ta:=@Nat.zero_add
abbrev _root_.Z0:=@UInt8.lt_iff_toNat_lt
abbrev _root_.af:=@MH
abbrev _root_.Y9:=@List.map_congr_left
abbrev _root_.MJ:=@List.drop_drop
abbrev _root_.BG:=@Nat.add_zero
def dV(F:Nat->θ)(d:Nat)(v:θ):Nat->θ:=λt=>bif cV t d then v else F t
structure Md where
 n:Nat
 D:List Deferred
 ro:Option (Option Nat)
def fr(n:Md)(F:Nat->θ):Act:={tmps:=Array.ofFn (n:=n.n) λi=>F i.val,defers:=n.D}
def aZ(n:Md)(F:Nat->θ):π->θ
 |.tmp t=>bif gA t n.n then F t else undef
 |.const v=>v
 |.global g=>.pointer (δ ⟨g,0,ε⟩)
 |.func f=>.func (.func f) #[] #[]
def LN(l:List θ):Nat->θ:=λt=>l.getD t undef
abbrev cQ(b:Nat):Option χ:=δ ⟨b,0,ε⟩
theorem _root_.Go.aF.{u}{c:Sort u}{a b:c}(h:a=b:=by kernel_rfl):a=b:=h
theorem _root_.Go.kqF(h:p:=by first|kernel_rfl|(intro _;kernel_rfl)|decide):p:=h
theorem _root_.Go.BB(h:p:=by constructor<;>first|exact Go.kqF|(constructor<;>first|exact Go.kqF|(constructor<;>exact Go.kqF))):p:=h
theorem Ug{a:Type}{x:a}(h:ε=δ x):p:=nomatch h
theorem WZ(h:p:=by(try simp only [pD])<;>first|rfl|omega):p:=h
theorem lsy(h:p:=by(try simp only [pD])<;>first|rfl|omega|simp):p:=h
theorem fL{a b:Nat}(h:Nat.ble a b=ζ:=by rfl):a<=b:=BJ h
theorem cS(a:Nat)(h:0<a:=by omega):∃m,a=m+1:=⟨a-1,aA0⟩
theorem bJ(h:p:=by omega):p:=h
theorem qA(n:Md)(F:Nat->θ)(t:Nat):(fr n F).tmps.getD t undef=bif gA t n.n then F t else undef:=by
 unfold fr;by_cases h:t<n.n
 ·have a:gA t n.n=ζ:=by simpa [jK] using h
  simp [h,a]
 ·have a:gA t n.n=η:=by
   cases hx:gA t n.n
   ·rfl
   ·exact absurd (by simpa [jK] using hx) h
  simp [h,a]
theorem IA(n:Md)(F:Nat->θ):(fr n F).eval=aZ n F:=by
 funext o;cases o with
 |tmp t=>exact qA n F t
 |const v=>rfl
 |global g=>rfl
 |func f=>rfl
theorem lz(F:Nat->θ)(d:Nat)(v:θ):dV F d v d=v:=by simp [dV]
theorem Kp(F:Nat->θ)(d:Nat)(v:θ)(t:Nat)(h:t≠d):dV F d v t=F t:=by
 have:cV t d=η:=by
  cases hx:cV t d
  ·rfl
  ·exact absurd (iB hx) h
 simp [dV,this]
theorem lL(n:Md)(F:Nat->θ)(d:Nat)(v:θ):(fr n F).put (δ d) v=fr n (dV F d v):=by
 unfold fr Act.put;simp;apply ae
 ·simp
 ·intro i a b;by_cases hid:i=d
  ·subst hid;simp [lz]
  ·rw [Array.getElem_setIfInBounds_ne aB9 (λe=>hid e.symm)];simp [Kp _ _ _ _ hid]
theorem Zq(args:List θ)(n:Nat)(h:γ args<=n):
  ({tmps:=args.toArray++HU (n-args.toArray.size) undef,defers:=[]})=fr ⟨n,[],ε⟩ (LN args):=by
 unfold fr LN;simp;apply ae
 ·simp;omega
 ·intro i c b;simp only [Array.getElem_append];by_cases a:i<γ args
  ·simp [a]
  ·simp [a]
abbrev Sf(x:Option Nat):Fence:={Fence.wide with round:=x}
def WR(P:ω)(r:Option (Option Nat))(ops:Array ψ)(Q:Exit->Act->ν->Prop)(l:List ψ)(a:Act)(w:ν):Prop:=
 match r with
 |none=>wpList P ops Q l a w
 |some x=>wpListIn (Sf x) 0 P ops Q l a w
def CC(P:ω)(r:Option (Option Nat))(Q:Exit->Act->ν->Prop)(c:Code)(a:Act)(w:ν):Prop:=
 match r with
 |none=>c.wp P Q a w
 |some x=>c.wpIn (Sf x) 0 P Q a w
def W(P:ω)(n:Md)(ops:Array ψ)(Q:Exit->Act->ν->Prop)(l:List ψ)(F:Nat->θ)(w:ν):Prop:=WR P n.ro ops Q l (fr n F) w
def C(P:ω)(n:Md)(Q:Exit->Act->ν->Prop)(c:Code)(F:Nat->θ)(w:ν):Prop:=CC P n.ro Q c (fr n F) w
def Fy(P:ω)(n:Md)(y:Code)(Q:Exit->Act->ν->Prop):Exit->Act->ν->Prop:=Exit.then (CC P n.ro Q y) Q
def CR(P:ω)(f:FuncId)(args:List θ)(w:ν)(R:θ->ν->Prop):Prop:=
 Calls P f args.toArray w λe w'=>∃v,e=.returned v/\R v w'
theorem CR.mono{P:ω}{f:FuncId}{args:List θ}{w:ν}{R a:θ->ν->Prop}(h:CR P f args w R)(b:∀v w',R v w'->a v w'):CR P f args w a:=
 Calls.mono h λ_ _ ⟨v,e,r⟩=>⟨v,e,b v _ r⟩
section
variable {P:ω}{n:Md}{ops:Array ψ}{Q:Exit->Act->ν->Prop}{F:Nat->θ}{w:ν}
variable {r:Option (Option Nat)}{c:Code}{b:Exit->Act->ν->Prop}
theorem AH{a:Act}(h:CC P r Q c a w)(s:∀e a w,Q e a w->b e a w):CC P r b c a w:=by
 cases r with
 |none=>exact wp_mono h s
 |some x=>exact wpIn_mono h s
variable {h:List θ}{R:θ->ν->Prop}
theorem enter{k:Nat}{f:FuncId}{fn:Func}(d:P.funcs[f]? =δ fn)(g:fn.body=δ c)(a:fn.ntmps=k)(b:γ h<=k)
  (s:C P ⟨k,[],ε⟩ (bodyPost P fn λe w'=>∃v,e=.returned v/\R v w') c (LN h) w):CR P f h w R:=by
 refine calls_of_wp d g ?_;rw [a,Zq h k b];exact s
variable {y:Code}
theorem AL(h:C P n (Fy P n y Q) c F w):C P n Q (.seq c y) F w:=by
 obtain⟨k,D,ro⟩:=n;cases ro with
 |none=>exact wp_seq h
 |some r=>exact wpIn_seq h
theorem Ps(h:Q .normal (fr n F) w):C P n Q .skip F w:=by
 obtain⟨k,D,ro⟩:=n;cases ro with
 |none=>exact wp_skip h
 |some r=>exact wpIn_skip h
variable {d:Nat}
theorem kt(h:Q .normal (fr n F) w):C P n Q (.label d) F w:=by
 obtain⟨k,D,ro⟩:=n;cases ro with
 |none=>exact wp_label h
 |some r=>exact wpIn_label h
theorem Ch(h:Q (.exit d) (fr n F) w):C P n Q (.exit d) F w:=by
 obtain⟨k,D,ro⟩:=n;cases ro with
 |none=>exact wp_exit h
 |some r=>exact wpIn_exit h
theorem Wc(h:Q .ret (fr n F) w):C P n Q .ret F w:=by
 obtain⟨k,D,ro⟩:=n;cases ro with
 |none=>exact wp_ret h
 |some r=>exact wpIn_ret h
theorem QV(h:C P n (Exit.inBlock d Q) c F w):C P n Q (.block d c) F w:=by
 obtain⟨k,D,ro⟩:=n;cases ro with
 |none=>exact wp_block h
 |some r=>exact wpIn_block h
variable {D:List Deferred}
theorem AI(h:C P ⟨d,D,ε⟩ (Exit.noGoto Q) c F w):C P ⟨d,D,ε⟩ Q (.scope c) F w:=wp_scope_straight h
theorem I7(h:Q .normal (fr n F) w):Exit.noGoto Q .normal (fr n F) w:=h
theorem Ul(h:Q .ret (fr n F) w):Exit.noGoto Q .ret (fr n F) w:=h
theorem xk(h:Q (.exit d) (fr n F) w):Exit.noGoto Q (.exit d) (fr n F) w:=h
variable {l:List ψ}
theorem LP(h:W P n l.toArray Q l F w):C P n Q (.region d l.toArray η) F w:=by
 obtain⟨k,D,ro⟩:=n;cases ro with
 |none=>exact wp_region_lit h
 |some r=>exact wpIn_region_lit h
theorem tP{x:π}(a:aZ n F x=.bool ζ)(h:C P n Q c F w):C P n Q (.cond x c y) F w:=by
 obtain⟨k,D,ro⟩:=n;cases ro with
 |none=>exact wp_cond_true aF7 h
 |some r=>exact wpIn_cond_true aF7 h
theorem lh{x:π}(a:aZ n F x=.bool η)(h:C P n Q y F w):C P n Q (.cond x c y) F w:=by
 obtain⟨k,D,ro⟩:=n;cases ro with
 |none=>exact wp_cond_false aF7 h
 |some r=>exact wpIn_cond_false aF7 h
variable {a:π}
theorem tR{b:Bool}(x:aZ n F a=.bool b)(d:b=ζ->C P n Q c F w)(e:b=η->C P n Q y F w):C P n Q (.cond a c y) F w:=by
 cases b with
 |true=>exact tP x (d rfl)
 |false=>exact lh x (e rfl)
variable {p:Prop}
theorem c_dec[Decidable p](d:aZ n F a=.bool (decide p))(x:p->C P n Q c F w)(b:¬p->C P n Q y F w):C P n Q (.cond a c y) F w:=
 tR d (λh=>x (bU h)) (λh=>b (fY h))
theorem c_ndec[Decidable p](d:aZ n F a=.bool (!decide p))(x:¬p->C P n Q c F w)(b:p->C P n Q y F w):C P n Q (.cond a c y) F w:=
 tR d (λh=>x aA8) (λh=>b aA8)
variable {j:Nat}
theorem HY{a:List Deferred}(h:C P ⟨d,D,r⟩ Q c F w):Fy P ⟨j,a,r⟩ c Q .normal (fr ⟨d,D,r⟩ F) w:=h
variable {q:Md}
theorem CN(h:Q .ret (fr n F) w):Fy P q c Q .ret (fr n F) w:=h
theorem yV(h:Q (.exit d) (fr n F) w):Fy P q c Q (.exit d) (fr n F) w:=h
variable {K:Act->ν->Prop}
theorem wj(h:K (fr n F) w):Exit.then K Q .normal (fr n F) w:=h
theorem kW(h:Q .ret (fr n F) w):Exit.then K Q .ret (fr n F) w:=h
theorem Ci(h:Q (.exit d) (fr n F) w):Exit.then K Q (.exit d) (fr n F) w:=h
theorem V2(h:Q .normal (fr n F) w):Exit.inBlock d Q .normal (fr n F) w:=h
theorem b_ret(h:Q .ret (fr n F) w):Exit.inBlock d Q .ret (fr n F) w:=h
theorem Cg(h:Q .normal (fr n F) w):Exit.inBlock d Q (.exit d) (fr n F) w:=by simpa [Exit.inBlock] using h
theorem LK(b:cV j d=η)(h:Q (.exit j) (fr n F) w):Exit.inBlock d Q (.exit j) (fr n F) w:=by
 have:¬j=d:=λe=>by subst e;simp at b
 simpa [Exit.inBlock,this] using h
def nD(F:Nat->θ):List (Nat×θ)->Prop
 |[]=>True
 |(t,v)::l=>F t=v/\nD F l
def app:List (Nat×θ)->(Nat->θ)->Nat->θ
 |[],G=>G
 |(t,v)::l,G=>dV (app l G) t v
theorem uw{F:Nat->θ}{v:θ}(h:F d=v):dV F d v=F:=by
 funext s;by_cases a:s=d
 ·subst a;rw [lz,h]
 ·rw [Kp _ _ _ _ a]
theorem LO:∀l F,nD F l->app l F=F
 |[],_,_=>rfl
 |(t,v)::l,F,h=>by simp only [app];rw [LO l F h.2];exact uw h.1
theorem U0{σ:Type}(L:σ->List (Nat×θ))(wd:σ->ν->Prop)(m:σ->Nat)(B:σ)(O:nD F (L B))(z:wd B w)
  (round:∀s w G,wd s w->C P n (Exit.then (λa' w'=>∃s' y,a'=fr n y/\nD y (L s')/\wd s' w'/\m s'<m s) Q) c (app (L s) G) w):
  C P n Q (.loop c) F w:=by
 obtain⟨N,D,ro⟩:=n;cases ro with
 |none=>
  have key:∀k:Nat,∀b q cs s F w,m s=k->nD F (L s)->wd s w->
    ∃e a' w',Q e a' w'/\Arrives P (lone (b.at (fr ⟨N,D,ε⟩ F) (.code c::.inLoop c::q)) cs w) b q cs e a' w':=by
   intro k;induction k using Nat.strongRecOn with
   |_ k E=>
    intro b q cs s F w J M H;have v:=round s w F H;rw [LO _ _ M]at v;obtain⟨e,f,d,h,a⟩:=v b _ cs;cases e with
    |normal=>obtain⟨s',y,rfl,u,r,t⟩:=h;obtain⟨o,p,j,i,g⟩:=E _ (J▸t) b q cs s' y d rfl u r;exact⟨o,p,j,i,.of_steps (Steps.trans a (.one step_inLoop)) g⟩
    |exit id=>exact⟨_,f,d,h,.pass rfl (λ_ _=>.inl aA2) a⟩
    |goto l=>exact⟨_,f,d,h,.pass rfl (λ_ _=>.inl aA2) a⟩
    |ret=>exact⟨_,f,d,h,.pass rfl (λ_ _=>.inl aA2) a⟩
    |panic R=>exact⟨_,f,d,h,.pass rfl (λ_ _=>.inl aA2) a⟩
    |outgrown=>exact⟨_,f,d,h,.pass rfl (λ_ _=>.inl aA2) a⟩
  intro b q cs;obtain⟨e,a',w',h,a⟩:=key _ b q cs B F w rfl O z;exact⟨e,a',w',h,.of_steps (.one step_loop) a⟩
 |some x=>
  intro b q cs I K v;have key:∀k:Nat,∀s F w,m s=k->nD F (L s)->wd s w->
    ∃e a' w',Q e a' w'/\ArrivesIn (Machine.fenced P (Sf x)) P (lone (b.atR (fr ⟨N,D,δ x⟩ F) (.code c::.inLoop c::q)) cs w) b q cs e a' w':=by
   intro k;induction k using Nat.strongRecOn with
   |_ k E=>
    intro s F w J M H;have A:=round s w F H;rw [LO _ _ M]at A;obtain⟨e,f,d,h,a⟩:=A b _ cs I K v;cases e with
    |normal=>obtain⟨s',y,rfl,u,r,t⟩:=h;obtain⟨o,p,j,i,g⟩:=E _ (J▸t) s' y d rfl u r;exact⟨o,p,j,i,.of_steps (StepsIn.trans a (.one (fenced_calm K v rfl) stepR_inLoop)) g⟩
    |exit id=>exact⟨_,f,d,h,.pass rfl (λ_ _=>.inl aA2) a⟩
    |goto l=>exact⟨_,f,d,h,.pass rfl (λ_ _=>.inl aA2) a⟩
    |ret=>exact⟨_,f,d,h,.pass rfl (λ_ _=>.inl aA2) a⟩
    |panic R=>exact⟨_,f,d,h,.pass rfl (λ_ _=>.inl aA2) a⟩
    |outgrown=>exact⟨_,f,d,h,.pass rfl (λ_ _=>.inl aA2) a⟩
  obtain⟨e,a',w',h,a⟩:=key _ B F w rfl O z;exact⟨e,a',w',h,.of_steps (.one (fenced_calm K v rfl) stepR_loop) a⟩
theorem AJ(h:C P n Q c F w)(s:∀e a w,Q e a w->b e a w):C P n b c F w:=AH h s
def Bd(a:List Nat)(A G:Nat->θ):Nat->θ:=λt=>bif a.any (cV t)then A t else G t
theorem K6{A:Nat->θ}:∀{a:List Nat} {F:Nat->θ},a.map F=a.map A->Bd a A F=F:=by
 intro a F h;funext t;unfold Bd;cases b:a.any _ with
 |false=>rfl
 |true=>obtain⟨x,hx,c⟩:=iU.1 b;have:=iB c;subst this;exact((List.map_inj_left.1 h) t hx).symm
theorem cut{σ:Type}(x:List Nat)(L:σ->List (Nat×θ))(wd:σ->ν->Prop)
  (hx:C P n (Exit.then (λa' w'=>∃s' b,a'=fr n b/\x.map b=x.map (app (L s') F)/\wd s' w') Q) c F w)
  (d:∀s w G,wd s w->C P n Q y (Bd x (app (L s) F) G) w):C P n Q (.seq c y) F w:=by
 refine AL (AH hx λe a w' h=> ?_);cases e with
 |normal=>obtain⟨s',b,rfl,g,f⟩:=h;have:=d s' w' b f;rw [K6 g]at this;exact this
 |exit id=>exact h
 |goto l=>exact h
 |ret=>exact h
 |panic i=>exact h
 |outgrown=>exact h
theorem Yx{σ:Type}(b:List Nat)(L:σ->List (Nat×θ))(wd:σ->ν->Prop)(m:σ->Nat)(g:σ)(j:wd g w)
  (round:∀s w G,wd s w->C P n (Exit.then (λa' w'=>∃s' f,a'=fr n f/\b.map f=b.map (app (L s') F)/\wd s' w'/\m s'<m s) Q) c (Bd b (app (L s) F) G) w)
  (x:b.map F=b.map (app (L g) F):=by kernel_rfl):C P n Q (.loop c) F w:=by
 have k:∀A (l:List Nat) (G:Nat->θ),nD G (l.map λt=>(t,A t))↔l.map G=l.map A:=by
  intro A l G;induction l with
  |nil=>simp [nD]
  |cons t l i=>simp [nD,i]
 have ap:∀A l G,app (l.map λt=>(t,A t)) G=Bd l A G:=by
  intro A l G;induction l with
  |nil=>rfl
  |cons t l i=>
   funext u;simp only [yS,app,dV,i,Bd];by_cases d:u=t
   ·subst d;simp
   ·have:cV u t=η:=by
     cases hx:cV u t
     ·rfl
     ·exact absurd (iB hx) d
    simp [this]
 refine U0 (σ:=σ) (λs=>b.map λt=>(t,app (L s) F t)) wd m g ((k _ _ _).2 x) j λs w G o=> ?_;rw [ap];refine AH (round s w G o) λe a w' h=> ?_;cases e with
 |normal=>obtain⟨s',f,v,r,q,p⟩:=h;exact⟨s',f,v,(k _ _ _).2 r,q,p⟩
 |exit id=>exact h
 |goto l=>exact h
 |ret=>exact h
 |panic y=>exact h
 |outgrown=>exact h
theorem kS(h:Q .normal (fr n F) w):W P n ops Q [] F w:=by
 obtain⟨k,D,ro⟩:=n;cases ro with
 |none=>exact h
 |some r=>exact h
variable {o:ψ}
theorem nN{ρ:π->θ}{x:Next}{w':ν}(ro:Option Nat)(h:(ξ ρ o).run P w=.ok x w')(hx:∀d,x≠.defer d):o.semAt ro ρ=ξ ρ o:=by
 refine Oper.semAt_eq ro ρ o λc e=> ?_;unfold ξ at h;rw [e]at h;simp at h;cases a:(resolve ρ c o.type).run P w with
 |ok d b=>rw [a]at h;simp at h;exact hx d h.1.symm
 |halt d b=>rw [a]at h;simp at h
theorem gN{v:θ}{w':ν}(c:o.guard=ε)(f:o.dst=δ d)
  (a:(ξ (aZ n F) o).run P w=.ok (.value v) w') (h:W P n ops Q l (dV F d v) w'):W P n ops Q (o::l) F w:=by
 obtain⟨k,D,ro⟩:=n;cases ro with
 |none=>refine wpList_plain c λK b=> ?_;unfold Oper.wp;rw [IA,a,Oper.upon_value,f];refine b _ _ ?_;rw [lL];exact h
 |some r=>refine wpListIn_plain c λK b=>⟨λ_ _=>trivial, ?_⟩;rw [IA,nN _ a (λd e=>by cases e),a,Oper.uponIn_value,f];refine b _ _ ?_;rw [lL];exact h
theorem pM{w':ν}(c:o.guard=ε)(f:o.dst=ε)
  (a:(ξ (aZ n F) o).run P w=.ok .skip w') (h:W P n ops Q l F w'):W P n ops Q (o::l) F w:=by
 obtain⟨k,D,ro⟩:=n;cases ro with
 |none=>refine wpList_plain c λK b=> ?_;unfold Oper.wp;rw [IA,a,Oper.upon_skip,f];exact b _ _ h
 |some r=>refine wpListIn_plain c λK b=>⟨λ_ _=>trivial, ?_⟩;rw [IA,nN _ a (λd e=>by cases e),a,Oper.uponIn_skip,f];exact b _ _ h
variable {k:FuncId}
theorem MU(g:o.guard=ε)
  (a:(ξ (aZ n F) o).run P w=.ok (.enter k h.toArray) w) (i:CR P k h w R) (f:∀v w',R v w'->WR P n.ro ops Q l ((fr n F).put o.dst v) w'):W P n ops Q (o::l) F w:=by
 obtain⟨s,D,ro⟩:=n;cases ro with
 |none=>refine wpList_plain g λK c=> ?_;unfold Oper.wp;rw [IA,a];refine Calls.mono i ?_;rintro e w' ⟨v,rfl,b⟩;exact c _ _ (f v w' b)
 |some r=>refine wpListIn_plain g λK c=>⟨λ_ _=>trivial, ?_⟩;rw [IA,nN _ a (λd e=>by cases e),a];refine⟨λf=>absurd f Qv, ?_⟩;refine(callsIn_wide).2 (Calls.mono i ?_);rintro e w' ⟨v,rfl,b⟩;exact c _ _ (f v w' b)
theorem ayn(ops:Array ψ)(g:Nat)(dg:Nat)(d:(ops[g]?).bind (·.dst)=δ dg)(c:gA dg n.n=ζ):
  yielded ops (fr n F).tmps g=match F dg with|.bool b=>δ b|_=>ε:=by
 have a:dg<n.n:=by simpa [jK] using c
 unfold yielded;simp [d,fr,a];cases F dg<;>rfl
variable {m:Op}{f:φ}{g:String}{e:Array Edge}{i:Bool}
theorem IV{a:Option Nat}(dg:Nat)
  (b:(ops[d]?).bind (·.dst)=δ dg) (s:gA dg n.n=ζ) (t:F dg=.bool i)
  (h:W P n ops Q (⟨a,m,f,g,e,ε⟩::l) F w):W P n ops Q (⟨a,m,f,g,e,δ (d,i)⟩::l) F w:=by
 have c:Region.wanted ⟨a,m,f,g,e,δ (d,i)⟩ (yielded ops (fr n F).tmps)=ζ:=by unfold Region.wanted;simp only [ayn ops d dg b s,t];simp
 obtain⟨k,D,ro⟩:=n;cases ro with
 |none=>simp only [W,WR]at h⊢;unfold wpList at h⊢;rw [aB c];exact h
 |some r=>simp only [W,WR]at h⊢;unfold wpListIn at h⊢;rw [aB c];exact h
theorem oy(dg:Nat)
  (b:(ops[j]?).bind (·.dst)=δ dg) (s:gA dg n.n=ζ) (c:F dg=.bool (!i))
  (h:W P n ops Q l (dV F d undef) w):W P n ops Q (⟨δ d,m,f,g,e,δ (j,i)⟩::l) F w:=by
 have a:¬Region.wanted ⟨δ d,m,f,g,e,δ (j,i)⟩ (yielded ops (fr n F).tmps)=ζ:=by unfold Region.wanted;simp only [ayn ops j dg b s,c];simp
 obtain⟨k,D,ro⟩:=n;cases ro with
 |none=>simp only [W,WR]at h⊢;unfold wpList;rw [aA a];rw [lL];exact h
 |some r=>simp only [W,WR]at h⊢;unfold wpListIn;rw [aA a];refine⟨λ_ _=>trivial, ?_⟩;rw [lL];exact h
theorem ox(dg:Nat)
  (b:(ops[j]?).bind (·.dst)=δ dg) (s:gA dg n.n=ζ) (c:F dg=undef)
  (h:W P n ops Q l (dV F d undef) w):W P n ops Q (⟨δ d,m,f,g,e,δ (j,i)⟩::l) F w:=by
 have a:¬Region.wanted ⟨δ d,m,f,g,e,δ (j,i)⟩ (yielded ops (fr n F).tmps)=ζ:=by unfold Region.wanted;simp only [ayn ops j dg b s,c];simp [undef]
 obtain⟨k,D,ro⟩:=n;cases ro with
 |none=>simp only [W,WR]at h⊢;unfold wpList;rw [aA a];rw [lL];exact h
 |some r=>simp only [W,WR]at h⊢;unfold wpListIn;rw [aA a];refine⟨λ_ _=>trivial, ?_⟩;rw [lL];exact h
section
variable {d:Nat}{ty:φ}{pos:String}{after:Array Edge}{rest:List ψ}
variable {x:π}
theorem kG(v:θ)(hx:aZ n F x=v)(h:W P n ops Q rest (dV F d v) w):W P n ops Q (⟨δ d,.move x,ty,pos,after,ε⟩::rest) F w:=
 gN rfl rfl (by rw [<-hx];rfl) h
theorem nI(v:θ)(hx:aZ n F x=v)(h:W P n ops Q rest (dV F d v) w):W P n ops Q (⟨δ d,.assign x,ty,pos,after,ε⟩::rest) F w:=
 gN rfl rfl (by rw [<-hx];rfl) h
theorem sC(b:Bool)(hx:aZ n F x=.bool b)(a:b=ζ->W P n ops Q rest (dV F d (.bool ζ)) w)(c:b=η->W P n ops Q rest (dV F d (.bool η)) w):
  W P n ops Q (⟨δ d,.move x,ty,pos,after,ε⟩::rest) F w:=by
 cases b with
 |true=>exact kG _ hx (a rfl)
 |false=>exact kG _ hx (c rfl)
theorem IU(p:Prop)[Decidable p](hx:aZ n F x=.bool (decide p))(a:p->W P n ops Q rest (dV F d (.bool ζ)) w)(b:¬p->W P n ops Q rest (dV F d (.bool η)) w):
  W P n ops Q (⟨δ d,.move x,ty,pos,after,ε⟩::rest) F w:=
 sC _ hx (λh=>a (bU h)) (λh=>b (fY h))
theorem BP(p:Prop)[Decidable p](hx:aZ n F x=.bool (!decide p))(a:¬p->W P n ops Q rest (dV F d (.bool ζ)) w)(b:p->W P n ops Q rest (dV F d (.bool η)) w):
  W P n ops Q (⟨δ d,.move x,ty,pos,after,ε⟩::rest) F w:=
 sC _ hx (λh=>a aA8) (λh=>b aA8)
variable {y:π}
theorem XV{b:π}(t:Bool)(v:θ)(f:aZ n F x=.bool t)(e:(bif t then aZ n F y else aZ n F b)=v):(ξ (aZ n F) (⟨δ d,.pick x y b,ty,pos,after,ε⟩)).run P w=.ok (.value v) w:=by simp only [ξ,f];rw [<-e];cases t<;>rfl
variable {t:φ}
theorem XW(b:Bool)(hx:aZ n F x=.bool b):(ξ (aZ n F) (⟨δ d,.unOp .not t x,ty,pos,after,ε⟩)).run P w=.ok (.value (.bool (!b))) w:=by simp only [ξ,hx];rfl
theorem tu(b:Bool)(hx:aZ n F x=.bool (!b)):(ξ (aZ n F) (⟨δ d,.unOp .not t x,ty,pos,after,ε⟩)).run P w=.ok (.value (.bool b)) w:=by simp only [ξ,hx];cases b<;>rfl
structure acl (a:Int):Prop where
 lo: -9223372036854775808<=a
 hi:a<=9223372036854775807
theorem bbc{x:Int}(b: -9223372036854775808<=x)(a:x<=9223372036854775807):IntKind.i64.wrap x=x:=by rw [IntKind.wrap_i64];omega
variable {a:φ}
theorem YH(k:Α)(e b:Int)(hx:aZ n F x=.int k e)(c:aZ n F y=.int k b):(ξ (aZ n F) (⟨δ d,.binOp .add t x y a,ty,pos,after,ε⟩)).run P w=.ok (.value (.int k (k.wrap (e+b)))) w:=by simp only [ξ,hx,c,binOp,ne_eq];rfl
theorem yZ(f b:Int)(hx:aZ n F x=.int .i64 f)(e:aZ n F y=.int .i64 b)(c:acl (f+b)):(ξ (aZ n F) (⟨δ d,.binOp .add t x y a,ty,pos,after,ε⟩)).run P w=.ok (.value (.int .i64 (f+b))) w:=by rw [YH .i64 f b hx e,bbc c.1 c.2]
theorem vH(f b:Int)(hx:aZ n F x=.int .i64 f)(c:aZ n F y=.int .i64 b)(e:acl (f+b))(h:W P n ops Q rest (dV F d (.int .i64 (f+b))) w):W P n ops Q (⟨δ d,.binOp .add t x y a,ty,pos,after,ε⟩::rest) F w:=
 gN rfl rfl (yZ f b hx c e) h
theorem XU(k:Α)(e b:Int)(hx:aZ n F x=.int k e)(c:aZ n F y=.int k b):(ξ (aZ n F) (⟨δ d,.binOp .sub t x y a,ty,pos,after,ε⟩)).run P w=.ok (.value (.int k (k.wrap (e-b)))) w:=by simp only [ξ,hx,c,binOp,ne_eq];rfl
theorem uG(f b:Int)(hx:aZ n F x=.int .i64 f)(e:aZ n F y=.int .i64 b)(c:acl (f-b)):(ξ (aZ n F) (⟨δ d,.binOp .sub t x y a,ty,pos,after,ε⟩)).run P w=.ok (.value (.int .i64 (f-b))) w:=by rw [XU .i64 f b hx e,bbc c.1 c.2]
theorem Je(f b:Int)(hx:aZ n F x=.int .i64 f)(c:aZ n F y=.int .i64 b)(e:acl (f-b))(h:W P n ops Q rest (dV F d (.int .i64 (f-b))) w):W P n ops Q (⟨δ d,.binOp .sub t x y a,ty,pos,after,ε⟩::rest) F w:=
 gN rfl rfl (uG f b hx c e) h
theorem XY(k:Α)(e b:Int)(hx:aZ n F x=.int k e)(c:aZ n F y=.int k b):(ξ (aZ n F) (⟨δ d,.binOp .mul t x y a,ty,pos,after,ε⟩)).run P w=.ok (.value (.int k (k.wrap (e*b)))) w:=by simp only [ξ,hx,c,binOp,ne_eq];rfl
theorem MP(f b:Int)(hx:aZ n F x=.int .i64 f)(e:aZ n F y=.int .i64 b)(c:acl (f*b)):(ξ (aZ n F) (⟨δ d,.binOp .mul t x y a,ty,pos,after,ε⟩)).run P w=.ok (.value (.int .i64 (f*b))) w:=by rw [XY .i64 f b hx e,bbc c.1 c.2]
theorem ak(f b:Int)(hx:aZ n F x=.int .i64 f)(c:aZ n F y=.int .i64 b)(e:acl (f*b))(h:W P n ops Q rest (dV F d (.int .i64 (f*b))) w):W P n ops Q (⟨δ d,.binOp .mul t x y a,ty,pos,after,ε⟩::rest) F w:=
 gN rfl rfl (MP f b hx c e) h
theorem XZ(k:Α)(e b:Int)(hx:aZ n F x=.int k e)(c:aZ n F y=.int k b):(ξ (aZ n F) (⟨δ d,.binOp .lss t x y a,ty,pos,after,ε⟩)).run P w=.ok (.value (.bool (decide (e<b)))) w:=by simp only [ξ,hx,c,binOp,ne_eq];rfl
theorem YA(k:Α)(e b:Int)(hx:aZ n F x=.int k e)(c:aZ n F y=.int k b):(ξ (aZ n F) (⟨δ d,.binOp .leq t x y a,ty,pos,after,ε⟩)).run P w=.ok (.value (.bool (decide (e<=b)))) w:=by simp only [ξ,hx,c,binOp,ne_eq];rfl
theorem YD(k:Α)(e b:Int)(hx:aZ n F x=.int k e)(c:aZ n F y=.int k b):(ξ (aZ n F) (⟨δ d,.binOp .gtr t x y a,ty,pos,after,ε⟩)).run P w=.ok (.value (.bool (decide (b<e)))) w:=by simp only [ξ,hx,c,binOp,ne_eq];rfl
theorem YE(k:Α)(e b:Int)(hx:aZ n F x=.int k e)(c:aZ n F y=.int k b):(ξ (aZ n F) (⟨δ d,.binOp .geq t x y a,ty,pos,after,ε⟩)).run P w=.ok (.value (.bool (decide (b<=e)))) w:=by simp only [ξ,hx,c,binOp,ne_eq];rfl
theorem YF(k:Α)(e b:Int)(hx:aZ n F x=.int k e)(c:aZ n F y=.int k b):(ξ (aZ n F) (⟨δ d,.binOp .eql t x y a,ty,pos,after,ε⟩)).run P w=.ok (.value (.bool (decide (e=b)))) w:=by simp only [ξ,hx,c,binOp,ne_eq];rfl
theorem XX(k:Α)(e b:Int)(hx:aZ n F x=.int k e)(c:aZ n F y=.int k b):(ξ (aZ n F) (⟨δ d,.binOp .neq t x y a,ty,pos,after,ε⟩)).run P w=.ok (.value (.bool (!decide (e=b)))) w:=by simp only [ξ,hx,c,binOp,ne_eq];rfl
end
end
attribute [irreducible] W C Fy WR CC
def at_(l:List UInt8)(i:Int):UInt8:=l.getD i.toNat 0
def sub(l:List UInt8)(i j:Int):List UInt8:=(l.drop i.toNat).take (j.toNat-i.toNat)
theorem LM(l:List UInt8)(k:Nat):at_ l (k:Int)=l.getD k 0:=rfl
end Go.Wk
set_option linter.unusedSimpArgs false
namespace Go.Wk
open Go.Op renaming bytesLess → vI
open Nat renaming blt → gA
def str(l:List UInt8):θ:=.string ⟨l.toArray⟩
def bt(c:UInt8):θ:=.int .u8 (c.toNat:Int)
def Enters(P : ω)(f : FuncId) : Prop := ∃ fn c, P.funcs[f]? = δ fn /\ fn.body = δ c /\ (fn.name == "runtime.NumGoroutine") = η
theorem Enters.run{P:ω}{f:FuncId}(h:Enters P f)(args:Array θ)(w:ν):(callFunc f args).run P w=.ok (.enter f args) w:=by obtain⟨fn,c,d,b,a⟩:=h;show Sem.run P (match P.funcs[f]? with|none=>_|some fn=>_) w=_;rw [d];simp only [a,b];rfl
section
variable {P:ω}{n:Md}{ops:Array ψ}{Q:Exit->Act->ν->Prop}{F:Nat->θ}{w:ν}
variable {c:Nat}{a:Option (Option Nat)}{b:Func}{R:θ->ν->Prop}{t:Nat}
theorem nR(v:θ)(f:b.results= #[.tmp t])(d:aZ ⟨c,[],a⟩ F (.tmp t)=v)(h:R v w):
  bodyPost P b (λe w'=>∃v,e=.returned v/\R v w') .ret (fr ⟨c,[],a⟩ F) w:=
 ⟨rfl,v,by rw [results_tmp f,qA];exact aV (λx=>Result.ok x w) d,v,rfl,h⟩
theorem xD(d:b.results= #[])(h:R (.tuple #[]) w):
  bodyPost P b (λe w'=>∃v,e=.returned v/\R v w') .ret (fr ⟨c,[],a⟩ F) w:=
 ⟨rfl,_,results_none d _ _ _,_,rfl,h⟩
theorem uN(d:b.results= #[])(h:R (.tuple #[]) w):
  bodyPost P b (λe w'=>∃v,e=.returned v/\R v w') .normal (fr ⟨c,[],a⟩ F) w:=
 ⟨rfl,_,results_none d _ _ _,_,rfl,h⟩
theorem zV{u:Nat}(v j:θ)(f:b.results= #[.tmp t,.tmp u])(d:aZ ⟨c,[],a⟩ F (.tmp t)=v)(k:aZ ⟨c,[],a⟩ F (.tmp u)=j)(h:R (.tuple #[v,j]) w):
  bodyPost P b (λe w'=>∃v,e=.returned v/\R v w') .ret (fr ⟨c,[],a⟩ F) w:=by
 refine⟨rfl,_, ?_,_,rfl,h⟩;rw [results_tmp2 f,qA,qA];have i:(bif gA t c then F t else undef)=v:=d;have g:(bif gA u c then F u else undef)=j:=k;rw [i,g]
theorem y4{u s:Nat}(v d m:θ)(i:b.results= #[.tmp t,.tmp u,.tmp s])(g:aZ ⟨c,[],a⟩ F (.tmp t)=v)(f:aZ ⟨c,[],a⟩ F (.tmp u)=d)(o:aZ ⟨c,[],a⟩ F (.tmp s)=m)
  (h:R (.tuple #[v,d,m]) w):bodyPost P b (λe w'=>∃v,e=.returned v/\R v w') .ret (fr ⟨c,[],a⟩ F) w:=by
 refine⟨rfl,_, ?_,_,rfl,h⟩;have l:(bif gA t c then F t else undef)=v:=g;have k:(bif gA u c then F u else undef)=d:=f;have j:(bif gA s c then F s else undef)=m:=o;simp [results,i,qA,l,k,j,-Array.getD_eq_getD_getElem?]
section
variable {d:Nat}{ty:φ}{pos:String}{after:Array Edge}{rest:List ψ}
variable {x:π}{b:Array π}{c:Array φ}
theorem pA(f:FuncId)(cap:Array θ)(vs:List θ)(R:θ->ν->Prop)(j:Enters P f)
  (e:aZ n F x=.func (.func f) #[] cap) (i: #[]++b.map (aZ n F)++cap=vs.toArray) (g:CR P f vs w R) (h:∀v w',R v w'->W P n ops Q rest (dV F d v) w'):
  W P n ops Q (⟨δ d,.call ⟨.value x,b,c⟩,ty,pos,after,ε⟩::rest) F w:=by
 refine MU rfl ?_ g (λv w' a=> ?_)
 ·simp only [ξ,resolve,e,Deferred.ofValue];show Sem.run P (callFunc f _) w=_;rw [i];exact j.run _ _
 ·have:=h v w' a;unfold W at this;rw [<-lL]at this;exact this
theorem av(f:FuncId)(cap:Array θ)(vs:List θ)(R:θ->ν->Prop)(i:Enters P f)
  (d:aZ n F x=.func (.func f) #[] cap) (g: #[]++b.map (aZ n F)++cap=vs.toArray) (e:CR P f vs w R) (h:∀v w',R v w'->W P n ops Q rest F w'):
  W P n ops Q (⟨ε,.call ⟨.value x,b,c⟩,ty,pos,after,ε⟩::rest) F w:=by
 refine MU rfl ?_ e (λv w' a=> ?_)
 ·simp only [ξ,resolve,d,Deferred.ofValue];show Sem.run P (callFunc f _) w=_;rw [g];exact i.run _ _
 ·have:=h v w' a;unfold W at this;exact this
variable {y:π}
theorem x_min(k:Α)(a b:Int)(hx:aZ n F x=.int k a)(f:aZ n F y=.int k b):(ξ (aZ n F) (⟨δ d,.call ⟨.builtin .min, #[x,y],c⟩,ty,pos,after,ε⟩)).run P w=.ok (.value (.int k (min a b))) w:=by
 have e:(ξ (aZ n F) (⟨δ d,.call ⟨.builtin .min, #[x,y],c⟩,ty,pos,after,ε⟩:ψ)).run P w=.ok (.value (.int k (if b<a then b else a))) w:=by simp only [ξ,resolve,List.map_toArray,yS,hx,f];rfl
 rw [e];congr 3;split<;>omega
theorem oe(k:Α)(a b:Int)(hx:aZ n F x=.int k a)(f:aZ n F y=.int k b):(ξ (aZ n F) (⟨δ d,.call ⟨.builtin .max, #[x,y],c⟩,ty,pos,after,ε⟩)).run P w=.ok (.value (.int k (max a b))) w:=by
 have e:(ξ (aZ n F) (⟨δ d,.call ⟨.builtin .max, #[x,y],c⟩,ty,pos,after,ε⟩:ψ)).run P w=.ok (.value (.int k (if a<b then b else a))) w:=by simp only [ξ,resolve,List.map_toArray,yS,hx,f];rfl
 rw [e];congr 3;split<;>omega
theorem w_max(k:Α)(a b:Int)(hx:aZ n F x=.int k a)(e:aZ n F y=.int k b)(h:W P n ops Q rest (dV F d (.int k (max a b))) w):W P n ops Q (⟨δ d,.call ⟨.builtin .max, #[x,y],c⟩,ty,pos,after,ε⟩::rest) F w:=
 gN rfl rfl (oe k a b hx e) h
variable {t:φ}
theorem og(l:List UInt8)(a:P.underlying t=δ .string)(hx:aZ n F x=str l):(ξ (aZ n F) (⟨δ d,.call ⟨.builtin .len, #[x], #[t]⟩,ty,pos,after,ε⟩)).run P w=.ok (.value (.int .i64 (γ l))) w:=by simp [ξ,resolve,invoke,builtin,hx,str,run_len_string _ _ _ _ a];rfl
variable {a:φ}
theorem MN(f b:List UInt8)(hx:aZ n F x=str f)(c:aZ n F y=str b):(ξ (aZ n F) (⟨δ d,.binOp .eql t x y a,ty,pos,after,ε⟩)).run P w=.ok (.value (.bool (decide (f=b)))) w:=by
 have e:(f==b)=decide (f=b):=by rw [Z2];simp
 simp [ξ,hx,c,str,eqGuard,binOp_string_eql,e]
theorem MK(f b:List UInt8)(hx:aZ n F x=str f)(c:aZ n F y=str b):(ξ (aZ n F) (⟨δ d,.binOp .neq t x y a,ty,pos,after,ε⟩)).run P w=.ok (.value (.bool (!decide (f=b)))) w:=by
 have e:(f==b)=decide (f=b):=by rw [Z2];simp
 simp [ξ,hx,c,str,eqGuard,binOp_string_neq,e]
theorem ML(e b:List UInt8)(hx:aZ n F x=str e)(c:aZ n F y=str b):(ξ (aZ n F) (⟨δ d,.binOp .lss t x y a,ty,pos,after,ε⟩)).run P w=.ok (.value (.bool (vI e b))) w:=by simp [ξ,hx,c,str,eqGuard,binOp_string_lss]
theorem MM(e b:List UInt8)(hx:aZ n F x=str e)(c:aZ n F y=str b):(ξ (aZ n F) (⟨δ d,.binOp .gtr t x y a,ty,pos,after,ε⟩)).run P w=.ok (.value (.bool (!(vI e b||e==b)))) w:=by simp [ξ,hx,c,str,eqGuard,binOp,Op.stringOp]
theorem BK(f b:List UInt8)(hx:aZ n F x=str f)(e:aZ n F y=str b)(c:γ f+γ b<=9223372036854775807)
  :(ξ (aZ n F) (⟨δ d,.binOp .add t x y a,ty,pos,after,ε⟩)).run P w=.ok (.value (str (f++b))) w:=by
 simp [ξ,hx,e,str,eqGuard,binOp_string_add,run_string_add_sum w ⟨f.toArray⟩ ⟨b.toArray⟩ c,ByteArray.mk_append_mk]
theorem V9(f b:List UInt8)(hx:aZ n F x=str f)(e:aZ n F y=str b)(c:γ f+γ b<=9223372036854775807)
  (h:W P n ops Q rest (dV F d (str (f++b))) w):W P n ops Q (⟨δ d,.binOp .add t x y a,ty,pos,after,ε⟩::rest) F w:=
 gN rfl rfl (BK f b hx e c) h
theorem pJ(l:List UInt8)(k:Α)(i:Int)(c:P.underlying t=δ .string)(hx:aZ n F x=str l)(g:aZ n F y=.int k i)
  (h:0<=i/\i<γ l):(ξ (aZ n F) (⟨δ d,.index t x y,ty,pos,after,ε⟩)).run P w=.ok (.value (bt (at_ l i))) w:=by
 have a:0<=i/\i<(⟨l.toArray⟩:ByteArray).size:=h;have f:i.toNat<γ l:=aA0;have e:=run_index_string (P:=P) w t ⟨l.toArray⟩ k i c;rw [dif_pos a]at e;simp only [ξ,hx,g,str,Sem.run_bind,e];show Result.ok (Next.value (.int .u8 ((l[i.toNat]).toNat))) w=_;simp [bt,at_,f]
theorem uI(l:List UInt8)(k:Α)(i:Int)(b:P.underlying t=δ .string)(hx:aZ n F x=str l)(c:aZ n F y=.int k i)
  (e:0<=i/\i<(γ l:Int)) (h:W P n ops Q rest (dV F d (bt (at_ l i))) w):W P n ops Q (⟨δ d,.index t x y,ty,pos,after,ε⟩::rest) F w:=
 gN rfl rfl (pJ l k i b hx c e) h
theorem MO{h:π}(l:List UInt8)(k k':Α)(i j:Int)(g:P.underlying t=δ .string)(hx:aZ n F x=str l)(a:aZ n F y=.int k i)(b:aZ n F h=.int k' j)
  (c:0<=i/\i<=j/\j<=γ l):(ξ (aZ n F) (⟨δ d,.slice t x (δ y) (δ h) ε,ty,pos,after,ε⟩)).run P w=.ok (.value (str (sub l i j))) w:=by
 have e:=run_slice_string w t ⟨l.toArray⟩ k k' i j g c.1 c.2.1 c.2.2;simp only [ξ,hx,a,b,str,Sem.run_bind,WW,Gd,run_sliceAt_string w t _ _ _ _ g,e,ByteArray.extract_mk];rfl
theorem MQ{e:π}(l:List UInt8)(k k':Α)(i j:Int)(f:P.underlying t=δ .string)(hx:aZ n F x=str l)(a:aZ n F y=.int k i)(b:aZ n F e=.int k' j)
  (g:0<=i/\i<=j/\j<=(γ l:Int)) (h:W P n ops Q rest (dV F d (str (sub l i j))) w):W P n ops Q (⟨δ d,.slice t x (δ y) (δ e) ε,ty,pos,after,ε⟩::rest) F w:=
 gN rfl rfl (MO l k k' i j f hx a b g) h
theorem pI{t:φ}(l:List UInt8)(k:Α)(i:Int)(c:P.underlying t=δ .string)(hx:aZ n F x=str l)(a:aZ n F y=.int k i)
  (f:0<=i/\i<=γ l):(ξ (aZ n F) (⟨δ d,.slice t x (δ y) ε ε,ty,pos,after,ε⟩)).run P w=.ok (.value (str (l.drop i.toNat))) w:=by
 have e:=run_slice_string_l (w:=w) (t:=t) (s:=⟨l.toArray⟩) c k i f.1 f.2;simp only [ξ,hx,a,str,Sem.run_bind,WW,Gd,run_sliceAt_string w t _ _ _ _ c,e,ByteArray.extract_mk];have g:(l.drop i.toNat).take ((⟨l.toArray⟩:ByteArray).size-i.toNat)=l.drop i.toNat:=jL (by show(l.drop i.toNat).length<=γ l-i.toNat;simp);rw [g];rfl
theorem pL(l:List UInt8)(k:Α)(i:Int)(c:P.underlying t=δ .string)(hx:aZ n F x=str l)(a:aZ n F y=.int k i)
  (e:0<=i/\i<=(γ l:Int)) (h:W P n ops Q rest (dV F d (str (l.drop i.toNat))) w):W P n ops Q (⟨δ d,.slice t x (δ y) ε ε,ty,pos,after,ε⟩::rest) F w:=
 gN rfl rfl (pI l k i c hx a e) h
theorem Ki{t:φ}(l:List UInt8)(k:Α)(j:Int)(b:P.underlying t=δ .string)(hx:aZ n F x=str l)(a:aZ n F y=.int k j)
  (f:0<=j/\j<=γ l):(ξ (aZ n F) (⟨δ d,.slice t x ε (δ y) ε,ty,pos,after,ε⟩)).run P w=.ok (.value (str (l.take j.toNat))) w:=by
 have e:=run_slice_string_h (w:=w) (t:=t) (s:=⟨l.toArray⟩) b k j f.1 f.2;simp only [ξ,hx,a,str,Sem.run_bind,WW,Gd,run_sliceAt_string w t _ _ _ _ b,e,ByteArray.extract_mk];rfl
theorem IT(l:List UInt8)(k:Α)(j:Int)(c:P.underlying t=δ .string)(hx:aZ n F x=str l)(a:aZ n F y=.int k j)
  (e:0<=j/\j<=(γ l:Int)) (h:W P n ops Q rest (dV F d (str (l.take j.toNat))) w):W P n ops Q (⟨δ d,.slice t x ε (δ y) ε,ty,pos,after,ε⟩::rest) F w:=
 gN rfl rfl (Ki l k j c hx a e) h
theorem IQ(k k':Α)(s:Int)(c:P.underlying t=δ (.int k'))(b:P.underlying a=δ (.int k))(hx:aZ n F x=.int k' s):(ξ (aZ n F) (⟨δ d,.convert t a x,ty,pos,after,ε⟩)).run P w=.ok (.value (.int k (k.wrap s))) w:=by simp [ξ,hx,convert,run_underlying c,run_underlying b,Conv.intToInt]
theorem uH(k k':Α)(s:Int)(e:P.underlying t=δ (.int k'))(c:P.underlying a=δ (.int k))(hx:aZ n F x=.int k' s)(b:k.wrap s=s):(ξ (aZ n F) (⟨δ d,.convert t a x,ty,pos,after,ε⟩)).run P w=.ok (.value (.int k s)) w:=by rw [IQ k k' s e c hx,b]
theorem MV(k k':Α)(s:Int)(e:P.underlying t=δ (.int k'))(c:P.underlying a=δ (.int k))(hx:aZ n F x=.int k' s)(b:k.wrap s=s)(h:W P n ops Q rest (dV F d (.int k s)) w):W P n ops Q (⟨δ d,.convert t a x,ty,pos,after,ε⟩::rest) F w:=
 gN rfl rfl (uH k k' s e c hx b) h
theorem RT(l:List UInt8)(b:P.underlying t=δ .string)(s:P.underlying a=δ .string)(hx:aZ n F x=str l):(ξ (aZ n F) (⟨δ d,.convert t a x,ty,pos,after,ε⟩)).run P w=.ok (.value (str l)) w:=by simp [ξ,hx,str,convert,run_underlying b,run_underlying s]
theorem x_eqb(f b:Bool)(e:P.underlying t=δ .bool)(hx:aZ n F x=.bool f)(c:aZ n F y=.bool b):(ξ (aZ n F) (⟨δ d,.binOp .eql t x y a,ty,pos,after,ε⟩)).run P w=.ok (.value (.bool (f==b))) w:=by simp [ξ,hx,c,eqGuard,run_eql_bool _ _ _ _ e]
theorem x_neb(f b:Bool)(e:P.underlying t=δ .bool)(hx:aZ n F x=.bool f)(c:aZ n F y=.bool b):(ξ (aZ n F) (⟨δ d,.binOp .neq t x y a,ty,pos,after,ε⟩)).run P w=.ok (.value (.bool (!(f==b)))) w:=by simp [ξ,hx,c,eqGuard,run_neq_bool _ _ _ _ e]
theorem Td{i:Nat}(vs:Array θ)(v:θ)(hx:aZ n F x=.tuple vs)(a:vs[i]? =δ v):(ξ (aZ n F) (⟨δ d,.extract x i,ty,pos,after,ε⟩)).run P w=.ok (.value v) w:=by simp [ξ,hx,Instr.extract,a]
end
end
structure cB where
 own:Option Nat
 ok:Option Obj->Prop
def cB.holds(r:cB)(w:ν):Prop:=r.ok (r.own.bind λb=>w.heap[b]?)
def aS(b:Nat)(cs:List θ)(e:φ):cB:=⟨δ b,λo=>o=δ (.cells cs.toArray e (0,0))⟩
def row(v:θ)(e:φ)(sz n:Nat)(b:List θ):cB:=
 ⟨v.ownBlock,λo=>γ b=n*sz/\((v=.slice ε 0 0/\n=0)\/
  ∃g cap a,v=.slice (δ ⟨g,0,ε⟩) n cap/\o=δ (.cells a e (0,0))/\n<=cap/\cap<=maxLen/\a.size=cap*sz/\a.toList.take (n*sz)=b)⟩
def iY(v:θ)(n:Nat)(l:List UInt8):cB:=
 ⟨v.ownBlock,λo=>γ l=n/\∃g cap a e b,v=.slice (δ ⟨g,0,ε⟩) n cap/\o=δ (.cells a e b)/\n<=cap/\cap<=a.size/\a.toList.take n=l.map bt/\a.size<=b.1⟩
structure Hp (w0:ν) (S:List Nat) (L:List cB) (w:ν):Prop where
 os:w.os=w0.os
 tape:w.tape=w0.tape
 output:w.output=w0.output
 size:w0.heap.size<=w.heap.size
 below:∀k,k<w0.heap.size->k∉S->w.heap[k]? =w0.heap[k]?
 res:∀r∈L,r.holds w/\∀b,r.own=δ b->b<w.heap.size/\(w0.heap.size<=b\/b∈S)
 sep:L.Pairwise λr r'=>∀b,r.own=δ b->r'.own≠δ b
theorem Hp.refl(w:ν):Hp w [] [] w:=⟨rfl,rfl,rfl,eK _,λ_ _ _=>rfl,λ_ h=>by simp at h,List.Pairwise.nil⟩
variable {w a:ν}{L:List cB}
theorem Hp.toBelow(h:Hp w [] L a):RowKit.Below w.heap.size w a:=⟨h.os,h.tape,h.output,h.size,λk c=>h.below k c aA2⟩
theorem Hp.Af(h:RowKit.Below w.heap.size w a):Hp w [] [] a:=⟨h.os,h.tape,h.output,h.size,λk c _=>h.block k c,λ_ h=>by simp at h,List.Pairwise.nil⟩
theorem cB.holds_of{r:cB}(h:r.holds w)(c:∀b,r.own=δ b->a.heap[b]? =w.heap[b]?):r.holds a:=by
 unfold cB.holds at*;cases d:r.own with
 |none=>simpa [d] using h
 |some b=>simpa [d,c b d] using h
variable {S:List Nat}{b:List cB}
theorem Hp.sub(h:Hp w S L a)(d:b.Sublist L):Hp w S b a:=
 ⟨h.os,h.tape,h.output,h.size,h.below,λr c=>h.res r (d.subset c),h.sep.sublist d⟩
theorem Hp.nil(h:Hp w S L a):Hp w S [] a:=h.sub (List.nil_sublist _)
theorem Hp.perm(h:Hp w S L a)(c:L.Perm b):Hp w S b a:=
 ⟨h.os,h.tape,h.output,h.size,h.below,λr e=>h.res r (c.symm.subset e),c.pairwise h.sep (λh g f d=>h g d f)⟩
theorem Hp.mQ{w':ν}(h:Hp w S L a)(c:Hp a [] b w'):Hp w S (b++L) w':=by
 have d:∀n,n<a.heap.size->w'.heap[n]? =a.heap[n]? :=λn d=>c.below n d aA2;refine⟨c.os.trans h.os,c.tape.trans h.tape,c.output.trans h.output,lE h.size c.size,λk g j=> ?_,λr i=> ?_, ?_⟩
 ·rw [d k (Tb g h.size)];exact h.below k g j
 ·rcases aR.1 i with i|i
  ·refine⟨(c.res r i).1,λn e=> ?_⟩;have:=(c.res r i).2 n e;simp at this;exact⟨this.1,.inl (lE h.size this.2)⟩
  ·refine⟨cB.holds_of (h.res r i).1 λn e=>d n ((h.res r i).2 n e).1,λn e=> ?_⟩;have:=(h.res r i).2 n e;exact⟨Tb this.1 c.size,this.2⟩
 ·refine dH.2 ⟨c.sep,h.sep,λr i r' f n e e'=> ?_⟩;have l:=(c.res r i).2 n e;have m:=(h.res r' f).2 n e';simp at l;omega
theorem Hp.call{w':ν}(h:Hp w S L a)(c:Hp a [] [] w'):Hp w S L w':=h.mQ c
theorem Hp.change{w':ν}(h:Hp w S L a)(k:Nat)(r r':cB)(D:L[k]? =δ r)(N:w'.os=a.os)(K:w'.tape=a.tape)(J:w'.output=a.output)
  (F:a.heap.size<=w'.heap.size) (H:∀j,j<a.heap.size->δ j≠r.own->w'.heap[j]? =a.heap[j]?) (M:r'.holds w')
  (C:∀b,r'.own=δ b->(r.own=δ b\/a.heap.size<=b)/\b<w'.heap.size):Hp w S (L.set k r') w':=by
 have n:r∈L:=aG D;have u:k<γ L:=(aD.1 D).1;have m:∀x,x∈L.eraseIdx k->∀b,x.own=δ b->r.own≠δ b:=by
  intro x hx b s t;obtain⟨j,c,P,q⟩:∃j,∃(c:j<γ L),j≠k/\L[j]=x:=by rw [jE]at hx;obtain⟨j,c,P,e⟩:=hx;exact⟨j,c,P,e⟩
  have v:L[k]=r:=(aD.1 D).2;have B:=eM.1 h.sep;rcases uB j k with G|G
  ·exact B j k c u G b (by rw [q];exact s) (by rw [v];exact t)
  ·exact B k j u c aA0 b (by rw [v];exact t) (by rw [q];exact s)
 have d:∀x,x∈L.set k r'->x=r'\/x∈L.eraseIdx k:=by
  intro x hx;obtain⟨j,c,e⟩:=List.getElem_of_mem hx;by_cases P:j=k
  ·subst P;left;simpa using e.symm
  ·right;rw [jE];refine⟨j,aC2,P, ?_⟩;rw [nE (λe=>P e.symm)]at e;exact e
 have f:∀x∈L.eraseIdx k,∀b,x.own=δ b->w'.heap[b]? =a.heap[b]? :=λx hx b e=>
  H b ((h.res x (AX hx)).2 b e).1 (λe'=>m x hx b e e'.symm)
 refine⟨N.trans h.os,K.trans h.tape,J.trans h.output,lE h.size F,λj c I=> ?_,λx hx=> ?_, ?_⟩
 ·rw [H j (Tb c h.size) (λe=> ?_)];exact h.below j c I;have:=((h.res r n).2 j e.symm).2;rcases this with l|l
  ·omega
  ·exact I l
 ·rcases d x hx with rfl|hx
  ·refine⟨M,λb e=>⟨(C b e).2, ?_⟩⟩;rcases(C b e).1 with l|l
   ·exact((h.res r n).2 b l).2
   ·exact .inl (lE h.size l)
  ·have p:=AX hx;exact⟨cB.holds_of (h.res x p).1 (f x hx),λb e=>⟨Tb ((h.res x p).2 b e).1 F,((h.res x p).2 b e).2⟩⟩
 ·have o:∀x∈L.eraseIdx k,∀b,r'.own=δ b->x.own≠δ b:=by
   intro x hx b e e';rcases(C b e).1 with l|l
   ·exact m x hx b e' l
   ·have:=((h.res x (AX hx)).2 b e').1;omega
  have B:=eM.1 h.sep;refine eM.2 λi j O c E b=> ?_;have A:i<γ L:=by simpa using O
  have z:j<γ L:=aC2;by_cases g:i=k
  ·subst g;have y:j≠i:=by omega
   rw [List.getElem_set_self,nE (λe=>y e.symm)];intro e;exact o _ (by rw [jE];exact⟨j,z,y,rfl⟩) b e
  ·by_cases P:j=k
   ·subst P;rw [List.getElem_set_self,nE (λe=>g e.symm)];intro e e';exact o _ (by rw [jE];exact⟨i,A,g,rfl⟩) b e' e
   ·rw [nE (λe=>g e.symm),nE (λe=>P e.symm)];exact B i j A z E b
theorem Hp.alloc{w0 w:ν}{S:List Nat}{L:List cB}(h:Hp w0 S L w)(cs:List θ)(e:φ):Hp w0 S (aS w.heap.size cs e::L) (w.alloc (.cells cs.toArray e (0,0))):=by
 have d:Hp w [] [aS w.heap.size cs e] (w.alloc (.cells cs.toArray e (0,0))):=by
  refine⟨rfl,rfl,rfl,aA2,λk c _=>RowKit.Below.heap_alloc w _ k c,λr a=> ?_,aA2⟩;simp at a;subst a;refine⟨?_,λb e=> ?_⟩
  ·show(w.heap.push _)[w.heap.size]? =_;simp
  ·simp [aS]at e;subst e;simp
 exact h.mQ d
theorem Hp.dG(h:Hp w S L a)(k:Nat){b:Nat}{cs:List θ}{e:φ}(c:L[k]? =δ (aS b cs e)):
  a.heap[b]? =δ (.cells cs.toArray e (0,0)):=(h.res _ (aG c)).1
section
variable {P:ω}{n:Md}{ops:Array ψ}{Q:Exit->Act->ν->Prop}{F:Nat->θ}{w w0:ν}{S:List Nat}{L:List cB}
variable {d:Nat}{ty:φ}{pos:String}{after:Array Edge}{rest:List ψ}
theorem iQ{o:ψ}(g:Hp w0 S L w)(cs:List θ)(e:φ)(V:Nat->θ)(c:o.guard=ε)(f:o.dst=δ d)
  (a:(ξ (aZ n F) o).run P w=.ok (.value (V w.heap.size)) (w.alloc (.cells cs.toArray e (0,0))))
  (h:∀b w',Hp w0 S (aS b cs e::L) w'->W P n ops Q rest (dV F d (V b)) w'):W P n ops Q (o::rest) F w:=
 gN c f a (h _ _ (g.alloc cs e))
variable {a:List θ}{t:φ}
theorem bcs{b off:Nat}{e:Nat×Nat}(h:w.heap[b]? =δ (.cells a.toArray t e)):w.cell? ⟨b,off,ε⟩=a[off]? :=by simp [World.cell?,h]
variable {x:π}
theorem iD(i:Hp w0 S L w)(k b off:Nat)(cs:List θ)(e:φ)(v:θ)(f:L[k]? =δ (aS b cs e))(c:cs[off]? =δ v)
  (hx:aZ n F x=.pointer (δ ⟨b,off,ε⟩)) (g:(isAgg t).run P w=.ok η w) (h:W P n ops Q rest (dV F d v) w):
  W P n ops Q (⟨δ d,.load t x,ty,pos,after,ε⟩::rest) F w:=by
 refine gN (w':=w) rfl rfl ?_ h;have a:=bcs (off:=off) (i.dG k f);rw [c]at a;simp [ξ,hx,Instr.loadAt,Instr.sureAddr,loadVar,g,a]
theorem LY(b off i:Nat):(⟨b,off,ε⟩:χ).add i=⟨b,off+i,ε⟩:=by
 unfold Addr.add;by_cases a:i=0
 ·subst a;simp
 ·simp [a]
theorem Hr(r:Hp w0 S L w)(k b off m:Nat)(cs vs:List θ)(e:φ)(l:L[k]? =δ (aS b cs e))(f:(cs.drop off).take m=vs)(i:γ vs=m)
  (hx:aZ n F x=.pointer (δ ⟨b,off,ε⟩)) (q:(isAgg t).run P w=.ok ζ w) (g:(sizeOf t).run P w=.ok m w) (h:W P n ops Q rest (dV F d (.agg vs.toArray)) w):
  W P n ops Q (⟨δ d,.load t x,ty,pos,after,ε⟩::rest) F w:=by
 refine gN (w':=w) rfl rfl ?_ h;have p:=r.dG k l;have o:(loadCells ⟨b,off,ε⟩ m).run P w=.ok vs.toArray w:=by
  rw [<-i];refine run_loadCells_list w _ vs λj v a=> ?_;rw [LY,bcs p];rw [<-f]at a;have c:j<m:=by have:=(aD.1 a).1;simp at this;omega
  rw [bO,aB c,bZ]at a;exact a
 simp [ξ,hx,Instr.loadAt,Instr.sureAddr,loadVar,q,g,o]
def xX(cs:List θ)(off:Nat)(vs:List θ):List θ:=cs.take off++vs++cs.drop (off+γ vs)
theorem Hp.stored{k b off:Nat}{vs:List θ}(g:Hp w0 S L w)(f:L[k]? =δ (aS b a t))(h:off+γ vs<=γ a)(i:∀v∈vs,v.oneCell'=ζ):
  ∃w',(storeCells ⟨b,off,ε⟩ vs).run P w=.ok () w'/\Hp w0 S (L.set k (aS b (xX a off vs) t)) w':=by
 have d:=g.dG k f;have e:=run_storeCells_at P b off t vs 0 a.toArray w d aA8 i;refine⟨_,e,g.change k _ _ f rfl rfl rfl aA2 (λj l c=>setRow_other w b j _ (λt=>c (by simp [aS,t]))) ?_ ?_⟩
 ·show(w.setRow b _).heap[b]? =_;rw [setRow_heap w b a.toArray _ t _ d];simp [xX]
 ·intro b' e';simp [aS]at e';subst e';refine⟨.inl rfl, ?_⟩;have:=(bW.1 d).1;simpa using this
theorem Sp{y:π}(q:Hp w0 S L w)(k b off:Nat)(cs:List θ)(e:φ)(v:θ)(g:List cB)(o:L[k]? =δ (aS b cs e))(m:off<γ cs)
  (hx:aZ n F x=.pointer (δ ⟨b,off,ε⟩)) (i:aZ n F y=v) (f:v.oneCell'=ζ) (j:(sizeOf t).run P w=.ok 1 w) (p:L.set k (aS b (cs.set off v) e)=g)
  (h:∀w',Hp w0 S g w'->W P n ops Q rest F w'):
  W P n ops Q (⟨ε,.store t x y,ty,pos,after,ε⟩::rest) F w:=by
 have a:v.cells= #[v]:=by cases v<;>first|rfl|simp [Value.oneCell']at f
 obtain⟨w',l,c⟩:=q.stored (P:=P) (vs:=[v]) (off:=off) o aA4 aE0;have d:xX cs off [v]=cs.set off v:=by unfold xX;rw [zbK,aB m];simp
 rw [d,p]at c;refine pM (w':=w') rfl rfl ?_ (h w' c);simp [ξ,hx,i,Instr.storeAt,Instr.sureAddr,storeVar,j,a,l]
theorem qZ{y:π}(m:Hp w0 S L w)(k b off:Nat)(cs vs:List θ)(e:φ)(c:List cB)(j:L[k]? =δ (aS b cs e))(i:off+γ vs<=γ cs)
  (hx:aZ n F x=.pointer (δ ⟨b,off,ε⟩)) (d:aZ n F y=.agg vs.toArray) (o:vs.all (·.oneCell')=ζ) (f:(sizeOf t).run P w=.ok (γ vs) w) (l:L.set k (aS b (xX cs off vs) e)=c)
  (h:∀w',Hp w0 S c w'->W P n ops Q rest F w'):
  W P n ops Q (⟨ε,.store t x y,ty,pos,after,ε⟩::rest) F w:=by
 obtain⟨w',g,a⟩:=m.stored (P:=P) j i (by simpa using o);rw [l]at a;refine pM (w':=w') rfl rfl ?_ (h w' a);simp [ξ,hx,d,Instr.storeAt,Instr.sureAddr,storeVar,f,Value.cells,g]
end
open List renaming replicate → fH
open Nat renaming beq → cV, blt → gA
open _root_.Array renaming replicate → HU
section
variable {P:ω}{ops:Array ψ}{Q:Exit->Act->ν->Prop}{md:Region.Mode}{S:Nat->ν->ν->Prop}
def dD(D:List Nat)(f:ν->Prop)(j:Nat)(w w':ν):Prop:=D.contains j=η->f w->f w'
variable {D:List Nat}{f:ν->Prop}{k:Nat}{w:ν}
theorem dD.same:dD D f k w w:=λ_ h=>h
theorem dD.out{w':ν}(h:D.contains k=ζ):dD D f k w w':=λa=>by rw [h]at a;cases a
theorem dD.new{w':ν}(h:f w'):dD D f k w w':=λ_ _=>h
def zE(P:ω)(md:Region.Mode)(ops:Array ψ)(Q:Exit->Act->ν->Prop)(S:Nat->ν->ν->Prop)(k:Nat)(Z:Act->ν->Prop):Nat->Array Bool->Act->ν->Prop
 |0,listed,a,w=>Region.seqB md ops (ops.size-k) k listed=ζ/\Z a w
 |f+1,listed,a,w=>Β md ops listed≠[]/\∀i∈Β md ops listed,i<k/\wpOp P ops Q i (λa' w'=>S i w w'/\zE P md ops Q S k Z f (listed.setIfInBounds i ζ) a' w') a w
theorem Yh{k:Nat}{Z:Act->ν->Prop}(d:k<=ops.size)(c:∀a w,Z a w->wpList P ops Q (ops.toList.drop k) a w):
  ∀f listed a w,zE P md ops Q S k Z f listed a w->wpAny P md ops Q (f+(ops.size-k)) listed a w
 |0,listed,a,w,h=>by have b:γ (ops.toList.drop k)=ops.size-k:=aA2;have:=wpAny_of_seq (Q':=Q) (ops.toList.drop k) k listed a w (λj=>by simp) (by rw [b];exact h.1) (c a w h.2);rw [b]at this;rw [Ta];exact this
 |f+1,listed,a,w,h=>by rw [show f+1+(ops.size-k)=(f+(ops.size-k))+1 by omega];exact⟨λg=>absurd g h.1,λi e=>wpOp_mono (λa' w' l=>Yh d c f _ a' w' l.2) (h.2 i e).2⟩
def Pf(md:Region.Mode)(ops:Array ψ)(i:Nat)(D:List Nat):Bool:=
 D.all λj=>match ops[j]? with
  |some o=>o.after.any λe=>Region.binds md e&&gA e.on j&&(cV e.on i||D.contains e.on)
  |none=>ζ
variable {i:Nat}{a:Array Bool}
theorem Sj(q:Pf md ops i D=ζ)(c:HeadInv md ops k a)(g:a.getD i ζ=η):∀j,j∈D->j<ops.size->a.getD j ζ=η:=by
 intro j;induction j using Nat.strongRecOn with
 |_ j n=>
  intro o b;cases m:a.getD j η with
  |false=>exact getD_in (by rw [c.size];exact b) m
  |true=>
   have l:=aT.1 q j o;rw [gP b]at l;simp only [Array.any_eq_true']at l;obtain⟨e,p,f⟩:=l;simp only [hO,Ge]at f;have s:=c.closed j ops[j] (gP b) m e p f.1.1;rcases f.2 with h|h
   ·rw [iB h]at s;have:=getD_both g;rw [this]at s;cases s
   ·have d:e.on<j:=by simpa [jK] using f.1.2
    have r:=n e.on d aA8 aA0;have:=getD_both r;rw [this]at s;cases s
theorem Pe{j:Nat}(p:Pf md ops i D=ζ)(g:HeadInv md ops k a)(b:a.getD i ζ=η)(r:j∈Β md ops a):j∉D:=by
 intro h;obtain⟨o,u,c,d⟩:=mem_ready.1 r;have q:=(bW.1 c).1;have m:=aT.1 p j h;rw [c]at m;simp only [Array.any_eq_true']at m;obtain⟨e,s,f⟩:=m;simp only [hO,Ge]at f;have v:=d e s f.1.1;rcases f.2 with l|l
 ·rw [iB l,getD_both b]at v;cases v
 ·have n:e.on<j:=by simpa [jK] using f.1.2
  have t:=Sj p g b e.on (by simpa using l) aA0;rw [getD_both t]at v;cases v
theorem TM{Z:Act->ν->Prop}{oi:ψ}{v:θ}(Si:ν->Prop)(D:List Nat)(hD:Pf md ops i D=ζ)(R:∀j w w',S j w w'->dD D Si j w w')(O:ops[i]? =δ oi)(s:∀(j:Nat) o cs b,ops[j]? =δ o->o.op≠.select cs b)
  (hQ:∀c a w,Q (.panic c) (a.put oi.dst v) w->Q (.panic c) a w) (Y:i<k)
  (l:∀listed:Array Bool,HeadInv md ops k listed->listed.getD i ζ=η->∀t,k<=t->t∉Β md ops listed):
  ∀f listed a w,HeadInv md ops k listed->
   (∀j z,ops[j]? =δ z->j≠i->listed.getD j ζ=η->(∀e∈z.after,Region.binds md e=ζ->e.on≠i)->oi.apart ops z=ζ)->
   i∈Β md ops listed->YieldsIf P ops Si oi v a->Si w->(∀j w,S j w w)->
   zE P md ops Q S k Z f (listed.setIfInBounds i ζ) (a.put oi.dst v) w->zE P md ops Q S k Z (f+1) listed a w:=by
 intro f;induction f with
 |zero=>
  intro listed a w n g u G I r H;have p:=(mem_ready.1 u).1;refine⟨λT=>(by rw [T]at u;cases u),λj y=> ?_⟩
  have q:j<k:=by
   rcases uB j k with h|h
   ·exact h
   ·exact absurd y (l listed n p j h)
  by_cases d:j=i
  ·subst d;exact⟨q,G.wpOp O I ⟨r _ _,H⟩⟩
  ·have U:=seqB_ready H.1 j (ready_mono y d);omega
 |succ f W=>
  intro listed a w n g u G I r H;have p:=(mem_ready.1 u).1;refine⟨λT=>(by rw [T]at u;cases u),λj y=> ?_⟩
  have q:j<k:=by
   rcases uB j k with h|h
   ·exact h
   ·exact absurd y (l listed n p j h)
  by_cases d:j=i
  ·subst d;exact⟨q,G.wpOp O I ⟨r _ _,H⟩⟩
  ·have U:=(H.2 j (ready_mono y d)).2;have N:=Pe hD n p y;obtain⟨x,z,A,F⟩:=mem_ready.1 y;have C:∀e∈z.after,Region.binds md e=ζ->e.on≠i:=λe he hb heq=>by have K:=F e he hb;rw [heq,getD_both p]at K;cases K
   have K:=wpOp_putIf A (g j z A d x C) (λcs b=>s i oi cs b O) (λcs b=>s j z cs b A) hQ G U;refine⟨q,wpOp_mono (λa' w' J=>⟨J.2.1,W _ a' w' (n.set y q) (λm V X M B L=>g m V X M ?_ L) (ready_mono u (Ne.symm d)) J.1 (R j _ w' J.2.1 (by simpa using N) I) r ?_⟩) K⟩
   ·by_cases E:j=m
    ·subst E;exact x
    ·rw [getD_set_ne ζ E]at B;exact B
   ·rw [Array.setIfInBounds_comm _ _ d];exact J.2.2
def Fx(ops:Array ψ)(k:Nat):Bool:=Region.noSelect ops&&decide (k<=ops.size)&&(decide (k=ops.size)||(Region.sinkB .any ops k&&Region.chainB .any ops k))
theorem sJ(h:Fx ops k=ζ)(c:i<k):∀listed:Array Bool,HeadInv .any ops k listed->listed.getD i ζ=η->∀t,k<=t->t∉Β .any ops listed:=by
 intro listed a b t g f;simp only [Fx,hO,Ge,bD]at h;have e:t<ops.size:=by obtain⟨_,o,j,_⟩:=mem_ready.1 f;exact(bW.1 j).1
 rcases h.2 with d|d
 ·omega
 ·exact tail_waits d.1 d.2 aA0 a _ i rfl c b t g f
end
section
variable {P:ω}{kn:Nat}{kD:List Deferred}{ops:Array ψ}{Q:Exit->Act->ν->Prop}{S:Nat->ν->ν->Prop}{Si:ν->Prop}{F:Nat->θ}{w:ν}
def HO(Q:Exit->Act->ν->Prop):Prop:=∀c a w,¬Q (.panic c) a w
def R(P:ω)(n:Md)(ops:Array ψ)(Q:Exit->Act->ν->Prop)(S:Nat->ν->ν->Prop)(k f:Nat)(listed:List Bool)(F:Nat->θ)(w:ν):Prop:=
 HeadInv .any ops k listed.toArray->(∀j w,S j w w)->HO Q->zE P .any ops Q S k (λa w=>wpList P ops Q (ops.toList.drop k) a w) f listed.toArray (fr n F) w
def RK(P:ω)(n:Md)(ops:Array ψ)(Q:Exit->Act->ν->Prop)(S:Nat->ν->ν->Prop)(k f:Nat)(listed:List Bool)(i:Nat)(w:ν):Exit->Act->ν->Prop:=
 Exit.then (λa' w'=>∃a,a'=fr n a/\S i w w'/\R P n ops Q S k f listed a w') Q
variable {h:ν}{g:List Nat}{L:List cB}
theorem Hp.QM{w:ν}(l:Hp h g L w):Hp h g L {w with drawn:=w.drawn+1}:=
 ⟨l.os,l.tape,l.output,l.size,l.below,l.res,l.sep⟩
variable {k:Nat}
theorem RA{l:List ψ}(x:Nat)(S:Nat->ν->ν->Prop)(listed:List Bool)(b:∀j w,S j w w)(m:P.follows .mixedOrders=ζ)(f:Fx l.toArray x=ζ)
  (p:Hp h g L w) (d:fH (γ l) η=listed) (o:HO Q) (s:∀w',Hp h g L w'->R P ⟨kn,kD,ε⟩ l.toArray Q S x x listed F w'):C P ⟨kn,kD,ε⟩ Q (.region k l.toArray ζ) F w:=by
 unfold C CC;have n:x<=l.toArray.size:=by simp only [Fx,hO,bD]at f;exact f.1.2
 have c:HeadInv .any l.toArray x (HU l.toArray.size η):=
  ⟨aA2,λj r _ d=>(by rw [getD_replicate_false]at d;cases d),λt _ i=>getD_in (by simpa using i) (getD_replicate_false _ _)⟩
 have e:listed.toArray=HU l.toArray.size η:=by subst d;simp
 refine wp_region_any m ?_;have q:=s _ p.QM (by rw [e];exact c) b o;have u:=Yh n (λa w s=>s) x _ _ _ q;rw [e,show x+(l.toArray.size-x)=l.toArray.size by omega]at u;exact u
theorem IB{fn:Func}{d:θ->ν->Prop}:HO (bodyPost P fn λe w'=>∃v,e=.returned v/\d v w'):=by intro c a w h;obtain⟨_,v,b,_⟩:=h;cases b
theorem alt{y:Code}(h:HO Q):HO (Fy P ⟨kn,kD,ε⟩ y Q):=by unfold Fy;exact h
theorem yW(h:HO Q):HO (Exit.inBlock k Q):=h
theorem nX(h:HO Q):HO (Exit.noGoto Q):=h
variable {K:Act->ν->Prop}
theorem xZ(h:HO Q):HO (Exit.then K Q):=h
variable {o:ψ}{v:θ}
theorem iE(c:o.guard=ε)(a:∀w,Si w->(ξ (aZ ⟨kn,kD,ε⟩ F) o).run P w=.ok (.value v) w):YieldsIf P ops Si o v (fr ⟨kn,kD,ε⟩ F):=
 .inl ⟨by simp [Region.wanted,c],λw b=>by rw [IA];exact a w b⟩
variable {c:Option Nat}{j:Op}{d:φ}{e:String}{b:Array Edge}{f:Bool}
theorem sA(dg:Nat)
  (h:(ops[k]?).bind (·.dst)=δ dg) (g:gA dg kn=ζ) (l:F dg=.bool f)
  (a:∀w,Si w->(ξ (aZ ⟨kn,kD,ε⟩ F) (⟨c,j,d,e,b,ε⟩)).run P w=.ok (.value v) w):YieldsIf P ops Si ⟨c,j,d,e,b,δ (k,f)⟩ v (fr ⟨kn,kD,ε⟩ F):=by
 refine .inl ⟨?_,λw m=> ?_⟩
 ·unfold Region.wanted;simp only [ayn (n:=⟨kn,kD,ε⟩) ops k dg h g,l];simp
 ·rw [IA];exact a w m
theorem y_gno(dg:Nat)
  (a:(ops[k]?).bind (·.dst)=δ dg) (g:gA dg kn=ζ) (l:F dg=.bool (!f)):YieldsIf P ops Si ⟨c,j,d,e,b,δ (k,f)⟩ undef (fr ⟨kn,kD,ε⟩ F):=by
 refine .inr ⟨?_,rfl⟩;unfold Region.wanted;simp only [ayn (n:=⟨kn,kD,ε⟩) ops k dg a g,l];cases f<;>rfl
theorem y_gun(dg:Nat)
  (a:(ops[k]?).bind (·.dst)=δ dg) (g:gA dg kn=ζ) (l:F dg=undef):YieldsIf P ops Si ⟨c,j,d,e,b,δ (k,f)⟩ undef (fr ⟨kn,kD,ε⟩ F):=by
 refine .inr ⟨?_,rfl⟩;unfold Region.wanted;simp only [ayn (n:=⟨kn,kD,ε⟩) ops k dg a g,l];simp [undef]
theorem pU(listed:List Bool)(i:Nat):listed.toArray.setIfInBounds i ζ=(listed.set i ζ).toArray:=aA2
variable {i:Nat}{a:List Bool}
theorem rA(b:List Bool)(G d:Nat)(v:θ)(D:List Nat)(t:∀j w w',S j w w'->dD D Si j w w')(o:ψ)(u:ops[G]? =δ o)(B:o.dst=δ d)(r:Fx ops k=ζ)(E:Pf .any ops G D=ζ)(m:Region.free .any ops a.toArray G=ζ)
  (z:(Β .any ops a.toArray).contains G=ζ) (s:gA G k=ζ) (A:a.set G ζ=b) (y:YieldsIf P ops Si o v (fr ⟨kn,kD,ε⟩ F)) (C:Si w)
  (h:R P ⟨kn,kD,ε⟩ ops Q S k i b (dV F d v) w):R P ⟨kn,kD,ε⟩ ops Q S k (i+1) a F w:=by
 intro n e x;have g:G<k:=by simpa [jK] using s
 have q:G∈Β .any ops a.toArray:=by simpa using z
 have p:Region.noSelect ops=ζ:=by simp only [Fx,hO]at r;exact r.1.1
 refine TM Si D E t u (Region.noSelect_spec p) (λc f w h=>absurd h (x c _ w)) g (sJ r g) i _ _ _ n (Region.free_spec u m) q y C e ?_;have l:=n.set q g;rw [pU,A]at l⊢;have:=h l e x;rw [<-lL,<-B]at this;exact this
theorem E2(f:List Bool)(p d:Nat)(v:θ)(o:ψ)(l:ops[p]? =δ o)(n:o.dst=δ d)(g:Fx ops k=ζ)(b:Region.free .any ops a.toArray p=ζ)
  (j:(Β .any ops a.toArray).contains p=ζ) (c:gA p k=ζ) (m:a.set p ζ=f) (e:YieldsIf P ops (λ_=>True) o v (fr ⟨kn,kD,ε⟩ F))
  (h:R P ⟨kn,kD,ε⟩ ops Q S k i f (dV F d v) w):R P ⟨kn,kD,ε⟩ ops Q S k (i+1) a F w:=
 rA (Si:=λ_=>True) f p d v [] (λ_ _ _ _ _ _=>trivial) o l n g rfl b j c m e trivial h
theorem Mn{a:Act}(c:ops[k]? =δ o)(h:wpList P ops (Exit.then K Q) [o] a w):wpOp P ops Q k K a w:=by
 unfold wpOp;simp only [c];unfold wpList at h;split
 ·rename_i b;rw [aB b]at h;rcases h with h|h
  ·refine .inl ?_;generalize(ξ a.eval o).run P w=r at*
   cases r with
   |ok x w'=>cases x<;>exact h
   |halt x w'=>cases x<;>exact h
  ·exact .inr h
 ·rename_i b;rw [aA b]at h;exact h
theorem vz(b:List Bool)(t:Nat)(o:ψ)(m:ops[t]? =δ o)(n:a.set t ζ=b)(g:HeadInv .any ops k a.toArray)(d:∀j w,S j w w)(r:HO Q)
  (l:t∈Β .any ops a.toArray) (e:t<k) (h:W P ⟨kn,kD,ε⟩ ops (RK P ⟨kn,kD,ε⟩ ops Q S k i b t w) [o] F w):
  t<k/\wpOp P ops Q t (λa' w'=>S t w w'/\zE P .any ops Q S k (λf w=>wpList P ops Q (ops.toList.drop k) f w) i (a.toArray.setIfInBounds t ζ) a' w') (fr ⟨kn,kD,ε⟩ F) w:=by
 refine⟨e, ?_⟩;have c:=g.set l e;rw [pU,n]at c⊢;unfold W WR RK at h;refine wpOp_mono ?_ (Mn m h);rintro a' w' ⟨s,rfl,p,q⟩;exact⟨p,q c d r⟩
theorem E3(f:List Bool)(p:Nat)(o:ψ)(l:ops[p]? =δ o)(d:Β .any ops a.toArray=[p])(e:gA p k=ζ)(m:a.set p ζ=f)
  (h:W P ⟨kn,kD,ε⟩ ops (RK P ⟨kn,kD,ε⟩ ops Q S k i f p w) [o] F w):R P ⟨kn,kD,ε⟩ ops Q S k (i+1) a F w:=by
 intro c b n;refine⟨by rw [d];simp,λj g=> ?_⟩;rw [d]at g;obtain rfl:j=p:=aD9;exact vz f j o l m c b n aD1 (by simpa [jK] using e) h
theorem lH{m:Nat}(f:S m h w)(l:R P ⟨kn,kD,ε⟩ ops Q S k i a F w):RK P ⟨kn,kD,ε⟩ ops Q S k i a m h .normal (fr ⟨kn,kD,ε⟩ F) w:=⟨F,rfl,f,l⟩
theorem HH(l:Region.seqB .any ops (ops.size-k) k a.toArray=ζ)(h:W P ⟨kn,kD,ε⟩ ops Q (ops.toList.drop k) F w):R P ⟨kn,kD,ε⟩ ops Q S k 0 a F w:=by intro _ _ _;unfold W WR at h;exact⟨l,h⟩
end
attribute [irreducible] R RK
open Go.Value renaming ownBlock → Dd
open List renaming drop → cG, take → jV
open Nat renaming blt → gA
open UInt8 renaming ofNat → uF
open _root_.Array renaming replicate → HU
def ea(a:Option χ)(j:Nat):χ:=match a with
 |some p=>p.add j
 |none=>⟨0,j,ε⟩
theorem add_add(p:χ)(j k:Nat):(p.add j).add k=p.add (j+k):=by
 unfold Addr.add;by_cases b:j=0
 ·subst b;simp
 ·by_cases a:k=0
  ·subst a;simp
  ·simp [b,a,De]
theorem KS(a:Option χ)(j k:Nat):(ea a j).add k=ea a (j+k):=by
 cases a with
 |none=>exact LY 0 j k
 |some p=>exact add_add p j k
def Rd(w:ν)(a:Option χ)(b:List θ):Prop:=∀j v,b[j]? =δ v->∃p,a=δ p/\w.cell? (p.add j)=δ v
variable {w:ν}{p:χ}{v:θ}
theorem By(h:w.cell? p=δ v):p.block<w.heap.size:=by
 unfold World.cell? at h;cases a:w.heap[p.block]? with
 |none=>simp [a]at h
 |some o=>exact(bW.1 a).1
theorem bbw(p:χ)(j:Nat):(p.add j).block=p.block:=by unfold Addr.add;split<;>rfl
variable {b:ν}
theorem Wb(h:b.heap[p.block]? =w.heap[p.block]?):b.cell? p=w.cell? p:=by simp only [World.cell?,h]
variable {a:Option χ}{c:List θ}
theorem Rd.mono(h:Rd w a c)(f:∀g,g<w.heap.size->b.heap[g]? =w.heap[g]?):Rd b a c:=by intro j v e;obtain⟨p,hp,d⟩:=h j v e;refine⟨p,hp, ?_⟩;rw [Wb (f _ (By d))];exact d
variable {L:List cB}
theorem Rd.hp(h:Rd w a c)(e:Hp w [] L b):Rd b a c:=h.mono λf d=>e.below f d aA2
variable {S:List Nat}
theorem Rd.hpS(h:Rd w a c)(i:Hp w S L b)(k:∀p,a=δ p->p.block∉S):Rd b a c:=by
 intro j v f;obtain⟨p,hp,e⟩:=h j v f;refine⟨p,hp, ?_⟩;have d:=By e;rw [bbw]at d;have g:b.heap[(p.add j).block]? =w.heap[(p.add j).block]? :=by rw [bbw];exact i.below _ d (k p hp)
 rw [Wb g];exact e
theorem Rd.nil(w:ν)(a:Option χ):Rd w a []:=λj v h=>by simp at h
theorem Rd.some_(h:Rd w a c)(b:0<γ c):a≠ε:=by obtain⟨p,hp,_⟩:=h 0 c[0] aA2;rw [hp];simp
theorem Rd.take{w:ν}{a:Option χ}{c:List θ}(h:Rd w a c)(k:Nat):Rd w a (c.take k):=by
 intro j v b;rw [bO]at b;split at b
 ·exact h j v b
 ·cases b
theorem Rd.drop{w:ν}{p:χ}{a:List θ}(h:Rd w (δ p) a)(k:Nat):Rd w (δ (p.add k)) (a.drop k):=by intro j v b;rw [bZ]at b;obtain⟨q,c,d⟩:=h _ v b;simp at c;subst c;exact⟨_,rfl,by rw [add_add];exact d⟩
variable {m e:Nat}{l:List UInt8}
theorem Hp.kJ(h:Hp w S L b)(k:Nat)(p:L[k]? =δ (iY (.slice a m e) m l)):Rd b a (l.map bt):=by
 obtain⟨t,_⟩:=h.res _ (aG p);obtain⟨iX,g,i,f,y,u,c,n,o,r,d,q⟩:=t;intro j v x;obtain⟨rfl,rfl⟩:=c;refine⟨_,rfl, ?_⟩;rw [LY];have s:b.heap[g]? =δ (.cells f y u):=by simpa [iY,Dd] using n
 simp only [World.cell?,s];rw [<-d,bO]at x;split at x
 ·simpa using x
 ·cases x
theorem Hp.nP(h:Hp w S L b)(k:Nat)(d:L[k]? =δ (aS m c e)):Rd b (δ ⟨m,0,ε⟩) c:=by intro j v a;refine⟨_,rfl, ?_⟩;rw [LY,bcs (h.dG k d)];simpa using a
theorem Hp.AK(h:Hp w S L b)(k:Nat)(a:L[k]? =δ (iY v m l)):γ l=m:=(h.res _ (aG a)).1.1
theorem Hp.tail{r:cB}(h:Hp w S (r::L) b):Hp w S L b:=h.sub (List.sublist_cons_self r L)
def TI(P:ω)(e sz a:Nat):Prop:=(P.info? e).map (λi=>(i.zero.map (λz=>z.cells.size),i.size,i.bytes))=δ (δ sz,sz,a)
theorem TI.parts{P:ω}{a:Nat}(h:TI P m e a):∃i z,P.info? m=δ i/\i.zero=δ z/\i.size=e/\i.bytes=a/\z.cells.size=e:=by
 unfold TI at h;cases c:P.info? m with
 |none=>simp [c]at h
 |some i=>simp [c]at h;obtain⟨⟨z,d,b⟩,g,f⟩:=h;exact⟨i,z,rfl,d,g,f,b⟩
section
variable {P:ω}{n:Md}{ops:Array ψ}{Q:Exit->Act->ν->Prop}{F:Nat->θ}{w w0:ν}{S:List Nat}{L:List cB}
variable {d:Nat}{ty:φ}{pos:String}{after:Array Edge}{rest:List ψ}
variable {x:π}{t:φ}
theorem jW(b off:Nat)(cs:List θ)(e:φ)(v:θ)(f:w.heap[b]? =δ (.cells cs.toArray e (0,0)))(c:cs[off]? =δ v)
  (hx:aZ n F x=.pointer (δ ⟨b,off,ε⟩)) (g:(isAgg t).run P w=.ok η w):(ξ (aZ n F) (⟨δ d,.load t x,ty,pos,after,ε⟩)).run P w=.ok (.value v) w:=by
 have a:=bcs (off:=off) f;rw [c]at a;simp [ξ,hx,Instr.loadAt,Instr.sureAddr,loadVar,g,a]
theorem oc(a:Option χ)(c:List θ)(j:Nat)(v:θ)(h:Rd w a c)(e:c[j]? =δ v)(hx:aZ n F x=.pointer (δ (ea a j)))
  (g:(isAgg t).run P w=.ok η w):(ξ (aZ n F) (⟨δ d,.load t x,ty,pos,after,ε⟩)).run P w=.ok (.value v) w:=by
 obtain⟨p,rfl,f⟩:=h j v e;have b:aZ n F x=.pointer (δ (p.add j)):=hx;simp [ξ,b,Instr.loadAt,Instr.sureAddr,loadVar,g,f]
theorem oh(b off m:Nat)(cs vs:List θ)(e:φ)(k:w.heap[b]? =δ (.cells cs.toArray e (0,0)))(f:(cs.drop off).take m=vs)(h:γ vs=m)
  (hx:aZ n F x=.pointer (δ ⟨b,off,ε⟩)) (l:(isAgg t).run P w=.ok ζ w) (g:(sizeOf t).run P w=.ok m w):
  (ξ (aZ n F) (⟨δ d,.load t x,ty,pos,after,ε⟩)).run P w=.ok (.value (.agg vs.toArray)) w:=by
 have i:(loadCells ⟨b,off,ε⟩ m).run P w=.ok vs.toArray w:=by
  rw [<-h];refine run_loadCells_list w _ vs λj v a=> ?_;rw [LY,bcs k];rw [<-f]at a;have c:j<m:=by have:=(aD.1 a).1;simp at this;omega
  rw [bO,aB c,bZ]at a;exact a
 simp [ξ,hx,Instr.loadAt,Instr.sureAddr,loadVar,l,g,i]
theorem oa(a:Option χ)(e vs:List θ)(j m:Nat)(l:Rd w a e)(o:(e.drop j).take m=vs)(s:γ vs=m)(A:0<m)(hx:aZ n F x=.pointer (δ (ea a j)))
  (y:(isAgg t).run P w=.ok ζ w) (r:(sizeOf t).run P w=.ok m w):
  (ξ (aZ n F) (⟨δ d,.load t x,ty,pos,after,ε⟩)).run P w=.ok (.value (.agg vs.toArray)) w:=by
 have b:∀i v,vs[i]? =δ v->e[j+i]? =δ v:=by
  intro i v c;rw [<-o]at c;have g:i<m:=by have:=(aD.1 c).1;simp at this;omega
  rw [bO,aB g,bZ]at c;exact c
 have z:vs[0]? =δ (vs[0]' aA0):=aA2;obtain⟨p,rfl,_⟩:=l _ _ (b 0 _ z);have f:aZ n F x=.pointer (δ (p.add j)):=hx;have u:(loadCells (p.add j) m).run P w=.ok vs.toArray w:=by rw [<-s];refine run_loadCells_list w _ vs λi v c=> ?_;obtain⟨q,k,h⟩:=l _ _ (b i v c);simp at k;subst k;rw [add_add];exact h
 simp [ξ,f,Instr.loadAt,Instr.sureAddr,loadVar,y,r,u]
theorem Wx(a:Option χ)(k c e:Nat)(b:P.underlying t=δ (.slice e))(hx:aZ n F x=.slice a k c):
  (ξ (aZ n F) (⟨δ d,.call ⟨.builtin .len, #[x], #[t]⟩,ty,pos,after,ε⟩)).run P w=.ok (.value (.int .i64 k)) w:=by
 simp [ξ,resolve,invoke,builtin,hx,Builtin.len_,run_underlying b,goInt]
variable {y:π}
theorem YC(a:Option χ)(k c e sz:Nat)(q:Α)(i:Int)(g:P.underlying t=δ (.slice e))(h:(sizeOf e).run P w=.ok sz w)(hx:aZ n F x=.slice a k c)(j:aZ n F y=.int q i)
  (f:0<=i/\i<k) (l:a≠ε):(ξ (aZ n F) (⟨δ d,.indexAddr t x y,ty,pos,after,ε⟩)).run P w=.ok (.value (.pointer (δ (ea a (i.toNat*sz))))) w:=by
 cases a with
 |none=>exact absurd rfl l
 |some p=>simp [ξ,hx,j,Instr.indexAt,asIntOf,run_underlying g,h,f.1,f.2,ea]
variable {m f:Nat}
theorem om(A:χ)(off:Nat)(hx:aZ n F x=.pointer (δ A))(a:(Instr.fieldAt m (.pointer (δ A)) f).run P w=.ok (.pointer (δ (A.add off))) w):
  (ξ (aZ n F) (⟨δ d,.fieldAddr m x f,ty,pos,after,ε⟩)).run P w=.ok (.value (.pointer (δ (A.add off)))) w:=by
 simp [ξ,hx,a]
theorem pK(a:Option χ)(j off:Nat)(hx:aZ n F x=.pointer (δ (ea a j)))(b:(Instr.fieldAt m (.pointer (δ (ea a j))) f).run P w=.ok (.pointer (δ ((ea a j).add off))) w):
  (ξ (aZ n F) (⟨δ d,.fieldAddr m x f,ty,pos,after,ε⟩)).run P w=.ok (.value (.pointer (δ (ea a (j+off))))) w:=by
 rw [om _ off hx b,KS]
theorem WA(a:Option χ)(j off:Nat)(hx:aZ n F x=.pointer (δ (ea a j)))(b:(Instr.fieldAt m (.pointer (δ (ea a j))) f).run P w=.ok (.pointer (δ ((ea a j).add off))) w)
  (h:W P n ops Q rest (dV F d (.pointer (δ (ea a (j+off))))) w):W P n ops Q (⟨δ d,.fieldAddr m x f,ty,pos,after,ε⟩::rest) F w:=
 gN rfl rfl (pK a j off hx b) h
variable {b:φ}
theorem Kn(D:Hp w0 S L w)(l:List UInt8)(e:φ)(A:P.underlying t=δ .string)(z:P.underlying b=δ (.slice e))(C:P.underlying e=δ (.int .u8))(hx:aZ n F x=str l)
  (h:∀a cap w',(ξ (aZ n F) (⟨δ d,.convert t b x,ty,pos,after,ε⟩)).run P w=.ok (.value (.slice a (γ l) cap)) w'->Hp w0 S (iY (.slice a (γ l) cap) (γ l) l::L) w'->W P n ops Q rest (dV F d (.slice a (γ l) cap)) w'):
  W P n ops Q (⟨δ d,.convert t b x,ty,pos,after,ε⟩::rest) F w:=by
 let cap:=Question.cut (.appendCap (γ l) 0 e) (w.tape w.drawn (.appendCap (γ l) 0 e));have g:γ l<=cap:=by show _<=_+_;omega
 let cells:Array θ:=(l.toArray.map λs=>.int .u8 s.toNat)++HU (cap-γ l) (.int .u8 0);have p:cells.size=cap:=by simp [cells];omega
 let f:ν:={w with drawn:=w.drawn+1,heap:=w.heap.push (.cells cells e (cap,cap+1))}
 have c:(ξ (aZ n F) (⟨δ d,.convert t b x,ty,pos,after,ε⟩:ψ)).run P w=.ok (.value (.slice (δ ⟨w.heap.size,0,ε⟩) (γ l) cap)) f:=by
  have G:(convert t b (str l)).run P w=(Conv.stringToBytes e ⟨l.toArray⟩).run P w:=by simp [convert,str,run_underlying A,run_underlying z,run_underlying C]
  have E:(Conv.stringToBytes e ⟨l.toArray⟩).run P w=.ok (.slice (δ ⟨w.heap.size,0,ε⟩) (γ l) cap) f:=by
   have j:(⟨l.toArray⟩:ByteArray).size=γ l:=rfl;unfold Conv.stringToBytes markStringish;simp only [Sem.run_bind,j];simp only [Sem.run_pure];show Result.andThen (Result.andThen (Result.ok (World.shape? {w with drawn:=w.drawn+1,heap:=w.heap.push _} w.heap.size) _) _) _=_;have m:World.shape? {w with drawn:=w.drawn+1,heap:=w.heap.push (.cells cells e (0,0))} w.heap.size=δ (e,cap):=by simp [World.shape?,p]
   rw [m];show Result.andThen (Result.ok () (World.freeze {w with drawn:=w.drawn+1,heap:=w.heap.push (.cells cells e _)} ⟨w.heap.size,cap,ε⟩ 1)) _=_;simp only [Result.andThen_ok,World.freeze];congr 1;refine aV (λh=>({w with drawn:=w.drawn+1,heap:=h}:ν)) ?_;apply ae
   ·simp
   ·intro i I q;have B:i<w.heap.size+1:=by simpa using q
    rw [Array.getElem_modify];by_cases v:w.heap.size=i
    ·subst v;simp
    ·have o:i<w.heap.size:=by omega
     simp [v,Array.getElem_push,o]
  simp [ξ,hx,G,E]
 refine gN rfl rfl c (h _ _ _ c ?_);have q:Hp w [] [iY (.slice (δ ⟨w.heap.size,0,ε⟩) (γ l) cap) (γ l) l] f:=by
  refine⟨rfl,rfl,rfl,by simp [f],λk H _=> ?_,λr u=> ?_,aA2⟩
  ·show(w.heap.push _)[k]? =_;rw [Array.getElem?_push,aA aA0]
  ·simp at u;subst u;refine⟨⟨rfl,w.heap.size,cap,cells,e,(cap,cap+1),rfl, ?_,g,aA0, ?_,aA0⟩,λs y=> ?_⟩
   ·simp [iY,Dd,f]
   ·simp [cells,bt]
   ·simp [iY,Dd]at y;subst y;simp [f]
 exact D.mQ q
theorem Dg(g:Hp w0 S L w)(l:List UInt8)(e:φ)(c:P.underlying t=δ .string)(s:P.underlying b=δ (.slice e))(f:P.underlying e=δ (.int .u8))(hx:aZ n F x=str l)
  (h:∀a cap w',Hp w0 S (iY (.slice a (γ l) cap) (γ l) l::L) w'->W P n ops Q rest (dV F d (.slice a (γ l) cap)) w'):
  W P n ops Q (⟨δ d,.convert t b x,ty,pos,after,ε⟩::rest) F w:=Kn g l e c s f hx λa cap w' _=>h a cap w'
theorem pH(l:List UInt8)(a:Option χ)(m cap:Nat)(e:φ)(h:Rd w a (l.map bt))(y:γ l=m)(o:P.underlying t=δ (.slice e))(k:P.underlying b=δ .string)(B:P.underlying e=δ (.int .u8))(hx:aZ n F x=.slice a m cap):
  (ξ (aZ n F) (⟨δ d,.convert t b x,ty,pos,after,ε⟩)).run P w=.ok (.value (str l)) w:=by
 subst y;have D:(convert t b (.slice a (γ l) cap)).run P w=(Conv.bytesToString (.slice a (γ l) cap)).run P w:=by simp [convert,run_underlying o,run_underlying k,run_underlying B]
 have C:(Conv.bytesToString (.slice a (γ l) cap)).run P w=.ok (str l) w:=by
  cases a with
  |none=>
   have:l=[]:=by
    cases l with
    |nil=>rfl
    |cons c l=>obtain⟨p,u,_⟩:=h 0 (bt c) aA2;cases u
   subst this;rfl
  |some p=>
   have s:(loadCells p (γ l)).run P w=.ok ((l.map λc=>c.toNat).map (υ .u8)).toArray w:=by have:=run_loadCells_list (P:=P) w p _ (λj v z=>by obtain⟨q,g,f⟩:=h j v z;simp at g;subst g;exact f);simp at this;rw [this];simp [bt]
   have:=run_bytesToString w p (γ l) cap _ s
   rw [this];unfold str;have A:∀(l:List UInt8) (r:ByteArray),(l.map λc=>(c.toNat:Int)).foldl (λr n=>r.push (uF n.toNat)) r=⟨r.data++l.toArray⟩:=by
    intro l;induction l with
    |nil=>intro r;simp
    |cons c l i=>intro r;simp;rw [i];simp
   rw [A];simp
 simp [ξ,hx,D,C]
variable {a:Option χ}{v:List θ}
theorem Hp.grown{w':ν}{a':Option χ}{cap cap' e sz:Nat}{l:List θ}(C:Hp w0 S L w)(A:L[m]? =δ (row (.slice a f cap) e sz f v)){d:Nat}
  (h:w.grownBy w' (μ a f cap).ownBlock) (u:w'.ownsRow 0 e sz (.slice a' d cap') d l) (y:∀p,a'=δ p->(∃q,a=δ q/\q.block=p.block)\/w.heap.size<=p.block):
  Hp w0 S (L.set m (row (.slice a' d cap') e sz d l)) w':=by
 have k:(row (.slice a' d cap') e sz d l).holds w':=by
  obtain⟨z,n⟩:=u;refine⟨z, ?_⟩;rcases n with n|⟨g,c,s,t,_,i,F,r,E,D⟩
  ·exact .inl n
  ·refine .inr ⟨g,c,s,t, ?_,F,r,E,D⟩;obtain⟨rfl,-,rfl⟩:=t;exact i
 refine C.change m _ _ A h.os h.tape h.output h.size (λj B o=>h.block j B (λe=>o aE7)) k ?_;intro b i;cases a' with
 |none=>simp [row,Dd]at i
 |some p=>
  simp [row,Dd]at i;subst i;refine⟨?_,(u.lt p.block rfl).2⟩;rcases y p rfl with⟨q,rfl,x⟩|r
  ·left;simp [row,Dd,x]
  ·exact .inr r
theorem Hp.ownsRow{a:Option χ}{k m cap e sz:Nat}{f:List θ}(n:Hp w0 S L w)(j:L[k]? =δ (row (.slice a m cap) e sz m f)):w.ownsRow 0 e sz (.slice a m cap) m f:=by
 obtain⟨⟨i,b⟩,_⟩:=n.res _ (aG j);refine⟨i, ?_⟩;rcases b with b|⟨g,c,d,h,l,r,q,p,o⟩
 ·exact .inl b
 ·refine .inr ⟨g,c,d,h,cO _, ?_,r,q,p,o⟩;obtain⟨rfl,-,rfl⟩:=h;exact l
theorem NN{x:Option χ}{k cx e sz D:Nat}{b:List θ}(t:φ)(E:P.underlying t=δ (.slice e))(hT:TI P e sz D)(G:0<sz)(d:w.ownsRow 0 e sz (.slice a m f) m v)
  (L:Rd w x b) (A:γ b=k*sz) (h1:∀u∈b,u.oneCell'=ζ) (J:m+k<=maxLen) (B:(m+k)*D<=140737488355328):
  ∃a' cap' w',(Builtin.append_ #[t,t] ty #[.slice a m f,.slice x k cx]).run P w=.ok (.slice a' (m+k) cap') w'/\w'.ownsRow 0 e sz (.slice a' (m+k) cap') (m+k) (v++b)/\
   w.grownBy w' (μ a m f).ownBlock/\∀p,a'=δ p->(∃q,a=δ q/\q.block=p.block)\/w.heap.size<=p.block:=by
 obtain⟨i,z,F,N,V,Z,M⟩:=hT.parts;have U:∀{x},x=ε->Rd w x b->k=0/\b=[]:=by
  rintro _ rfl L
  have:b=[]:=by
   cases b with
   |nil=>rfl
   |cons u us=>obtain⟨p,n,_⟩:=L 0 u aA2;cases n
  subst this;refine⟨?_,rfl⟩;rcases Nat.eq_zero_or_pos k with h|h
  ·exact h
  ·have:=Ww h G;simp at A;omega
 by_cases Y:k=0
 ·
  subst Y;have Q:=vJ (by simpa using A);subst Q;refine⟨a,f,w, ?_,aC9,⟨rfl,rfl,rfl,eK _,λ_ _ _=>rfl⟩,λp n=>.inl ⟨p,n,rfl⟩⟩
  have a5:m+0<=f:=by
   rcases d.2 with⟨s,H⟩|⟨g,c,C,s,_,_,T,_⟩
   ·subst H;omega
   ·simp at s;omega
  have l:(Builtin.firstCells i.size 0 (.slice x 0 cx)).run P w=.ok #[] w:=by
   cases x with
   |none=>simp [Builtin.firstCells]
   |some p=>simp [Builtin.firstCells,loadCells,loadCellsFrom]
  have a3:∀q:χ,(storeCells q []).run P w=.ok () w:=λq=>rfl;cases a with
  |none=>simp [Builtin.append_,run_underlying E,sizeOf,typeInfo,F,Builtin.lenOf,l];omega
  |some p=>have:m<=f:=aA0;simp [Builtin.append_,run_underlying E,sizeOf,typeInfo,F,Builtin.lenOf,this,l,storeCells]
 ·cases x with
  |none=>exact absurd (U rfl L).1 Y
  |some p=>
   have a0:∀j u,b[j]? =δ u->w.cell? (p.add j)=δ u:=by intro j u hu;obtain⟨q,W,T⟩:=L j u hu;simp at W;subst W;exact T
   obtain⟨v',w',r,ho,hg,X⟩:=run_append_own w 0 t ty e i z sz D E F N V Z M G _ m v d p k cx b A a0 h1 J B (cO _);have O:∃a' cap',v'=.slice a' (m+k) cap'/\∀p,a'=δ p->(∃q,a=δ q/\q.block=p.block)\/w.heap.size<=p.block:=by
    subst V;subst Z;have K:((m+k):Int)<=9223372036854775807:=by simp only [maxLen]at J;omega
    rcases d.2 with⟨s,H⟩|⟨g,c,C,s,_,R,T,_,S,_⟩
    ·simp at s;obtain⟨rfl,rfl,rfl⟩:=s;have:=run_append_nil (P:=P) w t ty e i z E F N p k cx b A a0 aA0 (by simpa using K) (by simp at B;omega);rw [this]at r;simp at r;refine⟨_,_,by rw [<-r.1,Ta],λp n=>.inr ?_⟩;simp at n;subst n;simp
    ·simp at s;obtain⟨rfl,-,rfl⟩:=s;by_cases o:m+k<=f
     ·have I:m*i.size+γ b<=C.size:=by rw [A,S,<-fN];exact BH _ o
      have:=run_append_room w t ty e i E F g m f C R p k cx b A a0 h1 o I;rw [this]at r;simp at r;refine⟨_,_,r.1.symm,λp n=>.inl ?_⟩;simp at n;subst n;exact⟨_,rfl,rfl⟩
     ·have y:=d.cells rfl;have:=run_append_grow w t ty e i z E F N _ m f v d.1 y p k cx b A a0 aA0 K (growslice_fits aA0 B);rw [this]at r;simp at r;refine⟨_,_,r.1.symm,λp n=>.inr ?_⟩;simp at n;subst n;simp
   obtain⟨a',cap',rfl,Q⟩:=O;exact⟨a',cap',w',r,ho,hg,Q⟩
theorem BQ(l:Hp w0 S L w)(k:Nat)(a o:Option χ)(m cap c cx e sz f:Nat)(i b:List θ)(j:L[k]? =δ (row (.slice a m cap) e sz m i))(q:P.underlying t=δ (.slice e))(C:TI P e sz f)(g:0<sz)
  (hx:aZ n F x=.slice a m cap) (p:aZ n F y=.slice o c cx) (D:Rd w o b) (z:γ b=c*sz) (G:∀u∈b,u.oneCell'=ζ) (B:(m+c)*f<=140737488355328) (E:m+c<=9223372036854775807)
  (h:∀a' cap' w',Hp w0 S (L.set k (row (.slice a' (m+c) cap') e sz (m+c) (i++b))) w'->W P n ops Q rest (dV F d (.slice a' (m+c) cap')) w'):
  W P n ops Q (⟨δ d,.call ⟨.builtin .append, #[x,y], #[t,t]⟩,ty,pos,after,ε⟩::rest) F w:=by
 obtain⟨a',cap',w',r,s,A,v⟩:=NN (P:=P) (ty:=ty) (cx:=cx) t q C g (l.ownsRow j) D z G aE6 B;refine gN (w':=w') rfl rfl ?_ (h a' cap' w' (l.grown j A s v));simp [ξ,resolve,invoke,builtin,hx,p,r]
theorem aq(N:Hp w0 S L w)(e sz m:Nat)(kl v:Α)(c:Int)(G:P.underlying t=δ (.slice e))(M:TI P e sz m)(hx:aZ n F x=.int kl 0)(E:aZ n F y=.int v c)
  (V:0<=c) (l:m*c<=281474976710656) (O:c<=9223372036854775807)
  (h:∀a cap w',Hp w0 S (row (.slice a 0 cap) e sz 0 []::L) w'->W P n ops Q rest (dV F d (.slice a 0 cap)) w'):
  W P n ops Q (⟨δ d,.makeSlice t x y,ty,pos,after,ε⟩::rest) F w:=by
 obtain⟨i,z,K,D,H,p,C⟩:=M.parts;obtain⟨cn,rfl⟩:=Int.eq_ofNat_of_zero_le V;have q:i.bytes*cn<=281474976710656:=by rw [p];omega
 obtain⟨w',f,B,j⟩:=run_make_own w 0 t e i z sz G K D H kl v cn q (by simp only [maxLen];omega) (cO _);refine gN (w':=w') rfl rfl ?_ (h (δ ⟨w.heap.size,0,ε⟩) cn w' ?_)
 ·simp [ξ,hx,E,f]
 ·have s:Hp w [] [row (.slice (δ ⟨w.heap.size,0,ε⟩) 0 cn) e sz 0 []] w':=by
   refine⟨j.os,j.tape,j.output,j.size,λk J _=>j.block k J aA2,λr f=> ?_,aA2⟩;simp at f;subst f;have o:=B.lt w.heap.size rfl;refine⟨?_,λb l=> ?_⟩
   ·obtain⟨I,f⟩:=B;refine⟨I, ?_⟩;rcases f with f|⟨g,c,u,A,_,l,U,s,T,R⟩
    ·exact .inl f
    ·refine .inr ⟨g,c,u,A, ?_,U,s,T,R⟩;obtain⟨⟨rfl,-⟩,-,rfl⟩:=A;exact l
   ·simp [row,Dd]at l;subst l;exact⟨o.2,.inl (eK _)⟩
  exact N.mQ s
theorem Hp.ZZ{k e sz j:Nat}{vs:List θ}(B:Hp w0 S L w)(A:L[k]? =δ (row (.slice a m f) e sz m v))(O:j+γ vs<=γ v)(M:∀R∈vs,R.oneCell'=ζ)(N:vs≠[]):
  ∃w',(storeCells (ea a j) vs).run P w=.ok () w'/\Hp w0 S (L.set k (row (.slice a m f) e sz m (xX v j vs))) w':=by
 have z:=bK.2 N;obtain⟨h,E⟩:=B.ownsRow A;rcases E with⟨q,F⟩|⟨g,c,d,q,_,y,o,x,n,r⟩
 ·exfalso;subst F;rw [Nat.zero_mul]at h;omega
 ·simp at q;obtain⟨rfl,-,rfl⟩:=q;have D:γ v<=d.size:=by rw [h,n];exact BH _ o
  have s:=run_storeCells_at P g j e vs 0 d w y aA0 M;have u:ea (δ ⟨g,0,ε⟩) j=⟨g,j,ε⟩:=by show(⟨g,0,ε⟩:χ).add j=_;rw [LY,Ta]
  rw [u];refine⟨_,s,B.change k _ _ A rfl rfl rfl aA2 (λi Q t=>setRow_other w g i _ (λe=>t (by simp [row,Dd,e]))) ?_ ?_⟩
  ·refine⟨by rw [<-h];unfold xX;simp;omega,.inr ⟨g,f,(jV (j+0) d.toList++vs++cG (j+0+γ vs) d.toList).toArray,rfl, ?_,o,x, ?_, ?_⟩⟩
   ·show(w.setRow g _).heap[g]? =_;rw [setRow_heap w g d _ e _ y]
   ·rw [<-n];simp;omega
   ·rw [<-h];have C:v=d.toList.take (γ v):=by rw [h];exact r.symm
    unfold xX;rw [yL,yL];simp;have K:min j d.size=j:=aA0;rw [K];rw [uC,jL (l:=vs) aA0];have J:min (γ v) j=j:=aA0;rw [J,List.take_drop];have I:j+γ vs+(γ v-(j+γ vs))=γ v:=aA0;rw [I];have H:jV j v=jV j d.toList:=by rw [C];rw [uC,kB aA0]
    rw [H];have G:cG (j+γ vs) v=cG (j+γ vs) (jV (γ v) d.toList):=by rw [<-C]
    rw [G]
  ·intro b p;simp [row,Dd]at p;subst p;refine⟨.inl (by simp [row,Dd]), ?_⟩;have:=(bW.1 y).1;simpa using this
theorem YT(J:Hp w0 S L w)(k:Nat)(a:Option χ)(m cap j:Nat)(l:List UInt8)(c:UInt8)(I:L[k]? =δ (iY (.slice a m cap) m l))(R:j<m)
  (hx:aZ n F x=.pointer (δ (ea a j))) (M:aZ n F y=bt c) (N:(sizeOf t).run P w=.ok 1 w)
  (h:∀w',Hp w0 S (L.set k (iY (.slice a m cap) m (l.set j c))) w'->W P n ops Q rest F w'):W P n ops Q (⟨ε,.store t x y,ty,pos,after,ε⟩::rest) F w:=by
 obtain⟨⟨iX,g,K,d,e,u,G,O,E,D,v,B⟩,H⟩:=J.res _ (aG I);simp at G;obtain⟨rfl,-,rfl⟩:=G;have s:w.heap[g]? =δ (.cells d e u):=by simpa [iY,Dd] using O
 have C:ea (δ ⟨g,0,ε⟩) j=⟨g,j,ε⟩:=by show(⟨g,0,ε⟩:χ).add j=_;rw [LY,Ta]
 rw [C]at hx;have p:w.cell? ⟨g,j,ε⟩=δ (d[j]' aA0):=by simp only [World.cell?,s];have:j<d.size:=aA0;simp
 have o:w.frozen? ⟨g,j,ε⟩=η:=by simp only [World.frozen?,s];have:¬u.1<=j:=aA0;simp [this]
 have z:(storeCells ⟨g,j,ε⟩ [bt c]).run P w=.ok () (w.setCell ⟨g,j,ε⟩ (bt c)):=by simp only [storeCells,Sem.run_bind,LY,BG,store];simp only [Sem.run,bt,p,o];rfl
 have q:(w.setCell ⟨g,j,ε⟩ (bt c)).heap[g]? =δ (.cells (d.setIfInBounds j (bt c)) e u):=by simp [World.setCell,gG,s]
 refine pM (w':=w.setCell ⟨g,j,ε⟩ (bt c)) rfl rfl ?_ (h _ ?_)
 ·simp [ξ,hx,M,Instr.storeAt,Instr.sureAddr,storeVar,N,bt,Value.cells];have f:=z;simp only [bt]at f;rw [f];rfl
 ·refine J.change k _ _ I rfl rfl rfl aA2 (λi T A=>RowKit.Below.heap_setCell w _ _ i (λe=>A (by simp [iY,Dd,e]))) ?_ ?_
  ·refine⟨by simpa using iX,g,cap,_,e,u,rfl,q,E,by simpa using D, ?_,aE8⟩;rw [List.map_set,<-v,<-List.take_set];simp
  ·intro b r;simp [iY,Dd]at r;subst r;refine⟨.inl (by simp [iY,Dd]), ?_⟩;have:=(bW.1 s).1;simpa [World.setCell] using this
end
theorem Lp{a:Type}{P:ω}{w:ν}(f:a->Sem θ):∀(l:List a) vs,γ l=γ vs->(∀(i:Nat) x v,l[i]? =δ x->vs[i]? =δ v->(f x).run P w=.ok v w)->(l.mapM f).run P w=.ok vs w
 |[],[],_,_=>by simp
 |[],_::_,h,_=>by simp at h
 |_::_,[],h,_=>by simp at h
 |x::l,v::vs,h,b=>by rw [List.mapM_cons];simp only [Sem.run_bind,b 0 x v rfl rfl,Result.andThen_ok];rw [Lp f l vs aA8 (λi y u c d=>b (i+1) y u aC2 aC9)];simp
def Wu(P:ω)(c:Nat)(F:Nat->θ)(w:ν):ResultVar->θ->Prop
 |.tmp t,v=>aZ ⟨c,[],ε⟩ F (.tmp t)=v
 |.cell a t,v=>∃(b e:Nat) (cs:List θ),aZ ⟨c,[],ε⟩ F (.tmp a)=.pointer (δ ⟨b,0,ε⟩)/\w.heap[b]? =δ (.cells cs.toArray e (0,0))/\
   (((isAgg t).run P w=.ok ζ w/\(sizeOf t).run P w=.ok (γ cs) w/\v=.agg cs.toArray)\/((isAgg t).run P w=.ok η w/\cs=[v]))
def jB(tmps:Array θ):ResultVar->Sem θ
 |.tmp t=>pure (tmps.getD t undef)
 |.cell a t=>do loadVar t (<-asAddr (tmps.getD a undef))
variable {P:ω}{b:Nat}{F:Nat->θ}{w:ν}{r:ResultVar}{v:θ}
theorem dc(h:Wu P b F w r v):(jB (fr ⟨b,[],ε⟩ F).tmps r).run P w=.ok v w:=by
 unfold jB;cases r with
 |tmp t=>have g:(bif gA t b then F t else undef)=v:=h;simp only [qA,g,Sem.run_pure]
 |cell a t=>
  obtain⟨d,e,cs,n,i,m⟩:=h;have g:(bif gA a b then F a else undef)=.pointer _:=n;simp only [qA,g,asAddr];rcases m with⟨f,o,rfl⟩|⟨f,rfl⟩
  ·have k:(loadCells ⟨d,0,ε⟩ (γ cs)).run P w=.ok cs.toArray w:=
    run_loadCells_list w _ cs λj u l=>by rw [LY,bcs i,Ta];exact l
   simp [loadVar,f,o,k]
  ·have c:w.cell? ⟨d,0,ε⟩=δ v:=by rw [bcs i];rfl
   simp [loadVar,f,c]
theorem sL{P:ω}{c:Nat}{F:Nat->θ}{w:ν}{fn:Func}(l:List ResultVar)(vs:List θ)(e:fn.results=l.toArray)(g:γ l=γ vs)
  (d:∀(i:Nat) x v,l[i]? =δ x->vs[i]? =δ v->Wu P c F w x v) (v:θ) (a:(match vs with|[u]=>u|b=>.tuple b.toArray)=v):
  (results fn (fr ⟨c,[],ε⟩ F).tmps).run P w=.ok v w:=by
 have f:=Lp (jB (fr ⟨c,[],ε⟩ F).tmps) l vs g (λi x v k j=>dc (d i x v k j));unfold results;rw [e];change Sem.run P (do let vs<-l.toArray.mapM (jB (fr _ F).tmps);pure (if h:vs.size=1 then vs[0]else .tuple vs)) w=_;simp;rw [f];subst a;cases vs with
 |nil=>simp
 |cons u b=>cases b with
  |nil=>simp
  |cons u' b=>simp
theorem nQ{P:ω}{ro:Option (Option Nat)}{b:Nat}{F:Nat->θ}{w:ν}{fn:Func}{R:θ->ν->Prop}(l:List ResultVar)(vs:List θ)(v:θ)(f:fn.results=l.toArray)(g:γ l=γ vs)
  (d:∀(i:Nat) (x:ResultVar) (v:θ),l[i]? =δ x->vs[i]? =δ v->Wu P b F w x v) (a:(match vs with|[u]=>u|c=>.tuple c.toArray)=v) (h:R v w):
  bodyPost P fn (λe w'=>∃v,e=.returned v/\R v w') .ret (fr ⟨b,[],ro⟩ F) w:=
 ⟨rfl,v,sL l vs f g d v a,v,rfl,h⟩
theorem Rb:∀(i:Nat) x v,[][i]? =δ x->[][i]? =δ v->Wu P b F w x v:=λi x v h=>by simp at h
theorem lD{l:List ResultVar}{vs:List θ}(c:Wu P b F w r v)
  (h:∀(i:Nat) x u,l[i]? =δ x->vs[i]? =δ u->Wu P b F w x u):∀(i:Nat) x u,(r::l)[i]? =δ x->(v::vs)[i]? =δ u->Wu P b F w x u
 |0,x,u,hx,a=>by simp at hx a;subst hx;subst a;exact c
 |i+1,x,u,hx,a=>h i x u aD7 aB9
variable {t:Nat}
theorem vG(h:aZ ⟨b,[],ε⟩ F (.tmp t)=v):Wu P b F w (.tmp t) v:=h
variable {c:ν}{S:List Nat}{L:List cB}{e:Nat}
theorem WC(g:Hp c S L w)(k a j:Nat)(cs:List θ)(d:L[k]? =δ (aS a cs j))(f:aZ ⟨b,[],ε⟩ F (.tmp t)=.pointer (δ ⟨a,0,ε⟩))
  (i:(isAgg e).run P w=.ok ζ w) (h:(sizeOf e).run P w=.ok (γ cs) w):Wu P b F w (.cell t e) (.agg cs.toArray):=⟨a,j,cs,f,g.dG k d,.inl ⟨i,h,rfl⟩⟩
theorem Xy(g:Hp c S L w)(k a i:Nat)(v:θ)(d:L[k]? =δ (aS a [v] i))(f:aZ ⟨b,[],ε⟩ F (.tmp t)=.pointer (δ ⟨a,0,ε⟩))
  (h:(isAgg e).run P w=.ok η w):Wu P b F w (.cell t e) v:=⟨a,i,[v],f,g.dG k d,.inr ⟨h,rfl⟩⟩
theorem WG{a:Option χ}(h:b=t):μ a b e=μ a t e:=by rw [h]
theorem iP{p:Prop}(h:p:=by first|rfl|(simp;done)|(simp;omega)|exact WG (by rw [yM];omega)):p:=h
def el{a:Type}[Inhabited a](l:List a)(i:Int):a:=l.getD i.toNat default
theorem oN{a:Type}(f:a->List θ)(sz:Nat)(b:∀x,γ (f x)=sz):∀(l:List a) i,(l.flatMap f).drop (i*sz)=(l.drop i).flatMap f
 |l,0=>by simp
 |[],i+1=>by simp
 |x::l,i+1=>by rw [nt,<-oN f sz b l i,dB,Jc,<-MJ];rw [<-b x];simp
variable {d:Type}
theorem Bn[Inhabited d](f:d->List θ)(sz:Nat)(c:∀x,γ (f x)=sz)(l:List d)(i:Int)(a:0<=i/\i<γ l):((l.flatMap f).drop (i.toNat*sz)).take sz=f (el l i):=by have b:i.toNat<γ l:=aA0;rw [oN f sz c,zbF b,rZ];rw [show f (el l i)=f l[i.toNat]by simp [el,b]];rw [<-c l[i.toNat]];simp
theorem Q0[Inhabited d](f:d->List θ)(sz k:Nat)(a:∀x,γ (f x)=sz)(l:List d)(i:Int)(v:θ)(e:0<=i/\i<γ l)(c:k<sz)(b:(f (el l i))[k]? =δ v):(l.flatMap f)[i.toNat*sz+k]? =δ v:=by rw [<-Bn f sz a l i e,bO,aB c,bZ]at b;exact b
theorem P9(f:d->List θ)(sz:Nat)(c:∀x,γ (f x)=sz)(l:List d):γ (l.flatMap f)=γ l*sz:=by
 induction l with
 |nil=>simp
 |cons x l b=>rw [rZ,bP,b,c,bX,dB,Jc]
def dE(L:List cB):List Nat:=L.filterMap (·.own)
theorem nZ(h:b∈dE L):∃r∈L,r.own=δ b:=by obtain⟨r,a,e⟩:=List.mem_filterMap.1 h;exact⟨r,a,e⟩
theorem Hp.dL{w':ν}{L1 L2:List cB}(h:Hp w S (L1++L2) c)(l:Hp c (dE L1) L w'):Hp w S (L++L2) w':=by
 have f:∀b,b∈dE L1->b<c.heap.size/\(w.heap.size<=b\/b∈S):=by intro b m;obtain⟨r,a,e⟩:=nZ m;exact(h.res r (aR.2 (.inl a))).2 b e
 have d:=dH.1 h.sep;have g:∀r∈L2,∀b,r.own=δ b->b∉dE L1:=by intro r a b e m;obtain⟨q,t,e'⟩:=nZ m;exact d.2.2 q t r a b e' e
 refine⟨l.os.trans h.os,l.tape.trans h.tape,l.output.trans h.output,lE h.size l.size,λk o p=> ?_,λr a=> ?_, ?_⟩
 ·rw [l.below k (Tb o h.size) (λu=> ?_)];exact h.below k o p;rcases(f k u).2 with i|i
  ·omega
  ·exact p i
 ·rcases aR.1 a with a|a
  ·refine⟨(l.res r a).1,λb e=> ?_⟩;have:=(l.res r a).2 b e;refine⟨this.1, ?_⟩;rcases this.2 with i|i
   ·exact .inl (lE h.size i)
   ·exact(f b i).2
  ·have n:=aR.2 (.inr a:r∈L1\/r∈L2);refine⟨cB.holds_of (h.res r n).1 λb e=>l.below b ((h.res r n).2 b e).1 (g r a b e),λb e=> ?_⟩;have:=(h.res r n).2 b e;exact⟨Tb this.1 l.size,this.2⟩
 ·refine dH.2 ⟨l.sep,d.2.1,λr a r' j b e e'=> ?_⟩;have i:=(l.res r a).2 b e;have v:=(h.res r' (aR.2 (.inr j))).2 b e';rcases i.2 with s|s
  ·omega
  ·exact g r' j b e' s
theorem Hp.front(h:Hp w S L c)(k:Nat)(r:cB)(a:L[k]? =δ r):Hp w S (r::L.eraseIdx k) c:=by
 refine h.perm ?_;clear h;induction L generalizing k with
 |nil=>simp at a
 |cons x L b=>
  cases k with
  |zero=>simp at a;subst a;simp
  |succ k=>exact(List.Perm.cons x (b k a)).trans (List.Perm.swap r x _)
theorem Hp.Ze{L1 L2:List cB}(h:Hp w S (L1++L2) c):Hp w S L1 c:=h.sub (List.sublist_append_left _ _)
theorem Hp.hand{L1 L2:List cB}(h:Hp w S (L1++L2) c):Hp c (dE L1) L1 c:=
 ⟨rfl,rfl,rfl,eK _,λ_ _ _=>rfl,λr a=>by have:=h.res r (aR.2 (.inl a));exact⟨this.1,λb e=>⟨(this.2 b e).1,.inr (List.mem_filterMap.2 ⟨r,a,e⟩)⟩⟩,(dH.1 h.sep).1⟩
variable {f:FuncId}{a:List θ}
theorem tL(h:Calls P f a.toArray w λe w'=>e=.returned v/\RowKit.Below w.heap.size w w'):CR P f a w λu w'=>u=v/\Hp w [] [] w':=
 Calls.mono h λ_ _ ⟨e,g⟩=>⟨v,e,rfl,Hp.Af g⟩
theorem Z9(h:Calls P f a.toArray w λe w'=>e=.returned v/\w'=w):CR P f a w λu w'=>u=v/\Hp w [] [] w':=
 Calls.mono h λ_ _ ⟨e,g⟩=>⟨v,e,rfl,g▸Hp.refl w⟩
theorem iv(k:Nat):Hp w [] [] (w.drewN k):=Hp.Af ⟨rfl,rfl,rfl,eK _,λ_ _=>rfl⟩
theorem QR(h:Calls P f a.toArray w λe w'=>e=.returned v/\∃k,w'=w.drewN k):CR P f a w λu w'=>u=v/\Hp w [] [] w':=
 Calls.mono h λ_ _ ⟨e,k,g⟩=>⟨v,e,rfl,g▸iv k⟩
def SS(b:Nat)(l:List UInt8)(pos:Nat):cB:=⟨δ b,λo=>o=δ (.stringIter ⟨l.toArray⟩ pos)⟩
theorem Hp.mf(h:Hp w S L c)(l:List UInt8)(pos:Nat):Hp w S (SS c.heap.size l pos::L) (c.alloc (.stringIter ⟨l.toArray⟩ pos)):=by
 have e:Hp c [] [SS c.heap.size l pos] (c.alloc (.stringIter ⟨l.toArray⟩ pos)):=by
  refine⟨rfl,rfl,rfl,aA2,λk d _=>RowKit.Below.heap_alloc c _ k d,λr a=> ?_,aA2⟩;simp at a;subst a;refine⟨?_,λb g=> ?_⟩
  ·show(c.heap.push _)[c.heap.size]? =_;simp
  ·simp [SS]at g;subst g;simp
 exact h.mQ e
theorem Hp.setIt(h:Hp w S L c)(k b:Nat)(l:List UInt8)(pos a:Nat)(f:L[k]? =δ (SS b l pos)):
  Hp w S (L.set k (SS b l a)) {c with heap:=c.heap.setIfInBounds b (.stringIter ⟨l.toArray⟩ a)}:=by
 have g:=((h.res _ (aG f)).2 b rfl).1;refine h.change k _ _ f rfl rfl rfl aA2 (λj m d=> ?_) ?_ (λn i=> ?_)
 ·show(c.heap.setIfInBounds b _)[j]? =_;rw [Array.getElem?_setIfInBounds_ne (λe=>d aE7)]
 ·show(c.heap.setIfInBounds b _)[b]? =_;simp [g]
 ·cases i;exact⟨.inl rfl,aD9⟩
section
variable {P:ω}{n:Md}{ops:Array ψ}{Q:Exit->Act->ν->Prop}{F:Nat->θ}{w:ν}
variable {d:Nat}{ty:φ}{pos:String}{after:Array Edge}{rest:List ψ}
variable {x y:π}{t a:φ}
theorem od(k:Α)(j b:Int)(hx:aZ n F x=.int k j)(f:aZ n F y=.int k b)(h:0<=j)(i:0<b)(g:k.wrap (j/b)=j/b):
  (ξ (aZ n F) (⟨δ d,.binOp .quo t x y a,ty,pos,after,ε⟩)).run P w=.ok (.value (.int k (j/b))) w:=by
 have e:j.tdiv b=j/b:=Int.tdiv_eq_ediv_of_nonneg h;have c:¬b=0:=aA0;simp [ξ,hx,f,binOp,eqGuard,Op.intDiv,c,e,g]
theorem nz(k:Α)(j b:Int)(hx:aZ n F x=.int k j)(f:aZ n F y=.int k b)(g:0<=j)(i:0<b)(h:k.wrap (j%b)=j%b):
  (ξ (aZ n F) (⟨δ d,.binOp .rem t x y a,ty,pos,after,ε⟩)).run P w=.ok (.value (.int k (j%b))) w:=by
 have e:j.tmod b=j%b:=Int.tmod_eq_emod_of_nonneg g;have c:¬b=0:=aA0;simp [ξ,hx,f,binOp,eqGuard,Op.intDiv,c,e]
def andI(k:Α)(a b:Int):Int:=k.wrap ((BitVec.ofInt k.bits a&&&BitVec.ofInt k.bits b).toNat)
def orI(k:Α)(a b:Int):Int:=k.wrap ((BitVec.ofInt k.bits a|||BitVec.ofInt k.bits b).toNat)
theorem oo(k:Α)(e b:Int)(hx:aZ n F x=.int k e)(c:aZ n F y=.int k b):(ξ (aZ n F) (⟨δ d,.binOp .and t x y a,ty,pos,after,ε⟩)).run P w=.ok (.value (.int k (andI k e b))) w:=by simp only [ξ,hx,c,binOp,ne_eq];rfl
theorem x_or(k:Α)(e b:Int)(hx:aZ n F x=.int k e)(c:aZ n F y=.int k b):(ξ (aZ n F) (⟨δ d,.binOp .or t x y a,ty,pos,after,ε⟩)).run P w=.ok (.value (.int k (orI k e b))) w:=by simp only [ξ,hx,c,binOp,ne_eq];rfl
theorem ny(k k':Α)(h b p:Int)(hx:aZ n F x=.int k h)(c:aZ n F y=.int k' b)(g:0<=b)(e:2^(min b.toNat k.bits)=p):(ξ (aZ n F) (⟨δ d,.binOp .shl t x y a,ty,pos,after,ε⟩)).run P w=.ok (.value (.int k (k.wrap (h*p)))) w:=by have f:¬b<0:=aA0;rw [<-e];simp [ξ,hx,c,binOp,eqGuard,Op.shift,f]
theorem nv(k k':Α)(j b p:Int)(hx:aZ n F x=.int k j)(c:aZ n F y=.int k' b)(i:0<=b)(g:2^(min b.toNat k.bits)=p)(f:0<p):(ξ (aZ n F) (⟨δ d,.binOp .shr t x y a,ty,pos,after,ε⟩)).run P w=.ok (.value (.int k (j/p))) w:=by have h:¬b<0:=aA0;have e:j.fdiv p=j/p:=Int.fdiv_eq_ediv_of_nonneg _ aA0;rw [<-e,<-g];simp [ξ,hx,c,binOp,eqGuard,Op.shift,h]
theorem IM(g:Option χ)(m c e:Nat)(f:P.underlying t=δ (.slice e))(hx:aZ n F x=.slice g m c)(b:aZ n F y=.slice ε 0 0):(ξ (aZ n F) (⟨δ d,.binOp .eql t x y a,ty,pos,after,ε⟩)).run P w=.ok (.value (.bool g.isNone)) w:=by
 have e:(binOp .eql t (.slice g m c) (.slice ε 0 0)).run P w=.ok (.bool g.isNone) w:=by simp only [binOp];simp [run_equal_slice_nil w t e g m c f]
 simp [ξ,hx,b,eqGuard,e]
theorem YV(g:Option χ)(m c e:Nat)(f:P.underlying t=δ (.slice e))(hx:aZ n F x=.slice g m c)(b:aZ n F y=.slice ε 0 0)(h:W P n ops Q rest (dV F d (.bool g.isNone)) w):W P n ops Q (⟨δ d,.binOp .eql t x y a,ty,pos,after,ε⟩::rest) F w:=
 gN rfl rfl (IM g m c e f hx b) h
theorem YB(p:χ)(k e sz:Nat)(q:Α)(i:Int)(c:P.underlying t=δ (.array k e))(f:(sizeOf e).run P w=.ok sz w)(hx:aZ n F x=.pointer (δ p))(g:aZ n F y=.int q i)
  (b:0<=i/\i<k) (h:2<=k):(ξ (aZ n F) (⟨δ d,.indexAddr t x y,ty,pos,after,ε⟩)).run P w=.ok (.value (.pointer (δ (ea (δ p) (i.toNat*sz))))) w:=by
 simp [ξ,hx,g,Instr.indexAt,Instr.sureAddr,asIntOf,run_underlying c,f,b.1,b.2,ea]
variable {b:ν}{S:List Nat}{L:List cB}
theorem MR(c:Hp b S L w)(l:List UInt8)(a:P.underlying t=δ .string)(hx:aZ n F x=str l)
  (h:∀e w',Hp b S (SS e l 0::L) w'->W P n ops Q rest (dV F d (.pointer (δ ⟨e,0,ε⟩))) w'):W P n ops Q (⟨δ d,.range t x,ty,pos,after,ε⟩::rest) F w:=by
 refine gN (v:=.pointer (δ ⟨w.heap.size,0,ε⟩)) (w':=w.alloc (.stringIter ⟨l.toArray⟩ 0)) rfl rfl ?_ (h _ _ (c.mf l 0));simp [ξ,hx,str,Instr.range,run_underlying a]
theorem Wz(h:Hp b S L w)(k q:Nat)(l:List UInt8)(p:Nat)(e:L[k]? =δ (SS q l p))(hx:aZ n F x=.pointer (δ ⟨q,0,ε⟩))
  (m:p<γ l->∀w',Hp b S (L.set k (SS q l (p+(Δ ⟨l.toArray⟩ p).2))) w'->W P n ops Q rest (dV F d (.tuple #[.bool ζ,.int .i64 p,.int .i32 ((Δ ⟨l.toArray⟩ p).1)])) w')
  (j:¬p<γ l->W P n ops Q rest (dV F d (.tuple #[.bool η])) w):W P n ops Q (⟨δ d,.next x ζ,ty,pos,after,ε⟩::rest) F w:=by
 have g:w.heap[q]? =δ _:=(h.res _ (aG e)).1;have f:(getObj q).run P w=.ok (.stringIter ⟨l.toArray⟩ p) w:=by simp [getObj,Sem.run,g]
 have i:∀o,(setObj q o).run P w=.ok () {w with heap:=w.heap.setIfInBounds q o}:=λo=>by simp [setObj,Sem.run,g]
 by_cases c:p<γ l
 ·have a:p<(⟨l.toArray⟩:ByteArray).size:=c;refine gN (v:=.tuple #[.bool ζ,.int .i64 (p:Int),.int .i32 ((Δ ⟨l.toArray⟩ p).1:Int)]) (w':={w with heap:=w.heap.setIfInBounds q (.stringIter ⟨l.toArray⟩ (p+(Δ _ p).2))}) rfl rfl ?_ (m c _ (h.setIt k q l p _ e));simp [ξ,hx,Instr.next,f,i,a,goInt]
 ·have a:¬p<(⟨l.toArray⟩:ByteArray).size:=c;refine gN (v:=.tuple #[.bool η]) (w':=w) rfl rfl ?_ (j c);simp [ξ,hx,Instr.next,f,a]
theorem Tc(k k':Α)(s:Int)(c:P.underlying t=δ (.int k'))(b:P.underlying a=δ .string)(hx:aZ n F x=.int k s):(ξ (aZ n F) (⟨δ d,.convert t a x,ty,pos,after,ε⟩)).run P w=.ok (.value (str (ο s).data.toList)) w:=by simp [ξ,hx,convert,run_underlying c,run_underlying b,Conv.intToString,str]
theorem RV(k k':Α)(s:Int)(c:P.underlying t=δ (.int k'))(b:P.underlying a=δ .string)(hx:aZ n F x=.int k s)(h:W P n ops Q rest (dV F d (str (ο s).data.toList)) w):W P n ops Q (⟨δ d,.convert t a x,ty,pos,after,ε⟩::rest) F w:=
 gN rfl rfl (Tc k k' s c b hx) h
end
open Go.Value renaming ownBlock → Dd
open UInt8 renaming ofNat → uF
abbrev aC:=List UInt8
abbrev PQ:=aC×aC×Bool
abbrev LQ:=List PQ
abbrev UQ:=aC×aC×aC×Int×LQ×LQ
abbrev AQ:=aC×UQ×LQ
abbrev cD:=List (aC×aC)
abbrev qL:=cD×List UInt8
abbrev dO:=List qL
abbrev jU:=List (Int×aC)
def gd{α:Type}(p:Prop)[Decidable p](k:Option α):Option α:=if p then k else ε
variable {a:Type}{p:Prop}{k:Option a}{r:a}
theorem O6[Decidable p](h:gd p k=δ r):p/\k=δ r:=by
 unfold gd at h;split at h
 ·exact⟨by assumption,h⟩
 ·cases h
theorem aU{α:Type}{p:Prop}[Decidable p]{k:Option α}(h:p):gd p k=k:=aB h
theorem Ca{α:Type}{f:a->Option α}{r:α}(h:k.bind f=δ r):∃y,k=δ y/\f y=δ r:=by
 cases k with
 |none=>cases h
 |some y=>exact⟨y,rfl,h⟩
variable {i j:a}
theorem HV[Decidable p](h:p)(e:(if p then r else i)=j):r=j:=by rw [<-e,aB h]
theorem HW[Decidable p](h:¬p)(e:(if p then r else i)=j):i=j:=by rw [<-e,aA h]
variable {d:Bool}
theorem cft(h:d=ζ)(e:cond d r i=j):r=j:=by rw [<-e,h];rfl
theorem cff(h:d=η)(e:cond d r i=j):i=j:=by rw [<-e,h];rfl
def dMk(b:Nat):(c:Int)->Decidable (0<=c/\b*c<=281474976710656)
 |.ofNat n=>match h:Nat.ble (b*n) 281474976710656 with
  |true=>.isTrue ⟨Qu n,by have d:=BJ h;have a:((b*n:Nat))<=(281474976710656:Int):=Int.ofNat_le.2 d;rw [Int.natCast_mul]at a;exact a⟩
  |false=>.isFalse λ⟨_,a⟩=>by
   have e:((b*n:Nat))<=(281474976710656:Int):=by rw [Int.natCast_mul];exact a
   rw [Nat.ble_eq_true_of_le (Int.ofNat_le.1 e)]at h;cases h
 |.negSucc n=>.isFalse λ⟨d,_⟩=>absurd d aA0
instance instOk64:(a:Int)->Decidable (acl a)
 |.ofNat n=>if h:Nat.ble n 9223372036854775807=ζ then .isTrue (show acl (n:Int)from⟨aA0,by have:=BJ h;omega⟩)else .isFalse λq=>h (Nat.ble_eq▸(by have:(n:Int)<=9223372036854775807:=q.hi;omega))
 |.negSucc n=>if h:Nat.ble n 9223372036854775807=ζ then .isTrue ⟨by have:=BJ h;rw [Int.negSucc_eq];omega,by rw [Int.negSucc_eq];omega⟩else .isFalse λq=>h (Nat.ble_eq▸(by have:=q.lo;rw [Int.negSucc_eq]at this;omega))
structure oY {α:Type} (f:α->List θ) (sz:Nat):Prop where
 len:∀x,γ (f x)=sz
 one:∀x,∀v∈f x,v.oneCell'=ζ
def eS(s:aC):List θ:=[str s]
def eB(c:UInt8):List θ:=[bt c]
def eI(k:Α)(i:Int):List θ:=[.int k i]
theorem R1:oY eS 1:=⟨λ_=>rfl,λx v h=>by simp [eS]at h;subst h;rfl⟩
theorem lM:oY eB 1:=⟨λ_=>rfl,λx v h=>by simp [eB]at h;subst h;rfl⟩
theorem mO(l:List UInt8):l.flatMap eB=l.map bt:=by induction l with
 |nil=>rfl
 |cons c l a=>rw [rZ,a];rfl
variable {f:a->List θ}{e:Nat}
theorem oY.flat(h:oY f e)(l:List a):γ (l.flatMap f)=γ l*e:=P9 f e h.len l
theorem oY.cells(h:oY f e)(l:List a):∀v∈l.flatMap f,v.oneCell'=ζ:=by intro v α;obtain⟨x,_,hx⟩:=mJ.1 α;exact h.one x v hx
def bA(f:a->List θ)(e sz:Nat)(o:Option Nat)(α:Option χ)(cap:Nat)(l:List a):cB:=
 ⟨o,λob=>(o=ε/\l=[]/\cap=0/\α=ε)\/
  ∃g b,o=δ g/\α=δ ⟨g,0,ε⟩/\ob=δ (.cells b e (0,0))/\γ l<=cap/\cap<=maxLen/\b.size=cap*sz/\b.toList.take (γ l*sz)=l.flatMap f⟩
variable {c w:ν}{S:List Nat}{L:List cB}
theorem Hp.dF(h:Hp c S L w)(f:a->List θ)(e sz:Nat)(α:Option χ):Hp c S (bA f e sz ε ε 0 []::L) w:=by
 refine⟨h.os,h.tape,h.output,h.size,h.below,λr m=> ?_, ?_⟩
 ·rcases aP.1 m with rfl|m
  ·exact⟨.inl ⟨rfl,rfl,rfl,rfl⟩,λb d=>by simp [bA]at d⟩
  ·exact h.res r m
 ·refine List.Pairwise.cons (λr _ b d=>by simp [bA]at d) h.sep
variable {g h:Nat}{o:Option Nat}{b:Option χ}{l:List a}
theorem Hp.eV(α:Hp c S L w)(k:Nat)(p:L[k]? =δ (bA f e g o b h l)):Rd w b (l.flatMap f):=by
 obtain⟨r,_⟩:=α.res _ (aG p);rcases r with⟨_,rfl,_⟩|⟨s,m,n,rfl,d,_,_,_,u⟩
 ·exact Rd.nil _ _
 ·intro j v t;refine⟨_,rfl, ?_⟩;rw [LY];have q:w.heap[s]? =δ (.cells m e (0,0)):=by have i:=n;subst i;simpa [bA] using d
  simp only [World.cell?,q];rw [<-u,bO]at t;split at t
  ·simpa using t
  ·cases t
theorem Hp.CO{x:Nat}(α:Hp c S L w)(s:oY f g)(k:Nat)(o:L[k]? =δ (bA f e g (δ x) b h l)):
  b=δ ⟨x,0,ε⟩/\Hp c S (L.set k (row (.slice b (γ l) h) e g (γ l) (l.flatMap f))) w:=by
 obtain⟨u,t⟩:=α.res _ (aG o);rcases u with⟨r,_⟩|⟨v,n,q,rfl,d,m,j,i,z⟩
 ·cases r
 ·cases q;refine⟨rfl,α.change k _ _ o rfl rfl rfl (eK _) (λ_ _ _=>rfl) ?_ ?_⟩
  ·exact⟨s.flat l,.inr ⟨x,h,n,rfl,d,m,j,i,z⟩⟩
  ·intro y p;simp [row,Dd]at p;subst p;exact⟨.inl rfl,(t x rfl).1⟩
theorem Hp.Lq{l:List a}(α:Hp c S L w)(k:Nat)(j:L[k]? =δ (row (.slice b (γ l) h) e g (γ l) (l.flatMap f))):
  ∃o,Hp c S (L.set k (bA f e g o b h l)) w:=by
 obtain⟨x,v⟩:=α.res _ (aG j);obtain⟨y,s⟩:=x;rcases s with⟨B,u⟩|⟨z,r,q,B,t,p,n,m,i⟩
 ·simp at B;obtain⟨rfl,-,rfl⟩:=B;refine⟨ε,α.change k _ _ j rfl rfl rfl (eK _) (λ_ _ _=>rfl) (.inl ⟨rfl,vJ u,rfl,rfl⟩) (λA d=>by simp [bA]at d)⟩
 ·simp at B;obtain⟨rfl,-,rfl⟩:=B;refine⟨δ z,α.change k _ _ j rfl rfl rfl (eK _) (λ_ _ _=>rfl) (.inr ⟨z,q,rfl,rfl,t,p,n,m,i⟩) (λA d=> ?_)⟩;simp [bA]at d;subst d;exact⟨.inl (by simp [row,Dd]),(v z (by simp [row,Dd])).1⟩
theorem Hp.Wf{cs:List θ}(h:Hp c S L w)(k sz m:Nat)(l:List a)(d:L[k]? =δ (aS e cs g))(i:oY f sz)(q:l.flatMap f=cs)(n:γ l=m)(j:m<=maxLen):
  Hp c S (L.set k (bA f g sz (δ e) (δ ⟨e,0,ε⟩) m l)) w:=by
 have b:=h.dG k d;subst q;subst n;refine h.change k _ _ d rfl rfl rfl (eK _) (λ_ _ _=>rfl) ?_ ?_
 ·exact .inr ⟨e,_,rfl,rfl,b,eK _,j,by simpa using i.flat l,by rw [<-i.flat l];exact iS⟩
 ·intro b' α;simp [bA]at α;subst α;exact⟨.inl rfl,(bW.1 b).1⟩
theorem Hp.cuts(α:Hp c S L w)(s:oY f g)(k:Nat)(p:L[k]? =δ (bA f e g o b h l))(m:Nat):
  Hp c S (L.set k (bA f e g o b h (l.take m))) w:=by
 obtain⟨u,t⟩:=α.res _ (aG p);refine α.change k _ _ p rfl rfl rfl (eK _) (λ_ _ _=>rfl) ?_ (λy q=>⟨.inl q,(t y q).1⟩);rcases u with⟨rfl,rfl,rfl,rfl⟩|⟨x,n,rfl,rfl,d,r,j,i,z⟩
 ·exact .inl ⟨rfl,aA2,rfl,rfl⟩
 ·refine .inr ⟨x,n,rfl,rfl,d,by simp;omega,j,i, ?_⟩;have v:(l.take m).flatMap f=(l.flatMap f).take (γ (l.take m)*g):=by
   have:l.flatMap f=(l.take m).flatMap f++(l.drop m).flatMap f:=by rw [<-IK,IL]
   rw [this,<-s.flat (l.take m),Qy]
  rw [v,<-z,uC,kB (BH _ aA4)]
section
variable {P:ω}{n:Md}{ops:Array ψ}{Q:Exit->Act->ν->Prop}{F:Nat->θ}{w w0:ν}{S:List Nat}{L:List cB}
variable {d:Nat}{ty:φ}{pos:String}{after:Array Edge}{rest:List ψ}{α:Type}{f:α->List θ}
theorem HL{a:Type}(l:List a)(k:Nat)(x y:a):(l.set k x).set k y=l.set k y:=aA2
variable {x y:π}{t:φ}
theorem RH(hH:Hp w0 S L w)(k:Nat)(o:Option Nat)(a G:Option χ)(cap cx e sz s:Nat)(l c:List α)(C:oY f sz)(O:L[k]? =δ (bA f e sz o a cap l))(N:P.underlying t=δ (.slice e))(hT:TI P e sz s)(D:0<sz)(a6:0<s)
  (hx:aZ n F x=.slice a (γ l) cap) (Y:aZ n F y=.slice G (γ c) cx) (X:Rd w G (c.flatMap f)) (K:(γ l+γ c)*s<=140737488355328)
  (h:∀o' a' cap' w',Hp w0 S (L.set k (bA f e sz o' a' cap' (l++c))) w'->W P n ops Q rest (dV F d (.slice a' (γ (l++c)) cap')) w'):
  W P n ops Q (⟨δ d,.call ⟨.builtin .append, #[x,y], #[t,t]⟩,ty,pos,after,ε⟩::rest) F w:=by
 have B:γ l+γ c<=9223372036854775807:=by have:γ l+γ c<=(γ l+γ c)*s:=Nat.le_mul_of_pos_right _ a6;omega
 have M:∀a' cap' w',Hp w0 S (L.set k (row (.slice a' (γ l+γ c) cap') e sz (γ l+γ c) (l.flatMap f++c.flatMap f))) w'->W P n ops Q rest (dV F d (.slice a' (γ l+γ c) cap')) w':=by intro a' cap' w' R;rw [<-bP,<-IK]at R;rw [<-bP];have m:=(aD.1 O).1;obtain⟨o',r⟩:=R.Lq k (aY m);rw [HL]at r;exact h o' a' cap' w' r
 have m:=(aD.1 O).1;cases o with
 |some g=>obtain⟨rfl,R⟩:=hH.CO C k O;refine BQ R k _ G (γ l) cap (γ c) cx e sz s _ _ (aY m) N hT D hx Y X (C.flat c) (C.cells c) K B ?_;intro a' cap' w' r;rw [HL]at r;exact M a' cap' w' r
 |none=>
  obtain⟨R,_⟩:=hH.res _ (aG O);have a9:l=[]/\cap=0:=by
   rcases R with⟨_,r,h3,_⟩|⟨g,c1,r,_⟩
   ·exact⟨r,h3⟩
   ·cases r
  obtain⟨rfl,rfl⟩:=a9;have v:Hp w0 S (L.set k (row _ e sz 0 [])) w:=hH.change k _ _ O rfl rfl rfl (eK _) (λ_ _ _=>rfl) ⟨aA2,.inl ⟨rfl,rfl⟩⟩ (λb K=>by simp [row,Dd]at K);cases a with
  |none=>refine BQ v k ε G 0 0 (γ c) cx e sz s [] _ (aY m) N hT D hx Y X (C.flat c) (C.cells c) (by simpa using K) aE8 ?_;intro a' cap' w' r;rw [HL]at r;exact M a' cap' w' (by simpa using r)
  |some p=>
   obtain⟨i,z,hi,hz,hs,a7,b3⟩:=hT.parts;subst hs;subst a7;by_cases hm:c=[]
   ·subst hm;have E:(Builtin.firstCells i.size 0 (.slice G 0 cx)).run P w=.ok #[] w:=by
     cases G with
     |none=>simp [Builtin.firstCells]
     |some p=>simp [Builtin.firstCells,loadCells,loadCellsFrom]
    have T:(Builtin.append_ #[t,t] ty #[.slice (δ p) 0 0,.slice G 0 cx]).run P w=.ok (.slice (δ p) 0 0) w:=by simp [Builtin.append_,run_underlying N,sizeOf,typeInfo,hi,Builtin.lenOf,E,storeCells]
    refine gN (w':=w) rfl rfl ?_ (h ε (δ p) 0 w ?_)
    ·have a2:=Y;have H:=hx;simp [ξ,resolve,invoke,builtin,H,a2,T]
    ·have e:L.set k (bA f e i.size ε (δ p) 0 ([]++[]))=L:=by
      apply bV;intro j;by_cases V:j=k
      ·subst V;simp [m];have:=O;rw [aO m]at this;exact(aJ this).symm
      ·rw [gW (λe=>V e.symm)]
     rw [e];exact hH
   ·have U:=bK.2 hm;cases G with
    |none=>
     have:c.flatMap f=[]:=by
      cases Z:c.flatMap f with
      |nil=>rfl
      |cons u us=>obtain⟨p,hp,_⟩:=X 0 u (by rw [Z];rfl);cases hp
     have:=C.flat c;rename_i h0;rw [h0]at this;have:=Ww U D;simp at*
     omega
    |some q=>
     have A:∀j u,(c.flatMap f)[j]? =δ u->w.cell? (q.add j)=δ u:=by intro j u hu;obtain⟨q',Z,hc⟩:=X j u hu;simp at Z;subst Z;exact hc
     have J:=run_append_grow w t ty e i z N hi hz p 0 0 [] aA2 (λj u hu=>by simp at hu) q (γ c) cx _ (C.flat c) A aA0 (by simp at B⊢;omega) (growslice_fits aA0 (by simpa using K));have a5:=run_append_nil w t ty e i z N hi hz q (γ c) cx _ (C.flat c) A aA0 (by simp at B⊢;omega) (by simp at K;omega);have I:(Builtin.append_ #[t,t] ty #[.slice (δ p) 0 0,.slice (δ q) (γ c) cx]).run P w=(Builtin.append_ #[t,t] ty #[.slice ε 0 0,.slice (δ q) (γ c) cx]).run P w:=by rw [a5,J];simp
     obtain⟨a',cap',w',hr,ho,hg,hn⟩:=NN t N hT D (v.ownsRow (aY m)) X (C.flat c) (C.cells c) (by unfold maxLen;simp at B⊢;omega) (by simpa using K);have r:=v.grown (aY m) hg ho hn;rw [HL]at r;have h3:=M a' cap' w' (by simpa using r);refine gN (w':=w') rfl rfl ?_ (by simpa using h3);have H:=hx;rw [<-I]at hr;simp [ξ,resolve,invoke,builtin,H,Y,hr]
theorem ao(s:Hp w0 S L w)(e sz b:Nat)(kl i:Α)(c:Int)(m:P.underlying t=δ (.slice e))(r:TI P e sz b)(q:0<b)(hx:aZ n F x=.int kl 0)(k:aZ n F y=.int i c)
  (g:0<=c/\b*c<=281474976710656)
  (h:∀o a cap w',Hp w0 S (bA f e sz o a cap []::L) w'->W P n ops Q rest (dV F d (.slice a 0 cap)) w'):
  W P n ops Q (⟨δ d,.makeSlice t x y,ty,pos,after,ε⟩::rest) F w:=by
 have p:c<=9223372036854775807:=by have j:1*c<=b*c:=Int.mul_le_mul_of_nonneg_right aA0 g.1;omega
 refine aq s e sz b kl i c m r hx k g.1 g.2 p ?_;intro a cap w' j;obtain⟨o,u⟩:=j.Lq (l:=[]) 0 rfl;exact h o a cap w' u
theorem qP(a:Option χ)(m c e sz:Nat)(q:Α)(i:Int)(h:P.underlying t=δ (.slice e))(j:(sizeOf e).run P w=.ok sz w)(hx:aZ n F x=.slice a m c)(o:aZ n F y=.int q i)
  (l:List α) (k:m=γ l) (p:0<=i/\i<γ l) (r:Rd w a (l.flatMap f)) (s:oY f sz) (b:0<sz):
  (ξ (aZ n F) (⟨δ d,.indexAddr t x y,ty,pos,after,ε⟩)).run P w=.ok (.value (.pointer (δ (ea a (i.toNat*sz))))) w:=by
 subst k;refine YC a (γ l) c e sz q i h j hx o p (r.some_ ?_);rw [s.flat];exact Ww aA0 b
theorem yU(a:Option χ)(m c e sz:Nat)(q:Α)(i:Int)(j:P.underlying t=δ (.slice e))(k:(sizeOf e).run P w=.ok sz w)(hx:aZ n F x=.slice a m c)(p:aZ n F y=.int q i)
  (l:List α) (o:m=γ l) (r:0<=i/\i<γ l) (s:Rd w a (l.flatMap f)) (u:oY f sz) (b:0<sz) (h:W P n ops Q rest (dV F d (.pointer (δ (ea a (i.toNat*sz))))) w):
  W P n ops Q (⟨δ d,.indexAddr t x y,ty,pos,after,ε⟩::rest) F w:=gN rfl rfl (qP a m c e sz q i j k hx p l o r s u b) h
theorem BL[Inhabited α](a:Option χ)(f:α->List θ)(l:List α)(sz:Nat)(i:Int)(e:oY f sz)(k:Rd w a (l.flatMap f))(vs:List θ)(h:0<=i/\i<(γ l:Int))(c:f (el l i)=vs)
  (hx:aZ n F x=.pointer (δ (ea a (i.toNat*sz)))) (j:(isAgg t).run P w=.ok ζ w) (g:(sizeOf t).run P w=.ok sz w) (b:0<sz):
  (ξ (aZ n F) (⟨δ d,.load t x,ty,pos,after,ε⟩:ψ)).run P w=.ok (.value (.agg vs.toArray)) w:=
 oa a _ vs _ sz k (by rw [Bn f sz e.len l i h,c]) (by rw [<-c];exact e.len _) b hx j g
theorem nH[Inhabited α](a:Option χ)(f:α->List θ)(l:List α)(sz:Nat)(i:Int)(m:oY f sz)(k:Rd w a (l.flatMap f))(vs:List θ)(g:0<=i/\i<γ l)(c:f (el l i)=vs)
  (hx:aZ n F x=.pointer (δ (ea a (i.toNat*sz)))) (j:(isAgg t).run P w=.ok ζ w) (e:(sizeOf t).run P w=.ok sz w) (b:0<sz) (h:W P n ops Q rest (dV F d (.agg vs.toArray)) w):
  W P n ops Q (⟨δ d,.load t x,ty,pos,after,ε⟩::rest) F w:=gN rfl rfl (BL a f l sz i m k vs g c hx j e b) h
theorem yY[Inhabited α](a:Option χ)(f:α->List θ)(l:List α)(sz:Nat)(i:Int)(off:Nat)(j:oY f sz)(h:Rd w a (l.flatMap f))(v:θ)(e:0<=i/\i<(γ l:Int))(c:off<sz)(b:(f (el l i))[off]? =δ v)
  (hx:aZ n F x=.pointer (δ (ea a (i.toNat*sz+off)))) (g:(isAgg t).run P w=.ok η w):
  (ξ (aZ n F) (⟨δ d,.load t x,ty,pos,after,ε⟩:ψ)).run P w=.ok (.value v) w:=
 oc a _ _ v h (Q0 f sz off j.len l i v e c b) hx g
theorem sD[Inhabited α](a:Option χ)(f:α->List θ)(l:List α)(sz:Nat)(i:Int)(off:Nat)(k:oY f sz)(j:Rd w a (l.flatMap f))(v:θ)(e:0<=i/\i<γ l)(c:off<sz)(b:(f (el l i))[off]? =δ v)
  (hx:aZ n F x=.pointer (δ (ea a (i.toNat*sz+off)))) (g:(isAgg t).run P w=.ok η w) (h:W P n ops Q rest (dV F d v) w):
  W P n ops Q (⟨δ d,.load t x,ty,pos,after,ε⟩::rest) F w:=gN rfl rfl (yY a f l sz i off k j v e c b hx g) h
theorem tw[Inhabited α](a:Option χ)(f:α->List θ)(l:List α)(sz:Nat)(i:Int)(j:oY f sz)(h:Rd w a (l.flatMap f))(v:θ)(e:0<=i/\i<γ l)(c:0<sz)(b:(f (el l i))[0]? =δ v)
  (hx:aZ n F x=.pointer (δ (ea a (i.toNat*sz)))) (g:(isAgg t).run P w=.ok η w):
  (ξ (aZ n F) (⟨δ d,.load t x,ty,pos,after,ε⟩)).run P w=.ok (.value v) w:=yY a f l sz i 0 j h v e c b hx g
theorem uk[Inhabited α](a:Option χ)(f:α->List θ)(l:List α)(sz:Nat)(i:Int)(k:oY f sz)(j:Rd w a (l.flatMap f))(v:θ)(e:0<=i/\i<γ l)(c:0<sz)(b:(f (el l i))[0]? =δ v)
  (hx:aZ n F x=.pointer (δ (ea a (i.toNat*sz)))) (g:(isAgg t).run P w=.ok η w) (h:W P n ops Q rest (dV F d v) w):
  W P n ops Q (⟨δ d,.load t x,ty,pos,after,ε⟩::rest) F w:=gN rfl rfl (tw a f l sz i k j v e c b hx g) h
theorem Hh(sz:Nat)(a:oY f sz):∀(l:List α) j y,j<γ l->xX (l.flatMap f) (j*sz) (f y)=(l.set j y).flatMap f
 |[],j,y,h=>by simp at h
 |x::l,0,y,h=>by unfold xX;simp only [Nat.zero_mul,Qq,vX,Ta,List.set_cons_zero,rZ,a.len];rw [<-a.len x,Gg]
 |x::l,j+1,y,h=>by have b:=Hh sz a l j y aA8;unfold xX at*;simp only [List.set_cons_succ,rZ,<-b];rw [dB,Jc _ sz,De sz,<-a.len x,List.take_length_add_append];simp
theorem Hp.rwset{k e sz cap j:Nat}{o:Option Nat}{a:Option χ}{l:List α}{y:α}(s:Hp w0 S L w)(d:oY f sz)(u:0<sz)(n:L[k]? =δ (bA f e sz o a cap l))(h:j<γ l):
  ∃w',(storeCells (ea a (j*sz)) (f y)).run P w=.ok () w'/\Hp w0 S (L.set k (bA f e sz o a cap (l.set j y))) w':=by
 cases o with
 |none=>
  obtain⟨q,_⟩:=s.res _ (aG n);rcases q with⟨_,c,_⟩|⟨g,r,c,_⟩
  ·subst c;simp at h
  ·cases c
 |some g=>
  obtain⟨rfl,q⟩:=s.CO d k n;have b:=(aD.1 n).1;have p:j*sz+sz<=γ l*sz:=by rw [<-dB];exact BH _ h
  obtain⟨w',v,c⟩:=q.ZZ (vs:=f y) (j:=j*sz) (aY b) (by rw [d.len,d.flat];exact p) (d.one y) (by intro C;have:=d.len y;rw [C]at this;simp at this;omega);refine⟨w',v, ?_⟩;rw [HL,Hh sz d l j y h]at c;have z:γ l=γ (l.set j y):=aA2
  rw [z]at c;obtain⟨o',m⟩:=c.Lq (k:=k) (l:=l.set j y) (aY b);rw [HL]at m;have x:o'=δ g:=by
   obtain⟨B,_⟩:=m.res _ (aG (aY b));rcases B with⟨t,i,_⟩|⟨D,r,t,i,_⟩
   ·exfalso;have:γ (l.set j y)=0:=by have A:=i;rw [A];rfl
    simp at this;subst this;simp at h
   ·simp at i;rw [i];exact t
  rw [x]at m;exact m
theorem YU[Inhabited α](s:Hp w0 S L w)(k:Nat)(o:Option Nat)(a:Option χ)(cap e sz:Nat)(i:Int)(l:List α)(z:α)(r:L[k]? =δ (bA f e sz o a cap l))(d:oY f sz)(vs:List θ)(u:0<=i/\i<γ l)(j:f z=vs)
  (hx:aZ n F x=.pointer (δ (ea a (i.toNat*sz)))) (g:aZ n F y=.agg vs.toArray) (b:0<sz) (m:(sizeOf t).run P w=.ok sz w)
  (h:∀w',Hp w0 S (L.set k (bA f e sz o a cap (l.set i.toNat z))) w'->W P n ops Q rest F w'):W P n ops Q (⟨ε,.store t x y,ty,pos,after,ε⟩::rest) F w:=by
 subst j;obtain⟨w',p,c⟩:=s.rwset (P:=P) d b r (show i.toNat<γ l by omega);refine pM (w':=w') rfl rfl ?_ (h w' c);have q:=d.len z;simp [ξ,hx,g,Instr.storeAt,Instr.sureAddr,storeVar,m,Value.cells,p,q]
theorem VH(sz off:Nat)(a:oY f sz)[Inhabited α](l:List α)(j:Nat)(y:α)(v:θ)(c:j<γ l)(g:off<sz)(b:f y=(f (l.getD j default)).set off v):xX (l.flatMap f) (j*sz+off) [v]=(l.set j y).flatMap f:=by
 have d:xX (l.flatMap f) (j*sz+off) [v]=(l.flatMap f).set (j*sz+off) v:=by
  unfold xX;rw [zbK,aB (by rw [a.flat];calc j*sz+off<j*sz+sz:=by omega
   _=(j+1)*sz:=by rw [dB]
   _<=γ l*sz:=BH _ c)]
  simp
 rw [d];clear d;induction l generalizing j with
 |nil=>simp at c
 |cons x l e=>
  cases j with
  |zero=>simp;simp at b;rw [b,Y4 _ _ (by rw [a.len];exact g)]
  |succ j=>simp;rw [dB,kQ _ _ (by rw [a.len];omega),a.len];rw [show j*sz+sz+off-sz=j*sz+off by omega];rw [e j aC2 aB6]
theorem ov[Inhabited α](G:Hp w0 S L w)(k:Nat)(o:Option Nat)(a:Option χ)(cap e sz:Nat)(i:Int)(off:Nat)(l:List α)(z:α)(u:L[k]? =δ (bA f e sz o a cap l))(d:oY f sz)(v:θ)(R:0<=i/\i<γ l)
  (D:f z=(f (el l i)).set off v) (hx:aZ n F x=.pointer (δ (ea a (i.toNat*sz+off)))) (J:aZ n F y=v) (K:(sizeOf t).run P w=.ok 1 w) (E:off<sz)
  (h:∀w',Hp w0 S (L.set k (bA f e sz o a cap (l.set i.toNat z))) w'->W P n ops Q rest F w'):W P n ops Q (⟨ε,.store t x y,ty,pos,after,ε⟩::rest) F w:=by
 have B:i.toNat<γ l:=aA0;have r:v.oneCell'=ζ:=d.one z v (by rw [D];exact aG (aY (by rw [d.len];exact E)));have b:v.cells= #[v]:=by cases v<;>first|rfl|simp [Value.oneCell']at r
 cases o with
 |none=>
  obtain⟨r,_⟩:=G.res _ (aG u);rcases r with⟨_,m,_⟩|⟨g,C,m,_⟩
  ·subst m;simp at B
  ·cases m
 |some g=>
  obtain⟨rfl,m⟩:=G.CO d k u;have c:k<γ L:=(aD.1 u).1;have A:i.toNat*sz+off+1<=γ l*sz:=by
   calc i.toNat*sz+off+1<=i.toNat*sz+sz:=by omega
    _=(i.toNat+1)*sz:=by rw [dB]
    _<=γ l*sz:=BH _ B
  obtain⟨w',M,I⟩:=m.ZZ (P:=P) (vs:=[v]) (j:=i.toNat*sz+off) (aY c) (by rw [d.flat];exact A) (by simpa using r) aA2;rw [HL,VH sz off d l i.toNat z v B E D,show γ l=γ (l.set i.toNat z) by simp]at I;obtain⟨o',q⟩:=I.Lq (k:=k) (l:=l.set i.toNat z) (aY c);rw [HL]at q;have s:o'=δ g:=by
   obtain⟨O,_⟩:=q.res _ (aG (aY c));rcases O with⟨H,p,_⟩|⟨T,C,H,p,_⟩
   ·exfalso;have N:=p;have:γ (l.set i.toNat z)=0:=by rw [N];rfl
    rw [pD]at this;omega
   ·simp at p;rw [p];exact H
  rw [s]at q;refine pM (w':=w') rfl rfl ?_ (h w' q);simp [ξ,hx,J,Instr.storeAt,Instr.sureAddr,storeVar,K,b,M]
theorem w_stB(d:Hp w0 S L w)(k:Nat)(a:Option χ)(m cap:Nat)(i:Int)(l:List UInt8)(c:UInt8)(b:L[k]? =δ (iY (.slice a m cap) m l))(g:0<=i/\i<(γ l:Int))
  (hx:aZ n F x=.pointer (δ (ea a (i.toNat*1)))) (e:aZ n F y=bt c) (f:(sizeOf t).run P w=.ok 1 w)
  (h:∀w',Hp w0 S (L.set k (iY (.slice a m cap) m (l.set i.toNat c))) w'->W P n ops Q rest F w'):W P n ops Q (⟨ε,.store t x y,ty,pos,after,ε⟩::rest) F w:=
 YT d k a m cap _ l c b (by have:=d.AK k b;omega) hx e f aA8
theorem U4{a b:UInt8}:(a.toNat=(b.toNat:Int))↔a=b:=by
 constructor
 ·intro h;exact pB.1 aA0
 ·intro h;rw [h]
variable {a:φ}
theorem YO(e b:UInt8)(hx:aZ n F x=bt e)(c:aZ n F y=bt b):(ξ (aZ n F) (⟨δ d,.binOp .eql t x y a,ty,pos,after,ε⟩)).run P w=.ok (.value (.bool (decide (e=b)))) w:=by rw [YF .u8 _ _ hx c];congr 3;exact eA.2 U4
theorem YL(e b:UInt8)(hx:aZ n F x=bt e)(c:aZ n F y=bt b):(ξ (aZ n F) (⟨δ d,.binOp .neq t x y a,ty,pos,after,ε⟩)).run P w=.ok (.value (.bool (!decide (e=b)))) w:=by rw [XX .u8 _ _ hx c];congr 4;exact eA.2 U4
theorem YM(e b:UInt8)(hx:aZ n F x=bt e)(c:aZ n F y=bt b):(ξ (aZ n F) (⟨δ d,.binOp .lss t x y a,ty,pos,after,ε⟩)).run P w=.ok (.value (.bool (decide (e<b)))) w:=by rw [XZ .u8 _ _ hx c];congr 3;exact eA.2 (by rw [Z0];omega)
theorem uc(e b:UInt8)(hx:aZ n F x=bt e)(c:aZ n F y=bt b):(ξ (aZ n F) (⟨δ d,.binOp .leq t x y a,ty,pos,after,ε⟩)).run P w=.ok (.value (.bool (decide (e<=b)))) w:=by rw [YA .u8 _ _ hx c];congr 3;exact eA.2 (by rw [wP];omega)
theorem YN(e b:UInt8)(hx:aZ n F x=bt e)(c:aZ n F y=bt b):(ξ (aZ n F) (⟨δ d,.binOp .gtr t x y a,ty,pos,after,ε⟩)).run P w=.ok (.value (.bool (decide (b<e)))) w:=by rw [YD .u8 _ _ hx c];congr 3;exact eA.2 (by rw [Z0];omega)
theorem ud(e b:UInt8)(hx:aZ n F x=bt e)(c:aZ n F y=bt b):(ξ (aZ n F) (⟨δ d,.binOp .geq t x y a,ty,pos,after,ε⟩)).run P w=.ok (.value (.bool (decide (b<=e)))) w:=by rw [YE .u8 _ _ hx c];congr 3;exact eA.2 (by rw [wP];omega)
theorem uf(e b:UInt8)(hx:aZ n F x=bt e)(c:aZ n F y=bt b):(ξ (aZ n F) (⟨δ d,.binOp .add t x y a,ty,pos,after,ε⟩)).run P w=.ok (.value (bt (e+b))) w:=by rw [YH .u8 _ _ hx c];congr 3
theorem YI(e b:UInt8)(hx:aZ n F x=bt e)(c:aZ n F y=bt b):(ξ (aZ n F) (⟨δ d,.binOp .sub t x y a,ty,pos,after,ε⟩)).run P w=.ok (.value (bt (e-b))) w:=by rw [XU .u8 _ _ hx c];unfold bt;rw [UInt8.toNat_sub,IntKind.wrap_u8];congr 3;have:=lT b;omega
theorem ub(e b:UInt8)(hx:aZ n F x=bt e)(c:aZ n F y=bt b):(ξ (aZ n F) (⟨δ d,.binOp .mul t x y a,ty,pos,after,ε⟩)).run P w=.ok (.value (bt (e*b))) w:=by rw [XY .u8 _ _ hx c];congr 3
theorem ofInt_u8(a:UInt8):BitVec.ofInt 8 a.toNat=a.toBitVec:=by simp
theorem ue(e b:UInt8)(hx:aZ n F x=bt e)(c:aZ n F y=bt b):(ξ (aZ n F) (⟨δ d,.binOp .and t x y a,ty,pos,after,ε⟩)).run P w=.ok (.value (bt (e&&&b))) w:=by rw [oo .u8 _ _ hx c];congr 3;show IntKind.u8.wrap ((BitVec.ofInt 8 _&&&BitVec.ofInt 8 _).toNat)=_;rw [ofInt_u8,ofInt_u8,IntKind.wrap_u8];have:(e&&&b).toNat=(e.toBitVec&&&b.toBitVec).toNat:=rfl;omega
theorem x8_or(e b:UInt8)(hx:aZ n F x=bt e)(c:aZ n F y=bt b):(ξ (aZ n F) (⟨δ d,.binOp .or t x y a,ty,pos,after,ε⟩)).run P w=.ok (.value (bt (e|||b))) w:=by rw [x_or .u8 _ _ hx c];congr 3;show IntKind.u8.wrap ((BitVec.ofInt 8 _|||BitVec.ofInt 8 b.toNat).toNat)=_;rw [ofInt_u8,ofInt_u8,IntKind.wrap_u8];have:(e|||b).toNat=(e.toBitVec|||b.toBitVec).toNat:=rfl;omega
def Xs(c:UInt8)(i:Int):UInt8:=uF (c.toNat/2^(min i.toNat 8))
def SU(c:UInt8)(i:Int):UInt8:=uF (c.toNat*2^(min i.toNat 8))
def pb(i:Int):UInt8:=uF (i%256).toNat
theorem YJ(k:Α)(i:UInt8)(b:Int)(hx:aZ n F x=bt i)(c:aZ n F y=.int k b)(f:0<=b):(ξ (aZ n F) (⟨δ d,.binOp .shr t x y a,ty,pos,after,ε⟩)).run P w=.ok (.value (bt (Xs i b))) w:=by have e:(0:Int)<2^(min b.toNat IntKind.u8.bits):=Int.pow_pos aA1;rw [nv .u8 k _ b _ hx c f rfl e];unfold bt Xs;congr 3;show(i.toNat:Int)/2^(min b.toNat 8)=_;have h:=lT i;have g:i.toNat/2^(min b.toNat 8)<=i.toNat:=Nat.div_le_self _ _;rw [qO,Nat.mod_eq_of_lt aA0];simp
theorem YK(k:Α)(g:UInt8)(b:Int)(hx:aZ n F x=bt g)(c:aZ n F y=.int k b)(e:0<=b):(ξ (aZ n F) (⟨δ d,.binOp .shl t x y a,ty,pos,after,ε⟩)).run P w=.ok (.value (bt (SU g b))) w:=by rw [ny .u8 k _ b _ hx c e rfl];congr 3
theorem XT(k:Α)(s:Int)(c:P.underlying t=δ (.int k))(b:P.underlying a=δ (.int .u8))(hx:aZ n F x=.int k s):(ξ (aZ n F) (⟨δ d,.convert t a x,ty,pos,after,ε⟩)).run P w=.ok (.value (bt (pb s))) w:=by rw [IQ .u8 k s c b hx];unfold bt pb;rw [IntKind.wrap_u8];congr 3;rw [qO];omega
theorem Dh(e b:UInt8)(hx:aZ n F x=bt e)(c:aZ n F y=bt b)(h:W P n ops Q rest (dV F d (.bool (decide (e=b)))) w):W P n ops Q (⟨δ d,.binOp .eql t x y a,ty,pos,after,ε⟩::rest) F w:=gN rfl rfl (YO e b hx c) h
theorem mV(e b:UInt8)(hx:aZ n F x=bt e)(c:aZ n F y=bt b)(h:W P n ops Q rest (dV F d (.bool (!decide (e=b)))) w):W P n ops Q (⟨δ d,.binOp .neq t x y a,ty,pos,after,ε⟩::rest) F w:=gN rfl rfl (YL e b hx c) h
theorem uo(e b:UInt8)(hx:aZ n F x=bt e)(c:aZ n F y=bt b)(h:W P n ops Q rest (dV F d (.bool (decide (e<b)))) w):W P n ops Q (⟨δ d,.binOp .lss t x y a,ty,pos,after,ε⟩::rest) F w:=gN rfl rfl (YM e b hx c) h
theorem uq(e b:UInt8)(hx:aZ n F x=bt e)(c:aZ n F y=bt b)(h:W P n ops Q rest (dV F d (.bool (decide (b<e)))) w):W P n ops Q (⟨δ d,.binOp .gtr t x y a,ty,pos,after,ε⟩::rest) F w:=gN rfl rfl (YN e b hx c) h
theorem um(e b:UInt8)(hx:aZ n F x=bt e)(c:aZ n F y=bt b)(h:W P n ops Q rest (dV F d (bt (e-b))) w):W P n ops Q (⟨δ d,.binOp .sub t x y a,ty,pos,after,ε⟩::rest) F w:=gN rfl rfl (YI e b hx c) h
theorem ug(k:Α)(s:Int)(c:P.underlying t=δ (.int k))(b:P.underlying a=δ (.int .u8))(hx:aZ n F x=.int k s)(h:W P n ops Q rest (dV F d (bt (pb s))) w):W P n ops Q (⟨δ d,.convert t a x,ty,pos,after,ε⟩::rest) F w:=gN rfl rfl (XT k s c b hx) h
theorem Gi(c:UInt8):IntKind.wrap .i64 c.toNat=c.toNat:=by rw [IntKind.wrap_i64];have:=lT c;omega
theorem tt(e b:Int)(hx:aZ n F x=.int .i64 e)(c:aZ n F y=.int .i64 b)(g:0<=e/\0<b/\acl e):(ξ (aZ n F) (⟨δ d,.binOp .quo t x y a,ty,pos,after,ε⟩:ψ)).run P w=.ok (.value (.int .i64 (e/b))) w:=
 od .i64 e b hx c g.1 g.2.1 (bbc (by have:=Int.ediv_nonneg g.1 (Int.le_of_lt g.2.1);omega) (by have:=Int.ediv_le_self b g.1;have:=g.2.2.2;omega))
theorem tr(e b:Int)(hx:aZ n F x=.int .i64 e)(c:aZ n F y=.int .i64 b)(g:0<=e/\0<b/\acl e):(ξ (aZ n F) (⟨δ d,.binOp .rem t x y a,ty,pos,after,ε⟩:ψ)).run P w=.ok (.value (.int .i64 (e%b))) w:=
 nz .i64 e b hx c g.1 g.2.1 (bbc (by have:=Int.emod_nonneg e (show b≠0 by omega);omega) (by have:=Int.emod_nonneg e (show b≠0 by omega);have:e%b<=e:=(by rw [Int.emod_def];have:=Int.mul_nonneg (Int.le_of_lt g.2.1) (Int.ediv_nonneg g.1 (Int.le_of_lt g.2.1));omega);have:=g.2.2.2;omega))
end
theorem Hp.sK{w0 w:ν}{S:List Nat}{L:List cB}{α:Type}{f:α->List θ}{e sz cap:Nat}{o:Option Nat}{a:Option χ}{l:List α}(h:Hp w0 S L w)(k:Nat)(b:L[k]? =δ (bA f e sz o a cap l)):γ l<=cap:=by
 obtain⟨d,_⟩:=h.res _ (aG b);rcases d with⟨_,rfl,rfl,_⟩|⟨g,i,_,_,_,c,_⟩
 ·exact eK _
 ·exact c
section
variable {P:ω}{n:Md}{ops:Array ψ}{Q:Exit->Act->ν->Prop}{F:Nat->θ}{w w0:ν}{S:List Nat}{L:List cB}
variable {d:Nat}{ty:φ}{pos:String}{after:Array Edge}{rest:List ψ}{α:Type}{f:α->List θ}
variable {t e:φ}
theorem QJ(a:P.underlying t=δ (.slice e)):P.elem t=e:=by simp [Program.elem,a]
variable {x y:π}
theorem IN(a:Option χ)(m c e sz:Nat)(k:Α)(j:Int)(g:P.underlying t=δ (.slice e))(p:(sizeOf e).run P w=.ok sz w)(hx:aZ n F x=.slice a m c)(f:aZ n F y=.int k j)(l:List α)(r:m=γ l)
  (q:0<=j/\j<=γ l) (s:m<=c):(ξ (aZ n F) (⟨δ d,.slice t x ε (δ y) ε,ty,pos,after,ε⟩)).run P w=.ok (.value (.slice a j.toNat c)) w:=by
 have i:=QJ g;have b:P.underlying t=δ (.slice (P.elem t)):=by rw [i];exact g
 have o:=run_slice_h w t a m c b k j q.1 aA0;rw [i,p]at o;simp only [ξ,hx,f,Sem.run_bind,WW,Gd,run_sliceAt_slice w t _ _ _ _ b,o,sliced];cases a<;>simp [Addr.add]
theorem YW{f:π}(a:Option χ)(m c e sz:Nat)(k:Α)(j:Int)(g:P.underlying t=δ (.slice e))(i:(sizeOf e).run P w=.ok sz w)(hx:aZ n F x=.slice a m c)(b:aZ n F f=.int k j)(l:List α)(o:m=γ l)
  (q:0<=j/\j<=(γ l:Int)) (p:m<=c) (h:W P n ops Q rest (dV F d (.slice a j.toNat c)) w):W P n ops Q (⟨δ d,.slice t x ε (δ f) ε,ty,pos,after,ε⟩::rest) F w:=
 gN rfl rfl (IN a m c e sz k j g i hx b l o q p) h
def Rp(a:Option χ)(cap b sz:Nat):Option χ:=if cap=b then a else a.map (·.add (b*sz))
theorem Kj(a:Option χ)(m c e sz:Nat)(k:Α)(j:Int)(h:P.underlying t=δ (.slice e))(p:(sizeOf e).run P w=.ok sz w)(hx:aZ n F x=.slice a m c)(f:aZ n F y=.int k j)(l:List α)(r:m=γ l)
  (q:0<=j/\j<=γ l):(ξ (aZ n F) (⟨δ d,.slice t x (δ y) ε ε,ty,pos,after,ε⟩)).run P w=.ok (.value (.slice (Rp a c j.toNat sz) (m-j.toNat) (c-j.toNat))) w:=by
 have i:=QJ h;have b:P.underlying t=δ (.slice (P.elem t)):=by rw [i];exact h
 have o:=run_slice_l w t a m c b k j q.1 aA0;rw [i,p]at o;simp only [ξ,hx,f,Sem.run_bind,WW,Gd,run_sliceAt_slice w t _ _ _ _ b,o,Result.andThen_ok,sliced,Rp,Sem.run_pure]
theorem YX{f:π}(a:Option χ)(m c e sz:Nat)(k:Α)(j:Int)(g:P.underlying t=δ (.slice e))(i:(sizeOf e).run P w=.ok sz w)(hx:aZ n F x=.slice a m c)(b:aZ n F f=.int k j)(l:List α)(o:m=γ l)
  (p:0<=j/\j<=(γ l:Int)) (h:W P n ops Q rest (dV F d (.slice (Rp a c j.toNat sz) (m-j.toNat) (c-j.toNat))) w):W P n ops Q (⟨δ d,.slice t x (δ f) ε ε,ty,pos,after,ε⟩::rest) F w:=
 gN rfl rfl (Kj a m c e sz k j g i hx b l o p) h
theorem x_ixA[Inhabited α](f:α->List θ)(l:List α)(m:Nat)(k:Α)(i:Int)(cs:List θ)(v:θ)(q:l.map f=cs.map (λc=>[c]))(o:P.underlying t=δ (.array m e))(z:γ l=m)(s:(isAgg e).run P w=.ok η w)(p:(sizeOf e).run P w=.ok 1 w)
  (hx:aZ n F x=.agg cs.toArray) (r:aZ n F y=.int k i) (j:f (el l i)=[v]) (A:0<=i/\i<γ l):(ξ (aZ n F) (⟨δ d,.index t x y,ty,pos,after,ε⟩)).run P w=.ok (.value v) w:=by
 have g:i.toNat<γ l:=aA0;have a:(cs.map (λc=>[c]))[i.toNat]? =δ [v]:=by rw [<-q];rw [<-j];simp [el,g]
 have u:cs[i.toNat]? =δ v:=by
  rw [bE]at a;cases h:cs[i.toNat]? with
  |none=>rw [h]at a;simp at a
  |some c=>rw [h]at a;simp at a;rw [a]
 have b:0<=i/\i<m:=aA0;simp [ξ,hx,r,Instr.index,asIntOf,run_underlying o,b,p,part,s,u]
theorem vB{w:ν}(d:Nat)(a b:aC)(h:P.underlying t=δ .string):(Op.equalIn (d+1) t (str a) (str b)).run P w=.ok (decide (a=b)) w:=by
 have e:((⟨a.toArray⟩:ByteArray).toList==(⟨b.toArray⟩:ByteArray).toList)=decide (a=b):=by rw [Z2];simp
 unfold str;rw [run_equalIn_string w d t _ _ h,e]
def EqF(P:ω)(w:ν)(c a:List θ):List Field->List Bool->Prop
 |[],[]=>True
 | f :: e, b :: g => f.name ≠ "_" /\ (∃ u v, (part f.type c.toArray f.offset).run P w = .ok u w /\ (part f.type a.toArray f.offset).run P w = .ok v w /\ ∀ d, (Op.equalIn (d + 1) f.type u v).run P w = .ok b w) /\ EqF P w c a e g
 |_,_=>False
theorem Zt{w:ν}{e c:List θ}(d:Nat):∀a bs,EqF P w e c a bs->(Op.eqFields (d+1) e.toArray c.toArray a).run P w=.ok (bs.all id) w
 |[],[],_=>rfl
 |[],_::_,h=>h.elim
 |_::_,[],h=>h.elim
 |f::a,b::bs,⟨m,⟨u,v,l,k,j⟩,i⟩=>by
  have g:=Zt d a bs i;simp only [Op.eqFields,m,ne_eq,not_false_eq_true,iL,Sem.run_bind,l,k,j d,Result.andThen_ok];cases b with
  |true=>simpa using g
  |false=>simp
variable {b:List Field}
theorem YG(o c:List θ)(bs:List Bool)(r:Bool)(f:P.underlying t=δ (.struct b.toArray))(j:P.stoodInHeld t=η)(k:P.eqGuardType P.depth t=η)(hx:aZ n F x=.agg o.toArray)(h:aZ n F y=.agg c.toArray)
  (l:EqF P w o c b bs) (i:bs.all id=r):(ξ (aZ n F) (⟨δ d,.binOp .eql t x y e,ty,pos,after,ε⟩)).run P w=.ok (.value (.bool r)) w:=by
 have a:P.fieldsOf t=b.toArray:=by simp [Program.fieldsOf,f]
 have g:=run_equalIn_agg w 9999 t o.toArray c.toArray (by rw [a];exact f) j;rw [a]at g;have m:=Zt 9998 b bs l;simp only [ξ,hx,h,Sem.run_bind,run_eqGuard_agg w .eql t x y _ _ k,Result.andThen_ok,run_eql_struct,g,m,i];simp
theorem BM(o c:List θ)(bs:List Bool)(r:Bool)(f:P.underlying t=δ (.struct b.toArray))(j:P.stoodInHeld t=η)(k:P.eqGuardType P.depth t=η)(hx:aZ n F x=.agg o.toArray)(h:aZ n F y=.agg c.toArray)
  (l:EqF P w o c b bs) (i:bs.all id=r):(ξ (aZ n F) (⟨δ d,.binOp .neq t x y e,ty,pos,after,ε⟩)).run P w=.ok (.value (.bool (!r))) w:=by
 have a:P.fieldsOf t=b.toArray:=by simp [Program.fieldsOf,f]
 have g:=run_equalIn_agg w 9999 t o.toArray c.toArray (by rw [a];exact f) j;rw [a]at g;have m:=Zt 9998 b bs l;simp only [ξ,hx,h,Sem.run_bind,run_eqGuard_agg w .neq t x y _ _ k,Result.andThen_ok,run_neq_struct,g,m,i];simp
theorem BR(c a:List θ)(bs:List Bool)(r:Bool)(f:P.underlying t=δ (.struct b.toArray))(i:P.stoodInHeld t=η)(j:P.eqGuardType P.depth t=η)(hx:aZ n F x=.agg c.toArray)(l:aZ n F y=.agg a.toArray)
  (k:EqF P w c a b bs) (g:bs.all id=r) (h:W P n ops Q rest (dV F d (.bool (!r))) w):W P n ops Q (⟨δ d,.binOp .neq t x y e,ty,pos,after,ε⟩::rest) F w:=gN rfl rfl (BM c a bs r f i j hx l k g) h
end
variable {w:ν}{a:Option χ}{l:List UInt8}
theorem Rd.bytes(h:Rd w a (l.flatMap eB)):Rd w a (l.map bt):=mO l▸h
theorem Rd.jQ(h:Rd w a (l.map bt)):Rd w a (l.flatMap eB):=(mO l).symm▸h
variable {c:ν}{S:List Nat}{L:List cB}{b:List θ}
theorem Rd.XB(h:Rd w a b)(d:Hp w S L c)(e:b≠[]->∀p,a=δ p->p.block∉S):Rd c a b:=by
 cases b with
 |nil=>exact Rd.nil _ _
 |cons x b=>exact h.hpS d (e aA2)
theorem Rd.Hl{α:Type}{f:α->List θ}{sz:Nat}{l:List α}(c:oY f sz)(cap k:Nat)(d:γ l<=cap)(h:Rd w a (l.flatMap f)):Rd w (Rp a cap k sz) ((l.drop k).flatMap f):=by
 unfold Rp;split
 ·rename_i e;rw [af aA0];exact Rd.nil _ _
 ·rw [<-oN f sz c.len l k];cases a with
  |none=>intro j v b;rw [bZ]at b;obtain⟨p,hp,_⟩:=h _ v b;cases hp
  |some p=>exact h.drop _
theorem Hp.Cf{L1:List cB}(h:Hp w S L c)(m:Nat)(n:Rd w a b)(d:b≠[]->∀p,a=δ p->p.block∉S)(o:L.take m=L1):
  b≠[]->∀p,a=δ p->p.block∉dE L1:=by
 intro hx p f j;obtain⟨r,i,l⟩:=nZ j;subst o;have s:=(h.res r (Cw i)).2 p.block l;rcases s.2 with g|g
 ·cases b with
  |nil=>exact hx rfl
  |cons x b=>obtain⟨q,e,k⟩:=n 0 x rfl;rw [f]at e;cases e;have:=By k;rw [bbw]at this;omega
 ·exact d hx p f g
def jmp:Nat->Option Code
 |0=>ε
 |1=>δ .ret
 |n+2=>δ (.exit n)
def Z5(j:Nat):LoopState:=if j=0 then .ready else .done
def cH(l j:Nat)(a:Loop):cB:=⟨δ l,λo=>o=δ (.loop {a with state:=Z5 j,pending:=jmp j})⟩
def Gz(l:Nat)(a:Loop):cB:=⟨δ l,λo=>∃b,o=δ (.loop {a with state:=.busy,pending:=b})⟩
def Bt(r:Nat):cB:=⟨δ r,λo=>o=δ (.deferred (δ []))⟩
def gone(r:Nat):cB:=⟨δ r,λ_=>True⟩
theorem Hp.put(h:Hp w S L c)(k b:Nat)(r r':cB)(o:Obj)(g:L[k]? =δ r)(d:r.own=δ b)(a:r'.own=δ b)(m:r'.ok (δ o)):Hp w S (L.set k r') (c.putObj b o):=by
 have l:=((h.res _ (aG g)).2 b d).1;refine h.change k _ _ g rfl rfl rfl aA2 (λj n f=>World.putObj_heap_other (λe=>f (by rw [d,e]))) ?_ (λp i=> ?_)
 ·unfold cB.holds;rw [a];simp;rw [World.putObj_heap_same l];exact m
 ·rw [a]at i;cases i;exact⟨.inl d,by simpa using l⟩
theorem Hp.AO(h:Hp w S L c)(o:Obj)(r:cB)(a:r.own=δ c.heap.size)(d:r.ok (δ o)):Hp w S (r::L) (c.alloc o):=by
 have f:Hp c [] [r] (c.alloc o):=by
  refine⟨rfl,rfl,rfl,aA2,λk e _=>RowKit.Below.heap_alloc c _ k e,λx hx=> ?_,aA2⟩;simp at hx;subst hx;refine⟨?_,λb g=> ?_⟩
  ·unfold cB.holds;rw [a];show x.ok ((c.heap.push o)[c.heap.size]?);simpa using d
  ·rw [a]at g;cases g;simp
 exact h.mQ f
def YR(P:ω)(l:Nat)(args:List θ)(w:ν)(R:θ->ν->Prop):Prop:=
 ∃f a gK b,(Instr.yield l args.toArray).run P w=.ok (.round l f a gK b) w/\RoundIn Fence.wide 0 P l f a gK b w (λe w'=>∃v,e=.returned v/\R v w')
theorem YR.mono{P:ω}{l:Nat}{args:List θ}{w:ν}{R b:θ->ν->Prop}(h:YR P l args w R)(d:∀v w',R v w'->b v w'):YR P l args w b:=by obtain⟨f,a,gK,k,j,i⟩:=h;exact⟨f,a,gK,k,j,i.mono λe w' ⟨v,c,g⟩=>⟨v,c,d v w' g⟩⟩
section
variable {P:ω}{ops:Array ψ}{Q:Exit->Act->ν->Prop}{F:Nat->θ}{w w0:ν}{S:List Nat}{L:List cB}
variable {d:Nat}{ty:φ}{pos:String}{after:Array Edge}{rest:List ψ}{k:Nat}{D:List Deferred}{ro:Option Nat}
variable {g:π}
theorem zF{gK:Array π}{c:Array φ}(l:Nat)(vs:List θ)(R:θ->ν->Prop)
  (m:aZ ⟨k,D,δ ro⟩ F g=.func (.yield l) #[] #[]) (p: #[]++gK.map (aZ ⟨k,D,δ ro⟩ F)++ #[]=vs.toArray) (o:YR P l vs w R) (h:∀v w',R v w'->W P ⟨k,D,δ ro⟩ ops Q rest (dV F d v) w'):
  W P ⟨k,D,δ ro⟩ ops Q (⟨δ d,.call ⟨.value g,gK,c⟩,ty,pos,after,ε⟩::rest) F w:=by
 obtain⟨f,b,i,t,s,r⟩:=o;have a:(ξ (aZ ⟨k,D,δ ro⟩ F) (⟨δ d,.call ⟨.value g,gK,c⟩,ty,pos,after,ε⟩:ψ)).run P w=.ok (.round l f b i t) w:=by simp only [ξ,resolve,m,Deferred.ofValue];show Sem.run P (Instr.yield l (#[]++gK.map (aZ ⟨k,D,δ ro⟩ F)++ #[])) w=_;rw [p];exact s
 unfold W WR;refine wpListIn_plain rfl λK q=>⟨λ_ _=>trivial, ?_⟩;rw [IA,nN _ a (λd e=>by cases e),a,Oper.uponIn_round];refine⟨λh=>absurd h Qv, ?_⟩;refine RoundIn.mono (F:=Fence.wide) (n:=0) r ?_;rintro e w' ⟨v,rfl,j⟩;refine q _ _ ?_;have:=h v w' j;unfold W WR at this;rw [<-lL]at this;exact this
variable {e:FuncId}{c:Func}{f:Code}{a:List θ}{R:θ->ν->Prop}
theorem KQ(d:P.funcs[e]? =δ c)(g:c.body=δ f)(i:c.ntmps=k)(b:γ a<=k)
  (h:C P ⟨k,[],δ ε⟩ (bodyPost P c λj w'=>∃v,j=.returned v/\R v w') f (LN a) w):CR P e a w R:=by
 refine(callsIn_wide (n:=0)).1 (callsIn_of_wp d g trivial ?_);rw [i,Zq a k b];unfold C CC at h;exact h
theorem KP(d:P.funcs[e]? =δ c)(g:c.body=δ f)(i:c.ntmps=k)(b:γ a<=k)
  (h:C P ⟨k,[],δ ε⟩ (bodyPostM Fence.wide 0 P c λj w'=>∃v,j=.returned v/\R v w') f (LN a) w):CR P e a w R:=by
 refine(callsIn_wide (n:=0)).1 (callsIn_of_wp_marks d g trivial ?_);rw [i,Zq a k b];unfold C CC at h;exact h
def mark(r:Nat):Deferred:={target:=.collected r,args:= #[]}
theorem xp(h:∃v,(results c (fr ⟨k,[],ε⟩ F).tmps).run P w=.ok v w/\R v w):
  bodyPostM Fence.wide 0 P c (λe w'=>∃v,e=.returned v/\R v w') .ret (fr ⟨k,[],δ ε⟩ F) w:=by
 obtain⟨v,b,a⟩:=h;exact⟨v,b,v,rfl,a⟩
theorem xo(i:Hp w0 S L w)(a r:Nat)(b:L[a]? =δ (Bt r))(h:∀w',Hp w0 S (L.set a (gone r)) w'->∃v,(results c (fr ⟨k,[],ε⟩ F).tmps).run P w'=.ok v w'/\R v w'):
  bodyPostM Fence.wide 0 P c (λe w'=>∃v,e=.returned v/\R v w') .ret (fr ⟨k,[mark r],δ ε⟩ F) w:=by
 have d:=(i.res _ (aG b)).1;obtain⟨v,g,f⟩:=h _ (i.put a r _ _ _ b rfl rfl trivial);exact⟨aA2,.inl ⟨r,_,rfl,run_takeDeferred d,v,g,v,rfl,f⟩⟩
theorem NY{c:Nat}{fn:Func}{R:θ->ν->Prop}(l:List ResultVar)(vs:List θ)(v:θ)(f:fn.results=l.toArray)(g:γ l=γ vs)
  (e:∀(i:Nat) (x:ResultVar) (v:θ),l[i]? =δ x->vs[i]? =δ v->Wu P c F w x v) (b:(match vs with|[u]=>u|d=>.tuple d.toArray)=v) (h:R v w):
  ∃v,(results fn (fr ⟨c,[],ε⟩ F).tmps).run P w=.ok v w/\R v w:=⟨v,sL l vs f g e v aC6,h⟩
theorem Mz{fn:Func}{R:θ->ν->Prop}(l:List ResultVar)(vs:List θ)(v:θ)(f:fn.results=l.toArray)(g:γ l=γ vs)
  (d:∀(i:Nat) (x:ResultVar) (v:θ),l[i]? =δ x->vs[i]? =δ v->Wu P k F w x v) (b:(match vs with|[u]=>u|c=>.tuple c.toArray)=v) (h:R v w):
  bodyPostM Fence.wide 0 P fn (λe w'=>∃v,e=.returned v/\R v w') .ret (fr ⟨k,[],δ ε⟩ F) w:=
 xp (NY l vs v f g d aC6 h)
theorem Yw{fn:Func}{R:θ->ν->Prop}(o:Hp w0 S L w)(c r:Nat)(n:L[c]? =δ (Bt r))(l:List ResultVar)(vs:List θ)(v:θ)(j:fn.results=l.toArray)(m:γ l=γ vs)
  (g:∀w',Hp w0 S (L.set c (gone r)) w'->∀(i:Nat) (x:ResultVar) (v:θ),l[i]? =δ x->vs[i]? =δ v->Wu P k F w' x v) (b:(match vs with|[u]=>u|f=>.tuple f.toArray)=v) (h:∀w',Hp w0 S (L.set c (gone r)) w'->R v w'):
  bodyPostM Fence.wide 0 P fn (λe w'=>∃v,e=.returned v/\R v w') .ret (fr ⟨k,[mark r],δ ε⟩ F) w:=
 xo o c r n λw' d=>NY l vs v j m (g w' d) aC6 (h w' d)
def RgQ(P:ω)(k r:Nat)(Q:Exit->Act->ν->Prop)(F:Nat->θ)(j:Nat)(w:ν):Prop:=
 match jmp j with
 |none=>Q .normal (fr ⟨k,[mark r],δ ε⟩ F) w
 |some c=>C P ⟨k,[mark r],δ ε⟩ Q c F w
variable {l:Nat}
theorem rg0{j:Nat}(a:j=0)(h:Q .normal (fr ⟨k,[mark l],δ ε⟩ F) w):RgQ P k l Q F j w:=by subst a;exact h
theorem rg1{j:Nat}(a:j=1)(h:C P ⟨k,[mark l],δ ε⟩ Q .ret F w):RgQ P k l Q F j w:=by subst a;exact h
theorem tQ{b:Array Tmp}{assign body:Code}(A:Hp w0 S L w)(f:Nat)(cap:List θ)(x:aZ ⟨k,[],δ ε⟩ F g=.func (.func f) #[] cap.toArray)(B:Enters P f)
  (h:∀r l a q,a.assign=assign->a.body=body->a.params=b->a.tmps=(fr ⟨k,[],δ ε⟩ F).tmps->Hp w0 S (cH l 0 a::Bt r::L) q->
   CR P f (.func (.yield l) #[] #[]::cap) q λ_ i=>∃j o,Hp w0 S (cH l j a::o) i/\∀p,Hp w0 S o p->RgQ P k r Q F j p):
  C P ⟨k,[],δ ε⟩ Q (.rangeFunc g b assign body) F w:=by
 unfold C CC;refine wpIn_rangeFunc λfn _=> ?_;have n:=A.AO _ (Bt w.heap.size) rfl rfl;have m:=n.AO _ (cH (w.heap.size+1) 0 {state:=.ready,pending:=ε,fn:=fn,tmps:=(fr ⟨k,[],δ ε⟩ F).tmps,params:=b,assign:=assign,body:=body,defers:=w.heap.size}) (by simp [cH]) rfl;have y:=h w.heap.size _ _ _ rfl rfl rfl rfl m;refine⟨w.heap.size+1,[mark w.heap.size],((w.alloc _).alloc _),{target:=.fn (.func f) cap.toArray,args:= #[]++ #[.func (.yield (w.heap.size+1)) #[] #[]]},((w.alloc (.deferred (δ []))).alloc (.loop {state:=.ready,pending:=ε,fn:=fn,tmps:=(fr ⟨k,[],δ ε⟩ F).tmps,params:=b,assign:=assign,body:=body,defers:=w.heap.size})),f,(Γ (.yield (w.heap.size+1)) #[] #[]::cap).toArray,((w.alloc (.deferred (δ []))).alloc (.loop {state:=.ready,pending:=ε,fn:=fn,tmps:=(fr ⟨k,[],δ ε⟩ F).tmps,params:=b,assign:=assign,body:=body,defers:=w.heap.size})),run_enterLoop_outer fn _ _ _ _, ?_,λ_ _=>trivial, ?_,λh=>absurd h Qv, ?_⟩
 ·rw [IA];simp only [resolve,x];simp;rfl
 ·have e:(#[]++ #[Γ (.yield (w.heap.size+1)) #[] #[]]:Array θ)++cap.toArray=(Γ (.yield (w.heap.size+1)) #[] #[]::cap).toArray:=by simp
  rw [<-e];exact B.run _ _
 ·refine(callsIn_wide).2 (Calls.mono y ?_);rintro e i ⟨v,rfl,j,o,s,E⟩;have u:i.heap[w.heap.size+1]? =_:=(s.res _ (fE)).1;have z:Z5 j≠.busy:=by unfold Z5;split<;>simp
  refine⟨jmp j,_,run_endLoop u z, ?_⟩;have D:=(s.put 0 _ _ (gone _) (.loop {({state:=.ready,pending:=ε,fn:=fn,tmps:=(fr ⟨k,[],δ ε⟩ F).tmps,params:=b,assign:=assign,body:=body,defers:=w.heap.size}:Loop)with state:=.exhausted,pending:=jmp j}) rfl rfl rfl trivial).tail;have d:=E _ D;unfold RgQ at d;revert d;generalize jmp j=t;intro d;cases t with
  |none=>exact d
  |some c=>unfold C CC at d;exact d
def Xd(F:Nat->θ):List Nat->List θ->Nat->θ
 |p::b,v::a=>Xd (dV F p v) b a
 |_,_=>F
theorem Tf(m:Md):∀a vs F,(a.zip vs).foldl (λt x=>t.setIfInBounds x.1 x.2) (fr m F).tmps=(fr m (Xd F a vs)).tmps
 |[],_,F=>by simp [Xd]
 |_::_,[],F=>by simp [Xd]
 |p::a,v::vs,F=>by simp only [List.zip_cons_cons,RQ,Xd];rw [<-Tf m a vs _];congr 1;have:=lL m F p v;exact aV Act.tmps this
def AsgQ(P:ω)(l:Nat)(c:Code)(R:θ->ν->Prop):Exit->Act->ν->Prop:=
 Exit.then (λd b=>∃a,(Instr.beginRound l).run P b=.ok () a/\c.wpIn (Sf (δ l)) 0 P (roundPost P l λe w'=>∃v,e=.returned v/\R v w') d a) (λ_ _ _=>False)
def Y0(P:ω)(l:Nat)(R:θ->ν->Prop):Exit->Act->ν->Prop:=roundPost P l λe w'=>∃v,e=.returned v/\R v w'
variable {b:Loop}
theorem Kh{t:List Nat}{m:Option (Option Nat)}{c:Code}(q:Hp w0 S L w)(kl:Nat)(n:L[kl]? =δ (cH l 0 b))(p:b.assign=f)(o:b.body=c)(d:b.params=t.toArray)(g:b.tmps=(fr ⟨k,[],m⟩ F).tmps)(j:γ t=γ a)
  (h:C P ⟨k,[],δ (δ l)⟩ (AsgQ P l c R) f (Xd F t a) w):YR P l a w R:=by
 have i:=(q.res _ (aG n)).1;subst p;subst o;refine⟨b.fn,_,b.assign,b.body,run_yield (r:={b with state:=Z5 0,pending:=jmp 0}) i (by simp [d,j]), ?_⟩;refine roundIn_of_wpIn trivial ?_;have e:(({b with state:=Z5 0,pending:=jmp 0}:Loop).params.zip a.toArray).foldl (λtmps x=>tmps.setIfInBounds x.1 x.2) ({b with state:=Z5 0,pending:=jmp 0}:Loop).tmps=(fr ⟨k,[],δ (δ l)⟩ (Xd F t a)).tmps:=by rw [d,g];have:=Tf ⟨k,[],m⟩ t a F;rw [show(fr ⟨k,[],δ _⟩ _).tmps=(fr ⟨k,[],m⟩ (Xd F t a)).tmps from rfl,<-this];simp
 unfold C CC at h;have s:fr ⟨k,[],δ _⟩ _={tmps:=(fr ⟨k,[],δ (δ l)⟩ (Xd F t a)).tmps,defers:=[]}:=rfl;rw [s,<-e]at h;exact h
theorem Py(d:Hp w0 S L w)(kl:Nat)(c:L[kl]? =δ (cH l 0 b))(h:∀a,Hp w0 S (L.set kl (Gz l b)) a->C P ⟨k,[],δ (δ l)⟩ (Y0 P l R) f F a):
  AsgQ P l f R .normal (fr ⟨k,[],δ (δ l)⟩ F) w:=by
 have g:=(d.res _ (aG c)).1;have e:=h _ (d.put kl l _ _ (.loop {b with state:=.busy,pending:=jmp 0}) c rfl rfl ⟨_,rfl⟩);unfold C CC Y0 at e;exact⟨_,run_beginRound g rfl,e⟩
theorem NT(j:Nat)(e:Hp w0 S L w)(kl:Nat)(d:L[kl]? =δ (Gz l b))(h:∀w',Hp w0 S (L.set kl (cH l j b)) w'->R (.bool (decide (j=0))) w'):
  ∃v w',(Instr.endRound l (jmp j)).run P w=.ok v w'/\∃u,Ending.returned v=.returned u/\R u w':=by
 obtain⟨k,f⟩:=(e.res _ (aG d)).1;have a:=f;have c:(jmp j).isNone=decide (j=0):=by
  cases j with
  |zero=>rfl
  |succ n=>cases n<;>rfl
 have i:(if(jmp j).isNone=ζ then LoopState.ready else .done)=Z5 j:=by rw [c];unfold Z5;simp
 refine⟨_,_,run_endRound _ a,_,rfl, ?_⟩;rw [c];refine h _ ?_;have g:=e.put kl l _ (cH l j b) (.loop {b with state:=Z5 j,pending:=jmp j}) d rfl rfl rfl;rw [<-c,i];exact g
theorem pV(c:Hp w0 S L w)(kl:Nat)(a:L[kl]? =δ (Gz l b))(h:∀w',Hp w0 S (L.set kl (cH l 0 b)) w'->R (.bool ζ) w'):Y0 P l R .normal (fr ⟨k,[],δ (δ l)⟩ F) w:=NT 0 c kl a h
theorem NS(c:Hp w0 S L w)(kl:Nat)(a:L[kl]? =δ (Gz l b))(h:∀w',Hp w0 S (L.set kl (cH l 1 b)) w'->R (.bool η) w'):Y0 P l R .ret (fr ⟨k,[],δ (δ l)⟩ F) w:=NT 1 c kl a h
end
attribute [irreducible] RgQ AsgQ Y0
open List renaming replicate → fH
open Nat renaming blt → gA
open _root_.Array renaming replicate → HU
def NoD(ops:Array ψ):Prop:=∀(j:Nat) o c,ops[j]? =δ o->o.op≠.defer c
def NoPD(ops:Array ψ)(Q:Exit->Act->ν->Prop):Prop:=HO Q/\NoD ops
section
variable {P:ω}{ops:Array ψ}{Q:Exit->Act->ν->Prop}{md:Region.Mode}{S:Nat->ν->ν->Prop}{x:Option Nat}
variable {o:ψ}{w:ν}
theorem qJ{x:Option Nat}{ρ:π->θ}:∀f,o.about P w ρ=δ f->(Sf x).fn f:=λ_ _=>trivial
variable {a:ν->Prop}{i:Nat}{v:θ}{b:Act}{K:Act->ν->Prop}
theorem _root_.Go.YieldsIf.oq(f:ops[i]? =δ o)(g:∀c,o.op≠.defer c)(j:a w)(d:YieldsIf P ops a o v b)(h:K (b.put o.dst v) w):wpOpIn (Sf x) 0 P ops Q i K b w:=by
 unfold wpOpIn;simp only [f];rcases d with⟨k,e⟩|⟨k,rfl⟩
 ·simp only [k,Oper.wpIn,Oper.semAt_eq _ _ _ g,e w j];exact⟨qJ,h⟩
 ·simp only [k];exact⟨qJ,h⟩
theorem Wy{I:ψ}(G:ops[i]? =δ I)(A:o.apart ops I=ζ)
  (z:∀cs j,o.op≠.select cs j) (t:∀cs j,I.op≠.select cs j) (q:∀c,I.op≠.defer c)
  (B:∀c b w,Q (.panic c) (b.put o.dst v) w->Q (.panic c) b w)   
  (k:YieldsIf P ops a o v b) (h:wpOpIn (Sf x) 0 P ops Q i K (b.put o.dst v) w):
  wpOpIn (Sf x) 0 P ops Q i (λa' w'=>YieldsIf P ops a o v a'/\K (a'.put o.dst v) w') b w:=by
 obtain⟨E,H,D⟩:=Oper.apart_spec A;have g:∀b,YieldsIf P ops a o v b->∀u,YieldsIf P ops a o v _:=λb k u=>
  k.of_same (execOp_put o z b I.dst u D) (wanted_put o b I.dst u D)
 have n:∀d,YieldsIf P ops a o v {b with defers:=d::b.defers}:=λd=>k.of_same rfl rfl;unfold wpOpIn at*;simp only [G]at*;rw [wanted_put I b o.dst v E]at h;split
 ·rename_i s;simp only [s]at h;refine⟨qJ, ?_⟩;have h:=h.2;rw [Oper.semAt_eq _ _ _ q,execOp_put I t b o.dst v E]at h;rw [Oper.semAt_eq _ _ _ q];generalize(ξ b.eval I).run P w=r at*
  cases r with
  |ok y w'=>
   cases y<;>simp only [Oper.uponIn]at h⊢
   case value u=>exact⟨g b k u,by rw [<-Act.put_comm b v u H];exact h⟩
   case skip=>exact⟨g b k _,by rw [<-Act.put_comm b v undef H];exact h⟩
   case defer d=>
    refine⟨g _ (n d) _, ?_⟩;rw [<-Act.put_comm _ v undef H,<-Act.put_defers];exact h
   case enter f args=>
    refine⟨h.1,CallsIn.mono h.2 λe p m=> ?_⟩;cases e with
    |returned u=>exact⟨g b k u,by rw [<-Act.put_comm b v u H];exact m⟩
    |panicked c=>exact B _ _ _ m
    |outgrown=>exact m
   case row row args=>exact⟨h.1,RowsIn.mono h.2 λu p m=>⟨g b k u,by rw [<-Act.put_comm b v u H];exact m⟩⟩
   case round l f C assign F=>
    refine⟨h.1,RoundIn.mono h.2 λe p m=> ?_⟩;cases e with
    |returned u=>exact⟨g b k u,by rw [<-Act.put_comm b v u H];exact m⟩
    |panicked c=>exact B _ _ _ m
    |outgrown=>exact m
  |halt y w'=>
   cases y<;>simp only [Oper.uponIn]at h⊢
   case panic u=>exact B _ _ _ h
 ·rename_i s;simp only [s]at h;exact⟨qJ,g b k _,by rw [<-Act.put_comm b v undef H];exact h.2⟩
theorem sB{Q':Exit->Act->ν->Prop}:∀l k listed a w,(∀j,l[j]? =ops[k+j]?)->
  Region.seqB md ops (γ l) k listed=ζ->wpListIn (Sf x) 0 P ops Q' l a w->wpAnyIn (Sf x) 0 P md ops Q' (γ l) listed a w
 |[],_,_,_,_,_,b,h=>⟨by simpa [Region.seqB] using b,h⟩
 |o::l,k,listed,a,w,d,b,h=>by
  have m:ops[k]? =δ o:=by simpa using (d 0).symm
  simp only [bX,Region.seqB,hO,bD]at b;refine⟨λf=>(by rw [b.1]at f;cases f),λi e=> ?_⟩;rw [b.1]at e;have c:i=k:=aD2;subst c;have g:wpOpIn (Sf x) 0 P ops Q' i (wpListIn (Sf x) 0 P ops Q' l) a w:=by unfold wpOpIn;simp only [m];exact h
  exact wpOpIn_mono (λa' w' n=>sB l _ _ a' w' (λj=>by have:=d (j+1);simpa [De,Jc 1 j] using this) b.2 n) g
def Df(x:Option Nat)(P:ω)(md:Region.Mode)(ops:Array ψ)(Q:Exit->Act->ν->Prop)(S:Nat->ν->ν->Prop)(k:Nat)(Z:Act->ν->Prop):Nat->Array Bool->Act->ν->Prop
 |0,listed,a,w=>Region.seqB md ops (ops.size-k) k listed=ζ/\Z a w
 |f+1,listed,a,w=>Β md ops listed≠[]/\∀i∈Β md ops listed,i<k/\wpOpIn (Sf x) 0 P ops Q i (λa' w'=>S i w w'/\Df x P md ops Q S k Z f (listed.setIfInBounds i ζ) a' w') a w
theorem DG{k:Nat}{Z:Act->ν->Prop}(d:k<=ops.size)(c:∀a w,Z a w->wpListIn (Sf x) 0 P ops Q (ops.toList.drop k) a w):
  ∀f listed a w,Df x P md ops Q S k Z f listed a w->wpAnyIn (Sf x) 0 P md ops Q (f+(ops.size-k)) listed a w
 |0,listed,a,w,h=>by have b:γ (ops.toList.drop k)=ops.size-k:=aA2;have:=sB (Q':=Q) (ops.toList.drop k) k listed a w (λj=>by simp) (by rw [b];exact h.1) (c a w h.2);rw [b]at this;rw [Ta];exact this
 |f+1,listed,a,w,h=>by rw [show f+1+(ops.size-k)=(f+(ops.size-k))+1 by omega];exact⟨λg=>absurd g h.1,λi e=>wpOpIn_mono (λa' w' l=>DG d c f _ a' w' l.2) (h.2 i e).2⟩
theorem JM{Z:Nat}(Si:ν->Prop)(D:List Nat)(hD:Pf md ops Z D=ζ)(U:∀j w w',S j w w'->dD D Si j w w')(I:ops[Z]? =δ o)(y:∀(j:Nat) a0 cs b,ops[j]? =δ a0->a0.op≠.select cs b)
  (hQ:∀c a w,Q (.panic c) (a.put o.dst v) w->Q (.panic c) a w) (C:NoD ops) (a1:Z<i)
  (l:∀listed:Array Bool,HeadInv md ops i listed->listed.getD Z ζ=η->∀t,i<=t->t∉Β md ops listed):
  ∀f listed a w,HeadInv md ops i listed->
   (∀j u,ops[j]? =δ u->j≠Z->listed.getD j ζ=η->(∀e∈u.after,Region.binds md e=ζ->e.on≠Z)->o.apart ops u=ζ)->
   Z∈Β md ops listed->YieldsIf P ops Si o v a->Si w->(∀j w,S j w w)->
   Df x P md ops Q S i K f (listed.setIfInBounds Z ζ) (a.put o.dst v) w->Df x P md ops Q S i K (f+1) listed a w:=by
 intro f;induction f with
 |zero=>
  intro listed a w n g z k L s H;have p:=(mem_ready.1 z).1;refine⟨λV=>(by rw [V]at z;cases z),λj B=> ?_⟩
  have q:j<i:=by
   rcases uB j i with h|h
   ·exact h
   ·exact absurd B (l listed n p j h)
  by_cases d:j=Z
  ·subst d;exact⟨q,k.oq I (λc=>C j o c I) L ⟨s _ _,H⟩⟩
  ·have W:=seqB_ready H.1 j (ready_mono B d);omega
 |succ f Y=>
  intro listed a w n g z k L s H;have p:=(mem_ready.1 z).1;refine⟨λV=>(by rw [V]at z;cases z),λj B=> ?_⟩
  have q:j<i:=by
   rcases uB j i with h|h
   ·exact h
   ·exact absurd B (l listed n p j h)
  by_cases d:j=Z
  ·subst d;exact⟨q,k.oq I (λc=>C j o c I) L ⟨s _ _,H⟩⟩
  ·have W:=(H.2 j (ready_mono B d)).2;have T:=Pe hD n p B;obtain⟨A,u,r,J⟩:=mem_ready.1 B;have F:∀e∈u.after,Region.binds md e=ζ->e.on≠Z:=λe he hb heq=>by have N:=J e he hb;rw [heq,getD_both p]at N;cases N
   have N:=Wy r (g j u r d A F) (λcs b=>y Z o cs b I) (λcs b=>y j u cs b r) (λc=>C j u c r) hQ k W;refine⟨q,wpOpIn_mono (λa' w' M=>⟨M.2.1,Y _ a' w' (n.set B q) (λm X hm R E O=>g m X hm R ?_ O) (ready_mono z (Ne.symm d)) M.1 (U j _ w' M.2.1 (by simpa using T) L) s ?_⟩) N⟩
   ·by_cases G:j=m
    ·subst G;exact A
    ·rw [getD_set_ne ζ G]at E;exact E
   ·rw [Array.setIfInBounds_comm _ _ d];exact M.2.2
end
section
variable {P:ω}{kn:Nat}{kD:List Deferred}{ops:Array ψ}{Q:Exit->Act->ν->Prop}{S:Nat->ν->ν->Prop}{Si:ν->Prop}{F:Nat->θ}{w:ν}{x:Option Nat}
def RI(x:Option Nat)(P:ω)(n:Md)(ops:Array ψ)(Q:Exit->Act->ν->Prop)(S:Nat->ν->ν->Prop)(k f:Nat)(listed:List Bool)(F:Nat->θ)(w:ν):Prop:=
 HeadInv .any ops k listed.toArray->(∀j w,S j w w)->NoPD ops Q->Df x P .any ops Q S k (λa w=>wpListIn (Sf x) 0 P ops Q (ops.toList.drop k) a w) f listed.toArray (fr n F) w
def RKI(x:Option Nat)(P:ω)(n:Md)(ops:Array ψ)(Q:Exit->Act->ν->Prop)(S:Nat->ν->ν->Prop)(k f:Nat)(listed:List Bool)(i:Nat)(w:ν):Exit->Act->ν->Prop:=
 Exit.then (λa' w'=>∃a,a'=fr n a/\S i w w'/\RI x P n ops Q S k f listed a w') Q
variable {b:ν}{k:Nat}
theorem U2{S0:List Nat}{L:List cB}{l:List ψ}(s:Nat)(S:Nat->ν->ν->Prop)(listed:List Bool)(u:∀j w,S j w w)(m:P.follows .mixedOrders=ζ)(f:Fx l.toArray s=ζ)
  (p:Hp b S0 L w) (d:fH (γ l) η=listed) (o:NoPD l.toArray Q) (h:∀w',Hp b S0 L w'->RI x P ⟨kn,kD,δ x⟩ l.toArray Q S s s listed F w'):C P ⟨kn,kD,δ x⟩ Q (.region k l.toArray ζ) F w:=by
 unfold C CC;have n:s<=l.toArray.size:=by simp only [Fx,hO,bD]at f;exact f.1.2
 have c:HeadInv .any l.toArray s (HU l.toArray.size η):=
  ⟨aA2,λj r _ d=>(by rw [getD_replicate_false]at d;cases d),λt _ i=>getD_in (by simpa using i) (getD_replicate_false _ _)⟩
 have e:listed.toArray=HU l.toArray.size η:=by subst d;simp
 refine wpIn_region_any m ?_;have q:=h _ p.QM (by rw [e];exact c) u o;have g:=DG n (λa w h=>h) s _ _ _ q;rw [e,show s+(l.toArray.size-s)=l.toArray.size by omega]at g;exact g
variable {f:Nat}{a:List Bool}
theorem E4(b:List Bool)(i d:Nat)(v:θ)(D:List Nat)(t:∀j w w',S j w w'->dD D Si j w w')(o:ψ)(y:ops[i]? =δ o)(C:o.dst=δ d)(r:Fx ops k=ζ)(G:Pf .any ops i D=ζ)(m:Region.free .any ops a.toArray i=ζ)
  (A:(Β .any ops a.toArray).contains i=ζ) (s:gA i k=ζ) (B:a.set i ζ=b) (z:YieldsIf P ops Si o v (fr ⟨kn,kD,δ x⟩ F)) (E:Si w)
  (h:RI x P ⟨kn,kD,δ x⟩ ops Q S k f b (dV F d v) w):RI x P ⟨kn,kD,δ x⟩ ops Q S k (f+1) a F w:=by
 intro n e u;have g:i<k:=by simpa [jK] using s
 have q:i∈Β .any ops a.toArray:=by simpa using A
 have p:Region.noSelect ops=ζ:=by simp only [Fx,hO]at r;exact r.1.1
 refine JM Si D G t y (Region.noSelect_spec p) (λc H w h=>absurd h (u.1 c _ w)) u.2 g (sJ r g) f _ _ _ n (Region.free_spec y m) q z E e ?_;have l:=n.set q g;rw [pU,B]at l⊢;have:=h l e u;rw [<-lL,<-C]at this;exact this
theorem DR{o:ψ}{K:Act->ν->Prop}{a:Act}(c:ops[k]? =δ o)(h:wpListIn (Sf x) 0 P ops (Exit.then K Q) [o] a w):wpOpIn (Sf x) 0 P ops Q k K a w:=by
 unfold wpOpIn;simp only [c];unfold wpListIn at h;split
 ·rename_i b;rw [aB b]at h;refine⟨h.1, ?_⟩;have h:=h.2;generalize(o.semAt (Sf x).round a.eval).run P w=r at*
  cases r with
  |ok y w'=>cases y<;>exact h
  |halt y w'=>cases y<;>exact h
 ·rename_i b;rw [aA b]at h;exact h
theorem dr(b:List Bool)(i:Nat)(o:ψ)(m:ops[i]? =δ o)(n:a.set i ζ=b)(g:HeadInv .any ops k a.toArray)(d:∀j w,S j w w)(r:NoPD ops Q)
  (l:i∈Β .any ops a.toArray) (e:i<k) (h:W P ⟨kn,kD,δ x⟩ ops (RKI x P ⟨kn,kD,δ x⟩ ops Q S k f b i w) [o] F w):
  i<k/\wpOpIn (Sf x) 0 P ops Q i (λa' w'=>S i w w'/\Df x P .any ops Q S k (λt w=>wpListIn (Sf x) 0 P ops Q (ops.toList.drop k) t w) f (a.toArray.setIfInBounds i ζ) a' w') (fr ⟨kn,kD,δ x⟩ F) w:=by
 refine⟨e, ?_⟩;have c:=g.set l e;rw [pU,n]at c⊢;unfold W WR RKI at h;refine wpOpIn_mono ?_ (DR m h);rintro a' w' ⟨s,rfl,p,q⟩;exact⟨p,q c d r⟩
theorem dt(p:List Bool)(i:Nat)(o:ψ)(l:ops[i]? =δ o)(d:Β .any ops a.toArray=[i])(e:gA i k=ζ)(m:a.set i ζ=p)
  (h:W P ⟨kn,kD,δ x⟩ ops (RKI x P ⟨kn,kD,δ x⟩ ops Q S k f p i w) [o] F w):RI x P ⟨kn,kD,δ x⟩ ops Q S k (f+1) a F w:=by
 intro c b n;refine⟨by rw [d];simp,λj g=> ?_⟩;rw [d]at g;obtain rfl:j=i:=aD9;exact dr p j o l m c b n aD1 (by simpa [jK] using e) h
theorem du{i:Nat}(c:S i b w)(h:RI x P ⟨kn,kD,δ x⟩ ops Q S k f a F w):RKI x P ⟨kn,kD,δ x⟩ ops Q S k f a i b .normal (fr ⟨kn,kD,δ x⟩ F) w:=⟨F,rfl,c,h⟩
theorem dq(c:Region.seqB .any ops (ops.size-k) k a.toArray=ζ)(h:W P ⟨kn,kD,δ x⟩ ops Q (ops.toList.drop k) F w):RI x P ⟨kn,kD,δ x⟩ ops Q S k 0 a F w:=by intro _ _ _;unfold W WR at h;exact⟨c,h⟩
end
section
variable {P:ω}{kn:Nat}{kD:List Deferred}{ro:Option (Option Nat)}{ops:Array ψ}{Q:Exit->Act->ν->Prop}{S:Nat->ν->ν->Prop}{Si:ν->Prop}{F:Nat->θ}{w:ν}
def RO(P:ω)(n:Md)(ops:Array ψ)(Q:Exit->Act->ν->Prop)(S:Nat->ν->ν->Prop)(k f:Nat)(listed:List Bool)(F:Nat->θ)(w:ν):Prop:=
 match n.ro with
 |none=>R P n ops Q S k f listed F w
 |some x=>RI x P n ops Q S k f listed F w
def RKO(P:ω)(n:Md)(ops:Array ψ)(Q:Exit->Act->ν->Prop)(S:Nat->ν->ν->Prop)(k f:Nat)(listed:List Bool)(i:Nat)(w:ν):Exit->Act->ν->Prop:=
 match n.ro with
 |none=>RK P n ops Q S k f listed i w
 |some x=>RKI x P n ops Q S k f listed i w
variable {b:ν}{k:Nat}
theorem U1{S0:List Nat}{L:List cB}{l:List ψ}(i:Nat)(S:Nat->ν->ν->Prop)(listed:List Bool)(a:∀j w,S j w w)(c:P.follows .mixedOrders=ζ)(m:Fx l.toArray i=ζ)
  (f:Hp b S0 L w) (d:fH (γ l) η=listed) (e:HO Q) (g:ro.isSome=ζ->NoD l.toArray) (h:∀w',Hp b S0 L w'->RO P ⟨kn,kD,ro⟩ l.toArray Q S i i listed F w'):C P ⟨kn,kD,ro⟩ Q (.region k l.toArray ζ) F w:=by
 cases ro with
 |none=>exact RA i S listed a c m f d e h
 |some x=>exact U2 i S listed a c m f d ⟨e,g rfl⟩ h
variable {f:Nat}{a:List Bool}
theorem bce(t:List Bool)(i d:Nat)(v:θ)(D:List Nat)(e:∀j w w',S j w w'->dD D Si j w w')(o:ψ)(n:ops[i]? =δ o)(q:o.dst=δ d)(l:Fx ops k=ζ)(s:Pf .any ops i D=ζ)(b:Region.free .any ops a.toArray i=ζ)
  (m:(Β .any ops a.toArray).contains i=ζ) (c:gA i k=ζ) (p:a.set i ζ=t) (g:YieldsIf P ops Si o v (fr ⟨kn,kD,ro⟩ F)) (r:Si w)
  (h:RO P ⟨kn,kD,ro⟩ ops Q S k f t (dV F d v) w):RO P ⟨kn,kD,ro⟩ ops Q S k (f+1) a F w:=by
 cases ro with
 |none=>exact rA t i d v D e o n q l s b m c p g r h
 |some x=>exact E4 t i d v D e o n q l s b m c p g r h
theorem OF(p:List Bool)(i d:Nat)(v:θ)(o:ψ)(l:ops[i]? =δ o)(n:o.dst=δ d)(g:Fx ops k=ζ)(b:Region.free .any ops a.toArray i=ζ)
  (j:(Β .any ops a.toArray).contains i=ζ) (c:gA i k=ζ) (m:a.set i ζ=p) (e:YieldsIf P ops (λ_=>True) o v (fr ⟨kn,kD,ro⟩ F))
  (h:RO P ⟨kn,kD,ro⟩ ops Q S k f p (dV F d v) w):RO P ⟨kn,kD,ro⟩ ops Q S k (f+1) a F w:=
 bce p i d v [] (λ_ _ _ _ _ _=>trivial) o l n g rfl b j c m e trivial h
theorem dp(g:List Bool)(i:Nat)(o:ψ)(d:ops[i]? =δ o)(c:Β .any ops a.toArray=[i])(b:gA i k=ζ)(e:a.set i ζ=g)
  (h:W P ⟨kn,kD,ro⟩ ops (RKO P ⟨kn,kD,ro⟩ ops Q S k f g i w) [o] F w):RO P ⟨kn,kD,ro⟩ ops Q S k (f+1) a F w:=by
 cases ro with
 |none=>exact E3 g i o d c b e h
 |some x=>exact dt g i o d c b e h
theorem OG{i:Nat}(c:S i b w)(h:RO P ⟨kn,kD,ro⟩ ops Q S k f a F w):RKO P ⟨kn,kD,ro⟩ ops Q S k f a i b .normal (fr ⟨kn,kD,ro⟩ F) w:=by
 cases ro with
 |none=>exact lH c h
 |some x=>exact du c h
theorem OE(c:Region.seqB .any ops (ops.size-k) k a.toArray=ζ)(h:W P ⟨kn,kD,ro⟩ ops Q (ops.toList.drop k) F w):RO P ⟨kn,kD,ro⟩ ops Q S k 0 a F w:=by
 cases ro with
 |none=>exact HH c h
 |some x=>exact dq c h
end
attribute [irreducible] RI RKI RO RKO
open Go.Lib
open Go.Value renaming ownBlock → Dd
open Nat renaming beq → cV
theorem strCells_eq(l:aC):strCells (⟨l.toArray⟩)=l.flatMap eB:=by rw [mO];simp [strCells,bt]
section
variable {P:ω}{n:Md}{ops:Array ψ}{Q:Exit->Act->ν->Prop}{F:Nat->θ}{w w0:ν}{S:List Nat}{L:List cB}
variable {d:Nat}{ty:φ}{pos:String}{after:Array Edge}{rest:List ψ}
theorem C3{a:Option χ}{m cap e:Nat}{r:List θ}(t u:φ)(A:P.underlying t=δ (.slice e))(y:P.underlying u=δ .string)(T:TI P e 1 1)(H:(P.info? e).bind (·.zero)=δ (.int .u8 0))(d:w.ownsRow 0 e 1 (.slice a m cap) m r)(l:aC)
  (S:m+γ l<=140737488355328):
  ∃a' cap' w',(Builtin.append_ #[t,u] ty #[.slice a m cap,str l]).run P w=.ok (.slice a' (m+γ l) cap') w'/\w'.ownsRow 0 e 1 (.slice a' (m+γ l) cap') (m+γ l) (r++l.flatMap eB)/\
   w.grownBy w' (μ a m cap).ownBlock/\∀p,a'=δ p->(∃q,a=δ q/\q.block=p.block)\/w.heap.size<=p.block:=by
 obtain⟨i,z,x,M,D,o,L⟩:=T.parts;have j:i.zero=δ (.int .u8 0):=by rw [x]at H;simpa using H
 have Q:m+γ l<=maxLen:=aE6
 obtain⟨K,w',f,I,R,v⟩:=run_append_own_string w 0 t u ty e i A y x j D o _ m r d ⟨l.toArray⟩ (by show m+γ l<=_;exact Q) (by show m+γ l<=_;exact S) (cO _);rw [strCells_eq]at I;have b:(⟨l.toArray⟩:ByteArray).size=γ l:=rfl;have C:∃a' cap',K=.slice a' (m+γ l) cap'/\∀p,a'=δ p->(∃q,a=δ q/\q.block=p.block)\/w.heap.size<=p.block:=by
  have B:γ r=m:=by simpa using d.1
  rcases d.2 with⟨s,O⟩|⟨g,c,G,s,_,E,U,_,F,_⟩
  ·simp at s;obtain⟨rfl,rfl,rfl⟩:=s;by_cases J:γ l=0
   ·have:=v.2 ⟨rfl,by rw [b];exact J⟩;exact⟨ε,0,by rw [this,J],λp h=>by cases h⟩
   ·have:=run_append_nil_string w t u ty e i _ A y x j ⟨l.toArray⟩ aA0 (by rw [b];omega) (by rw [o];omega);rw [this]at f;simp at f;refine⟨_,_,by rw [<-f.1,Ta,b],λp h=>.inr ?_⟩;simp at h;subst h;simp
  ·simp at s;obtain⟨rfl,-,rfl⟩:=s;by_cases k:m+γ l<=cap
   ·have:=run_append_room_string w t u ty e i A y x D g m cap G E ⟨l.toArray⟩ k (by rw [b];simp at F;omega);rw [this]at f;simp at f;refine⟨_,_,by rw [<-f.1,b],λp h=>.inl ?_⟩;simp at h;subst h;exact⟨_,rfl,rfl⟩
   ·have n:=d.cells rfl;have:=run_append_grow_string w t u ty e i _ A y x j _ m cap r (by rw [D];simpa using B) n _ (by rw [b];omega) (by rw [b];omega) (by rw [o];exact growslice_fits aA0 aA0);rw [this]at f;simp at f;refine⟨_,_,by rw [<-f.1,b],λp h=>.inr ?_⟩;simp at h;subst h;simp
 obtain⟨a',cap',rfl,N⟩:=C;exact⟨a',cap',w',f,I,R,N⟩
variable {x y:π}{t u:φ}
theorem wV(M:Hp w0 S L w)(k:Nat)(o:Option Nat)(a:Option χ)(cap e:Nat)(l c:aC)(E:L[k]? =δ (bA eB e 1 o a cap l))(J:P.underlying t=δ (.slice e))(v:P.underlying u=δ .string)(V:TI P e 1 1)(N:(P.info? e).bind (·.zero)=δ (.int .u8 0))
  (hx:aZ n F x=.slice a (γ l) cap) (Z:aZ n F y=str c) (A:(γ l+γ c)*1<=140737488355328)
  (h:∀o' a' cap' w',Hp w0 S (L.set k (bA eB e 1 o' a' cap' (l++c))) w'->W P n ops Q rest (dV F d (.slice a' (γ (l++c)) cap')) w'):
  W P n ops Q (⟨δ d,.call ⟨.builtin .append, #[x,y], #[t,u]⟩,ty,pos,after,ε⟩::rest) F w:=by
 have r:=(aD.1 E).1;have I:∀U:Option χ,Hp w0 S (L.set k (row (.slice U (γ l) cap) e 1 (γ l) (l.flatMap eB))) w->∃a' cap' w',(Builtin.append_ #[t,u] ty #[.slice U (γ l) cap,str c]).run P w=.ok (.slice a' (γ (l++c)) cap') w'/\∃o',Hp w0 S (L.set k (bA eB e 1 o' a' cap' (l++c))) w':=by intro U s;obtain⟨a',cap',w',q,ho,hg,hn⟩:=C3 t u J v V N (s.ownsRow (aY r)) c aA0;have B:=s.grown (aY r) hg ho hn;rw [HL,<-bP,<-IK]at B;obtain⟨o',f⟩:=B.Lq k (aY r);rw [HL]at f;rw [<-bP]at q;exact⟨a',cap',w',q,o',f⟩
 have go:∀a' cap' w',(Builtin.append_ #[t,u] ty #[.slice a (γ l) cap,str c]).run P w=.ok (.slice a' (γ (l++c)) cap') w'->(∃o',Hp w0 S (L.set k (bA eB e 1 o' a' cap' (l++c))) w')->
   W P n ops Q (⟨δ d,.call ⟨.builtin .append, #[x,y], #[t,u]⟩,ty,pos,after,ε⟩::rest) F w:=by
  rintro a' cap' w' q ⟨o',f⟩;refine gN (w':=w') rfl rfl ?_ (h o' a' cap' w' f);simp only [ξ,resolve,invoke,builtin,List.map_toArray,yS,eG,hx,Z,Sem.run_bind,Sem.run_pure,Result.andThen_ok,q]
 cases o with
 |some g=>obtain⟨a',cap',w',q,f⟩:=I a (M.CO lM k E).2;exact go a' cap' w' q f
 |none=>
  obtain⟨h1,_⟩:=M.res _ (aG E);have R:l=[]/\cap=0:=by
   rcases h1 with⟨_,B,f,_⟩|⟨g,b0,B,_⟩
   ·exact⟨B,f⟩
   ·cases B
  obtain⟨rfl,rfl⟩:=R;have D:Hp w0 S (L.set k (row _ e 1 0 [])) w:=M.change k _ _ E rfl rfl rfl (eK _) (λ_ _ _=>rfl) ⟨aA2,.inl ⟨rfl,rfl⟩⟩ (λb A=>by simp [row,Dd]at A);obtain⟨a',cap',w',q,f⟩:=I ε D;cases a with
  |none=>exact go a' cap' w' q f
  |some p=>
   obtain⟨i,z,K,Y,hs,H,X⟩:=V.parts;have C:i.zero=δ (.int .u8 0):=by rw [K]at N;simpa using N
   have m:(⟨c.toArray⟩:ByteArray).size=γ c:=rfl;by_cases hm:γ c=0
   ·have T:=vJ hm;subst T;have hf:=run_firstCells_string (P:=P) w 1 ⟨#[]⟩;have O:(Builtin.firstCells 1 0 _).run P w=.ok #[] w:=hf;refine go (δ p) 0 w ?_ ⟨ε, ?_⟩
    ·show(Builtin.append_ #[t,u] ty #[.slice (δ p) 0 0,.string ⟨#[]⟩]).run P w=.ok (.slice (δ p) 0 0) w;have T:(⟨#[]⟩:ByteArray).size=0:=rfl;simp [Builtin.append_,run_underlying J,run_underlying v,sizeOf,typeInfo,K,hs,Builtin.lenOf,storeCells,T,O]
    ·have e:L.set k (bA eB e 1 ε (δ p) 0 ([]++[]))=L:=by
      apply bV;intro j;by_cases G:j=k
      ·subst G;rw [aY r,E];rfl
      ·rw [gW (λe=>G e.symm)]
     rw [e];exact M
   ·refine go a' cap' w' ?_ f;rw [<-q];have h5:=run_append_grow_string w t u ty e i _ J v K C p 0 0 [] aA2 (λj u v=>by simp at v) _ (by rw [m];omega) (by rw [m];simp at A;omega) (by rw [H];exact growslice_fits aA0 (by simp at A;omega));have h6:=run_append_nil_string w t u ty e i _ J v K C _ (by rw [m];omega) (by rw [m];simp at A;omega) (by rw [H];simp at A;omega);show(Builtin.append_ #[t,u] ty #[.slice _ 0 0,.string _]).run P w=(Builtin.append_ #[t,u] ty #[.slice ε 0 0,.string _]).run P w;rw [h5,h6];simp [strCells]
variable {e:φ}
theorem IP(p:Option χ)(a:P.underlying t=δ (.pointer e))(hx:aZ n F x=.pointer p)(b:aZ n F y=.pointer ε):(ξ (aZ n F) (⟨δ d,.binOp .eql t x y u,ty,pos,after,ε⟩)).run P w=.ok (.value (.bool p.isNone)) w:=by
 have c:P.pointee t=e:=by simp [Program.pointee,a]
 have g:=run_equal_pointer_nil w t p (by rw [c];exact a);have f:(binOp .eql t (.pointer p) (.pointer ε)).run P w=.ok (.bool p.isNone) w:=by simp only [binOp];simp [g]
 simp [ξ,hx,b,eqGuard,f]
theorem YY(p:Option χ)(b:P.underlying t=δ (.pointer e))(hx:aZ n F x=.pointer p)(a:aZ n F y=.pointer ε)(h:W P n ops Q rest (dV F d (.bool p.isNone)) w):W P n ops Q (⟨δ d,.binOp .eql t x y u,ty,pos,after,ε⟩::rest) F w:=gN rfl rfl (IP p b hx a) h
theorem ah(a:χ)(c:P.underlying t=δ (.pointer e))(g:(P.info? e).isSome=ζ)(hx:aZ n F x=.pointer (δ a))(b:aZ n F y=.pointer (δ a))(h:W P n ops Q rest (dV F d (.bool η)) w):W P n ops Q (⟨δ d,.binOp .neq t x y u,ty,pos,after,ε⟩::rest) F w:=by obtain⟨j,f⟩:=AW.1 g;have i:=run_neq_ptr_same w a c f;refine gN (v:=.bool η) (w':=w) rfl rfl ?_ h;simp [ξ,hx,b,eqGuard,i]
theorem ag(v:Hp w0 S L w)(k b off s:Nat)(cs:List θ)(o:L[k]? =δ (aS b cs s))(l:P.underlying t=δ (.pointer e))(g:P.underlying u=δ .unsafePointer)(q:((P.info? e).map (λi=>cV i.size 0))=δ η)(m:off<γ cs)(hx:aZ n F x=.pointer (δ ⟨b,off,ε⟩))
  (h:W P n ops Q rest (dV F d (.pointer (δ ⟨b,off,ε⟩))) w):W P n ops Q (⟨δ d,.convert t u x,ty,pos,after,ε⟩::rest) F w:=by
 obtain⟨j,p,a⟩:=bT.1 q;have f:j.size≠0:=λz=>by rw [z]at a;cases a
 have r:=v.dG k o;have c:w.shape? b=δ (s,γ cs):=by simp [World.shape?,r]
 have y:=run_to_unsafe w ⟨b,off,ε⟩ l g p f c m;refine gN (w':=w) rfl rfl ?_ h;simp [ξ,hx,y]
theorem ai(p:Hp w0 S L w)(k b off s:Nat)(cs:List θ)(i:L[k]? =δ (aS b cs s))(f:P.underlying t=δ .unsafePointer)(c:P.underlying u=δ (.pointer e))(m:(P.info? e).isSome=ζ)(g:liesAt P P.depth s (γ cs/P.cellsOf s) off e 1=ζ)(hx:aZ n F x=.pointer (δ ⟨b,off,ε⟩))
  (h:W P n ops Q rest (dV F d (.pointer (δ ⟨b,off,ε⟩))) w):W P n ops Q (⟨δ d,.convert t u x,ty,pos,after,ε⟩::rest) F w:=by
 obtain⟨j,l⟩:=AW.1 m;have o:=p.dG k i;have a:w.shape? b=δ (s,γ cs):=by simp [World.shape?,o]
 have q:=run_from_unsafe w ⟨b,off,ε⟩ f c l a g;refine gN (w':=w) rfl rfl ?_ h;simp [ξ,hx,q]
theorem aj{gK : Array π}{a : Array φ}{fn : Func}(j : Hp w0 S L w)(f : FuncId)(v : θ)(g : aZ n F x = .func (.func f) #[] #[])(i : #[] ++ gK.map (aZ n F) ++ #[] = #[v])(p : P.funcs[f]? = δ fn)(o : (fn.name == "runtime.NumGoroutine") = η)(m : fn.body.isNone = ζ)(l : Extern.findNext fn = ε)(k : Extern.find fn = δ Extern.AbiNoEscape.same)
  (h:∀w',Hp w0 S L w'->W P n ops Q rest (dV F d v) w'):W P n ops Q (⟨δ d,.call ⟨.value x,gK,a⟩,ty,pos,after,ε⟩::rest) F w:=by
 have c:=run_callFunc_extern (P:=P) p o m l (e:=Extern.AbiNoEscape.same) k (args:= #[v]) (w:=w);rw [run_noEscape]at c;refine gN (v:=v) (w':=w) rfl rfl ?_ (h w j);simp only [ξ,resolve,g,Deferred.ofValue];show Sem.run P (callFunc f (#[]++gK.map (aZ n F)++ #[])) w=_;rw [i,c];rfl
end
open Go.Op renaming bytesLess → vI
open List renaming replicate → fH
open Nat renaming blt → gA
def Xk{α:Type}(P:ω):Sem α->Option α
 |.pure a=>δ a
 |.program k=>Xk P (k P)
 |.mark _ k=>Xk P k
 |_=>ε
theorem zJ{α:Type}{P:ω}:∀{s:Sem α} {a:α},Xk P s=δ a->∀w,s.run P w=.ok a w:=by
 intro s;induction s with
 |pure a=>intro b h w;simp only [Xk,aW]at h;subst h;rfl
 |program k c=>intro b h w;exact c P h w
 |mark m k c=>intro b h w;exact c h w
 |_=>intro b h;simp [Xk]at h
def DK(b:BinOp)(x y:θ):Option θ:=
 match x,y with
 |.string s,.string t=>
  match b with
  |.eql=>δ (.bool (decide (s.data.toList=t.data.toList)))
  |.neq=>δ (.bool (!decide (s.data.toList=t.data.toList)))
  |.lss=>δ (.bool (vI s.data.toList t.data.toList))
  |.gtr=>δ (.bool (!(vI s.data.toList t.data.toList||s.data.toList==t.data.toList)))
  |_=>ε
 |.int k a,.int k' c=>
  if k=k' then
   match b with
   |.lss=>δ (.bool (decide (a<c)))
   |.leq=>δ (.bool (decide (a<=c)))
   |.gtr=>δ (.bool (decide (c<a)))
   |.geq=>δ (.bool (decide (c<=a)))
   |.eql=>δ (.bool (decide (a=c)))
   |.neq=>δ (.bool (!decide (a=c)))
   |_=>ε
  else ε
 |_,_=>ε
def isLen:Callee->Bool
 |.builtin .len=>ζ
 |_=>η
def wy(P:ω)(n:Md)(F:Nat->θ)(c:Call):Option θ:=
 bif isLen c.callee then
  match c.args.toList with
  |[x]=>match c.argTypes.toList with
   |[t]=>match P.underlying t with
    |some .string=>match aZ n F x with|.string s=>δ (.int .i64 (γ s.data.toList))|_=>ε
    |some (.slice _)=>match aZ n F x with|.slice _ m _=>δ (.int .i64 m)|_=>ε
    |_=>ε
   |_=>ε
  |_=>ε
 else ε
def Rt(P:ω)(n:Md)(F:Nat->θ)(o:ψ):Option θ:=
 match o.op with
 |.move x=>δ (aZ n F x)
 |.assign x=>δ (aZ n F x)
 |.pick c a b=>match aZ n F c with|.bool t=>δ (bif t then aZ n F a else aZ n F b)|_=>ε
 |.unOp .not _ x=>match aZ n F x with|.bool b=>δ (.bool (!b))|_=>ε
 |.extract x i=>match aZ n F x with|.tuple d=>d[i]? |_=>ε
 |.binOp b _ x y _=>DK b (aZ n F x) (aZ n F y)
 |.call c=>wy P n F c
 |_=>match Xk P (ξ (aZ n F) o)with|some (.value v)=>δ v|_=>ε
section
variable {P:ω}{n:Md}{ops:Array ψ}{Q:Exit->Act->ν->Prop}{F:Nat->θ}{w:ν}
theorem GK(ρ : π -> θ)(a : Option Nat)(op : Op)(ty : φ)(pos : String)(after : Array Edge)(g : Option (Nat × Bool)) : ξ ρ ⟨a, op, ty, pos, after, g⟩ = ξ ρ ⟨δ 0, op, ty, "", #[], ε⟩ := rfl
variable {t:φ}{i:Option Nat}{e:String}{d:Array Edge}{g:Option (Nat×Bool)}{v:θ}
theorem G5{b:BinOp}{t':φ}{x y:π}{ty:φ}(h:DK b (aZ n F x) (aZ n F y)=δ v)(w:ν):
  (ξ (aZ n F) (⟨i,.binOp b t x y t',ty,e,d,g⟩)).run P w=.ok (.value v) w:=by
 rw [GK];generalize hx:aZ n F x=a at h;generalize f:aZ n F y=c at h;cases a with
 |string s=>
  cases c with
  |string t2=>
   have p:=hx;have m:=f;cases b<;>simp only [DK,aW,reduceCtorEq]at h<;>subst h
   ·exact MN _ _ p m
   ·exact MK _ _ p m
   ·exact ML _ _ p m
   ·exact MM _ _ p m
  |_=>simp [DK]at h
 |int k a=>
  cases c with
  |int k' c=>
   by_cases j:k=k'
   ·subst j;cases b<;>simp only [DK,iL,aW,reduceCtorEq]at h<;>subst h
    ·exact YF k _ _ hx f
    ·exact XX k _ _ hx f
    ·exact XZ k _ _ hx f
    ·exact YA k _ _ hx f
    ·exact YD k _ _ hx f
    ·exact YE k _ _ hx f
   ·simp [DK,j]at h
  |_=>simp [DK]at h
 |_=>simp [DK]at h
theorem F9{c:Call}(h:wy P n F c=δ v)(w:ν):
  (ξ (aZ n F) (⟨i,.call c,t,e,d,g⟩:ψ)).run P w=.ok (.value v) w:=by
 rw [GK];obtain⟨cl,gK,p⟩:=c;unfold wy at h;cases b:isLen cl with
 |false=>rw [b]at h;cases h
 |true=>
  obtain rfl:cl=.builtin .len:=by
   unfold isLen at b;split at b
   ·rfl
   ·cases b
  rw [b]at h;simp only [aQ]at h;obtain⟨gK⟩:=gK;obtain⟨p⟩:=p
  match gK,p,h with
  |[x],[j],h=>
   dsimp only at h;split at h
   ·rename_i f;split at h
    ·rename_i s hx;cases h;exact og s.data.toList f hx
    ·cases h
   ·rename_i q f;split at h
    ·rename_i a m c hx;cases h;exact Wx a m c q f hx
    ·cases h
   ·cases h
  |[],_,h=>cases h
  |[_],[],h=>cases h
  |[_],_::_::_,h=>cases h
  |_::_::_,_,h=>cases h
variable {o:ψ}
theorem zW(h:Rt P n F o=δ v)(w:ν):(ξ (aZ n F) o).run P w=.ok (.value v) w:=by
 obtain⟨i,op,ty,pos,after,g⟩:=o;unfold Rt at h;dsimp only at h;split at h
 ·cases h;rfl
 ·cases h;rfl
 ·rename_i c a b;rw [GK];split at h
  ·rename_i t f;cases h;exact XV t _ f rfl
  ·cases h
 ·rw [GK];split at h
  ·rename_i b hx;cases h;exact XW b hx
  ·cases h
 ·rw [GK];split at h
  ·rename_i d hx;exact Td d v hx h
  ·cases h
 ·exact G5 h w
 ·exact F9 h w
 ·split at h
  ·rename_i j e;cases h;exact zJ e w
  ·cases h
def gof(ops:Array ψ)(g:Nat):Option Nat:=(ops[g]?).bind (·.dst)
def dw(P:ω)(n:Md)(ops:Array ψ)(F:Nat->θ)(o:ψ):θ:=
 match o.guard with
 |none=>(Rt P n F o).getD undef
 |some (g,b)=>match gof ops g with
  |none=>undef
  |some dg=>match F dg with
   |.bool c=>bif c==b then(Rt P n F o).getD undef else undef
   |_=>undef
def Ic(P:ω)(n:Md)(ops:Array ψ)(F:Nat->θ)(o:ψ):Nat->θ:=
 match o.dst with
 |none=>F
 |some d=>dV F d (dw P n ops F o)
def Bf:θ->Bool
 |.tuple a=>a.toList.isEmpty
 |_=>η
theorem Nz(h:Bf v=ζ):v=undef:=by
 unfold Bf at h;split at h
 ·rename_i b;obtain⟨l⟩:=b;cases l with
  |nil=>rfl
  |cons a l=>cases h
 ·cases h
def WY(P:ω)(n:Md)(ops:Array ψ)(F:Nat->θ)(o:ψ):Bool:=
 match o.dst with
 |none=>η
 |some d=>match o.guard with
  |none=>(Rt P n F o).isSome
  |some (g,b)=>match gof ops g with
   |none=>η
   |some dg=>gA dg n.n&&match F dg with
    |.bool c=>bif c==b then(Rt P n F o).isSome else ζ
    |v=>Bf v
def pF(P:ω)(n:Md)(ops:Array ψ):Nat->List ψ->(Nat->θ)->Nat->θ
 |0,_,F=>F
 |_+1,[],F=>F
 |m+1,o::l,F=>pF P n ops m l (Ic P n ops F o)
def pOK(P:ω)(n:Md)(ops:Array ψ):Nat->List ψ->(Nat->θ)->Bool
 |0,_,_=>ζ
 |_+1,[],_=>η
 |m+1,o::l,F=>WY P n ops F o&&pOK P n ops m l (Ic P n ops F o)
variable {l:List ψ}
theorem w_pok(a:WY P n ops F o=ζ)(h:W P n ops Q l (Ic P n ops F o) w):W P n ops Q (o::l) F w:=by
 obtain⟨k,op,ty,pos,after,gd⟩:=o;cases k with
 |none=>simp [WY]at a
 |some d=>
  cases gd with
  |none=>
   simp only [WY]at a;cases e:Rt P n F _ with
   |none=>rw [e]at a;cases a
   |some v=>simp only [Ic,dw,e]at h;exact gN rfl rfl (zW e w) h
  |some q=>
   obtain⟨g,b⟩:=q;simp only [WY]at a;cases i:gof ops g with
   |none=>rw [i]at a;cases a
   |some dg=>
    rw [i]at a;simp only [hO]at a;simp only [Ic,dw,i]at h;cases j:F dg with
    |bool c=>
     rw [j]at a h;cases s:c==b with
     |true=>
      have f:c=b:=by simpa using s
      subst f;simp only [s]at a h;cases e:Rt P n F _ with
      |none=>rw [e]at a;exact absurd a.2 aA2
      |some v=>rw [e]at h;exact IV dg i a.1 j (gN rfl rfl (zW e w) h)
     |false=>
      have f:c= !b:=by cases c<;>cases b<;>simp_all
      subst f;simp at h;exact oy dg i a.1 j h
    |tuple r=>
     rw [j]at a h;have m:F dg=undef:=by rw [j];have p:=a.2;exact Nz p
     exact ox dg i a.1 m h
    |_=>rw [j]at a;exact absurd a.2 (by simp [Bf])
theorem YS:∀m l F,pOK P n ops m l F=ζ->W P n ops Q (l.drop m) (pF P n ops m l F) w->W P n ops Q l F w
 |0,l,F,_,h=>h
 |m+1,[],F,a,_=>by simp [pOK]at a
 |m+1,o::l,F,a,h=>by simp only [pOK,hO]at a;exact w_pok a.1 (YS m l _ a.2 h)
theorem wp(m:Nat)(h:W P n ops Q (l.drop m) (pF P n ops m l F) w)(a:pOK P n ops m l F=ζ:=by kernel_rfl):W P n ops Q l F w:=YS m l F a h
variable {b:Nat}{c:List Deferred}
theorem nu(a:WY P ⟨b,c,ε⟩ ops F o=ζ):YieldsIf P ops (λ_=>True) o (dw P ⟨b,c,ε⟩ ops F o) (fr ⟨b,c,ε⟩ F):=by
 obtain⟨l,op,ty,pos,after,gd⟩:=o;cases l with
 |none=>simp [WY]at a
 |some d=>
  cases gd with
  |none=>
   simp only [WY]at a;cases f:Rt P _ F _ with
   |none=>rw [f]at a;cases a
   |some v=>simp only [dw,f];exact iE rfl λw _=>zW f w
  |some q=>
   obtain⟨g,j⟩:=q;simp only [WY]at a;cases h:gof ops g with
   |none=>rw [h]at a;cases a
   |some dg=>
    rw [h]at a;simp only [hO]at a;simp only [dw,h];cases i:F dg with
    |bool k=>
     rw [i]at a;cases m:k==j with
     |true=>
      have e:k=j:=by simpa using m
      subst e;simp only [m]at a⊢;cases f:Rt P _ F _ with
      |none=>rw [f]at a;exact absurd a.2 aA2
      |some v=>exact sA dg h a.1 i λw _=>zW f w
     |false=>
      have e:k= !j:=by cases k<;>cases j<;>simp_all
      subst e;simp;exact y_gno dg h a.1 i
    |tuple r=>
     rw [i]at a;have p:=a.2;have n:F dg=undef:=by rw [i];exact Nz p
     exact y_gun dg h a.1 n
    |_=>rw [i]at a;exact absurd a.2 (by simp [Bf])
def rF(P:ω)(n:Md)(ops:Array ψ):List Nat->(Nat->θ)->Nat->θ
 |[],F=>F
 |i::a,F=>rF P n ops a (match ops[i]? with|some o=>Ic P n ops F o|none=>F)
def rL:List Nat->List Bool->List Bool
 |[],l=>l
 |i::a,l=>rL a (l.set i ζ)
def wa(P:ω)(n:Md)(ops:Array ψ)(k:Nat):List Nat->List Bool->(Nat->θ)->Bool
 |[],_,_=>ζ
 |i::a,l,F=>(match ops[i]? with|some o=>WY P n ops F o|none=>η)&&Region.free .any ops l.toArray i&&(Β .any ops l.toArray).contains i&&gA i k&&
   wa P n ops k a (l.set i ζ) (match ops[i]? with|some o=>Ic P n ops F o|none=>F)
theorem C6{a:Nat}{b:List Deferred}{S:Nat->ν->ν->Prop}{k f':Nat}(n:Fx ops k=ζ):∀c l F,wa P ⟨a,b,ε⟩ ops k c l F=ζ->
  R P ⟨a,b,ε⟩ ops Q S k f' (rL c l) (rF P ⟨a,b,ε⟩ ops c F) w->R P ⟨a,b,ε⟩ ops Q S k (f'+γ c) l F w
 |[],l,F,_,h=>h
 |i::c,l,F,g,h=>by
  simp only [wa,hO]at g;obtain⟨⟨⟨⟨j,s⟩,r⟩,q⟩,p⟩:=g;cases m:ops[i]? with
  |none=>rw [m]at j;cases j
  |some o=>
   rw [m]at j p;simp only [rL,rF,m]at h;have f:∃d,o.dst=δ d:=by
    cases f:o.dst with
    |none=>simp [WY,f]at j
    |some d=>exact⟨d,rfl⟩
   obtain⟨d,f⟩:=f;have e:Ic P ⟨a,b,ε⟩ ops F o=dV F d (dw P ⟨a,b,ε⟩ ops F o):=by simp [Ic,f]
   refine E2 _ i d _ o m f n s r q rfl (nu j) ?_;rw [<-e];exact C6 n c _ _ p h
variable {S:Nat->ν->ν->Prop}{k f:Nat}{a:List Bool}
theorem rp(f':Nat)(l:List Nat)(h:R P ⟨b,c,ε⟩ ops Q S k f' (rL l a) (rF P ⟨b,c,ε⟩ ops l F) w)
  (g:f=f'+γ l:=by kernel_rfl) (e:Fx ops k=ζ:=by kernel_rfl) (d:wa P ⟨b,c,ε⟩ ops k l a F=ζ:=by kernel_rfl):R P ⟨b,c,ε⟩ ops Q S k f a F w:=by
 subst g;exact C6 e l a F d h
theorem rt{d:Nat}(i:Nat)(v:θ)(n:ops[i]? =δ o)(p:o.dst=δ d)(g:YieldsIf P ops (λ_=>True) o v (fr ⟨b,c,ε⟩ F))
  (h:R P ⟨b,c,ε⟩ ops Q S k f (a.set i ζ) (dV F d v) w) (j:Fx ops k=ζ:=by kernel_rfl) (l:Region.free .any ops a.toArray i=ζ:=by kernel_rfl)
  (m:(Β .any ops a.toArray).contains i=ζ:=by kernel_rfl) (e:gA i k=ζ:=by kernel_rfl):R P ⟨b,c,ε⟩ ops Q S k (f+1) a F w:=E2 _ i d v o n p j l m e rfl g h
theorem ro(i:Nat)(e:ops[i]? =δ o)(h:W P ⟨b,c,ε⟩ ops (RK P ⟨b,c,ε⟩ ops Q S k f (a.set i ζ) i w) [o] F w)
  (d:Β .any ops a.toArray=[i]:=by kernel_rfl) (l:gA i k=ζ:=by kernel_rfl):R P ⟨b,c,ε⟩ ops Q S k (f+1) a F w:=E3 _ i o e d l rfl h
theorem cdr{w0:ν}{S0:List Nat}{L:List cB}(a:Nat)(f:Hp w0 S0 L w)(e:HO Q)
  (h:∀w',Hp w0 S0 L w'->R P ⟨b,c,ε⟩ l.toArray Q (λ_ _ _=>True) a a (fH (γ l) η) F w') (d:P.follows .mixedOrders=ζ:=by kernel_rfl) (j:Fx l.toArray a=ζ:=by kernel_rfl):
  C P ⟨b,c,ε⟩ Q (.region k l.toArray ζ) F w:=RA a _ _ (λ_ _=>trivial) d j f rfl e h
section
variable {α:Type}{c:π}{x y:Code}{p:Prop}{ip:Decidable p}{a b r:α}{t:Bool}
theorem cd(d:(if p then a else b)=r)(e:p->a=r->C P n Q x F w)(f:¬p->b=r->C P n Q y F w)(g:aZ n F c=.bool (decide p):=by kernel_rfl):C P n Q (.cond c x y) F w:=
 c_dec g (λh=>e h (HV h d)) (λh=>f h (HW h d))
theorem cn(d:(if p then a else b)=r)(e:¬p->b=r->C P n Q x F w)(f:p->a=r->C P n Q y F w)(g:aZ n F c=.bool (!decide p):=by kernel_rfl):C P n Q (.cond c x y) F w:=
 c_ndec g (λh=>e h (HW h d)) (λh=>f h (HV h d))
theorem cb(d:cond t a b=r)(e:t=ζ->a=r->C P n Q x F w)(f:t=η->b=r->C P n Q y F w)(g:aZ n F c=.bool t:=by kernel_rfl):C P n Q (.cond c x y) F w:=
 tR g (λh=>e h (cft h d)) (λh=>f h (cff h d))
variable {d:Nat}{ty:φ}{pos:String}{after:Array Edge}{rest:List ψ}{o:π}
theorem wd(c:(if p then a else b)=r)(e:p->a=r->W P n ops Q rest (dV F d (.bool ζ)) w)(f:¬p->b=r->W P n ops Q rest (dV F d (.bool η)) w)(g:aZ n F o=.bool (decide p):=by kernel_rfl):W P n ops Q (⟨δ d,.move o,ty,pos,after,ε⟩::rest) F w:=
 IU p g (λh=>e h (HV h c)) (λh=>f h (HW h c))
theorem wn(c:(if p then a else b)=r)(e:¬p->b=r->W P n ops Q rest (dV F d (.bool ζ)) w)(f:p->a=r->W P n ops Q rest (dV F d (.bool η)) w)(g:aZ n F o=.bool (!decide p):=by kernel_rfl):W P n ops Q (⟨δ d,.move o,ty,pos,after,ε⟩::rest) F w:=
 BP p g (λh=>e h (HW h c)) (λh=>f h (HV h c))
theorem wb(c:cond t a b=r)(e:t=ζ->a=r->W P n ops Q rest (dV F d (.bool ζ)) w)(f:t=η->b=r->W P n ops Q rest (dV F d (.bool η)) w)(g:aZ n F o=.bool t:=by kernel_rfl):W P n ops Q (⟨δ d,.move o,ty,pos,after,ε⟩::rest) F w:=
 sC t g (λh=>e h (cft h c)) (λh=>f h (cff h c))
end
variable {x:Code}{a:ν}{S:List Nat}{R:List cB}
theorem lC{y:Code}(j:Hp a S R w)(b:List Nat)(L:List (Nat×θ))
  (hx:C P n (Exit.then (λa' w'=>∃c,a'=fr n c/\b.map c=b.map (app L F)/\Hp a S R w') Q) x F w)
  (d:∀w G,Hp a S R w->C P n Q y (Bd b (app L F) G) w):C P n Q (.seq x y) F w:=
 cut (σ:=Unit) b (λ_=>L) (λ_ w'=>Hp a S R w') (AJ hx λe m w' h=>by
  cases e with
  |normal=>obtain⟨c,i,g,f⟩:=h;exact⟨(),c,i,g,f⟩
  |exit id=>exact h
  |goto l=>exact h
  |ret=>exact h
  |panic k=>exact h
  |outgrown=>exact h) (λ_ w G h=>d w G h)
variable {f:ν}{b:List Nat}{A d:Nat->θ}
theorem je(e:Hp a S R f)(h:b.map d=b.map A:=by kernel_rfl):∃c,fr n d=fr n c/\b.map c=b.map A/\Hp a S R f:=⟨_,rfl,h,e⟩
variable {c e:Type}
theorem KY{y:Code}(d:Hp a S R w)(j:c⊕e)(σ:List Nat)(L:c->List (Nat×θ))
  (hx:C P n (Exit.then (λa' w'=>∃s' b,a'=fr n b/\σ.map b=σ.map (app (L s') F)/\Hp a S R w'/\j=.inl s') Q) x F w)
  (ρ:∀s w G,Hp a S R w->j=.inl s->C P n Q y (Bd σ (app (L s) F) G) w):C P n Q (.seq x y) F w:=
 cut σ L _ hx (λs w G h=>ρ s w G h.1 h.2)
variable {L:c->List (Nat×θ)}
theorem qe{j:c⊕e}{s:c}(g:j=.inl s)(ρ:Hp a S R f)(h:b.map d=b.map (app (L s) A):=by kernel_rfl):
  ∃s' σ,fr n d=fr n σ/\b.map σ=b.map (app (L s') A)/\Hp a S R f/\j=.inl s':=⟨s,_,rfl,h,ρ,g⟩
variable {t:Nat}
theorem mc(h:A t=d t)(b:S.map A=S.map d):(t::S).map A=(t::S).map d:=by simp [h,b]
theorem Z6{r:e}(g:Nat->c->Option e)(j:c)(o:Hp a S R w)(m:g t j=δ r)(d:List Nat)(L:c->List (Nat×θ))(u:∀s,g 0 s=ε)
  (round:∀b s w G,Hp a S R w->g (b+1) s=δ r->C P n (Exit.then (λa' w'=>∃s' i,a'=fr n i/\d.map i=d.map (app (L s') F)/\Hp a S R w'/\g b s'=δ r) Q) x (Bd d (app (L s) F) G) w)
  (τ:d.map F=d.map (app (L j) F):=by kernel_rfl):C P n Q (.loop x) F w:=by
 refine Yx (σ:=Nat×c) d (λs=>L s.2) (λs w'=>Hp a S R w'/\g s.1 s.2=δ r) (λs=>s.1) (t,j) ⟨o,m⟩ (λs w G h=> ?_) τ;obtain⟨b,s⟩:=s;obtain⟨k,f⟩:=h;cases b with
 |zero=>rw [u]at f;cases f
 |succ b=>
  refine AJ (round b s w G k f) λy ρ w' h=> ?_;cases y with
  |normal=>obtain⟨s',i,k,f,q,p⟩:=h;exact⟨(b,s'),i,k,f,⟨q,p⟩,nF _⟩
  |exit id=>exact h
  |goto l=>exact h
  |ret=>exact h
  |panic v=>exact h
  |outgrown=>exact h
theorem qd{r:e}{g:c->Option e}(s:c)(ρ:Hp a S R f)(i:g s=δ r)(h:b.map d=b.map (app (L s) A):=by kernel_rfl):
  ∃s' τ,fr n d=fr n τ/\b.map τ=b.map (app (L s') A)/\Hp a S R f/\g s'=δ r:=⟨s,_,rfl,h,ρ,i⟩
theorem Hp.kp{w:ν}{L1:List cB}(h:Hp a S R w)(L:R.take (γ L1)=L1:=by kernel_rfl):Hp a S L1 w:=h.sub (by rw [<-L];exact List.take_sublist _ _)
theorem oi{a b:c}(h:δ a=δ b):a=b:=aJ h
section
variable {d:Nat}{ty:φ}{pos:String}{after:Array Edge}{rest:List ψ}{w0:ν}{S:List Nat}{L:List cB}
theorem wc{b:π}{gK:Array π}{a:Array φ}{f:FuncId}{vs:List θ}{V:θ}(k:Enters P f)(j:Hp w0 S L w)(g:CR P f vs w λv w'=>v=V/\Hp w [] [] w')
  (h:∀w',Hp w0 S L w'->W P n ops Q rest (dV F d V) w') (e:aZ n F b=.func (.func f) #[] #[]:=by kernel_rfl) (i: #[]++gK.map (aZ n F)++ #[]=vs.toArray:=by kernel_rfl):
  W P n ops Q (⟨δ d,.call ⟨.value b,gK,a⟩,ty,pos,after,ε⟩::rest) F w:=by
 refine pA f #[] vs _ k e i g ?_;rintro _ w' ⟨rfl,c⟩;exact h w' (j.call c)
end
def rone(n:Md)(F:Nat->θ):ResultVar->θ
 |.tmp t=>aZ n F (.tmp t)
 |.cell _ _=>undef
def vu(n:Md)(F:Nat->θ)(fn:Func):θ:=
 match fn.results.toList.map (rone n F)with
 |[u]=>u
 |a=>.tuple a.toArray
def LX(fn:Func):Bool:=fn.results.toList.all λ|.tmp _=>ζ|.cell _ _=>η
variable {k:Nat}{a:Option (Option Nat)}{b:Func}
theorem vt(h:LX b=ζ):(results b (fr ⟨k,[],a⟩ F).tmps).run P w=.ok (vu ⟨k,[],a⟩ F b) w:=by
 have key:∀j:List θ,j=b.results.toList.map (rone ⟨k,[],ε⟩ F)->(results b (fr ⟨k,[],ε⟩ F).tmps).run P w=.ok (match j with|[u]=>u|f=>.tuple f.toArray) w:=by
  intro j e;refine sL b.results.toList j rfl (by simp [e]) ?_ _ (by cases j with|nil=>rfl|cons c gK=>cases gK<;>rfl);intro i x v hx d;subst e;simp only [bE,hx,WW,aW]at d;have:=aT.1 h x (aG hx);cases x with
  |tmp t=>exact vG d
  |cell c t=>cases this
 exact key _ rfl
theorem rx{R:θ->ν->Prop}(h:R (vu ⟨k,[],a⟩ F b) w)(d:LX b=ζ:=by kernel_rfl):
  bodyPost P b (λe w'=>∃v,e=.returned v/\R v w') .ret (fr ⟨k,[],a⟩ F) w:=⟨rfl,_,vt d,_,rfl,h⟩
theorem rv{V:θ}{w0:ν}{S:List Nat}{L:List cB}(h:Hp w0 S L w)(d:vu ⟨k,[],a⟩ F b=V:=by kernel_rfl)(c:LX b=ζ:=by kernel_rfl):
  bodyPost P b (λe w'=>∃v,e=.returned v/\v=V/\Hp w0 S L w') .ret (fr ⟨k,[],a⟩ F) w:=rx ⟨d,h⟩ c
variable {c:Type}{g:Prop}{o:Option c}
theorem bi{α:Type}{f:c->Option α}{r:α}(h:o.bind f=δ r)(k:∀y,o=δ y->f y=δ r->g):g:=let ⟨y,a,b⟩:=Ca h;k y a b
theorem gi{ip:Decidable g}{r:c}{α:Prop}(h:gd g o=δ r)(k:g->o=δ r->α):α:=let ⟨a,b⟩:=O6 h;k a b
variable {y:Code}
theorem cs{x:Code}(h:C P n (Fy P n x Q) y F w):C P n Q (.seq y x) F w:=AL h
variable {l:List ψ}
theorem cr(h:W P n l.toArray Q l F w):C P n Q (.region k l.toArray η) F w:=LP h
theorem wl(h:Q .normal (fr n F) w):W P n ops Q [] F w:=kS h
theorem qn{k':Nat}{D d:List Deferred}(h:C P ⟨k,D,a⟩ Q y F w):Fy P ⟨k',d,a⟩ y Q .normal (fr ⟨k,D,a⟩ F) w:=HY h
theorem ct(h:Q .ret (fr n F) w):C P n Q .ret F w:=Wc h
theorem ck(h:Q .normal (fr n F) w):C P n Q .skip F w:=Ps h
theorem ce(h:C P n (Exit.inBlock k Q) y F w):C P n Q (.block k y) F w:=QV h
theorem ql{K:Act->ν->Prop}(h:K (fr n F) w):Exit.then K Q .normal (fr n F) w:=h
theorem st{m:Md}(h:Q .ret (fr n F) w):Fy P m y Q .ret (fr n F) w:=CN h
theorem gU(h:Q .ret (fr n F) w):Exit.inBlock k Q .ret (fr n F) w:=h
theorem bn(h:Q .normal (fr n F) w):Exit.inBlock k Q .normal (fr n F) w:=h
theorem gy{a:Option Nat}{op:Op}{ty:φ}{pos:String}{after:Array Edge}{b:Bool}(dg:Nat)(h:W P n ops Q (⟨a,op,ty,pos,after,ε⟩::l) F w)
  (e:(ops[k]?).bind (·.dst)=δ dg:=by kernel_rfl) (d:gA dg n.n=ζ:=by kernel_rfl) (c:F dg=.bool b:=by kernel_rfl):W P n ops Q (⟨a,op,ty,pos,after,δ (k,b)⟩::l) F w:=IV dg e d c h
theorem sr(h:W P n l.toArray (Fy P n y Q) l F w):C P n Q (.seq (.region k l.toArray η) y) F w:=AL (LP h)
theorem nq{k':Nat}{D d:List Deferred}(h:C P ⟨k,D,a⟩ Q y F w):W P ⟨k,D,a⟩ ops (Fy P ⟨k',d,a⟩ y Q) [] F w:=kS (HY h)
end
open Go
open List renaming replicate → fH
open Nat renaming blt → gA
section
variable {P:ω}{kn:Nat}{kD:List Deferred}{ro:Option (Option Nat)}{ops:Array ψ}{Q:Exit->Act->ν->Prop}{S:Nat->ν->ν->Prop}{F:Nat->θ}{w:ν}
@[reducible] def NP (Q:Exit->Act->ν->Prop):Exit->Act->ν->Prop:=λe a w=>match e with|.panic _=>False|e=>Q e a w
theorem qa:HO (NP Q):=λ_ _ _ h=>h
variable {b:ν}{L:List cB}
theorem Hp.blkeq{S:List Nat}(h:Hp b S L w)(k m:Nat)(cs a:List θ)(e:φ)(d:L[k]? =δ (aS m cs e))(g:cs=a):Hp b S (L.set k (aS m a e)) w:=by
 subst g;have c:k<γ L:=(aD.1 d).1;have j:L.set k (aS m cs e)=L:=by
  apply bV;intro i;rw [eH];by_cases f:k=i
  ·subst f;rw [d];simp [c]
  ·simp [f]
 rw [j];exact h
theorem Ui{a:Act}(h:Q .normal a w):NP Q .normal a w:=h
theorem c_np{n:Md}{c:Code}(h:C P n (NP Q) c F w):C P n Q c F w:=AJ h λe a w b=>by
 cases e with
 |panic c=>exact b.elim
 |_=>exact b
def nodB(l:List ψ):Bool:=l.all λo=>match o.op with|.defer _=>η|_=>ζ
variable {a:List ψ}
theorem xh(h:nodB a=ζ):NoD a.toArray:=by intro j o c d l;have b:=aT.1 h o (by have:=aG (show a[j]? =δ o by simpa using d);simpa using this);rw [l]at b;cases b
variable {k:Nat}
theorem Wd{S0:List Nat}(i:Nat)(S:Nat->ν->ν->Prop)(listed:List Bool)(l:∀j w,S j w w)(c:P.follows .mixedOrders=ζ)(m:Fx a.toArray i=ζ)
  (f:Hp b S0 L w) (d:fH (γ a) η=listed) (e:HO Q) (h:∀w',Hp b S0 L w'->RO P ⟨kn,kD,ro⟩ a.toArray Q S i i listed F w') (g:nodB a=ζ:=by kernel_rfl):C P ⟨kn,kD,ro⟩ Q (.region k a.toArray ζ) F w:=
 U1 i S listed l c m f d e (λ_=>xh g) h
variable {f:Nat}{l:List Bool}{o:ψ}
theorem rtO{d:Nat}(i:Nat)(v:θ)(j:ops[i]? =δ o)(m:o.dst=δ d)(c:YieldsIf P ops (λ_=>True) o v (fr ⟨kn,kD,ro⟩ F))
  (h:RO P ⟨kn,kD,ro⟩ ops Q S k f (l.set i ζ) (dV F d v) w) (e:Fx ops k=ζ:=by kernel_rfl) (a:Region.free .any ops l.toArray i=ζ:=by kernel_rfl)
  (g:(Β .any ops l.toArray).contains i=ζ:=by kernel_rfl) (b:gA i k=ζ:=by kernel_rfl):RO P ⟨kn,kD,ro⟩ ops Q S k (f+1) l F w:=OF _ i d v o j m e a g b rfl c h
theorem roO(i:Nat)(c:ops[i]? =δ o)(h:W P ⟨kn,kD,ro⟩ ops (RKO P ⟨kn,kD,ro⟩ ops Q S k f (l.set i ζ) i w) [o] F w)
  (b:Β .any ops l.toArray=[i]:=by kernel_rfl) (a:gA i k=ζ:=by kernel_rfl):RO P ⟨kn,kD,ro⟩ ops Q S k (f+1) l F w:=dp _ i o c b a rfl h
theorem NO{k f':Nat}(j:Fx ops k=ζ):∀(a:List Nat) (l:List Bool) (F:Nat->θ),wa P ⟨kn,kD,ε⟩ ops k a l F=ζ->
  RO P ⟨kn,kD,ro⟩ ops Q S k f' (rL a l) (rF P ⟨kn,kD,ε⟩ ops a F) w->RO P ⟨kn,kD,ro⟩ ops Q S k (f'+γ a) l F w
 |[],l,F,_,h=>h
 |i::a,l,F,c,h=>by
  simp only [wa,hO]at c;obtain⟨⟨⟨⟨f,q⟩,p⟩,n⟩,m⟩:=c;cases g:ops[i]? with
  |none=>rw [g]at f;cases f
  |some o=>
   rw [g]at f m;simp only [rL,rF,g]at h;have b:∃d,o.dst=δ d:=by
    cases b:o.dst with
    |none=>simp [WY,b]at f
    |some d=>exact⟨d,rfl⟩
   obtain⟨d,b⟩:=b;have e:Ic P ⟨kn,kD,ε⟩ ops F o=dV F d (dw P ⟨kn,kD,ε⟩ ops F o):=by simp [Ic,b]
   refine OF _ i d (dw P ⟨kn,kD,ε⟩ ops F o) o g b j q p n rfl (nu f) ?_;rw [<-e];exact NO j a (l.set i ζ) (Ic P ⟨kn,kD,ε⟩ ops F o) m h
theorem rpO(f':Nat)(a:List Nat)(h:RO P ⟨kn,kD,ro⟩ ops Q S k f' (rL a l) (rF P ⟨kn,kD,ε⟩ ops a F) w)
  (d:f=f'+γ a:=by kernel_rfl) (c:Fx ops k=ζ:=by kernel_rfl) (b:wa P ⟨kn,kD,ε⟩ ops k a l F=ζ:=by kernel_rfl):RO P ⟨kn,kD,ro⟩ ops Q S k f l F w:=by
 subst d;exact NO c a l F b h
end
open Go
open List renaming drop → cG, flatMap → dY
variable {a:Option χ}
theorem cj{cap b sz:Nat}(h:a=ε->cap=0):Rp a cap b sz=ε->cap-b=0:=by
 unfold Rp;split
 ·intro _;omega
 ·cases a with
  |none=>intro _;have:=h rfl;omega
  |some p=>intro c;cases c
theorem vj{cap k sz:Nat}{l:List UInt8}{S:List Nat}(h:dY eB l≠[]->∀p,a=δ p->p.block∉S):dY eB (cG k l)≠[]->∀p,Rp a cap k sz=δ p->p.block∉S:=by
 intro c p b;have d:dY eB l≠[]:=by intro f;rw [mO]at f c;have:l=[]:=aE0;subst this;simp at c
 unfold Rp at b;split at b
 ·exact h d p b
 ·cases a with
  |none=>cases b
  |some q=>
   simp only [WW,aW]at b;have e:(q.add (k*sz)).block=q.block:=by unfold Addr.add;split<;>rfl
   rw [<-b,e];exact h d q rfl
def Ig(b:Nat)(l:List Int):cB:=
 ⟨δ b,λo=>∃a clock,o=δ (.map a clock)/\a.toList.map (·.key)=l.map (υ .i64)/\∀e∈a.toList,e.val=.bool ζ⟩
def jD(l:List Int)(n:Int):List Int:=if n∈l then l else l++[n]
theorem Hi(n:Int):∀(b:List MapEntry) (l:List Int) (i:Nat),b.map (·.key)=l.map (υ .i64)->(∀e∈b,e.val=.bool ζ)->
  ∃j,Instr.findNow (.int .i64) (.int .i64 n) b i=δ (if n∈l then δ (i+j,.bool ζ)else ε)/\(n∈l->l[j]? =δ n)
 |[],[],i,_,_=>⟨0,by simp [Instr.findNow]⟩
 |[],_::_,i,h,_=>by cases h
 |_::_,[],i,h,_=>by cases h
 |e::b,m::l,i,h,d=>by
  simp only [yS,cU]at h;obtain⟨f,o⟩:=h;obtain⟨j,g,c⟩:=Hi n b l (i+1) o λe k=>d e (by simp [k]);by_cases a:n=m
  ·subst a;refine⟨0, ?_,λ_=>rfl⟩;simp [Instr.findNow,Instr.sameNow,f,d e aA2]
  ·refine⟨j+1, ?_,λh=>by simpa [a] using c (by simpa [a] using h)⟩;simp only [Instr.findNow,Instr.sameNow,f,iL,WU,a,false_or];have:(n==m)=η:=by simp [a]
   simp only [this,g];split
   ·simp;omega
   ·rfl
section
variable {P:ω}{n:Md}{ops:Array ψ}{Q:Exit->Act->ν->Prop}{F:Nat->θ}{w w0:ν}{S:List Nat}{L:List cB}
variable {d:Nat}{ty:φ}{pos:String}{after:Array Edge}{rest:List ψ}
variable {t:φ}
theorem an(a:Hp w0 S L w)(h:∀b w',Hp w0 S (Ig b []::L) w'->W P n ops Q rest (dV F d (.map (δ b))) w'):W P n ops Q (⟨δ d,.makeMap t ε,ty,pos,after,ε⟩::rest) F w:=by refine gN (w':=w.alloc (.map #[] 0)) rfl rfl ?_ (h w.heap.size _ (a.AO _ (Ig w.heap.size []) rfl ⟨#[],0,rfl,rfl,aA2⟩));simp [ξ,Instr.makeMap]
theorem pX(a:P.underlying t=δ (.int .i64))(m:Int)(b:Bool):(Instr.checkKey b 10000 t (.int .i64 m)).run P w=.ok () w:=by
 have key:∀i,(Instr.checkKey b (i+1) t (.int .i64 m)).run P w=.ok () w:=λi=>by simp [Instr.checkKey,run_underlying a]
 exact key 9999
theorem Gy(d:P.underlying t=δ (.int .i64)){b:Nat}{a:Array MapEntry}{l:List Int}(m:Int)(h:a.toList.map (·.key)=l.map (υ .i64))(g:∀e∈a.toList,e.val=.bool ζ):
  ∃j,(Instr.findKey t (.int .i64 m) a.toList).run P w=.ok (if m∈l then δ (j,.bool ζ)else ε) w/\(m∈l->l[j]? =δ m):=by
 obtain⟨j,f,c⟩:=Hi m a.toList l 0 h g;refine⟨j, ?_,c⟩;unfold Instr.findKey;simp [run_underlying d,f]
theorem uj{k e:φ}{x i:π}(v:Hp w0 S L w)(r b:Nat)(l:List Int)(m:Int)(u:L[r]? =δ (Ig b l))(o:P.underlying t=δ (.map k e))(g:P.underlying k=δ (.int .i64))(s:(zeroValue e).run P w=.ok (.bool η) w)
  (hx:aZ n F x=.map (δ b)) (p:aZ n F i=.int .i64 m) (h:W P n ops Q rest (dV F d (.bool (decide (m∈l)))) w):W P n ops Q (⟨δ d,.lookup t x i η,ty,pos,after,ε⟩::rest) F w:=by
 obtain⟨q,clock,A,z,y⟩:=(v.res _ (aG u)).1;have a:(getObj b).run P w=.ok (.map q clock) w:=by have:w.heap[b]? =δ (.map q clock):=A;simp [getObj,Sem.run,this]
 obtain⟨j,f,_⟩:=Gy (P:=P) (w:=w) g (b:=b) m z y;refine gN (w':=w) rfl rfl ?_ h;by_cases c:m∈l
 ·simp only [c,iL]at f;simp [ξ,hx,p,Instr.lookup,run_underlying o,a,pX g,f,c]
 ·simp only [c,oZ]at f;simp [ξ,hx,p,Instr.lookup,run_underlying o,a,pX g,f,c,s]
theorem ui{k e:φ}{x M y:π}(J:Hp w0 S L w)(v b:Nat)(l:List Int)(m:Int)(I:L[v]? =δ (Ig b l))(O:P.underlying t=δ (.map k e))(E:P.underlying k=δ (.int .i64))
  (hx:aZ n F x=.map (δ b)) (c:aZ n F M=.int .i64 m) (N:aZ n F y=.bool ζ) (h:∀w',Hp w0 S (L.set v (Ig b (jD l m))) w'->W P n ops Q rest F w'):W P n ops Q (⟨ε,.mapUpdate t x M y,ty,pos,after,ε⟩::rest) F w:=by
 obtain⟨f,clock,B,A,K⟩:=(J.res _ (aG I)).1;have B:w.heap[b]? =δ (.map f clock):=B;have s:(getObj b).run P w=.ok (.map f clock) w:=by simp [getObj,Sem.run,B]
 have p:∀g c',(setObj b (.map g c')).run P w=.ok () (w.putObj b (.map g c')):=λg c'=>by simp [setObj,Sem.run,B];rfl
 obtain⟨j,z,H⟩:=Gy (P:=P) (w:=w) E (b:=b) m A K;by_cases q:m∈l
 ·simp only [q,iL]at z;have G:=H q;have C:∃u,f.toList[j]? =δ u/\u.key=.int .i64 m:=by
   have:=aV (·[j]?) A;simp only [bE,G]at this;cases d:f.toList[j]? with
   |none=>rw [d]at this;cases this
   |some u=>rw [d]at this;exact⟨u,rfl,by simpa using this⟩
  obtain⟨u,o,r⟩:=C;have D:((f[j]?.map (·.key)).getD (.int .i64 m))=.int .i64 m:=by rw [<-gF,o];exact r
  refine pM (w':=w.putObj b (.map (f.modify j λe=>{e with key:=.int .i64 m,val:=.bool ζ}) clock)) rfl rfl ?_ (h _ ?_)
  ·simp [ξ,hx,c,N,Instr.mapUpdate,run_underlying O,s,pX E,z,Instr.keyThatStays,D,Instr.sameBits,p]
  ·refine J.put v b _ _ _ I rfl rfl ⟨_,_,rfl, ?_, ?_⟩
   ·rw [show jD l m=l by simp [jD,q],<-A];refine bV λi=> ?_;simp only [bE,gF,gG];by_cases a:j=i
    ·subst a;rw [gF]at o;simp [o,r]
    ·simp [a]
   ·intro e d;obtain⟨i,c⟩:=gD.1 d;rw [gF,gG]at c;by_cases a:j=i
    ·subst a;cases R:f[j]? with
     |none=>rw [R]at c;simp at c
     |some T=>rw [R]at c;simp at c;rw [<-c]
    ·simp only [a,oZ]at c;exact K e (aG (by rw [gF];exact c))
 ·simp only [q,oZ]at z;refine pM (w':=w.putObj b (.map (f.push {key:=.int .i64 m,val:=.bool ζ,born:=clock}) (clock+1))) rfl rfl ?_ (h _ ?_)
  ·simp [ξ,hx,c,N,Instr.mapUpdate,run_underlying O,s,pX E,z,p]
  ·refine J.put v b _ _ _ I rfl rfl ⟨_,_,rfl, ?_, ?_⟩
   ·simp [jD,q,A]
   ·intro e d;simp at d;rcases d with d|rfl
    ·exact K e aC9
    ·rfl
end
open Go.Value renaming ownBlock → Dd
open List renaming drop → cG, replicate → fH, take → jV
variable {c w:ν}{S:List Nat}{L:List cB}{a:Type}{e d:Nat}{b:Option χ}{f:a->List θ}{l:List a}
theorem Hp.H4{cap g:Nat}(h:Hp c S L w)(k:Nat)(o:L[k]? =δ (bA f e d (δ g) b cap l)):
  ∃cs:List θ,b=δ ⟨g,0,ε⟩/\γ cs=cap*d/\cs.take (γ l*d)=l.flatMap f/\γ l<=cap/\cap<=maxLen/\Hp c S (L.set k (aS g cs e)) w:=by
 obtain⟨t,s⟩:=h.res _ (aG o);rcases t with⟨r,_⟩|⟨u,n,q,rfl,α,m,j,i,x⟩
 ·cases r
 ·cases q;refine⟨n.toList,rfl,by simpa using i,x,m,j,h.change k _ _ o rfl rfl rfl (eK _) (λ_ _ _=>rfl) ?_ ?_⟩
  ·show w.heap[g]? =_;simpa [bA] using α
  ·intro v p;simp [aS]at p;subst p;exact⟨.inl rfl,(s g rfl).1⟩
theorem Hp.QS{w0:ν}{cs:List θ}{f:a->List θ}(h:Hp w0 S L w)(k sz cap:Nat)(l:List a)(b:L[k]? =δ (aS e cs d))(c:γ cs=cap*sz)(j:γ l<=cap)(m:cap<=maxLen)(i:cs.take (γ l*sz)=l.flatMap f):
  Hp w0 S (L.set k (bA f d sz (δ e) (δ ⟨e,0,ε⟩) cap l)) w:=by
 have g:=h.dG k b;refine h.change k _ _ b rfl rfl rfl (eK _) (λ_ _ _=>rfl) ?_ ?_
 ·exact .inr ⟨e,_,rfl,rfl,g,j,m,aC2,by simpa using i⟩
 ·intro b' α;simp [bA]at α;subst α;exact⟨.inl rfl,(bW.1 g).1⟩
theorem Hp.I1{cap:Nat}(h:Hp c S L w)(k:Nat)(o:L[k]? =δ (bA f e d ε b cap l)):l=[]/\cap=0/\b=ε:=by
 obtain⟨j,_⟩:=h.res _ (aG o);rcases j with⟨_,n,i,α⟩|⟨g,m,n,_⟩
 ·exact⟨n,i,α⟩
 ·cases n
theorem GI{α:Type}(f:α->List θ)(sz:Nat)(z:α)(a:γ (f z)=sz):∀(n j:Nat),j<n*sz->((fH n z).flatMap f)[j]? =(f z)[j%sz]?
 |0,j,h=>by simp at h
 |n+1,j,h=>by
  rw [Hx,rZ];by_cases b:j<sz
  ·rw [aI aA0,Nat.mod_eq_of_lt b]
  ·rw [aN aA0,a,GI f sz z a n _ (by rw [dB]at h;omega)];congr 1;rw [<-Nat.mod_eq_sub_mod aA0]
theorem Uo(f:a->List θ)(sz:Nat)(z:a)(b:Array θ)(g:b.toList=f z)(e:b.size=sz)(d:0<sz)(n:Nat):(madeCells b (n*sz)).toList=(fH n z).flatMap f:=by
 have c:γ (f z)=sz:=by rw [<-g];simpa using e
 apply bV;intro j;by_cases i:j<n*sz
 ·rw [GI f sz z c n j i];have h:j%sz<b.size:=by rw [e];exact Nat.mod_lt _ d
  simp [madeCells,i,<-g,e];rw [gP h,getElem!_pos b _ h]
 ·rw [bM (by simp [madeCells];omega),bM];rw [α f sz z c];omega
where
 α {a:Type} (f:a->List θ) (sz:Nat) (z:a) (c:γ (f z)=sz) {n:Nat}:γ ((fH n z).flatMap f)=n*sz:=by
  induction n with
  |zero=>simp
  |succ n k=>rw [Hx,rZ,bP,k,c,dB];omega
def Z8(l α:List a):List a:=α.take (γ l)++l.drop (γ α)
@[simp] theorem Zz  (l α:List a):γ (Z8 l α)=γ l:=by unfold Z8;simp;omega
theorem T2(l α:List a)(h:γ l=γ α):Z8 l α=α:=by unfold Z8;rw [h,iS,MG aA0,fI]
section
variable {P:ω}{n:Md}{ops:Array ψ}{Q:Exit->Act->ν->Prop}{F:Nat->θ}{w w0:ν}{S:List Nat}{L:List cB}
variable {d:Nat}{ty:φ}{pos:String}{after:Array Edge}{rest:List ψ}{α:Type}{f:α->List θ}
variable {x:π}{t:φ}
theorem MS{y:π}(hH:Hp w0 S L w)(e sz j:Nat)(kl U:Α)(c:Int)(z:α)(Y:P.underlying t=δ (.slice e))(hT:TI P e sz j)(J:0<j)(G:0<sz)
  (D:((P.info? e).bind (·.zero)).map (·.cells)=δ (f z).toArray) (hx:aZ n F x=.int kl c) (X:aZ n F y=.int U c)
  (m:0<=c/\(j:Int)*c<=281474976710656)
  (h:∀o a cap w',Hp w0 S (bA f e sz o a cap (fH c.toNat z)::L) w'->W P n ops Q rest (dV F d (.slice a (γ (fH c.toNat z)) cap)) w'):
  W P n ops Q (⟨δ d,.makeSlice t x y,ty,pos,after,ε⟩::rest) F w:=by
 obtain⟨i,A,V,p,Z,u,B⟩:=hT.parts;obtain⟨h0,K⟩:=m;obtain⟨cn,rfl⟩:=Int.eq_ofNat_of_zero_le h0;have M:i.bytes*cn<=281474976710656:=by
  rw [u];have a2:((j*cn:Nat):Int)<=281474976710656:=by rw [Int.natCast_mul];exact K
  omega
 have N:cn<=maxLen:=by have:cn<=i.bytes*cn:=Nat.le_mul_of_pos_left _ (by rw [u];exact J);simp only [maxLen];omega
 have C:A.cells.toList=f z:=by rw [V]at D;simp [p]at D;rw [D]
 obtain⟨w',l,H,s⟩:=run_make_full w w.heap.size t e i A sz Y V p Z kl U cn M N (eK _);rw [Uo f sz z A.cells C B G cn]at H;have R:Hp w [] [row (.slice (δ ⟨w.heap.size,0,ε⟩) cn cn) e sz cn ((fH cn z).flatMap f)] w':=by
  refine⟨s.os,s.tape,s.output,s.size,λk hk _=>s.block k hk aA2,λr l=> ?_,aA2⟩;simp at l;subst l;have I:=H.lt w.heap.size rfl;refine⟨?_,λb m=> ?_⟩
  ·obtain⟨hl,l⟩:=H;refine⟨hl, ?_⟩;rcases l with l|⟨g,c,T,E,_,m,h1,R,v,O⟩
   ·exact .inl l
   ·refine .inr ⟨g,c,T,E, ?_,h1,R,v,O⟩;simp only [Value.slice.injEq,aW,Addr.mk.injEq]at E;obtain⟨⟨rfl,-⟩,-,rfl⟩:=E;exact m
  ·simp [row,Dd]at m;subst m;exact⟨I.2,.inl (eK _)⟩
 have v:=hH.mQ R;have q:γ (fH cn z)=cn:=aA2;have O:(row (.slice (δ ⟨w.heap.size,0,ε⟩) cn cn) e sz cn ((fH cn z).flatMap f))=row (.slice (δ ⟨w.heap.size,0,ε⟩) (γ (fH cn z)) cn) e sz (γ (fH cn z)) ((fH cn z).flatMap f):=by rw [q]
 rw [O]at v;obtain⟨o,h5⟩:=v.Lq 0 rfl;have h6:=h o _ cn w' h5;refine gN (w':=w') rfl rfl ?_ h6;simp [ξ,hx,X,l]
theorem TA{u:φ}(D:Hp w0 S L w)(k g o b h:Nat)(i:Option χ)(a d e sz:Nat)(cs c:List θ)(A:L[k]? =δ (aS g cs e))(n:P.underlying t=δ (.slice e))(r:(sizeOf e).run P w=.ok sz w)
  (l:Rd w i c) (z:γ c=Nat.min a b*sz) (f:o+γ c<=γ cs) (E:∀v∈c,v.oneCell'=ζ):
  ∃w',(Builtin.copy_ #[t,u] ty #[.slice (δ ⟨g,o,ε⟩) b h,.slice i a d]).run P w=.ok (goInt (Nat.min a b)) w'/\Hp w0 S (L.set k (aS g (xX cs o c) e)) w':=by
 obtain⟨w',s,F⟩:=D.stored (P:=P) A f E;refine⟨w', ?_,F⟩
 have B:(Builtin.firstCells sz (Nat.min a b) (.slice i a d)).run P w=.ok c.toArray w:=by
  cases i with
  |none=>
   have:c=[]:=by
    cases c with
    |nil=>rfl
    |cons u G=>obtain⟨p,y,_⟩:=l 0 u aA2;cases y
   subst this;exact run_firstCells_none _ _ _ _ _
  |some p=>exact run_firstCells_some w sz _ p _ _ c z (λj v m=>by obtain⟨q,x,C⟩:=l j v m;cases x;exact C)
 simp [Builtin.copy_,run_underlying n,Builtin.lenOf,r,B,s]
theorem SZ{u:φ}(B:Hp w0 S L w)(k:Nat)(o:Option Nat)(a r:Option χ)(cap cx e sz:Nat)(l b:List α)(q:oY f sz)(s:L[k]? =δ (bA f e sz o a cap l))(C:P.underlying t=δ (.slice e))(D:(sizeOf e).run P w=.ok sz w)
  (K:Rd w r (b.flatMap f)):∃w',(Builtin.copy_ #[t,u] ty #[.slice a (γ l) cap,.slice r (γ b) cx]).run P w=.ok (goInt (Nat.min (γ b) (γ l))) w'/\Hp w0 S (L.set k (bA f e sz o a cap (Z8 l b))) w':=by
 have d:=(aD.1 s).1;cases o with
 |none=>
  obtain⟨rfl,rfl,rfl⟩:=B.I1 k s;have A:Z8 [] b=[]:=vJ (by rw [Zz];rfl);have M:L.set k (bA f e sz ε ε 0 [])=L:=by
   apply bV;intro j;by_cases m:j=k
   ·subst m;rw [aY d,s]
   ·rw [gW (λe=>m e.symm)]
  refine⟨w, ?_,by rw [A,M];exact B⟩
  have I:Nat.min (γ b) (γ ([]:List α))=0:=Nat.min_zero _;rw [I];have J:(Builtin.firstCells sz 0 (.slice r (γ b) cx)).run P w=.ok #[] w:=by
   cases r with
   |none=>exact run_firstCells_none _ _ _ _ _
   |some p=>exact run_firstCells_some w sz 0 p _ _ [] aA2 (λj v G=>by simp at G)
  simp [Builtin.copy_,run_underlying C,Builtin.lenOf,D,J]
 |some g=>
  obtain⟨cs,rfl,n,x,h,z,N⟩:=B.H4 k s;have i:Nat.min (γ b) (γ l)=min (γ b) (γ l):=rfl;have c:γ ((b.take (γ l)).flatMap f)=Nat.min (γ b) (γ l)*sz:=by rw [q.flat,kX,i,Nat.min_comm]
  obtain⟨w',H,F⟩:=TA N k g 0 (γ l) cap r (γ b) cx e sz cs _ (aY d) C D
   (by
    have Q:(b.take (γ l)).flatMap f=(b.flatMap f).take (γ (b.take (γ l))*sz):=by
     have:b.flatMap f=(b.take (γ l)).flatMap f++(b.drop (γ l)).flatMap f:=by rw [<-IK,IL]
     rw [this,<-q.flat _,Qy]
    rw [Q];exact K.take _) c
   (by rw [c,n,Ta];exact BH _ (lE (HR _ _) h)) (q.cells _)
  refine⟨w',H, ?_⟩
  rw [HL]at F;have E:=F.QS k sz cap (Z8 l b) (aY d) (by
   unfold xX;simp only [bP,kX,gZ];have:γ ((b.take (γ l)).flatMap f)<=γ cs:=by rw [c,n];exact BH _ (lE (HR _ _) h)
   omega) (by rw [Zz];exact h) z (by
   rw [Zz];unfold xX Z8;rw [Qq,vX,Ta,IK];have y:γ ((b.take (γ l)).flatMap f)<=γ l*sz:=by rw [c];exact BH _ (HR _ _)
   rw [yL,jL y];congr 1
   have O:cG (γ ((b.take (γ l)).flatMap f)) (l.flatMap f)=(l.drop (γ b)).flatMap f:=by
    rw [c];by_cases A:γ b<=γ l
    ·rw [show Nat.min (γ b) (γ l)=γ b from kB A];exact oN f sz q.len l (γ b)
    ·rw [show Nat.min (γ b) (γ l)=γ l from Nat.min_eq_right aA0,oN f sz q.len l (γ l),MG (eK _),MG aA0]
   rw [<-O,<-x,Y6])
  rw [HL]at E;exact E
theorem ar{y:π}{u:φ}(r:Hp w0 S L w)(k:Nat)(o:Option Nat)(a c:Option χ)(cap cx e sz:Nat)(l b:List α)(s:oY f sz)(p:L[k]? =δ (bA f e sz o a cap l))(i:P.underlying t=δ (.slice e))(j:(sizeOf e).run P w=.ok sz w)
  (hx:aZ n F x=.slice a (γ l) cap) (g:aZ n F y=.slice c (γ b) cx) (q:Rd w c (b.flatMap f))
  (h:∀w',Hp w0 S (L.set k (bA f e sz o a cap (Z8 l b))) w'->W P n ops Q rest (dV F d (goInt (Nat.min (γ b) (γ l)))) w'):
  W P n ops Q (⟨δ d,.call ⟨.builtin .copy, #[x,y], #[t,u]⟩,ty,pos,after,ε⟩::rest) F w:=by
 obtain⟨w',m,v⟩:=SZ (P:=P) (ty:=ty) (u:=u) r k o a c cap cx e sz l b s p i j q;refine gN (w':=w') rfl rfl ?_ (h w' v);simp [ξ,resolve,invoke,builtin,hx,g,m]
theorem uh{o:ψ}{rest:List ψ}{v:θ}{w':ν}(c:o.guard=ε)(f:o.dst=ε)
  (a:(ξ (aZ n F) o).run P w=.ok (.value v) w') (h:W P n ops Q rest F w'):W P n ops Q (o::rest) F w:=by
 obtain⟨k,D,ro⟩:=n;cases ro with
 |none=>unfold W WR at h⊢;dsimp only at h⊢;refine wpList_plain c λK b=> ?_;unfold Oper.wp;rw [IA,a,Oper.upon_value,f];exact b _ _ h
 |some r=>unfold W WR at h⊢;dsimp only at h⊢;refine wpListIn_plain c λK b=>⟨λ_ _=>trivial, ?_⟩;rw [IA,nN _ a (λd e=>by cases e),a,Oper.uponIn_value,f];exact b _ _ h
def XD(l:List α)(i:Nat)(z:α):List α:=l.take i++fH (γ l-i) z
@[simp] theorem AE (l:List α) (i:Nat) (z:α):γ (XD l i z)=γ l:=by unfold XD;simp;omega
theorem T7(l:List α)(i:Nat)(z:α)(h:i<=γ l):(XD l i z).take i=l.take i:=by unfold XD;rw [yL,uC,Nat.min_self];have:γ (jV i l)=i:=aA4;rw [this,Iz,Qq,fI]
theorem JK{t:φ}(q:Hp w0 S L w)(k g o m c e sz:Nat)(cs zs:List θ)(f:Array θ)(p:L[k]? =δ (aS g cs e))(l:P.underlying t=δ (.slice e))(i:∀w,((zeroValue e).run P w).andThen (λv w=>.ok v.cells w)=.ok f w)
  (b:(Builtin.zeroCells f m).toList=zs) (u:0<m) (a:o+γ zs<=γ cs) (r:∀v∈zs,v.oneCell'=ζ):
  ∃w',(Builtin.clear_ #[t] ty #[.slice (δ ⟨g,o,ε⟩) m c]).run P w=.ok (.tuple #[]) w'/\Hp w0 S (L.set k (aS g (xX cs o zs) e)) w':=by
 obtain⟨w',n,s⟩:=q.stored (P:=P) (off:=o) (vs:=zs) p a r;refine⟨w', ?_,s⟩;cases d:(zeroValue e).run P w with
 |ok v j=>have:=i w;rw [d]at this;simp only [Result.andThen_ok,Result.ok.injEq]at this;obtain⟨rfl,rfl⟩:=this;obtain⟨h,rfl⟩:∃h,m=h+1:=⟨m-1,aA0⟩;simp [Builtin.clear_,run_underlying l,d,b,n]
 |halt x j=>have:=i w;rw [d]at this;simp [Result.andThen]at this
theorem IJ{e:Nat}{z:α}(b:((P.info? e).bind (·.zero)).map (·.cells)=δ (f z).toArray):∀w,((zeroValue e).run P w).andThen (λv w=>.ok v.cells w)=.ok (f z).toArray w:=by
 intro w;cases c:P.info? e with
 |none=>rw [c]at b;cases b
 |some i=>
  rw [c]at b;cases a:i.zero with
  |none=>simp [a]at b
  |some v=>simp [a]at b;simp [zeroValue,typeInfo,c,a,b]
theorem II(sz:Nat)(z:α)(b:oY f sz)(a:0<sz)(m:Nat):(Builtin.zeroCells (f z).toArray m).toList=(fH m z).flatMap f:=by
 have h:Builtin.zeroCells (f z).toArray m=madeCells (f z).toArray (m*sz):=by unfold Builtin.zeroCells madeCells;rw [show(f z).toArray.size=sz by simpa using b.len z]
 rw [h];exact Uo f sz z _ aA2 (by simpa using b.len z) a m
theorem JJ{t:φ}(A:Hp w0 S L w)(k:Nat)(o:Option Nat)(a:Option χ)(cap e sz:Nat)(l:List α)(i:Nat)(z:α)(n:oY f sz)(p:L[k]? =δ (bA f e sz o a cap l))(B:P.underlying t=δ (.slice e))(s:0<sz)
  (F:((P.info? e).bind (·.zero)).map (·.cells)=δ (f z).toArray) (q:i<=γ l):
  ∃w',(Builtin.clear_ #[t] ty #[.slice (Rp a cap i sz) (γ l-i) (cap-i)]).run P w=.ok (.tuple #[]) w'/\Hp w0 S (L.set k (bA f e sz o a cap (XD l i z))) w':=by
 have c:k<γ L:=(aD.1 p).1;by_cases d:i=γ l
 ·have H:XD l i z=l:=by unfold XD;rw [d,iS,Iz];simp
  have I:L.set k (bA f e sz o a cap l)=L:=by
   apply bV;intro j;by_cases h:j=k
   ·subst h;rw [aY c,p]
   ·rw [gW (λe=>h e.symm)]
  refine⟨w, ?_,by rw [H,I];exact A⟩;rw [d,Iz];cases Rp a cap (γ l) sz<;>simp [Builtin.clear_,run_underlying B]
 ·cases o with
  |none=>obtain⟨rfl,_,_⟩:=A.I1 k p;simp at q d;omega
  |some g=>
   obtain⟨cs,rfl,m,r,v,y,K⟩:=A.H4 k p;have u:¬cap=i:=aA0;have J:Rp (δ ⟨g,0,ε⟩) cap i sz=δ ⟨g,i*sz,ε⟩:=by unfold Rp;rw [aA u];simp [LY]
   rw [J];have b:γ ((fH (γ l-i) z).flatMap f)=(γ l-i)*sz:=by rw [n.flat];simp
   obtain⟨w',G,E⟩:=JK (P:=P) (ty:=ty) (t:=t) K k g (i*sz) (γ l-i) (cap-i) e sz cs _ _ (aY c) B (IJ F) (II sz z n s (γ l-i)) aA0 (by rw [b,m,<-fN];exact BH _ aA0) (n.cells _);refine⟨w',G, ?_⟩;rw [HL]at E;have C:i*sz+(γ l-i)*sz<=γ cs:=by rw [m,<-fN];exact BH _ aA0
   have D:=E.QS (f:=f) k sz cap (XD l i z) (aY c) (by
    unfold xX;simp only [bP,kX,gZ,b];omega) (by rw [AE];exact v) y (by
    rw [AE];unfold xX XD;rw [IK];have N:(cs.take (i*sz))=(l.take i).flatMap f:=by
     have M:(l.take i).flatMap f=(l.flatMap f).take (γ (l.take i)*sz):=by
      have:l.flatMap f=(l.take i).flatMap f++(l.drop i).flatMap f:=by rw [<-IK,IL]
      rw [this,<-n.flat (l.take i),Qy]
     rw [M,<-r,uC,kX,kB q,kB (BH _ q)]
    rw [N];have x:γ ((l.take i).flatMap f++(fH (γ l-i) z).flatMap f)=γ l*sz:=by rw [bP,n.flat,b,kX,kB q,<-fN];congr 1;omega
    rw [<-x,Qy])
   rw [HL]at D;exact D
theorem RW(p:Hp w0 S L w)(k:Nat)(o:Option Nat)(a:Option χ)(cap e sz:Nat)(l:List α)(i:Nat)(z:α)(q:oY f sz)(j:L[k]? =δ (bA f e sz o a cap l))(d:P.underlying t=δ (.slice e))(s:True)(b:0<sz)
  (c:((P.info? e).bind (·.zero)).map (·.cells)=δ (f z).toArray) (hx:aZ n F x=.slice (Rp a cap i sz) (γ l-i) (cap-i)) (m:i<=γ l)
  (h:∀w',Hp w0 S (L.set k (bA f e sz o a cap (XD l i z))) w'->W P n ops Q rest F w'):
  W P n ops Q (⟨ε,.call ⟨.builtin .clear, #[x], #[t]⟩,ty,pos,after,ε⟩::rest) F w:=by
 obtain⟨w',g,r⟩:=JJ (P:=P) (ty:=ty) p k o a cap e sz l i z q j d b c m;refine uh (v:=.tuple #[]) (w':=w') rfl rfl ?_ (h w' r);simp [ξ,resolve,invoke,builtin,hx,g]
end
section
variable {P:ω}{n:Md}{ops:Array ψ}{Q:Exit->Act->ν->Prop}{F:Nat->θ}{w w0:ν}{S:List Nat}{L:List cB}
variable {d:Nat}{ty:φ}{pos:String}{after:Array Edge}{rest:List ψ}{α:Type}{f:α->List θ}
end
theorem Li{cs vs:List θ}{o:Nat}(h:o+γ vs<=γ cs):γ (xX cs o vs)=γ cs:=by unfold xX;simp;omega
section
variable {α:Type}{f:α->List θ}{sz:Nat}
end
end Go.Wk
