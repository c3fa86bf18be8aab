/-
  The law RoutingArrives holds (part 1 of 9).
-/
import Derived.Tactics2
import Derived.Scope
import Derived.Below
import Derived.KernelRfl
import Derived.RangeFuncCalls
import Derived.RangeFuncLeaves
import Derived.TacticsIn
import Derived.Laws.Strings3
import Derived.Laws.Concat
import Derived.Laws.Small
import Derived.Laws.Slices
import Derived.Laws.BitsLemmas
import Derived.Laws.OwnMore
import Derived.Laws.AppendOwn
import Derived.Laws.CopyRow
import Derived.StillTail
import Derived.OrdersHeld
import Derived.Laws.BytesString
import Derived.Laws.MakeOwn
import Derived.WalkSmall
import Derived.Laws.Cover3
import Derived.Laws.StructEq
import Derived.Lib.AppendZerosOnto
import Derived.Lib.Overlaps
import Derived.WideLaws
import Derived.Lib.AtoiAll
import Derived.RangeFuncRecord
import Derived.Lib.AppendStr
import Derived.Lib.Builder
import Derived.Lib.Bytealg
import Derived.Lib.IndexAny
import Derived.Lib.LastIndexByte
import Derived.Lib.IndexMore
import Derived.Lib.SlTrimSet
import Derived.Lib.TrimByte
import Derived.Lib.Strings
import Derived.Lib.ItoaNum
import Derived.Lib.Join
import Derived.Sort.Grow
abbrev Τ:=@rfl
open Bool renaming false → ν, true → μ
open Go renaming Addr → Ζ, IntKind → Δ, Oper → Ι, Operand → Β, Program → Θ, TypeId → Ε, Value → ς, World → φ, execOp → χ, sizeOf → Ο
open Go.Utf8 renaming encode → Γ
open Go.Value renaming func → Λ, int → π, slice → ξ
open List renaming length → γ
open Nat renaming min → Ν
open Option renaming none → ι, some → θ
abbrev δ:=@List
abbrev ε:=@Option
abbrev ζ:=UInt8
abbrev η:=Bool
set_option linter.unusedVariables false
section
open Go
open Go.RowKit (Below)
open Nat renaming beq → cT, blt → iJ
variable{p:Prop}
theorem aA0(h:p:=by omega):p:=h
theorem aA1(h:p:=by decide):p:=h
theorem aA2(h:p:=by simp):p:=h
theorem aA3(h:p:=by simp;omega):p:=h
theorem aA4(h:p:=by decide+kernel):p:=h
theorem aA5(h:p:=by rw[eG];omega):p:=h
theorem aA6(h:p:=by first|rfl|(simp;done)|omega|(simp;omega)|(rw[bW];omega)):p:=h
theorem aA7(h:p:=by rw[h];simp):p:=h
theorem aA8(h:p:=by simpa using h):p:=h
theorem aA9(h:p:=by first|rfl|(simp;done)|omega|(simp;omega)|(rw[iW];omega)):p:=h
theorem aB0(h:p:=by unfold TI;kernel_rfl):p:=h
theorem aB1(h:p:=by simp[lG]):p:=h
theorem aB2(h:p:=by intro w n;exact(mG j 0 6 _ _ 25 n Τ Τ aD aD aD)):p:=h
theorem aB3(h:p:=by rw[h];simp[el]):p:=h
theorem aB4(h:p:=by simp only[cR,fE];omega):p:=h
theorem aB5(h:p:=by rw[iW];omega):p:=h
theorem aB6(h:p:=by rw[fY];omega):p:=h
theorem aB7(h:p:=by simp only[fE];omega):p:=h
theorem aB8(h:p:=by rw[h];omega):p:=h
theorem aB9(h:p:=by first|omega|assumption|decide):p:=h
theorem aC0(h:p:=by rw[cR,fE];omega):p:=h
theorem aC1(h:p:=by simpa using a):p:=h
theorem aC2(h:p:=by simpa using b):p:=h
theorem aC3(h:p:=by rw[Qb];omega):p:=h
theorem aC4(h:p:=by show γ s<_;omega):p:=h
theorem aC5(h:p:=by rw[fE];omega):p:=h
theorem aC6(h:p:=by simpa using c):p:=h
theorem aC7(h:p:=by show θ (ξ _ _ _)=_;rw[nS]):p:=h
theorem aC8(h:p:=by cases vs with|nil=>exact b|cons a eV=>cases eV<;>exact b):p:=h
theorem aC9(h:p:=by simp only[cR,fE,tU];omega):p:=h
theorem aD0(h:p:=by simp only[cR,dT,tU];omega):p:=h
theorem aD1(h:p:=by first|rfl|(simp;done)|(simp;omega)):p:=h
theorem aD2(h:p:=by unfold Ep;omega):p:=h
theorem aD3(h:p:=by simp only[dT,tU];omega):p:=h
theorem aD4(h:p:=by show γ s<=_;omega):p:=h
theorem aD5(h:p:=by simpa using d):p:=h
theorem aD6(h:p:=by show γ t<_;omega):p:=h
theorem aD7(h:p:=by simpa using hx):p:=h
theorem aD8(h:p:=by rw[A];exact W):p:=h
theorem aD9(h:p:=by simp[ea,Addr.add]):p:=h
theorem aE0(h:p:=by simpa using f):p:=h
theorem aE1(h:p:=by simp[SC.ids]):p:=h
theorem aE2(h:p:=by dsimp only;omega):p:=h
theorem aE3(h:p:=by unfold maxLen;omega):p:=h
theorem aE4(h:p:=by simpa using g):p:=h
theorem aE5(h:p:=by simpa using e):p:=h
theorem aE6(h:p:=by rw[dR];omega):p:=h
theorem aE7(h:p:=by simp[Vd]):p:=h
theorem aE8(h:p:=by rw[h,AL]):p:=h
theorem aE9(h:p:=by rw[<-GZ,HN]):p:=h
theorem aF0(h:p:=by unfold Re;rw[Go.Ce.Tr.ed]):p:=h
theorem aF1(h:p:=by rw[ld (r _ iK)];exact hid):p:=h
theorem aF2(h:p:=by intro w m;exact lH i 1 aD aD ⟨by omega,by omega⟩):p:=h
theorem aF3(h:p:=by rw[gs q dg h A];exact U):p:=h
theorem aF4(h:p:=by rw[HF];exact a):p:=h
theorem aF5(h:p:=by intro w s;exact(mG f 0 6 _ _ 25 s Τ Τ aD aD aD)):p:=h
theorem aF6(h:p:=by rw[bhh];omega):p:=h
theorem aF7(h:p:=by rw[AG]):p:=h
abbrev mf:=@Array.ext
abbrev fV:=@Array.getElem?_eq_getElem
abbrev bY:=@Array.getElem?_eq_some_iff
abbrev yH:=@Array.mem_append
abbrev yG:=@Bool.and_eq_true
abbrev fX:=@Bool.eq_iff_iff
abbrev jE:=@Bool.false_or
abbrev Vv:=@Bool.not_eq_true'
abbrev AF:=@Bool.or_assoc
abbrev jC:=@Bool.or_eq_true
abbrev gM:=@Bool.or_false
abbrev dB:=@Eq.trans
abbrev kt:=@Int.le_refl
abbrev Pr:=@Int.natCast_nonneg
abbrev tQ:=@Int.toNat_natCast
abbrev eC:=@List.all_append
abbrev aT:=@List.all_eq_true
abbrev QX:=@List.any_append
abbrev eO:=@List.any_eq_false
abbrev eK:=@List.any_eq_true
abbrev lF:=@List.any_nil
abbrev LV:=@List.append_eq_nil_iff
abbrev eA:=@List.cons.injEq
abbrev GV:=@List.cons_append
abbrev Pq:=@List.dropWhile_cons_of_neg
abbrev jL:=@List.dropWhile_suffix
abbrev iI:=@List.drop_append_of_le_length
abbrev Rs:=@List.drop_eq_getElem_cons
abbrev LU:=@List.drop_eq_nil_of_le
abbrev Pp:=@List.drop_left
abbrev LP:=@List.drop_of_length_le
abbrev Po:=@List.drop_take
abbrev ks:=@List.drop_zero
abbrev cI:=@List.ext_getElem?
abbrev GU:=@List.filter_cons_of_neg
abbrev LO:=@List.flatMap_singleton
abbrev QW:=@List.foldl_cons
abbrev bF:=@List.getD_eq_getElem?_getD
abbrev aI:=@List.getElem?_append_left
abbrev aM:=@List.getElem?_append_right
abbrev iB:=@List.getElem?_cons_succ
abbrev bV:=@List.getElem?_drop
abbrev aN:=@List.getElem?_eq_getElem
abbrev bG:=@List.getElem?_eq_none
abbrev aE:=@List.getElem?_eq_some_iff
abbrev aW:=@List.getElem?_map
abbrev bX:=@List.getElem?_range
abbrev dK:=@List.getElem?_set
abbrev gF:=@List.getElem?_set_ne
abbrev bE:=@List.getElem?_set_self
abbrev bO:=@List.getElem?_take
abbrev AE:=@List.getElem?_take_of_lt
abbrev fB:=@List.getElem_mem
abbrev mD:=@List.getElem_set_ne
abbrev WW:=@List.getElem_set_self
abbrev Pn:=@List.length_append
abbrev dF:=@List.length_cons
abbrev lE:=@List.length_drop
abbrev cA:=@List.length_pos_iff
abbrev Gg:=@List.length_reverse
abbrev bD:=@List.length_set
abbrev bW:=@List.length_take
abbrev gL:=@List.map_cons
abbrev pA:=@List.map_inj_right
abbrev tP:=@List.map_map
abbrev gE:=@List.map_nil
abbrev aZ:=@List.mem_append
abbrev aQ:=@List.mem_cons
abbrev kW:=@List.mem_cons_of_mem
abbrev iH:=@List.mem_eraseIdx_iff_getElem
abbrev jK:=@List.mem_iff_getElem?
abbrev gD:=@List.mem_map
abbrev aL:=@List.mem_of_getElem?
abbrev kV:=@List.mem_of_mem_drop
abbrev AD:=@List.mem_of_mem_eraseIdx
abbrev Bt:=@List.mem_of_mem_take
abbrev aF:=@List.mem_singleton
abbrev GR:=@List.not_any_eq_all_not
abbrev GQ:=@List.not_mem_nil
abbrev dO:=@List.pairwise_append
abbrev iR:=@List.pairwise_cons
abbrev dH:=@List.pairwise_iff_getElem
abbrev wK:=@List.perm_append_comm
abbrev kr:=@List.set_append_left
abbrev wJ:=@List.set_append_right
abbrev fJ:=@List.singleton_append
abbrev eY:=@List.sum_cons
abbrev fA:=@List.take_append
abbrev WV:=@List.take_append_drop
abbrev iG:=@List.take_append_of_le_length
abbrev iA:=@List.take_length
abbrev eT:=@List.take_succ_cons
abbrev tO:=@List.take_succ_eq_append_getElem
abbrev hZ:=@List.take_take
abbrev tN:=@List.take_zero
abbrev eL:=@Nat.add_mul
abbrev Pm:=@Nat.add_right_comm
abbrev oZ:=@Nat.blt_eq
abbrev eH:=@Nat.eq_of_beq_eq_true
abbrev GP:=@Nat.le_mul_of_pos_right
abbrev aK:=@Nat.le_of_ble_eq_true
abbrev gC:=@Nat.le_of_eq
abbrev GO:=@Nat.le_of_not_lt
abbrev pW:=@Nat.le_refl
abbrev gB:=@Nat.le_trans
abbrev bU:=@Nat.lt_of_lt_of_le
abbrev Ia:=@Nat.lt_or_ge
abbrev aY:=@Nat.lt_succ_self
abbrev QV:=@Nat.min_eq_left
abbrev GN:=@Nat.min_le_right
abbrev GM:=@Nat.mod_eq_of_lt
abbrev kq:=@Nat.mul_le_mul_right
abbrev ko:=@Nat.mul_pos
abbrev kj:=@Nat.one_mul
abbrev Pl:=@Nat.pos_of_ne_zero
abbrev ki:=@Nat.pow_le_pow_right
abbrev Hz:=@Nat.pow_succ
abbrev kU:=@Nat.sub_le_sub_right
abbrev Hy:=@Nat.sub_self
abbrev iQ:=@Nat.sub_zero
abbrev cN:=@Option.bind_some
abbrev AB:=@Option.isSome_iff_exists
abbrev tM:=@Option.map_eq_none_iff
abbrev cH:=@Option.map_eq_some_iff
abbrev aP:=@Option.some.inj
abbrev bH:=@Option.some.injEq
abbrev cO:=@Prod.mk.injEq
abbrev kg:=@Sum.inr.inj
abbrev wI:=@UInt8.le_iff_toNat_le
abbrev jB:=@UInt8.toNat_inj
abbrev fH:=@UInt8.toNat_lt
abbrev iP:=@UInt8.toNat_ofNat'
abbrev Pj:=@and_true
abbrev dX:=@beq_eq_false_iff_ne
abbrev aJ:=@cond_false
abbrev aO:=@cond_true
abbrev bM:=@congrArg
abbrev dE:=@decide_eq_decide
abbrev aG:=@decide_eq_false
abbrev bT:=@decide_eq_false_iff_not
abbrev aH:=@decide_eq_true
abbrev bL:=@decide_eq_true_eq
abbrev GL:=@if_false
abbrev aA:=@if_neg
abbrev aB:=@if_pos
abbrev gZ:=@if_true
abbrev QU:=@ne_eq
abbrev fG:=@of_decide_eq_false
abbrev cC:=@of_decide_eq_true
abbrev tU:=@List.length_nil
abbrev Pu:=@LU
abbrev Bv:=@yG
abbrev Rx:=@aK
abbrev vJ:=@Bool.not_false
abbrev qO:=@gL
abbrev yL:=@List.nil_append
abbrev qL:=@Sum.elim_inl
abbrev Gj:=@List.length_map
abbrev HA:=@kq
abbrev Cb:=@Nat.add_assoc
abbrev HN:=@WV
abbrev Rw:=@aY
abbrev GZ:=@List.flatMap_append
abbrev Ru:=@List.map_append
abbrev AP:=@GV
abbrev Pt:=@List.all_cons
abbrev Ie:=@Nat.add_comm
abbrev aS:=@cN
abbrev cR:=@Pn
abbrev dT:=@dF
abbrev fE:=@List.length_singleton
abbrev gO:=@eH
abbrev gN:=@kW
abbrev dC:=@pW
abbrev fY:=@lE
abbrev iK:=@List.mem_cons_self
abbrev gV:=@List.append_nil
abbrev eJ:=@Nat.zero_le
abbrev iW:=@bW
abbrev Gh:=@List.eq_nil_of_length_eq_zero
abbrev nW:=@List.append_assoc
abbrev iV:=@Bool.not_true
abbrev tT:=@tQ
abbrev wL:=@List.flatMap_cons
abbrev jZ:=@gB
abbrev mi:=@List.map_singleton
abbrev XX:=@QV
abbrev zbC:=@Rs
abbrev XA:=@List.take_left
abbrev WZ:=@ks
abbrev xj:=@List.map_congr_left
abbrev LX:=@Nat.succ_mul
abbrev XW:=@Bool.false_and
abbrev kv:=@Option.map_none
abbrev Ps:=@Nat.zero_add
abbrev AG:=@List.drop_drop
abbrev XV:=@List.mem_append_right
abbrev XU:=@List.mem_append_left
abbrev WY:=@bU
abbrev Rt:=@Nat.add_zero
abbrev mh:=@Nat.add_sub_cancel_left
abbrev AO:=@Bool.true_and
abbrev LW:=@Option.map_some
abbrev mg:=@UInt8.lt_iff_toNat_lt
abbrev GY:=@List.any_cons
abbrev WX:=@List.drop_length
abbrev xi:=@List.take_of_length_le
abbrev GX:=@Sum.elim_inr
end
namespace Go.Wk
open Go.RowKit (Below)
open Nat renaming beq → cT, blt → iJ
variable{p:Prop}
def cY(F:Nat->ς)(d:Nat)(v:ς):Nat->ς:=λt=>bif cT t d then v else F t
structure Md where
 n:Nat
 D:List Deferred
 ro:Option (Option Nat)
def fr(n:Md)(F:Nat->ς):Act:={tmps:=Array.ofFn (n:=n.n) λi=>F i.val,defers:=n.D}
def aU(n:Md)(F:Nat->ς):Β->ς
 |.tmp t=>bif iJ t n.n then F t else undef
 |.const v=>v
 |.global g=>.pointer (θ ⟨g,0,ι⟩)
 |.func f=>.func (.func f) #[] #[]
def KX(l:δ ς):Nat->ς:=λt=>l.getD t undef
abbrev cW(b:Nat):ε Ζ:=θ ⟨b,0,ι⟩
theorem _root_.Go.aD.{u}{c:Sort u}{a b:c}(h:a=b:=by kernel_rfl):a=b:=h
theorem _root_.Go.kqF(h:p:=by first|kernel_rfl|(intro _;kernel_rfl)|decide):p:=h
theorem _root_.Go.AK(h:p:=by constructor<;>first|exact Go.kqF|(constructor<;>first|exact Go.kqF|(constructor<;>exact Go.kqF))):p:=h
theorem nzz{a:Type}{x:a}(h:ι=θ x):p:=nomatch h
theorem lsz(h:p:=by(try simp only[bD])<;>first|rfl|omega):p:=h
theorem lsy(h:p:=by(try simp only[bD])<;>first|rfl|omega|simp):p:=h
theorem iZ{a b:Nat}(h:Nat.ble a b=μ:=by rfl):a<=b:=Rx h
theorem cD(a:Nat)(h:0<a:=by omega):∃m,a=m+1:=⟨a-1,aA0⟩
theorem bA(h:p:=by omega):p:=h
theorem Ee(n:Md)(F:Nat->ς)(t:Nat):(fr n F).tmps.getD t undef=bif iJ t n.n then F t else undef:=by
 unfold fr;by_cases h:t<n.n
 ·have a:iJ t n.n=μ:=by simpa [oZ] using h
  simp[h,a]
 ·have a:iJ t n.n=ν:=by
   cases hx:iJ t n.n
   ·rfl
   ·exact absurd (by simpa [oZ] using hx) h
  simp[h,a]
theorem HF(n:Md)(F:Nat->ς):(fr n F).eval=aU n F:=by
 funext o;cases o with
 |tmp t=>exact Ee n F t
 |const v=>rfl
 |global g=>rfl
 |func f=>rfl
theorem vu(F:Nat->ς)(d:Nat)(v:ς):cY F d v d=v:=by simp[cY]
theorem Jt(F:Nat->ς)(d:Nat)(v:ς)(t:Nat)(h:t≠d):cY F d v t=F t:=by
 have:cT t d=ν:=by
  cases hx:cT t d
  ·rfl
  ·exact absurd (gO hx) h
 simp[cY,this]
theorem lV(n:Md)(F:Nat->ς)(d:Nat)(v:ς):(fr n F).put (θ d) v=fr n (cY F d v):=by
 unfold fr Act.put;simp;apply mf
 ·simp
 ·intro i a b;by_cases hid:i=d
  ·subst hid;simp[vu]
  ·rw[Array.getElem_setIfInBounds_ne aC1 (λe=>hid e.symm)];simp[Jt _ _ _ _ hid]
theorem Yq(args:δ ς)(n:Nat)(h:γ args<=n):
  ({tmps:=args.toArray++Array.replicate (n-args.toArray.size) undef,defers:=[]})=fr ⟨n,[],ι⟩ (KX args):=by
 unfold fr KX;simp;apply mf
 ·simp;omega
 ·intro i c b;simp only[Array.getElem_append];by_cases a:i<γ args
  ·simp[a]
  ·simp[a]
abbrev fen(x:ε Nat):Fence:={Fence.wide with round:=x}
def WR(P:Θ)(r:ε (ε Nat))(Ω:Array Ι)(Q:Exit->Act->φ->Prop)(l:δ Ι)(a:Act)(w:φ):Prop:=
 match r with
 |none=>wpList P Ω Q l a w
 |some x=>wpListIn (fen x) 0 P Ω Q l a w
def CC(P:Θ)(r:ε (ε Nat))(Q:Exit->Act->φ->Prop)(c:Code)(a:Act)(w:φ):Prop:=
 match r with
 |none=>c.wp P Q a w
 |some x=>c.wpIn (fen x) 0 P Q a w
def W(P:Θ)(n:Md)(Ω:Array Ι)(Q:Exit->Act->φ->Prop)(l:δ Ι)(F:Nat->ς)(w:φ):Prop:=WR P n.ro Ω Q l (fr n F) w
def C(P:Θ)(n:Md)(Q:Exit->Act->φ->Prop)(c:Code)(F:Nat->ς)(w:φ):Prop:=CC P n.ro Q c (fr n F) w
def Ev(P:Θ)(n:Md)(y:Code)(Q:Exit->Act->φ->Prop):Exit->Act->φ->Prop:=Exit.then (CC P n.ro Q y) Q
def CR(P:Θ)(f:FuncId)(args:δ ς)(w:φ)(R:ς->φ->Prop):Prop:=
 Calls P f args.toArray w λe w'=>∃v,e=.returned v/\R v w'
theorem CR.mono{P:Θ}{f:FuncId}{args:δ ς}{w:φ}{R a:ς->φ->Prop}(h:CR P f args w R)(b:∀v w',R v w'->a v w'):CR P f args w a:=
 Calls.mono h λ_ _ ⟨v,e,r⟩=>⟨v,e,b v _ r⟩
section
variable{P:Θ}{n:Md}{Ω:Array Ι}{Q:Exit->Act->φ->Prop}{F:Nat->ς}{w:φ}
variable{r:ε (ε Nat)}{x:Code}{a:Exit->Act->φ->Prop}
theorem Zj{c:Act}(h:CC P r Q x c w)(b:∀e c w,Q e c w->a e c w):CC P r a x c w:=by
 cases r with
 |none=>exact wp_mono h b
 |some p=>exact wpIn_mono h b
variable{j:FuncId}{g:δ ς}{R:ς->φ->Prop}
theorem enter{k:Nat}{fn:Func}(d:P.funcs[j]? =θ fn)(c:fn.body=θ x)(a:fn.ntmps=k)(b:γ g<=k)
  (h:C P ⟨k,[],ι⟩ (bodyPost P fn λe w'=>∃v,e=.returned v/\R v w') x (KX g) w):CR P j g w R:=by
 refine calls_of_wp d c ?_;rw[a,Yq g k b];exact h
variable{y:Code}
theorem jR(h:C P n (Ev P n y Q) x F w):C P n Q (.seq x y) F w:=by
 obtain⟨k,D,ro⟩:=n;cases ro with
 |none=>exact wp_seq h
 |some r=>exact wpIn_seq h
theorem lY(h:Q .normal (fr n F) w):C P n Q .skip F w:=by
 obtain⟨k,D,ro⟩:=n;cases ro with
 |none=>exact wp_skip h
 |some r=>exact wpIn_skip h
variable{d:Nat}
theorem vb(h:Q .normal (fr n F) w):C P n Q (.label d) F w:=by
 obtain⟨k,D,ro⟩:=n;cases ro with
 |none=>exact wp_label h
 |some r=>exact wpIn_label h
theorem Hm(h:Q (.exit d) (fr n F) w):C P n Q (.exit d) F w:=by
 obtain⟨k,D,ro⟩:=n;cases ro with
 |none=>exact wp_exit h
 |some r=>exact wpIn_exit h
theorem nM(h:Q .ret (fr n F) w):C P n Q .ret F w:=by
 obtain⟨k,D,ro⟩:=n;cases ro with
 |none=>exact wp_ret h
 |some r=>exact wpIn_ret h
theorem QC(h:C P n (Exit.inBlock d Q) x F w):C P n Q (.block d x) F w:=by
 obtain⟨k,D,ro⟩:=n;cases ro with
 |none=>exact wp_block h
 |some r=>exact wpIn_block h
variable{D:δ Deferred}
theorem Zk(h:C P ⟨d,D,ι⟩ (Exit.noGoto Q) x F w):C P ⟨d,D,ι⟩ Q (.scope x) F w:=wp_scope_straight h
theorem az(h:Q .normal (fr n F) w):Exit.noGoto Q .normal (fr n F) w:=h
theorem Tk(h:Q .ret (fr n F) w):Exit.noGoto Q .ret (fr n F) w:=h
theorem n_exit(h:Q (.exit d) (fr n F) w):Exit.noGoto Q (.exit d) (fr n F) w:=h
variable{l:δ Ι}
theorem pM(h:W P n l.toArray Q l F w):C P n Q (.region d l.toArray ν) F w:=by
 obtain⟨k,D,ro⟩:=n;cases ro with
 |none=>exact wp_region_lit h
 |some r=>exact wpIn_region_lit h
variable{c:Β}
theorem sU(a:aU n F c=.bool μ)(h:C P n Q x F w):C P n Q (.cond c x y) F w:=by
 obtain⟨k,D,ro⟩:=n;cases ro with
 |none=>exact wp_cond_true aF4 h
 |some r=>exact wpIn_cond_true aF4 h
theorem XG(a:aU n F c=.bool ν)(h:C P n Q y F w):C P n Q (.cond c x y) F w:=by
 obtain⟨k,D,ro⟩:=n;cases ro with
 |none=>exact wp_cond_false aF4 h
 |some r=>exact wpIn_cond_false aF4 h
theorem lZ{b:η}(a:aU n F c=.bool b)(d:b=μ->C P n Q x F w)(e:b=ν->C P n Q y F w):C P n Q (.cond c x y) F w:=by
 cases b with
 |true=>exact sU a (d Τ)
 |false=>exact XG a (e Τ)
theorem c_kt{b:η}(a:aU n F c=.bool b)(d:b=μ)(h:C P n Q x F w):C P n Q (.cond c x y) F w:=sU (by rw[a,d]) h
theorem c_kf{b:η}(a:aU n F c=.bool b)(d:b=ν)(h:C P n Q y F w):C P n Q (.cond c x y) F w:=XG (by rw[a,d]) h
theorem ij{p:Prop}[Decidable p](d:aU n F c=.bool (decide p))(a:p->C P n Q x F w)(b:¬p->C P n Q y F w):C P n Q (.cond c x y) F w:=
 lZ d (λh=>a (cC h)) (λh=>b (fG h))
theorem c_ndec{p:Prop}[Decidable p](d:aU n F c=.bool (!decide p))(a:¬p->C P n Q x F w)(b:p->C P n Q y F w):C P n Q (.cond c x y) F w:=
 lZ d (λh=>a aA8) (λh=>b aA8)
variable{i:Nat}
theorem kY{a:δ Deferred}(h:C P ⟨d,D,r⟩ Q x F w):Ev P ⟨i,a,r⟩ x Q .normal (fr ⟨d,D,r⟩ F) w:=h
variable{m:Md}
theorem vN(h:Q .ret (fr n F) w):Ev P m x Q .ret (fr n F) w:=h
theorem Hn(h:Q (.exit d) (fr n F) w):Ev P m x Q (.exit d) (fr n F) w:=h
variable{K:Act->φ->Prop}
theorem q_loop(h:K (fr n F) w):Exit.then K Q .normal (fr n F) w:=h
theorem Vf(h:Q .ret (fr n F) w):Exit.then K Q .ret (fr n F) w:=h
theorem Jb(h:Q (.exit d) (fr n F) w):Exit.then K Q (.exit d) (fr n F) w:=h
theorem jd(h:Q .normal (fr n F) w):Exit.inBlock d Q .normal (fr n F) w:=h
theorem b_ret(h:Q .ret (fr n F) w):Exit.inBlock d Q .ret (fr n F) w:=h
theorem Hl(h:Q .normal (fr n F) w):Exit.inBlock d Q (.exit d) (fr n F) w:=by simpa [Exit.inBlock] using h
theorem jc(b:cT i d=ν)(h:Q (.exit i) (fr n F) w):Exit.inBlock d Q (.exit i) (fr n F) w:=by
 have:¬i=d:=λe=>by subst e;simp at b
 simpa [Exit.inBlock,this] using h
def mB(F:Nat->ς):δ (Nat×ς)->Prop
 |[]=>True
 |(t,v)::l=>F t=v/\mB F l
def app:δ (Nat×ς)->(Nat->ς)->Nat->ς
 |[],G=>G
 |(t,v)::l,G=>cY (app l G) t v
theorem upd_eq{F:Nat->ς}{v:ς}(h:F d=v):cY F d v=F:=by
 funext s;by_cases a:s=d
 ·subst a;rw[vu,h]
 ·rw[Jt _ _ _ _ a]
theorem LB:∀l F,mB F l->app l F=F
 |[],_,_=>rfl
 |(t,v)::l,F,h=>by simp only[app];rw[LB l F h.2];exact upd_eq h.1
theorem ig{σ:Type}(L:σ->δ (Nat×ς))(wd:σ->φ->Prop)(m:σ->Nat)(B:σ)(O:mB F (L B))(z:wd B w)
  (round:∀s w G,wd s w->C P n (Exit.then (λa' w'=>∃s' y,a'=fr n y/\mB y (L s')/\wd s' w'/\m s'<m s) Q) x (app (L s) G) w):
  C P n Q (.loop x) F w:=by
 obtain⟨N,D,ro⟩:=n;cases ro with
 |none=>
  have key:∀k:Nat,∀b q cs s F w,m s=k->mB F (L s)->wd s w->
    ∃e a' w',Q e a' w'/\Arrives P (lone (b.at (fr ⟨N,D,ι⟩ F) (.code x::.inLoop x::q)) cs w) b q cs e a' w':=by
   intro k;induction k using Nat.strongRecOn with
   |_ k E=>
    intro b q cs s F w J M H;have v:=round s w F H;rw[LB _ _ M]at v;obtain⟨e,f,d,h,a⟩:=v b _ cs;cases e with
    |normal=>obtain⟨s',y,rfl,u,r,t⟩:=h;obtain⟨o,p,j,i,g⟩:=E _ (J▸t) b q cs s' y d Τ u r;exact⟨o,p,j,i,.of_steps (Steps.trans a (.one step_inLoop)) g⟩
    |exit id=>exact⟨_,f,d,h,.pass Τ (λ_ _=>.inl aA2) a⟩
    |goto l=>exact⟨_,f,d,h,.pass Τ (λ_ _=>.inl aA2) a⟩
    |ret=>exact⟨_,f,d,h,.pass Τ (λ_ _=>.inl aA2) a⟩
    |panic R=>exact⟨_,f,d,h,.pass Τ (λ_ _=>.inl aA2) a⟩
    |outgrown=>exact⟨_,f,d,h,.pass Τ (λ_ _=>.inl aA2) a⟩
  intro b q cs;obtain⟨e,a',w',h,a⟩:=key _ b q cs B F w Τ O z;exact⟨e,a',w',h,.of_steps (.one step_loop) a⟩
 |some c=>
  intro b q cs I K v;have key:∀k:Nat,∀s F w,m s=k->mB F (L s)->wd s w->
    ∃e a' w',Q e a' w'/\ArrivesIn (Machine.fenced P (fen c)) P (lone (b.atR (fr ⟨N,D,θ c⟩ F) (.code x::.inLoop x::q)) cs w) b q cs e a' w':=by
   intro k;induction k using Nat.strongRecOn with
   |_ k E=>
    intro s F w J M H;have A:=round s w F H;rw[LB _ _ M]at A;obtain⟨e,f,d,h,a⟩:=A b _ cs I K v;cases e with
    |normal=>obtain⟨s',y,rfl,u,r,t⟩:=h;obtain⟨o,p,j,i,g⟩:=E _ (J▸t) s' y d Τ u r;exact⟨o,p,j,i,.of_steps (StepsIn.trans a (.one (fenced_calm K v Τ) stepR_inLoop)) g⟩
    |exit id=>exact⟨_,f,d,h,.pass Τ (λ_ _=>.inl aA2) a⟩
    |goto l=>exact⟨_,f,d,h,.pass Τ (λ_ _=>.inl aA2) a⟩
    |ret=>exact⟨_,f,d,h,.pass Τ (λ_ _=>.inl aA2) a⟩
    |panic R=>exact⟨_,f,d,h,.pass Τ (λ_ _=>.inl aA2) a⟩
    |outgrown=>exact⟨_,f,d,h,.pass Τ (λ_ _=>.inl aA2) a⟩
  obtain⟨e,a',w',h,a⟩:=key _ B F w Τ O z;exact⟨e,a',w',h,.of_steps (.one (fenced_calm K v Τ) stepR_loop) a⟩
theorem KT(h:C P n Q x F w)(b:∀e c w,Q e c w->a e c w):C P n a x F w:=Zj h b
def Ak(a:δ Nat)(A G:Nat->ς):Nat->ς:=λt=>bif a.any (cT t)then A t else G t
theorem cg{A:Nat->ς}:∀{a:δ Nat}{F:Nat->ς},a.map F=a.map A->Ak a A F=F:=by
 intro a F h;funext t;unfold Ak;cases b:a.any _ with
 |false=>rfl
 |true=>obtain⟨x,hx,c⟩:=eK.1 b;have:=gO c;subst this;exact((List.map_inj_left.1 h) t hx).symm
theorem cut{σ:Type}(c:δ Nat)(L:σ->δ (Nat×ς))(wd:σ->φ->Prop)
  (hx:C P n (Exit.then (λa' w'=>∃s' b,a'=fr n b/\c.map b=c.map (app (L s') F)/\wd s' w') Q) x F w)
  (d:∀s w G,wd s w->C P n Q y (Ak c (app (L s) F) G) w):C P n Q (.seq x y) F w:=by
 refine jR (Zj hx λe a w' h=> ?_);cases e with
 |normal=>obtain⟨s',b,rfl,g,f⟩:=h;have:=d s' w' b f;rw[cg g]at this;exact this
 |exit id=>exact h
 |goto l=>exact h
 |ret=>exact h
 |panic i=>exact h
 |outgrown=>exact h
theorem AJ{σ:Type}(b:δ Nat)(L:σ->δ (Nat×ς))(wd:σ->φ->Prop)(m:σ->Nat)(g:σ)(j:wd g w)
  (round:∀s w G,wd s w->C P n (Exit.then (λa' w'=>∃s' f,a'=fr n f/\b.map f=b.map (app (L s') F)/\wd s' w'/\m s'<m s) Q) x (Ak b (app (L s) F) G) w)
  (c:b.map F=b.map (app (L g) F):=by kernel_rfl):C P n Q (.loop x) F w:=by
 have k:∀A (l:δ Nat) (G:Nat->ς),mB G (l.map λt=>(t,A t))↔l.map G=l.map A:=by
  intro A l G;induction l with
  |nil=>simp[mB]
  |cons t l i=>simp[mB,i]
 have ap:∀A l G,app (l.map λt=>(t,A t)) G=Ak l A G:=by
  intro A l G;induction l with
  |nil=>rfl
  |cons t l i=>
   funext u;simp only[qO,app,cY,i,Ak];by_cases d:u=t
   ·subst d;simp
   ·have:cT u t=ν:=by
     cases hx:cT u t
     ·rfl
     ·exact absurd (gO hx) d
    simp[this]
 refine ig (σ:=σ) (λs=>b.map λt=>(t,app (L s) F t)) wd m g ((k _ _ _).2 c) j λs w G o=> ?_;rw[ap];refine Zj (round s w G o) λe a w' h=> ?_;cases e with
 |normal=>obtain⟨s',f,v,r,q,p⟩:=h;exact⟨s',f,v,(k _ _ _).2 r,q,p⟩
 |exit id=>exact h
 |goto l=>exact h
 |ret=>exact h
 |panic y=>exact h
 |outgrown=>exact h
theorem nO(h:Q .normal (fr n F) w):W P n Ω Q [] F w:=by
 obtain⟨k,D,ro⟩:=n;cases ro with
 |none=>exact h
 |some r=>exact h
variable{o:Ι}
theorem mQ{ρ:Β->ς}{x:Next}{w':φ}(ro:ε Nat)(h:(χ ρ o).run P w=.ok x w')(hx:∀d,x≠.defer d):o.semAt ro ρ=χ ρ o:=by
 refine Oper.semAt_eq ro ρ o λc e=> ?_;unfold χ at h;rw[e]at h;simp at h;cases a:(resolve ρ c o.type).run P w with
 |ok d b=>rw[a]at h;simp at h;exact hx d h.1.symm
 |halt d b=>rw[a]at h;simp at h
theorem dY{v:ς}{w':φ}(c:o.guard=ι)(f:o.dst=θ d)
  (a:(χ (aU n F) o).run P w=.ok (.value v) w') (h:W P n Ω Q l (cY F d v) w'):W P n Ω Q (o::l) F w:=by
 obtain⟨k,D,ro⟩:=n;cases ro with
 |none=>refine wpList_plain c λK b=> ?_;unfold Oper.wp;rw[HF,a,Oper.upon_value,f];refine b _ _ ?_;rw[lV];exact h
 |some r=>refine wpListIn_plain c λK b=>⟨λ_ _=>trivial,?_⟩;rw[HF,mQ _ a (λd e=>by cases e),a,Oper.uponIn_value,f];refine b _ _ ?_;rw[lV];exact h
theorem wO{w':φ}(c:o.guard=ι)(f:o.dst=ι)
  (a:(χ (aU n F) o).run P w=.ok .skip w') (h:W P n Ω Q l F w'):W P n Ω Q (o::l) F w:=by
 obtain⟨k,D,ro⟩:=n;cases ro with
 |none=>refine wpList_plain c λK b=> ?_;unfold Oper.wp;rw[HF,a,Oper.upon_skip,f];exact b _ _ h
 |some r=>refine wpListIn_plain c λK b=>⟨λ_ _=>trivial,?_⟩;rw[HF,mQ _ a (λd e=>by cases e),a,Oper.uponIn_skip,f];exact b _ _ h
theorem MS(f:o.guard=ι)
  (a:(χ (aU n F) o).run P w=.ok (.enter j g.toArray) w) (i:CR P j g w R) (h:∀v w',R v w'->WR P n.ro Ω Q l ((fr n F).put o.dst v) w'):W P n Ω Q (o::l) F w:=by
 obtain⟨k,D,ro⟩:=n;cases ro with
 |none=>refine wpList_plain f λK c=> ?_;unfold Oper.wp;rw[HF,a];refine Calls.mono i ?_;rintro e w' ⟨v,rfl,b⟩;exact c _ _ (h v w' b)
 |some r=>refine wpListIn_plain f λK c=>⟨λ_ _=>trivial,?_⟩;rw[HF,mQ _ a (λd e=>by cases e),a];refine⟨λh=>absurd h Bool.false_ne_true,?_⟩;refine(callsIn_wide).2 (Calls.mono i ?_);rintro e w' ⟨v,rfl,b⟩;exact c _ _ (h v w' b)
theorem bcp(Ω:Array Ι)(g:Nat)(dg:Nat)(d:(Ω[g]?).bind (·.dst)=θ dg)(c:iJ dg n.n=μ):
  yielded Ω (fr n F).tmps g=match F dg with|.bool b=>θ b|_=>ι:=by
 have a:dg<n.n:=by simpa [oZ] using c
 unfold yielded;simp[d,fr,a];cases F dg<;>rfl
variable{k:Op}{e:Ε}{f:String}{b:Array Edge}{h:η}
theorem HY{a:ε Nat}(dg:Nat)
  (p:(Ω[d]?).bind (·.dst)=θ dg) (t:iJ dg n.n=μ) (g:F dg=.bool h)
  (q:W P n Ω Q (⟨a,k,e,f,b,ι⟩::l) F w):W P n Ω Q (⟨a,k,e,f,b,θ (d,h)⟩::l) F w:=by
 have c:Region.wanted ⟨a,k,e,f,b,θ (d,h)⟩ (yielded Ω (fr n F).tmps)=μ:=by unfold Region.wanted;simp only[bcp Ω d dg p t,g];simp
 obtain⟨s,D,ro⟩:=n;cases ro with
 |none=>simp only[W,WR]at q⊢;unfold wpList at q⊢;rw[aB c];exact q
 |some r=>simp only[W,WR]at q⊢;unfold wpListIn at q⊢;rw[aB c];exact q
theorem ya(dg:Nat)
  (g:(Ω[i]?).bind (·.dst)=θ dg) (s:iJ dg n.n=μ) (c:F dg=.bool (!h))
  (p:W P n Ω Q l (cY F d undef) w):W P n Ω Q (⟨θ d,k,e,f,b,θ (i,h)⟩::l) F w:=by
 have a:¬Region.wanted ⟨θ d,k,e,f,b,θ (i,h)⟩ (yielded Ω (fr n F).tmps)=μ:=by unfold Region.wanted;simp only[bcp Ω i dg g s,c];simp
 obtain⟨q,D,ro⟩:=n;cases ro with
 |none=>simp only[W,WR]at p⊢;unfold wpList;rw[aA a];rw[lV];exact p
 |some r=>simp only[W,WR]at p⊢;unfold wpListIn;rw[aA a];refine⟨λ_ _=>trivial,?_⟩;rw[lV];exact p
theorem xz(dg:Nat)
  (g:(Ω[i]?).bind (·.dst)=θ dg) (s:iJ dg n.n=μ) (c:F dg=undef)
  (p:W P n Ω Q l (cY F d undef) w):W P n Ω Q (⟨θ d,k,e,f,b,θ (i,h)⟩::l) F w:=by
 have a:¬Region.wanted ⟨θ d,k,e,f,b,θ (i,h)⟩ (yielded Ω (fr n F).tmps)=μ:=by unfold Region.wanted;simp only[bcp Ω i dg g s,c];simp[undef]
 obtain⟨q,D,ro⟩:=n;cases ro with
 |none=>simp only[W,WR]at p⊢;unfold wpList;rw[aA a];rw[lV];exact p
 |some r=>simp only[W,WR]at p⊢;unfold wpListIn;rw[aA a];refine⟨λ_ _=>trivial,?_⟩;rw[lV];exact p
section
variable{d:Nat}{ty:Ε}{pos:String}{Ψ:Array Edge}{rest:δ Ι}
variable{x:Β}
theorem kE(v:ς)(hx:aU n F x=v)(h:W P n Ω Q rest (cY F d v) w):W P n Ω Q (⟨θ d,.move x,ty,pos,Ψ,ι⟩::rest) F w:=
 dY Τ Τ (by rw[<-hx];rfl) h
theorem Vm(v:ς)(hx:aU n F x=v)(h:W P n Ω Q rest (cY F d v) w):W P n Ω Q (⟨θ d,.assign x,ty,pos,Ψ,ι⟩::rest) F w:=
 dY Τ Τ (by rw[<-hx];rfl) h
theorem qQ(b:η)(hx:aU n F x=.bool b)(a:b=μ->W P n Ω Q rest (cY F d (.bool μ)) w)(c:b=ν->W P n Ω Q rest (cY F d (.bool ν)) w):
  W P n Ω Q (⟨θ d,.move x,ty,pos,Ψ,ι⟩::rest) F w:=by
 cases b with
 |true=>exact kE _ hx (a Τ)
 |false=>exact kE _ hx (c Τ)
theorem HX(p:Prop)[Decidable p](hx:aU n F x=.bool (decide p))(a:p->W P n Ω Q rest (cY F d (.bool μ)) w)(b:¬p->W P n Ω Q rest (cY F d (.bool ν)) w):
  W P n Ω Q (⟨θ d,.move x,ty,pos,Ψ,ι⟩::rest) F w:=
 qQ _ hx (λh=>a (cC h)) (λh=>b (fG h))
theorem AY(p:Prop)[Decidable p](hx:aU n F x=.bool (!decide p))(a:¬p->W P n Ω Q rest (cY F d (.bool μ)) w)(b:p->W P n Ω Q rest (cY F d (.bool ν)) w):
  W P n Ω Q (⟨θ d,.move x,ty,pos,Ψ,ι⟩::rest) F w:=
 qQ _ hx (λh=>a aA8) (λh=>b aA8)
variable{y:Β}
theorem YF{b:Β}(t:η)(v:ς)(f:aU n F x=.bool t)(e:(bif t then aU n F y else aU n F b)=v):(χ (aU n F) (⟨θ d,.pick x y b,ty,pos,Ψ,ι⟩)).run P w=.ok (.value v) w:=by simp only[χ,f];rw[<-e];cases t<;>rfl
variable{t:Ε}
theorem MF(b:η)(hx:aU n F x=.bool b):(χ (aU n F) (⟨θ d,.unOp .not t x,ty,pos,Ψ,ι⟩)).run P w=.ok (.value (.bool (!b))) w:=by simp only[χ,hx];rfl
theorem w_not(b:η)(hx:aU n F x=.bool b)(h:W P n Ω Q rest (cY F d (.bool (!b))) w):W P n Ω Q (⟨θ d,.unOp .not t x,ty,pos,Ψ,ι⟩::rest) F w:=
 dY Τ Τ (MF b hx) h
theorem x_nnot(b:η)(hx:aU n F x=.bool (!b)):(χ (aU n F) (⟨θ d,.unOp .not t x,ty,pos,Ψ,ι⟩)).run P w=.ok (.value (.bool b)) w:=by simp only[χ,hx];cases b<;>rfl
structure bK (a:Int):Prop where
 lo: -9223372036854775808<=a
 hi:a<=9223372036854775807
theorem bfq{x:Int}(b: -9223372036854775808<=x)(a:x<=9223372036854775807):IntKind.i64.wrap x=x:=by rw[IntKind.wrap_i64];omega
variable{a:Ε}
theorem vK(k:Δ)(e b:Int)(hx:aU n F x=.int k e)(c:aU n F y=.int k b):(χ (aU n F) (⟨θ d,.binOp .add t x y a,ty,pos,Ψ,ι⟩)).run P w=.ok (.value (.int k (k.wrap (e+b)))) w:=by simp only[χ,hx,c,binOp,QU];rfl
theorem Sd(k:Δ)(e b:Int)(hx:aU n F x=.int k e)(c:aU n F y=.int k b)(h:W P n Ω Q rest (cY F d (.int k (k.wrap (e+b)))) w):W P n Ω Q (⟨θ d,.binOp .add t x y a,ty,pos,Ψ,ι⟩::rest) F w:=
 dY Τ Τ (vK k e b hx c) h
theorem lH(f b:Int)(hx:aU n F x=.int .i64 f)(e:aU n F y=.int .i64 b)(c:bK (f+b)):(χ (aU n F) (⟨θ d,.binOp .add t x y a,ty,pos,Ψ,ι⟩)).run P w=.ok (.value (.int .i64 (f+b))) w:=by rw[vK .i64 f b hx e,bfq c.1 c.2]
theorem qF(f b:Int)(hx:aU n F x=.int .i64 f)(c:aU n F y=.int .i64 b)(e:bK (f+b))(h:W P n Ω Q rest (cY F d (.int .i64 (f+b))) w):W P n Ω Q (⟨θ d,.binOp .add t x y a,ty,pos,Ψ,ι⟩::rest) F w:=
 dY Τ Τ (lH f b hx c e) h
theorem LY(k:Δ)(e b:Int)(hx:aU n F x=.int k e)(c:aU n F y=.int k b):(χ (aU n F) (⟨θ d,.binOp .sub t x y a,ty,pos,Ψ,ι⟩)).run P w=.ok (.value (.int k (k.wrap (e-b)))) w:=by simp only[χ,hx,c,binOp,QU];rfl
theorem w_sub(k:Δ)(e b:Int)(hx:aU n F x=.int k e)(c:aU n F y=.int k b)(h:W P n Ω Q rest (cY F d (.int k (k.wrap (e-b)))) w):W P n Ω Q (⟨θ d,.binOp .sub t x y a,ty,pos,Ψ,ι⟩::rest) F w:=
 dY Τ Τ (LY k e b hx c) h
theorem lj(f b:Int)(hx:aU n F x=.int .i64 f)(e:aU n F y=.int .i64 b)(c:bK (f-b)):(χ (aU n F) (⟨θ d,.binOp .sub t x y a,ty,pos,Ψ,ι⟩)).run P w=.ok (.value (.int .i64 (f-b))) w:=by rw[LY .i64 f b hx e,bfq c.1 c.2]
theorem XI(f b:Int)(hx:aU n F x=.int .i64 f)(c:aU n F y=.int .i64 b)(e:bK (f-b))(h:W P n Ω Q rest (cY F d (.int .i64 (f-b))) w):W P n Ω Q (⟨θ d,.binOp .sub t x y a,ty,pos,Ψ,ι⟩::rest) F w:=
 dY Τ Τ (lj f b hx c e) h
theorem MG(k:Δ)(e b:Int)(hx:aU n F x=.int k e)(c:aU n F y=.int k b):(χ (aU n F) (⟨θ d,.binOp .mul t x y a,ty,pos,Ψ,ι⟩)).run P w=.ok (.value (.int k (k.wrap (e*b)))) w:=by simp only[χ,hx,c,binOp,QU];rfl
theorem w_mul(k:Δ)(e b:Int)(hx:aU n F x=.int k e)(c:aU n F y=.int k b)(h:W P n Ω Q rest (cY F d (.int k (k.wrap (e*b)))) w):W P n Ω Q (⟨θ d,.binOp .mul t x y a,ty,pos,Ψ,ι⟩::rest) F w:=
 dY Τ Τ (MG k e b hx c) h
theorem tV(f b:Int)(hx:aU n F x=.int .i64 f)(e:aU n F y=.int .i64 b)(c:bK (f*b)):(χ (aU n F) (⟨θ d,.binOp .mul t x y a,ty,pos,Ψ,ι⟩)).run P w=.ok (.value (.int .i64 (f*b))) w:=by rw[MG .i64 f b hx e,bfq c.1 c.2]
theorem We(f b:Int)(hx:aU n F x=.int .i64 f)(c:aU n F y=.int .i64 b)(e:bK (f*b))(h:W P n Ω Q rest (cY F d (.int .i64 (f*b))) w):W P n Ω Q (⟨θ d,.binOp .mul t x y a,ty,pos,Ψ,ι⟩::rest) F w:=
 dY Τ Τ (tV f b hx c e) h
theorem YH(k:Δ)(e b:Int)(hx:aU n F x=.int k e)(c:aU n F y=.int k b):(χ (aU n F) (⟨θ d,.binOp .lss t x y a,ty,pos,Ψ,ι⟩)).run P w=.ok (.value (.bool (decide (e<b)))) w:=by simp only[χ,hx,c,binOp,QU];rfl
theorem YI(k:Δ)(e b:Int)(hx:aU n F x=.int k e)(c:aU n F y=.int k b):(χ (aU n F) (⟨θ d,.binOp .leq t x y a,ty,pos,Ψ,ι⟩)).run P w=.ok (.value (.bool (decide (e<=b)))) w:=by simp only[χ,hx,c,binOp,QU];rfl
theorem MJ(k:Δ)(e b:Int)(hx:aU n F x=.int k e)(c:aU n F y=.int k b):(χ (aU n F) (⟨θ d,.binOp .gtr t x y a,ty,pos,Ψ,ι⟩)).run P w=.ok (.value (.bool (decide (b<e)))) w:=by simp only[χ,hx,c,binOp,QU];rfl
theorem w_gtr(k:Δ)(e b:Int)(hx:aU n F x=.int k e)(c:aU n F y=.int k b)(h:W P n Ω Q rest (cY F d (.bool (decide (b<e)))) w):W P n Ω Q (⟨θ d,.binOp .gtr t x y a,ty,pos,Ψ,ι⟩::rest) F w:=
 dY Τ Τ (MJ k e b hx c) h
theorem YK(k:Δ)(e b:Int)(hx:aU n F x=.int k e)(c:aU n F y=.int k b):(χ (aU n F) (⟨θ d,.binOp .geq t x y a,ty,pos,Ψ,ι⟩)).run P w=.ok (.value (.bool (decide (b<=e)))) w:=by simp only[χ,hx,c,binOp,QU];rfl
theorem MK(k:Δ)(e b:Int)(hx:aU n F x=.int k e)(c:aU n F y=.int k b):(χ (aU n F) (⟨θ d,.binOp .eql t x y a,ty,pos,Ψ,ι⟩)).run P w=.ok (.value (.bool (decide (e=b)))) w:=by simp only[χ,hx,c,binOp,QU];rfl
theorem yb(k:Δ)(e b:Int)(hx:aU n F x=.int k e)(c:aU n F y=.int k b)(h:W P n Ω Q rest (cY F d (.bool (decide (e=b)))) w):W P n Ω Q (⟨θ d,.binOp .eql t x y a,ty,pos,Ψ,ι⟩::rest) F w:=
 dY Τ Τ (MK k e b hx c) h
theorem YG(k:Δ)(e b:Int)(hx:aU n F x=.int k e)(c:aU n F y=.int k b):(χ (aU n F) (⟨θ d,.binOp .neq t x y a,ty,pos,Ψ,ι⟩)).run P w=.ok (.value (.bool (!decide (e=b)))) w:=by simp only[χ,hx,c,binOp,QU];rfl
end
end
attribute [irreducible] W C Ev WR CC
def Υ(l:δ ζ)(i:Int):ζ:=l.getD i.toNat 0
def sub(l:δ ζ)(i j:Int):δ ζ:=(l.drop i.toNat).take (j.toNat-i.toNat)
end Go.Wk
set_option linter.unusedSimpArgs false
namespace Go.Wk
open Go.Op renaming bytesLess → qK
def str(l:δ ζ):ς:=.string ⟨l.toArray⟩
def bt(c:ζ):ς:=.int .u8 (c.toNat:Int)
def Enters(P : Θ)(f : FuncId) : Prop := ∃ fn c, P.funcs[f]? = θ fn /\ fn.body = θ c /\ (fn.name == "runtime.NumGoroutine") = ν
theorem Enters.run{P:Θ}{f:FuncId}(h:Enters P f)(args:Array ς)(w:φ):(callFunc f args).run P w=.ok (.enter f args) w:=by obtain⟨fn,c,d,b,a⟩:=h;show Sem.run P (match P.funcs[f]? with|none=>_|some fn=>_) w=_;rw[d];simp only[a,b];rfl
section
variable{P:Θ}{n:Md}{Ω:Array Ι}{Q:Exit->Act->φ->Prop}{F:Nat->ς}{w:φ}
variable{c:Nat}{a:ε (ε Nat)}{b:Func}{R:ς->φ->Prop}
theorem Ja{t:Nat}(v:ς)(d:b.results= #[.tmp t])(f:aU ⟨c,[],a⟩ F (.tmp t)=v)(h:R v w):
  bodyPost P b (λe w'=>∃v,e=.returned v/\R v w') .ret (fr ⟨c,[],a⟩ F) w:=
 ⟨Τ,v,by rw[results_tmp d,Ee];exact bM (λx=>Result.ok x w) f,v,Τ,h⟩
theorem JB(d:b.results= #[])(h:R (.tuple #[]) w):
  bodyPost P b (λe w'=>∃v,e=.returned v/\R v w') .ret (fr ⟨c,[],a⟩ F) w:=
 ⟨Τ,_,results_none d _ _ _,_,Τ,h⟩
theorem zM(d:b.results= #[])(h:R (.tuple #[]) w):
  bodyPost P b (λe w'=>∃v,e=.returned v/\R v w') .normal (fr ⟨c,[],a⟩ F) w:=
 ⟨Τ,_,results_none d _ _ _,_,Τ,h⟩
section
variable{d:Nat}{ty:Ε}{pos:String}{Ψ:Array Edge}{rest:δ Ι}
variable{x:Β}{b:Array Β}{c:Array Ε}
theorem kS(f:FuncId)(cap:Array ς)(vs:δ ς)(R:ς->φ->Prop)(j:Enters P f)
  (e:aU n F x=.func (.func f) #[] cap) (i: #[]++b.map (aU n F)++cap=vs.toArray) (g:CR P f vs w R) (h:∀v w',R v w'->W P n Ω Q rest (cY F d v) w'):
  W P n Ω Q (⟨θ d,.call ⟨.value x,b,c⟩,ty,pos,Ψ,ι⟩::rest) F w:=by
 refine MS Τ ?_ g (λv w' a=> ?_)
 ·simp only[χ,resolve,e,Deferred.ofValue];show Sem.run P (callFunc f _) w=_;rw[i];exact j.run _ _
 ·have:=h v w' a;unfold W at this;rw[<-lV]at this;exact this
theorem nh(f:FuncId)(cap:Array ς)(vs:δ ς)(R:ς->φ->Prop)(i:Enters P f)
  (d:aU n F x=.func (.func f) #[] cap) (g: #[]++b.map (aU n F)++cap=vs.toArray) (e:CR P f vs w R) (h:∀v w',R v w'->W P n Ω Q rest F w'):
  W P n Ω Q (⟨ι,.call ⟨.value x,b,c⟩,ty,pos,Ψ,ι⟩::rest) F w:=by
 refine MS Τ ?_ e (λv w' a=> ?_)
 ·simp only[χ,resolve,d,Deferred.ofValue];show Sem.run P (callFunc f _) w=_;rw[g];exact i.run _ _
 ·have:=h v w' a;unfold W at this;exact this
variable{y:Β}
theorem x_min(k:Δ)(a b:Int)(hx:aU n F x=.int k a)(f:aU n F y=.int k b):(χ (aU n F) (⟨θ d,.call ⟨.builtin .min,#[x,y],c⟩,ty,pos,Ψ,ι⟩)).run P w=.ok (.value (.int k (min a b))) w:=by
 have e:(χ (aU n F) (⟨θ d,.call ⟨.builtin .min,#[x,y],c⟩,ty,pos,Ψ,ι⟩:Ι)).run P w=.ok (.value (.int k (if b<a then b else a))) w:=by simp only[χ,resolve,List.map_toArray,qO,hx,f];rfl
 rw[e];congr 3;split<;>omega
theorem xp(k:Δ)(a b:Int)(hx:aU n F x=.int k a)(f:aU n F y=.int k b):(χ (aU n F) (⟨θ d,.call ⟨.builtin .max,#[x,y],c⟩,ty,pos,Ψ,ι⟩)).run P w=.ok (.value (.int k (max a b))) w:=by
 have e:(χ (aU n F) (⟨θ d,.call ⟨.builtin .max,#[x,y],c⟩,ty,pos,Ψ,ι⟩:Ι)).run P w=.ok (.value (.int k (if a<b then b else a))) w:=by simp only[χ,resolve,List.map_toArray,qO,hx,f];rfl
 rw[e];congr 3;split<;>omega
theorem xy(k:Δ)(a b:Int)(hx:aU n F x=.int k a)(e:aU n F y=.int k b)(h:W P n Ω Q rest (cY F d (.int k (max a b))) w):W P n Ω Q (⟨θ d,.call ⟨.builtin .max,#[x,y],c⟩,ty,pos,Ψ,ι⟩::rest) F w:=
 dY Τ Τ (xp k a b hx e) h
variable{t:Ε}
theorem xq(l:δ ζ)(a:P.underlying t=θ .string)(hx:aU n F x=str l):(χ (aU n F) (⟨θ d,.call ⟨.builtin .len,#[x],#[t]⟩,ty,pos,Ψ,ι⟩)).run P w=.ok (.value (.int .i64 (γ l))) w:=by simp[χ,resolve,invoke,builtin,hx,str,run_len_string _ _ _ _ a];rfl
variable{a:Ε}
theorem MC(f b:δ ζ)(hx:aU n F x=str f)(c:aU n F y=str b):(χ (aU n F) (⟨θ d,.binOp .eql t x y a,ty,pos,Ψ,ι⟩)).run P w=.ok (.value (.bool (decide (f=b)))) w:=by
 have e:(f==b)=decide (f=b):=by rw[fX];simp
 simp[χ,hx,c,str,eqGuard,binOp_string_eql,e]
theorem LZ(f b:δ ζ)(hx:aU n F x=str f)(c:aU n F y=str b):(χ (aU n F) (⟨θ d,.binOp .neq t x y a,ty,pos,Ψ,ι⟩)).run P w=.ok (.value (.bool (!decide (f=b)))) w:=by
 have e:(f==b)=decide (f=b):=by rw[fX];simp
 simp[χ,hx,c,str,eqGuard,binOp_string_neq,e]
theorem MA(e b:δ ζ)(hx:aU n F x=str e)(c:aU n F y=str b):(χ (aU n F) (⟨θ d,.binOp .lss t x y a,ty,pos,Ψ,ι⟩)).run P w=.ok (.value (.bool (qK e b))) w:=by simp[χ,hx,c,str,eqGuard,binOp_string_lss]
theorem MB(e b:δ ζ)(hx:aU n F x=str e)(c:aU n F y=str b):(χ (aU n F) (⟨θ d,.binOp .gtr t x y a,ty,pos,Ψ,ι⟩)).run P w=.ok (.value (.bool (!(qK e b||e==b)))) w:=by simp[χ,hx,c,str,eqGuard,binOp,Op.stringOp]
theorem YB(f b:δ ζ)(hx:aU n F x=str f)(e:aU n F y=str b)(c:γ f+γ b<=9223372036854775807)
  :(χ (aU n F) (⟨θ d,.binOp .add t x y a,ty,pos,Ψ,ι⟩)).run P w=.ok (.value (str (f++b))) w:=by
 simp[χ,hx,e,str,eqGuard,binOp_string_add,run_string_add_sum w ⟨f.toArray⟩ ⟨b.toArray⟩ c,ByteArray.mk_append_mk]
theorem vp(l:δ ζ)(k:Δ)(i:Int)(c:P.underlying t=θ .string)(hx:aU n F x=str l)(g:aU n F y=.int k i)
  (h:0<=i/\i<γ l):(χ (aU n F) (⟨θ d,.index t x y,ty,pos,Ψ,ι⟩)).run P w=.ok (.value (bt (Υ l i))) w:=by
 have a:0<=i/\i<(⟨l.toArray⟩:ByteArray).size:=h;have f:i.toNat<γ l:=aA0;have e:=run_index_string (P:=P) w t ⟨l.toArray⟩ k i c;rw[dif_pos a]at e;simp only[χ,hx,g,str,Sem.run_bind,e];show Result.ok (Next.value (.int .u8 ((l[i.toNat]).toNat))) w=_;simp[bt,Υ,f]
theorem oB(l:δ ζ)(k:Δ)(i:Int)(b:P.underlying t=θ .string)(hx:aU n F x=str l)(c:aU n F y=.int k i)
  (e:0<=i/\i<(γ l:Int)) (h:W P n Ω Q rest (cY F d (bt (Υ l i))) w):W P n Ω Q (⟨θ d,.index t x y,ty,pos,Ψ,ι⟩::rest) F w:=
 dY Τ Τ (vp l k i b hx c e) h
theorem mj{h:Β}(l:δ ζ)(k k':Δ)(i j:Int)(g:P.underlying t=θ .string)(hx:aU n F x=str l)(a:aU n F y=.int k i)(b:aU n F h=.int k' j)
  (c:0<=i/\i<=j/\j<=γ l):(χ (aU n F) (⟨θ d,.slice t x (θ y) (θ h) ι,ty,pos,Ψ,ι⟩)).run P w=.ok (.value (str (sub l i j))) w:=by
 have e:=run_slice_string w t ⟨l.toArray⟩ k k' i j g c.1 c.2.1 c.2.2;simp only[χ,hx,a,b,str,Sem.run_bind,LW,kv,run_sliceAt_string w t _ _ _ _ g,e,ByteArray.extract_mk];rfl
theorem nX{t:Ε}(l:δ ζ)(k:Δ)(i:Int)(c:P.underlying t=θ .string)(hx:aU n F x=str l)(a:aU n F y=.int k i)
  (f:0<=i/\i<=γ l):(χ (aU n F) (⟨θ d,.slice t x (θ y) ι ι,ty,pos,Ψ,ι⟩)).run P w=.ok (.value (str (l.drop i.toNat))) w:=by
 have e:=run_slice_string_l (w:=w) (t:=t) (s:=⟨l.toArray⟩) c k i f.1 f.2;simp only[χ,hx,a,str,Sem.run_bind,LW,kv,run_sliceAt_string w t _ _ _ _ c,e,ByteArray.extract_mk];have g:(l.drop i.toNat).take ((⟨l.toArray⟩:ByteArray).size-i.toNat)=l.drop i.toNat:=xi (by show(l.drop i.toNat).length<=γ l-i.toNat;simp);rw[g];rfl
theorem nZ(l:δ ζ)(k:Δ)(i:Int)(c:P.underlying t=θ .string)(hx:aU n F x=str l)(a:aU n F y=.int k i)
  (e:0<=i/\i<=(γ l:Int)) (h:W P n Ω Q rest (cY F d (str (l.drop i.toNat))) w):W P n Ω Q (⟨θ d,.slice t x (θ y) ι ι,ty,pos,Ψ,ι⟩::rest) F w:=
 dY Τ Τ (nX l k i c hx a e) h
theorem Jh{t:Ε}(l:δ ζ)(k:Δ)(j:Int)(b:P.underlying t=θ .string)(hx:aU n F x=str l)(a:aU n F y=.int k j)
  (f:0<=j/\j<=γ l):(χ (aU n F) (⟨θ d,.slice t x ι (θ y) ι,ty,pos,Ψ,ι⟩)).run P w=.ok (.value (str (l.take j.toNat))) w:=by
 have e:=run_slice_string_h (w:=w) (t:=t) (s:=⟨l.toArray⟩) b k j f.1 f.2;simp only[χ,hx,a,str,Sem.run_bind,LW,kv,run_sliceAt_string w t _ _ _ _ b,e,ByteArray.extract_mk];rfl
theorem wN(l:δ ζ)(k:Δ)(j:Int)(c:P.underlying t=θ .string)(hx:aU n F x=str l)(a:aU n F y=.int k j)
  (e:0<=j/\j<=(γ l:Int)) (h:W P n Ω Q rest (cY F d (str (l.take j.toNat))) w):W P n Ω Q (⟨θ d,.slice t x ι (θ y) ι,ty,pos,Ψ,ι⟩::rest) F w:=
 dY Τ Τ (Jh l k j c hx a e) h
theorem Wa(k k':Δ)(s:Int)(c:P.underlying t=θ (.int k'))(b:P.underlying a=θ (.int k))(hx:aU n F x=.int k' s):(χ (aU n F) (⟨θ d,.convert t a x,ty,pos,Ψ,ι⟩)).run P w=.ok (.value (.int k (k.wrap s))) w:=by simp[χ,hx,convert,run_underlying c,run_underlying b,Conv.intToInt]
theorem Wg(k k':Δ)(s:Int)(c:P.underlying t=θ (.int k'))(b:P.underlying a=θ (.int k))(hx:aU n F x=.int k' s)(h:W P n Ω Q rest (cY F d (.int k (k.wrap s))) w):W P n Ω Q (⟨θ d,.convert t a x,ty,pos,Ψ,ι⟩::rest) F w:=
 dY Τ Τ (Wa k k' s c b hx) h
theorem lh(k k':Δ)(s:Int)(e:P.underlying t=θ (.int k'))(c:P.underlying a=θ (.int k))(hx:aU n F x=.int k' s)(b:k.wrap s=s):(χ (aU n F) (⟨θ d,.convert t a x,ty,pos,Ψ,ι⟩)).run P w=.ok (.value (.int k s)) w:=by rw[Wa k k' s e c hx,b]
theorem na(k k':Δ)(s:Int)(e:P.underlying t=θ (.int k'))(c:P.underlying a=θ (.int k))(hx:aU n F x=.int k' s)(b:k.wrap s=s)(h:W P n Ω Q rest (cY F d (.int k s)) w):W P n Ω Q (⟨θ d,.convert t a x,ty,pos,Ψ,ι⟩::rest) F w:=
 dY Τ Τ (lh k k' s e c hx b) h
theorem QZ(l:δ ζ)(b:P.underlying t=θ .string)(s:P.underlying a=θ .string)(hx:aU n F x=str l):(χ (aU n F) (⟨θ d,.convert t a x,ty,pos,Ψ,ι⟩)).run P w=.ok (.value (str l)) w:=by simp[χ,hx,str,convert,run_underlying b,run_underlying s]
theorem x_eqb(f b:η)(e:P.underlying t=θ .bool)(hx:aU n F x=.bool f)(c:aU n F y=.bool b):(χ (aU n F) (⟨θ d,.binOp .eql t x y a,ty,pos,Ψ,ι⟩)).run P w=.ok (.value (.bool (f==b))) w:=by simp[χ,hx,c,eqGuard,run_eql_bool _ _ _ _ e]
theorem x_neb(f b:η)(e:P.underlying t=θ .bool)(hx:aU n F x=.bool f)(c:aU n F y=.bool b):(χ (aU n F) (⟨θ d,.binOp .neq t x y a,ty,pos,Ψ,ι⟩)).run P w=.ok (.value (.bool (!(f==b)))) w:=by simp[χ,hx,c,eqGuard,run_neq_bool _ _ _ _ e]
theorem Rz{i:Nat}(vs:Array ς)(v:ς)(hx:aU n F x=.tuple vs)(a:vs[i]? =θ v):(χ (aU n F) (⟨θ d,.extract x i,ty,pos,Ψ,ι⟩)).run P w=.ok (.value v) w:=by simp[χ,hx,Instr.extract,a]
end
end
structure cL where
 own:Option Nat
 ok:Option Obj->Prop
def cL.holds(r:cL)(w:φ):Prop:=r.ok (r.own.bind λb=>w.heap[b]?)
def aX(b:Nat)(cs:δ ς)(e:Ε):cL:=⟨θ b,λo=>o=θ (.cells cs.toArray e (0,0))⟩
def row(v:ς)(e:Ε)(sz n:Nat)(b:δ ς):cL:=
 ⟨v.ownBlock,λo=>γ b=n*sz/\((v=.slice ι 0 0/\n=0)\/
  ∃g cap a,v=.slice (θ ⟨g,0,ι⟩) n cap/\o=θ (.cells a e (0,0))/\n<=cap/\cap<=maxLen/\a.size=cap*sz/\a.toList.take (n*sz)=b)⟩
def jX(v:ς)(n:Nat)(l:δ ζ):cL:=
 ⟨v.ownBlock,λo=>γ l=n/\∃g cap a e b,v=.slice (θ ⟨g,0,ι⟩) n cap/\o=θ (.cells a e b)/\n<=cap/\cap<=a.size/\a.toList.take n=l.map bt/\a.size<=b.1⟩
structure Hp (w0:φ) (S:List Nat) (L:List cL) (w:φ):Prop where
 os:w.os=w0.os
 tape:w.tape=w0.tape
 output:w.output=w0.output
 size:w0.heap.size<=w.heap.size
 below:∀k,k<w0.heap.size->k∉S->w.heap[k]? =w0.heap[k]?
 res:∀r∈L,r.holds w/\∀b,r.own=θ b->b<w.heap.size/\(w0.heap.size<=b\/b∈S)
 sep:L.Pairwise λr r'=>∀b,r.own=θ b->r'.own≠θ b
theorem Hp.refl(w:φ):Hp w [] [] w:=⟨Τ,Τ,Τ,dC _,λ_ _ _=>rfl,λ_ h=>by simp at h,List.Pairwise.nil⟩
variable{w a:φ}{L:δ cL}
theorem Hp.toBelow(h:Hp w [] L a):RowKit.Below w.heap.size w a:=⟨h.os,h.tape,h.output,h.size,λk c=>h.below k c aA2⟩
theorem Hp.lI(h:RowKit.Below w.heap.size w a):Hp w [] [] a:=⟨h.os,h.tape,h.output,h.size,λk c _=>h.block k c,λ_ h=>by simp at h,List.Pairwise.nil⟩
theorem cL.holds_of{r:cL}(h:r.holds w)(c:∀b,r.own=θ b->a.heap[b]? =w.heap[b]?):r.holds a:=by
 unfold cL.holds at*;cases d:r.own with
 |none=>simpa [d] using h
 |some b=>simpa [d,c b d] using h
variable{S:δ Nat}{b:δ cL}
theorem Hp.sub(h:Hp w S L a)(d:b.Sublist L):Hp w S b a:=
 ⟨h.os,h.tape,h.output,h.size,h.below,λr c=>h.res r (d.subset c),h.sep.sublist d⟩
theorem Hp.nil(h:Hp w S L a):Hp w S [] a:=h.sub (List.nil_sublist _)
theorem Hp.perm(h:Hp w S L a)(c:L.Perm b):Hp w S b a:=
 ⟨h.os,h.tape,h.output,h.size,h.below,λr e=>h.res r (c.symm.subset e),c.pairwise h.sep (λh g f d=>h g d f)⟩
theorem Hp.kQ{w':φ}(h:Hp w S L a)(c:Hp a [] b w'):Hp w S (b++L) w':=by
 have d:∀n,n<a.heap.size->w'.heap[n]? =a.heap[n]? :=λn d=>c.below n d aA2;refine⟨c.os.trans h.os,c.tape.trans h.tape,c.output.trans h.output,jZ h.size c.size,λk g j=> ?_,λr i=> ?_,?_⟩
 ·rw[d k (WY g h.size)];exact h.below k g j
 ·rcases aZ.1 i with i|i
  ·refine⟨(c.res r i).1,λn e=> ?_⟩;have:=(c.res r i).2 n e;simp at this;exact⟨this.1,.inl (jZ h.size this.2)⟩
  ·refine⟨cL.holds_of (h.res r i).1 λn e=>d n ((h.res r i).2 n e).1,λn e=> ?_⟩;have:=(h.res r i).2 n e;exact⟨WY this.1 c.size,this.2⟩
 ·refine dO.2 ⟨c.sep,h.sep,λr i r' f n e e'=> ?_⟩;have l:=(c.res r i).2 n e;have m:=(h.res r' f).2 n e';simp at l;omega
theorem Hp.call{w':φ}(h:Hp w S L a)(c:Hp a [] [] w'):Hp w S L w':=h.kQ c
theorem Hp.change{w':φ}(h:Hp w S L a)(k:Nat)(r r':cL)(D:L[k]? =θ r)(N:w'.os=a.os)(K:w'.tape=a.tape)(J:w'.output=a.output)
  (F:a.heap.size<=w'.heap.size) (H:∀j,j<a.heap.size->θ j≠r.own->w'.heap[j]? =a.heap[j]?) (M:r'.holds w')
  (C:∀b,r'.own=θ b->(r.own=θ b\/a.heap.size<=b)/\b<w'.heap.size):Hp w S (L.set k r') w':=by
 have n:r∈L:=aL D;have u:k<γ L:=(aE.1 D).1;have m:∀x,x∈L.eraseIdx k->∀b,x.own=θ b->r.own≠θ b:=by
  intro x hx b s t;obtain⟨j,c,P,q⟩:∃j,∃(c:j<γ L),j≠k/\L[j]=x:=by rw[iH]at hx;obtain⟨j,c,P,e⟩:=hx;exact⟨j,c,P,e⟩
  have v:L[k]=r:=(aE.1 D).2;have B:=dH.1 h.sep;rcases Ia j k with G|G
  ·exact B j k c u G b (by rw[q];exact s) (by rw[v];exact t)
  ·exact B k j u c aA0 b (by rw[v];exact t) (by rw[q];exact s)
 have d:∀x,x∈L.set k r'->x=r'\/x∈L.eraseIdx k:=by
  intro x hx;obtain⟨j,c,e⟩:=List.getElem_of_mem hx;by_cases P:j=k
  ·subst P;left;simpa using e.symm
  ·right;rw[iH];refine⟨j,aC6,P,?_⟩;rw[mD (λe=>P e.symm)]at e;exact e
 have f:∀x∈L.eraseIdx k,∀b,x.own=θ b->w'.heap[b]? =a.heap[b]? :=λx hx b e=>
  H b ((h.res x (AD hx)).2 b e).1 (λe'=>m x hx b e e'.symm)
 refine⟨N.trans h.os,K.trans h.tape,J.trans h.output,jZ h.size F,λj c I=> ?_,λx hx=> ?_,?_⟩
 ·rw[H j (WY c h.size) (λe=> ?_)];exact h.below j c I;have:=((h.res r n).2 j e.symm).2;rcases this with l|l
  ·omega
  ·exact I l
 ·rcases d x hx with rfl|hx
  ·refine⟨M,λb e=>⟨(C b e).2,?_⟩⟩;rcases(C b e).1 with l|l
   ·exact((h.res r n).2 b l).2
   ·exact .inl (jZ h.size l)
  ·have p:=AD hx;exact⟨cL.holds_of (h.res x p).1 (f x hx),λb e=>⟨WY ((h.res x p).2 b e).1 F,((h.res x p).2 b e).2⟩⟩
 ·have o:∀x∈L.eraseIdx k,∀b,r'.own=θ b->x.own≠θ b:=by
   intro x hx b e e';rcases(C b e).1 with l|l
   ·exact m x hx b e' l
   ·have:=((h.res x (AD hx)).2 b e').1;omega
  have B:=dH.1 h.sep;refine dH.2 λi j O c E b=> ?_;have A:i<γ L:=by simpa using O
  have z:j<γ L:=aC6;by_cases g:i=k
  ·subst g;have y:j≠i:=by omega
   rw[WW,mD (λe=>y e.symm)];intro e;exact o _ (by rw[iH];exact⟨j,z,y,Τ⟩) b e
  ·by_cases P:j=k
   ·subst P;rw[WW,mD (λe=>g e.symm)];intro e e';exact o _ (by rw[iH];exact⟨i,A,g,Τ⟩) b e' e
   ·rw[mD (λe=>g e.symm),mD (λe=>P e.symm)];exact B i j A z E b
theorem Hp.alloc{w0 w:φ}{S:δ Nat}{L:δ cL}(h:Hp w0 S L w)(cs:δ ς)(e:Ε):Hp w0 S (aX w.heap.size cs e::L) (w.alloc (.cells cs.toArray e (0,0))):=by
 have d:Hp w [] [aX w.heap.size cs e] (w.alloc (.cells cs.toArray e (0,0))):=by
  refine⟨Τ,Τ,Τ,aA2,λk c _=>RowKit.Below.heap_alloc w _ k c,λr a=> ?_,aA2⟩;simp at a;subst a;refine⟨?_,λb e=> ?_⟩
  ·show(w.heap.push _)[w.heap.size]? =_;simp
  ·simp[aX]at e;subst e;simp
 exact h.kQ d
theorem Hp.bP(h:Hp w S L a)(k:Nat){b:Nat}{cs:δ ς}{e:Ε}(c:L[k]? =θ (aX b cs e)):
  a.heap[b]? =θ (.cells cs.toArray e (0,0)):=(h.res _ (aL c)).1
section
variable{P:Θ}{n:Md}{Ω:Array Ι}{Q:Exit->Act->φ->Prop}{F:Nat->ς}{w w0:φ}{S:δ Nat}{L:δ cL}
variable{d:Nat}{ty:Ε}{pos:String}{Ψ:Array Edge}{rest:δ Ι}
theorem eX{o:Ι}(g:Hp w0 S L w)(cs:δ ς)(e:Ε)(V:Nat->ς)(c:o.guard=ι)(f:o.dst=θ d)
  (a:(χ (aU n F) o).run P w=.ok (.value (V w.heap.size)) (w.alloc (.cells cs.toArray e (0,0))))
  (h:∀b w',Hp w0 S (aX b cs e::L) w'->W P n Ω Q rest (cY F d (V b)) w'):W P n Ω Q (o::rest) F w:=
 dY c f a (h _ _ (g.alloc cs e))
variable{a:δ ς}{t:Ε}
theorem bib{b off:Nat}{e:Nat×Nat}(h:w.heap[b]? =θ (.cells a.toArray t e)):w.cell? ⟨b,off,ι⟩=a[off]? :=by simp[World.cell?,h]
variable{x:Β}
theorem sX(i:Hp w0 S L w)(k b off:Nat)(cs:δ ς)(e:Ε)(v:ς)(f:L[k]? =θ (aX b cs e))(c:cs[off]? =θ v)
  (hx:aU n F x=.pointer (θ ⟨b,off,ι⟩)) (g:(isAgg t).run P w=.ok ν w) (h:W P n Ω Q rest (cY F d v) w):
  W P n Ω Q (⟨θ d,.load t x,ty,pos,Ψ,ι⟩::rest) F w:=by
 refine dY (w':=w) Τ Τ ?_ h;have a:=bib (off:=off) (i.bP k f);rw[c]at a;simp[χ,hx,Instr.loadAt,Instr.sureAddr,loadVar,g,a]
theorem AM(b off i:Nat):(⟨b,off,ι⟩:Ζ).add i=⟨b,off+i,ι⟩:=by
 unfold Addr.add;by_cases a:i=0
 ·subst a;simp
 ·simp[a]
theorem fI(r:Hp w0 S L w)(k b off m:Nat)(cs vs:δ ς)(e:Ε)(l:L[k]? =θ (aX b cs e))(f:(cs.drop off).take m=vs)(i:γ vs=m)
  (hx:aU n F x=.pointer (θ ⟨b,off,ι⟩)) (q:(isAgg t).run P w=.ok μ w) (g:(Ο t).run P w=.ok m w) (h:W P n Ω Q rest (cY F d (.agg vs.toArray)) w):
  W P n Ω Q (⟨θ d,.load t x,ty,pos,Ψ,ι⟩::rest) F w:=by
 refine dY (w':=w) Τ Τ ?_ h;have p:=r.bP k l;have o:(loadCells ⟨b,off,ι⟩ m).run P w=.ok vs.toArray w:=by
  rw[<-i];refine run_loadCells_list w _ vs λj v a=> ?_;rw[AM,bib p];rw[<-f]at a;have c:j<m:=by have:=(aE.1 a).1;simp at this;omega
  rw[bO,aB c,bV]at a;exact a
 simp[χ,hx,Instr.loadAt,Instr.sureAddr,loadVar,q,g,o]
def iU(cs:δ ς)(off:Nat)(vs:δ ς):δ ς:=cs.take off++vs++cs.drop (off+γ vs)
theorem Hp.stored{k b off:Nat}{vs:δ ς}(g:Hp w0 S L w)(f:L[k]? =θ (aX b a t))(h:off+γ vs<=γ a)(i:∀v∈vs,v.oneCell'=μ):
  ∃w',(storeCells ⟨b,off,ι⟩ vs).run P w=.ok () w'/\Hp w0 S (L.set k (aX b (iU a off vs) t)) w':=by
 have d:=g.bP k f;have e:=run_storeCells_at P b off t vs 0 a.toArray w d aA8 i;refine⟨_,e,g.change k _ _ f Τ Τ Τ aA2 (λj l c=>setRow_other w b j _ (λt=>c (by simp[aX,t]))) ?_ ?_⟩
 ·show(w.setRow b _).heap[b]? =_;rw[setRow_heap w b a.toArray _ t _ d];simp[iU]
 ·intro b' e';simp[aX]at e';subst e';refine⟨.inl Τ,?_⟩;have:=(bY.1 d).1;simpa using this
theorem Py{y:Β}(q:Hp w0 S L w)(k b off:Nat)(cs:δ ς)(e:Ε)(v:ς)(g:δ cL)(o:L[k]? =θ (aX b cs e))(m:off<γ cs)
  (hx:aU n F x=.pointer (θ ⟨b,off,ι⟩)) (i:aU n F y=v) (f:v.oneCell'=μ) (j:(Ο t).run P w=.ok 1 w) (p:L.set k (aX b (cs.set off v) e)=g)
  (h:∀w',Hp w0 S g w'->W P n Ω Q rest F w'):
  W P n Ω Q (⟨ι,.store t x y,ty,pos,Ψ,ι⟩::rest) F w:=by
 have a:v.cells= #[v]:=by cases v<;>first|rfl|simp[Value.oneCell']at f
 obtain⟨w',l,c⟩:=q.stored (P:=P) (vs:=[v]) (off:=off) o aA3 aE0;have d:iU cs off [v]=cs.set off v:=by unfold iU;rw[List.set_eq_take_append_cons_drop,aB m];simp
 rw[d,p]at c;refine wO (w':=w') Τ Τ ?_ (h w' c);simp[χ,hx,i,Instr.storeAt,Instr.sureAddr,storeVar,j,a,l]
theorem gS{y:Β}(m:Hp w0 S L w)(k b off:Nat)(cs vs:δ ς)(e:Ε)(c:δ cL)(j:L[k]? =θ (aX b cs e))(i:off+γ vs<=γ cs)
  (hx:aU n F x=.pointer (θ ⟨b,off,ι⟩)) (d:aU n F y=.agg vs.toArray) (o:vs.all (·.oneCell')=μ) (f:(Ο t).run P w=.ok (γ vs) w) (l:L.set k (aX b (iU cs off vs) e)=c)
  (h:∀w',Hp w0 S c w'->W P n Ω Q rest F w'):
  W P n Ω Q (⟨ι,.store t x y,ty,pos,Ψ,ι⟩::rest) F w:=by
 obtain⟨w',g,a⟩:=m.stored (P:=P) j i (by simpa using o);rw[l]at a;refine wO (w':=w') Τ Τ ?_ (h w' a);simp[χ,hx,d,Instr.storeAt,Instr.sureAddr,storeVar,f,Value.cells,g]
end
open List renaming replicate → jM
open Nat renaming beq → cT, blt → iJ
section
variable{P:Θ}{Ω:Array Ι}{Q:Exit->Act->φ->Prop}{md:Region.Mode}{S:Nat->φ->φ->Prop}
def cE(D:δ Nat)(f:φ->Prop)(j:Nat)(w w':φ):Prop:=D.contains j=ν->f w->f w'
variable{D:δ Nat}{f:φ->Prop}{k:Nat}{w:φ}
theorem cE.same:cE D f k w w:=λ_ h=>h
theorem cE.out{w':φ}(h:D.contains k=μ):cE D f k w w':=λa=>by rw[h]at a;cases a
theorem cE.new{w':φ}(h:f w'):cE D f k w w':=λ_ _=>h
def yQ(P:Θ)(md:Region.Mode)(Ω:Array Ι)(Q:Exit->Act->φ->Prop)(S:Nat->φ->φ->Prop)(k:Nat)(Z:Act->φ->Prop):Nat->Array η->Act->φ->Prop
 |0,listed,a,w=>Region.seqB md Ω (Ω.size-k) k listed=μ/\Z a w
 |f+1,listed,a,w=>Region.ready md Ω listed≠[]/\∀i∈Region.ready md Ω listed,i<k/\wpOp P Ω Q i (λa' w'=>S i w w'/\yQ P md Ω Q S k Z f (listed.setIfInBounds i μ) a' w') a w
theorem Xn{k:Nat}{Z:Act->φ->Prop}(d:k<=Ω.size)(c:∀a w,Z a w->wpList P Ω Q (Ω.toList.drop k) a w):
  ∀f listed a w,yQ P md Ω Q S k Z f listed a w->wpAny P md Ω Q (f+(Ω.size-k)) listed a w
 |0,listed,a,w,h=>by have b:γ (Ω.toList.drop k)=Ω.size-k:=aA2;have:=wpAny_of_seq (Q':=Q) (Ω.toList.drop k) k listed a w (λj=>by simp) (by rw[b];exact h.1) (c a w h.2);rw[b]at this;rw[Ps];exact this
 |f+1,listed,a,w,h=>by rw[show f+1+(Ω.size-k)=(f+(Ω.size-k))+1 by omega];exact⟨λg=>absurd g h.1,λi e=>wpOp_mono (λa' w' l=>Xn d c f _ a' w' l.2) (h.2 i e).2⟩
def PY(md:Region.Mode)(Ω:Array Ι)(i:Nat)(D:δ Nat):η:=
 D.all λj=>match Ω[j]? with
  |some o=>o.after.any λe=>Region.binds md e&&iJ e.on j&&(cT e.on i||D.contains e.on)
  |none=>μ
variable{i:Nat}{a:Array η}
theorem Ri(q:PY md Ω i D=μ)(c:HeadInv md Ω k a)(g:a.getD i μ=ν):∀j,j∈D->j<Ω.size->a.getD j μ=ν:=by
 intro j;induction j using Nat.strongRecOn with
 |_ j n=>
  intro o b;cases m:a.getD j ν with
  |false=>exact getD_in (by rw[c.size];exact b) m
  |true=>
   have l:=aT.1 q j o;rw[fV b]at l;simp only[Array.any_eq_true']at l;obtain⟨e,p,f⟩:=l;simp only[Bv,jC]at f;have s:=c.closed j Ω[j] (fV b) m e p f.1.1;rcases f.2 with h|h
   ·rw[gO h]at s;have:=getD_both g;rw[this]at s;cases s
   ·have d:e.on<j:=by simpa [oZ] using f.1.2
    have r:=n e.on d aA8 aA0;have:=getD_both r;rw[this]at s;cases s
theorem KO{j:Nat}(p:PY md Ω i D=μ)(g:HeadInv md Ω k a)(b:a.getD i μ=ν)(r:j∈Region.ready md Ω a):j∉D:=by
 intro h;obtain⟨o,u,c,d⟩:=mem_ready.1 r;have q:=(bY.1 c).1;have m:=aT.1 p j h;rw[c]at m;simp only[Array.any_eq_true']at m;obtain⟨e,s,f⟩:=m;simp only[Bv,jC]at f;have v:=d e s f.1.1;rcases f.2 with l|l
 ·rw[gO l,getD_both b]at v;cases v
 ·have n:e.on<j:=by simpa [oZ] using f.1.2
  have t:=Ri p g b e.on (by simpa using l) aA0;rw[getD_both t]at v;cases v
theorem TG{Z:Act->φ->Prop}{oi:Ι}{v:ς}(Si:φ->Prop)(D:δ Nat)(hD:PY md Ω i D=μ)(R:∀j w w',S j w w'->cE D Si j w w')(O:Ω[i]? =θ oi)(s:∀(j:Nat) o cs b,Ω[j]? =θ o->o.op≠.select cs b)
  (hQ:∀c a w,Q (.panic c) (a.put oi.dst v) w->Q (.panic c) a w) (Y:i<k)
  (l:∀listed:Array η,HeadInv md Ω k listed->listed.getD i μ=ν->∀t,k<=t->t∉Region.ready md Ω listed):
  ∀f listed a w,HeadInv md Ω k listed->
   (∀j z,Ω[j]? =θ z->j≠i->listed.getD j μ=ν->(∀e∈z.after,Region.binds md e=μ->e.on≠i)->oi.apart Ω z=μ)->
   i∈Region.ready md Ω listed->YieldsIf P Ω Si oi v a->Si w->(∀j w,S j w w)->
   yQ P md Ω Q S k Z f (listed.setIfInBounds i μ) (a.put oi.dst v) w->yQ P md Ω Q S k Z (f+1) listed a w:=by
 intro f;induction f with
 |zero=>
  intro listed a w n g u G I r H;have p:=(mem_ready.1 u).1;refine⟨λT=>(by rw[T]at u;cases u),λj y=> ?_⟩
  have q:j<k:=by
   rcases Ia j k with h|h
   ·exact h
   ·exact absurd y (l listed n p j h)
  by_cases d:j=i
  ·subst d;exact⟨q,G.wpOp O I ⟨r _ _,H⟩⟩
  ·have U:=seqB_ready H.1 j (ready_mono y d);omega
 |succ f W=>
  intro listed a w n g u G I r H;have p:=(mem_ready.1 u).1;refine⟨λT=>(by rw[T]at u;cases u),λj y=> ?_⟩
  have q:j<k:=by
   rcases Ia j k with h|h
   ·exact h
   ·exact absurd y (l listed n p j h)
  by_cases d:j=i
  ·subst d;exact⟨q,G.wpOp O I ⟨r _ _,H⟩⟩
  ·have U:=(H.2 j (ready_mono y d)).2;have N:=KO hD n p y;obtain⟨x,z,A,F⟩:=mem_ready.1 y;have C:∀e∈z.after,Region.binds md e=μ->e.on≠i:=λe he hb heq=>by have K:=F e he hb;rw[heq,getD_both p]at K;cases K
   have K:=wpOp_putIf A (g j z A d x C) (λcs b=>s i oi cs b O) (λcs b=>s j z cs b A) hQ G U;refine⟨q,wpOp_mono (λa' w' J=>⟨J.2.1,W _ a' w' (n.set y q) (λm V X M B L=>g m V X M ?_ L) (ready_mono u (Ne.symm d)) J.1 (R j _ w' J.2.1 (by simpa using N) I) r ?_⟩) K⟩
   ·by_cases E:j=m
    ·subst E;exact x
    ·rw[getD_set_ne μ E]at B;exact B
   ·rw[Array.setIfInBounds_comm _ _ d];exact J.2.2
def HE(Ω:Array Ι)(k:Nat):η:=Region.noSelect Ω&&decide (k<=Ω.size)&&(decide (k=Ω.size)||(Region.sinkB .any Ω k&&Region.chainB .any Ω k))
theorem Fk(h:HE Ω k=μ)(c:i<k):∀listed:Array η,HeadInv .any Ω k listed->listed.getD i μ=ν->∀t,k<=t->t∉Region.ready .any Ω listed:=by
 intro listed a b t g f;simp only[HE,Bv,jC,bL]at h;have e:t<Ω.size:=by obtain⟨_,o,j,_⟩:=mem_ready.1 f;exact(bY.1 j).1
 rcases h.2 with d|d
 ·omega
 ·exact tail_waits d.1 d.2 aA0 a _ i Τ c b t g f
end
section
variable{P:Θ}{kn:Nat}{kD:δ Deferred}{Ω:Array Ι}{Q:Exit->Act->φ->Prop}{S:Nat->φ->φ->Prop}{Si:φ->Prop}{F:Nat->ς}{w:φ}
def QT(Q:Exit->Act->φ->Prop):Prop:=∀c a w,¬Q (.panic c) a w
def R(P:Θ)(n:Md)(Ω:Array Ι)(Q:Exit->Act->φ->Prop)(S:Nat->φ->φ->Prop)(k f:Nat)(listed:δ η)(F:Nat->ς)(w:φ):Prop:=
 HeadInv .any Ω k listed.toArray->(∀j w,S j w w)->QT Q->yQ P .any Ω Q S k (λa w=>wpList P Ω Q (Ω.toList.drop k) a w) f listed.toArray (fr n F) w
def RK(P:Θ)(n:Md)(Ω:Array Ι)(Q:Exit->Act->φ->Prop)(S:Nat->φ->φ->Prop)(k f:Nat)(listed:δ η)(i:Nat)(w:φ):Exit->Act->φ->Prop:=
 Exit.then (λa' w'=>∃a,a'=fr n a/\S i w w'/\R P n Ω Q S k f listed a w') Q
variable{h:φ}{g:δ Nat}{L:δ cL}
theorem Hp.PS{w:φ}(l:Hp h g L w):Hp h g L {w with drawn:=w.drawn+1}:=
 ⟨l.os,l.tape,l.output,l.size,l.below,l.res,l.sep⟩
variable{k:Nat}
theorem Pz{l:δ Ι}(x:Nat)(S:Nat->φ->φ->Prop)(listed:δ η)(b:∀j w,S j w w)(m:P.follows .mixedOrders=μ)(f:HE l.toArray x=μ)
  (p:Hp h g L w) (d:jM (γ l) ν=listed) (o:QT Q) (u:∀w',Hp h g L w'->R P ⟨kn,kD,ι⟩ l.toArray Q S x x listed F w'):C P ⟨kn,kD,ι⟩ Q (.region k l.toArray μ) F w:=by
 unfold C CC;have n:x<=l.toArray.size:=by simp only[HE,Bv,bL]at f;exact f.1.2
 have c:HeadInv .any l.toArray x (Array.replicate l.toArray.size ν):=
  ⟨aA2,λj r _ d=>(by rw[getD_replicate_false]at d;cases d),λt _ i=>getD_in (by simpa using i) (getD_replicate_false _ _)⟩
 have e:listed.toArray=Array.replicate l.toArray.size ν:=by subst d;simp
 refine wp_region_any m ?_;have q:=u _ p.PS (by rw[e];exact c) b o;have s:=Xn n (λa w u=>u) x _ _ _ q;rw[e,show x+(l.toArray.size-x)=l.toArray.size by omega]at s;exact s
theorem Ca{fn:Func}{d:ς->φ->Prop}:QT (bodyPost P fn λe w'=>∃v,e=.returned v/\d v w'):=by intro c a w h;obtain⟨_,v,b,_⟩:=h;cases b
theorem nR{y:Code}(h:QT Q):QT (Ev P ⟨kn,kD,ι⟩ y Q):=by unfold Ev;exact h
theorem vA(h:QT Q):QT (Exit.inBlock k Q):=h
theorem mT(h:QT Q):QT (Exit.noGoto Q):=h
variable{K:Act->φ->Prop}
theorem sZ(h:QT Q):QT (Exit.then K Q):=h
variable{o:Ι}{v:ς}
theorem dA(c:o.guard=ι)(a:∀w,Si w->(χ (aU ⟨kn,kD,ι⟩ F) o).run P w=.ok (.value v) w):YieldsIf P Ω Si o v (fr ⟨kn,kD,ι⟩ F):=
 .inl ⟨by simp[Region.wanted,c],λw b=>by rw[HF];exact a w b⟩
variable{c:ε Nat}{j:Op}{d:Ε}{e:String}{b:Array Edge}{f:η}
theorem qP(dg:Nat)
  (h:(Ω[k]?).bind (·.dst)=θ dg) (l:iJ dg kn=μ) (m:F dg=.bool f)
  (a:∀w,Si w->(χ (aU ⟨kn,kD,ι⟩ F) (⟨c,j,d,e,b,ι⟩)).run P w=.ok (.value v) w):YieldsIf P Ω Si ⟨c,j,d,e,b,θ (k,f)⟩ v (fr ⟨kn,kD,ι⟩ F):=by
 refine .inl ⟨?_,λw g=> ?_⟩
 ·unfold Region.wanted;simp only[bcp (n:=⟨kn,kD,ι⟩) Ω k dg h l,m];simp
 ·rw[HF];exact a w g
theorem y_gno(dg:Nat)
  (l:(Ω[k]?).bind (·.dst)=θ dg) (g:iJ dg kn=μ) (a:F dg=.bool (!f)):YieldsIf P Ω Si ⟨c,j,d,e,b,θ (k,f)⟩ undef (fr ⟨kn,kD,ι⟩ F):=by
 refine .inr ⟨?_,Τ⟩;unfold Region.wanted;simp only[bcp (n:=⟨kn,kD,ι⟩) Ω k dg l g,a];cases f<;>rfl
theorem y_gun(dg:Nat)
  (l:(Ω[k]?).bind (·.dst)=θ dg) (g:iJ dg kn=μ) (a:F dg=undef):YieldsIf P Ω Si ⟨c,j,d,e,b,θ (k,f)⟩ undef (fr ⟨kn,kD,ι⟩ F):=by
 refine .inr ⟨?_,Τ⟩;unfold Region.wanted;simp only[bcp (n:=⟨kn,kD,ι⟩) Ω k dg l g,a];simp[undef]
theorem Kk(listed:δ η)(i:Nat):listed.toArray.setIfInBounds i μ=(listed.set i μ).toArray:=aA2
variable{i:Nat}{a:δ η}
theorem gU(b:δ η)(G d:Nat)(v:ς)(D:δ Nat)(t:∀j w w',S j w w'->cE D Si j w w')(o:Ι)(u:Ω[G]? =θ o)(B:o.dst=θ d)(r:HE Ω k=μ)(E:PY .any Ω G D=μ)(m:Region.free .any Ω a.toArray G=μ)
  (z:(Region.ready .any Ω a.toArray).contains G=μ) (s:iJ G k=μ) (A:a.set G μ=b) (y:YieldsIf P Ω Si o v (fr ⟨kn,kD,ι⟩ F)) (C:Si w)
  (h:R P ⟨kn,kD,ι⟩ Ω Q S k i b (cY F d v) w):R P ⟨kn,kD,ι⟩ Ω Q S k (i+1) a F w:=by
 intro n e x;have g:G<k:=by simpa [oZ] using s
 have q:G∈Region.ready .any Ω a.toArray:=by simpa using z
 have p:Region.noSelect Ω=μ:=by simp only[HE,Bv]at r;exact r.1.1
 refine TG Si D E t u (Region.noSelect_spec p) (λc f w h=>absurd h (x c _ w)) g (Fk r g) i _ _ _ n (Region.free_spec u m) q y C e ?_;have l:=n.set q g;rw[Kk,A]at l⊢;have:=h l e x;rw[<-lV,<-B]at this;exact this
theorem Y3(f:δ η)(p d:Nat)(v:ς)(o:Ι)(l:Ω[p]? =θ o)(n:o.dst=θ d)(g:HE Ω k=μ)(b:Region.free .any Ω a.toArray p=μ)
  (j:(Region.ready .any Ω a.toArray).contains p=μ) (c:iJ p k=μ) (m:a.set p μ=f) (e:YieldsIf P Ω (λ_=>True) o v (fr ⟨kn,kD,ι⟩ F))
  (h:R P ⟨kn,kD,ι⟩ Ω Q S k i f (cY F d v) w):R P ⟨kn,kD,ι⟩ Ω Q S k (i+1) a F w:=
 gU (Si:=λ_=>True) f p d v [] (λ_ _ _ _ _ _=>trivial) o l n g Τ b j c m e trivial h
theorem Ln{a:Act}(c:Ω[k]? =θ o)(h:wpList P Ω (Exit.then K Q) [o] a w):wpOp P Ω Q k K a w:=by
 unfold wpOp;simp only[c];unfold wpList at h;split
 ·rename_i b;rw[aB b]at h;rcases h with h|h
  ·refine .inl ?_;generalize(χ a.eval o).run P w=r at*
   cases r with
   |ok x w'=>cases x<;>exact h
   |halt x w'=>cases x<;>exact h
  ·exact .inr h
 ·rename_i b;rw[aA b]at h;exact h
theorem r_step(b:δ η)(t:Nat)(o:Ι)(m:Ω[t]? =θ o)(n:a.set t μ=b)(g:HeadInv .any Ω k a.toArray)(d:∀j w,S j w w)(r:QT Q)
  (l:t∈Region.ready .any Ω a.toArray) (e:t<k) (h:W P ⟨kn,kD,ι⟩ Ω (RK P ⟨kn,kD,ι⟩ Ω Q S k i b t w) [o] F w):
  t<k/\wpOp P Ω Q t (λa' w'=>S t w w'/\yQ P .any Ω Q S k (λf w=>wpList P Ω Q (Ω.toList.drop k) f w) i (a.toArray.setIfInBounds t μ) a' w') (fr ⟨kn,kD,ι⟩ F) w:=by
 refine⟨e,?_⟩;have c:=g.set l e;rw[Kk,n]at c⊢;unfold W WR RK at h;refine wpOp_mono ?_ (Ln m h);rintro a' w' ⟨s,rfl,p,q⟩;exact⟨p,q c d r⟩
theorem r_one1(f:δ η)(p:Nat)(o:Ι)(l:Ω[p]? =θ o)(d:Region.ready .any Ω a.toArray=[p])(e:iJ p k=μ)(m:a.set p μ=f)
  (h:W P ⟨kn,kD,ι⟩ Ω (RK P ⟨kn,kD,ι⟩ Ω Q S k i f p w) [o] F w):R P ⟨kn,kD,ι⟩ Ω Q S k (i+1) a F w:=by
 intro c b n;refine⟨by rw[d];simp,λj g=> ?_⟩;rw[d]at g;obtain rfl:j=p:=aE4;exact r_step f j o l m c b n (by rw[d];simp) (by simpa [oZ] using e) h
theorem VW{m:Nat}(l:S m h w)(f:R P ⟨kn,kD,ι⟩ Ω Q S k i a F w):RK P ⟨kn,kD,ι⟩ Ω Q S k i a m h .normal (fr ⟨kn,kD,ι⟩ F) w:=⟨F,Τ,l,f⟩
theorem By(l:Region.seqB .any Ω (Ω.size-k) k a.toArray=μ)(h:W P ⟨kn,kD,ι⟩ Ω Q (Ω.toList.drop k) F w):R P ⟨kn,kD,ι⟩ Ω Q S k 0 a F w:=by intro _ _ _;unfold W WR at h;exact⟨l,h⟩
end
attribute [irreducible] R RK
open Go.Value renaming ownBlock → Gi
open List renaming drop → dG, take → eP
open Nat renaming blt → iJ
open UInt8 renaming ofNat → Fc
def ea(a:ε Ζ)(j:Nat):Ζ:=match a with
 |some p=>p.add j
 |none=>⟨0,j,ι⟩
theorem add_add(p:Ζ)(j k:Nat):(p.add j).add k=p.add (j+k):=by
 unfold Addr.add;by_cases b:j=0
 ·subst b;simp
 ·by_cases a:k=0
  ·subst a;simp
  ·simp[b,a,Cb]
theorem KL(a:ε Ζ)(j k:Nat):(ea a j).add k=ea a (j+k):=by
 cases a with
 |none=>exact AM 0 j k
 |some p=>exact add_add p j k
def Rd(w:φ)(a:ε Ζ)(b:δ ς):Prop:=∀j v,b[j]? =θ v->∃p,a=θ p/\w.cell? (p.add j)=θ v
variable{w:φ}{p:Ζ}{v:ς}
theorem Bd(h:w.cell? p=θ v):p.block<w.heap.size:=by
 unfold World.cell? at h;cases a:w.heap[p.block]? with
 |none=>simp[a]at h
 |some o=>exact(bY.1 a).1
theorem bgp(p:Ζ)(j:Nat):(p.add j).block=p.block:=by unfold Addr.add;split<;>rfl
variable{b:φ}
theorem Uy(h:b.heap[p.block]? =w.heap[p.block]?):b.cell? p=w.cell? p:=by simp only[World.cell?,h]
variable{a:ε Ζ}{c:δ ς}
theorem Rd.mono(h:Rd w a c)(f:∀g,g<w.heap.size->b.heap[g]? =w.heap[g]?):Rd b a c:=by intro j v e;obtain⟨p,hp,d⟩:=h j v e;refine⟨p,hp,?_⟩;rw[Uy (f _ (Bd d))];exact d
variable{L:δ cL}
theorem Rd.hp(h:Rd w a c)(e:Hp w [] L b):Rd b a c:=h.mono λf d=>e.below f d aA2
variable{S:δ Nat}
theorem Rd.hpS(h:Rd w a c)(i:Hp w S L b)(k:∀p,a=θ p->p.block∉S):Rd b a c:=by
 intro j v f;obtain⟨p,hp,e⟩:=h j v f;refine⟨p,hp,?_⟩;have d:=Bd e;rw[bgp]at d;have g:b.heap[(p.add j).block]? =w.heap[(p.add j).block]? :=by rw[bgp];exact i.below _ d (k p hp)
 rw[Uy g];exact e
theorem Rd.nil(w:φ)(a:ε Ζ):Rd w a []:=λj v h=>by simp at h
theorem Rd.some_(h:Rd w a c)(b:0<γ c):a≠ι:=by obtain⟨p,hp,_⟩:=h 0 c[0] aA2;rw[hp];simp
theorem Rd.take{w:φ}{a:ε Ζ}{c:δ ς}(h:Rd w a c)(k:Nat):Rd w a (c.take k):=by
 intro j v b;rw[bO]at b;split at b
 ·exact h j v b
 ·cases b
theorem Rd.drop{w:φ}{p:Ζ}{a:δ ς}(h:Rd w (θ p) a)(k:Nat):Rd w (θ (p.add k)) (a.drop k):=by intro j v b;rw[bV]at b;obtain⟨q,c,d⟩:=h _ v b;simp at c;subst c;exact⟨_,Τ,by rw[add_add];exact d⟩
variable{m e:Nat}{l:δ ζ}
theorem Hp.eQ(h:Hp w S L b)(k:Nat)(p:L[k]? =θ (jX (.slice a m e) m l)):Rd b a (l.map bt):=by
 obtain⟨t,_⟩:=h.res _ (aL p);obtain⟨iD,g,i,f,x,u,c,n,o,r,d,q⟩:=t;intro j v y;obtain⟨rfl,rfl⟩:=c;refine⟨_,Τ,?_⟩;rw[AM];have s:b.heap[g]? =θ (.cells f x u):=by simpa [jX,Gi] using n
 simp only[World.cell?,s];rw[<-d,bO]at y;split at y
 ·simpa using y
 ·cases y
theorem Hp.gP(h:Hp w S L b)(k:Nat)(d:L[k]? =θ (aX m c e)):Rd b (θ ⟨m,0,ι⟩) c:=by intro j v a;refine⟨_,Τ,?_⟩;rw[AM,bib (h.bP k d)];simpa using a
theorem Hp.hK(h:Hp w S L b)(k:Nat)(a:L[k]? =θ (jX v m l)):γ l=m:=(h.res _ (aL a)).1.1
theorem Hp.tail{r:cL}(h:Hp w S (r::L) b):Hp w S L b:=h.sub (List.sublist_cons_self r L)
def TI(P:Θ)(e sz a:Nat):Prop:=(P.info? e).map (λi=>(i.zero.map (λz=>z.cells.size),i.size,i.bytes))=θ (θ sz,sz,a)
theorem TI.parts{P:Θ}{a:Nat}(h:TI P m e a):∃i z,P.info? m=θ i/\i.zero=θ z/\i.size=e/\i.bytes=a/\z.cells.size=e:=by
 unfold TI at h;cases c:P.info? m with
 |none=>simp[c]at h
 |some i=>simp[c]at h;obtain⟨⟨z,d,b⟩,g,f⟩:=h;exact⟨i,z,Τ,d,g,f,b⟩
section
variable{P:Θ}{n:Md}{Ω:Array Ι}{Q:Exit->Act->φ->Prop}{F:Nat->ς}{w w0:φ}{S:δ Nat}{L:δ cL}
variable{d:Nat}{ty:Ε}{pos:String}{Ψ:Array Edge}{rest:δ Ι}
variable{x:Β}{t:Ε}
theorem yM(b off:Nat)(cs:δ ς)(e:Ε)(v:ς)(f:w.heap[b]? =θ (.cells cs.toArray e (0,0)))(c:cs[off]? =θ v)
  (hx:aU n F x=.pointer (θ ⟨b,off,ι⟩)) (g:(isAgg t).run P w=.ok ν w):(χ (aU n F) (⟨θ d,.load t x,ty,pos,Ψ,ι⟩)).run P w=.ok (.value v) w:=by
 have a:=bib (off:=off) f;rw[c]at a;simp[χ,hx,Instr.loadAt,Instr.sureAddr,loadVar,g,a]
theorem xn(a:ε Ζ)(c:δ ς)(j:Nat)(v:ς)(h:Rd w a c)(e:c[j]? =θ v)(hx:aU n F x=.pointer (θ (ea a j)))
  (g:(isAgg t).run P w=.ok ν w):(χ (aU n F) (⟨θ d,.load t x,ty,pos,Ψ,ι⟩)).run P w=.ok (.value v) w:=by
 obtain⟨p,rfl,f⟩:=h j v e;have b:aU n F x=.pointer (θ (p.add j)):=hx;simp[χ,b,Instr.loadAt,Instr.sureAddr,loadVar,g,f]
theorem mG(b off m:Nat)(cs vs:δ ς)(e:Ε)(k:w.heap[b]? =θ (.cells cs.toArray e (0,0)))(f:(cs.drop off).take m=vs)(h:γ vs=m)
  (hx:aU n F x=.pointer (θ ⟨b,off,ι⟩)) (l:(isAgg t).run P w=.ok μ w) (g:(Ο t).run P w=.ok m w):
  (χ (aU n F) (⟨θ d,.load t x,ty,pos,Ψ,ι⟩)).run P w=.ok (.value (.agg vs.toArray)) w:=by
 have i:(loadCells ⟨b,off,ι⟩ m).run P w=.ok vs.toArray w:=by
  rw[<-h];refine run_loadCells_list w _ vs λj v a=> ?_;rw[AM,bib k];rw[<-f]at a;have c:j<m:=by have:=(aE.1 a).1;simp at this;omega
  rw[bO,aB c,bV]at a;exact a
 simp[χ,hx,Instr.loadAt,Instr.sureAddr,loadVar,l,g,i]
theorem xm(a:ε Ζ)(e vs:δ ς)(j m:Nat)(l:Rd w a e)(o:(e.drop j).take m=vs)(s:γ vs=m)(A:0<m)(hx:aU n F x=.pointer (θ (ea a j)))
  (y:(isAgg t).run P w=.ok μ w) (r:(Ο t).run P w=.ok m w):
  (χ (aU n F) (⟨θ d,.load t x,ty,pos,Ψ,ι⟩)).run P w=.ok (.value (.agg vs.toArray)) w:=by
 have b:∀i v,vs[i]? =θ v->e[j+i]? =θ v:=by
  intro i v c;rw[<-o]at c;have g:i<m:=by have:=(aE.1 c).1;simp at this;omega
  rw[bO,aB g,bV]at c;exact c
 have z:vs[0]? =θ (vs[0]' aA0):=aA2;obtain⟨p,rfl,_⟩:=l _ _ (b 0 _ z);have f:aU n F x=.pointer (θ (p.add j)):=hx;have u:(loadCells (p.add j) m).run P w=.ok vs.toArray w:=by rw[<-s];refine run_loadCells_list w _ vs λi v c=> ?_;obtain⟨q,k,h⟩:=l _ _ (b i v c);simp at k;subst k;rw[add_add];exact h
 simp[χ,f,Instr.loadAt,Instr.sureAddr,loadVar,y,r,u]
theorem Jj(a:ε Ζ)(k c e:Nat)(b:P.underlying t=θ (.slice e))(hx:aU n F x=.slice a k c):
  (χ (aU n F) (⟨θ d,.call ⟨.builtin .len,#[x],#[t]⟩,ty,pos,Ψ,ι⟩)).run P w=.ok (.value (.int .i64 k)) w:=by
 simp[χ,resolve,invoke,builtin,hx,Builtin.len_,run_underlying b,goInt]
theorem ZG(a:ε Ζ)(k c e:Nat)(b:P.underlying t=θ (.slice e))(hx:aU n F x=.slice a k c)(h:W P n Ω Q rest (cY F d (.int .i64 k)) w):
  W P n Ω Q (⟨θ d,.call ⟨.builtin .len,#[x],#[t]⟩,ty,pos,Ψ,ι⟩::rest) F w:=dY Τ Τ (Jj a k c e b hx) h
variable{y:Β}
theorem YJ(a:ε Ζ)(k c e sz:Nat)(q:Δ)(i:Int)(g:P.underlying t=θ (.slice e))(h:(Ο e).run P w=.ok sz w)(hx:aU n F x=.slice a k c)(j:aU n F y=.int q i)
  (f:0<=i/\i<k) (l:a≠ι):(χ (aU n F) (⟨θ d,.indexAddr t x y,ty,pos,Ψ,ι⟩)).run P w=.ok (.value (.pointer (θ (ea a (i.toNat*sz))))) w:=by
 cases a with
 |none=>exact absurd Τ l
 |some p=>simp[χ,hx,j,Instr.indexAt,asIntOf,run_underlying g,h,f.1,f.2,ea]
variable{m f:Nat}
theorem xr(A:Ζ)(off:Nat)(hx:aU n F x=.pointer (θ A))(a:(Instr.fieldAt m (.pointer (θ A)) f).run P w=.ok (.pointer (θ (A.add off))) w):
  (χ (aU n F) (⟨θ d,.fieldAddr m x f,ty,pos,Ψ,ι⟩)).run P w=.ok (.value (.pointer (θ (A.add off)))) w:=by
 simp[χ,hx,a]
theorem Vz(a:ε Ζ)(j off:Nat)(hx:aU n F x=.pointer (θ (ea a j)))(b:(Instr.fieldAt m (.pointer (θ (ea a j))) f).run P w=.ok (.pointer (θ ((ea a j).add off))) w):
  (χ (aU n F) (⟨θ d,.fieldAddr m x f,ty,pos,Ψ,ι⟩)).run P w=.ok (.value (.pointer (θ (ea a (j+off))))) w:=by
 rw[xr _ off hx b,KL]
theorem w_fldE(a:ε Ζ)(j off:Nat)(hx:aU n F x=.pointer (θ (ea a j)))(b:(Instr.fieldAt m (.pointer (θ (ea a j))) f).run P w=.ok (.pointer (θ ((ea a j).add off))) w)
  (h:W P n Ω Q rest (cY F d (.pointer (θ (ea a (j+off))))) w):W P n Ω Q (⟨θ d,.fieldAddr m x f,ty,pos,Ψ,ι⟩::rest) F w:=
 dY Τ Τ (Vz a j off hx b) h
variable{b:Ε}
theorem Jo(C:Hp w0 S L w)(l:δ ζ)(e:Ε)(z:P.underlying t=θ .string)(y:P.underlying b=θ (.slice e))(B:P.underlying e=θ (.int .u8))(hx:aU n F x=str l)
  (h:∀a cap w',(χ (aU n F) (⟨θ d,.convert t b x,ty,pos,Ψ,ι⟩)).run P w=.ok (.value (.slice a (γ l) cap)) w'->Hp w0 S (jX (.slice a (γ l) cap) (γ l) l::L) w'->W P n Ω Q rest (cY F d (.slice a (γ l) cap)) w'):
  W P n Ω Q (⟨θ d,.convert t b x,ty,pos,Ψ,ι⟩::rest) F w:=by
 let cap:=Question.cut (.appendCap (γ l) 0 e) (w.tape w.drawn (.appendCap (γ l) 0 e));have g:γ l<=cap:=by show _<=_+_;omega
 let cells:Array ς:=(l.toArray.map λs=>.int .u8 s.toNat)++Array.replicate (cap-γ l) (.int .u8 0);have o:cells.size=cap:=by simp[cells];omega
 let f:φ:={w with drawn:=w.drawn+1,heap:=w.heap.push (.cells cells e (cap,cap+1))}
 have c:(χ (aU n F) (⟨θ d,.convert t b x,ty,pos,Ψ,ι⟩:Ι)).run P w=.ok (.value (.slice (θ ⟨w.heap.size,0,ι⟩) (γ l) cap)) f:=by
  have E:(convert t b (str l)).run P w=(Conv.stringToBytes e ⟨l.toArray⟩).run P w:=by simp[convert,str,run_underlying z,run_underlying y,run_underlying B]
  have D:(Conv.stringToBytes e ⟨l.toArray⟩).run P w=.ok (.slice (θ ⟨w.heap.size,0,ι⟩) (γ l) cap) f:=by
   have dR:(⟨l.toArray⟩:ByteArray).size=γ l:=Τ;unfold Conv.stringToBytes markStringish;simp only[Sem.run_bind,dR];simp only[Sem.run_pure];show Result.andThen (Result.andThen (Result.ok (World.shape? {w with drawn:=w.drawn+1,heap:=w.heap.push _} w.heap.size) _) _) _=_;have j:World.shape? {w with drawn:=w.drawn+1,heap:=w.heap.push (.cells cells e (0,0))} w.heap.size=θ (e,cap):=by simp[World.shape?,o]
   rw[j];show Result.andThen (Result.ok () (World.freeze {w with drawn:=w.drawn+1,heap:=w.heap.push (.cells cells e _)} ⟨w.heap.size,cap,ι⟩ 1)) _=_;simp only[Result.andThen_ok,World.freeze];congr 1;refine bM (λh=>({w with drawn:=w.drawn+1,heap:=h}:φ)) ?_;apply mf
   ·simp
   ·intro i H p;have A:i<w.heap.size+1:=by simpa using p
    rw[Array.getElem_modify];by_cases u:w.heap.size=i
    ·subst u;simp
    ·have m:i<w.heap.size:=by omega
     simp[u,Array.getElem_push,m]
  simp[χ,hx,E,D]
 refine dY Τ Τ c (h _ _ _ c ?_);have p:Hp w [] [jX (.slice (θ ⟨w.heap.size,0,ι⟩) (γ l) cap) (γ l) l] f:=by
  refine⟨Τ,Τ,Τ,by simp[f],λk G _=> ?_,λr q=> ?_,aA2⟩
  ·show(w.heap.push _)[k]? =_;rw[Array.getElem?_push,aA aA0]
  ·simp at q;subst q;refine⟨⟨Τ,w.heap.size,cap,cells,e,(cap,cap+1),Τ,?_,g,aA0,?_,aA0⟩,λs v=> ?_⟩
   ·simp[jX,Gi,f]
   ·simp[cells,bt]
   ·simp[jX,Gi]at v;subst v;simp[f]
 exact C.kQ p
theorem Sb(g:Hp w0 S L w)(l:δ ζ)(e:Ε)(c:P.underlying t=θ .string)(s:P.underlying b=θ (.slice e))(f:P.underlying e=θ (.int .u8))(hx:aU n F x=str l)
  (h:∀a cap w',Hp w0 S (jX (.slice a (γ l) cap) (γ l) l::L) w'->W P n Ω Q rest (cY F d (.slice a (γ l) cap)) w'):
  W P n Ω Q (⟨θ d,.convert t b x,ty,pos,Ψ,ι⟩::rest) F w:=Jo g l e c s f hx λa cap w' _=>h a cap w'
theorem Vw(l:δ ζ)(a:ε Ζ)(m cap:Nat)(e:Ε)(h:Rd w a (l.map bt))(y:γ l=m)(o:P.underlying t=θ (.slice e))(k:P.underlying b=θ .string)(B:P.underlying e=θ (.int .u8))(hx:aU n F x=.slice a m cap):
  (χ (aU n F) (⟨θ d,.convert t b x,ty,pos,Ψ,ι⟩)).run P w=.ok (.value (str l)) w:=by
 subst y;have D:(convert t b (.slice a (γ l) cap)).run P w=(Conv.bytesToString (.slice a (γ l) cap)).run P w:=by simp[convert,run_underlying o,run_underlying k,run_underlying B]
 have C:(Conv.bytesToString (.slice a (γ l) cap)).run P w=.ok (str l) w:=by
  cases a with
  |none=>
   have:l=[]:=by
    cases l with
    |nil=>rfl
    |cons c l=>obtain⟨p,u,_⟩:=h 0 (bt c) aA2;cases u
   subst this;rfl
  |some p=>
   have s:(loadCells p (γ l)).run P w=.ok ((l.map λc=>c.toNat).map (π .u8)).toArray w:=by have:=run_loadCells_list (P:=P) w p _ (λj v z=>by obtain⟨q,g,f⟩:=h j v z;simp at g;subst g;exact f);simp at this;rw[this];simp[bt]
   have:=run_bytesToString w p (γ l) cap _ s
   rw[this];unfold str;have A:∀(l:δ ζ) (r:ByteArray),(l.map λc=>(c.toNat:Int)).foldl (λr n=>r.push (Fc n.toNat)) r=⟨r.data++l.toArray⟩:=by
    intro l;induction l with
    |nil=>intro r;simp
    |cons c l i=>intro r;simp;rw[i];simp
   rw[A];simp
 simp[χ,hx,D,C]
variable{a:ε Ζ}{v:δ ς}
theorem Hp.grown{w':φ}{a':ε Ζ}{cap cap' e sz:Nat}{l:δ ς}(C:Hp w0 S L w)(A:L[m]? =θ (row (.slice a f cap) e sz f v)){d:Nat}
  (h:w.grownBy w' (ξ a f cap).ownBlock) (u:w'.ownsRow 0 e sz (.slice a' d cap') d l) (y:∀p,a'=θ p->(∃q,a=θ q/\q.block=p.block)\/w.heap.size<=p.block):
  Hp w0 S (L.set m (row (.slice a' d cap') e sz d l)) w':=by
 have k:(row (.slice a' d cap') e sz d l).holds w':=by
  obtain⟨z,n⟩:=u;refine⟨z,?_⟩;rcases n with n|⟨g,c,s,t,_,i,F,r,E,D⟩
  ·exact .inl n
  ·refine .inr ⟨g,c,s,t,?_,F,r,E,D⟩;obtain⟨rfl,-,rfl⟩:=t;exact i
 refine C.change m _ _ A h.os h.tape h.output h.size (λj B o=>h.block j B (λe=>o (by rw[e];rfl))) k ?_;intro b i;cases a' with
 |none=>simp[row,Gi]at i
 |some p=>
  simp[row,Gi]at i;subst i;refine⟨?_,(u.lt p.block Τ).2⟩;rcases y p Τ with⟨q,rfl,x⟩|r
  ·left;simp[row,Gi,x]
  ·exact .inr r
theorem Hp.ownsRow{a:ε Ζ}{k m cap e sz:Nat}{f:δ ς}(n:Hp w0 S L w)(j:L[k]? =θ (row (.slice a m cap) e sz m f)):w.ownsRow 0 e sz (.slice a m cap) m f:=by
 obtain⟨⟨i,b⟩,_⟩:=n.res _ (aL j);refine⟨i,?_⟩;rcases b with b|⟨g,c,d,h,l,r,q,p,o⟩
 ·exact .inl b
 ·refine .inr ⟨g,c,d,h,eJ _,?_,r,q,p,o⟩;obtain⟨rfl,-,rfl⟩:=h;exact l
theorem NF{x:ε Ζ}{k cx e sz D:Nat}{b:δ ς}(t:Ε)(E:P.underlying t=θ (.slice e))(hT:TI P e sz D)(dR:0<sz)(d:w.ownsRow 0 e sz (.slice a m f) m v)
  (K:Rd w x b) (A:γ b=k*sz) (Z:∀u∈b,u.oneCell'=μ) (I:m+k<=maxLen) (B:(m+k)*D<=140737488355328):
  ∃a' cap' w',(Builtin.append_ #[t,t] ty #[.slice a m f,.slice x k cx]).run P w=.ok (.slice a' (m+k) cap') w'/\w'.ownsRow 0 e sz (.slice a' (m+k) cap') (m+k) (v++b)/\
   w.grownBy w' (ξ a m f).ownBlock/\∀p,a'=θ p->(∃q,a=θ q/\q.block=p.block)\/w.heap.size<=p.block:=by
 obtain⟨i,z,F,M,U,Y,L⟩:=hT.parts;have T:∀{x},x=ι->Rd w x b->k=0/\b=[]:=by
  rintro _ rfl K
  have:b=[]:=by
   cases b with
   |nil=>rfl
   |cons u us=>obtain⟨p,n,_⟩:=K 0 u aA2;cases n
  subst this;refine⟨?_,Τ⟩;rcases Nat.eq_zero_or_pos k with h|h
  ·exact h
  ·have:=ko h dR;simp at A;omega
 by_cases X:k=0
 ·
  subst X;have O:=Gh (by simpa using A);subst O;refine⟨a,f,w,?_,aD5,⟨Τ,Τ,Τ,dC _,λ_ _ _=>rfl⟩,λp n=>.inl ⟨p,n,Τ⟩⟩
  have a4:m+0<=f:=by
   rcases d.2 with⟨s,G⟩|⟨g,c,C,s,_,_,S,_⟩
   ·subst G;omega
   ·simp at s;omega
  have l:(Builtin.firstCells i.size 0 (.slice x 0 cx)).run P w=.ok #[] w:=by
   cases x with
   |none=>simp[Builtin.firstCells]
   |some p=>simp[Builtin.firstCells,loadCells,loadCellsFrom]
  have a2:∀q:Ζ,(storeCells q []).run P w=.ok () w:=λq=>rfl;cases a with
  |none=>simp[Builtin.append_,run_underlying E,Ο,typeInfo,F,Builtin.lenOf,l];omega
  |some p=>have:m<=f:=aA0;simp[Builtin.append_,run_underlying E,Ο,typeInfo,F,Builtin.lenOf,this,l,storeCells]
 ·cases x with
  |none=>exact absurd (T Τ K).1 X
  |some p=>
   have J:∀j u,b[j]? =θ u->w.cell? (p.add j)=θ u:=by intro j u hu;obtain⟨q,V,S⟩:=K j u hu;simp at V;subst V;exact S
   obtain⟨v',w',r,ho,hg,W⟩:=run_append_own w 0 t ty e i z sz D E F M U Y L dR _ m v d p k cx b A J Z I B (eJ _);have N:∃a' cap',v'=.slice a' (m+k) cap'/\∀p,a'=θ p->(∃q,a=θ q/\q.block=p.block)\/w.heap.size<=p.block:=by
    subst U;subst Y;have a0:((m+k):Int)<=9223372036854775807:=by simp only[maxLen]at I;omega
    rcases d.2 with⟨s,G⟩|⟨g,c,C,s,_,Q,S,_,R,_⟩
    ·simp at s;obtain⟨rfl,rfl,rfl⟩:=s;have:=run_append_nil (P:=P) w t ty e i z E F M p k cx b A J aA0 (by simpa using a0) (by simp at B;omega);rw[this]at r;simp at r;refine⟨_,_,by rw[<-r.1,Ps],λp n=>.inr ?_⟩;simp at n;subst n;simp
    ·simp at s;obtain⟨rfl,-,rfl⟩:=s;by_cases o:m+k<=f
     ·have H:m*i.size+γ b<=C.size:=by rw[A,R,<-eL];exact HA _ o
      have:=run_append_room w t ty e i E F g m f C Q p k cx b A J Z o H;rw[this]at r;simp at r;refine⟨_,_,r.1.symm,λp n=>.inl ?_⟩;simp at n;subst n;exact⟨_,Τ,Τ⟩
     ·have y:=d.cells Τ;have:=run_append_grow w t ty e i z E F M _ m f v d.1 y p k cx b A J aA0 a0 (growslice_fits aA0 B);rw[this]at r;simp at r;refine⟨_,_,r.1.symm,λp n=>.inr ?_⟩;simp at n;subst n;simp
   obtain⟨a',cap',rfl,O⟩:=N;exact⟨a',cap',w',r,ho,hg,O⟩
theorem BA(j:Hp w0 S L w)(k:Nat)(a l:ε Ζ)(m cap c cx e sz f:Nat)(g b:δ ς)(i:L[k]? =θ (row (.slice a m cap) e sz m g))(p:P.underlying t=θ (.slice e))(B:TI P e sz f)(dR:0<sz)
  (hx:aU n F x=.slice a m cap) (o:aU n F y=.slice l c cx) (C:Rd w l b) (v:γ b=c*sz) (E:∀u∈b,u.oneCell'=μ) (A:(m+c)*f<=140737488355328) (D:m+c<=9223372036854775807)
  (h:∀a' cap' w',Hp w0 S (L.set k (row (.slice a' (m+c) cap') e sz (m+c) (g++b))) w'->W P n Ω Q rest (cY F d (.slice a' (m+c) cap')) w'):
  W P n Ω Q (⟨θ d,.call ⟨.builtin .append,#[x,y],#[t,t]⟩,ty,pos,Ψ,ι⟩::rest) F w:=by
 obtain⟨a',cap',w',q,r,z,s⟩:=NF (P:=P) (ty:=ty) (cx:=cx) t p B dR (j.ownsRow i) C v E aE3 A;refine dY (w':=w') Τ Τ ?_ (h a' cap' w' (j.grown i z r s));simp[χ,resolve,invoke,builtin,hx,o,q]
theorem my(N:Hp w0 S L w)(e sz m:Nat)(kl v:Δ)(c:Int)(G:P.underlying t=θ (.slice e))(M:TI P e sz m)(hx:aU n F x=.int kl 0)(E:aU n F y=.int v c)
  (V:0<=c) (l:m*c<=281474976710656) (O:c<=9223372036854775807)
  (h:∀a cap w',Hp w0 S (row (.slice a 0 cap) e sz 0 []::L) w'->W P n Ω Q rest (cY F d (.slice a 0 cap)) w'):
  W P n Ω Q (⟨θ d,.makeSlice t x y,ty,pos,Ψ,ι⟩::rest) F w:=by
 obtain⟨i,z,K,D,H,p,C⟩:=M.parts;obtain⟨cn,rfl⟩:=Int.eq_ofNat_of_zero_le V;have q:i.bytes*cn<=281474976710656:=by rw[p];omega
 obtain⟨w',f,B,j⟩:=run_make_own w 0 t e i z sz G K D H kl v cn q (by simp only[maxLen];omega) (eJ _);refine dY (w':=w') Τ Τ ?_ (h (θ ⟨w.heap.size,0,ι⟩) cn w' ?_)
 ·simp[χ,hx,E,f]
 ·have s:Hp w [] [row (.slice (θ ⟨w.heap.size,0,ι⟩) 0 cn) e sz 0 []] w':=by
   refine⟨j.os,j.tape,j.output,j.size,λk J _=>j.block k J aA2,λr f=> ?_,aA2⟩;simp at f;subst f;have o:=B.lt w.heap.size Τ;refine⟨?_,λb l=> ?_⟩
   ·obtain⟨I,f⟩:=B;refine⟨I,?_⟩;rcases f with f|⟨g,c,u,A,_,l,U,s,T,R⟩
    ·exact .inl f
    ·refine .inr ⟨g,c,u,A,?_,U,s,T,R⟩;obtain⟨⟨rfl,-⟩,-,rfl⟩:=A;exact l
   ·simp[row,Gi]at l;subst l;exact⟨o.2,.inl (dC _)⟩
  exact N.kQ s
theorem Hp.ye{k e sz j:Nat}{vs:δ ς}(B:Hp w0 S L w)(A:L[k]? =θ (row (.slice a m f) e sz m v))(O:j+γ vs<=γ v)(M:∀R∈vs,R.oneCell'=μ)(N:vs≠[]):
  ∃w',(storeCells (ea a j) vs).run P w=.ok () w'/\Hp w0 S (L.set k (row (.slice a m f) e sz m (iU v j vs))) w':=by
 have z:=cA.2 N;obtain⟨h,E⟩:=B.ownsRow A;rcases E with⟨q,F⟩|⟨g,c,d,q,_,y,o,x,n,r⟩
 ·exfalso;subst F;rw[Nat.zero_mul]at h;omega
 ·simp at q;obtain⟨rfl,-,rfl⟩:=q;have D:γ v<=d.size:=by rw[h,n];exact HA _ o
  have s:=run_storeCells_at P g j e vs 0 d w y aA0 M;have u:ea (θ ⟨g,0,ι⟩) j=⟨g,j,ι⟩:=by show(⟨g,0,ι⟩:Ζ).add j=_;rw[AM,Ps]
  rw[u];refine⟨_,s,B.change k _ _ A Τ Τ Τ aA2 (λi Q t=>setRow_other w g i _ (λe=>t (by simp[row,Gi,e]))) ?_ ?_⟩
  ·refine⟨by rw[<-h];unfold iU;simp;omega,.inr ⟨g,f,(eP (j+0) d.toList++vs++dG (j+0+γ vs) d.toList).toArray,Τ,?_,o,x,?_,?_⟩⟩
   ·show(w.setRow g _).heap[g]? =_;rw[setRow_heap w g d _ e _ y]
   ·rw[<-n];simp;omega
   ·rw[<-h];have C:v=d.toList.take (γ v):=by rw[h];exact r.symm
    unfold iU;rw[fA,fA];simp;have K:min j d.size=j:=aA0;rw[K];rw[hZ,xi (l:=vs) aA0];have J:min (γ v) j=j:=aA0;rw[J,List.take_drop];have I:j+γ vs+(γ v-(j+γ vs))=γ v:=aA0;rw[I];have H:eP j v=eP j d.toList:=by rw[C];rw[hZ,XX aA0]
    rw[H];have G:dG (j+γ vs) v=dG (j+γ vs) (eP (γ v) d.toList):=by rw[<-C]
    rw[G]
  ·intro b p;simp[row,Gi]at p;subst p;refine⟨.inl (by simp[row,Gi]),?_⟩;have:=(bY.1 y).1;simpa using this
theorem ZC(J:Hp w0 S L w)(k:Nat)(a:ε Ζ)(m cap j:Nat)(l:δ ζ)(c:ζ)(I:L[k]? =θ (jX (.slice a m cap) m l))(R:j<m)
  (hx:aU n F x=.pointer (θ (ea a j))) (M:aU n F y=bt c) (N:(Ο t).run P w=.ok 1 w)
  (h:∀w',Hp w0 S (L.set k (jX (.slice a m cap) m (l.set j c))) w'->W P n Ω Q rest F w'):W P n Ω Q (⟨ι,.store t x y,ty,pos,Ψ,ι⟩::rest) F w:=by
 obtain⟨⟨iD,g,K,d,e,u,G,O,E,D,v,B⟩,H⟩:=J.res _ (aL I);simp at G;obtain⟨rfl,-,rfl⟩:=G;have s:w.heap[g]? =θ (.cells d e u):=by simpa [jX,Gi] using O
 have C:ea (θ ⟨g,0,ι⟩) j=⟨g,j,ι⟩:=by show(⟨g,0,ι⟩:Ζ).add j=_;rw[AM,Ps]
 rw[C]at hx;have p:w.cell? ⟨g,j,ι⟩=θ (d[j]' aA0):=by simp only[World.cell?,s];have:j<d.size:=aA0;simp
 have o:w.frozen? ⟨g,j,ι⟩=ν:=by simp only[World.frozen?,s];have:¬u.1<=j:=aA0;simp[this]
 have z:(storeCells ⟨g,j,ι⟩ [bt c]).run P w=.ok () (w.setCell ⟨g,j,ι⟩ (bt c)):=by simp only[storeCells,Sem.run_bind,AM,Rt,store];simp only[Sem.run,bt,p,o];rfl
 have q:(w.setCell ⟨g,j,ι⟩ (bt c)).heap[g]? =θ (.cells (d.setIfInBounds j (bt c)) e u):=by simp[World.setCell,Array.getElem?_modify,s]
 refine wO (w':=w.setCell ⟨g,j,ι⟩ (bt c)) Τ Τ ?_ (h _ ?_)
 ·simp[χ,hx,M,Instr.storeAt,Instr.sureAddr,storeVar,N,bt,Value.cells];have f:=z;simp only[bt]at f;rw[f];rfl
 ·refine J.change k _ _ I Τ Τ Τ aA2 (λi T A=>RowKit.Below.heap_setCell w _ _ i (λe=>A (by simp[jX,Gi,e]))) ?_ ?_
  ·refine⟨by simpa using iD,g,cap,_,e,u,Τ,q,E,by simpa using D,?_,by simpa using B⟩;rw[List.map_set,<-v,<-List.take_set];simp
  ·intro b r;simp[jX,Gi]at r;subst r;refine⟨.inl (by simp[jX,Gi]),?_⟩;have:=(bY.1 s).1;simpa [World.setCell] using this
end
theorem Kl{a:Type}{P:Θ}{w:φ}(f:a->Sem ς):∀(l:δ a) vs,γ l=γ vs->(∀(i:Nat) x v,l[i]? =θ x->vs[i]? =θ v->(f x).run P w=.ok v w)->(l.mapM f).run P w=.ok vs w
 |[],[],_,_=>by simp
 |[],_::_,h,_=>by simp at h
 |_::_,[],h,_=>by simp at h
 |x::l,v::vs,h,b=>by rw[List.mapM_cons];simp only[Sem.run_bind,b 0 x v rfl rfl,Result.andThen_ok];rw[Kl f l vs aA8 (λi y u c d=>b (i+1) y u aC6 aD5)];simp
def Vu(P:Θ)(c:Nat)(F:Nat->ς)(w:φ):ResultVar->ς->Prop
 |.tmp t,v=>aU ⟨c,[],ι⟩ F (.tmp t)=v
 |.cell a t,v=>∃(b e:Nat) (cs:δ ς),aU ⟨c,[],ι⟩ F (.tmp a)=.pointer (θ ⟨b,0,ι⟩)/\w.heap[b]? =θ (.cells cs.toArray e (0,0))/\
   (((isAgg t).run P w=.ok μ w/\(Ο t).run P w=.ok (γ cs) w/\v=.agg cs.toArray)\/((isAgg t).run P w=.ok ν w/\cs=[v]))
def iE(tmps:Array ς):ResultVar->Sem ς
 |.tmp t=>pure (tmps.getD t undef)
 |.cell a t=>do loadVar t (<-asAddr (tmps.getD a undef))
variable{P:Θ}{b:Nat}{F:Nat->ς}{w:φ}{r:ResultVar}{v:ς}
theorem pg(h:Vu P b F w r v):(iE (fr ⟨b,[],ι⟩ F).tmps r).run P w=.ok v w:=by
 unfold iE;cases r with
 |tmp t=>have g:(bif iJ t b then F t else undef)=v:=h;simp only[Ee,g,Sem.run_pure]
 |cell a t=>
  obtain⟨d,e,cs,n,i,m⟩:=h;have g:(bif iJ a b then F a else undef)=.pointer _:=n;simp only[Ee,g,asAddr];rcases m with⟨f,o,rfl⟩|⟨f,rfl⟩
  ·have k:(loadCells ⟨d,0,ι⟩ (γ cs)).run P w=.ok cs.toArray w:=
    run_loadCells_list w _ cs λj u l=>by rw[AM,bib i,Ps];exact l
   simp[loadVar,f,o,k]
  ·have c:w.cell? ⟨d,0,ι⟩=θ v:=by rw[bib i];rfl
   simp[loadVar,f,c]
theorem qZ{P:Θ}{c:Nat}{F:Nat->ς}{w:φ}{fn:Func}(l:δ ResultVar)(vs:δ ς)(e:fn.results=l.toArray)(g:γ l=γ vs)
  (d:∀(i:Nat) x v,l[i]? =θ x->vs[i]? =θ v->Vu P c F w x v) (v:ς) (a:(match vs with|[u]=>u|b=>.tuple b.toArray)=v):
  (results fn (fr ⟨c,[],ι⟩ F).tmps).run P w=.ok v w:=by
 have f:=Kl (iE (fr ⟨c,[],ι⟩ F).tmps) l vs g (λi x v k j=>pg (d i x v k j));unfold results;rw[e];change Sem.run P (do let vs<-l.toArray.mapM (iE (fr _ F).tmps);pure (if h:vs.size=1 then vs[0]else .tuple vs)) w=_;simp;rw[f];subst a;cases vs with
 |nil=>simp
 |cons u b=>cases b with
  |nil=>simp
  |cons u' b=>simp
theorem Em{P:Θ}{ro:ε (ε Nat)}{b:Nat}{F:Nat->ς}{w:φ}{fn:Func}{R:ς->φ->Prop}(l:δ ResultVar)(vs:δ ς)(v:ς)(f:fn.results=l.toArray)(g:γ l=γ vs)
  (d:∀(i:Nat) (x:ResultVar) (v:ς),l[i]? =θ x->vs[i]? =θ v->Vu P b F w x v) (a:(match vs with|[u]=>u|c=>.tuple c.toArray)=v) (h:R v w):
  bodyPost P fn (λe w'=>∃v,e=.returned v/\R v w') .ret (fr ⟨b,[],ro⟩ F) w:=
 ⟨Τ,v,qZ l vs f g d v a,v,Τ,h⟩
theorem xT:∀(i:Nat) x v,[][i]? =θ x->[][i]? =θ v->Vu P b F w x v:=λi x v h=>by simp at h
theorem lD{l:δ ResultVar}{vs:δ ς}(c:Vu P b F w r v)
  (h:∀(i:Nat) x u,l[i]? =θ x->vs[i]? =θ u->Vu P b F w x u):∀(i:Nat) x u,(r::l)[i]? =θ x->(v::vs)[i]? =θ u->Vu P b F w x u
 |0,x,u,hx,a=>by simp at hx a;subst hx;subst a;exact c
 |i+1,x,u,hx,a=>h i x u aD7 aC1
variable{t:Nat}
theorem aux(h:aU ⟨b,[],ι⟩ F (.tmp t)=v):Vu P b F w (.tmp t) v:=h
variable{c:φ}{S:δ Nat}{L:δ cL}{e:Nat}
theorem Es(g:Hp c S L w)(k j a:Nat)(cs:δ ς)(d:L[k]? =θ (aX j cs a))(f:aU ⟨b,[],ι⟩ F (.tmp t)=.pointer (θ ⟨j,0,ι⟩))
  (i:(isAgg e).run P w=.ok μ w) (h:(Ο e).run P w=.ok (γ cs) w):Vu P b F w (.cell t e) (.agg cs.toArray):=⟨j,a,cs,f,g.bP k d,.inl ⟨i,h,Τ⟩⟩
theorem Xa(g:Hp c S L w)(k i a:Nat)(v:ς)(d:L[k]? =θ (aX i [v] a))(f:aU ⟨b,[],ι⟩ F (.tmp t)=.pointer (θ ⟨i,0,ι⟩))
  (h:(isAgg e).run P w=.ok ν w):Vu P b F w (.cell t e) v:=⟨i,a,[v],f,g.bP k d,.inr ⟨h,Τ⟩⟩
theorem Je{a:ε Ζ}(h:b=t):ξ a b e=ξ a t e:=by rw[h]
theorem oM{p:Prop}(h:p:=by first|rfl|(simp;done)|(simp;omega)|exact Je (by rw[bW];omega)):p:=h
def el{a:Type}[Inhabited a](l:δ a)(i:Int):a:=l.getD i.toNat default
theorem bgn{a:Type}(f:a->δ ς)(sz:Nat)(b:∀x,γ (f x)=sz):∀(l:δ a) i,(l.flatMap f).drop (i*sz)=(l.drop i).flatMap f
 |l,0=>by simp
 |[],i+1=>by simp
 |x::l,i+1=>by rw[List.drop_succ_cons,<-bgn f sz b l i,LX,Ie,<-AG];rw[<-b x];simp
variable{d:Type}
theorem Az[Inhabited d](f:d->δ ς)(sz:Nat)(c:∀x,γ (f x)=sz)(l:δ d)(i:Int)(a:0<=i/\i<γ l):((l.flatMap f).drop (i.toNat*sz)).take sz=f (el l i):=by have b:i.toNat<γ l:=aA0;rw[bgn f sz c,zbC b,wL];rw[show f (el l i)=f l[i.toNat]by simp[el,b]];rw[<-c l[i.toNat]];simp
theorem et[Inhabited d](f:d->δ ς)(sz k:Nat)(a:∀x,γ (f x)=sz)(l:δ d)(i:Int)(v:ς)(e:0<=i/\i<γ l)(c:k<sz)(b:(f (el l i))[k]? =θ v):(l.flatMap f)[i.toNat*sz+k]? =θ v:=by rw[<-Az f sz a l i e,bO,aB c,bV]at b;exact b
theorem er(f:d->δ ς)(sz:Nat)(c:∀x,γ (f x)=sz)(l:δ d):γ (l.flatMap f)=γ l*sz:=by
 induction l with
 |nil=>simp
 |cons x l b=>rw[wL,cR,b,c,dT,LX,Ie]
def eR(L:δ cL):δ Nat:=L.filterMap (·.own)
theorem bhm(h:b∈eR L):∃r∈L,r.own=θ b:=by obtain⟨r,a,e⟩:=List.mem_filterMap.1 h;exact⟨r,a,e⟩
theorem Hp.cM{w':φ}{L1 L2:δ cL}(h:Hp w S (L1++L2) c)(l:Hp c (eR L1) L w'):Hp w S (L++L2) w':=by
 have f:∀b,b∈eR L1->b<c.heap.size/\(w.heap.size<=b\/b∈S):=by intro b m;obtain⟨r,a,e⟩:=bhm m;exact(h.res r (aZ.2 (.inl a))).2 b e
 have d:=dO.1 h.sep;have g:∀r∈L2,∀b,r.own=θ b->b∉eR L1:=by intro r a b e m;obtain⟨q,t,e'⟩:=bhm m;exact d.2.2 q t r a b e' e
 refine⟨l.os.trans h.os,l.tape.trans h.tape,l.output.trans h.output,jZ h.size l.size,λk o p=> ?_,λr a=> ?_,?_⟩
 ·rw[l.below k (WY o h.size) (λu=> ?_)];exact h.below k o p;rcases(f k u).2 with i|i
  ·omega
  ·exact p i
 ·rcases aZ.1 a with a|a
  ·refine⟨(l.res r a).1,λb e=> ?_⟩;have:=(l.res r a).2 b e;refine⟨this.1,?_⟩;rcases this.2 with i|i
   ·exact .inl (jZ h.size i)
   ·exact(f b i).2
  ·have n:=aZ.2 (.inr a:r∈L1\/r∈L2);refine⟨cL.holds_of (h.res r n).1 λb e=>l.below b ((h.res r n).2 b e).1 (g r a b e),λb e=> ?_⟩;have:=(h.res r n).2 b e;exact⟨WY this.1 l.size,this.2⟩
 ·refine dO.2 ⟨l.sep,d.2.1,λr a r' j b e e'=> ?_⟩;have i:=(l.res r a).2 b e;have v:=(h.res r' (aZ.2 (.inr j))).2 b e';rcases i.2 with s|s
  ·omega
  ·exact g r' j b e' s
theorem Hp.front(h:Hp w S L c)(k:Nat)(r:cL)(a:L[k]? =θ r):Hp w S (r::L.eraseIdx k) c:=by
 refine h.perm ?_;clear h;induction L generalizing k with
 |nil=>simp at a
 |cons x L b=>
  cases k with
  |zero=>simp at a;subst a;simp
  |succ k=>exact(List.Perm.cons x (b k a)).trans (List.Perm.swap r x _)
theorem Hp.JR{L1 L2:δ cL}(h:Hp w S (L1++L2) c):Hp w S L1 c:=h.sub (List.sublist_append_left _ _)
theorem Hp.hand{L1 L2:δ cL}(h:Hp w S (L1++L2) c):Hp c (eR L1) L1 c:=
 ⟨Τ,Τ,Τ,dC _,λ_ _ _=>rfl,λr a=>by have:=h.res r (aZ.2 (.inl a));exact⟨this.1,λb e=>⟨(this.2 b e).1,.inr (List.mem_filterMap.2 ⟨r,a,e⟩)⟩⟩,(dO.1 h.sep).1⟩
variable{f:FuncId}{a:δ ς}
theorem sO(h:Calls P f a.toArray w λe w'=>e=.returned v/\RowKit.Below w.heap.size w w'):CR P f a w λu w'=>u=v/\Hp w [] [] w':=
 Calls.mono h λ_ _ ⟨e,g⟩=>⟨v,e,Τ,Hp.lI g⟩
theorem vh(h:Calls P f a.toArray w λe w'=>e=.returned v/\w'=w):CR P f a w λu w'=>u=v/\Hp w [] [] w':=
 Calls.mono h λ_ _ ⟨e,g⟩=>⟨v,e,Τ,g▸Hp.refl w⟩
theorem tj(k:Nat):Hp w [] [] (w.drewN k):=Hp.lI ⟨Τ,Τ,Τ,dC _,λ_ _=>rfl⟩
theorem uu(h:Calls P f a.toArray w λe w'=>e=.returned v/\∃k,w'=w.drewN k):CR P f a w λu w'=>u=v/\Hp w [] [] w':=
 Calls.mono h λ_ _ ⟨e,k,g⟩=>⟨v,e,Τ,g▸tj k⟩
def SF(b:Nat)(l:δ ζ)(pos:Nat):cL:=⟨θ b,λo=>o=θ (.stringIter ⟨l.toArray⟩ pos)⟩
theorem Hp.we(h:Hp w S L c)(l:δ ζ)(pos:Nat):Hp w S (SF c.heap.size l pos::L) (c.alloc (.stringIter ⟨l.toArray⟩ pos)):=by
 have e:Hp c [] [SF c.heap.size l pos] (c.alloc (.stringIter ⟨l.toArray⟩ pos)):=by
  refine⟨Τ,Τ,Τ,aA2,λk d _=>RowKit.Below.heap_alloc c _ k d,λr a=> ?_,aA2⟩;simp at a;subst a;refine⟨?_,λb g=> ?_⟩
  ·show(c.heap.push _)[c.heap.size]? =_;simp
  ·simp[SF]at g;subst g;simp
 exact h.kQ e
theorem Hp.setIt(h:Hp w S L c)(k b:Nat)(l:δ ζ)(pos a:Nat)(f:L[k]? =θ (SF b l pos)):
  Hp w S (L.set k (SF b l a)) {c with heap:=c.heap.setIfInBounds b (.stringIter ⟨l.toArray⟩ a)}:=by
 have g:=((h.res _ (aL f)).2 b Τ).1;refine h.change k _ _ f Τ Τ Τ aA2 (λj m d=> ?_) ?_ (λn i=> ?_)
 ·show(c.heap.setIfInBounds b _)[j]? =_;rw[Array.getElem?_setIfInBounds_ne (λe=>d (by rw[e];rfl))]
 ·show(c.heap.setIfInBounds b _)[b]? =_;simp[g]
 ·cases i;exact⟨.inl Τ,aE4⟩
section
variable{P:Θ}{n:Md}{Ω:Array Ι}{Q:Exit->Act->φ->Prop}{F:Nat->ς}{w:φ}
variable{d:Nat}{ty:Ε}{pos:String}{Ψ:Array Edge}{rest:δ Ι}
variable{x y:Β}{t a:Ε}
theorem xo(k:Δ)(j b:Int)(hx:aU n F x=.int k j)(f:aU n F y=.int k b)(h:0<=j)(i:0<b)(g:k.wrap (j/b)=j/b):
  (χ (aU n F) (⟨θ d,.binOp .quo t x y a,ty,pos,Ψ,ι⟩)).run P w=.ok (.value (.int k (j/b))) w:=by
 have e:j.tdiv b=j/b:=Int.tdiv_eq_ediv_of_nonneg h;have c:¬b=0:=aA0;simp[χ,hx,f,binOp,eqGuard,Op.intDiv,c,e,g]
theorem YD(k:Δ)(j b:Int)(hx:aU n F x=.int k j)(f:aU n F y=.int k b)(g:0<=j)(i:0<b)(h:k.wrap (j%b)=j%b):
  (χ (aU n F) (⟨θ d,.binOp .rem t x y a,ty,pos,Ψ,ι⟩)).run P w=.ok (.value (.int k (j%b))) w:=by
 have e:j.tmod b=j%b:=Int.tmod_eq_emod_of_nonneg g;have c:¬b=0:=aA0;simp[χ,hx,f,binOp,eqGuard,Op.intDiv,c,e]
theorem xx(k:Δ)(i b:Int)(hx:aU n F x=.int k i)(c:aU n F y=.int k b)(g:0<=i)(f:0<b)(e:k.wrap (i%b)=i%b)(h:W P n Ω Q rest (cY F d (.int k (i%b))) w):W P n Ω Q (⟨θ d,.binOp .rem t x y a,ty,pos,Ψ,ι⟩::rest) F w:=
 dY Τ Τ (YD k i b hx c g f e) h
def fM(k:Δ)(a b:Int):Int:=k.wrap ((BitVec.ofInt k.bits a&&&BitVec.ofInt k.bits b).toNat)
def Pv(k:Δ)(a b:Int):Int:=k.wrap ((BitVec.ofInt k.bits a|||BitVec.ofInt k.bits b).toNat)
theorem AS(k:Δ)(e b:Int)(hx:aU n F x=.int k e)(c:aU n F y=.int k b):(χ (aU n F) (⟨θ d,.binOp .and t x y a,ty,pos,Ψ,ι⟩)).run P w=.ok (.value (.int k (fM k e b))) w:=by simp only[χ,hx,c,binOp,QU];rfl
theorem MT(k:Δ)(e b:Int)(hx:aU n F x=.int k e)(c:aU n F y=.int k b)(h:W P n Ω Q rest (cY F d (.int k (fM k e b))) w):W P n Ω Q (⟨θ d,.binOp .and t x y a,ty,pos,Ψ,ι⟩::rest) F w:=
 dY Τ Τ (AS k e b hx c) h
theorem QY(k:Δ)(e b:Int)(hx:aU n F x=.int k e)(c:aU n F y=.int k b):(χ (aU n F) (⟨θ d,.binOp .or t x y a,ty,pos,Ψ,ι⟩)).run P w=.ok (.value (.int k (Pv k e b))) w:=by simp only[χ,hx,c,binOp,QU];rfl
theorem w_or(k:Δ)(e b:Int)(hx:aU n F x=.int k e)(c:aU n F y=.int k b)(h:W P n Ω Q rest (cY F d (.int k (Pv k e b))) w):W P n Ω Q (⟨θ d,.binOp .or t x y a,ty,pos,Ψ,ι⟩::rest) F w:=
 dY Τ Τ (QY k e b hx c) h
def cU(k:Δ)(a b:Int):Int:=k.wrap ((BitVec.ofInt k.bits a^^^BitVec.ofInt k.bits b).toNat)
theorem xl(k:Δ)(e b:Int)(hx:aU n F x=.int k e)(c:aU n F y=.int k b):(χ (aU n F) (⟨θ d,.binOp .xor t x y a,ty,pos,Ψ,ι⟩)).run P w=.ok (.value (.int k (k.wrap ((BitVec.ofInt k.bits e^^^BitVec.ofInt k.bits b).toNat)))) w:=by simp only[χ,hx,c,binOp,QU];rfl
theorem Ji(k k':Δ)(h b p:Int)(hx:aU n F x=.int k h)(c:aU n F y=.int k' b)(g:0<=b)(e:2^(min b.toNat k.bits)=p):(χ (aU n F) (⟨θ d,.binOp .shl t x y a,ty,pos,Ψ,ι⟩)).run P w=.ok (.value (.int k (k.wrap (h*p)))) w:=by have f:¬b<0:=aA0;rw[<-e];simp[χ,hx,c,binOp,eqGuard,Op.shift,f]
theorem w_shl(k k':Δ)(g b p:Int)(hx:aU n F x=.int k g)(c:aU n F y=.int k' b)(f:0<=b)(e:2^(min b.toNat k.bits)=p)(h:W P n Ω Q rest (cY F d (.int k (k.wrap (g*p)))) w):W P n Ω Q (⟨θ d,.binOp .shl t x y a,ty,pos,Ψ,ι⟩::rest) F w:=
 dY Τ Τ (Ji k k' g b p hx c f e) h
theorem ME(k k':Δ)(j b p:Int)(hx:aU n F x=.int k j)(c:aU n F y=.int k' b)(i:0<=b)(g:2^(min b.toNat k.bits)=p)(f:0<p):(χ (aU n F) (⟨θ d,.binOp .shr t x y a,ty,pos,Ψ,ι⟩)).run P w=.ok (.value (.int k (j/p))) w:=by have h:¬b<0:=aA0;have e:j.fdiv p=j/p:=Int.fdiv_eq_ediv_of_nonneg _ aA0;rw[<-e,<-g];simp[χ,hx,c,binOp,eqGuard,Op.shift,h]
theorem AX(k k':Δ)(i b p:Int)(hx:aU n F x=.int k i)(e:aU n F y=.int k' b)(g:0<=b)(f:2^(min b.toNat k.bits)=p)(c:0<p)(h:W P n Ω Q rest (cY F d (.int k (i/p))) w):W P n Ω Q (⟨θ d,.binOp .shr t x y a,ty,pos,Ψ,ι⟩::rest) F w:=
 dY Τ Τ (ME k k' i b p hx e g f c) h
theorem HO(g:ε Ζ)(m c e:Nat)(f:P.underlying t=θ (.slice e))(hx:aU n F x=.slice g m c)(b:aU n F y=.slice ι 0 0):(χ (aU n F) (⟨θ d,.binOp .eql t x y a,ty,pos,Ψ,ι⟩)).run P w=.ok (.value (.bool g.isNone)) w:=by
 have e:(binOp .eql t (.slice g m c) (.slice ι 0 0)).run P w=.ok (.bool g.isNone) w:=by simp only[binOp];simp[run_equal_slice_nil w t e g m c f]
 simp[χ,hx,b,eqGuard,e]
theorem Wc(g:ε Ζ)(m c e:Nat)(f:P.underlying t=θ (.slice e))(hx:aU n F x=.slice g m c)(b:aU n F y=.slice ι 0 0)(h:W P n Ω Q rest (cY F d (.bool g.isNone)) w):W P n Ω Q (⟨θ d,.binOp .eql t x y a,ty,pos,Ψ,ι⟩::rest) F w:=
 dY Τ Τ (HO g m c e f hx b) h
theorem Rm(p:Ζ)(k e sz:Nat)(q:Δ)(i:Int)(c:P.underlying t=θ (.array k e))(f:(Ο e).run P w=.ok sz w)(hx:aU n F x=.pointer (θ p))(g:aU n F y=.int q i)
  (b:0<=i/\i<k) (h:2<=k):(χ (aU n F) (⟨θ d,.indexAddr t x y,ty,pos,Ψ,ι⟩)).run P w=.ok (.value (.pointer (θ (ea (θ p) (i.toNat*sz))))) w:=by
 simp[χ,hx,g,Instr.indexAt,Instr.sureAddr,asIntOf,run_underlying c,f,b.1,b.2,ea]
theorem oA(p:Ζ)(k e sz:Nat)(q:Δ)(i:Int)(b:P.underlying t=θ (.array k e))(c:(Ο e).run P w=.ok sz w)(hx:aU n F x=.pointer (θ p))(g:aU n F y=.int q i)
  (j:0<=i/\i<(k:Int)) (f:2<=k) (h:W P n Ω Q rest (cY F d (.pointer (θ (ea (θ p) (i.toNat*sz))))) w):W P n Ω Q (⟨θ d,.indexAddr t x y,ty,pos,Ψ,ι⟩::rest) F w:=
 dY Τ Τ (Rm p k e sz q i b c hx g j f) h
variable{b:φ}{S:δ Nat}{L:δ cL}
theorem MP(c:Hp b S L w)(l:δ ζ)(a:P.underlying t=θ .string)(hx:aU n F x=str l)
  (h:∀e w',Hp b S (SF e l 0::L) w'->W P n Ω Q rest (cY F d (.pointer (θ ⟨e,0,ι⟩))) w'):W P n Ω Q (⟨θ d,.range t x,ty,pos,Ψ,ι⟩::rest) F w:=by
 refine dY (v:=.pointer (θ ⟨w.heap.size,0,ι⟩)) (w':=w.alloc (.stringIter ⟨l.toArray⟩ 0)) Τ Τ ?_ (h _ _ (c.we l 0));simp[χ,hx,str,Instr.range,run_underlying a]
theorem Wd(h:Hp b S L w)(k q:Nat)(l:δ ζ)(p:Nat)(e:L[k]? =θ (SF q l p))(hx:aU n F x=.pointer (θ ⟨q,0,ι⟩))
  (m:p<γ l->∀w',Hp b S (L.set k (SF q l (p+(Utf8.decode ⟨l.toArray⟩ p).2))) w'->W P n Ω Q rest (cY F d (.tuple #[.bool μ,.int .i64 p,.int .i32 ((Utf8.decode ⟨l.toArray⟩ p).1)])) w')
  (j:¬p<γ l->W P n Ω Q rest (cY F d (.tuple #[.bool ν])) w):W P n Ω Q (⟨θ d,.next x μ,ty,pos,Ψ,ι⟩::rest) F w:=by
 have g:w.heap[q]? =θ _:=(h.res _ (aL e)).1;have f:(getObj q).run P w=.ok (.stringIter ⟨l.toArray⟩ p) w:=by simp[getObj,Sem.run,g]
 have i:∀o,(setObj q o).run P w=.ok () {w with heap:=w.heap.setIfInBounds q o}:=λo=>by simp[setObj,Sem.run,g]
 by_cases c:p<γ l
 ·have a:p<(⟨l.toArray⟩:ByteArray).size:=c;refine dY (v:=.tuple #[.bool μ,.int .i64 (p:Int),.int .i32 ((Utf8.decode ⟨l.toArray⟩ p).1:Int)]) (w':={w with heap:=w.heap.setIfInBounds q (.stringIter ⟨l.toArray⟩ (p+(Utf8.decode _ p).2))}) Τ Τ ?_ (m c _ (h.setIt k q l p _ e));simp[χ,hx,Instr.next,f,i,a,goInt]
 ·have a:¬p<(⟨l.toArray⟩:ByteArray).size:=c;refine dY (v:=.tuple #[.bool ν]) (w':=w) Τ Τ ?_ (j c);simp[χ,hx,Instr.next,f,a]
theorem Ry(k k':Δ)(s:Int)(c:P.underlying t=θ (.int k'))(b:P.underlying a=θ .string)(hx:aU n F x=.int k s):(χ (aU n F) (⟨θ d,.convert t a x,ty,pos,Ψ,ι⟩)).run P w=.ok (.value (str (Γ s).data.toList)) w:=by simp[χ,hx,convert,run_underlying c,run_underlying b,Conv.intToString,str]
theorem RC(k k':Δ)(s:Int)(c:P.underlying t=θ (.int k'))(b:P.underlying a=θ .string)(hx:aU n F x=.int k s)(h:W P n Ω Q rest (cY F d (str (Γ s).data.toList)) w):W P n Ω Q (⟨θ d,.convert t a x,ty,pos,Ψ,ι⟩::rest) F w:=
 dY Τ Τ (Ry k k' s c b hx) h
end
open Go.IntKind renaming wrap → fD
open Go.Value renaming ownBlock → Gi
open UInt8 renaming ofNat → Fc
abbrev aC:=δ ζ
abbrev PQ:=aC×aC×η
abbrev LQ:=δ PQ
abbrev UQ:=aC×aC×aC×Int×LQ×LQ
abbrev AQ:=aC×UQ×LQ
def gd{α:Type}(p:Prop)[Decidable p](k:ε α):ε α:=if p then k else ι
variable{a:Type}{p:Prop}{k:ε a}{r:a}
theorem ee[Decidable p](h:gd p k=θ r):p/\k=θ r:=by
 unfold gd at h;split at h
 ·exact⟨by assumption,h⟩
 ·cases h
theorem aV{α:Type}{p:Prop}[Decidable p]{k:ε α}(h:p):gd p k=k:=aB h
theorem Bf{α:Type}{f:a->ε α}{r:α}(h:k.bind f=θ r):∃y,k=θ y/\f y=θ r:=by
 cases k with
 |none=>cases h
 |some y=>exact⟨y,Τ,h⟩
variable{i j:a}
theorem UK[Decidable p](h:p)(e:(if p then r else i)=j):r=j:=by rw[<-e,aB h]
theorem UL[Decidable p](h:¬p)(e:(if p then r else i)=j):i=j:=by rw[<-e,aA h]
variable{d:η}
theorem cft(h:d=μ)(e:cond d r i=j):r=j:=by rw[<-e,h];rfl
theorem cff(h:d=ν)(e:cond d r i=j):i=j:=by rw[<-e,h];rfl
def dMk(b:Nat):(c:Int)->Decidable (0<=c/\b*c<=281474976710656)
 |.ofNat n=>match h:Nat.ble (b*n) 281474976710656 with
  |true=>.isTrue ⟨Pr n,by have d:=Rx h;have a:((b*n:Nat))<=(281474976710656:Int):=Int.ofNat_le.2 d;rw[Int.natCast_mul]at a;exact a⟩
  |false=>.isFalse λ⟨_,a⟩=>by
   have e:((b*n:Nat))<=(281474976710656:Int):=by rw[Int.natCast_mul];exact a
   rw[Nat.ble_eq_true_of_le (Int.ofNat_le.1 e)]at h;cases h
 |.negSucc n=>.isFalse λ⟨d,_⟩=>absurd d aA0
instance instOk64:(a:Int)->Decidable (bK a)
 |.ofNat n=>if h:Nat.ble n 9223372036854775807=μ then .isTrue (show bK (n:Int)from⟨aA0,by have:=Rx h;omega⟩)else .isFalse λq=>h (Nat.ble_eq▸(by have:(n:Int)<=9223372036854775807:=q.hi;omega))
 |.negSucc n=>if h:Nat.ble n 9223372036854775807=μ then .isTrue ⟨by have:=Rx h;rw[Int.negSucc_eq];omega,by rw[Int.negSucc_eq];omega⟩else .isFalse λq=>h (Nat.ble_eq▸(by have:=q.lo;rw[Int.negSucc_eq]at this;omega))
structure kZ {α:Type} (f:α->List ς) (sz:Nat):Prop where
 len:∀x,γ (f x)=sz
 one:∀x,∀v∈f x,v.oneCell'=μ
def eS(s:aC):δ ς:=[str s]
def eB(c:ζ):δ ς:=[bt c]
def eI(k:Δ)(i:Int):δ ς:=[.int k i]
theorem Zl:kZ eS 1:=⟨λ_=>rfl,λx v h=>by simp[eS]at h;subst h;rfl⟩
theorem Bw:kZ eB 1:=⟨λ_=>rfl,λx v h=>by simp[eB]at h;subst h;rfl⟩
theorem enc_I(k:Δ):kZ (eI k) 1:=⟨λ_=>rfl,λx v h=>by simp[eI]at h;subst h;rfl⟩
theorem Ay(l:δ ζ):l.flatMap eB=l.map bt:=by induction l with
 |nil=>rfl
 |cons c l a=>rw[wL,a];rfl
variable{f:a->δ ς}{e:Nat}
theorem kZ.flat(h:kZ f e)(l:δ a):γ (l.flatMap f)=γ l*e:=er f e h.len l
theorem kZ.cells(h:kZ f e)(l:δ a):∀v∈l.flatMap f,v.oneCell'=μ:=by intro v α;obtain⟨x,_,hx⟩:=List.mem_flatMap.1 α;exact h.one x v hx
def bN(f:a->δ ς)(e sz:Nat)(o:ε Nat)(α:ε Ζ)(cap:Nat)(l:δ a):cL:=
 ⟨o,λob=>(o=ι/\l=[]/\cap=0/\α=ι)\/
  ∃g b,o=θ g/\α=θ ⟨g,0,ι⟩/\ob=θ (.cells b e (0,0))/\γ l<=cap/\cap<=maxLen/\b.size=cap*sz/\b.toList.take (γ l*sz)=l.flatMap f⟩
variable{c w:φ}{S:δ Nat}{L:δ cL}
theorem Hp.lK(h:Hp c S L w)(f:a->δ ς)(e sz:Nat)(m:ε Ζ):Hp c S (bN f e sz ι ι 0 []::L) w:=by
 refine⟨h.os,h.tape,h.output,h.size,h.below,λr α=> ?_,?_⟩
 ·rcases aQ.1 α with rfl|α
  ·exact⟨.inl ⟨Τ,Τ,Τ,Τ⟩,λb d=>by simp[bN]at d⟩
  ·exact h.res r α
 ·refine List.Pairwise.cons (λr _ b d=>by simp[bN]at d) h.sep
variable{g h:Nat}{o:ε Nat}{b:ε Ζ}{l:δ a}
theorem Hp.cP(s:Hp c S L w)(k:Nat)(p:L[k]? =θ (bN f e g o b h l)):Rd w b (l.flatMap f):=by
 obtain⟨r,_⟩:=s.res _ (aL p);rcases r with⟨_,rfl,_⟩|⟨α,m,n,rfl,d,_,_,_,t⟩
 ·exact Rd.nil _ _
 ·intro j v u;refine⟨_,Τ,?_⟩;rw[AM];have q:w.heap[α]? =θ (.cells m e (0,0)):=by have i:=n;subst i;simpa [bN] using d
  simp only[World.cell?,q];rw[<-t,bO]at u;split at u
  ·simpa using u
  ·cases u
theorem Hp.ND{α:Nat}(x:Hp c S L w)(s:kZ f g)(k:Nat)(o:L[k]? =θ (bN f e g (θ α) b h l)):
  b=θ ⟨α,0,ι⟩/\Hp c S (L.set k (row (.slice b (γ l) h) e g (γ l) (l.flatMap f))) w:=by
 obtain⟨u,t⟩:=x.res _ (aL o);rcases u with⟨r,_⟩|⟨v,n,q,rfl,d,m,j,i,y⟩
 ·cases r
 ·cases q;refine⟨Τ,x.change k _ _ o Τ Τ Τ (dC _) (λ_ _ _=>rfl) ?_ ?_⟩
  ·exact⟨s.flat l,.inr ⟨α,h,n,Τ,d,m,j,i,y⟩⟩
  ·intro z p;simp[row,Gi]at p;subst p;exact⟨.inl Τ,(t α Τ).1⟩
theorem Hp.Sw{l:δ a}(z:Hp c S L w)(k:Nat)(j:L[k]? =θ (row (.slice b (γ l) h) e g (γ l) (l.flatMap f))):
  ∃o,Hp c S (L.set k (bN f e g o b h l)) w:=by
 obtain⟨x,v⟩:=z.res _ (aL j);obtain⟨y,s⟩:=x;rcases s with⟨A,u⟩|⟨α,r,q,A,t,p,n,m,i⟩
 ·simp at A;obtain⟨rfl,-,rfl⟩:=A;refine⟨ι,z.change k _ _ j Τ Τ Τ (dC _) (λ_ _ _=>rfl) (.inl ⟨Τ,Gh u,Τ,Τ⟩) (λB d=>by simp[bN]at d)⟩
 ·simp at A;obtain⟨rfl,-,rfl⟩:=A;refine⟨θ α,z.change k _ _ j Τ Τ Τ (dC _) (λ_ _ _=>rfl) (.inr ⟨α,q,Τ,Τ,t,p,n,m,i⟩) (λB d=> ?_)⟩;simp[bN]at d;subst d;exact⟨.inl (by simp[row,Gi]),(v α (by simp[row,Gi])).1⟩
theorem Hp.Ol{cs:δ ς}(h:Hp c S L w)(k sz m:Nat)(l:δ a)(d:L[k]? =θ (aX e cs g))(i:kZ f sz)(b:l.flatMap f=cs)(n:γ l=m)(j:m<=maxLen):
  Hp c S (L.set k (bN f g sz (θ e) (θ ⟨e,0,ι⟩) m l)) w:=by
 have α:=h.bP k d;subst b;subst n;refine h.change k _ _ d Τ Τ Τ (dC _) (λ_ _ _=>rfl) ?_ ?_
 ·exact .inr ⟨e,_,Τ,Τ,α,dC _,j,by simpa using i.flat l,by rw[<-i.flat l];exact iA⟩
 ·intro b' q;simp[bN]at q;subst q;exact⟨.inl Τ,(bY.1 α).1⟩
theorem Hp.cuts(x:Hp c S L w)(s:kZ f g)(k:Nat)(p:L[k]? =θ (bN f e g o b h l))(m:Nat):
  Hp c S (L.set k (bN f e g o b h (l.take m))) w:=by
 obtain⟨u,t⟩:=x.res _ (aL p);refine x.change k _ _ p Τ Τ Τ (dC _) (λ_ _ _=>rfl) ?_ (λz q=>⟨.inl q,(t z q).1⟩);rcases u with⟨rfl,rfl,rfl,rfl⟩|⟨α,n,rfl,rfl,d,r,j,i,y⟩
 ·exact .inl ⟨Τ,aA2,Τ,Τ⟩
 ·refine .inr ⟨α,n,Τ,Τ,d,by simp;omega,j,i,?_⟩;have v:(l.take m).flatMap f=(l.flatMap f).take (γ (l.take m)*g):=by have:l.flatMap f=(l.take m).flatMap f++(l.drop m).flatMap f:=aE9;rw[this,<-s.flat (l.take m),XA]
  rw[v,<-y,hZ,XX (HA _ aA3)]
section
variable{P:Θ}{n:Md}{Ω:Array Ι}{Q:Exit->Act->φ->Prop}{F:Nat->ς}{w w0:φ}{S:δ Nat}{L:δ cL}
variable{d:Nat}{ty:Ε}{pos:String}{Ψ:Array Edge}{rest:δ Ι}{α:Type}{f:α->δ ς}
theorem LH{a:Type}(l:δ a)(k:Nat)(x y:a):(l.set k x).set k y=l.set k y:=aA2
variable{x y:Β}{t:Ε}
theorem GF(hH:Hp w0 S L w)(k:Nat)(o:ε Nat)(a E:ε Ζ)(cap cx e sz s:Nat)(l c:δ α)(C:kZ f sz)(N:L[k]? =θ (bN f e sz o a cap l))(M:P.underlying t=θ (.slice e))(Z:TI P e sz s)(dR:0<sz)(a5:0<s)
  (hx:aU n F x=.slice a (γ l) cap) (X:aU n F y=.slice E (γ c) cx) (V:Rd w E (c.flatMap f)) (J:(γ l+γ c)*s<=140737488355328)
  (h:∀o' a' cap' w',Hp w0 S (L.set k (bN f e sz o' a' cap' (l++c))) w'->W P n Ω Q rest (cY F d (.slice a' (γ (l++c)) cap')) w'):
  W P n Ω Q (⟨θ d,.call ⟨.builtin .append,#[x,y],#[t,t]⟩,ty,pos,Ψ,ι⟩::rest) F w:=by
 have B:γ l+γ c<=9223372036854775807:=by have:γ l+γ c<=(γ l+γ c)*s:=GP _ a5;omega
 have K:∀a' cap' w',Hp w0 S (L.set k (row (.slice a' (γ l+γ c) cap') e sz (γ l+γ c) (l.flatMap f++c.flatMap f))) w'->W P n Ω Q rest (cY F d (.slice a' (γ l+γ c) cap')) w':=by intro a' cap' w' O;rw[<-cR,<-GZ]at O;rw[<-cR];have m:=(aE.1 N).1;obtain⟨o',r⟩:=O.Sw k (bE m);rw[LH]at r;exact h o' a' cap' w' r
 have m:=(aE.1 N).1;cases o with
 |some g=>obtain⟨rfl,O⟩:=hH.ND C k N;refine BA O k _ E (γ l) cap (γ c) cx e sz s _ _ (bE m) M Z dR hx X V (C.flat c) (C.cells c) J B ?_;intro a' cap' w' r;rw[LH]at r;exact K a' cap' w' r
 |none=>
  obtain⟨O,_⟩:=hH.res _ (aL N);have a8:l=[]/\cap=0:=by
   rcases O with⟨_,r,h3,_⟩|⟨g,c0,r,_⟩
   ·exact⟨r,h3⟩
   ·cases r
  obtain⟨rfl,rfl⟩:=a8;have v:Hp w0 S (L.set k (row _ e sz 0 [])) w:=hH.change k _ _ N Τ Τ Τ (dC _) (λ_ _ _=>rfl) ⟨aA2,.inl ⟨Τ,Τ⟩⟩ (λb J=>by simp[row,Gi]at J);cases a with
  |none=>refine BA v k ι E 0 0 (γ c) cx e sz s [] _ (bE m) M Z dR hx X V (C.flat c) (C.cells c) (by simpa using J) (by simpa using B) ?_;intro a' cap' w' r;rw[LH]at r;exact K a' cap' w' (by simpa using r)
  |some p=>
   obtain⟨i,z,hi,hz,hs,a6,b2⟩:=Z.parts;subst hs;subst a6;by_cases hm:c=[]
   ·subst hm;have D:(Builtin.firstCells i.size 0 (.slice E 0 cx)).run P w=.ok #[] w:=by
     cases E with
     |none=>simp[Builtin.firstCells]
     |some p=>simp[Builtin.firstCells,loadCells,loadCellsFrom]
    have R:(Builtin.append_ #[t,t] ty #[.slice (θ p) 0 0,.slice E 0 cx]).run P w=.ok (.slice (θ p) 0 0) w:=by simp[Builtin.append_,run_underlying M,Ο,typeInfo,hi,Builtin.lenOf,D,storeCells]
    refine dY (w':=w) Τ Τ ?_ (h ι (θ p) 0 w ?_)
    ·have a1:=X;have G:=hx;simp[χ,resolve,invoke,builtin,G,a1,R]
    ·have e:L.set k (bN f e i.size ι (θ p) 0 ([]++[]))=L:=by
      apply cI;intro j;by_cases U:j=k
      ·subst U;simp[m];have:=N;rw[aN m]at this;exact(aP this).symm
      ·rw[gF (λe=>U e.symm)]
     rw[e];exact hH
   ·have T:=cA.2 hm;cases E with
    |none=>
     have:c.flatMap f=[]:=by
      cases Y:c.flatMap f with
      |nil=>rfl
      |cons u us=>obtain⟨p,hp,_⟩:=V 0 u (by rw[Y];rfl);cases hp
     have:=C.flat c;rename_i h0;rw[h0]at this;have:=ko T dR;simp at*
     omega
    |some q=>
     have A:∀j u,(c.flatMap f)[j]? =θ u->w.cell? (q.add j)=θ u:=by intro j u hu;obtain⟨q',Y,hc⟩:=V j u hu;simp at Y;subst Y;exact hc
     have I:=run_append_grow w t ty e i z M hi hz p 0 0 [] aA2 (λj u hu=>by simp at hu) q (γ c) cx _ (C.flat c) A aA0 (by simp at B⊢;omega) (growslice_fits aA0 (by simpa using J));have a4:=run_append_nil w t ty e i z M hi hz q (γ c) cx _ (C.flat c) A aA0 (by simp at B⊢;omega) (by simp at J;omega);have H:(Builtin.append_ #[t,t] ty #[.slice (θ p) 0 0,.slice (θ q) (γ c) cx]).run P w=(Builtin.append_ #[t,t] ty #[.slice ι 0 0,.slice (θ q) (γ c) cx]).run P w:=by rw[a4,I];simp
     obtain⟨a',cap',w',hr,ho,hg,hn⟩:=NF t M Z dR (v.ownsRow (bE m)) V (C.flat c) (C.cells c) (by unfold maxLen;simp at B⊢;omega) (by simpa using J);have r:=v.grown (bE m) hg ho hn;rw[LH]at r;have h3:=K a' cap' w' (by simpa using r);refine dY (w':=w') Τ Τ ?_ (by simpa using h3);have G:=hx;rw[<-H]at hr;simp[χ,resolve,invoke,builtin,G,X,hr]
theorem MQ(s:Hp w0 S L w)(e sz b:Nat)(kl i:Δ)(c:Int)(m:P.underlying t=θ (.slice e))(r:TI P e sz b)(q:0<b)(hx:aU n F x=.int kl 0)(k:aU n F y=.int i c)
  (g:0<=c/\b*c<=281474976710656)
  (h:∀o a cap w',Hp w0 S (bN f e sz o a cap []::L) w'->W P n Ω Q rest (cY F d (.slice a 0 cap)) w'):
  W P n Ω Q (⟨θ d,.makeSlice t x y,ty,pos,Ψ,ι⟩::rest) F w:=by
 have p:c<=9223372036854775807:=by have j:1*c<=b*c:=Int.mul_le_mul_of_nonneg_right aA0 g.1;omega
 refine my s e sz b kl i c m r hx k g.1 g.2 p ?_;intro a cap w' j;obtain⟨o,u⟩:=j.Sw (l:=[]) 0 Τ;exact h o a cap w' u
theorem MI(a:ε Ζ)(m c e sz:Nat)(q:Δ)(i:Int)(g:P.underlying t=θ (.slice e))(h:(Ο e).run P w=.ok sz w)(hx:aU n F x=.slice a m c)(k:aU n F y=.int q i)
  (l:δ α) (j:m=γ l) (o:0<=i/\i<γ l) (p:Rd w a (l.flatMap f)) (r:kZ f sz) (dR:0<sz):
  (χ (aU n F) (⟨θ d,.indexAddr t x y,ty,pos,Ψ,ι⟩)).run P w=.ok (.value (.pointer (θ (ea a (i.toNat*sz))))) w:=by
 subst j;refine YJ a (γ l) c e sz q i g h hx k o (p.some_ ?_);rw[r.flat];exact ko aA0 dR
theorem Pw(a:ε Ζ)(m c e sz:Nat)(q:Δ)(i:Int)(g:P.underlying t=θ (.slice e))(j:(Ο e).run P w=.ok sz w)(hx:aU n F x=.slice a m c)(o:aU n F y=.int q i)
  (l:δ α) (k:m=γ l) (p:0<=i/\i<γ l) (r:Rd w a (l.flatMap f)) (s:kZ f sz) (dR:0<sz) (h:W P n Ω Q rest (cY F d (.pointer (θ (ea a (i.toNat*sz))))) w):
  W P n Ω Q (⟨θ d,.indexAddr t x y,ty,pos,Ψ,ι⟩::rest) F w:=dY Τ Τ (MI a m c e sz q i g j hx o l k p r s dR) h
theorem x_ldE[Inhabited α](a:ε Ζ)(f:α->δ ς)(l:δ α)(sz:Nat)(i:Int)(c:kZ f sz)(j:Rd w a (l.flatMap f))(vs:δ ς)(g:0<=i/\i<(γ l:Int))(b:f (el l i)=vs)
  (hx:aU n F x=.pointer (θ (ea a (i.toNat*sz)))) (h:(isAgg t).run P w=.ok μ w) (e:(Ο t).run P w=.ok sz w) (dR:0<sz):
  (χ (aU n F) (⟨θ d,.load t x,ty,pos,Ψ,ι⟩:Ι)).run P w=.ok (.value (.agg vs.toArray)) w:=
 xm a _ vs _ sz j (by rw[Az f sz c.len l i g,b]) (by rw[<-b];exact c.len _) dR hx h e
theorem AZ[Inhabited α](a:ε Ζ)(f:α->δ ς)(l:δ α)(sz:Nat)(i:Int)(k:kZ f sz)(j:Rd w a (l.flatMap f))(vs:δ ς)(e:0<=i/\i<γ l)(b:f (el l i)=vs)
  (hx:aU n F x=.pointer (θ (ea a (i.toNat*sz)))) (g:(isAgg t).run P w=.ok μ w) (c:(Ο t).run P w=.ok sz w) (dR:0<sz) (h:W P n Ω Q rest (cY F d (.agg vs.toArray)) w):
  W P n Ω Q (⟨θ d,.load t x,ty,pos,Ψ,ι⟩::rest) F w:=dY Τ Τ (x_ldE a f l sz i k j vs e b hx g c dR) h
theorem MH[Inhabited α](a:ε Ζ)(f:α->δ ς)(l:δ α)(sz:Nat)(i:Int)(off:Nat)(j:kZ f sz)(h:Rd w a (l.flatMap f))(v:ς)(e:0<=i/\i<(γ l:Int))(c:off<sz)(b:(f (el l i))[off]? =θ v)
  (hx:aU n F x=.pointer (θ (ea a (i.toNat*sz+off)))) (g:(isAgg t).run P w=.ok ν w):
  (χ (aU n F) (⟨θ d,.load t x,ty,pos,Ψ,ι⟩:Ι)).run P w=.ok (.value v) w:=
 xn a _ _ v h (et f sz off j.len l i v e c b) hx g
theorem w_ldF[Inhabited α](a:ε Ζ)(f:α->δ ς)(l:δ α)(sz:Nat)(i:Int)(off:Nat)(k:kZ f sz)(j:Rd w a (l.flatMap f))(v:ς)(e:0<=i/\i<γ l)(c:off<sz)(b:(f (el l i))[off]? =θ v)
  (hx:aU n F x=.pointer (θ (ea a (i.toNat*sz+off)))) (g:(isAgg t).run P w=.ok ν w) (h:W P n Ω Q rest (cY F d v) w):
  W P n Ω Q (⟨θ d,.load t x,ty,pos,Ψ,ι⟩::rest) F w:=dY Τ Τ (MH a f l sz i off k j v e c b hx g) h
theorem HQ[Inhabited α](a:ε Ζ)(f:α->δ ς)(l:δ α)(sz:Nat)(i:Int)(j:kZ f sz)(h:Rd w a (l.flatMap f))(v:ς)(e:0<=i/\i<γ l)(c:0<sz)(b:(f (el l i))[0]? =θ v)
  (hx:aU n F x=.pointer (θ (ea a (i.toNat*sz)))) (g:(isAgg t).run P w=.ok ν w):
  (χ (aU n F) (⟨θ d,.load t x,ty,pos,Ψ,ι⟩)).run P w=.ok (.value v) w:=MH a f l sz i 0 j h v e c b hx g
theorem jG[Inhabited α](a:ε Ζ)(f:α->δ ς)(l:δ α)(sz:Nat)(i:Int)(k:kZ f sz)(j:Rd w a (l.flatMap f))(v:ς)(e:0<=i/\i<γ l)(c:0<sz)(b:(f (el l i))[0]? =θ v)
  (hx:aU n F x=.pointer (θ (ea a (i.toNat*sz)))) (g:(isAgg t).run P w=.ok ν w) (h:W P n Ω Q rest (cY F d v) w):
  W P n Ω Q (⟨θ d,.load t x,ty,pos,Ψ,ι⟩::rest) F w:=dY Τ Τ (HQ a f l sz i k j v e c b hx g) h
theorem Fx(sz:Nat)(a:kZ f sz):∀(l:δ α) j y,j<γ l->iU (l.flatMap f) (j*sz) (f y)=(l.set j y).flatMap f
 |[],j,y,h=>by simp at h
 |x::l,0,y,h=>by unfold iU;simp only[Nat.zero_mul,tN,yL,Ps,List.set_cons_zero,wL,a.len];rw[<-a.len x,Pp]
 |x::l,j+1,y,h=>by have b:=Fx sz a l j y aA8;unfold iU at*;simp only[List.set_cons_succ,wL,<-b];rw[LX,Ie _ sz,Cb sz,<-a.len x,List.take_length_add_append];simp
theorem Hp.yj{k e sz cap j:Nat}{o:ε Nat}{a:ε Ζ}{l:δ α}{y:α}(s:Hp w0 S L w)(d:kZ f sz)(dR:0<sz)(n:L[k]? =θ (bN f e sz o a cap l))(h:j<γ l):
  ∃w',(storeCells (ea a (j*sz)) (f y)).run P w=.ok () w'/\Hp w0 S (L.set k (bN f e sz o a cap (l.set j y))) w':=by
 cases o with
 |none=>
  obtain⟨q,_⟩:=s.res _ (aL n);rcases q with⟨_,c,_⟩|⟨g,r,c,_⟩
  ·subst c;simp at h
  ·cases c
 |some g=>
  obtain⟨rfl,q⟩:=s.ND d k n;have b:=(aE.1 n).1;have p:j*sz+sz<=γ l*sz:=by rw[<-LX];exact HA _ h
  obtain⟨w',u,c⟩:=q.ye (vs:=f y) (j:=j*sz) (bE b) (by rw[d.len,d.flat];exact p) (d.one y) (by intro B;have:=d.len y;rw[B]at this;simp at this;omega);refine⟨w',u,?_⟩;rw[LH,Fx sz d l j y h]at c;have x:γ l=γ (l.set j y):=aA2
  rw[x]at c;obtain⟨o',m⟩:=c.Sw (k:=k) (l:=l.set j y) (bE b);rw[LH]at m;have v:o'=θ g:=by
   obtain⟨A,_⟩:=m.res _ (aL (bE b));rcases A with⟨t,i,_⟩|⟨C,r,t,i,_⟩
   ·exfalso;have:γ (l.set j y)=0:=by have z:=i;rw[z];rfl
    simp at this;subst this;simp at h
   ·simp at i;rw[i];exact t
  rw[v]at m;exact m
theorem w_stE[Inhabited α](r:Hp w0 S L w)(k:Nat)(o:ε Nat)(a:ε Ζ)(cap e sz:Nat)(i:Int)(l:δ α)(z:α)(q:L[k]? =θ (bN f e sz o a cap l))(c:kZ f sz)(vs:δ ς)(s:0<=i/\i<γ l)(g:f z=vs)
  (hx:aU n F x=.pointer (θ (ea a (i.toNat*sz)))) (d:aU n F y=.agg vs.toArray) (dR:0<sz) (j:(Ο t).run P w=.ok sz w)
  (h:∀w',Hp w0 S (L.set k (bN f e sz o a cap (l.set i.toNat z))) w'->W P n Ω Q rest F w'):W P n Ω Q (⟨ι,.store t x y,ty,pos,Ψ,ι⟩::rest) F w:=by
 subst g;obtain⟨w',m,b⟩:=r.yj (P:=P) c dR q (show i.toNat<γ l by omega);refine wO (w':=w') Τ Τ ?_ (h w' b);have p:=c.len z;simp[χ,hx,d,Instr.storeAt,Instr.sureAddr,storeVar,j,Value.cells,m,p]
theorem ZD[Inhabited α](r:Hp w0 S L w)(k:Nat)(o:ε Nat)(a:ε Ζ)(cap e:Nat)(i:Int)(l:δ α)(z:α)(q:L[k]? =θ (bN f e 1 o a cap l))(j:kZ f 1)(v:ς)(u:0<=i/\i<γ l)(g:f z=[v])
  (hx:aU n F x=.pointer (θ (ea a (i.toNat*1)))) (m:aU n F y=v) (p:(Ο t).run P w=.ok 1 w)
  (h:∀w',Hp w0 S (L.set k (bN f e 1 o a cap (l.set i.toNat z))) w'->W P n Ω Q rest F w'):W P n Ω Q (⟨ι,.store t x y,ty,pos,Ψ,ι⟩::rest) F w:=by
 obtain⟨w',c,d⟩:=r.yj (P:=P) j aA1 q (show i.toNat<γ l by omega);refine wO (w':=w') Τ Τ ?_ (h w' d);have s:=j.one z v (by rw[g];simp);have b:v.cells= #[v]:=by cases v<;>first|rfl|simp[Value.oneCell']at s
 rw[g]at c;simp at c hx;simp[χ,hx,m,Instr.storeAt,Instr.sureAddr,storeVar,p,b,c]
theorem xw(d:Hp w0 S L w)(k:Nat)(a:ε Ζ)(m cap:Nat)(i:Int)(l:δ ζ)(c:ζ)(b:L[k]? =θ (jX (.slice a m cap) m l))(g:0<=i/\i<(γ l:Int))
  (hx:aU n F x=.pointer (θ (ea a (i.toNat*1)))) (e:aU n F y=bt c) (f:(Ο t).run P w=.ok 1 w)
  (h:∀w',Hp w0 S (L.set k (jX (.slice a m cap) m (l.set i.toNat c))) w'->W P n Ω Q rest F w'):W P n Ω Q (⟨ι,.store t x y,ty,pos,Ψ,ι⟩::rest) F w:=
 ZC d k a m cap _ l c b (by have:=d.hK k b;omega) hx e f aA8
theorem il{a b:ζ}:(a.toNat=(b.toNat:Int))↔a=b:=by
 constructor
 ·intro h;exact jB.1 aA0
 ·intro h;rw[h]
variable{a:Ε}
theorem YU(e b:ζ)(hx:aU n F x=bt e)(c:aU n F y=bt b):(χ (aU n F) (⟨θ d,.binOp .eql t x y a,ty,pos,Ψ,ι⟩)).run P w=.ok (.value (.bool (decide (e=b)))) w:=by rw[MK .u8 _ _ hx c];congr 3;exact dE.2 il
theorem YQ(e b:ζ)(hx:aU n F x=bt e)(c:aU n F y=bt b):(χ (aU n F) (⟨θ d,.binOp .neq t x y a,ty,pos,Ψ,ι⟩)).run P w=.ok (.value (.bool (!decide (e=b)))) w:=by rw[YG .u8 _ _ hx c];congr 4;exact dE.2 il
theorem x8_lss(e b:ζ)(hx:aU n F x=bt e)(c:aU n F y=bt b):(χ (aU n F) (⟨θ d,.binOp .lss t x y a,ty,pos,Ψ,ι⟩)).run P w=.ok (.value (.bool (decide (e<b)))) w:=by rw[YH .u8 _ _ hx c];congr 3;exact dE.2 (by rw[mg];omega)
theorem YS(e b:ζ)(hx:aU n F x=bt e)(c:aU n F y=bt b):(χ (aU n F) (⟨θ d,.binOp .leq t x y a,ty,pos,Ψ,ι⟩)).run P w=.ok (.value (.bool (decide (e<=b)))) w:=by rw[YI .u8 _ _ hx c];congr 3;exact dE.2 (by rw[wI];omega)
theorem x8_gtr(e b:ζ)(hx:aU n F x=bt e)(c:aU n F y=bt b):(χ (aU n F) (⟨θ d,.binOp .gtr t x y a,ty,pos,Ψ,ι⟩)).run P w=.ok (.value (.bool (decide (b<e)))) w:=by rw[MJ .u8 _ _ hx c];congr 3;exact dE.2 (by rw[mg];omega)
theorem YT(e b:ζ)(hx:aU n F x=bt e)(c:aU n F y=bt b):(χ (aU n F) (⟨θ d,.binOp .geq t x y a,ty,pos,Ψ,ι⟩)).run P w=.ok (.value (.bool (decide (b<=e)))) w:=by rw[YK .u8 _ _ hx c];congr 3;exact dE.2 (by rw[wI];omega)
theorem x8_add(e b:ζ)(hx:aU n F x=bt e)(c:aU n F y=bt b):(χ (aU n F) (⟨θ d,.binOp .add t x y a,ty,pos,Ψ,ι⟩)).run P w=.ok (.value (bt (e+b))) w:=by rw[vK .u8 _ _ hx c];congr 3
theorem YO(e b:ζ)(hx:aU n F x=bt e)(c:aU n F y=bt b):(χ (aU n F) (⟨θ d,.binOp .sub t x y a,ty,pos,Ψ,ι⟩)).run P w=.ok (.value (bt (e-b))) w:=by rw[LY .u8 _ _ hx c];unfold bt;rw[UInt8.toNat_sub,IntKind.wrap_u8];congr 3;have:=fH b;omega
theorem x8_mul(e b:ζ)(hx:aU n F x=bt e)(c:aU n F y=bt b):(χ (aU n F) (⟨θ d,.binOp .mul t x y a,ty,pos,Ψ,ι⟩)).run P w=.ok (.value (bt (e*b))) w:=by rw[MG .u8 _ _ hx c];congr 3
theorem ofInt_u8(a:ζ):BitVec.ofInt 8 a.toNat=a.toBitVec:=by simp
theorem YV(e b:ζ)(hx:aU n F x=bt e)(c:aU n F y=bt b):(χ (aU n F) (⟨θ d,.binOp .and t x y a,ty,pos,Ψ,ι⟩)).run P w=.ok (.value (bt (e&&&b))) w:=by rw[AS .u8 _ _ hx c];congr 3;show IntKind.u8.wrap ((BitVec.ofInt 8 _&&&BitVec.ofInt 8 _).toNat)=_;rw[ofInt_u8,ofInt_u8,IntKind.wrap_u8];have:(e&&&b).toNat=(e.toBitVec&&&b.toBitVec).toNat:=Τ;omega
theorem x8_or(e b:ζ)(hx:aU n F x=bt e)(c:aU n F y=bt b):(χ (aU n F) (⟨θ d,.binOp .or t x y a,ty,pos,Ψ,ι⟩)).run P w=.ok (.value (bt (e|||b))) w:=by rw[QY .u8 _ _ hx c];congr 3;show IntKind.u8.wrap ((BitVec.ofInt 8 _|||BitVec.ofInt 8 b.toNat).toNat)=_;rw[ofInt_u8,ofInt_u8,IntKind.wrap_u8];have:(e|||b).toNat=(e.toBitVec|||b.toBitVec).toNat:=Τ;omega
def mO(c:ζ)(i:Int):ζ:=Fc (c.toNat/2^(min i.toNat 8))
def SG(c:ζ)(i:Int):ζ:=Fc (c.toNat*2^(min i.toNat 8))
def AH(i:Int):ζ:=Fc (i%256).toNat
theorem HR(k:Δ)(i:ζ)(b:Int)(hx:aU n F x=bt i)(c:aU n F y=.int k b)(f:0<=b):(χ (aU n F) (⟨θ d,.binOp .shr t x y a,ty,pos,Ψ,ι⟩)).run P w=.ok (.value (bt (mO i b))) w:=by have e:(0:Int)<2^(min b.toNat IntKind.u8.bits):=Int.pow_pos aA1;rw[ME .u8 k _ b _ hx c f rfl e];unfold bt mO;congr 3;show(i.toNat:Int)/2^(min b.toNat 8)=_;have h:=fH i;have g:i.toNat/2^(min b.toNat 8)<=i.toNat:=Nat.div_le_self _ _;rw[iP,GM aA0];simp
theorem YP(k:Δ)(g:ζ)(b:Int)(hx:aU n F x=bt g)(c:aU n F y=.int k b)(e:0<=b):(χ (aU n F) (⟨θ d,.binOp .shl t x y a,ty,pos,Ψ,ι⟩)).run P w=.ok (.value (bt (SG g b))) w:=by rw[Ji .u8 k _ b _ hx c e rfl];congr 3
theorem YA(k:Δ)(s:Int)(c:P.underlying t=θ (.int k))(b:P.underlying a=θ (.int .u8))(hx:aU n F x=.int k s):(χ (aU n F) (⟨θ d,.convert t a x,ty,pos,Ψ,ι⟩)).run P w=.ok (.value (bt (AH s))) w:=by rw[Wa .u8 k s c b hx];unfold bt AH;rw[IntKind.wrap_u8];congr 3;rw[iP];omega
theorem Zn(e b:ζ)(hx:aU n F x=bt e)(c:aU n F y=bt b)(h:W P n Ω Q rest (cY F d (.bool (decide (e=b)))) w):W P n Ω Q (⟨θ d,.binOp .eql t x y a,ty,pos,Ψ,ι⟩::rest) F w:=dY Τ Τ (YU e b hx c) h
theorem HZ(e b:ζ)(hx:aU n F x=bt e)(c:aU n F y=bt b)(h:W P n Ω Q rest (cY F d (.bool (!decide (e=b)))) w):W P n Ω Q (⟨θ d,.binOp .neq t x y a,ty,pos,Ψ,ι⟩::rest) F w:=dY Τ Τ (YQ e b hx c) h
theorem ZL(e b:ζ)(hx:aU n F x=bt e)(c:aU n F y=bt b)(h:W P n Ω Q rest (cY F d (.bool (decide (e<=b)))) w):W P n Ω Q (⟨θ d,.binOp .leq t x y a,ty,pos,Ψ,ι⟩::rest) F w:=dY Τ Τ (YS e b hx c) h
theorem ZM(e b:ζ)(hx:aU n F x=bt e)(c:aU n F y=bt b)(h:W P n Ω Q rest (cY F d (.bool (decide (b<=e)))) w):W P n Ω Q (⟨θ d,.binOp .geq t x y a,ty,pos,Ψ,ι⟩::rest) F w:=dY Τ Τ (YT e b hx c) h
theorem w8_sub(e b:ζ)(hx:aU n F x=bt e)(c:aU n F y=bt b)(h:W P n Ω Q rest (cY F d (bt (e-b))) w):W P n Ω Q (⟨θ d,.binOp .sub t x y a,ty,pos,Ψ,ι⟩::rest) F w:=dY Τ Τ (YO e b hx c) h
theorem HT(k:Δ)(s:Int)(c:P.underlying t=θ (.int k))(b:P.underlying a=θ (.int .u8))(hx:aU n F x=.int k s)(h:W P n Ω Q rest (cY F d (bt (AH s))) w):W P n Ω Q (⟨θ d,.convert t a x,ty,pos,Ψ,ι⟩::rest) F w:=dY Τ Τ (YA k s c b hx) h
theorem AV(c:ζ):fD .i64 c.toNat=c.toNat:=by rw[IntKind.wrap_i64];have:=fH c;omega
theorem YE(e b:Int)(hx:aU n F x=.int .i64 e)(c:aU n F y=.int .i64 b)(g:0<=e/\0<b/\bK e):(χ (aU n F) (⟨θ d,.binOp .quo t x y a,ty,pos,Ψ,ι⟩:Ι)).run P w=.ok (.value (.int .i64 (e/b))) w:=
 xo .i64 e b hx c g.1 g.2.1 (bfq (by have:=Int.ediv_nonneg g.1 (Int.le_of_lt g.2.1);omega) (by have:=Int.ediv_le_self b g.1;have:=g.2.2.2;omega))
theorem w_quoT(e b:Int)(hx:aU n F x=.int .i64 e)(c:aU n F y=.int .i64 b)(g:0<=e/\0<b/\bK e)(h:W P n Ω Q rest (cY F d (.int .i64 (e/b))) w):W P n Ω Q (⟨θ d,.binOp .quo t x y a,ty,pos,Ψ,ι⟩::rest) F w:=dY Τ Τ (YE e b hx c g) h
theorem YC(e b:Int)(hx:aU n F x=.int .i64 e)(c:aU n F y=.int .i64 b)(g:0<=e/\0<b/\bK e):(χ (aU n F) (⟨θ d,.binOp .rem t x y a,ty,pos,Ψ,ι⟩:Ι)).run P w=.ok (.value (.int .i64 (e%b))) w:=
 YD .i64 e b hx c g.1 g.2.1 (bfq (by have:=Int.emod_nonneg e (show b≠0 by omega);omega) (by have:=Int.emod_nonneg e (show b≠0 by omega);have:e%b<=e:=(by rw[Int.emod_def];have:=Int.mul_nonneg (Int.le_of_lt g.2.1) (Int.ediv_nonneg g.1 (Int.le_of_lt g.2.1));omega);have:=g.2.2.2;omega))
theorem ZE(e b:Int)(hx:aU n F x=.int .i64 e)(c:aU n F y=.int .i64 b)(g:0<=e/\0<b/\bK e)(h:W P n Ω Q rest (cY F d (.int .i64 (e%b))) w):W P n Ω Q (⟨θ d,.binOp .rem t x y a,ty,pos,Ψ,ι⟩::rest) F w:=dY Τ Τ (YC e b hx c g) h
end
theorem toNat_le{t:Int}{m cap:Nat}(h:0<=t/\t<=m)(a:m<=cap):t.toNat<=cap:=aA0
theorem Hp.bZ{w0 w:φ}{S:δ Nat}{L:δ cL}{α:Type}{f:α->δ ς}{e sz cap:Nat}{o:ε Nat}{a:ε Ζ}{l:δ α}(h:Hp w0 S L w)(k:Nat)(b:L[k]? =θ (bN f e sz o a cap l)):γ l<=cap:=by
 obtain⟨d,_⟩:=h.res _ (aL b);rcases d with⟨_,rfl,rfl,_⟩|⟨g,i,_,_,_,c,_⟩
 ·exact dC _
 ·exact c
section
variable{P:Θ}{n:Md}{Ω:Array Ι}{Q:Exit->Act->φ->Prop}{F:Nat->ς}{w w0:φ}{S:δ Nat}{L:δ cL}
variable{d:Nat}{ty:Ε}{pos:String}{Ψ:Array Edge}{rest:δ Ι}{α:Type}{f:α->δ ς}
variable{t e:Ε}
theorem Iv(a:P.underlying t=θ (.slice e)):P.elem t=e:=by simp[Program.elem,a]
variable{x g:Β}
theorem Vx(a:ε Ζ)(m c e sz:Nat)(k:Δ)(j:Int)(h:P.underlying t=θ (.slice e))(p:(Ο e).run P w=.ok sz w)(hx:aU n F x=.slice a m c)(f:aU n F g=.int k j)(l:δ α)(r:m=γ l)
  (q:0<=j/\j<=γ l) (s:m<=c):(χ (aU n F) (⟨θ d,.slice t x ι (θ g) ι,ty,pos,Ψ,ι⟩)).run P w=.ok (.value (.slice a j.toNat c)) w:=by
 have i:=Iv h;have b:P.underlying t=θ (.slice (P.elem t)):=by rw[i];exact h
 have o:=run_slice_h w t a m c b k j q.1 aA0;rw[i,p]at o;simp only[χ,hx,f,Sem.run_bind,LW,kv,run_sliceAt_slice w t _ _ _ _ b,o,sliced];cases a<;>simp[Addr.add]
theorem HV{f:Β}(a:ε Ζ)(m c e sz:Nat)(k:Δ)(j:Int)(g:P.underlying t=θ (.slice e))(i:(Ο e).run P w=.ok sz w)(hx:aU n F x=.slice a m c)(b:aU n F f=.int k j)(l:δ α)(o:m=γ l)
  (q:0<=j/\j<=(γ l:Int)) (p:m<=c) (h:W P n Ω Q rest (cY F d (.slice a j.toNat c)) w):W P n Ω Q (⟨θ d,.slice t x ι (θ f) ι,ty,pos,Ψ,ι⟩::rest) F w:=
 dY Τ Τ (Vx a m c e sz k j g i hx b l o q p) h
def kB(a:ε Ζ)(cap b sz:Nat):ε Ζ:=if cap=b then a else a.map (·.add (b*sz))
theorem bha(a:ε Ζ)(m c e sz:Nat)(k:Δ)(j:Int)(h:P.underlying t=θ (.slice e))(p:(Ο e).run P w=.ok sz w)(hx:aU n F x=.slice a m c)(f:aU n F g=.int k j)(l:δ α)(r:m=γ l)
  (q:0<=j/\j<=γ l):(χ (aU n F) (⟨θ d,.slice t x (θ g) ι ι,ty,pos,Ψ,ι⟩)).run P w=.ok (.value (.slice (kB a c j.toNat sz) (m-j.toNat) (c-j.toNat))) w:=by
 have i:=Iv h;have b:P.underlying t=θ (.slice (P.elem t)):=by rw[i];exact h
 have o:=run_slice_l w t a m c b k j q.1 aA0;rw[i,p]at o;simp only[χ,hx,f,Sem.run_bind,LW,kv,run_sliceAt_slice w t _ _ _ _ b,o,Result.andThen_ok,sliced,kB,Sem.run_pure]
theorem Jp{f:Β}(a:ε Ζ)(m c e sz:Nat)(k:Δ)(j:Int)(g:P.underlying t=θ (.slice e))(i:(Ο e).run P w=.ok sz w)(hx:aU n F x=.slice a m c)(b:aU n F f=.int k j)(l:δ α)(o:m=γ l)
  (p:0<=j/\j<=(γ l:Int)) (h:W P n Ω Q rest (cY F d (.slice (kB a c j.toNat sz) (m-j.toNat) (c-j.toNat))) w):W P n Ω Q (⟨θ d,.slice t x (θ f) ι ι,ty,pos,Ψ,ι⟩::rest) F w:=
 dY Τ Τ (bha a m c e sz k j g i hx b l o p) h
theorem x_ixA[Inhabited α](f:α->δ ς)(l:δ α)(m:Nat)(k:Δ)(i:Int)(cs:δ ς)(v:ς)(q:l.map f=cs.map (λc=>[c]))(o:P.underlying t=θ (.array m e))(z:γ l=m)(s:(isAgg e).run P w=.ok ν w)(p:(Ο e).run P w=.ok 1 w)
  (hx:aU n F x=.agg cs.toArray) (r:aU n F g=.int k i) (j:f (el l i)=[v]) (A:0<=i/\i<γ l):(χ (aU n F) (⟨θ d,.index t x g,ty,pos,Ψ,ι⟩)).run P w=.ok (.value v) w:=by
 have y:i.toNat<γ l:=aA0;have a:(cs.map (λc=>[c]))[i.toNat]? =θ [v]:=by rw[<-q];rw[<-j];simp[el,y]
 have u:cs[i.toNat]? =θ v:=by
  rw[aW]at a;cases h:cs[i.toNat]? with
  |none=>rw[h]at a;simp at a
  |some c=>rw[h]at a;simp at a;rw[a]
 have b:0<=i/\i<m:=aA0;simp[χ,hx,r,Instr.index,asIntOf,run_underlying o,b,p,part,s,u]
theorem PC{w:φ}(d:Nat)(a b:aC)(h:P.underlying t=θ .string):(Op.equalIn (d+1) t (str a) (str b)).run P w=.ok (decide (a=b)) w:=by
 have e:((⟨a.toArray⟩:ByteArray).toList==(⟨b.toArray⟩:ByteArray).toList)=decide (a=b):=by rw[fX];simp
 unfold str;rw[run_equalIn_string w d t _ _ h,e]
def EqF(P:Θ)(w:φ)(c a:δ ς):δ Field->δ η->Prop
 |[],[]=>True
 | f :: e, b :: g => f.name ≠ "_" /\ (∃ u v, (part f.type c.toArray f.offset).run P w = .ok u w /\ (part f.type a.toArray f.offset).run P w = .ok v w /\ ∀ d, (Op.equalIn (d + 1) f.type u v).run P w = .ok b w) /\ EqF P w c a e g
 |_,_=>False
theorem Yt{w:φ}{g e:δ ς}(d:Nat):∀a c,EqF P w g e a c->(Op.eqFields (d+1) g.toArray e.toArray a).run P w=.ok (c.all id) w
 |[],[],_=>rfl
 |[],_::_,h=>h.elim
 |_::_,[],h=>h.elim
 |f::a,b::c,⟨n,⟨u,v,m,l,k⟩,j⟩=>by
  have i:=Yt d a c j;simp only[Op.eqFields,n,QU,not_false_eq_true,gZ,Sem.run_bind,m,l,k d,Result.andThen_ok];cases b with
  |true=>simpa using i
  |false=>simp
variable{b:δ Field}
theorem YN(p c:δ ς)(f:δ η)(r:η)(y:P.underlying t=θ (.struct b.toArray))(k:P.stoodInHeld t=ν)(l:P.eqGuardType P.depth t=ν)(hx:aU n F x=.agg p.toArray)(i:aU n F g=.agg c.toArray)
  (m:EqF P w p c b f) (j:f.all id=r):(χ (aU n F) (⟨θ d,.binOp .eql t x g e,ty,pos,Ψ,ι⟩)).run P w=.ok (.value (.bool r)) w:=by
 have a:P.fieldsOf t=b.toArray:=by simp[Program.fieldsOf,y]
 have h:=run_equalIn_agg w 9999 t p.toArray c.toArray (by rw[a];exact y) k;rw[a]at h;have o:=Yt 9998 b f m;simp only[χ,hx,i,Sem.run_bind,run_eqGuard_agg w .eql t x g _ _ l,Result.andThen_ok,run_eql_struct,h,o,j];simp
theorem YM(p c:δ ς)(f:δ η)(r:η)(y:P.underlying t=θ (.struct b.toArray))(k:P.stoodInHeld t=ν)(l:P.eqGuardType P.depth t=ν)(hx:aU n F x=.agg p.toArray)(i:aU n F g=.agg c.toArray)
  (m:EqF P w p c b f) (j:f.all id=r):(χ (aU n F) (⟨θ d,.binOp .neq t x g e,ty,pos,Ψ,ι⟩)).run P w=.ok (.value (.bool (!r))) w:=by
 have a:P.fieldsOf t=b.toArray:=by simp[Program.fieldsOf,y]
 have h:=run_equalIn_agg w 9999 t p.toArray c.toArray (by rw[a];exact y) k;rw[a]at h;have o:=Yt 9998 b f m;simp only[χ,hx,i,Sem.run_bind,run_eqGuard_agg w .neq t x g _ _ l,Result.andThen_ok,run_neq_struct,h,o,j];simp
end
variable{w:φ}{a:ε Ζ}{g:δ ζ}
theorem Rd.bytes(h:Rd w a (g.flatMap eB)):Rd w a (g.map bt):=Ay g▸h
theorem Rd.eE(h:Rd w a (g.map bt)):Rd w a (g.flatMap eB):=(Ay g).symm▸h
variable{b:Type}{e:Nat}{f:b->δ ς}{l:δ b}
theorem Rd.BD(i:kZ f e)(m:Nat)(h:Rd w a (l.flatMap f)):Rd w a ((l.take m).flatMap f):=by
 have α:(l.take m).flatMap f=(l.flatMap f).take (γ (l.take m)*e):=by have:l.flatMap f=(l.take m).flatMap f++(l.drop m).flatMap f:=aE9;rw[this,<-i.flat _,XA]
 rw[α];exact h.take _
variable{d:φ}{S:δ Nat}{L:δ cL}{c:δ ς}
theorem Rd.dj(h:Rd w a c)(b:Hp w S L d)(i:c≠[]->∀p,a=θ p->p.block∉S):Rd d a c:=by
 cases c with
 |nil=>exact Rd.nil _ _
 |cons x c=>exact h.hpS b (i aA2)
theorem Rd.vY(c:kZ f e)(cap k:Nat)(d:γ l<=cap)(h:Rd w a (l.flatMap f)):Rd w (kB a cap k e) ((l.drop k).flatMap f):=by
 unfold kB;split
 ·rename_i α;rw[Pu aA0];exact Rd.nil _ _
 ·rw[<-bgn f e c.len l k];cases a with
  |none=>intro j v i;rw[bV]at i;obtain⟨p,hp,_⟩:=h _ v i;cases hp
  |some p=>exact h.drop _
variable{h j:Nat}{o:ε Nat}
theorem Hp.wa{L1:δ cL}(E:Hp w S L d)(m k:Nat)(i:L[k]? =θ (bN f e h o a j l))(c:Nat.ble m k=μ)(B:L.take m=L1):
  l.flatMap f≠[]->∀p,a=θ p->p.block∉eR L1:=by
 intro G p s y;obtain⟨C,_⟩:=E.res _ (aL i);have t:m<=k:=Rx c;rcases C with⟨_,rfl,_⟩|⟨g,D,x,rfl,_⟩
 ·exact G Τ
 ·simp at s;subst s;obtain⟨r,v,A⟩:=bhm y;subst B;obtain⟨F,u,e⟩:=List.getElem_of_mem v;have z:F<m:=by simp at u;omega
  have n:F<γ L:=by simp at u;omega
  have α:=(aE.1 i).1;have q:=dH.1 E.sep F k n α aA0 g;rw[List.getElem_take]at e;rw[e,(aE.1 i).2]at q;exact q A x
theorem Hp.uR{L1:δ cL}(h:Hp w S L d)(m:Nat)(n:Rd w a c)(b:c≠[]->∀p,a=θ p->p.block∉S)(o:L.take m=L1):
  c≠[]->∀p,a=θ p->p.block∉eR L1:=by
 intro hx p f j;obtain⟨r,i,l⟩:=bhm j;subst o;have s:=(h.res r (Bt i)).2 p.block l;rcases s.2 with g|g
 ·cases c with
  |nil=>exact hx Τ
  |cons x c=>obtain⟨q,e,k⟩:=n 0 x Τ;rw[f]at e;cases e;have:=Bd k;rw[bgp]at this;omega
 ·exact b hx p f g
open Go.Value renaming ownBlock → Gi
open List renaming drop → dG, replicate → jM, take → eP
theorem Hp.JE{g:Nat}(v:Hp w S L d)(k:Nat)(o:L[k]? =θ (bN f e h (θ g) a j l)):
  ∃cs:δ ς,a=θ ⟨g,0,ι⟩/\γ cs=j*h/\cs.take (γ l*h)=l.flatMap f/\γ l<=j/\j<=maxLen/\Hp w S (L.set k (aX g cs e)) d:=by
 obtain⟨t,s⟩:=v.res _ (aL o);rcases t with⟨r,_⟩|⟨u,n,q,rfl,α,m,x,i,c⟩
 ·cases r
 ·cases q;refine⟨n.toList,Τ,by simpa using i,c,m,x,v.change k _ _ o Τ Τ Τ (dC _) (λ_ _ _=>rfl) ?_ ?_⟩
  ·show d.heap[g]? =_;simpa [bN] using α
  ·intro y p;simp[aX]at p;subst p;exact⟨.inl Τ,(s g Τ).1⟩
theorem Hp.Ix{cs:δ ς}{f:b->δ ς}(n:Hp w S L d)(k sz cap:Nat)(l:δ b)(α:L[k]? =θ (aX e cs h))(c:γ cs=cap*sz)(j:γ l<=cap)(m:cap<=maxLen)(i:cs.take (γ l*sz)=l.flatMap f):
  Hp w S (L.set k (bN f h sz (θ e) (θ ⟨e,0,ι⟩) cap l)) d:=by
 have g:=n.bP k α;refine n.change k _ _ α Τ Τ Τ (dC _) (λ_ _ _=>rfl) ?_ ?_
 ·exact .inr ⟨e,_,Τ,Τ,g,j,m,aC6,by simpa using i⟩
 ·intro b' a;simp[bN]at a;subst a;exact⟨.inl Τ,(bY.1 g).1⟩
theorem Hp.JI(n:Hp w S L d)(k:Nat)(c:L[k]? =θ (bN f e h ι a j l)):l=[]/\j=0/\a=ι:=by
 obtain⟨p,_⟩:=n.res _ (aL c);rcases p with⟨_,q,i,α⟩|⟨g,m,q,_⟩
 ·exact⟨q,i,α⟩
 ·cases q
theorem Hp.rwcapM(m:Hp w S L d)(k:Nat)(n:L[k]? =θ (bN f e h o a j l)):j<=maxLen:=by
 obtain⟨α,_⟩:=m.res _ (aL n);rcases α with⟨_,_,rfl,_⟩|⟨g,i,_,_,_,_,c,_⟩
 ·exact eJ _
 ·exact c
theorem Cg{sz:Nat}(g:h≠j):kB (θ ⟨e,0,ι⟩) h j sz=θ ⟨e,j*sz,ι⟩:=by unfold kB;rw[aA g];simp[AM]
theorem FH{α:Type}(f:α->δ ς)(sz:Nat)(z:α)(a:γ (f z)=sz):∀(n j:Nat),j<n*sz->((jM n z).flatMap f)[j]? =(f z)[j%sz]?
 |0,j,h=>by simp at h
 |n+1,j,h=>by
  rw[List.replicate_succ,wL];by_cases b:j<sz
  ·rw[aI aA0,GM b]
  ·rw[aM aA0,a,FH f sz z a n _ (by rw[LX]at h;omega)];congr 1;rw[<-Nat.mod_eq_sub_mod aA0]
theorem Tm(f:b->δ ς)(sz:Nat)(z:b)(α:Array ς)(e:α.toList=f z)(d:α.size=sz)(dR:0<sz)(n:Nat):(madeCells α (n*sz)).toList=(jM n z).flatMap f:=by
 have c:γ (f z)=sz:=by rw[<-e];simpa using d
 apply cI;intro j;by_cases h:j<n*sz
 ·rw[FH f sz z c n j h];have g:j%sz<α.size:=by rw[d];exact Nat.mod_lt _ dR
  simp[madeCells,h,<-e,d];rw[fV g,getElem!_pos α _ g]
 ·rw[bG (by simp[madeCells];omega),bG];rw[a f sz z c];omega
where
 a {b:Type} (f:b->δ ς) (sz:Nat) (z:b) (c:γ (f z)=sz) {n:Nat}:γ ((jM n z).flatMap f)=n*sz:=by
  induction n with
  |zero=>simp
  |succ n i=>rw[List.replicate_succ,wL,cR,i,c,LX];omega
def XE(l a:δ b):δ b:=a.take (γ l)++l.drop (γ a)
@[simp] theorem Za  (l a:δ b):γ (XE l a)=γ l:=by unfold XE;simp;omega
theorem gv(l a:δ b)(h:γ l=γ a):XE l a=a:=by unfold XE;rw[h,iA,LP aA0,gV]
section
variable{P:Θ}{n:Md}{Ω:Array Ι}{Q:Exit->Act->φ->Prop}{F:Nat->ς}{w w0:φ}{S:δ Nat}{L:δ cL}
variable{d:Nat}{ty:Ε}{pos:String}{Ψ:Array Edge}{rest:δ Ι}{α:Type}{f:α->δ ς}
variable{x:Β}{t:Ε}
theorem x_cap(a:ε Ζ)(m c e:Nat)(b:P.underlying t=θ (.slice e))(hx:aU n F x=.slice a m c):
  (χ (aU n F) (⟨θ d,.call ⟨.builtin .cap,#[x],#[t]⟩,ty,pos,Ψ,ι⟩)).run P w=.ok (.value (.int .i64 c)) w:=by
 simp[χ,resolve,invoke,builtin,hx,Builtin.cap_,run_underlying b,goInt]
theorem w_cap(a:ε Ζ)(m c e:Nat)(b:P.underlying t=θ (.slice e))(hx:aU n F x=.slice a m c)(h:W P n Ω Q rest (cY F d (.int .i64 c)) w):
  W P n Ω Q (⟨θ d,.call ⟨.builtin .cap,#[x],#[t]⟩,ty,pos,Ψ,ι⟩::rest) F w:=dY Τ Τ (x_cap a m c e b hx) h
theorem MR{y:Β}(hH:Hp w0 S L w)(e sz j:Nat)(kl T:Δ)(c:Int)(z:α)(X:P.underlying t=θ (.slice e))(hT:TI P e sz j)(I:0<j)(dR:0<sz)
  (D:((P.info? e).bind (·.zero)).map (·.cells)=θ (f z).toArray) (hx:aU n F x=.int kl c) (V:aU n F y=.int T c)
  (m:0<=c/\(j:Int)*c<=281474976710656)
  (h:∀o a cap w',Hp w0 S (bN f e sz o a cap (jM c.toNat z)::L) w'->W P n Ω Q rest (cY F d (.slice a (γ (jM c.toNat z)) cap)) w'):
  W P n Ω Q (⟨θ d,.makeSlice t x y,ty,pos,Ψ,ι⟩::rest) F w:=by
 obtain⟨i,A,U,p,Y,u,B⟩:=hT.parts;obtain⟨h0,J⟩:=m;obtain⟨cn,rfl⟩:=Int.eq_ofNat_of_zero_le h0;have K:i.bytes*cn<=281474976710656:=by
  rw[u];have a1:((j*cn:Nat):Int)<=281474976710656:=by rw[Int.natCast_mul];exact J
  omega
 have M:cn<=maxLen:=by have:cn<=i.bytes*cn:=Nat.le_mul_of_pos_left _ (by rw[u];exact I);simp only[maxLen];omega
 have C:A.cells.toList=f z:=by rw[U]at D;simp[p]at D;rw[D]
 obtain⟨w',l,G,s⟩:=run_make_full w w.heap.size t e i A sz X U p Y kl T cn K M (dC _);rw[Tm f sz z A.cells C B dR cn]at G;have O:Hp w [] [row (.slice (θ ⟨w.heap.size,0,ι⟩) cn cn) e sz cn ((jM cn z).flatMap f)] w':=by
  refine⟨s.os,s.tape,s.output,s.size,λk hk _=>s.block k hk aA2,λr l=> ?_,aA2⟩;simp at l;subst l;have H:=G.lt w.heap.size Τ;refine⟨?_,λb m=> ?_⟩
  ·obtain⟨Z,l⟩:=G;refine⟨Z,?_⟩;rcases l with l|⟨g,c,R,E,_,m,h1,O,v,N⟩
   ·exact .inl l
   ·refine .inr ⟨g,c,R,E,?_,h1,O,v,N⟩;simp only[Value.slice.injEq,bH,Addr.mk.injEq]at E;obtain⟨⟨rfl,-⟩,-,rfl⟩:=E;exact m
  ·simp[row,Gi]at m;subst m;exact⟨H.2,.inl (dC _)⟩
 have v:=hH.kQ O;have q:γ (jM cn z)=cn:=aA2;have N:(row (.slice (θ ⟨w.heap.size,0,ι⟩) cn cn) e sz cn ((jM cn z).flatMap f))=row (.slice (θ ⟨w.heap.size,0,ι⟩) (γ (jM cn z)) cn) e sz (γ (jM cn z)) ((jM cn z).flatMap f):=by rw[q]
 rw[N]at v;obtain⟨o,h5⟩:=v.Sw 0 Τ;have h6:=h o _ cn w' h5;refine dY (w':=w') Τ Τ ?_ h6;simp[χ,hx,V,l]
theorem Su{u:Ε}(D:Hp w0 S L w)(k g o b h:Nat)(i:ε Ζ)(a d e sz:Nat)(cs c:δ ς)(A:L[k]? =θ (aX g cs e))(n:P.underlying t=θ (.slice e))(r:(Ο e).run P w=.ok sz w)
  (l:Rd w i c) (z:γ c=Ν a b*sz) (f:o+γ c<=γ cs) (E:∀v∈c,v.oneCell'=μ):
  ∃w',(Builtin.copy_ #[t,u] ty #[.slice (θ ⟨g,o,ι⟩) b h,.slice i a d]).run P w=.ok (goInt (Ν a b)) w'/\Hp w0 S (L.set k (aX g (iU cs o c) e)) w':=by
 obtain⟨w',s,F⟩:=D.stored (P:=P) A f E;refine⟨w',?_,F⟩
 have B:(Builtin.firstCells sz (Ν a b) (.slice i a d)).run P w=.ok c.toArray w:=by
  cases i with
  |none=>
   have:c=[]:=by
    cases c with
    |nil=>rfl
    |cons u G=>obtain⟨p,y,_⟩:=l 0 u aA2;cases y
   subst this;exact run_firstCells_none _ _ _ _ _
  |some p=>exact run_firstCells_some w sz _ p _ _ c z (λj v m=>by obtain⟨q,x,C⟩:=l j v m;cases x;exact C)
 simp[Builtin.copy_,run_underlying n,Builtin.lenOf,r,B,s]
theorem SK{u:Ε}(A:Hp w0 S L w)(k:Nat)(o:ε Nat)(a q:ε Ζ)(cap cx e sz:Nat)(l b:δ α)(n:kZ f sz)(r:L[k]? =θ (bN f e sz o a cap l))(B:P.underlying t=θ (.slice e))(C:(Ο e).run P w=.ok sz w)
  (K:Rd w q (b.flatMap f)):∃w',(Builtin.copy_ #[t,u] ty #[.slice a (γ l) cap,.slice q (γ b) cx]).run P w=.ok (goInt (Ν (γ b) (γ l))) w'/\Hp w0 S (L.set k (bN f e sz o a cap (XE l b))) w':=by
 have d:=(aE.1 r).1;cases o with
 |none=>
  obtain⟨rfl,rfl,rfl⟩:=A.JI k r;have z:XE [] b=[]:=Gh (by rw[Za];rfl);have M:L.set k (bN f e sz ι ι 0 [])=L:=by
   apply cI;intro j;by_cases i:j=k
   ·subst i;rw[bE d,r]
   ·rw[gF (λe=>i e.symm)]
  refine⟨w,?_,by rw[z,M];exact A⟩
  have I:Ν (γ b) (γ ([]:δ α))=0:=Nat.min_zero _;rw[I];have J:(Builtin.firstCells sz 0 (.slice q (γ b) cx)).run P w=.ok #[] w:=by
   cases q with
   |none=>exact run_firstCells_none _ _ _ _ _
   |some p=>exact run_firstCells_some w sz 0 p _ _ [] aA2 (λj v G=>by simp at G)
  simp[Builtin.copy_,run_underlying B,Builtin.lenOf,C,J]
 |some g=>
  obtain⟨cs,rfl,m,s,h,y,N⟩:=A.JE k r;have D:Ν (γ b) (γ l)=min (γ b) (γ l):=Τ;have c:γ ((b.take (γ l)).flatMap f)=Ν (γ b) (γ l)*sz:=by rw[n.flat,iW,Nat.min_comm]
  obtain⟨w',H,F⟩:=Su N k g 0 (γ l) cap q (γ b) cx e sz cs _ (bE d) B C
   (by
    have Q:(b.take (γ l)).flatMap f=(b.flatMap f).take (γ (b.take (γ l))*sz):=by have:b.flatMap f=(b.take (γ l)).flatMap f++(b.drop (γ l)).flatMap f:=aE9;rw[this,<-n.flat _,XA]
    rw[Q];exact K.take _) c
   (by rw[c,m,Ps];exact HA _ (jZ (GN _ _) h)) (n.cells _)
  refine⟨w',H,?_⟩
  rw[LH]at F;have E:=F.Ix k sz cap (XE l b) (bE d) (by
   unfold iU;simp only[cR,iW,fY];have:γ ((b.take (γ l)).flatMap f)<=γ cs:=by rw[c,m];exact HA _ (jZ (GN _ _) h)
   omega) (by rw[Za];exact h) y (by
   rw[Za];unfold iU XE;rw[tN,yL,Ps,GZ];have x:γ ((b.take (γ l)).flatMap f)<=γ l*sz:=by rw[c];exact HA _ (GN _ _)
   rw[fA,xi x];have O:dG (γ ((b.take (γ l)).flatMap f)) (l.flatMap f)=(l.drop (γ b)).flatMap f:=by
    rw[c];by_cases z:γ b<=γ l
    ·rw[show Ν (γ b) (γ l)=γ b from XX z];exact bgn f sz n.len l (γ b)
    ·rw[show Ν (γ b) (γ l)=γ l from Nat.min_eq_right aA0,bgn f sz n.len l (γ l),LP (dC _),LP aA0]
   rw[<-O,<-s,Po])
  rw[LH]at E;exact E
theorem mz{y:Β}{u:Ε}(r:Hp w0 S L w)(k:Nat)(o:ε Nat)(a c:ε Ζ)(cap cx e sz:Nat)(l b:δ α)(s:kZ f sz)(p:L[k]? =θ (bN f e sz o a cap l))(i:P.underlying t=θ (.slice e))(j:(Ο e).run P w=.ok sz w)
  (hx:aU n F x=.slice a (γ l) cap) (g:aU n F y=.slice c (γ b) cx) (q:Rd w c (b.flatMap f))
  (h:∀w',Hp w0 S (L.set k (bN f e sz o a cap (XE l b))) w'->W P n Ω Q rest (cY F d (goInt (Ν (γ b) (γ l)))) w'):
  W P n Ω Q (⟨θ d,.call ⟨.builtin .copy,#[x,y],#[t,u]⟩,ty,pos,Ψ,ι⟩::rest) F w:=by
 obtain⟨w',m,v⟩:=SK (P:=P) (ty:=ty) (u:=u) r k o a c cap cx e sz l b s p i j q;refine dY (w':=w') Τ Τ ?_ (h w' v);simp[χ,resolve,invoke,builtin,hx,g,m]
theorem w_run0{o:Ι}{rest:δ Ι}{v:ς}{w':φ}(c:o.guard=ι)(f:o.dst=ι)
  (a:(χ (aU n F) o).run P w=.ok (.value v) w') (h:W P n Ω Q rest F w'):W P n Ω Q (o::rest) F w:=by
 obtain⟨k,D,ro⟩:=n;cases ro with
 |none=>unfold W WR at h⊢;refine wpList_plain c λK b=> ?_;unfold Oper.wp;rw[HF,a,Oper.upon_value,f];exact b _ _ h
 |some r=>unfold W WR at h⊢;refine wpListIn_plain c λK b=>⟨λ_ _=>trivial,?_⟩;rw[HF,mQ _ a (λd e=>by cases e),a,Oper.uponIn_value,f];exact b _ _ h
def XF(l:δ α)(i:Nat)(z:α):δ α:=l.take i++jM (γ l-i) z
@[simp] theorem Ze (l:δ α) (i:Nat) (z:α):γ (XF l i z)=γ l:=by unfold XF;simp;omega
theorem ic(l:δ α)(i:Nat)(z:α)(h:i<=γ l):(XF l i z).take i=l.take i:=by unfold XF;rw[fA,hZ,Nat.min_self];have:γ (eP i l)=i:=aA3;rw[this,Hy,tN,gV]
theorem IS{t:Ε}(q:Hp w0 S L w)(k g o m c e sz:Nat)(cs zs:δ ς)(f:Array ς)(p:L[k]? =θ (aX g cs e))(l:P.underlying t=θ (.slice e))(i:∀w,((zeroValue e).run P w).andThen (λv w=>.ok v.cells w)=.ok f w)
  (b:(Builtin.zeroCells f m).toList=zs) (u:0<m) (a:o+γ zs<=γ cs) (r:∀v∈zs,v.oneCell'=μ):
  ∃w',(Builtin.clear_ #[t] ty #[.slice (θ ⟨g,o,ι⟩) m c]).run P w=.ok (.tuple #[]) w'/\Hp w0 S (L.set k (aX g (iU cs o zs) e)) w':=by
 obtain⟨w',n,s⟩:=q.stored (P:=P) (off:=o) (vs:=zs) p a r;refine⟨w',?_,s⟩;cases d:(zeroValue e).run P w with
 |ok v j=>have:=i w;rw[d]at this;obtain⟨rfl,rfl⟩:=this;obtain⟨h,rfl⟩:∃h,m=h+1:=⟨m-1,aA0⟩;simp[Builtin.clear_,run_underlying l,d,b,n]
 |halt x j=>have:=i w;rw[d]at this;simp at this
theorem HM{e:Nat}{z:α}(b:((P.info? e).bind (·.zero)).map (·.cells)=θ (f z).toArray):∀w,((zeroValue e).run P w).andThen (λv w=>.ok v.cells w)=.ok (f z).toArray w:=by
 cases c:P.info? e with
 |none=>rw[c]at b;cases b
 |some i=>
  rw[c]at b;cases a:i.zero with
  |none=>simp[a]at b
  |some v=>simp[a]at b;simp[zeroValue,typeInfo,c,a,b]
theorem HL(sz:Nat)(z:α)(a:kZ f sz)(dR:0<sz)(m:Nat):(Builtin.zeroCells (f z).toArray m).toList=(jM m z).flatMap f:=by
 have h:Builtin.zeroCells (f z).toArray m=madeCells (f z).toArray (m*sz):=by unfold Builtin.zeroCells madeCells;rw[show(f z).toArray.size=sz by simpa using a.len z]
 rw[h];exact Tm f sz z _ aA2 (by simpa using a.len z) dR m
theorem IQ{t:Ε}(y:Hp w0 S L w)(k:Nat)(o:ε Nat)(a:ε Ζ)(cap e sz:Nat)(l:δ α)(i:Nat)(z:α)(n:kZ f sz)(p:L[k]? =θ (bN f e sz o a cap l))(A:P.underlying t=θ (.slice e))(dR:0<sz)
  (E:((P.info? e).bind (·.zero)).map (·.cells)=θ (f z).toArray) (q:i<=γ l):
  ∃w',(Builtin.clear_ #[t] ty #[.slice (kB a cap i sz) (γ l-i) (cap-i)]).run P w=.ok (.tuple #[]) w'/\Hp w0 S (L.set k (bN f e sz o a cap (XF l i z))) w':=by
 have c:k<γ L:=(aE.1 p).1;by_cases d:i=γ l
 ·have G:XF l i z=l:=by unfold XF;rw[d,iA,Hy];simp
  have H:L.set k (bN f e sz o a cap l)=L:=by
   apply cI;intro j;by_cases h:j=k
   ·subst h;rw[bE c,p]
   ·rw[gF (λe=>h e.symm)]
  refine⟨w,?_,by rw[G,H];exact y⟩;rw[d,Hy];cases kB a cap (γ l) sz<;>simp[Builtin.clear_,run_underlying A]
 ·cases o with
  |none=>obtain⟨rfl,_,_⟩:=y.JI k p;simp at q d;omega
  |some g=>
   obtain⟨cs,rfl,m,r,u,x,J⟩:=y.JE k p;have s:¬cap=i:=aA0;have I:kB (θ ⟨g,0,ι⟩) cap i sz=θ ⟨g,i*sz,ι⟩:=by unfold kB;rw[aA s];simp[AM]
   rw[I];have b:γ ((jM (γ l-i) z).flatMap f)=(γ l-i)*sz:=by rw[n.flat];simp
   obtain⟨w',F,D⟩:=IS (P:=P) (ty:=ty) (t:=t) J k g (i*sz) (γ l-i) (cap-i) e sz cs _ _ (bE c) A (HM E) (HL sz z n dR (γ l-i)) aA0 (by rw[b,m,<-eL];exact HA _ aA0) (n.cells _);refine⟨w',F,?_⟩;rw[LH]at D;have B:i*sz+(γ l-i)*sz<=γ cs:=by rw[m,<-eL];exact HA _ aA0
   have C:=D.Ix (f:=f) k sz cap (XF l i z) (bE c) (by
    unfold iU;simp only[cR,iW,fY,b];omega) (by rw[Ze];exact u) x (by
    rw[Ze];unfold iU XF;rw[GZ];have M:(cs.take (i*sz))=(l.take i).flatMap f:=by
     have K:(l.take i).flatMap f=(l.flatMap f).take (γ (l.take i)*sz):=by have:l.flatMap f=(l.take i).flatMap f++(l.drop i).flatMap f:=aE9;rw[this,<-n.flat (l.take i),XA]
     rw[K,<-r,hZ,iW,XX q,XX (HA _ q)]
    rw[M];have v:γ ((l.take i).flatMap f++(jM (γ l-i) z).flatMap f)=γ l*sz:=by rw[cR,n.flat,b,iW,XX q,<-eL];congr 1;omega
    rw[<-v,XA])
   rw[LH]at C;exact C
theorem RD(m:Hp w0 S L w)(k:Nat)(o:ε Nat)(a:ε Ζ)(cap e sz:Nat)(l:δ α)(i:Nat)(z:α)(p:kZ f sz)(g:L[k]? =θ (bN f e sz o a cap l))(c:P.underlying t=θ (.slice e))(r:True)(dR:0<sz)
  (b:((P.info? e).bind (·.zero)).map (·.cells)=θ (f z).toArray) (hx:aU n F x=.slice (kB a cap i sz) (γ l-i) (cap-i)) (j:i<=γ l)
  (h:∀w',Hp w0 S (L.set k (bN f e sz o a cap (XF l i z))) w'->W P n Ω Q rest F w'):
  W P n Ω Q (⟨ι,.call ⟨.builtin .clear,#[x],#[t]⟩,ty,pos,Ψ,ι⟩::rest) F w:=by
 obtain⟨w',d,q⟩:=IQ (P:=P) (ty:=ty) m k o a cap e sz l i z p g c dR b j;refine w_run0 (v:=.tuple #[]) (w':=w') Τ Τ ?_ (h w' q);simp[χ,resolve,invoke,builtin,hx,d]
end
section
variable{P:Θ}{n:Md}{Ω:Array Ι}{Q:Exit->Act->φ->Prop}{F:Nat->ς}{w w0:φ}{S:δ Nat}{L:δ cL}
variable{d:Nat}{ty:Ε}{pos:String}{Ψ:Array Edge}{rest:δ Ι}{α:Type}{f:α->δ ς}
variable{x y:Β}{t:Ε}
theorem MD(a:ε Ζ)(m c e sz:Nat)(k:Δ)(j:Int)(g:P.underlying t=θ (.slice e))(p:(Ο e).run P w=.ok sz w)(hx:aU n F x=.slice a m c)(f:aU n F y=.int k j)
  (l:0<=j/\j<=c):(χ (aU n F) (⟨θ d,.slice t x ι (θ y) ι,ty,pos,Ψ,ι⟩)).run P w=.ok (.value (.slice a j.toNat c)) w:=by
 have i:=Iv g;have b:P.underlying t=θ (.slice (P.elem t)):=by rw[i];exact g
 have o:=run_slice_h w t a m c b k j l.1 l.2;rw[i,p]at o;simp only[χ,hx,f,Sem.run_bind,LW,kv,run_sliceAt_slice w t _ _ _ _ b,o,sliced];cases a<;>simp[Addr.add]
theorem zq(a:ε Ζ)(m c e sz:Nat)(k:Δ)(j:Int)(h:P.underlying t=θ (.slice e))(p:(Ο e).run P w=.ok sz w)(hx:aU n F x=.slice a m c)(f:aU n F y=.int k j)
  (l:0<=j/\j<=m):(χ (aU n F) (⟨θ d,.slice t x (θ y) ι ι,ty,pos,Ψ,ι⟩)).run P w=.ok (.value (.slice (kB a c j.toNat sz) (m-j.toNat) (c-j.toNat))) w:=by
 have i:=Iv h;have b:P.underlying t=θ (.slice (P.elem t)):=by rw[i];exact h
 have o:=run_slice_l w t a m c b k j l.1 l.2;rw[i,p]at o;simp only[χ,hx,f,Sem.run_bind,LW,kv,run_sliceAt_slice w t _ _ _ _ b,o,Result.andThen_ok,sliced,kB,Sem.run_pure]
theorem SJ{b:ε Ζ}{len cap sz k:Nat}{a:δ ς}(c:Rd w b a)(g:γ a=k*sz):(Builtin.firstCells sz k (.slice b len cap)).run P w=.ok a.toArray w:=by
 cases b with
 |none=>
  have:a=[]:=by
   cases a with
   |nil=>rfl
   |cons u i=>obtain⟨p,f,_⟩:=c 0 u aA2;cases f
  subst this;exact run_firstCells_none _ _ _ _ _
 |some p=>exact run_firstCells_some w sz _ p _ _ a g (λj v d=>by obtain⟨q,e,h⟩:=c j v d;cases e;exact h)
theorem If{u:Ε}(C:Hp w0 S L w)(k g o b f:Nat)(A l:ε Ζ)(a c e sz:Nat)(cs i:δ ς)(z:L[k]? =θ (aX g cs e))(p:P.underlying t=θ (.slice e))(q:(Ο e).run P w=.ok sz w)
  (hx:aU n F x=.slice A b f) (D:A=θ ⟨g,o,ι⟩) (m:aU n F y=.slice l a c)
  (B:Rd w l i) (s:γ i=Ν a b*sz) (j:o+γ i<=γ cs) (G:∀v∈i,v.oneCell'=μ)
  (h:∀w',Hp w0 S (L.set k (aX g (iU cs o i) e)) w'->W P n Ω Q rest (cY F d (goInt (Ν a b))) w'):
  W P n Ω Q (⟨θ d,.call ⟨.builtin .copy,#[x,y],#[t,u]⟩,ty,pos,Ψ,ι⟩::rest) F w:=by
 subst D;obtain⟨w',r,E⟩:=Su (P:=P) (ty:=ty) (u:=u) C k g o b f l a c e sz cs i z p q B s j G;refine dY (w':=w') Τ Τ ?_ (h w' E);simp[χ,resolve,invoke,builtin,hx,m,r]
theorem w_appZ{v:Ε}{I:Δ}(M:Hp w0 S L w)(k:Nat)(o:ε Nat)(a:ε Ζ)(cap e sz b:Nat)(l:δ α)(j m:Nat)(H:Δ)(N:kZ f sz)(X:L[k]? =θ (bN f e sz o a cap l))(U:P.underlying t=θ (.slice e))(B:P.underlying v=θ (.int I))
  (hT:TI P e sz b) (dR:0<sz) (C:0<b) (Y:j<=γ l) (h0:0<m) (K:cap<j+m) (D:(j+m)*b<=140737488355328)
  (hx:aU n F x=.slice a j cap) (T:aU n F y=.int H m)
  (h:∀O G c w',γ c=G*sz->j+m<=G->G<=maxLen->c.take (j*sz)=(l.take j).flatMap f->Hp w0 S (aX O c e::L) w'->W P n Ω Q rest (cY F d (.slice (θ ⟨O,0,ι⟩) (j+m) G)) w'):
  W P n Ω Q (⟨θ d,.call ⟨.builtin .append,#[x,y],#[t,v]⟩,ty,pos,Ψ,ι⟩::rest) F w:=by
 obtain⟨i,z,Z,R,u,s,A⟩:=hT.parts;have a2:=jZ (GP _ C) D;have V:m*b<=140737488355328:=jZ (HA _ aA0) D;have hR:=Rd.BD N j (M.cP k X);have q:γ ((l.take j).flatMap f)=j*i.size:=by rw[N.flat,iW,XX Y,u]
 have g:(Builtin.firstCells i.size j (.slice a j cap)).run P w.drew=.ok ((l.take j).flatMap f).toArray w.drew:=SJ (by exact hR) q;have J:=Lib.run_append_grow_zeros w t v ty e i z H I U B Z R a j cap _ g m h0 (by rw[u];exact dR) K aA0 (by rw[s];omega) (growslice_fits K (by rw[s];exact D));have r:=grownCap_ge w (j+m) cap e;have p:=grownCap_le_maxLen w (j+m) cap e aE3;generalize grownCap w _ cap e=G at J r p;have E:=M.PS;have h2:=E.alloc (((l.take j).flatMap f).toArray++Builtin.zeroCells z.cells m++Builtin.zeroCells z.cells (G-(j+m))).toList e;refine dY (w':=w.drew.alloc (.cells (((l.take j).flatMap f).toArray++Builtin.zeroCells z.cells m++Builtin.zeroCells z.cells _) e)) Τ Τ ?_ (h w.heap.size G _ _ ?_ r p ?_ h2)
 ·simp[χ,resolve,invoke,builtin,hx,T,J]
 ·rw[u]at q;simp only[Array.length_toList,Array.size_append,List.size_toArray,q,Builtin.zeroCells,Array.size_map,Array.size_range,A];rw[<-eL,<-eL];congr 1;omega
 ·rw[u]at q;simp;rw[<-q,XA]
theorem HW{eV:Array Β}{q:Array Ε}{fn:Func}{tS tR:Ε}(t:Hp w0 S L w)(s r g b o e u sz:Nat)(B:ε Ζ)(cs i:δ ς)(j cb f:Nat)(c:FuncId)(m:L[s]? =θ (aX g cs e))(l:L[r]? =θ (aX b i u))(k:b≠g)(K:cs≠[])(z:P.underlying tS=θ (.slice e))(dR:∀w,(Ο e).run P w=.ok sz w)
  (D : B = θ ⟨g, o, ι⟩) (A : aU n F x = .func (.func c) #[] #[]) (C : #[] ++ eV.map (aU n F) ++ #[] = #[.slice (θ ⟨b, 0, ι⟩) f f, .slice B j cb]) (J : P.funcs[c]? = θ fn) (I : (fn.name == "runtime.NumGoroutine") = ν) (H : fn.body.isNone = μ) (G : Extern.findNext fn = ι) (E : Extern.find fn = θ (Extern.SlicesOverlaps.overlaps #[tS, tS] #[tR]))
  (h:W P n Ω Q rest (cY F d (.bool ν)) w):W P n Ω Q (⟨θ d,.call ⟨.value x,eV,q⟩,ty,pos,Ψ,ι⟩::rest) F w:=by
 subst D;have p:=t.bP s m;have a:=t.bP r l;have y:=run_callFunc_extern J I H G E (args:= #[.slice (θ ⟨b,0,ι⟩) f f,.slice (θ ⟨g,o,ι⟩) j cb]) (w:=w);rw[Lib.run_overlaps_apart w tS tR e z sz dR ⟨b,0,ι⟩ ⟨g,o,ι⟩ f f j cb k u e (γ i) (γ cs) (by simp[World.shape?,a]) (by simp[World.shape?,p]) (λh=>K (Gh h)) (by simp[World.frozen?,a]) (by simp[World.frozen?,a])]at y;refine dY (v:=.bool ν) (w':=w) Τ Τ ?_ h;simp only[χ,resolve,A];show Sem.run P (callFunc c _) w=_;rw[C,y];rfl
end
variable{c:Type}
def nE(l:δ c)(i:Int)(x:c):δ c:=l.take i.toNat++x::l.drop i.toNat
theorem nD(l:δ c)(i:Int)(x:c):γ (nE l i x)=γ l+1:=by unfold nE;simp;omega
variable{a b:δ ς}{o:Nat}
theorem vv(h:o+γ b<=γ a):γ (iU a o b)=γ a:=by unfold iU;simp;omega
theorem BH{m:Nat}(h:o+γ b<=γ a)(d:m<=o):(iU a o b).take m=a.take m:=by unfold iU;rw[nW,fA,hZ,XX d];have:m-γ (a.take o)=0:=aA3;rw[this,tN,gV]
theorem qT(h:o+γ b<=γ a):(iU a o b).take (o+γ b)=a.take o++b:=by unfold iU;have:o+γ b=γ (a.take o++b):=aA3;rw[this,XA]
section
variable{α:Type}{f:α->δ ς}{sz:Nat}
theorem RT(b:kZ f sz)(l:δ α)(i:Nat)(a:i<=γ l):(l.flatMap f).take (i*sz)=(l.take i).flatMap f:=by
 have d:l.flatMap f=(l.take i).flatMap f++(l.drop i).flatMap f:=aE9;have c:γ ((l.take i).flatMap f)=i*sz:=by rw[b.flat,iW,XX a]
 rw[d,<-c,XA]
theorem VI(b:kZ f sz)(l:δ α)(j:Nat)(c:j<=γ l)(cs:δ ς)(a:cs.take (γ l*sz)=l.flatMap f):(cs.drop (j*sz)).take ((γ l-j)*sz)=(l.drop j).flatMap f:=by rw[List.take_drop,<-eL,show j+(γ l-j)=γ l by omega,a];exact bgn f sz b.len l j
theorem tc(b:kZ f sz)(l:δ α)(x:α)(j:Nat)(k:j<=γ l)(cs:δ ς)(a:(γ l+1)*sz<=γ cs)(g:cs.take (j*sz)=(l.take j).flatMap f):
  (iU (iU cs (j*sz) (f x)) ((j+1)*sz) ((l.drop j).flatMap f)).take ((γ l+1)*sz)=(l.take j++x::l.drop j).flatMap f:=by
 have hx:=b.len x;have h:γ ((l.drop j).flatMap f)=(γ l-j)*sz:=by rw[b.flat,fY]
 have d:(j+1)*sz=j*sz+γ (f x):=by rw[hx,LX]
 have c:j*sz+γ (f x)<=γ cs:=by rw[<-d];exact jZ (HA _ aA0) a
 have e:(γ l+1)*sz=(j+1)*sz+γ ((l.drop j).flatMap f):=by rw[h,<-eL];congr 1;omega
 have i:(j+1)*sz+γ ((l.drop j).flatMap f)<=γ (iU cs (j*sz) (f x)):=by rw[vv c,<-e];exact a
 rw[e,qT i,d,qT c,g,GZ,wL,nW]
theorem EJ(c:kZ f sz)(l:δ α)(x:α)(j:Nat)(i:j<=γ l)(cs:δ ς)(b:(γ l+1)*sz<=γ cs):
  j*sz+γ (f x)<=γ cs/\(j+1)*sz+γ ((l.drop j).flatMap f)<=γ (iU cs (j*sz) (f x))/\γ (iU (iU cs (j*sz) (f x)) ((j+1)*sz) ((l.drop j).flatMap f))=γ cs:=by
 have hx:=c.len x;have e:γ ((l.drop j).flatMap f)=(γ l-j)*sz:=by rw[c.flat,fY]
 have g:(j+1)*sz=j*sz+γ (f x):=by rw[hx,LX]
 have a:j*sz+γ (f x)<=γ cs:=by rw[<-g];exact jZ (HA _ aA0) b
 have h:(γ l+1)*sz=(j+1)*sz+γ ((l.drop j).flatMap f):=by rw[e,<-eL];congr 1;omega
 have d:(j+1)*sz+γ ((l.drop j).flatMap f)<=γ (iU cs (j*sz) (f x)):=by rw[vv a,<-h];exact b
 exact⟨a,d,by rw[vv d,vv a]⟩
theorem Ao(b:kZ f sz)(l:δ α)(x:α)(j:Nat)(i:j<=γ l)(cs:δ ς)(e:(γ l+1)*sz<=γ cs):
  (j+1)*sz+γ ((l.drop j).flatMap f)<=γ cs/\j*sz+γ (f x)<=γ (iU cs ((j+1)*sz) ((l.drop j).flatMap f))/\γ (iU (iU cs ((j+1)*sz) ((l.drop j).flatMap f)) (j*sz) (f x))=γ cs:=by
 have hx:=b.len x;have d:γ ((l.drop j).flatMap f)=(γ l-j)*sz:=by rw[b.flat,fY]
 have g:(j+1)*sz=j*sz+γ (f x):=by rw[hx,LX]
 have h:(γ l+1)*sz=(j+1)*sz+γ ((l.drop j).flatMap f):=by rw[d,<-eL];congr 1;omega
 have a:(j+1)*sz+γ ((l.drop j).flatMap f)<=γ cs:=by rw[<-h];exact e
 have c:j*sz+γ (f x)<=γ (iU cs ((j+1)*sz) ((l.drop j).flatMap f)):=by rw[vv a,<-g];omega
 exact⟨a,c,by rw[vv c,vv a]⟩
theorem cw(b:kZ f sz)(l:δ α)(x:α)(j:Nat)(d:j<=γ l)(cs:δ ς)(n:(γ l+1)*sz<=γ cs)(k:cs.take (γ l*sz)=l.flatMap f):
  (iU (iU cs ((j+1)*sz) ((l.drop j).flatMap f)) (j*sz) (f x)).take ((γ l+1)*sz)=(l.take j++x::l.drop j).flatMap f:=by
 obtain⟨h,t,s⟩:=Ao b l x j d cs n;have hx:=b.len x;have m:γ ((l.drop j).flatMap f)=(γ l-j)*sz:=by rw[b.flat,fY]
 have i:(j+1)*sz=j*sz+γ (f x):=by rw[hx,LX]
 have e:(γ l+1)*sz=(j+1)*sz+γ ((l.drop j).flatMap f):=by rw[m,<-eL];congr 1;omega
 have q:(iU cs ((j+1)*sz) ((l.drop j).flatMap f)).take (j*sz)=(l.take j).flatMap f:=by rw[BH h (HA _ aA0),<-RT b l j d,<-k,hZ,XX (HA _ d)]
 have p:(iU cs ((j+1)*sz) ((l.drop j).flatMap f)).take ((γ l+1)*sz)=cs.take ((j+1)*sz)++(l.drop j).flatMap f:=by rw[e,qT h]
 have c:γ (cs.take ((j+1)*sz))=(j+1)*sz:=aB5
 have o:((iU cs ((j+1)*sz) ((l.drop j).flatMap f)).drop ((j+1)*sz)).take (γ ((l.drop j).flatMap f))=(l.drop j).flatMap f:=by
  rw[List.take_drop,<-e,p]
  conv=>lhs;arg 1;rw[<-c]
  rw[Pp]
 generalize r:iU cs _ _=g at*;unfold iU;have a:γ (g.take (j*sz)++f x)=(j+1)*sz:=by rw[cR,iW,i];omega
 rw[<-i,e,<-a,fA,xi aA0,mh,a,o,q,GZ,wL,nW]
end
open Go.IntKind renaming wrap → fD
open List renaming range → Ic
def cK(k:Δ)(n:Nat)(x:δ Int):δ ς:=(Ic n).map λj=>.int k (x.getD j 0)
def dM(n:Nat)(x:δ ζ):δ ς:=(Ic n).map λj=>bt (x.getD j 0)
def Gm(n:Nat)(x:δ Int)(i:Int)(v:Int):δ Int:=((Ic n).map λj=>x.getD j 0).set i.toNat v
def SI(n:Nat)(x:δ ζ)(i:Int)(v:ζ):δ ζ:=((Ic n).map λj=>x.getD j 0).set i.toNat v
theorem bhh(k:Δ)(n:Nat)(x:δ Int):γ (cK k n x)=n:=by simp[cK]
theorem zl(n:Nat)(x:δ ζ):γ (dM n x)=n:=by simp[dM]
theorem zB(k:Δ){n j:Nat}(x:δ Int)(h:j<n):(cK k n x)[j]? =θ (.int k (x.getD j 0)):=by rw[cK,aW,bX h];rfl
theorem Km{n j:Nat}(x:δ ζ)(h:j<n):(dM n x)[j]? =θ (bt (x.getD j 0)):=by rw[dM,aW,bX h];rfl
theorem U8(k:Δ)(n:Nat)(x:δ Int)(i v:Int)(h:0<=i/\i<(n:Int)):cK k n (Gm n x i v)=(cK k n x).set i.toNat (.int k v):=by
 refine cI λj=> ?_;by_cases a:j<n
 ·rw[zB k _ a,dK,zB k _ a,bhh];unfold Gm;rw[bF,dK];by_cases e:i.toNat=j
  ·rw[aB e,aB e,aB (by simpa using by omega),aB aA0];rfl
  ·rw[aA e,aA e,aW,bX a];rfl
 ·rw[bG aF6,bG (by rw[bD,bhh];omega)]
theorem U9(n:Nat)(x:δ ζ)(i:Int)(v:ζ)(h:0<=i/\i<(n:Int)):dM n (SI n x i v)=(dM n x).set i.toNat (bt v):=by
 refine cI λj=> ?_;by_cases a:j<n
 ·rw[Km _ a,dK,Km _ a,zl];unfold SI;rw[bF,dK];by_cases e:i.toNat=j
  ·rw[aB e,aB e,aB (by simpa using by omega),aB aA0];rfl
  ·rw[aA e,aA e,aW,bX a];rfl
 ·rw[bG (by rw[zl];omega),bG (by rw[bD,zl];omega)]
variable{a:Type}
theorem Ip(A M B:δ a)(j:Nat)(h:j<γ M):(A++(M++B))[γ A+j]? =M[j]? :=by rw[aM aA0,mh,aI h]
theorem OG(A M B:δ a)(j:Nat)(v:a)(h:j<γ M):(A++(M++B)).set (γ A+j) v=A++(M.set j v++B):=by rw[wJ _ _ aA0,mh,kr _ _ h]
section
variable{P:Θ}{n:Md}{Ω:Array Ι}{Q:Exit->Act->φ->Prop}{F:Nat->ς}{w w0:φ}{S:δ Nat}{L:δ cL}
variable{d:Nat}{ty:Ε}{pos:String}{Ψ:Array Edge}{rest:δ Ι}
theorem bhd(c:ζ):fD .u32 ((c.toNat:Nat):Int)=(c.toNat:Int):=by have:=c.toNat_lt;unfold fD;simp only[IntKind.signed,IntKind.bits];first|omega|(simp;omega)
variable{x:Β}{t:Ε}
theorem x_cmpl(k:Δ)(a m:Int)(hx:aU n F x=.int k a)(c:k.signed=ν)(b:k.max=m):(χ (aU n F) (⟨θ d,.unOp .xor t x,ty,pos,Ψ,ι⟩)).run P w=.ok (.value (.int k (k.wrap ((BitVec.ofInt k.bits m^^^BitVec.ofInt k.bits a).toNat)))) w:=by simp only[χ,hx,Op.unary,c,b];rfl
theorem NZ(n:Nat):2^n=((2^n:Nat):Int):=aA2
theorem JC(n:Nat):0<((2^n:Nat):Int):=by have:=Nat.two_pow_pos n;omega
variable{y:Β}
theorem vL{t':Ε}(k:Δ)(a b:Int)(hx:aU n F x=.int k a)(c:aU n F y=.int k b)(h:W P n Ω Q rest (cY F d (.int k (cU k a b))) w):W P n Ω Q (⟨θ d,.binOp .xor t x y t',ty,pos,Ψ,ι⟩::rest) F w:=by
 have e:(χ (aU n F) (⟨θ d,.binOp .xor t x y t',ty,pos,Ψ,ι⟩)).run P w=.ok (.value (.int k (cU k a b))) w:=by simp only[χ,hx,c,binOp,QU];rfl
 exact dY Τ Τ e h
theorem w_neg(k:Δ)(a:Int)(hx:aU n F x=.int k a)(h:W P n Ω Q rest (cY F d (.int k (k.wrap (0-a)))) w):W P n Ω Q (⟨θ d,.unOp .neg t x,ty,pos,Ψ,ι⟩::rest) F w:=by
 have b:(χ (aU n F) (⟨θ d,.unOp .neg t x,ty,pos,Ψ,ι⟩)).run P w=.ok (.value (.int k (k.wrap (0-a)))) w:=by simp only[χ,hx];rfl
 exact dY Τ Τ b h
def Rn(s:δ ζ):Int:=match Lib.atoiAll s with
 |.ok v=>v
 |.range=>Lib.atoiSat s
 |_=>0
def lq(s:δ ζ):η:=match Lib.atoiAll s with
 |.ok _=>μ
 |_=>ν
def ud(b:η)(a N:Nat):ς:=bif b then .nilIface else .iface a (.pointer (θ ⟨N,0,ι⟩))
theorem w_ifnn{t':Ε}(b:η)(a N:Nat)(e:P.underlying t=θ (.interface (P.methodsAt t)))(hx:aU n F x=ud b a N)(h:W P n Ω Q rest (cY F d (.bool (!b))) w):W P n Ω Q (⟨θ d,.binOp .neq t x (.const .nilIface) t',ty,pos,Ψ,ι⟩::rest) F w:=by
 have c:aU n F (.const .nilIface)=.nilIface:=Τ;have f:(χ (aU n F) (⟨θ d,.binOp .neq t x (.const .nilIface) t',ty,pos,Ψ,ι⟩)).run P w=.ok (.value (.bool (!b))) w:=by
  cases b with
  |true=>simp only[ud]at hx;simp[χ,hx,c,eqGuard,(run_neq_nil_nil w t e)]
  |false=>simp only[ud]at hx;simp[χ,hx,c,eqGuard,(run_neq_held_nil w t a (.pointer (θ ⟨N,0,ι⟩)) e)]
 exact dY Τ Τ f h
theorem QF(b off m:Nat)(cs A B:δ ς)(q:Δ)(l:δ Int)(e:Ε)(i:Int)(c:w.heap[b]? =θ (.cells cs.toArray e (0,0)))(a:cs=A++(cK q m l++B))(g:γ A=off)(h:0<=i/\i<m)
  (hx:aU n F x=.pointer (θ (ea (θ ⟨b,off,ι⟩) (i.toNat*1)))) (f:(isAgg t).run P w=.ok ν w):(χ (aU n F) (⟨θ d,.load t x,ty,pos,Ψ,ι⟩)).run P w=.ok (.value (.int q (el l i))) w:=by
 subst g;subst a;refine yM b (γ A+i.toNat) _ e _ c ?_ (hx.trans aD9) f;rw[Ip _ _ _ _ aF6,zB q l aA0];rfl
theorem Vy(b off m:Nat)(cs A B:δ ς)(l:δ ζ)(e:Ε)(i:Int)(c:w.heap[b]? =θ (.cells cs.toArray e (0,0)))(a:cs=A++(dM m l++B))(g:γ A=off)(h:0<=i/\i<m)
  (hx:aU n F x=.pointer (θ (ea (θ ⟨b,off,ι⟩) (i.toNat*1)))) (f:(isAgg t).run P w=.ok ν w):(χ (aU n F) (⟨θ d,.load t x,ty,pos,Ψ,ι⟩)).run P w=.ok (.value (bt (Υ l i))) w:=by
 subst g;subst a;refine yM b (γ A+i.toNat) _ e _ c ?_ (hx.trans aD9) f;rw[Ip _ _ _ _ (by rw[zl];omega),Km l aA0];rfl
theorem Wf(g:Hp w0 S L w)(k b off m:Nat)(cs A B:δ ς)(q:Δ)(l:δ Int)(e:Ε)(i:Int)(a:L[k]? =θ (aX b cs e))(c:cs=A++(cK q m l++B))(j:γ A=off)(o:0<=i/\i<m)
  (hx:aU n F x=.pointer (θ (ea (θ ⟨b,off,ι⟩) (i.toNat*1)))) (f:(isAgg t).run P w=.ok ν w) (h:W P n Ω Q rest (cY F d (.int q (el l i))) w):
  W P n Ω Q (⟨θ d,.load t x,ty,pos,Ψ,ι⟩::rest) F w:=by
 subst j;subst c;refine sX g k b (γ A+i.toNat) _ e _ a ?_ (hx.trans aD9) f h;rw[Ip _ _ _ _ aF6,zB q l aA0];rfl
theorem HU(r:Hp w0 S L w)(k b off m:Nat)(cs A B:δ ς)(q:Δ)(l:δ Int)(e:Ε)(i v:Int)(a:δ cL)(g:L[k]? =θ (aX b cs e))(j:cs=A++(cK q m l++B))(s:γ A=off)(o:0<=i/\i<m)
  (hx:aU n F x=.pointer (θ (ea (θ ⟨b,off,ι⟩) (i.toNat*1)))) (c:aU n F y=.int q v) (f:(Ο t).run P w=.ok 1 w) (p:L.set k (aX b (A++(cK q m (Gm m l i v)++B)) e)=a)
  (h:∀w',Hp w0 S a w'->W P n Ω Q rest F w'):
  W P n Ω Q (⟨ι,.store t x y,ty,pos,Ψ,ι⟩::rest) F w:=by
 subst s;subst j;subst p;refine Py r k b (γ A+i.toNat) _ e _ _ g ?_ (hx.trans aD9) c Τ f Τ λw' d=>h w' ?_
 ·simp only[cR,bhh];omega
 ·rw[U8 q m l i v o]
  rwa [OG _ _ _ _ _ aF6]at d
theorem w_stRB(q:Hp w0 S L w)(k b off m:Nat)(cs A B:δ ς)(l:δ ζ)(e:Ε)(i:Int)(v:ζ)(a:δ cL)(g:L[k]? =θ (aX b cs e))(j:cs=A++(dM m l++B))(r:γ A=off)(o:0<=i/\i<m)
  (hx:aU n F x=.pointer (θ (ea (θ ⟨b,off,ι⟩) (i.toNat*1)))) (c:aU n F y=bt v) (f:(Ο t).run P w=.ok 1 w) (p:L.set k (aX b (A++(dM m (SI m l i v)++B)) e)=a)
  (h:∀w',Hp w0 S a w'->W P n Ω Q rest F w'):
  W P n Ω Q (⟨ι,.store t x y,ty,pos,Ψ,ι⟩::rest) F w:=by
 subst r;subst j;subst p;refine Py q k b (γ A+i.toNat) _ e _ _ g ?_ (hx.trans aD9) c Τ f Τ λw' d=>h w' ?_
 ·simp only[cR,zl];omega
 ·rw[U9 m l i v o]
  rwa [OG _ _ _ _ _ (by rw[zl];omega)]at d
theorem jn{t m e:Nat}(a:P.underlying t=θ (.array m e)):P.underlying t=θ (.array (P.arrayLen t) (P.elem t))/\P.arrayLen t=m/\P.elem t=e:=by
 have c:P.arrayLen t=m:=by simp[Program.arrayLen,a]
 have b:P.elem t=e:=by simp[Program.elem,a]
 rw[c,b];exact⟨a,Τ,Τ⟩
theorem YL(b off m e:Nat)(k:Δ)(j:Int)(h:P.underlying t=θ (.array m e))(i:(Ο e).run P w=.ok 1 w)(hx:aU n F x=.pointer (θ ⟨b,off,ι⟩))(a:aU n F y=.int k j)
  (l:0<=j/\j<=m):(χ (aU n F) (⟨θ d,.slice t x ι (θ y) ι,ty,pos,Ψ,ι⟩)).run P w=.ok (.value (.slice (θ ⟨b,off,ι⟩) j.toNat m)) w:=by
 obtain⟨p,f,o⟩:=jn h;have g:=run_sliceAt_array_h w t ⟨b,off,ι⟩ p k j l.1 (by rw[f];omega);rw[f,o,i]at g;simp only[χ,hx,a,Sem.run_bind,LW,kv,g,slicedAt];split<;>simp[Addr.add]
theorem ZI(b off m e:Nat)(k:Δ)(j:Int)(i:P.underlying t=θ (.array m e))(l:(Ο e).run P w=.ok 1 w)(hx:aU n F x=.pointer (θ ⟨b,off,ι⟩))(a:aU n F y=.int k j)
  (o:0<=j/\j<m) (h:W P n Ω Q rest (cY F d (.slice (θ ⟨b,off+j.toNat,ι⟩) (m-j.toNat) (m-j.toNat))) w):W P n Ω Q (⟨θ d,.slice t x (θ y) ι ι,ty,pos,Ψ,ι⟩::rest) F w:=by
 obtain⟨q,f,p⟩:=jn i;have g:=run_sliceAt_array_l w t ⟨b,off,ι⟩ q k j o.1 (by rw[f];omega);rw[f,p,l]at g;refine dY (v:=.slice (θ ⟨b,off+j.toNat,ι⟩) (m-j.toNat) (m-j.toNat)) (w':=w) Τ Τ ?_ h;simp only[χ,hx,a,Sem.run_bind,LW,kv,g,Result.andThen_ok,slicedAt];rw[aA aA0];simp[Addr.add]
theorem nj(b off m e:Nat)(c:P.underlying t=θ (.array m e))(f:(Ο e).run P w=.ok 1 w)(hx:aU n F x=.pointer (θ ⟨b,off,ι⟩))
  (h:W P n Ω Q rest (cY F d (.slice (θ ⟨b,off,ι⟩) m m)) w):W P n Ω Q (⟨θ d,.slice t x ι ι ι,ty,pos,Ψ,ι⟩::rest) F w:=by
 obtain⟨j,i,g⟩:=jn c;have a:=run_sliceAt_array_all w t ⟨b,off,ι⟩ j;rw[i,g,f]at a;refine dY (v:=.slice (θ ⟨b,off,ι⟩) m m) (w':=w) Τ Τ ?_ h;simp only[χ,hx,Sem.run_bind,kv,a,slicedAt];split<;>simp[Addr.add]
def xK(n:Nat)(x:δ ζ):δ ζ:=(Ic n).map λj=>x.getD j 0
@[simp] theorem FI (n:Nat) (x:δ ζ):γ (xK n x)=n:=by simp[xK]
theorem uc(x:δ ζ):xK (γ x) x=x:=by
 refine cI λj=> ?_;unfold xK;by_cases h:j<γ x
 ·rw[aW];simp[h]
 ·rw[bG aA3,bG aA0]
theorem Kn(n:Nat)(x:δ ζ):dM n x=(xK n x).flatMap eB:=by
 have h:∀l:δ ζ,l.flatMap eB=l.map bt:=λl=>by
  induction l with
  |nil=>rfl
  |cons a l b=>rw[wL,b];rfl
 rw[h];simp[dM,xK]
theorem pb(l:δ ζ)(n:Nat)(h:γ l=n):dM n l=l.flatMap eB:=by rw[Kn,<-h,uc]
theorem yk{k b off m:Nat}{cs A B:δ ς}{l:δ ζ}(u:Hp w0 S L w)(s:L[k]? =θ (aX b cs t))(g:cs=A++(dM m l++B))(x:γ A=off)(j c:Nat)(y:j+c<=m):Rd w (θ ⟨b,off+j,ι⟩) ((((xK m l).drop j).take c).flatMap eB):=by
 subst x;subst g;intro i v d;have n:=Kn m l;have h:∀q:δ ζ,q.flatMap eB=q.map bt:=λq=>by
  induction q with
  |nil=>rfl
  |cons a q o=>rw[wL,o];rfl
 rw[h,aW]at d;rw[h]at n;have f:i<c:=by
  rcases Ia i c with f|f
  ·exact f
  ·rw[bG aA3]at d;cases d
 obtain⟨p,r,e⟩:=(u.gP k s) (γ A+(j+i)) v (by rw[Ip _ _ _ _ (by rw[zl];omega),n,aW];rw[bO,aB f,bV]at d;exact d);cases r;refine⟨_,Τ,?_⟩;rw[<-e,AM,AM,Ps,Cb]
def jJ(n:Nat)(x:δ ζ)(a:Nat)(s:δ ζ):δ ζ:=(xK n x).take a++s++(xK n x).drop (a+γ s)
theorem gw(n:Nat)(x:δ ζ)(a:Nat)(s:δ ζ)(h:a+γ s<=n):γ (jJ n x a s)=n:=by unfold jJ;simp only[cR,iW,fY,FI];omega
theorem RX(A B:δ ς)(m b:Nat)(l s:δ ζ)(h:b+γ s<=m):iU (A++(dM m l++B)) (γ A+b) (s.flatMap eB)=A++(dM m (jJ m l b s)++B):=by
 have e:∀q:δ ζ,q.flatMap eB=q.map bt:=λq=>by
  induction q with
  |nil=>rfl
  |cons a q c=>rw[wL,c];rfl
 have d:=FI m l;rw[(pb (jJ m l b s) m (gw m l b s h)),(Kn m l)];unfold iU jJ;generalize xK m l=q at d⊢;simp only[e,Gj];rw[fA,xi aA0,iG aA3,List.drop_append,Pu aA0,List.drop_append,show γ A+b+γ s-γ A=b+γ s by omega,show b+γ s-γ (q.map bt)=0 by simp;omega];simp
theorem SL{u:Ε}(E:Hp w0 S L w)(k g o b h:Nat)(i:ε Ζ)(a d e m sz:Nat)(cs c:δ ς)(B:L[k]? =θ (aX g cs m))(r:P.underlying t=θ (.slice e))(s:(Ο e).run P w=.ok sz w)
  (l:Rd w i c) (A:γ c=Ν a b*sz) (f:o+γ c<=γ cs) (F:∀v∈c,v.oneCell'=μ):
  ∃w',(Builtin.copy_ #[t,u] ty #[.slice (θ ⟨g,o,ι⟩) b h,.slice i a d]).run P w=.ok (goInt (Ν a b)) w'/\Hp w0 S (L.set k (aX g (iU cs o c) m)) w':=by
 obtain⟨w',x,G⟩:=E.stored (P:=P) B f F;refine⟨w',?_,G⟩
 have C:(Builtin.firstCells sz (Ν a b) (.slice i a d)).run P w=.ok c.toArray w:=by
  cases i with
  |none=>
   have:c=[]:=by
    cases c with
    |nil=>rfl
    |cons u H=>obtain⟨p,z,_⟩:=l 0 u aA2;cases z
   subst this;exact run_firstCells_none _ _ _ _ _
  |some p=>exact run_firstCells_some w sz _ p _ _ c A (λj v n=>by obtain⟨q,y,D⟩:=l j v n;cases y;exact D)
 simp[Builtin.copy_,run_underlying r,Builtin.lenOf,s,C,x]
theorem ZH{u:Ε}(X:Hp w0 S L w)(k b off m p g:Nat)(z:ε Ζ)(f e E:Nat)(cs A B:δ ς)(l s:δ ζ)(c:Nat)(I:δ cL)(R:L[k]? =θ (aX b cs E))(C:cs=A++(dM m l++B))(Y:γ A=off)(M:P.underlying t=θ (.slice e))(N:(Ο e).run P w=.ok 1 w)
  (hx:aU n F x=.slice (θ ⟨b,off+p,ι⟩) c g) (K:aU n F y=.slice z (γ s) f) (hc:p+c<=m) (U:Rd w z (s.flatMap eB)) (V:L.set k (aX b (A++(dM m (jJ m l p (s.take c))++B)) E)=I)
  (h:∀w',Hp w0 S I w'->W P n Ω Q rest (cY F d (.int .i64 (Ν (γ s) c))) w'):
  W P n Ω Q (⟨θ d,.call ⟨.builtin .copy,#[x,y],#[t,u]⟩,ty,pos,Ψ,ι⟩::rest) F w:=by
 subst Y;subst C;subst V;have o:∀q:δ ζ,q.flatMap eB=q.map bt:=λq=>by
  induction q with
  |nil=>rfl
  |cons a q J=>rw[wL,J];rfl
 have D:Rd w z ((s.take c).flatMap eB):=by
  intro i v j;refine U i v ?_;rw[o,aW]at j⊢;by_cases T:i<c
  ·rwa [bO,aB T]at j
  ·rw[bG aA3]at j;cases j
 have G:γ ((s.take c).flatMap eB)=Ν (γ s) c*1:=by rw[o,Gj,iW,Nat.mul_one];exact Nat.min_comm _ _
 have r:γ A+p+γ ((s.take c).flatMap eB)<=γ (A++(dM m l++B)):=by rw[G,cR,cR,zl];have:Ν (γ s) c<=c:=GN _ _;omega
 have Z:∀v∈(s.take c).flatMap eB,v.oneCell'=μ:=λv j=>by rw[o]at j;obtain⟨a,_,rfl⟩:=gD.1 j;rfl
 obtain⟨w',O,H⟩:=SL (P:=P) (ty:=ty) (u:=u) X k b _ c g z (γ s) f e E 1 _ _ R M N D G r Z;rw[RX A B m p l _ aB5]at H;refine dY (w':=w') Τ Τ ?_ (h w' H);simp[χ,resolve,invoke,builtin,hx,K,O,goInt]
end
def jmp:Nat->ε Code
 |0=>ι
 |1=>θ .ret
 |n+2=>θ (.exit n)
def kz(j:Nat):LoopState:=if j=0 then .ready else .done
def gX(l j:Nat)(a:Loop):cL:=⟨θ l,λo=>o=θ (.loop {a with state:=kz j,pending:=jmp j})⟩
def DL(l:Nat)(a:Loop):cL:=⟨θ l,λo=>∃b,o=θ (.loop {a with state:=.busy,pending:=b})⟩
def gk(r:Nat):cL:=⟨θ r,λo=>o=θ (.deferred (θ []))⟩
def gone(r:Nat):cL:=⟨θ r,λ_=>True⟩
variable{S:δ Nat}{L:δ cL}
theorem Hp.put{w0 w:φ}(h:Hp w0 S L w)(k b:Nat)(r r':cL)(o:Obj)(g:L[k]? =θ r)(d:r.own=θ b)(a:r'.own=θ b)(m:r'.ok (θ o)):Hp w0 S (L.set k r') (w.putObj b o):=by
 have l:=((h.res _ (aL g)).2 b d).1;refine h.change k _ _ g Τ Τ Τ aA2 (λj n f=>World.putObj_heap_other (λe=>f (by rw[d,e]))) ?_ (λc i=> ?_)
 ·unfold cL.holds;rw[a];simp;rw[World.putObj_heap_same l];exact m
 ·rw[a]at i;cases i;exact⟨.inl d,by simpa using l⟩
theorem Hp.jr{w0 w:φ}(h:Hp w0 S L w)(o:Obj)(r:cL)(a:r.own=θ w.heap.size)(d:r.ok (θ o)):Hp w0 S (r::L) (w.alloc o):=by
 have f:Hp w [] [r] (w.alloc o):=by
  refine⟨Τ,Τ,Τ,aA2,λk e _=>RowKit.Below.heap_alloc w _ k e,λx hx=> ?_,aA2⟩;simp at hx;subst hx;refine⟨?_,λb c=> ?_⟩
  ·unfold cL.holds;rw[a];show x.ok ((w.heap.push o)[w.heap.size]?);simpa using d
  ·rw[a]at c;cases c;simp
 exact h.kQ f
def YR(P:Θ)(l:Nat)(args:δ ς)(w:φ)(R:ς->φ->Prop):Prop:=
 ∃f a eV b,(Instr.yield l args.toArray).run P w=.ok (.round l f a eV b) w/\RoundIn Fence.wide 0 P l f a eV b w (λe w'=>∃v,e=.returned v/\R v w')
theorem YR.mono{P:Θ}{l:Nat}{args:δ ς}{w:φ}{R b:ς->φ->Prop}(h:YR P l args w R)(d:∀v w',R v w'->b v w'):YR P l args w b:=by obtain⟨f,a,eV,k,j,i⟩:=h;exact⟨f,a,eV,k,j,i.mono λe w' ⟨v,c,g⟩=>⟨v,c,d v w' g⟩⟩
section
variable{P:Θ}{Ω:Array Ι}{Q:Exit->Act->φ->Prop}{F:Nat->ς}{w w0:φ}{S:δ Nat}{L:δ cL}
variable{d:Nat}{ty:Ε}{pos:String}{Ψ:Array Edge}{rest:δ Ι}{k:Nat}{D:δ Deferred}{ro:ε Nat}
variable{g:Β}
theorem Wb{eV:Array Β}{c:Array Ε}(l:Nat)(vs:δ ς)(R:ς->φ->Prop)
  (m:aU ⟨k,D,θ ro⟩ F g=.func (.yield l) #[] #[]) (p: #[]++eV.map (aU ⟨k,D,θ ro⟩ F)++ #[]=vs.toArray) (o:YR P l vs w R) (h:∀v w',R v w'->W P ⟨k,D,θ ro⟩ Ω Q rest (cY F d v) w'):
  W P ⟨k,D,θ ro⟩ Ω Q (⟨θ d,.call ⟨.value g,eV,c⟩,ty,pos,Ψ,ι⟩::rest) F w:=by
 obtain⟨f,b,i,t,s,r⟩:=o;have a:(χ (aU ⟨k,D,θ ro⟩ F) (⟨θ d,.call ⟨.value g,eV,c⟩,ty,pos,Ψ,ι⟩:Ι)).run P w=.ok (.round l f b i t) w:=by simp only[χ,resolve,m,Deferred.ofValue];show Sem.run P (Instr.yield l (#[]++eV.map (aU ⟨k,D,θ ro⟩ F)++ #[])) w=_;rw[p];exact s
 unfold W WR;refine wpListIn_plain Τ λK q=>⟨λ_ _=>trivial,?_⟩;rw[HF,mQ _ a (λd e=>by cases e),a,Oper.uponIn_round];refine⟨λh=>absurd h Bool.false_ne_true,?_⟩;refine RoundIn.mono (F:=Fence.wide) (n:=0) r ?_;rintro e w' ⟨v,rfl,j⟩;refine q _ _ ?_;have:=h v w' j;unfold W WR at this;rw[<-lV]at this;exact this
variable{e:FuncId}{c:Func}{f:Code}{a:δ ς}{R:ς->φ->Prop}
theorem fe(d:P.funcs[e]? =θ c)(g:c.body=θ f)(j:c.ntmps=k)(b:γ a<=k)
  (h:C P ⟨k,[],θ ι⟩ (bodyPost P c λi w'=>∃v,i=.returned v/\R v w') f (KX a) w):CR P e a w R:=by
 refine(callsIn_wide (n:=0)).1 (callsIn_of_wp d g trivial ?_);rw[j,Yq a k b];unfold C CC at h;exact h
theorem fc(d:P.funcs[e]? =θ c)(g:c.body=θ f)(j:c.ntmps=k)(b:γ a<=k)
  (h:C P ⟨k,[],θ ι⟩ (bodyPostM Fence.wide 0 P c λi w'=>∃v,i=.returned v/\R v w') f (KX a) w):CR P e a w R:=by
 refine(callsIn_wide (n:=0)).1 (callsIn_of_wp_marks d g trivial ?_);rw[j,Yq a k b];unfold C CC at h;exact h
def mark(r:Nat):Deferred:={target:=.collected r,args:= #[]}
theorem m_res0(h:∃v,(results c (fr ⟨k,[],ι⟩ F).tmps).run P w=.ok v w/\R v w):
  bodyPostM Fence.wide 0 P c (λe w'=>∃v,e=.returned v/\R v w') .ret (fr ⟨k,[],θ ι⟩ F) w:=by
 obtain⟨v,b,a⟩:=h;exact⟨v,b,v,Τ,a⟩
theorem m_res1(i:Hp w0 S L w)(a r:Nat)(b:L[a]? =θ (gk r))(h:∀w',Hp w0 S (L.set a (gone r)) w'->∃v,(results c (fr ⟨k,[],ι⟩ F).tmps).run P w'=.ok v w'/\R v w'):
  bodyPostM Fence.wide 0 P c (λe w'=>∃v,e=.returned v/\R v w') .ret (fr ⟨k,[mark r],θ ι⟩ F) w:=by
 have d:=(i.res _ (aL b)).1;obtain⟨v,g,f⟩:=h _ (i.put a r _ _ _ b Τ Τ trivial);exact⟨aA2,.inl ⟨r,_,Τ,run_takeDeferred d,v,g,v,Τ,f⟩⟩
theorem NS{c:Nat}{fn:Func}{R:ς->φ->Prop}(l:δ ResultVar)(vs:δ ς)(v:ς)(f:fn.results=l.toArray)(g:γ l=γ vs)
  (e:∀(i:Nat) (x:ResultVar) (v:ς),l[i]? =θ x->vs[i]? =θ v->Vu P c F w x v) (b:(match vs with|[u]=>u|d=>.tuple d.toArray)=v) (h:R v w):
  ∃v,(results fn (fr ⟨c,[],ι⟩ F).tmps).run P w=.ok v w/\R v w:=⟨v,qZ l vs f g e v aC8,h⟩
theorem m_fin0{fn:Func}{R:ς->φ->Prop}(l:δ ResultVar)(vs:δ ς)(v:ς)(f:fn.results=l.toArray)(g:γ l=γ vs)
  (d:∀(i:Nat) (x:ResultVar) (v:ς),l[i]? =θ x->vs[i]? =θ v->Vu P k F w x v) (b:(match vs with|[u]=>u|c=>.tuple c.toArray)=v) (h:R v w):
  bodyPostM Fence.wide 0 P fn (λe w'=>∃v,e=.returned v/\R v w') .ret (fr ⟨k,[],θ ι⟩ F) w:=
 m_res0 (NS l vs v f g d aC8 h)
theorem JK{fn:Func}{R:ς->φ->Prop}(o:Hp w0 S L w)(c r:Nat)(n:L[c]? =θ (gk r))(l:δ ResultVar)(vs:δ ς)(v:ς)(j:fn.results=l.toArray)(m:γ l=γ vs)
  (g:∀w',Hp w0 S (L.set c (gone r)) w'->∀(i:Nat) (x:ResultVar) (v:ς),l[i]? =θ x->vs[i]? =θ v->Vu P k F w' x v) (b:(match vs with|[u]=>u|f=>.tuple f.toArray)=v) (h:∀w',Hp w0 S (L.set c (gone r)) w'->R v w'):
  bodyPostM Fence.wide 0 P fn (λe w'=>∃v,e=.returned v/\R v w') .ret (fr ⟨k,[mark r],θ ι⟩ F) w:=
 m_res1 o c r n λw' d=>NS l vs v j m (g w' d) aC8 (h w' d)
def RgQ(P:Θ)(k r:Nat)(Q:Exit->Act->φ->Prop)(F:Nat->ς)(j:Nat)(w:φ):Prop:=
 match jmp j with
 |none=>Q .normal (fr ⟨k,[mark r],θ ι⟩ F) w
 |some c=>C P ⟨k,[mark r],θ ι⟩ Q c F w
variable{l:Nat}
theorem rg0{j:Nat}(a:j=0)(h:Q .normal (fr ⟨k,[mark l],θ ι⟩ F) w):RgQ P k l Q F j w:=by subst a;exact h
theorem rg1{j:Nat}(a:j=1)(h:C P ⟨k,[mark l],θ ι⟩ Q .ret F w):RgQ P k l Q F j w:=by subst a;exact h
theorem Gc{b:Array Tmp}{assign body:Code}(A:Hp w0 S L w)(f:Nat)(cap:δ ς)(x:aU ⟨k,[],θ ι⟩ F g=.func (.func f) #[] cap.toArray)(B:Enters P f)
  (h:∀r l a q,a.assign=assign->a.body=body->a.params=b->a.tmps=(fr ⟨k,[],θ ι⟩ F).tmps->Hp w0 S (gX l 0 a::gk r::L) q->
   CR P f (.func (.yield l) #[] #[]::cap) q λ_ i=>∃j o,Hp w0 S (gX l j a::o) i/\∀p,Hp w0 S o p->RgQ P k r Q F j p):
  C P ⟨k,[],θ ι⟩ Q (.rangeFunc g b assign body) F w:=by
 unfold C CC;refine wpIn_rangeFunc λfn _=> ?_;have n:=A.jr _ (gk w.heap.size) Τ Τ;have m:=n.jr _ (gX (w.heap.size+1) 0 {state:=.ready,pending:=ι,fn:=fn,tmps:=(fr ⟨k,[],θ ι⟩ F).tmps,params:=b,assign:=assign,body:=body,defers:=w.heap.size}) (by simp[gX]) Τ;have y:=h w.heap.size _ _ _ Τ Τ Τ Τ m;refine⟨w.heap.size+1,[mark w.heap.size],((w.alloc _).alloc _),{target:=.fn (.func f) cap.toArray,args:= #[]++ #[.func (.yield (w.heap.size+1)) #[] #[]]},((w.alloc (.deferred (θ []))).alloc (.loop {state:=.ready,pending:=ι,fn:=fn,tmps:=(fr ⟨k,[],θ ι⟩ F).tmps,params:=b,assign:=assign,body:=body,defers:=w.heap.size})),f,(Λ (.yield (w.heap.size+1)) #[] #[]::cap).toArray,((w.alloc (.deferred (θ []))).alloc (.loop {state:=.ready,pending:=ι,fn:=fn,tmps:=(fr ⟨k,[],θ ι⟩ F).tmps,params:=b,assign:=assign,body:=body,defers:=w.heap.size})),run_enterLoop_outer fn _ _ _ _,?_,λ_ _=>trivial,?_,λh=>absurd h Bool.false_ne_true,?_⟩
 ·rw[HF];simp only[resolve,x];simp;rfl
 ·have e:(#[]++ #[Λ (.yield (w.heap.size+1)) #[] #[]]:Array ς)++cap.toArray=(Λ (.yield (w.heap.size+1)) #[] #[]::cap).toArray:=by simp
  rw[<-e];exact B.run _ _
 ·refine(callsIn_wide).2 (Calls.mono y ?_);rintro e i ⟨v,rfl,j,o,s,E⟩;have u:i.heap[w.heap.size+1]? =_:=(s.res _ (iK)).1;have z:kz j≠.busy:=by unfold kz;split<;>simp
  refine⟨jmp j,_,run_endLoop u z,?_⟩;have D:=(s.put 0 _ _ (gone _) (.loop {({state:=.ready,pending:=ι,fn:=fn,tmps:=(fr ⟨k,[],θ ι⟩ F).tmps,params:=b,assign:=assign,body:=body,defers:=w.heap.size}:Loop)with state:=.exhausted,pending:=jmp j}) Τ Τ Τ trivial).tail;have d:=E _ D;unfold RgQ at d;revert d;generalize jmp j=t;intro d;cases t with
  |none=>exact d
  |some c=>unfold C CC at d;exact d
def Wi(F:Nat->ς):δ Nat->δ ς->Nat->ς
 |p::b,v::a=>Wi (cY F p v) b a
 |_,_=>F
theorem Sg(m:Md):∀a vs F,(a.zip vs).foldl (λt x=>t.setIfInBounds x.1 x.2) (fr m F).tmps=(fr m (Wi F a vs)).tmps
 |[],_,F=>by simp[Wi]
 |_::_,[],F=>by simp[Wi]
 |p::a,v::vs,F=>by simp only[List.zip_cons_cons,QW,Wi];rw[<-Sg m a vs _];congr 1;have:=lV m F p v;exact bM Act.tmps this
def AsgQ(P:Θ)(l:Nat)(c:Code)(R:ς->φ->Prop):Exit->Act->φ->Prop:=
 Exit.then (λd b=>∃a,(Instr.beginRound l).run P b=.ok () a/\c.wpIn (fen (θ l)) 0 P (roundPost P l λe w'=>∃v,e=.returned v/\R v w') d a) (λ_ _ _=>False)
def kd(P:Θ)(l:Nat)(R:ς->φ->Prop):Exit->Act->φ->Prop:=roundPost P l λe w'=>∃v,e=.returned v/\R v w'
variable{b:Loop}
theorem AR{t:δ Nat}{m:ε (ε Nat)}{c:Code}(q:Hp w0 S L w)(kl:Nat)(n:L[kl]? =θ (gX l 0 b))(p:b.assign=f)(o:b.body=c)(d:b.params=t.toArray)(g:b.tmps=(fr ⟨k,[],m⟩ F).tmps)(j:γ t=γ a)
  (h:C P ⟨k,[],θ (θ l)⟩ (AsgQ P l c R) f (Wi F t a) w):YR P l a w R:=by
 have i:=(q.res _ (aL n)).1;subst p;subst o;refine⟨b.fn,_,b.assign,b.body,run_yield (r:={b with state:=kz 0,pending:=jmp 0}) i (by simp[d,j]),?_⟩;refine roundIn_of_wpIn trivial ?_;have e:(({b with state:=kz 0,pending:=jmp 0}:Loop).params.zip a.toArray).foldl (λtmps x=>tmps.setIfInBounds x.1 x.2) ({b with state:=kz 0,pending:=jmp 0}:Loop).tmps=(fr ⟨k,[],θ (θ l)⟩ (Wi F t a)).tmps:=by rw[d,g];have:=Sg ⟨k,[],m⟩ t a F;rw[show(fr ⟨k,[],θ _⟩ _).tmps=(fr ⟨k,[],m⟩ (Wi F t a)).tmps from Τ,<-this];simp
 unfold C CC at h;have s:fr ⟨k,[],θ _⟩ _={tmps:=(fr ⟨k,[],θ (θ l)⟩ (Wi F t a)).tmps,defers:=[]}:=Τ;rw[s,<-e]at h;exact h
theorem GA(d:Hp w0 S L w)(kl:Nat)(c:L[kl]? =θ (gX l 0 b))(h:∀a,Hp w0 S (L.set kl (DL l b)) a->C P ⟨k,[],θ (θ l)⟩ (kd P l R) f F a):
  AsgQ P l f R .normal (fr ⟨k,[],θ (θ l)⟩ F) w:=by
 have g:=(d.res _ (aL c)).1;have e:=h _ (d.put kl l _ _ (.loop {b with state:=.busy,pending:=jmp 0}) c Τ Τ ⟨_,Τ⟩);unfold C CC kd at e;exact⟨_,run_beginRound g Τ,e⟩
theorem NK(j:Nat)(e:Hp w0 S L w)(kl:Nat)(d:L[kl]? =θ (DL l b))(h:∀w',Hp w0 S (L.set kl (gX l j b)) w'->R (.bool (decide (j=0))) w'):
  ∃v w',(Instr.endRound l (jmp j)).run P w=.ok v w'/\∃u,Ending.returned v=.returned u/\R u w':=by
 obtain⟨k,f⟩:=(e.res _ (aL d)).1;have a:=f;have c:(jmp j).isNone=decide (j=0):=by
  cases j with
  |zero=>rfl
  |succ n=>cases n<;>rfl
 have i:(if(jmp j).isNone=μ then LoopState.ready else .done)=kz j:=by rw[c];unfold kz;simp
 refine⟨_,_,run_endRound _ a,_,Τ,?_⟩;rw[c];refine h _ ?_;have g:=e.put kl l _ (gX l j b) (.loop {b with state:=kz j,pending:=jmp j}) d Τ Τ Τ;rw[<-c,i];exact g
theorem Ko(c:Hp w0 S L w)(kl:Nat)(a:L[kl]? =θ (DL l b))(h:∀w',Hp w0 S (L.set kl (gX l 0 b)) w'->R (.bool μ) w'):kd P l R .normal (fr ⟨k,[],θ (θ l)⟩ F) w:=NK 0 c kl a h
theorem NJ(c:Hp w0 S L w)(kl:Nat)(a:L[kl]? =θ (DL l b))(h:∀w',Hp w0 S (L.set kl (gX l 1 b)) w'->R (.bool ν) w'):kd P l R .ret (fr ⟨k,[],θ (θ l)⟩ F) w:=NK 1 c kl a h
end
attribute [irreducible] RgQ AsgQ kd
open Go.Lib
open Go.Value renaming ownBlock → Gi
open Nat renaming beq → cT
theorem strCells_eq(l:aC):strCells (⟨l.toArray⟩)=l.flatMap eB:=by rw[Ay];simp[strCells,bt]
section
variable{P:Θ}{n:Md}{Ω:Array Ι}{Q:Exit->Act->φ->Prop}{F:Nat->ς}{w w0:φ}{S:δ Nat}{L:δ cL}
variable{d:Nat}{ty:Ε}{pos:String}{Ψ:Array Edge}{rest:δ Ι}
theorem U7{a:ε Ζ}{m cap e:Nat}{o:δ ς}(t u:Ε)(y:P.underlying t=θ (.slice e))(x:P.underlying u=θ .string)(S:TI P e 1 1)(G:(P.info? e).bind (·.zero)=θ (.int .u8 0))(b:w.ownsRow 0 e 1 (.slice a m cap) m o)(l:aC)
  (R:m+γ l<=140737488355328):
  ∃a' cap' w',(Builtin.append_ #[t,u] ty #[.slice a m cap,str l]).run P w=.ok (.slice a' (m+γ l) cap') w'/\w'.ownsRow 0 e 1 (.slice a' (m+γ l) cap') (m+γ l) (o++l.flatMap eB)/\
   w.grownBy w' (ξ a m cap).ownBlock/\∀p,a'=θ p->(∃q,a=θ q/\q.block=p.block)\/w.heap.size<=p.block:=by
 obtain⟨i,z,v,L,C,n,K⟩:=S.parts;have h:i.zero=θ (.int .u8 0):=by rw[v]at G;simpa using G
 have O:m+γ l<=maxLen:=aE3
 obtain⟨J,w',d,H,Q,s⟩:=run_append_own_string w 0 t u ty e i y x v h C n _ m o b ⟨l.toArray⟩ (by show m+γ l<=_;exact O) (by show m+γ l<=_;exact R) (eJ _);rw[strCells_eq]at H;have dR:(⟨l.toArray⟩:ByteArray).size=γ l:=Τ;have B:∃a' cap',J=.slice a' (m+γ l) cap'/\∀p,a'=θ p->(∃q,a=θ q/\q.block=p.block)\/w.heap.size<=p.block:=by
  have A:γ o=m:=by simpa using b.1
  rcases b.2 with⟨r,N⟩|⟨g,c,F,r,_,D,T,_,E,_⟩
  ·simp at r;obtain⟨rfl,rfl,rfl⟩:=r;by_cases I:γ l=0
   ·have:=s.2 ⟨Τ,by rw[dR];exact I⟩;exact⟨ι,0,by rw[this,I],λp f=>by cases f⟩
   ·have:=run_append_nil_string w t u ty e i _ y x v h ⟨l.toArray⟩ aA0 aE6 (by rw[n];omega);rw[this]at d;simp at d;refine⟨_,_,by rw[<-d.1,Ps,dR],λp f=>.inr ?_⟩;simp at f;subst f;simp
  ·simp at r;obtain⟨rfl,-,rfl⟩:=r;by_cases j:m+γ l<=cap
   ·have:=run_append_room_string w t u ty e i y x v C g m cap F D ⟨l.toArray⟩ j (by rw[dR];simp at E;omega);rw[this]at d;simp at d;refine⟨_,_,by rw[<-d.1,dR],λp f=>.inl ?_⟩;simp at f;subst f;exact⟨_,Τ,Τ⟩
   ·have k:=b.cells Τ;have:=run_append_grow_string w t u ty e i _ y x v h _ m cap o (by rw[C];simpa using A) k _ aE6 aE6 (by rw[n];exact growslice_fits aA0 aA0);rw[this]at d;simp at d;refine⟨_,_,by rw[<-d.1,dR],λp f=>.inr ?_⟩;simp at f;subst f;simp
 obtain⟨a',cap',rfl,M⟩:=B;exact⟨a',cap',w',d,H,Q,M⟩
variable{x y:Β}{t u:Ε}
theorem ZJ(K:Hp w0 S L w)(k:Nat)(o:ε Nat)(a:ε Ζ)(cap e:Nat)(l c:aC)(D:L[k]? =θ (bN eB e 1 o a cap l))(I:P.underlying t=θ (.slice e))(s:P.underlying u=θ .string)(U:TI P e 1 1)(M:(P.info? e).bind (·.zero)=θ (.int .u8 0))
  (hx:aU n F x=.slice a (γ l) cap) (Y:aU n F y=str c) (v:(γ l+γ c)*1<=140737488355328)
  (h:∀o' a' cap' w',Hp w0 S (L.set k (bN eB e 1 o' a' cap' (l++c))) w'->W P n Ω Q rest (cY F d (.slice a' (γ (l++c)) cap')) w'):
  W P n Ω Q (⟨θ d,.call ⟨.builtin .append,#[x,y],#[t,u]⟩,ty,pos,Ψ,ι⟩::rest) F w:=by
 have q:=(aE.1 D).1;have H:∀T:ε Ζ,Hp w0 S (L.set k (row (.slice T (γ l) cap) e 1 (γ l) (l.flatMap eB))) w->∃a' cap' w',(Builtin.append_ #[t,u] ty #[.slice T (γ l) cap,str c]).run P w=.ok (.slice a' (γ (l++c)) cap') w'/\∃o',Hp w0 S (L.set k (bN eB e 1 o' a' cap' (l++c))) w':=by intro T r;obtain⟨a',cap',w',m,ho,hg,hn⟩:=U7 t u I s U M (r.ownsRow (bE q)) c aA0;have A:=r.grown (bE q) hg ho hn;rw[LH,<-cR,<-GZ]at A;obtain⟨o',f⟩:=A.Sw k (bE q);rw[LH]at f;rw[<-cR]at m;exact⟨a',cap',w',m,o',f⟩
 have go:∀a' cap' w',(Builtin.append_ #[t,u] ty #[.slice a (γ l) cap,str c]).run P w=.ok (.slice a' (γ (l++c)) cap') w'->(∃o',Hp w0 S (L.set k (bN eB e 1 o' a' cap' (l++c))) w')->
   W P n Ω Q (⟨θ d,.call ⟨.builtin .append,#[x,y],#[t,u]⟩,ty,pos,Ψ,ι⟩::rest) F w:=by
  rintro a' cap' w' m ⟨o',f⟩;refine dY (w':=w') Τ Τ ?_ (h o' a' cap' w' f);simp only[χ,resolve,invoke,builtin,List.map_toArray,qO,gE,hx,Y,Sem.run_bind,Sem.run_pure,Result.andThen_ok,m]
 cases o with
 |some g=>obtain⟨a',cap',w',m,f⟩:=H a (K.ND Bw k D).2;exact go a' cap' w' m f
 |none=>
  obtain⟨h1,_⟩:=K.res _ (aL D);have O:l=[]/\cap=0:=by
   rcases h1 with⟨_,A,f,_⟩|⟨g,a9,A,_⟩
   ·exact⟨A,f⟩
   ·cases A
  obtain⟨rfl,rfl⟩:=O;have C:Hp w0 S (L.set k (row _ e 1 0 [])) w:=K.change k _ _ D Τ Τ Τ (dC _) (λ_ _ _=>rfl) ⟨aA2,.inl ⟨Τ,Τ⟩⟩ (λb v=>by simp[row,Gi]at v);obtain⟨a',cap',w',m,f⟩:=H ι C;cases a with
  |none=>exact go a' cap' w' m f
  |some p=>
   obtain⟨i,z,J,X,Z,G,V⟩:=U.parts;have B:i.zero=θ (.int .u8 0):=by rw[J]at M;simpa using M
   have dR:(⟨c.toArray⟩:ByteArray).size=γ c:=Τ;by_cases hm:γ c=0
   ·have R:=Gh hm;subst R;have hf:=run_firstCells_string (P:=P) w 1 ⟨#[]⟩;have N:(Builtin.firstCells 1 0 _).run P w=.ok #[] w:=hf;refine go (θ p) 0 w ?_ ⟨ι,?_⟩
    ·show(Builtin.append_ #[t,u] ty #[.slice (θ p) 0 0,.string ⟨#[]⟩]).run P w=.ok (.slice (θ p) 0 0) w;have R:(⟨#[]⟩:ByteArray).size=0:=Τ;simp[Builtin.append_,run_underlying I,run_underlying s,Ο,typeInfo,J,Z,Builtin.lenOf,storeCells,R,N]
    ·have e:L.set k (bN eB e 1 ι (θ p) 0 ([]++[]))=L:=by
      apply cI;intro j;by_cases E:j=k
      ·subst E;rw[bE q,D];rfl
      ·rw[gF (λe=>E e.symm)]
     rw[e];exact K
   ·refine go a' cap' w' ?_ f;rw[<-m];have h5:=run_append_grow_string w t u ty e i _ I s J B p 0 0 [] aA2 (λj u s=>by simp at s) _ aE6 (by rw[dR];simp at v;omega) (by rw[G];exact growslice_fits aA0 (by simp at v;omega));have h6:=run_append_nil_string w t u ty e i _ I s J B _ aE6 (by rw[dR];simp at v;omega) (by rw[G];simp at v;omega);show(Builtin.append_ #[t,u] ty #[.slice _ 0 0,.string _]).run P w=(Builtin.append_ #[t,u] ty #[.slice ι 0 0,.string _]).run P w;rw[h5,h6];simp[strCells]
variable{e:Ε}
theorem HP(p:ε Ζ)(a:P.underlying t=θ (.pointer e))(hx:aU n F x=.pointer p)(b:aU n F y=.pointer ι):(χ (aU n F) (⟨θ d,.binOp .eql t x y u,ty,pos,Ψ,ι⟩)).run P w=.ok (.value (.bool p.isNone)) w:=by
 have c:P.pointee t=e:=by simp[Program.pointee,a]
 have g:=run_equal_pointer_nil w t p (by rw[c];exact a);have f:(binOp .eql t (.pointer p) (.pointer ι)).run P w=.ok (.bool p.isNone) w:=by simp only[binOp];simp[g]
 simp[χ,hx,b,eqGuard,f]
theorem ZF(p:ε Ζ)(b:P.underlying t=θ (.pointer e))(hx:aU n F x=.pointer p)(a:aU n F y=.pointer ι)(h:W P n Ω Q rest (cY F d (.bool p.isNone)) w):W P n Ω Q (⟨θ d,.binOp .eql t x y u,ty,pos,Ψ,ι⟩::rest) F w:=dY Τ Τ (HP p b hx a) h
theorem mu(a:Ζ)(c:P.underlying t=θ (.pointer e))(g:(P.info? e).isSome=μ)(hx:aU n F x=.pointer (θ a))(b:aU n F y=.pointer (θ a))(h:W P n Ω Q rest (cY F d (.bool ν)) w):W P n Ω Q (⟨θ d,.binOp .neq t x y u,ty,pos,Ψ,ι⟩::rest) F w:=by obtain⟨j,f⟩:=AB.1 g;have i:=run_neq_ptr_same w a c f;refine dY (v:=.bool ν) (w':=w) Τ Τ ?_ h;simp[χ,hx,b,eqGuard,i]
theorem mr(v:Hp w0 S L w)(k b off s:Nat)(cs:δ ς)(o:L[k]? =θ (aX b cs s))(l:P.underlying t=θ (.pointer e))(g:P.underlying u=θ .unsafePointer)(q:((P.info? e).map (λi=>cT i.size 0))=θ ν)(m:off<γ cs)(hx:aU n F x=.pointer (θ ⟨b,off,ι⟩))
  (h:W P n Ω Q rest (cY F d (.pointer (θ ⟨b,off,ι⟩))) w):W P n Ω Q (⟨θ d,.convert t u x,ty,pos,Ψ,ι⟩::rest) F w:=by
 obtain⟨j,p,a⟩:=cH.1 q;have f:j.size≠0:=λz=>by rw[z]at a;cases a
 have r:=v.bP k o;have c:w.shape? b=θ (s,γ cs):=by simp[World.shape?,r]
 have y:=run_to_unsafe w ⟨b,off,ι⟩ l g p f c m;refine dY (w':=w) Τ Τ ?_ h;simp[χ,hx,y]
theorem mw(p:Hp w0 S L w)(k b off s:Nat)(cs:δ ς)(i:L[k]? =θ (aX b cs s))(f:P.underlying t=θ .unsafePointer)(c:P.underlying u=θ (.pointer e))(m:(P.info? e).isSome=μ)(g:liesAt P P.depth s (γ cs/P.cellsOf s) off e 1=μ)(hx:aU n F x=.pointer (θ ⟨b,off,ι⟩))
  (h:W P n Ω Q rest (cY F d (.pointer (θ ⟨b,off,ι⟩))) w):W P n Ω Q (⟨θ d,.convert t u x,ty,pos,Ψ,ι⟩::rest) F w:=by
 obtain⟨j,l⟩:=AB.1 m;have o:=p.bP k i;have a:w.shape? b=θ (s,γ cs):=by simp[World.shape?,o]
 have q:=run_from_unsafe w ⟨b,off,ι⟩ f c l a g;refine dY (w':=w) Τ Τ ?_ h;simp[χ,hx,q]
theorem mx{eV : Array Β}{a : Array Ε}{fn : Func}(j : Hp w0 S L w)(f : FuncId)(v : ς)(g : aU n F x = .func (.func f) #[] #[])(i : #[] ++ eV.map (aU n F) ++ #[] = #[v])(p : P.funcs[f]? = θ fn)(o : (fn.name == "runtime.NumGoroutine") = ν)(m : fn.body.isNone = μ)(l : Extern.findNext fn = ι)(k : Extern.find fn = θ Extern.AbiNoEscape.same)
  (h:∀w',Hp w0 S L w'->W P n Ω Q rest (cY F d v) w'):W P n Ω Q (⟨θ d,.call ⟨.value x,eV,a⟩,ty,pos,Ψ,ι⟩::rest) F w:=by
 have c:=run_callFunc_extern (P:=P) p o m l (e:=Extern.AbiNoEscape.same) k (args:= #[v]) (w:=w);rw[run_noEscape]at c;refine dY (v:=v) (w':=w) Τ Τ ?_ (h w j);simp only[χ,resolve,g,Deferred.ofValue];show Sem.run P (callFunc f (#[]++eV.map (aU n F)++ #[])) w=_;rw[i,c];rfl
end
open Go.Op renaming bytesLess → qK
open List renaming replicate → jM
open Nat renaming blt → iJ
def Wn{α:Type}(P:Θ):Sem α->ε α
 |.pure a=>θ a
 |.program k=>Wn P (k P)
 |.mark _ k=>Wn P k
 |_=>ι
theorem yS{α:Type}{P:Θ}:∀{s:Sem α}{a:α},Wn P s=θ a->∀w,s.run P w=.ok a w:=by
 intro s;induction s with
 |pure a=>intro b h w;simp only[Wn,bH]at h;subst h;rfl
 |program k c=>intro b h w;exact c P h w
 |mark m k c=>intro b h w;exact c h w
 |_=>intro b h;simp[Wn]at h
def CZ(b:BinOp)(x y:ς):ε ς:=
 match x,y with
 |.string s,.string t=>
  match b with
  |.eql=>θ (.bool (decide (s.data.toList=t.data.toList)))
  |.neq=>θ (.bool (!decide (s.data.toList=t.data.toList)))
  |.lss=>θ (.bool (qK s.data.toList t.data.toList))
  |.gtr=>θ (.bool (!(qK s.data.toList t.data.toList||s.data.toList==t.data.toList)))
  |_=>ι
 |.int k a,.int k' c=>
  if k=k' then
   match b with
   |.lss=>θ (.bool (decide (a<c)))
   |.leq=>θ (.bool (decide (a<=c)))
   |.gtr=>θ (.bool (decide (c<a)))
   |.geq=>θ (.bool (decide (c<=a)))
   |.eql=>θ (.bool (decide (a=c)))
   |.neq=>θ (.bool (!decide (a=c)))
   |_=>ι
  else ι
 |_,_=>ι
def isLen:Callee->η
 |.builtin .len=>μ
 |_=>ν
def plen(P:Θ)(n:Md)(F:Nat->ς)(c:Call):ε ς:=
 bif isLen c.callee then
  match c.args.toList with
  |[x]=>match c.argTypes.toList with
   |[t]=>match P.underlying t with
    |some .string=>match aU n F x with|.string s=>θ (.int .i64 (γ s.data.toList))|_=>ι
    |some (.slice _)=>match aU n F x with|.slice _ m _=>θ (.int .i64 m)|_=>ι
    |_=>ι
   |_=>ι
  |_=>ι
 else ι
def Qn(P:Θ)(n:Md)(F:Nat->ς)(o:Ι):ε ς:=
 match o.op with
 |.move x=>θ (aU n F x)
 |.assign x=>θ (aU n F x)
 |.pick c a b=>match aU n F c with|.bool t=>θ (bif t then aU n F a else aU n F b)|_=>ι
 |.unOp .not _ x=>match aU n F x with|.bool b=>θ (.bool (!b))|_=>ι
 |.extract x i=>match aU n F x with|.tuple d=>d[i]? |_=>ι
 |.binOp b _ x y _=>CZ b (aU n F x) (aU n F y)
 |.call c=>plen P n F c
 |_=>match Wn P (χ (aU n F) o)with|some (.value v)=>θ v|_=>ι
section
variable{P:Θ}{n:Md}{Ω:Array Ι}{Q:Exit->Act->φ->Prop}{F:Nat->ς}{w:φ}
theorem FL(ρ : Β -> ς)(a : ε Nat)(op : Op)(ty : Ε)(pos : String)(Ψ : Array Edge)(g : ε (Nat × η)) : χ ρ ⟨a, op, ty, pos, Ψ, g⟩ = χ ρ ⟨θ 0, op, ty, "", #[], ι⟩ := rfl
variable{t:Ε}{i:ε Nat}{e:String}{d:Array Edge}{g:ε (Nat×η)}{v:ς}
theorem af{b:BinOp}{t':Ε}{x y:Β}{ty:Ε}(h:CZ b (aU n F x) (aU n F y)=θ v)(w:φ):
  (χ (aU n F) (⟨i,.binOp b t x y t',ty,e,d,g⟩)).run P w=.ok (.value v) w:=by
 rw[FL];generalize hx:aU n F x=a at h;generalize f:aU n F y=c at h;cases a with
 |string s=>
  cases c with
  |string t2=>
   have p:=hx;have m:=f;cases b<;>simp only[CZ,bH,reduceCtorEq]at h<;>subst h
   ·exact MC _ _ p m
   ·exact LZ _ _ p m
   ·exact MA _ _ p m
   ·exact MB _ _ p m
  |_=>simp[CZ]at h
 |int k a=>
  cases c with
  |int k' c=>
   by_cases j:k=k'
   ·subst j;cases b<;>simp only[CZ,gZ,bH,reduceCtorEq]at h<;>subst h
    ·exact MK k _ _ hx f
    ·exact YG k _ _ hx f
    ·exact YH k _ _ hx f
    ·exact YI k _ _ hx f
    ·exact MJ k _ _ hx f
    ·exact YK k _ _ hx f
   ·simp[CZ,j]at h
  |_=>simp[CZ]at h
 |_=>simp[CZ]at h
theorem Z9{c:Call}(h:plen P n F c=θ v)(w:φ):
  (χ (aU n F) (⟨i,.call c,t,e,d,g⟩:Ι)).run P w=.ok (.value v) w:=by
 rw[FL];obtain⟨cl,eV,j⟩:=c;unfold plen at h;cases b:isLen cl with
 |false=>rw[b]at h;cases h
 |true=>
  obtain rfl:cl=.builtin .len:=by
   unfold isLen at b;split at b
   ·rfl
   ·cases b
  rw[b]at h;simp only[aO]at h;obtain⟨eV⟩:=eV;obtain⟨j⟩:=j
  match eV,j,h with
  |[x],[q],h=>
   dsimp only at h;split at h
   ·rename_i f;split at h
    ·rename_i s hx;cases h;exact xq s.data.toList f hx
    ·cases h
   ·rename_i p f;split at h
    ·rename_i a m c hx;cases h;exact Jj a m c p f hx
    ·cases h
   ·cases h
  |[],_,h=>cases h
  |[_],[],h=>cases h
  |[_],_::_::_,h=>cases h
  |_::_::_,_,h=>cases h
variable{o:Ι}
theorem zO(h:Qn P n F o=θ v)(w:φ):(χ (aU n F) o).run P w=.ok (.value v) w:=by
 obtain⟨i,op,ty,pos,Ψ,g⟩:=o;unfold Qn at h;dsimp only at h;split at h
 ·cases h;rfl
 ·cases h;rfl
 ·rename_i c a b;rw[FL];split at h
  ·rename_i t f;cases h;exact YF t _ f Τ
  ·cases h
 ·rw[FL];split at h
  ·rename_i b hx;cases h;exact MF b hx
  ·cases h
 ·rw[FL];split at h
  ·rename_i d hx;exact Rz d v hx h
  ·cases h
 ·exact af h w
 ·exact Z9 h w
 ·split at h
  ·rename_i j e;cases h;exact yS e w
  ·cases h
def gof(Ω:Array Ι)(g:Nat):ε Nat:=(Ω[g]?).bind (·.dst)
def pvl(P:Θ)(n:Md)(Ω:Array Ι)(F:Nat->ς)(o:Ι):ς:=
 match o.guard with
 |none=>(Qn P n F o).getD undef
 |some (g,b)=>match gof Ω g with
  |none=>undef
  |some dg=>match F dg with
   |.bool c=>bif c==b then(Qn P n F o).getD undef else undef
   |_=>undef
def Xo(P:Θ)(n:Md)(Ω:Array Ι)(F:Nat->ς)(o:Ι):Nat->ς:=
 match o.dst with
 |none=>F
 |some d=>cY F d (pvl P n Ω F o)
def Am:ς->η
 |.tuple a=>a.toList.isEmpty
 |_=>ν
theorem Ng(h:Am v=μ):v=undef:=by
 unfold Am at h;split at h
 ·rename_i b;obtain⟨l⟩:=b;cases l with
  |nil=>rfl
  |cons a l=>cases h
 ·cases h
def Z8(P:Θ)(n:Md)(Ω:Array Ι)(F:Nat->ς)(o:Ι):η:=
 match o.dst with
 |none=>ν
 |some d=>match o.guard with
  |none=>(Qn P n F o).isSome
  |some (g,b)=>match gof Ω g with
   |none=>ν
   |some dg=>iJ dg n.n&&match F dg with
    |.bool c=>bif c==b then(Qn P n F o).isSome else μ
    |v=>Am v
def pF(P:Θ)(n:Md)(Ω:Array Ι):Nat->δ Ι->(Nat->ς)->Nat->ς
 |0,_,F=>F
 |_+1,[],F=>F
 |m+1,o::l,F=>pF P n Ω m l (Xo P n Ω F o)
def pOK(P:Θ)(n:Md)(Ω:Array Ι):Nat->δ Ι->(Nat->ς)->η
 |0,_,_=>μ
 |_+1,[],_=>ν
 |m+1,o::l,F=>Z8 P n Ω F o&&pOK P n Ω m l (Xo P n Ω F o)
variable{l:δ Ι}
theorem w_pok(a:Z8 P n Ω F o=μ)(h:W P n Ω Q l (Xo P n Ω F o) w):W P n Ω Q (o::l) F w:=by
 obtain⟨k,op,ty,pos,Ψ,gd⟩:=o;cases k with
 |none=>simp[Z8]at a
 |some d=>
  cases gd with
  |none=>
   simp only[Z8]at a;cases e:Qn P n F _ with
   |none=>rw[e]at a;cases a
   |some v=>simp only[Xo,pvl,e]at h;exact dY Τ Τ (zO e w) h
  |some q=>
   obtain⟨g,b⟩:=q;simp only[Z8]at a;cases i:gof Ω g with
   |none=>rw[i]at a;cases a
   |some dg=>
    rw[i]at a;simp only[Bv]at a;simp only[Xo,pvl,i]at h;cases j:F dg with
    |bool c=>
     rw[j]at a h;cases s:c==b with
     |true=>
      have f:c=b:=by simpa using s
      subst f;simp only[s]at a h;cases e:Qn P n F _ with
      |none=>rw[e]at a;exact absurd a.2 aA2
      |some v=>rw[e]at h;exact HY dg i a.1 j (dY Τ Τ (zO e w) h)
     |false=>
      have f:c= !b:=by cases c<;>cases b<;>simp_all
      subst f;simp at h;exact ya dg i a.1 j h
    |tuple r=>
     rw[j]at a h;have m:F dg=undef:=by rw[j];have p:=a.2;exact Ng p
     exact xz dg i a.1 m h
    |_=>rw[j]at a;exact absurd a.2 (by simp[Am])
theorem ZA:∀m l F,pOK P n Ω m l F=μ->W P n Ω Q (l.drop m) (pF P n Ω m l F) w->W P n Ω Q l F w
 |0,l,F,_,h=>h
 |m+1,[],F,a,_=>by simp[pOK]at a
 |m+1,o::l,F,a,h=>by simp only[pOK,Bv]at a;exact w_pok a.1 (ZA m l _ a.2 h)
theorem wp(m:Nat)(h:W P n Ω Q (l.drop m) (pF P n Ω m l F) w)(a:pOK P n Ω m l F=μ:=by kernel_rfl):W P n Ω Q l F w:=ZA m l F a h
variable{b:Nat}{c:δ Deferred}
theorem y_pok(a:Z8 P ⟨b,c,ι⟩ Ω F o=μ):YieldsIf P Ω (λ_=>True) o (pvl P ⟨b,c,ι⟩ Ω F o) (fr ⟨b,c,ι⟩ F):=by
 obtain⟨l,op,ty,pos,Ψ,gd⟩:=o;cases l with
 |none=>simp[Z8]at a
 |some d=>
  cases gd with
  |none=>
   simp only[Z8]at a;cases f:Qn P _ F _ with
   |none=>rw[f]at a;cases a
   |some v=>simp only[pvl,f];exact dA Τ λw _=>zO f w
  |some q=>
   obtain⟨g,k⟩:=q;simp only[Z8]at a;cases h:gof Ω g with
   |none=>rw[h]at a;cases a
   |some dg=>
    rw[h]at a;simp only[Bv]at a;simp only[pvl,h];cases i:F dg with
    |bool j=>
     rw[i]at a;cases m:j==k with
     |true=>
      have e:j=k:=by simpa using m
      subst e;simp only[m]at a⊢;cases f:Qn P _ F _ with
      |none=>rw[f]at a;exact absurd a.2 aA2
      |some v=>exact qP dg h a.1 i λw _=>zO f w
     |false=>
      have e:j= !k:=by cases j<;>cases k<;>simp_all
      subst e;simp;exact y_gno dg h a.1 i
    |tuple r=>
     rw[i]at a;have p:=a.2;have n:F dg=undef:=by rw[i];exact Ng p
     exact y_gun dg h a.1 n
    |_=>rw[i]at a;exact absurd a.2 (by simp[Am])
def rF(P:Θ)(n:Md)(Ω:Array Ι):δ Nat->(Nat->ς)->Nat->ς
 |[],F=>F
 |i::a,F=>rF P n Ω a (match Ω[i]? with|some o=>Xo P n Ω F o|none=>F)
def rL:δ Nat->δ η->δ η
 |[],l=>l
 |i::a,l=>rL a (l.set i μ)
def rOK(P:Θ)(n:Md)(Ω:Array Ι)(k:Nat):δ Nat->δ η->(Nat->ς)->η
 |[],_,_=>μ
 |i::a,l,F=>(match Ω[i]? with|some o=>Z8 P n Ω F o|none=>ν)&&Region.free .any Ω l.toArray i&&(Region.ready .any Ω l.toArray).contains i&&iJ i k&&
   rOK P n Ω k a (l.set i μ) (match Ω[i]? with|some o=>Xo P n Ω F o|none=>F)
theorem V3{a:Nat}{b:δ Deferred}{S:Nat->φ->φ->Prop}{k f':Nat}(n:HE Ω k=μ):∀c l F,rOK P ⟨a,b,ι⟩ Ω k c l F=μ->
  R P ⟨a,b,ι⟩ Ω Q S k f' (rL c l) (rF P ⟨a,b,ι⟩ Ω c F) w->R P ⟨a,b,ι⟩ Ω Q S k (f'+γ c) l F w
 |[],l,F,_,h=>h
 |i::c,l,F,g,h=>by
  simp only[rOK,Bv]at g;obtain⟨⟨⟨⟨j,s⟩,r⟩,q⟩,p⟩:=g;cases m:Ω[i]? with
  |none=>rw[m]at j;cases j
  |some o=>
   rw[m]at j p;simp only[rL,rF,m]at h;have f:∃d,o.dst=θ d:=by
    cases f:o.dst with
    |none=>simp[Z8,f]at j
    |some d=>exact⟨d,Τ⟩
   obtain⟨d,f⟩:=f;have e:Xo P ⟨a,b,ι⟩ Ω F o=cY F d (pvl P ⟨a,b,ι⟩ Ω F o):=by simp[Xo,f]
   refine Y3 _ i d _ o m f n s r q Τ (y_pok j) ?_;rw[<-e];exact V3 n c _ _ p h
variable{S:Nat->φ->φ->Prop}{k f:Nat}{a:δ η}
theorem rp(f':Nat)(l:δ Nat)(h:R P ⟨b,c,ι⟩ Ω Q S k f' (rL l a) (rF P ⟨b,c,ι⟩ Ω l F) w)
  (g:f=f'+γ l:=by kernel_rfl) (e:HE Ω k=μ:=by kernel_rfl) (d:rOK P ⟨b,c,ι⟩ Ω k l a F=μ:=by kernel_rfl):R P ⟨b,c,ι⟩ Ω Q S k f a F w:=by
 subst g;exact V3 e l a F d h
theorem rt{d:Nat}(i:Nat)(v:ς)(n:Ω[i]? =θ o)(p:o.dst=θ d)(g:YieldsIf P Ω (λ_=>True) o v (fr ⟨b,c,ι⟩ F))
  (h:R P ⟨b,c,ι⟩ Ω Q S k f (a.set i μ) (cY F d v) w) (j:HE Ω k=μ:=by kernel_rfl) (l:Region.free .any Ω a.toArray i=μ:=by kernel_rfl)
  (m:(Region.ready .any Ω a.toArray).contains i=μ:=by kernel_rfl) (e:iJ i k=μ:=by kernel_rfl):R P ⟨b,c,ι⟩ Ω Q S k (f+1) a F w:=Y3 _ i d v o n p j l m e Τ g h
theorem ro(i:Nat)(e:Ω[i]? =θ o)(h:W P ⟨b,c,ι⟩ Ω (RK P ⟨b,c,ι⟩ Ω Q S k f (a.set i μ) i w) [o] F w)
  (d:Region.ready .any Ω a.toArray=[i]:=by kernel_rfl) (l:iJ i k=μ:=by kernel_rfl):R P ⟨b,c,ι⟩ Ω Q S k (f+1) a F w:=r_one1 _ i o e d l Τ h
theorem cdr{w0:φ}{S0:δ Nat}{L:δ cL}(j:Nat)(f:Hp w0 S0 L w)(e:QT Q)
  (h:∀w',Hp w0 S0 L w'->R P ⟨b,c,ι⟩ l.toArray Q (λ_ _ _=>True) j j (jM (γ l) ν) F w') (d:P.follows .mixedOrders=μ:=by kernel_rfl) (a:HE l.toArray j=μ:=by kernel_rfl):
  C P ⟨b,c,ι⟩ Q (.region k l.toArray μ) F w:=Pz j _ _ (λ_ _=>trivial) d a f Τ e h
section
variable{α:Type}{c:Β}{x y:Code}{p:Prop}{ip:Decidable p}{a b r:α}{t:η}
theorem cd(d:(if p then a else b)=r)(e:p->a=r->C P n Q x F w)(f:¬p->b=r->C P n Q y F w)(g:aU n F c=.bool (decide p):=by kernel_rfl):C P n Q (.cond c x y) F w:=
 ij g (λh=>e h (UK h d)) (λh=>f h (UL h d))
theorem cn(d:(if p then a else b)=r)(e:¬p->b=r->C P n Q x F w)(f:p->a=r->C P n Q y F w)(g:aU n F c=.bool (!decide p):=by kernel_rfl):C P n Q (.cond c x y) F w:=
 c_ndec g (λh=>e h (UL h d)) (λh=>f h (UK h d))
theorem cb(d:cond t a b=r)(e:t=μ->a=r->C P n Q x F w)(f:t=ν->b=r->C P n Q y F w)(g:aU n F c=.bool t:=by kernel_rfl):C P n Q (.cond c x y) F w:=
 lZ g (λh=>e h (cft h d)) (λh=>f h (cff h d))
variable{d:Nat}{ty:Ε}{pos:String}{Ψ:Array Edge}{rest:δ Ι}{o:Β}
theorem wd(c:(if p then a else b)=r)(e:p->a=r->W P n Ω Q rest (cY F d (.bool μ)) w)(f:¬p->b=r->W P n Ω Q rest (cY F d (.bool ν)) w)(g:aU n F o=.bool (decide p):=by kernel_rfl):W P n Ω Q (⟨θ d,.move o,ty,pos,Ψ,ι⟩::rest) F w:=
 HX p g (λh=>e h (UK h c)) (λh=>f h (UL h c))
theorem wn(c:(if p then a else b)=r)(e:¬p->b=r->W P n Ω Q rest (cY F d (.bool μ)) w)(f:p->a=r->W P n Ω Q rest (cY F d (.bool ν)) w)(g:aU n F o=.bool (!decide p):=by kernel_rfl):W P n Ω Q (⟨θ d,.move o,ty,pos,Ψ,ι⟩::rest) F w:=
 AY p g (λh=>e h (UL h c)) (λh=>f h (UK h c))
theorem wb(c:cond t a b=r)(e:t=μ->a=r->W P n Ω Q rest (cY F d (.bool μ)) w)(f:t=ν->b=r->W P n Ω Q rest (cY F d (.bool ν)) w)(g:aU n F o=.bool t:=by kernel_rfl):W P n Ω Q (⟨θ d,.move o,ty,pos,Ψ,ι⟩::rest) F w:=
 qQ t g (λh=>e h (cft h c)) (λh=>f h (cff h c))
end
variable{x:Code}{a:φ}{S:δ Nat}{R:δ cL}
theorem nL{y:Code}(j:Hp a S R w)(b:δ Nat)(L:δ (Nat×ς))
  (hx:C P n (Exit.then (λa' w'=>∃c,a'=fr n c/\b.map c=b.map (app L F)/\Hp a S R w') Q) x F w)
  (d:∀w G,Hp a S R w->C P n Q y (Ak b (app L F) G) w):C P n Q (.seq x y) F w:=
 cut (σ:=Unit) b (λ_=>L) (λ_ w'=>Hp a S R w') (KT hx λe m w' h=>by
  cases e with
  |normal=>obtain⟨c,i,g,f⟩:=h;exact⟨(),c,i,g,f⟩
  |exit id=>exact h
  |goto l=>exact h
  |ret=>exact h
  |panic k=>exact h
  |outgrown=>exact h) (λ_ w G h=>d w G h)
variable{f:φ}{b:δ Nat}{A d:Nat->ς}
theorem je(e:Hp a S R f)(h:b.map d=b.map A:=by kernel_rfl):∃c,fr n d=fr n c/\b.map c=b.map A/\Hp a S R f:=⟨_,Τ,h,e⟩
variable{c e:Type}
theorem gu{y:Code}(d:Hp a S R w)(j:c⊕e)(σ:δ Nat)(L:c->δ (Nat×ς))
  (hx:C P n (Exit.then (λa' w'=>∃s' b,a'=fr n b/\σ.map b=σ.map (app (L s') F)/\Hp a S R w'/\j=.inl s') Q) x F w)
  (ρ:∀s w G,Hp a S R w->j=.inl s->C P n Q y (Ak σ (app (L s) F) G) w):C P n Q (.seq x y) F w:=
 cut σ L _ hx (λs w G h=>ρ s w G h.1 h.2)
variable{L:c->δ (Nat×ς)}
theorem je1{j:c⊕e}{s:c}(σ:j=.inl s)(g:Hp a S R f)(h:b.map d=b.map (app (L s) A):=by kernel_rfl):
  ∃s' ρ,fr n d=fr n ρ/\b.map ρ=b.map (app (L s') A)/\Hp a S R f/\j=.inl s':=⟨s,_,Τ,h,g,σ⟩
variable{t:Nat}
theorem mc(h:A t=d t)(b:S.map A=S.map d):(t::S).map A=(t::S).map d:=by simp[h,b]
theorem lpS{r:e}(g:Nat->c->ε e)(j:c)(o:Hp a S R w)(m:g t j=θ r)(d:δ Nat)(L:c->δ (Nat×ς))(u:∀s,g 0 s=ι)
  (round:∀b s w G,Hp a S R w->g (b+1) s=θ r->C P n (Exit.then (λa' w'=>∃s' i,a'=fr n i/\d.map i=d.map (app (L s') F)/\Hp a S R w'/\g b s'=θ r) Q) x (Ak d (app (L s) F) G) w)
  (y:d.map F=d.map (app (L j) F):=by kernel_rfl):C P n Q (.loop x) F w:=by
 refine AJ (σ:=Nat×c) d (λs=>L s.2) (λs w'=>Hp a S R w'/\g s.1 s.2=θ r) (λs=>s.1) (t,j) ⟨o,m⟩ (λs w G h=> ?_) y;obtain⟨b,s⟩:=s;obtain⟨k,f⟩:=h;cases b with
 |zero=>rw[u]at f;cases f
 |succ b=>
  refine KT (round b s w G k f) λτ ρ w' h=> ?_;cases τ with
  |normal=>obtain⟨s',i,k,f,q,p⟩:=h;exact⟨(b,s'),i,k,f,⟨q,p⟩,Rw _⟩
  |exit id=>exact h
  |goto l=>exact h
  |ret=>exact h
  |panic v=>exact h
  |outgrown=>exact h
theorem le'{r:e}{g:c->ε e}(s:c)(i:Hp a S R f)(ρ:g s=θ r)(h:b.map d=b.map (app (L s) A):=by kernel_rfl):
  ∃s' τ,fr n d=fr n τ/\b.map τ=b.map (app (L s') A)/\Hp a S R f/\g s'=θ r:=⟨s,_,Τ,h,i,ρ⟩
theorem Hp.kp{w:φ}{L1:δ cL}(h:Hp a S R w)(L:R.take (γ L1)=L1:=by kernel_rfl):Hp a S L1 w:=h.sub (by rw[<-L];exact List.take_sublist _ _)
theorem oi{a b:c}(h:θ a=θ b):a=b:=aP h
section
variable{d:Nat}{ty:Ε}{pos:String}{Ψ:Array Edge}{rest:δ Ι}{w0:φ}{S:δ Nat}{L:δ cL}
theorem wc{b:Β}{eV:Array Β}{a:Array Ε}{f:FuncId}{vs:δ ς}{V:ς}(k:Enters P f)(j:Hp w0 S L w)(g:CR P f vs w λv w'=>v=V/\Hp w [] [] w')
  (h:∀w',Hp w0 S L w'->W P n Ω Q rest (cY F d V) w') (e:aU n F b=.func (.func f) #[] #[]:=by kernel_rfl) (i: #[]++eV.map (aU n F)++ #[]=vs.toArray:=by kernel_rfl):
  W P n Ω Q (⟨θ d,.call ⟨.value b,eV,a⟩,ty,pos,Ψ,ι⟩::rest) F w:=by
 refine kS f #[] vs _ k e i g ?_;rintro _ w' ⟨rfl,c⟩;exact h w' (j.call c)
end
def rone(n:Md)(F:Nat->ς):ResultVar->ς
 |.tmp t=>aU n F (.tmp t)
 |.cell _ _=>undef
def rval(n:Md)(F:Nat->ς)(fn:Func):ς:=
 match fn.results.toList.map (rone n F)with
 |[u]=>u
 |a=>.tuple a.toArray
def LF(fn:Func):η:=fn.results.toList.all λ|.tmp _=>μ|.cell _ _=>ν
variable{k:Nat}{a:ε (ε Nat)}{b:Func}
theorem rx_aux(h:LF b=μ):(results b (fr ⟨k,[],a⟩ F).tmps).run P w=.ok (rval ⟨k,[],a⟩ F b) w:=by
 have key:∀j:δ ς,j=b.results.toList.map (rone ⟨k,[],ι⟩ F)->(results b (fr ⟨k,[],ι⟩ F).tmps).run P w=.ok (match j with|[u]=>u|f=>.tuple f.toArray) w:=by
  intro j e;refine qZ b.results.toList j Τ (by simp[e]) ?_ _ (by cases j with|nil=>rfl|cons c eV=>cases eV<;>rfl);intro i x v hx d;subst e;simp only[aW,hx,LW,bH]at d;have:=aT.1 h x (aL hx);cases x with
  |tmp t=>exact aux d
  |cell c t=>cases this
 exact key _ Τ
theorem rx{R:ς->φ->Prop}(h:R (rval ⟨k,[],a⟩ F b) w)(d:LF b=μ:=by kernel_rfl):
  bodyPost P b (λe w'=>∃v,e=.returned v/\R v w') .ret (fr ⟨k,[],a⟩ F) w:=⟨Τ,_,rx_aux d,_,Τ,h⟩
theorem rv{V:ς}{w0:φ}{S:δ Nat}{L:δ cL}(h:Hp w0 S L w)(d:rval ⟨k,[],a⟩ F b=V:=by kernel_rfl)(c:LF b=μ:=by kernel_rfl):
  bodyPost P b (λe w'=>∃v,e=.returned v/\v=V/\Hp w0 S L w') .ret (fr ⟨k,[],a⟩ F) w:=rx ⟨d,h⟩ c
variable{c:Type}{g:Prop}{o:ε c}
theorem bi{α:Type}{f:c->ε α}{r:α}(h:o.bind f=θ r)(k:∀y,o=θ y->f y=θ r->g):g:=let ⟨y,a,b⟩:=Bf h;k y a b
theorem gi{ip:Decidable g}{r:c}{p:Prop}(h:gd g o=θ r)(k:g->o=θ r->p):p:=let ⟨a,b⟩:=ee h;k a b
variable{y:Code}
theorem cs{x:Code}(h:C P n (Ev P n x Q) y F w):C P n Q (.seq y x) F w:=jR h
variable{l:δ Ι}
theorem cr(h:W P n l.toArray Q l F w):C P n Q (.region k l.toArray ν) F w:=pM h
theorem wl(h:Q .normal (fr n F) w):W P n Ω Q [] F w:=nO h
theorem qn{k':Nat}{D d:δ Deferred}(h:C P ⟨k,D,a⟩ Q y F w):Ev P ⟨k',d,a⟩ y Q .normal (fr ⟨k,D,a⟩ F) w:=kY h
theorem ct(h:Q .ret (fr n F) w):C P n Q .ret F w:=nM h
theorem ck(h:Q .normal (fr n F) w):C P n Q .skip F w:=lY h
theorem ce(h:C P n (Exit.inBlock k Q) y F w):C P n Q (.block k y) F w:=QC h
theorem ql{K:Act->φ->Prop}(h:K (fr n F) w):Exit.then K Q .normal (fr n F) w:=h
theorem st{m:Md}(h:Q .ret (fr n F) w):Ev P m y Q .ret (fr n F) w:=vN h
theorem uO(h:Q .ret (fr n F) w):Exit.inBlock k Q .ret (fr n F) w:=h
theorem bn(h:Q .normal (fr n F) w):Exit.inBlock k Q .normal (fr n F) w:=h
theorem gy{a:ε Nat}{op:Op}{ty:Ε}{pos:String}{Ψ:Array Edge}{b:η}(dg:Nat)(h:W P n Ω Q (⟨a,op,ty,pos,Ψ,ι⟩::l) F w)
  (e:(Ω[k]?).bind (·.dst)=θ dg:=by kernel_rfl) (d:iJ dg n.n=μ:=by kernel_rfl) (c:F dg=.bool b:=by kernel_rfl):W P n Ω Q (⟨a,op,ty,pos,Ψ,θ (k,b)⟩::l) F w:=HY dg e d c h
theorem sr(h:W P n l.toArray (Ev P n y Q) l F w):C P n Q (.seq (.region k l.toArray ν) y) F w:=jR (pM h)
theorem nq{k':Nat}{D d:δ Deferred}(h:C P ⟨k,D,a⟩ Q y F w):W P ⟨k,D,a⟩ Ω (Ev P ⟨k',d,a⟩ y Q) [] F w:=nO (kY h)
end
open Go
theorem oh{a:ε Ζ}{cap b sz:Nat}(h:a=ι->cap=0):kB a cap b sz=ι->cap-b=0:=by
 unfold kB;split
 ·intro _;omega
 ·cases a with
  |none=>intro _;have:=h Τ;omega
  |some p=>intro c;cases c
section
variable{P:Θ}{n:Md}{Ω:Array Ι}{Q:Exit->Act->φ->Prop}{F:Nat->ς}{w w0:φ}{S:δ Nat}{L:δ cL}
variable{d:Nat}{ty:Ε}{pos:String}{Ψ:Array Edge}{rest:δ Ι}
end
open Go
variable{w:φ}{a:ε Ζ}
theorem Rd.of{c b:δ ς}(h:Rd w a c)(e:c=b):Rd w a b:=e▸h
variable{b:φ}{S:δ Nat}{L:δ cL}{n c:Nat}
theorem Hp.zrw{p:Type}{f:p->δ ς}{cap:Nat}{o:ε Nat}{l:δ p}(h:Hp w S L b)(k:Nat)(d:L[k]? =θ (bN f n c o a cap l)):a=ι->cap=0:=by
 intro i;rcases(h.res _ (aL d)).1 with⟨_,_,j,_⟩|⟨g,m,_,e,_⟩
 ·exact j
 ·rw[i]at e;cases e
variable{l:δ ζ}
theorem Hp.capbr(h:Hp w S L b)(k:Nat)(d:L[k]? =θ (jX (.slice a n c) n l)):n<=c:=by obtain⟨_,g,o,i,e,j,m,_,f,_⟩:=(h.res _ (aL d)).1;cases m;exact f
theorem Hp.zbr(h:Hp w S L b)(k:Nat)(d:L[k]? =θ (jX (.slice a n c) n l)):a=ι->c=0:=by intro f;obtain⟨_,g,m,i,e,j,o,_⟩:=(h.res _ (aL d)).1;rw[f]at o;cases o
theorem Hp.vY(L1 T a:δ cL)(h:Hp w S (L1++T) b)(p:a.Sublist T):Hp w S (L1++a) b:=h.sub (List.Sublist.append_left p L1)
section
variable{P:Θ}{n:Md}{Ω:Array Ι}{Q:Exit->Act->φ->Prop}{F:Nat->ς}{w w0:φ}{S:δ Nat}{L:δ cL}
variable{d:Nat}{ty:Ε}{pos:String}{Ψ:Array Edge}{rest:δ Ι}
variable{T G:Type}{f:T×G->δ ς}
end
section
variable{P:Θ}{n:Md}{Ω:Array Ι}{Q:Exit->Act->φ->Prop}{F:Nat->ς}{w:φ}
variable{d:Nat}{ty:Ε}{pos:String}{Ψ:Array Edge}{rest:δ Ι}{k:Nat}{D:δ Deferred}{ro:ε Nat}
theorem ng{b:Β}{eV:Array Β}{a:Array Ε}(f:FuncId)(cap:Array ς)(vs:δ ς)(i:Enters P f)
  (c:aU n F b=.func (.func f) #[] cap) (g: #[]++eV.map (aU n F)++cap=vs.toArray) (e:CR P f vs w λv w'=>W P n Ω Q rest (cY F d v) w'):
  W P n Ω Q (⟨θ d,.call ⟨.value b,eV,a⟩,ty,pos,Ψ,ι⟩::rest) F w:=
 kS f cap vs _ i c g e λ_ _ h=>h
end
end Go.Wk
namespace Go.Px
open Go.Wk
def cF(c:ζ):η:=c==32||c==9
def jD(c:ζ):η:=(decide (c<32)&&c !=9)||c==127
def vj(c:ζ):η:=(decide (97<=c)&&decide (c<=122))||(decide (65<=c)&&decide (c<=90))
def fZ(c:ζ):η:=decide (48<=c)&&decide (c<=57)
def eN(c:ζ):η:=vj c||fZ c||c==45||c==46||c==33||c==37||c==42||c==95||c==43||c==39||c==126||c==96
def fQ(c:ζ):ζ:=if 65<=c/\c<=90 then c+32 else c
def VX(c:ζ):ζ:=if 97<=c/\c<=122 then c-32 else c
def dV(p:ζ->η):δ ζ->Nat
 |[]=>0
 |c::l=>if p c then dV p l+1 else 0
def Ep(i:Int)(n:Nat):Nat:=(min (max i 0) (n:Int)).toNat
def cB(p:ζ->η)(s:δ ζ)(i:Int):Nat:=Ep i (γ s)+dV p (s.drop (Ep i (γ s)))
theorem HI(p:ζ->η):∀l,dV p l<=γ l
 |[]=>pW _
 |c::l=>by simp only[dV];have:=HI p l;split<;>simp<;>omega
theorem uN(i:Int)(n:Nat):Ep i n<=n:=aD2
theorem pO(p:ζ->η)(s:δ ζ)(i:Int):cB p s i<=γ s:=by unfold cB;have a:=HI p (s.drop (Ep i (γ s)));have b:=uN i (γ s);simp at a;omega
theorem apv(k n:Nat)(h:k<=n):Ep (k:Int) n=k:=aD2
theorem Pb(s:δ ζ)(k:Nat)(h:k<γ s):s.drop k=Υ s k::s.drop (k+1):=by rw[Rs h];simp[Υ,h]
theorem IL(p:ζ->η)(s:δ ζ)(k:Nat)(h:k<γ s)(a:p (Υ s k)=ν):cB p s (k:Int)=k:=by unfold cB;rw[apv k _ aA0];have b:=Pb s k h;rw[b];simp only[dV,a];simp
theorem Sr(p:ζ->η)(s:δ ζ):cB p s (γ s:Int)=γ s:=by unfold cB;rw[apv _ _ (pW _)];simp[dV]
theorem hY(p:ζ->Prop)(h:∀i:Fin 256,p (UInt8.ofFin i)):∀c,p c:=λc=>h c.toFin
set_option maxRecDepth 10000
theorem oQ(c:ζ):fZ c=μ↔48<=(c.toNat:Int)/\(c.toNat:Int)<=57:=by revert c;exact hY _ aA1
def XJ(c:ζ):η:=decide (32<=c)&&decide (c<=126)
def An(s:δ ζ):η:= !s.isEmpty&&s.all eN
theorem qU(p:ζ->η):∀l,dV p l=γ l↔l.all p=μ
 |[]=>by simp[dV]
 |c::l=>by
  have b:=qU p l;have d:=HI p l;simp only[dV,dF,List.all_cons,yG];split
  ·rename_i a;simp[a,b]
  ·rename_i a;simp[a]
theorem ny(s:δ ζ):(s≠[]/\(cB eN s 0:Int)=(γ s:Int))↔An s=μ:=by
 have h:=qU eN s;have e:cB eN s 0=dV eN s:=by have c:Ep 0 (γ s)=0:=aD2;unfold cB;rw[c];simp
 rw[e];unfold An;simp only[yG,Vv,List.isEmpty_eq_false_iff,<-h];constructor
 ·rintro⟨a,b⟩;exact⟨a,aA0⟩
 ·rintro⟨a,b⟩;exact⟨a,aA0⟩
def mF(s:δ ζ):Nat:=s.foldl (λn c=>10*n+(c.toNat-48)) 0
theorem azs(s:δ ζ)(c:ζ):mF (s++[c])=10*mF s+(c.toNat-48):=by simp[mF,List.foldl_append]
theorem tX(s:δ ζ)(k:Nat)(h:k<γ s):s.take (k+1)=s.take k++[Υ s k]:=by rw[tO h];simp[Υ,h]
theorem uM:∀(n:Nat) (s:δ ζ),γ s<=n->s.all fZ=μ->mF s<10^n:=by
 intro n;induction n with
 |zero=>intro s b _;have:s=[]:=List.eq_nil_of_length_eq_zero aA0;subst this;decide
 |succ n d=>
  intro s b a;rcases List.eq_nil_or_concat s with rfl|⟨l,c,rfl⟩
  ·simp[mF];exact Nat.pow_pos aA0
  ·simp only[List.concat_eq_append]at*;rw[azs];rw[eC]at a;simp only[yG,List.all_cons,List.all_nil,Bool.and_true]at a;have f:=d l (by simp at b;omega) a.1;have e:=(oQ c).1 a.2;rw[Hz];omega
def cZ(s:δ ζ):δ ζ:=s.map fQ
def zN(c:ζ):δ ζ:=if c=34\/c=92 then [92,c]else [c]
def dN(p:ζ->η):δ ζ->Int
 |[]=> -1
 |b::l=>if p b then 0 else if dN p l= -1 then-1 else dN p l+1
theorem sG(p:ζ->η):∀l,-1<=dN p l
 |[]=>by simp[dN]
 |b::l=>by have:=sG p l;unfold dN;split;(·omega);(·split<;>omega)
theorem Nb(p:ζ->η):∀l,dN p l=if dV (λc=> !p c) l=γ l then(-1:Int)else(dV (λc=> !p c) l:Int)
 |[]=>by simp[dN,dV]
 |b::l=>by
  have a:=Nb p l;have d:=HI (λc=> !p c) l;unfold dN dV;cases e:p b
  ·simp only[Bool.not_false,gZ,Bool.false_eq_true,GL,dF];rw[a];by_cases h:dV (λc=> !p c) l=γ l
   ·rw[aB h,aB rfl,aB aA0]
   ·rw[aA h,aA aA0,aA aA0];omega
  ·simp
theorem bhv(p:ζ->η)(l:δ ζ):(dN p l= -1/\dV (λc=> !p c) l=γ l)\/(0<=dN p l/\dN p l<(γ l:Int)/\dN p l=(dV (λc=> !p c) l:Int)):=by
 have:=HI (λc=> !p c) l;rw[Nb];split
 ·exact .inl ⟨Τ,by assumption⟩
 ·exact .inr ⟨aA0,aA0,Τ⟩
theorem vV(c:ζ):∀l,Lib.indexByte l c=dN (·==c) l
 |[]=>rfl
 |b::l=>by unfold Lib.indexByte dN;rw[vV c l];simp
theorem beo(cs:δ ζ):∀l,Lib.indexAny l cs=dN (cs.contains ·) l
 |[]=>rfl
 |b::l=>by unfold Lib.indexAny dN;rw[beo cs l];simp
def fP(p:ζ->η):δ ζ->Int
 |[]=> -1
 |b::l=>if fP p l= -1 then(if p b then 0 else-1)else fP p l+1
theorem uE(p:ζ->η):∀l:δ ζ,(fP p l= -1/\l.any p=ν)\/(0<=fP p l/\fP p l<(γ l:Int))
 |[]=>.inl ⟨Τ,Τ⟩
 |b::l=>by
  have c:=uE p l;unfold fP;by_cases h:fP p l= -1
  ·rw[aB h];have e:l.any p=ν:=by rcases c with a|a;exact a.2;omega
   cases d:p b
   ·left;simp[d,e]
   ·right;simp
  ·rw[aA h];right;rcases c with a|a
   ·exact absurd a.1 h
   ·simp only[dF];omega
theorem Tt(p:ζ->η)(b:ζ):∀l:δ ζ,fP p (l++[b])=if p b then(γ l:Int)else fP p l
 |[]=>by simp[fP]
 |a::l=>by
  rw[GV,fP,Tt p b l];cases c:p b
  ·simp[fP]
  ·simp
theorem zZ(s:δ ζ)(c:ζ):∀k:Nat,k<=γ s->Lib.lastIdx ⟨s.toArray⟩ (c.toNat:Int) k=fP (·==c) (s.take k)
 |0,_=>by simp[Lib.lastIdx,fP]
 |k+1,h=>by
  rw[tX s k aA0,Tt,Lib.lastIdx,zZ s c k aA0];have e:(⟨s.toArray⟩:ByteArray).data[k]! =Υ s k:=by simp[Υ,show k<γ s by omega]
  rw[e];by_cases a:Υ s k=c
  ·rw[aB (by rw[a]),aB (by simp[a])];simp;omega
  ·rw[aA (λh=>a (jB.1 aA0)),aA aC1]
theorem xB(s:δ ζ)(c:ζ):Lib.lastIndexByte ⟨s.toArray⟩ (c.toNat:Int)=fP (·==c) s:=by unfold Lib.lastIndexByte;have:=zZ s c (γ s) (pW _);rw[iA]at this;exact this
theorem QA(s t:δ ζ):γ (Lib.cut s t).1<=γ s/\γ (Lib.cut s t).2.1<=γ s:=by unfold Lib.cut;split<;>simp<;>omega
theorem Jx(s t:δ ζ):γ (Lib.trimPrefix s t)<=γ s:=by unfold Lib.trimPrefix;split<;>simp
theorem bhz(p:ζ->η)(l:δ ζ):γ (l.dropWhile p)<=γ l:=(jL p).length_le
theorem Qe(s t:δ ζ):γ (Lib.trimLeftS s t)<=γ s:=bhz _ _
theorem Qb(l:δ ζ)(i j:Int):γ (sub l i j)=min (j.toNat-i.toNat) (γ l-i.toNat):=by simp[sub]
theorem sub_le(s:δ ζ)(i j:Int):γ (sub s i j)<=γ s:=aC3
theorem ti{w:φ}(k:Nat)(a:Array Obj):Hp w [] [] (Sort.grow (w.drewN k) a):=Hp.lI ⟨Τ,Τ,Τ,by simp[Sort.grow,World.drewN],λk b=>by have:k<w.heap.size:=b;show(w.heap++a)[k]? =w.heap[k]?;rw[Array.getElem?_append_left this]⟩
end Go.Px
