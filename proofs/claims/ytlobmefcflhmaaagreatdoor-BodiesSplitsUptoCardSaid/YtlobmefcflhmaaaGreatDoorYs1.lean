/-
  The law BodiesSplits holds (part 1 of 9).
-/
import Derived.Tactics2
import Derived.Scope
import Derived.Below
import Derived.KernelRfl
import Derived.RangeFuncCalls
import Derived.RangeFuncLeaves
import Derived.TacticsIn
import Derived.Laws.Strings3
import Derived.Laws.Concat
import Derived.Laws.Small
import Derived.Laws.Slices
import Derived.Laws.BitsLemmas
import Derived.Laws.OwnMore
import Derived.Laws.AppendOwn
import Derived.Laws.CopyRow
import Derived.StillTail
import Derived.OrdersHeld
import Derived.Laws.BytesString
import Derived.Laws.MakeOwn
import Derived.WalkSmall
import Derived.Laws.Cover3
import Derived.Laws.StructEq
import Derived.RangeFuncRecord
import Derived.OrdersIn
import Derived.Lib.AppendStr
import Derived.Lib.Builder
import Derived.Lib.AppendZerosOnto
import Derived.Lib.Overlaps
import Derived.Lib.Bytealg
import Derived.Lib.IndexAny
import Derived.Lib.LastIndexByte
import Derived.Lib.IndexMore
import Derived.Lib.SlTrimSet
import Derived.Lib.TrimByte
import Derived.Lib.Strings
import Derived.Lib.ItoaNum
import Derived.Lib.Join
import Derived.Sort.Grow
abbrev Τ:=@rfl
open Bool renaming false → ν, true → μ
open Go renaming Addr → Γ, IntKind → Ε, Oper → Α, Operand → χ, Program → Β, TypeId → ω, Value → ξ, World → ο, execOp → ς
open Go.Region renaming ready → Ζ
open Go.Utf8 renaming encode → ψ
open Go.Value renaming func → Θ, int → Δ, slice → π
open List renaming length → γ
open Option renaming none → ι, some → θ
abbrev δ:=@List
abbrev ε:=@Option
abbrev ζ:=UInt8
abbrev η:=Bool
set_option linter.unusedVariables false
section
open Go
open Go.RowKit (Below)
open Nat renaming beq → cY, blt → fI
open _root_.Array renaming replicate → JE
variable{p:Prop}
theorem aA0(h:p:=by omega):p:=h
theorem aA1(h:p:=by decide):p:=h
theorem aA2(h:p:=by simp):p:=h
theorem aA3(h:p:=by simp;omega):p:=h
theorem aA4(h:p:=by rw[dJ];omega):p:=h
theorem aA5(h:p:=by decide+kernel):p:=h
theorem aA6(h:p:=by rw[h];simp):p:=h
theorem aA7(h:p:=by simpa using h):p:=h
theorem aA8(h:p:=by first|rfl|(simp;done)|omega|(simp;omega)|(rw[iI];omega)):p:=h
theorem aA9(h:p:=by first|rfl|(simp;done)|omega|(simp;omega)|(rw[cQ];omega)):p:=h
theorem aB0(h:p:=by unfold TI;kernel_rfl):p:=h
theorem aB1(h:p:=by rw[dY];omega):p:=h
theorem aB2(h:p:=by rw[h];simp[el]):p:=h
theorem aB3(h:p:=by rw[iI];omega):p:=h
theorem aB4(h:p:=by simp[lM]):p:=h
theorem aB5(h:p:=by rw[cE,eG];omega):p:=h
theorem aB6(h:p:=by simp only[eG];omega):p:=h
theorem aB7(h:p:=by simp only[cE,eG];omega):p:=h
theorem aB8(h:p:=by simp only[cE,cM,iH];omega):p:=h
theorem aB9(h:p:=by simp only[cM,iH];omega):p:=h
theorem aC0(h:p:=by simpa using a):p:=h
theorem aC1(h:p:=by first|omega|assumption|decide):p:=h
theorem aC2(h:p:=by simpa using b):p:=h
theorem aC3(h:p:=by rw[eG];omega):p:=h
theorem aC4(h:p:=by rw[Hw];omega):p:=h
theorem aC5(h:p:=by first|rfl|(simp;done)|(simp;omega)):p:=h
theorem aC6(h:p:=by rw[h];omega):p:=h
theorem aC7(h:p:=by show γ s<_;omega):p:=h
theorem aC8(h:p:=by simpa using c):p:=h
theorem aC9(h:p:=by show θ (π _ _ _)=_;rw[nY]):p:=h
theorem aD0(h:p:=by cases vs with|nil=>exact b|cons a fR=>cases fR<;>exact b):p:=h
theorem aD1(h:p:=by intro w D;exact eU (b:=Result.ok (Next.value (.bool j3)) w) aK (bA (λb=>Result.ok (Next.value (.bool b)) w) f4)):p:=h
theorem aD2(h:p:=by simp only[cE,eG,iH];omega):p:=h
theorem aD3(h:p:=by rw[cE];omega):p:=h
theorem aD4(h:p:=by unfold Cv;omega):p:=h
theorem aD5(h:p:=by simpa using d):p:=h
theorem aD6(h:p:=by show γ t<_;omega):p:=h
theorem aD7(h:p:=by dsimp only;omega):p:=h
theorem aD8(h:p:=by intro w D;exact(lN B 1 _ 42 _ D Τ aK aK)):p:=h
theorem aD9(h:p:=by simpa using hx):p:=h
theorem aE0(h:p:=by rw[A];exact W):p:=h
theorem aE1(h:p:=by rw[h,Rr]):p:=h
theorem aE2(h:p:=by simpa using g):p:=h
theorem aE3(h:p:=by simpa using f):p:=h
theorem aE4(h:p:=by simpa using e):p:=h
theorem aE5(h:p:=by simp[SC.ids]):p:=h
theorem aE6(h:p:=by unfold maxLen;omega):p:=h
theorem aE7(h:p:=by simpa using q):p:=h
theorem aE8(h:p:=by simp[Xc]):p:=h
theorem aE9(h:p:=by rw[Nat.pow_succ]at h;omega):p:=h
theorem aF0(h:p:=by rw[Gj]):p:=h
theorem aF1(h:p:=by unfold Tf;rw[Go.Ce.Tr.V4]):p:=h
theorem aF2(h:p:=by rw[dn (r _ gQ)];exact hid):p:=h
theorem aF3(h:p:=by rw[gs q dg h A];exact U):p:=h
theorem aF4(h:p:=by rw[SN];exact a):p:=h
theorem aF5(h:p:=by rw[e];rfl):p:=h
theorem aF6(h:p:=by rw[show(8:Int)=((8:Nat):Int)from rfl,Hw];omega):p:=h
abbrev ep:=@Array.ext
abbrev gA:=@Array.getElem?_eq_getElem
abbrev cG:=@Array.getElem?_eq_some_iff
abbrev wQ:=@Array.getElem?_modify
abbrev yR:=@Array.mem_append
abbrev yQ:=@Bool.and_eq_true
abbrev eL:=@Bool.and_false
abbrev oB:=@Bool.and_true
abbrev kY:=@Bool.false_and
abbrev pP:=@Bool.false_eq_true
abbrev jU:=@Bool.not_eq_true'
abbrev NS:=@Bool.not_not
abbrev CH:=@Bool.or_assoc
abbrev cq:=@Bool.or_eq_false_iff
abbrev gE:=@Bool.or_eq_true
abbrev gP:=@Bool.or_false
abbrev iU:=@Bool.true_or
abbrev eU:=@Eq.trans
abbrev eZ:=@Int.le_refl
abbrev Rm:=@Int.natCast_nonneg
abbrev tQ:=@Int.toNat_natCast
abbrev fK:=@List.Perm.append_left
abbrev cA:=@List.Sublist.append_left
abbrev jT:=@List.Sublist.refl
abbrev fH:=@List.Sublist.trans
abbrev dZ:=@List.all_append
abbrev aT:=@List.all_eq_true
abbrev dC:=@List.any_eq_false
abbrev dS:=@List.any_eq_true
abbrev lL:=@List.any_nil
abbrev tP:=@List.append_eq_nil_iff
abbrev TG:=@List.cons.injEq
abbrev JD:=@List.cons_append
abbrev Hz:=@List.dropWhile_cons
abbrev wP:=@List.dropWhile_suffix
abbrev iG:=@List.drop_append_of_le_length
abbrev Tt:=@List.drop_eq_getElem_cons
abbrev NR:=@List.drop_eq_nil_of_le
abbrev Hy:=@List.drop_succ_cons
abbrev tO:=@List.drop_take
abbrev Rl:=@List.drop_zero
abbrev cS:=@List.ext_getElem?
abbrev Rj:=@List.filter_append
abbrev iT:=@List.flatMap_singleton
abbrev Gf:=@List.foldl_cons
abbrev bH:=@List.getD_eq_getElem?_getD
abbrev aJ:=@List.getElem?_append_left
abbrev aO:=@List.getElem?_append_right
abbrev hK:=@List.getElem?_cons_succ
abbrev bV:=@List.getElem?_drop
abbrev aN:=@List.getElem?_eq_getElem
abbrev bO:=@List.getElem?_eq_none
abbrev aF:=@List.getElem?_eq_some_iff
abbrev bD:=@List.getElem?_map
abbrev cZ:=@List.getElem?_range
abbrev qC:=@List.getElem?_replicate
abbrev eT:=@List.getElem?_set
abbrev Ct:=@List.getElem?_set_ne
abbrev bF:=@List.getElem?_set_self
abbrev bQ:=@List.getElem?_take
abbrev CG:=@List.getElem?_take_of_lt
abbrev yP:=@List.getElem_mem
abbrev mJ:=@List.getElem_set_ne
abbrev Ts:=@List.isEmpty_eq_false_iff
abbrev Ri:=@List.isPrefixOf_iff_prefix
abbrev Rh:=@List.length_append
abbrev dH:=@List.length_cons
abbrev JC:=@List.length_drop
abbrev bN:=@List.length_pos_iff
abbrev gD:=@List.length_set
abbrev cQ:=@List.length_take
abbrev oA:=@List.map_cons
abbrev Rf:=@List.map_inj_right
abbrev lK:=@List.map_map
abbrev iS:=@List.map_nil
abbrev aV:=@List.mem_append
abbrev aQ:=@List.mem_cons
abbrev kX:=@List.mem_cons_of_mem
abbrev iF:=@List.mem_eraseIdx_iff_getElem
abbrev jN:=@List.mem_iff_getElem?
abbrev dW:=@List.mem_map
abbrev aI:=@List.mem_of_getElem?
abbrev CF:=@List.mem_of_mem_eraseIdx
abbrev Cs:=@List.mem_of_mem_take
abbrev aH:=@List.mem_singleton
abbrev JB:=@List.not_any_eq_all_not
abbrev lJ:=@List.not_mem_nil
abbrev dE:=@List.pairwise_append
abbrev iR:=@List.pairwise_cons
abbrev eE:=@List.pairwise_iff_getElem
abbrev cp:=@List.set_append_left
abbrev wO:=@List.set_append_right
abbrev jM:=@List.singleton_append
abbrev CE:=@List.sum_cons
abbrev YL:=@List.take_append_drop
abbrev iE:=@List.take_append_of_le_length
abbrev hC:=@List.take_length
abbrev eX:=@List.take_of_length_le
abbrev Re:=@List.take_take
abbrev kW:=@Nat.add_mul
abbrev Rc:=@Nat.add_right_comm
abbrev iQ:=@Nat.blt_eq
abbrev fJ:=@Nat.eq_of_beq_eq_true
abbrev aZ:=@Nat.le_of_ble_eq_true
abbrev JA:=@Nat.le_of_not_lt
abbrev qB:=@Nat.le_refl
abbrev tN:=@Nat.le_trans
abbrev cU:=@Nat.lt_of_lt_of_le
abbrev tM:=@Nat.lt_or_ge
abbrev bZ:=@Nat.lt_succ_self
abbrev TF:=@Nat.min_eq_left
abbrev IZ:=@Nat.mod_eq_of_lt
abbrev Xq:=@Nat.mul_pos
abbrev Rb:=@Nat.pos_of_ne_zero
abbrev iP:=@Nat.sub_zero
abbrev dB:=@Nat.succ_mul
abbrev cP:=@Option.bind_some
abbrev IY:=@Option.getD_some
abbrev CD:=@Option.isSome_iff_exists
abbrev iO:=@Option.map_eq_none_iff
abbrev bU:=@Option.map_eq_some_iff
abbrev Ge:=@Option.map_none
abbrev aP:=@Option.some.inj
abbrev bG:=@Option.some.injEq
abbrev cR:=@Prod.mk.injEq
abbrev cm:=@Sum.inl.inj
abbrev cj:=@Sum.inr.inj
abbrev wN:=@UInt8.le_iff_toNat_le
abbrev jE:=@UInt8.toNat_inj
abbrev fG:=@UInt8.toNat_lt
abbrev iN:=@UInt8.toNat_ofNat'
abbrev dX:=@beq_eq_false_iff_ne
abbrev aG:=@cond_false
abbrev aM:=@cond_true
abbrev bA:=@congrArg
abbrev bY:=@decide_eq_decide
abbrev aD:=@decide_eq_false
abbrev bK:=@decide_eq_false_iff_not
abbrev aE:=@decide_eq_true
abbrev aX:=@decide_eq_true_eq
abbrev tL:=@if_false
abbrev aA:=@if_neg
abbrev aB:=@if_pos
abbrev eW:=@if_true
abbrev fF:=@of_decide_eq_false
abbrev bX:=@of_decide_eq_true
abbrev oF:=@Bool.not_false
abbrev lB:=@Sum.elim_inl
abbrev Cu:=@bZ
abbrev tR:=@oA
abbrev qT:=@tN
abbrev Gk:=@List.length_map
abbrev CP:=@aZ
abbrev CJ:=@List.mem_of_mem_drop
abbrev Ic:=@List.nil_append
abbrev Rw:=@List.flatMap_cons
abbrev Gj:=@List.drop_drop
abbrev Dc:=@Nat.add_assoc
abbrev Rp:=@List.map_append
abbrev NZ:=@YL
abbrev Jg:=@List.all_cons
abbrev aR:=@cP
abbrev cE:=@Rh
abbrev cM:=@dH
abbrev eG:=@List.length_singleton
abbrev cH:=@Nat.zero_le
abbrev fB:=@kX
abbrev dY:=@JC
abbrev gR:=@fJ
abbrev qR:=@List.eq_nil_of_length_eq_zero
abbrev gQ:=@List.mem_cons_self
abbrev gJ:=@tQ
abbrev dK:=@qB
abbrev gH:=@List.append_nil
abbrev eY:=@Bool.not_true
abbrev iI:=@cQ
abbrev jI:=@List.append_assoc
abbrev iH:=@List.length_nil
abbrev lX:=@yQ
abbrev Da:=@NR
abbrev Gi:=@List.mem_append_left
abbrev TH:=@List.drop_left
abbrev eu:=@List.map_singleton
abbrev zbF:=@Tt
abbrev sd:=@List.take_succ_cons
abbrev ZJ:=@List.take_left
abbrev cz:=@Bool.eq_iff_iff
abbrev cy:=@Option.map_some
abbrev zbN:=@List.set_eq_take_append_cons_drop
abbrev zbO:=@Nat.add_sub_cancel_left
abbrev rz:=@aH
abbrev Je:=@Bool.true_and
abbrev Ia:=@Nat.add_comm
abbrev NW:=@List.flatMap_append
abbrev YO:=@List.mem_append_right
abbrev NV:=@cU
abbrev Kh:=@Nat.zero_add
abbrev Xr:=@List.any_cons
abbrev Ru:=@Nat.add_zero
abbrev Rt:=@Sum.elim_inr
abbrev ZI:=@Nat.mul_le_mul_right
abbrev NU:=@JD
abbrev cw:=@List.perm_append_comm
abbrev CI:=@Bool.false_or
abbrev et:=@UInt8.lt_iff_toNat_lt
abbrev YN:=@List.drop_length
abbrev xa:=@List.sublist_append_right
abbrev NT:=@Rl
abbrev er:=@List.map_congr_left
abbrev YM:=@Nat.not_lt_zero
end
namespace Go.Wk
open Go.RowKit (Below)
open Nat renaming beq → cY, blt → fI
open _root_.Array renaming replicate → JE
variable{p:Prop}
def dP(F:Nat->ξ)(d:Nat)(v:ξ):Nat->ξ:=λt=>bif cY t d then v else F t
structure Md where
 n:Nat
 D:List Deferred
 ro:Option (Option Nat)
def fr(n:Md)(F:Nat->ξ):Act:={tmps:=Array.ofFn (n:=n.n) λi=>F i.val,defers:=n.D}
def aW(n:Md)(F:Nat->ξ):χ->ξ
 |.tmp t=>bif fI t n.n then F t else undef
 |.const v=>v
 |.global g=>.pointer (θ ⟨g,0,ι⟩)
 |.func f=>.func (.func f) #[] #[]
def NA(l:δ ξ):Nat->ξ:=λt=>l.getD t undef
abbrev dG(b:Nat):ε Γ:=θ ⟨b,0,ι⟩
theorem _root_.Go.aK.{u}{c:Sort u}{a b:c}(h:a=b:=by kernel_rfl):a=b:=h
theorem _root_.Go.kqF(h:p:=by first|kernel_rfl|(intro _;kernel_rfl)|decide):p:=h
theorem _root_.Go.CM(h:p:=by constructor<;>first|exact Go.kqF|(constructor<;>first|exact Go.kqF|(constructor<;>exact Go.kqF))):p:=h
theorem Sm{a:Type}{x:a}(h:ι=θ x):p:=nomatch h
theorem lsz(h:p:=by(try simp only[gD])<;>first|rfl|omega):p:=h
theorem lsy(h:p:=by(try simp only[gD])<;>first|rfl|omega|simp):p:=h
theorem iJ{a b:Nat}(h:Nat.ble a b=μ:=by rfl):a<=b:=CP h
theorem cB(a:Nat)(h:0<a:=by omega):∃m,a=m+1:=⟨a-1,aA0⟩
theorem aU(h:p:=by omega):p:=h
theorem oY(n:Md)(F:Nat->ξ)(t:Nat):(fr n F).tmps.getD t undef=bif fI t n.n then F t else undef:=by
 unfold fr;by_cases h:t<n.n
 ·have a:fI t n.n=μ:=by simpa [iQ] using h
  simp[h,a]
 ·have a:fI t n.n=ν:=by
   cases hx:fI t n.n
   ·rfl
   ·exact absurd (by simpa [iQ] using hx) h
  simp[h,a]
theorem SN(n:Md)(F:Nat->ξ):(fr n F).eval=aW n F:=by
 funext o;cases o with
 |tmp t=>exact oY n F t
 |const v=>rfl
 |global g=>rfl
 |func f=>rfl
theorem qh(F:Nat->ξ)(d:Nat)(v:ξ):dP F d v d=v:=by simp[dP]
theorem Ku(F:Nat->ξ)(d:Nat)(v:ξ)(t:Nat)(h:t≠d):dP F d v t=F t:=by
 have:cY t d=ν:=by
  cases hx:cY t d
  ·rfl
  ·exact absurd (gR hx) h
 simp[dP,this]
theorem kK(n:Md)(F:Nat->ξ)(d:Nat)(v:ξ):(fr n F).put (θ d) v=fr n (dP F d v):=by
 unfold fr Act.put;simp;apply ep
 ·simp
 ·intro i a b;by_cases hid:i=d
  ·subst hid;simp[qh]
  ·rw[Array.getElem_setIfInBounds_ne aC0 (λe=>hid e.symm)];simp[Ku _ _ _ _ hid]
theorem AV(args:δ ξ)(n:Nat)(h:γ args<=n):
  ({tmps:=args.toArray++JE (n-args.toArray.size) undef,defers:=[]})=fr ⟨n,[],ι⟩ (NA args):=by
 unfold fr NA;simp;apply ep
 ·simp;omega
 ·intro i c b;simp only[Array.getElem_append];by_cases a:i<γ args
  ·simp[a]
  ·simp[a]
abbrev Ti(x:ε Nat):Fence:={Fence.wide with round:=x}
def WR(P:Β)(r:ε (ε Nat))(Ξ:Array Α)(Q:Exit->Act->ο->Prop)(l:δ Α)(a:Act)(w:ο):Prop:=
 match r with
 |none=>wpList P Ξ Q l a w
 |some x=>wpListIn (Ti x) 0 P Ξ Q l a w
def CC(P:Β)(r:ε (ε Nat))(Q:Exit->Act->ο->Prop)(c:Code)(a:Act)(w:ο):Prop:=
 match r with
 |none=>c.wp P Q a w
 |some x=>c.wpIn (Ti x) 0 P Q a w
def W(P:Β)(n:Md)(Ξ:Array Α)(Q:Exit->Act->ο->Prop)(l:δ Α)(F:Nat->ξ)(w:ο):Prop:=WR P n.ro Ξ Q l (fr n F) w
def C(P:Β)(n:Md)(Q:Exit->Act->ο->Prop)(c:Code)(F:Nat->ξ)(w:ο):Prop:=CC P n.ro Q c (fr n F) w
def Ga(P:Β)(n:Md)(y:Code)(Q:Exit->Act->ο->Prop):Exit->Act->ο->Prop:=Exit.then (CC P n.ro Q y) Q
def CR(P:Β)(f:FuncId)(args:δ ξ)(w:ο)(R:ξ->ο->Prop):Prop:=
 Calls P f args.toArray w λe w'=>∃v,e=.returned v/\R v w'
theorem CR.mono{P:Β}{f:FuncId}{args:δ ξ}{w:ο}{R a:ξ->ο->Prop}(h:CR P f args w R)(b:∀v w',R v w'->a v w'):CR P f args w a:=
 Calls.mono h λ_ _ ⟨v,e,r⟩=>⟨v,e,b v _ r⟩
section
variable{P:Β}{n:Md}{Ξ:Array Α}{Q:Exit->Act->ο->Prop}{F:Nat->ξ}{w:ο}
variable{r:ε (ε Nat)}{c:Code}{b:Exit->Act->ο->Prop}
theorem BN{a:Act}(h:CC P r Q c a w)(s:∀e a w,Q e a w->b e a w):CC P r b c a w:=by
 cases r with
 |none=>exact wp_mono h s
 |some x=>exact wpIn_mono h s
variable{h:δ ξ}{R:ξ->ο->Prop}
theorem enter{k:Nat}{f:FuncId}{fn:Func}(d:P.funcs[f]? =θ fn)(g:fn.body=θ c)(a:fn.ntmps=k)(b:γ h<=k)
  (s:C P ⟨k,[],ι⟩ (bodyPost P fn λe w'=>∃v,e=.returned v/\R v w') c (NA h) w):CR P f h w R:=by
 refine calls_of_wp d g ?_;rw[a,AV h k b];exact s
variable{y:Code}
theorem BR(h:C P n (Ga P n y Q) c F w):C P n Q (.seq c y) F w:=by
 obtain⟨k,D,ro⟩:=n;cases ro with
 |none=>exact wp_seq h
 |some r=>exact wpIn_seq h
theorem Qg(h:Q .normal (fr n F) w):C P n Q .skip F w:=by
 obtain⟨k,D,ro⟩:=n;cases ro with
 |none=>exact wp_skip h
 |some r=>exact wpIn_skip h
variable{d:Nat}
theorem pn(h:Q .normal (fr n F) w):C P n Q (.label d) F w:=by
 obtain⟨k,D,ro⟩:=n;cases ro with
 |none=>exact wp_label h
 |some r=>exact wpIn_label h
theorem Fu(h:Q (.exit d) (fr n F) w):C P n Q (.exit d) F w:=by
 obtain⟨k,D,ro⟩:=n;cases ro with
 |none=>exact wp_exit h
 |some r=>exact wpIn_exit h
theorem Wy(h:Q .ret (fr n F) w):C P n Q .ret F w:=by
 obtain⟨k,D,ro⟩:=n;cases ro with
 |none=>exact wp_ret h
 |some r=>exact wpIn_ret h
theorem SH(h:C P n (Exit.inBlock d Q) c F w):C P n Q (.block d c) F w:=by
 obtain⟨k,D,ro⟩:=n;cases ro with
 |none=>exact wp_block h
 |some r=>exact wpIn_block h
variable{D:δ Deferred}
theorem BP(h:C P ⟨d,D,ι⟩ (Exit.noGoto Q) c F w):C P ⟨d,D,ι⟩ Q (.scope c) F w:=wp_scope_straight h
theorem P1(h:Q .normal (fr n F) w):Exit.noGoto Q .normal (fr n F) w:=h
theorem Vm(h:Q .ret (fr n F) w):Exit.noGoto Q .ret (fr n F) w:=h
theorem zy(h:Q (.exit d) (fr n F) w):Exit.noGoto Q (.exit d) (fr n F) w:=h
variable{l:δ Α}
theorem MZ(h:W P n l.toArray Q l F w):C P n Q (.region d l.toArray ν) F w:=by
 obtain⟨k,D,ro⟩:=n;cases ro with
 |none=>exact wp_region_lit h
 |some r=>exact wpIn_region_lit h
theorem tB{x:χ}(a:aW n F x=.bool μ)(h:C P n Q c F w):C P n Q (.cond x c y) F w:=by
 obtain⟨k,D,ro⟩:=n;cases ro with
 |none=>exact wp_cond_true aF4 h
 |some r=>exact wpIn_cond_true aF4 h
theorem lV{x:χ}(a:aW n F x=.bool ν)(h:C P n Q y F w):C P n Q (.cond x c y) F w:=by
 obtain⟨k,D,ro⟩:=n;cases ro with
 |none=>exact wp_cond_false aF4 h
 |some r=>exact wpIn_cond_false aF4 h
variable{a:χ}
theorem tD{b:η}(x:aW n F a=.bool b)(d:b=μ->C P n Q c F w)(e:b=ν->C P n Q y F w):C P n Q (.cond a c y) F w:=by
 cases b with
 |true=>exact tB x (d Τ)
 |false=>exact lV x (e Τ)
variable{p:Prop}
theorem c_dec[Decidable p](d:aW n F a=.bool (decide p))(x:p->C P n Q c F w)(b:¬p->C P n Q y F w):C P n Q (.cond a c y) F w:=
 tD d (λh=>x (bX h)) (λh=>b (fF h))
theorem c_ndec[Decidable p](d:aW n F a=.bool (!decide p))(x:¬p->C P n Q c F w)(b:p->C P n Q y F w):C P n Q (.cond a c y) F w:=
 tD d (λh=>x aA7) (λh=>b aA7)
variable{j:Nat}
theorem JM{a:δ Deferred}(h:C P ⟨d,D,r⟩ Q c F w):Ga P ⟨j,a,r⟩ c Q .normal (fr ⟨d,D,r⟩ F) w:=h
variable{q:Md}
theorem DL(h:Q .ret (fr n F) w):Ga P q c Q .ret (fr n F) w:=h
theorem Fx(h:Q (.exit d) (fr n F) w):Ga P q c Q (.exit d) (fr n F) w:=h
variable{K:Act->ο->Prop}
theorem ze(h:K (fr n F) w):Exit.then K Q .normal (fr n F) w:=h
theorem pJ(h:Q .ret (fr n F) w):Exit.then K Q .ret (fr n F) w:=h
theorem Fw(h:Q (.exit d) (fr n F) w):Exit.then K Q (.exit d) (fr n F) w:=h
theorem ay(h:Q .normal (fr n F) w):Exit.inBlock d Q .normal (fr n F) w:=h
theorem b_ret(h:Q .ret (fr n F) w):Exit.inBlock d Q .ret (fr n F) w:=h
theorem Ft(h:Q .normal (fr n F) w):Exit.inBlock d Q (.exit d) (fr n F) w:=by simpa [Exit.inBlock] using h
theorem ax(b:cY j d=ν)(h:Q (.exit j) (fr n F) w):Exit.inBlock d Q (.exit j) (fr n F) w:=by
 have:¬j=d:=λe=>by subst e;simp at b
 simpa [Exit.inBlock,this] using h
def mI(F:Nat->ξ):δ (Nat×ξ)->Prop
 |[]=>True
 |(t,v)::l=>F t=v/\mI F l
def app:δ (Nat×ξ)->(Nat->ξ)->Nat->ξ
 |[],G=>G
 |(t,v)::l,G=>dP (app l G) t v
theorem xr{F:Nat->ξ}{v:ξ}(h:F d=v):dP F d v=F:=by
 funext s;by_cases a:s=d
 ·subst a;rw[qh,h]
 ·rw[Ku _ _ _ _ a]
theorem NC:∀l F,mI F l->app l F=F
 |[],_,_=>rfl
 |(t,v)::l,F,h=>by simp only[app];rw[NC l F h.2];exact xr h.1
theorem z1{σ:Type}(L:σ->δ (Nat×ξ))(wd:σ->ο->Prop)(m:σ->Nat)(B:σ)(O:mI F (L B))(z:wd B w)
  (round:∀s w G,wd s w->C P n (Exit.then (λa' w'=>∃s' y,a'=fr n y/\mI y (L s')/\wd s' w'/\m s'<m s) Q) c (app (L s) G) w):
  C P n Q (.loop c) F w:=by
 obtain⟨N,D,ro⟩:=n;cases ro with
 |none=>
  have key:∀k:Nat,∀b q cs s F w,m s=k->mI F (L s)->wd s w->
    ∃e a' w',Q e a' w'/\Arrives P (lone (b.at (fr ⟨N,D,ι⟩ F) (.code c::.inLoop c::q)) cs w) b q cs e a' w':=by
   intro k;induction k using Nat.strongRecOn with
   |_ k E=>
    intro b q cs s F w J M H;have v:=round s w F H;rw[NC _ _ M]at v;obtain⟨e,f,d,h,a⟩:=v b _ cs;cases e with
    |normal=>obtain⟨s',y,rfl,u,r,t⟩:=h;obtain⟨o,p,j,i,g⟩:=E _ (J▸t) b q cs s' y d Τ u r;exact⟨o,p,j,i,.of_steps (Steps.trans a (.one step_inLoop)) g⟩
    |exit id=>exact⟨_,f,d,h,.pass Τ (λ_ _=>.inl aA2) a⟩
    |goto l=>exact⟨_,f,d,h,.pass Τ (λ_ _=>.inl aA2) a⟩
    |ret=>exact⟨_,f,d,h,.pass Τ (λ_ _=>.inl aA2) a⟩
    |panic R=>exact⟨_,f,d,h,.pass Τ (λ_ _=>.inl aA2) a⟩
    |outgrown=>exact⟨_,f,d,h,.pass Τ (λ_ _=>.inl aA2) a⟩
  intro b q cs;obtain⟨e,a',w',h,a⟩:=key _ b q cs B F w Τ O z;exact⟨e,a',w',h,.of_steps (.one step_loop) a⟩
 |some x=>
  intro b q cs I K v;have key:∀k:Nat,∀s F w,m s=k->mI F (L s)->wd s w->
    ∃e a' w',Q e a' w'/\ArrivesIn (Machine.fenced P (Ti x)) P (lone (b.atR (fr ⟨N,D,θ x⟩ F) (.code c::.inLoop c::q)) cs w) b q cs e a' w':=by
   intro k;induction k using Nat.strongRecOn with
   |_ k E=>
    intro s F w J M H;have A:=round s w F H;rw[NC _ _ M]at A;obtain⟨e,f,d,h,a⟩:=A b _ cs I K v;cases e with
    |normal=>obtain⟨s',y,rfl,u,r,t⟩:=h;obtain⟨o,p,j,i,g⟩:=E _ (J▸t) s' y d Τ u r;exact⟨o,p,j,i,.of_steps (StepsIn.trans a (.one (fenced_calm K v Τ) stepR_inLoop)) g⟩
    |exit id=>exact⟨_,f,d,h,.pass Τ (λ_ _=>.inl aA2) a⟩
    |goto l=>exact⟨_,f,d,h,.pass Τ (λ_ _=>.inl aA2) a⟩
    |ret=>exact⟨_,f,d,h,.pass Τ (λ_ _=>.inl aA2) a⟩
    |panic R=>exact⟨_,f,d,h,.pass Τ (λ_ _=>.inl aA2) a⟩
    |outgrown=>exact⟨_,f,d,h,.pass Τ (λ_ _=>.inl aA2) a⟩
  obtain⟨e,a',w',h,a⟩:=key _ B F w Τ O z;exact⟨e,a',w',h,.of_steps (.one (fenced_calm K v Τ) stepR_loop) a⟩
theorem BQ(h:C P n Q c F w)(s:∀e a w,Q e a w->b e a w):C P n b c F w:=BN h s
def Bh(a:δ Nat)(A G:Nat->ξ):Nat->ξ:=λt=>bif a.any (cY t)then A t else G t
theorem R1{A:Nat->ξ}:∀{a:δ Nat}{F:Nat->ξ},a.map F=a.map A->Bh a A F=F:=by
 intro a F h;funext t;unfold Bh;cases b:a.any _ with
 |false=>rfl
 |true=>obtain⟨x,hx,c⟩:=dS.1 b;have:=gR c;subst this;exact((List.map_inj_left.1 h) t hx).symm
theorem cut{σ:Type}(x:δ Nat)(L:σ->δ (Nat×ξ))(wd:σ->ο->Prop)
  (hx:C P n (Exit.then (λa' w'=>∃s' b,a'=fr n b/\x.map b=x.map (app (L s') F)/\wd s' w') Q) c F w)
  (d:∀s w G,wd s w->C P n Q y (Bh x (app (L s) F) G) w):C P n Q (.seq c y) F w:=by
 refine BR (BN hx λe a w' h=> ?_);cases e with
 |normal=>obtain⟨s',b,rfl,g,f⟩:=h;have:=d s' w' b f;rw[R1 g]at this;exact this
 |exit id=>exact h
 |goto l=>exact h
 |ret=>exact h
 |panic i=>exact h
 |outgrown=>exact h
theorem FK{σ:Type}(b:δ Nat)(L:σ->δ (Nat×ξ))(wd:σ->ο->Prop)(m:σ->Nat)(g:σ)(j:wd g w)
  (round:∀s w G,wd s w->C P n (Exit.then (λa' w'=>∃s' f,a'=fr n f/\b.map f=b.map (app (L s') F)/\wd s' w'/\m s'<m s) Q) c (Bh b (app (L s) F) G) w)
  (x:b.map F=b.map (app (L g) F):=by kernel_rfl):C P n Q (.loop c) F w:=by
 have k:∀A (l:δ Nat) (G:Nat->ξ),mI G (l.map λt=>(t,A t))↔l.map G=l.map A:=by
  intro A l G;induction l with
  |nil=>simp[mI]
  |cons t l i=>simp[mI,i]
 have ap:∀A l G,app (l.map λt=>(t,A t)) G=Bh l A G:=by
  intro A l G;induction l with
  |nil=>rfl
  |cons t l i=>
   funext u;simp only[tR,app,dP,i,Bh];by_cases d:u=t
   ·subst d;simp
   ·have:cY u t=ν:=by
     cases hx:cY u t
     ·rfl
     ·exact absurd (gR hx) d
    simp[this]
 refine z1 (σ:=σ) (λs=>b.map λt=>(t,app (L s) F t)) wd m g ((k _ _ _).2 x) j λs w G o=> ?_;rw[ap];refine BN (round s w G o) λe a w' h=> ?_;cases e with
 |normal=>obtain⟨s',f,v,r,q,p⟩:=h;exact⟨s',f,v,(k _ _ _).2 r,q,p⟩
 |exit id=>exact h
 |goto l=>exact h
 |ret=>exact h
 |panic y=>exact h
 |outgrown=>exact h
theorem jO(h:Q .normal (fr n F) w):W P n Ξ Q [] F w:=by
 obtain⟨k,D,ro⟩:=n;cases ro with
 |none=>exact h
 |some r=>exact h
variable{o:Α}
theorem tX{ρ:χ->ξ}{x:Next}{w':ο}(ro:ε Nat)(h:(ς ρ o).run P w=.ok x w')(hx:∀d,x≠.defer d):o.semAt ro ρ=ς ρ o:=by
 refine Oper.semAt_eq ro ρ o λc e=> ?_;unfold ς at h;rw[e]at h;simp at h;cases a:(resolve ρ c o.type).run P w with
 |ok d b=>rw[a]at h;simp at h;exact hx d h.1.symm
 |halt d b=>rw[a]at h;simp at h
theorem gC{v:ξ}{w':ο}(c:o.guard=ι)(f:o.dst=θ d)
  (a:(ς (aW n F) o).run P w=.ok (.value v) w') (h:W P n Ξ Q l (dP F d v) w'):W P n Ξ Q (o::l) F w:=by
 obtain⟨k,D,ro⟩:=n;cases ro with
 |none=>refine wpList_plain c λK b=> ?_;unfold Oper.wp;rw[SN,a,Oper.upon_value,f];refine b _ _ ?_;rw[kK];exact h
 |some r=>refine wpListIn_plain c λK b=>⟨λ_ _=>trivial,?_⟩;rw[SN,tX _ a (λd e=>by cases e),a,Oper.uponIn_value,f];refine b _ _ ?_;rw[kK];exact h
theorem wS{w':ο}(c:o.guard=ι)(f:o.dst=ι)
  (a:(ς (aW n F) o).run P w=.ok .skip w') (h:W P n Ξ Q l F w'):W P n Ξ Q (o::l) F w:=by
 obtain⟨k,D,ro⟩:=n;cases ro with
 |none=>refine wpList_plain c λK b=> ?_;unfold Oper.wp;rw[SN,a,Oper.upon_skip,f];exact b _ _ h
 |some r=>refine wpListIn_plain c λK b=>⟨λ_ _=>trivial,?_⟩;rw[SN,tX _ a (λd e=>by cases e),a,Oper.uponIn_skip,f];exact b _ _ h
variable{k:FuncId}
theorem OI(g:o.guard=ι)
  (a:(ς (aW n F) o).run P w=.ok (.enter k h.toArray) w) (i:CR P k h w R) (f:∀v w',R v w'->WR P n.ro Ξ Q l ((fr n F).put o.dst v) w'):W P n Ξ Q (o::l) F w:=by
 obtain⟨s,D,ro⟩:=n;cases ro with
 |none=>refine wpList_plain g λK c=> ?_;unfold Oper.wp;rw[SN,a];refine Calls.mono i ?_;rintro e w' ⟨v,rfl,b⟩;exact c _ _ (f v w' b)
 |some r=>refine wpListIn_plain g λK c=>⟨λ_ _=>trivial,?_⟩;rw[SN,tX _ a (λd e=>by cases e),a];refine⟨λf=>absurd f Bool.false_ne_true,?_⟩;refine(callsIn_wide).2 (Calls.mono i ?_);rintro e w' ⟨v,rfl,b⟩;exact c _ _ (f v w' b)
theorem bfs(Ξ:Array Α)(g:Nat)(dg:Nat)(d:(Ξ[g]?).bind (·.dst)=θ dg)(c:fI dg n.n=μ):
  yielded Ξ (fr n F).tmps g=match F dg with|.bool b=>θ b|_=>ι:=by
 have a:dg<n.n:=by simpa [iQ] using c
 unfold yielded;simp[d,fr,a];cases F dg<;>rfl
variable{m:Op}{f:ω}{g:String}{e:Array Edge}{i:η}
theorem JY{a:ε Nat}(dg:Nat)
  (s:(Ξ[d]?).bind (·.dst)=θ dg) (t:fI dg n.n=μ) (b:F dg=.bool i)
  (h:W P n Ξ Q (⟨a,m,f,g,e,ι⟩::l) F w):W P n Ξ Q (⟨a,m,f,g,e,θ (d,i)⟩::l) F w:=by
 have c:Region.wanted ⟨a,m,f,g,e,θ (d,i)⟩ (yielded Ξ (fr n F).tmps)=μ:=by unfold Region.wanted;simp only[bfs Ξ d dg s t,b];simp
 obtain⟨k,D,ro⟩:=n;cases ro with
 |none=>simp only[W,WR]at h⊢;unfold wpList at h⊢;rw[aB c];exact h
 |some r=>simp only[W,WR]at h⊢;unfold wpListIn at h⊢;rw[aB c];exact h
theorem tf(dg:Nat)
  (b:(Ξ[j]?).bind (·.dst)=θ dg) (s:fI dg n.n=μ) (c:F dg=.bool (!i))
  (h:W P n Ξ Q l (dP F d undef) w):W P n Ξ Q (⟨θ d,m,f,g,e,θ (j,i)⟩::l) F w:=by
 have a:¬Region.wanted ⟨θ d,m,f,g,e,θ (j,i)⟩ (yielded Ξ (fr n F).tmps)=μ:=by unfold Region.wanted;simp only[bfs Ξ j dg b s,c];simp
 obtain⟨k,D,ro⟩:=n;cases ro with
 |none=>simp only[W,WR]at h⊢;unfold wpList;rw[aA a];rw[kK];exact h
 |some r=>simp only[W,WR]at h⊢;unfold wpListIn;rw[aA a];refine⟨λ_ _=>trivial,?_⟩;rw[kK];exact h
theorem te(dg:Nat)
  (b:(Ξ[j]?).bind (·.dst)=θ dg) (s:fI dg n.n=μ) (c:F dg=undef)
  (h:W P n Ξ Q l (dP F d undef) w):W P n Ξ Q (⟨θ d,m,f,g,e,θ (j,i)⟩::l) F w:=by
 have a:¬Region.wanted ⟨θ d,m,f,g,e,θ (j,i)⟩ (yielded Ξ (fr n F).tmps)=μ:=by unfold Region.wanted;simp only[bfs Ξ j dg b s,c];simp[undef]
 obtain⟨k,D,ro⟩:=n;cases ro with
 |none=>simp only[W,WR]at h⊢;unfold wpList;rw[aA a];rw[kK];exact h
 |some r=>simp only[W,WR]at h⊢;unfold wpListIn;rw[aA a];refine⟨λ_ _=>trivial,?_⟩;rw[kK];exact h
section
variable{d:Nat}{ty:ω}{Ο:String}{Ν:Array Edge}{Ρ:δ Α}
variable{x:χ}
theorem jJ(v:ξ)(hx:aW n F x=v)(h:W P n Ξ Q Ρ (dP F d v) w):W P n Ξ Q (⟨θ d,.move x,ty,Ο,Ν,ι⟩::Ρ) F w:=
 gC Τ Τ (by rw[<-hx];rfl) h
theorem mN(v:ξ)(hx:aW n F x=v)(h:W P n Ξ Q Ρ (dP F d v) w):W P n Ξ Q (⟨θ d,.assign x,ty,Ο,Ν,ι⟩::Ρ) F w:=
 gC Τ Τ (by rw[<-hx];rfl) h
theorem Gp(b:η)(hx:aW n F x=.bool b)(a:b=μ->W P n Ξ Q Ρ (dP F d (.bool μ)) w)(c:b=ν->W P n Ξ Q Ρ (dP F d (.bool ν)) w):
  W P n Ξ Q (⟨θ d,.move x,ty,Ο,Ν,ι⟩::Ρ) F w:=by
 cases b with
 |true=>exact jJ _ hx (a Τ)
 |false=>exact jJ _ hx (c Τ)
theorem JX(p:Prop)[Decidable p](hx:aW n F x=.bool (decide p))(a:p->W P n Ξ Q Ρ (dP F d (.bool μ)) w)(b:¬p->W P n Ξ Q Ρ (dP F d (.bool ν)) w):
  W P n Ξ Q (⟨θ d,.move x,ty,Ο,Ν,ι⟩::Ρ) F w:=
 Gp _ hx (λh=>a (bX h)) (λh=>b (fF h))
variable{y:χ}
theorem ZP{b:χ}(t:η)(v:ξ)(f:aW n F x=.bool t)(e:(bif t then aW n F y else aW n F b)=v):(ς (aW n F) (⟨θ d,.pick x y b,ty,Ο,Ν,ι⟩)).run P w=.ok (.value v) w:=by simp only[ς,f];rw[<-e];cases t<;>rfl
variable{t:ω}
theorem ZQ(b:η)(hx:aW n F x=.bool b):(ς (aW n F) (⟨θ d,.unOp .not t x,ty,Ο,Ν,ι⟩)).run P w=.ok (.value (.bool (!b))) w:=by simp only[ς,hx];rfl
theorem xd(b:η)(hx:aW n F x=.bool (!b)):(ς (aW n F) (⟨θ d,.unOp .not t x,ty,Ο,Ν,ι⟩)).run P w=.ok (.value (.bool b)) w:=by simp only[ς,hx];cases b<;>rfl
structure bJ (a:Int):Prop where
 lo: -9223372036854775808<=a
 hi:a<=9223372036854775807
theorem bje{x:Int}(b: -9223372036854775808<=x)(a:x<=9223372036854775807):IntKind.i64.wrap x=x:=by rw[IntKind.wrap_i64];omega
variable{a:ω}
theorem A3(k:Ε)(e b:Int)(hx:aW n F x=.int k e)(c:aW n F y=.int k b):(ς (aW n F) (⟨θ d,.binOp .add t x y a,ty,Ο,Ν,ι⟩)).run P w=.ok (.value (.int k (k.wrap (e+b)))) w:=by simp only[ς,hx,c,binOp,ne_eq];rfl
theorem Jh(f b:Int)(hx:aW n F x=.int .i64 f)(e:aW n F y=.int .i64 b)(c:bJ (f+b)):(ς (aW n F) (⟨θ d,.binOp .add t x y a,ty,Ο,Ν,ι⟩)).run P w=.ok (.value (.int .i64 (f+b))) w:=by rw[A3 .i64 f b hx e,bje c.1 c.2]
theorem Cw(f b:Int)(hx:aW n F x=.int .i64 f)(c:aW n F y=.int .i64 b)(e:bJ (f+b))(h:W P n Ξ Q Ρ (dP F d (.int .i64 (f+b))) w):W P n Ξ Q (⟨θ d,.binOp .add t x y a,ty,Ο,Ν,ι⟩::Ρ) F w:=
 gC Τ Τ (Jh f b hx c e) h
theorem ZN(k:Ε)(e b:Int)(hx:aW n F x=.int k e)(c:aW n F y=.int k b):(ς (aW n F) (⟨θ d,.binOp .sub t x y a,ty,Ο,Ν,ι⟩)).run P w=.ok (.value (.int k (k.wrap (e-b)))) w:=by simp only[ς,hx,c,binOp,ne_eq];rfl
theorem oH(f b:Int)(hx:aW n F x=.int .i64 f)(e:aW n F y=.int .i64 b)(c:bJ (f-b)):(ς (aW n F) (⟨θ d,.binOp .sub t x y a,ty,Ο,Ν,ι⟩)).run P w=.ok (.value (.int .i64 (f-b))) w:=by rw[ZN .i64 f b hx e,bje c.1 c.2]
theorem oL(f b:Int)(hx:aW n F x=.int .i64 f)(c:aW n F y=.int .i64 b)(e:bJ (f-b))(h:W P n Ξ Q Ρ (dP F d (.int .i64 (f-b))) w):W P n Ξ Q (⟨θ d,.binOp .sub t x y a,ty,Ο,Ν,ι⟩::Ρ) F w:=
 gC Τ Τ (oH f b hx c e) h
theorem ZS(k:Ε)(e b:Int)(hx:aW n F x=.int k e)(c:aW n F y=.int k b):(ς (aW n F) (⟨θ d,.binOp .mul t x y a,ty,Ο,Ν,ι⟩)).run P w=.ok (.value (.int k (k.wrap (e*b)))) w:=by simp only[ς,hx,c,binOp,ne_eq];rfl
theorem ew(f b:Int)(hx:aW n F x=.int .i64 f)(e:aW n F y=.int .i64 b)(c:bJ (f*b)):(ς (aW n F) (⟨θ d,.binOp .mul t x y a,ty,Ο,Ν,ι⟩)).run P w=.ok (.value (.int .i64 (f*b))) w:=by rw[ZS .i64 f b hx e,bje c.1 c.2]
theorem ZT(k:Ε)(e b:Int)(hx:aW n F x=.int k e)(c:aW n F y=.int k b):(ς (aW n F) (⟨θ d,.binOp .lss t x y a,ty,Ο,Ν,ι⟩)).run P w=.ok (.value (.bool (decide (e<b)))) w:=by simp only[ς,hx,c,binOp,ne_eq];rfl
theorem ZU(k:Ε)(e b:Int)(hx:aW n F x=.int k e)(c:aW n F y=.int k b):(ς (aW n F) (⟨θ d,.binOp .leq t x y a,ty,Ο,Ν,ι⟩)).run P w=.ok (.value (.bool (decide (e<=b)))) w:=by simp only[ς,hx,c,binOp,ne_eq];rfl
theorem ZY(k:Ε)(e b:Int)(hx:aW n F x=.int k e)(c:aW n F y=.int k b):(ς (aW n F) (⟨θ d,.binOp .gtr t x y a,ty,Ο,Ν,ι⟩)).run P w=.ok (.value (.bool (decide (b<e)))) w:=by simp only[ς,hx,c,binOp,ne_eq];rfl
theorem ZZ(k:Ε)(e b:Int)(hx:aW n F x=.int k e)(c:aW n F y=.int k b):(ς (aW n F) (⟨θ d,.binOp .geq t x y a,ty,Ο,Ν,ι⟩)).run P w=.ok (.value (.bool (decide (b<=e)))) w:=by simp only[ς,hx,c,binOp,ne_eq];rfl
theorem A0(k:Ε)(e b:Int)(hx:aW n F x=.int k e)(c:aW n F y=.int k b):(ς (aW n F) (⟨θ d,.binOp .eql t x y a,ty,Ο,Ν,ι⟩)).run P w=.ok (.value (.bool (decide (e=b)))) w:=by simp only[ς,hx,c,binOp,ne_eq];rfl
theorem ZR(k:Ε)(e b:Int)(hx:aW n F x=.int k e)(c:aW n F y=.int k b):(ς (aW n F) (⟨θ d,.binOp .neq t x y a,ty,Ο,Ν,ι⟩)).run P w=.ok (.value (.bool (!decide (e=b)))) w:=by simp only[ς,hx,c,binOp,ne_eq];rfl
end
end
attribute [irreducible] W C Ga WR CC
def Κ(l:δ ζ)(i:Int):ζ:=l.getD i.toNat 0
def sub(l:δ ζ)(i j:Int):δ ζ:=(l.drop i.toNat).take (j.toNat-i.toNat)
end Go.Wk
set_option linter.unusedSimpArgs false
namespace Go.Wk
open Go.Op renaming bytesLess → qS
open Nat renaming blt → fI
def str(l:δ ζ):ξ:=.string ⟨l.toArray⟩
def bt(c:ζ):ξ:=.int .u8 (c.toNat:Int)
def Enters(P : Β)(f : FuncId) : Prop := ∃ fn c, P.funcs[f]? = θ fn /\ fn.body = θ c /\ (fn.name == "runtime.NumGoroutine") = ν
theorem Enters.run{P:Β}{f:FuncId}(h:Enters P f)(args:Array ξ)(w:ο):(callFunc f args).run P w=.ok (.enter f args) w:=by obtain⟨fn,c,d,b,a⟩:=h;show Sem.run P (match P.funcs[f]? with|none=>_|some fn=>_) w=_;rw[d];simp only[a,b];rfl
section
variable{P:Β}{n:Md}{Ξ:Array Α}{Q:Exit->Act->ο->Prop}{F:Nat->ξ}{w:ο}
variable{c:Nat}{a:ε (ε Nat)}{b:Func}{R:ξ->ο->Prop}{t:Nat}
theorem pT(v:ξ)(d:b.results= #[.tmp t])(f:aW ⟨c,[],a⟩ F (.tmp t)=v)(h:R v w):
  bodyPost P b (λe w'=>∃v,e=.returned v/\R v w') .ret (fr ⟨c,[],a⟩ F) w:=
 ⟨Τ,v,by rw[results_tmp d,oY];exact bA (λx=>Result.ok x w) f,v,Τ,h⟩
theorem xE(d:b.results= #[])(h:R (.tuple #[]) w):
  bodyPost P b (λe w'=>∃v,e=.returned v/\R v w') .ret (fr ⟨c,[],a⟩ F) w:=
 ⟨Τ,_,results_none d _ _ _,_,Τ,h⟩
theorem uA(d:b.results= #[])(h:R (.tuple #[]) w):
  bodyPost P b (λe w'=>∃v,e=.returned v/\R v w') .normal (fr ⟨c,[],a⟩ F) w:=
 ⟨Τ,_,results_none d _ _ _,_,Τ,h⟩
theorem r_two{u:Nat}(v k:ξ)(f:b.results= #[.tmp t,.tmp u])(d:aW ⟨c,[],a⟩ F (.tmp t)=v)(j:aW ⟨c,[],a⟩ F (.tmp u)=k)(h:R (.tuple #[v,k]) w):
  bodyPost P b (λe w'=>∃v,e=.returned v/\R v w') .ret (fr ⟨c,[],a⟩ F) w:=by
 refine⟨Τ,_,?_,_,Τ,h⟩;rw[results_tmp2 f,oY,oY];have i:(bif fI t c then F t else undef)=v:=d;have g:(bif fI u c then F u else undef)=k:=j;rw[i,g]
theorem IN{u s:Nat}(v d o:ξ)(i:b.results= #[.tmp t,.tmp u,.tmp s])(g:aW ⟨c,[],a⟩ F (.tmp t)=v)(f:aW ⟨c,[],a⟩ F (.tmp u)=d)(m:aW ⟨c,[],a⟩ F (.tmp s)=o)
  (h:R (.tuple #[v,d,o]) w):bodyPost P b (λe w'=>∃v,e=.returned v/\R v w') .ret (fr ⟨c,[],a⟩ F) w:=by
 refine⟨Τ,_,?_,_,Τ,h⟩;have l:(bif fI t c then F t else undef)=v:=g;have k:(bif fI u c then F u else undef)=d:=f;have j:(bif fI s c then F s else undef)=o:=m;simp[results,i,oY,l,k,j,-Array.getD_eq_getD_getElem?]
section
variable{d:Nat}{ty:ω}{Ο:String}{Ν:Array Edge}{Ρ:δ Α}
variable{x:χ}{b:Array χ}{c:Array ω}
theorem vC(f:FuncId)(cap:Array ξ)(vs:δ ξ)(R:ξ->ο->Prop)(j:Enters P f)
  (e:aW n F x=.func (.func f) #[] cap) (i: #[]++b.map (aW n F)++cap=vs.toArray) (g:CR P f vs w R) (h:∀v w',R v w'->W P n Ξ Q Ρ (dP F d v) w'):
  W P n Ξ Q (⟨θ d,.call ⟨.value x,b,c⟩,ty,Ο,Ν,ι⟩::Ρ) F w:=by
 refine OI Τ ?_ g (λv w' a=> ?_)
 ·simp only[ς,resolve,e,Deferred.ofValue];show Sem.run P (callFunc f _) w=_;rw[i];exact j.run _ _
 ·have:=h v w' a;unfold W at this;rw[<-kK]at this;exact this
theorem fp(f:FuncId)(cap:Array ξ)(vs:δ ξ)(R:ξ->ο->Prop)(i:Enters P f)
  (d:aW n F x=.func (.func f) #[] cap) (g: #[]++b.map (aW n F)++cap=vs.toArray) (e:CR P f vs w R) (h:∀v w',R v w'->W P n Ξ Q Ρ F w'):
  W P n Ξ Q (⟨ι,.call ⟨.value x,b,c⟩,ty,Ο,Ν,ι⟩::Ρ) F w:=by
 refine OI Τ ?_ e (λv w' a=> ?_)
 ·simp only[ς,resolve,d,Deferred.ofValue];show Sem.run P (callFunc f _) w=_;rw[g];exact i.run _ _
 ·have:=h v w' a;unfold W at this;exact this
variable{y:χ}
theorem x_min(k:Ε)(a b:Int)(hx:aW n F x=.int k a)(f:aW n F y=.int k b):(ς (aW n F) (⟨θ d,.call ⟨.builtin .min,#[x,y],c⟩,ty,Ο,Ν,ι⟩)).run P w=.ok (.value (.int k (min a b))) w:=by
 have e:(ς (aW n F) (⟨θ d,.call ⟨.builtin .min,#[x,y],c⟩,ty,Ο,Ν,ι⟩:Α)).run P w=.ok (.value (.int k (if b<a then b else a))) w:=by simp only[ς,resolve,List.map_toArray,tR,hx,f];rfl
 rw[e];congr 3;split<;>omega
theorem so(k:Ε)(a b:Int)(hx:aW n F x=.int k a)(f:aW n F y=.int k b):(ς (aW n F) (⟨θ d,.call ⟨.builtin .max,#[x,y],c⟩,ty,Ο,Ν,ι⟩)).run P w=.ok (.value (.int k (max a b))) w:=by
 have e:(ς (aW n F) (⟨θ d,.call ⟨.builtin .max,#[x,y],c⟩,ty,Ο,Ν,ι⟩:Α)).run P w=.ok (.value (.int k (if a<b then b else a))) w:=by simp only[ς,resolve,List.map_toArray,tR,hx,f];rfl
 rw[e];congr 3;split<;>omega
theorem td(k:Ε)(a b:Int)(hx:aW n F x=.int k a)(e:aW n F y=.int k b)(h:W P n Ξ Q Ρ (dP F d (.int k (max a b))) w):W P n Ξ Q (⟨θ d,.call ⟨.builtin .max,#[x,y],c⟩,ty,Ο,Ν,ι⟩::Ρ) F w:=
 gC Τ Τ (so k a b hx e) h
variable{t:ω}
theorem sp(l:δ ζ)(a:P.underlying t=θ .string)(hx:aW n F x=str l):(ς (aW n F) (⟨θ d,.call ⟨.builtin .len,#[x],#[t]⟩,ty,Ο,Ν,ι⟩)).run P w=.ok (.value (.int .i64 (γ l))) w:=by simp[ς,resolve,invoke,builtin,hx,str,run_len_string _ _ _ _ a];rfl
variable{a:ω}
theorem OD(f b:δ ζ)(hx:aW n F x=str f)(c:aW n F y=str b):(ς (aW n F) (⟨θ d,.binOp .eql t x y a,ty,Ο,Ν,ι⟩)).run P w=.ok (.value (.bool (decide (f=b)))) w:=by
 have e:(f==b)=decide (f=b):=by rw[cz];simp
 simp[ς,hx,c,str,eqGuard,binOp_string_eql,e]
theorem OA(f b:δ ζ)(hx:aW n F x=str f)(c:aW n F y=str b):(ς (aW n F) (⟨θ d,.binOp .neq t x y a,ty,Ο,Ν,ι⟩)).run P w=.ok (.value (.bool (!decide (f=b)))) w:=by
 have e:(f==b)=decide (f=b):=by rw[cz];simp
 simp[ς,hx,c,str,eqGuard,binOp_string_neq,e]
theorem OB(e b:δ ζ)(hx:aW n F x=str e)(c:aW n F y=str b):(ς (aW n F) (⟨θ d,.binOp .lss t x y a,ty,Ο,Ν,ι⟩)).run P w=.ok (.value (.bool (qS e b))) w:=by simp[ς,hx,c,str,eqGuard,binOp_string_lss]
theorem OC(e b:δ ζ)(hx:aW n F x=str e)(c:aW n F y=str b):(ς (aW n F) (⟨θ d,.binOp .gtr t x y a,ty,Ο,Ν,ι⟩)).run P w=.ok (.value (.bool (!(qS e b||e==b)))) w:=by simp[ς,hx,c,str,eqGuard,binOp,Op.stringOp]
theorem CQ(f b:δ ζ)(hx:aW n F x=str f)(e:aW n F y=str b)(c:γ f+γ b<=9223372036854775807)
  :(ς (aW n F) (⟨θ d,.binOp .add t x y a,ty,Ο,Ν,ι⟩)).run P w=.ok (.value (str (f++b))) w:=by
 simp[ς,hx,e,str,eqGuard,binOp_string_add,run_string_add_sum w ⟨f.toArray⟩ ⟨b.toArray⟩ c,ByteArray.mk_append_mk]
theorem dr(f b:δ ζ)(hx:aW n F x=str f)(e:aW n F y=str b)(c:γ f+γ b<=9223372036854775807)
  (h:W P n Ξ Q Ρ (dP F d (str (f++b))) w):W P n Ξ Q (⟨θ d,.binOp .add t x y a,ty,Ο,Ν,ι⟩::Ρ) F w:=
 gC Τ Τ (CQ f b hx e c) h
theorem oJ(l:δ ζ)(k:Ε)(i:Int)(c:P.underlying t=θ .string)(hx:aW n F x=str l)(g:aW n F y=.int k i)
  (h:0<=i/\i<γ l):(ς (aW n F) (⟨θ d,.index t x y,ty,Ο,Ν,ι⟩)).run P w=.ok (.value (bt (Κ l i))) w:=by
 have a:0<=i/\i<(⟨l.toArray⟩:ByteArray).size:=h;have f:i.toNat<γ l:=aA0;have e:=run_index_string (P:=P) w t ⟨l.toArray⟩ k i c;rw[dif_pos a]at e;simp only[ς,hx,g,str,Sem.run_bind,e];show Result.ok (Next.value (.int .u8 ((l[i.toNat]).toNat))) w=_;simp[bt,Κ,f]
theorem qb(l:δ ζ)(k:Ε)(i:Int)(b:P.underlying t=θ .string)(hx:aW n F x=str l)(c:aW n F y=.int k i)
  (e:0<=i/\i<(γ l:Int)) (h:W P n Ξ Q Ρ (dP F d (bt (Κ l i))) w):W P n Ξ Q (⟨θ d,.index t x y,ty,Ο,Ν,ι⟩::Ρ) F w:=
 gC Τ Τ (oJ l k i b hx c e) h
theorem OE{h:χ}(l:δ ζ)(k k':Ε)(i j:Int)(g:P.underlying t=θ .string)(hx:aW n F x=str l)(a:aW n F y=.int k i)(b:aW n F h=.int k' j)
  (c:0<=i/\i<=j/\j<=γ l):(ς (aW n F) (⟨θ d,.slice t x (θ y) (θ h) ι,ty,Ο,Ν,ι⟩)).run P w=.ok (.value (str (sub l i j))) w:=by
 have e:=run_slice_string w t ⟨l.toArray⟩ k k' i j g c.1 c.2.1 c.2.2;simp only[ς,hx,a,b,str,Sem.run_bind,cy,Ge,run_sliceAt_string w t _ _ _ _ g,e,ByteArray.extract_mk];rfl
theorem Xu{e:χ}(l:δ ζ)(k k':Ε)(i j:Int)(f:P.underlying t=θ .string)(hx:aW n F x=str l)(a:aW n F y=.int k i)(b:aW n F e=.int k' j)
  (g:0<=i/\i<=j/\j<=(γ l:Int)) (h:W P n Ξ Q Ρ (dP F d (str (sub l i j))) w):W P n Ξ Q (⟨θ d,.slice t x (θ y) (θ e) ι,ty,Ο,Ν,ι⟩::Ρ) F w:=
 gC Τ Τ (OE l k k' i j f hx a b g) h
theorem oI{t:ω}(l:δ ζ)(k:Ε)(i:Int)(c:P.underlying t=θ .string)(hx:aW n F x=str l)(a:aW n F y=.int k i)
  (f:0<=i/\i<=γ l):(ς (aW n F) (⟨θ d,.slice t x (θ y) ι ι,ty,Ο,Ν,ι⟩)).run P w=.ok (.value (str (l.drop i.toNat))) w:=by
 have e:=run_slice_string_l (w:=w) (t:=t) (s:=⟨l.toArray⟩) c k i f.1 f.2;simp only[ς,hx,a,str,Sem.run_bind,cy,Ge,run_sliceAt_string w t _ _ _ _ c,e,ByteArray.extract_mk];have g:(l.drop i.toNat).take ((⟨l.toArray⟩:ByteArray).size-i.toNat)=l.drop i.toNat:=eX (by show(l.drop i.toNat).length<=γ l-i.toNat;simp);rw[g];rfl
theorem azj(l:δ ζ)(k:Ε)(i:Int)(c:P.underlying t=θ .string)(hx:aW n F x=str l)(a:aW n F y=.int k i)
  (e:0<=i/\i<=(γ l:Int)) (h:W P n Ξ Q Ρ (dP F d (str (l.drop i.toNat))) w):W P n Ξ Q (⟨θ d,.slice t x (θ y) ι ι,ty,Ο,Ν,ι⟩::Ρ) F w:=
 gC Τ Τ (oI l k i c hx a e) h
theorem Kj{t:ω}(l:δ ζ)(k:Ε)(j:Int)(b:P.underlying t=θ .string)(hx:aW n F x=str l)(a:aW n F y=.int k j)
  (f:0<=j/\j<=γ l):(ς (aW n F) (⟨θ d,.slice t x ι (θ y) ι,ty,Ο,Ν,ι⟩)).run P w=.ok (.value (str (l.take j.toNat))) w:=by
 have e:=run_slice_string_h (w:=w) (t:=t) (s:=⟨l.toArray⟩) b k j f.1 f.2;simp only[ς,hx,a,str,Sem.run_bind,cy,Ge,run_sliceAt_string w t _ _ _ _ b,e,ByteArray.extract_mk];rfl
theorem Kp(l:δ ζ)(k:Ε)(j:Int)(c:P.underlying t=θ .string)(hx:aW n F x=str l)(a:aW n F y=.int k j)
  (e:0<=j/\j<=(γ l:Int)) (h:W P n Ξ Q Ρ (dP F d (str (l.take j.toNat))) w):W P n Ξ Q (⟨θ d,.slice t x ι (θ y) ι,ty,Ο,Ν,ι⟩::Ρ) F w:=
 gC Τ Τ (Kj l k j c hx a e) h
theorem JV(k k':Ε)(s:Int)(c:P.underlying t=θ (.int k'))(b:P.underlying a=θ (.int k))(hx:aW n F x=.int k' s):(ς (aW n F) (⟨θ d,.convert t a x,ty,Ο,Ν,ι⟩)).run P w=.ok (.value (.int k (k.wrap s))) w:=by simp[ς,hx,convert,run_underlying c,run_underlying b,Conv.intToInt]
theorem tS(k k':Ε)(s:Int)(e:P.underlying t=θ (.int k'))(c:P.underlying a=θ (.int k))(hx:aW n F x=.int k' s)(b:k.wrap s=s):(ς (aW n F) (⟨θ d,.convert t a x,ty,Ο,Ν,ι⟩)).run P w=.ok (.value (.int k s)) w:=by rw[JV k k' s e c hx,b]
theorem fk(k k':Ε)(s:Int)(e:P.underlying t=θ (.int k'))(c:P.underlying a=θ (.int k))(hx:aW n F x=.int k' s)(b:k.wrap s=s)(h:W P n Ξ Q Ρ (dP F d (.int k s)) w):W P n Ξ Q (⟨θ d,.convert t a x,ty,Ο,Ν,ι⟩::Ρ) F w:=
 gC Τ Τ (tS k k' s e c hx b) h
theorem TJ(l:δ ζ)(b:P.underlying t=θ .string)(s:P.underlying a=θ .string)(hx:aW n F x=str l):(ς (aW n F) (⟨θ d,.convert t a x,ty,Ο,Ν,ι⟩)).run P w=.ok (.value (str l)) w:=by simp[ς,hx,str,convert,run_underlying b,run_underlying s]
theorem x_eqb(f b:η)(e:P.underlying t=θ .bool)(hx:aW n F x=.bool f)(c:aW n F y=.bool b):(ς (aW n F) (⟨θ d,.binOp .eql t x y a,ty,Ο,Ν,ι⟩)).run P w=.ok (.value (.bool (f==b))) w:=by simp[ς,hx,c,eqGuard,run_eql_bool _ _ _ _ e]
theorem x_neb(f b:η)(e:P.underlying t=θ .bool)(hx:aW n F x=.bool f)(c:aW n F y=.bool b):(ς (aW n F) (⟨θ d,.binOp .neq t x y a,ty,Ο,Ν,ι⟩)).run P w=.ok (.value (.bool (!(f==b)))) w:=by simp[ς,hx,c,eqGuard,run_neq_bool _ _ _ _ e]
theorem Tx{i:Nat}(vs:Array ξ)(v:ξ)(hx:aW n F x=.tuple vs)(a:vs[i]? =θ v):(ς (aW n F) (⟨θ d,.extract x i,ty,Ο,Ν,ι⟩)).run P w=.ok (.value v) w:=by simp[ς,hx,Instr.extract,a]
end
end
structure cF where
 own:Option Nat
 ok:Option Obj->Prop
def cF.holds(r:cF)(w:ο):Prop:=r.ok (r.own.bind λb=>w.heap[b]?)
def aY(b:Nat)(cs:δ ξ)(e:ω):cF:=⟨θ b,λo=>o=θ (.cells cs.toArray e (0,0))⟩
def row(v:ξ)(e:ω)(sz n:Nat)(b:δ ξ):cF:=
 ⟨v.ownBlock,λo=>γ b=n*sz/\((v=.slice ι 0 0/\n=0)\/
  ∃g cap a,v=.slice (θ ⟨g,0,ι⟩) n cap/\o=θ (.cells a e (0,0))/\n<=cap/\cap<=maxLen/\a.size=cap*sz/\a.toList.take (n*sz)=b)⟩
def gF(v:ξ)(n:Nat)(l:δ ζ):cF:=
 ⟨v.ownBlock,λo=>γ l=n/\∃g cap a e b,v=.slice (θ ⟨g,0,ι⟩) n cap/\o=θ (.cells a e b)/\n<=cap/\cap<=a.size/\a.toList.take n=l.map bt/\a.size<=b.1⟩
structure Hp (w0:ο) (S:List Nat) (L:List cF) (w:ο):Prop where
 os:w.os=w0.os
 tape:w.tape=w0.tape
 output:w.output=w0.output
 size:w0.heap.size<=w.heap.size
 below:∀k,k<w0.heap.size->k∉S->w.heap[k]? =w0.heap[k]?
 res:∀r∈L,r.holds w/\∀b,r.own=θ b->b<w.heap.size/\(w0.heap.size<=b\/b∈S)
 sep:L.Pairwise λr r'=>∀b,r.own=θ b->r'.own≠θ b
theorem Hp.refl(w:ο):Hp w [] [] w:=⟨Τ,Τ,Τ,dK _,λ_ _ _=>rfl,λ_ h=>by simp at h,List.Pairwise.nil⟩
variable{w a:ο}{L:δ cF}
theorem Hp.toBelow(h:Hp w [] L a):RowKit.Below w.heap.size w a:=⟨h.os,h.tape,h.output,h.size,λk c=>h.below k c aA2⟩
theorem Hp.Ak(h:RowKit.Below w.heap.size w a):Hp w [] [] a:=⟨h.os,h.tape,h.output,h.size,λk c _=>h.block k c,λ_ h=>by simp at h,List.Pairwise.nil⟩
theorem cF.holds_of{r:cF}(h:r.holds w)(c:∀b,r.own=θ b->a.heap[b]? =w.heap[b]?):r.holds a:=by
 unfold cF.holds at*;cases d:r.own with
 |none=>simpa [d] using h
 |some b=>simpa [d,c b d] using h
variable{S:δ Nat}{b:δ cF}
theorem Hp.sub(h:Hp w S L a)(d:b.Sublist L):Hp w S b a:=
 ⟨h.os,h.tape,h.output,h.size,h.below,λr c=>h.res r (d.subset c),h.sep.sublist d⟩
theorem Hp.nil(h:Hp w S L a):Hp w S [] a:=h.sub (List.nil_sublist _)
theorem Hp.perm(h:Hp w S L a)(c:L.Perm b):Hp w S b a:=
 ⟨h.os,h.tape,h.output,h.size,h.below,λr e=>h.res r (c.symm.subset e),c.pairwise h.sep (λh g f d=>h g d f)⟩
theorem Hp.lU{w':ο}(h:Hp w S L a)(c:Hp a [] b w'):Hp w S (b++L) w':=by
 have d:∀n,n<a.heap.size->w'.heap[n]? =a.heap[n]? :=λn d=>c.below n d aA2;refine⟨c.os.trans h.os,c.tape.trans h.tape,c.output.trans h.output,qT h.size c.size,λk g j=> ?_,λr i=> ?_,?_⟩
 ·rw[d k (NV g h.size)];exact h.below k g j
 ·rcases aV.1 i with i|i
  ·refine⟨(c.res r i).1,λn e=> ?_⟩;have:=(c.res r i).2 n e;simp at this;exact⟨this.1,.inl (qT h.size this.2)⟩
  ·refine⟨cF.holds_of (h.res r i).1 λn e=>d n ((h.res r i).2 n e).1,λn e=> ?_⟩;have:=(h.res r i).2 n e;exact⟨NV this.1 c.size,this.2⟩
 ·refine dE.2 ⟨c.sep,h.sep,λr i r' f n e e'=> ?_⟩;have l:=(c.res r i).2 n e;have m:=(h.res r' f).2 n e';simp at l;omega
theorem Hp.call{w':ο}(h:Hp w S L a)(c:Hp a [] [] w'):Hp w S L w':=h.lU c
theorem Hp.change{w':ο}(h:Hp w S L a)(k:Nat)(r r':cF)(D:L[k]? =θ r)(N:w'.os=a.os)(K:w'.tape=a.tape)(J:w'.output=a.output)
  (F:a.heap.size<=w'.heap.size) (H:∀j,j<a.heap.size->θ j≠r.own->w'.heap[j]? =a.heap[j]?) (M:r'.holds w')
  (C:∀b,r'.own=θ b->(r.own=θ b\/a.heap.size<=b)/\b<w'.heap.size):Hp w S (L.set k r') w':=by
 have n:r∈L:=aI D;have u:k<γ L:=(aF.1 D).1;have m:∀x,x∈L.eraseIdx k->∀b,x.own=θ b->r.own≠θ b:=by
  intro x hx b s t;obtain⟨j,c,P,q⟩:∃j,∃(c:j<γ L),j≠k/\L[j]=x:=by rw[iF]at hx;obtain⟨j,c,P,e⟩:=hx;exact⟨j,c,P,e⟩
  have v:L[k]=r:=(aF.1 D).2;have B:=eE.1 h.sep;rcases tM j k with G|G
  ·exact B j k c u G b (by rw[q];exact s) (by rw[v];exact t)
  ·exact B k j u c aA0 b (by rw[v];exact t) (by rw[q];exact s)
 have d:∀x,x∈L.set k r'->x=r'\/x∈L.eraseIdx k:=by
  intro x hx;obtain⟨j,c,e⟩:=List.getElem_of_mem hx;by_cases P:j=k
  ·subst P;left;simpa using e.symm
  ·right;rw[iF];refine⟨j,aC8,P,?_⟩;rw[mJ (λe=>P e.symm)]at e;exact e
 have f:∀x∈L.eraseIdx k,∀b,x.own=θ b->w'.heap[b]? =a.heap[b]? :=λx hx b e=>
  H b ((h.res x (CF hx)).2 b e).1 (λe'=>m x hx b e e'.symm)
 refine⟨N.trans h.os,K.trans h.tape,J.trans h.output,qT h.size F,λj c I=> ?_,λx hx=> ?_,?_⟩
 ·rw[H j (NV c h.size) (λe=> ?_)];exact h.below j c I;have:=((h.res r n).2 j e.symm).2;rcases this with l|l
  ·omega
  ·exact I l
 ·rcases d x hx with rfl|hx
  ·refine⟨M,λb e=>⟨(C b e).2,?_⟩⟩;rcases(C b e).1 with l|l
   ·exact((h.res r n).2 b l).2
   ·exact .inl (qT h.size l)
  ·have p:=CF hx;exact⟨cF.holds_of (h.res x p).1 (f x hx),λb e=>⟨NV ((h.res x p).2 b e).1 F,((h.res x p).2 b e).2⟩⟩
 ·have o:∀x∈L.eraseIdx k,∀b,r'.own=θ b->x.own≠θ b:=by
   intro x hx b e e';rcases(C b e).1 with l|l
   ·exact m x hx b e' l
   ·have:=((h.res x (CF hx)).2 b e').1;omega
  have B:=eE.1 h.sep;refine eE.2 λi j O c E b=> ?_;have A:i<γ L:=by simpa using O
  have z:j<γ L:=aC8;by_cases g:i=k
  ·subst g;have y:j≠i:=by omega
   rw[List.getElem_set_self,mJ (λe=>y e.symm)];intro e;exact o _ (by rw[iF];exact⟨j,z,y,Τ⟩) b e
  ·by_cases P:j=k
   ·subst P;rw[List.getElem_set_self,mJ (λe=>g e.symm)];intro e e';exact o _ (by rw[iF];exact⟨i,A,g,Τ⟩) b e' e
   ·rw[mJ (λe=>g e.symm),mJ (λe=>P e.symm)];exact B i j A z E b
theorem Hp.alloc{w0 w:ο}{S:δ Nat}{L:δ cF}(h:Hp w0 S L w)(cs:δ ξ)(e:ω):Hp w0 S (aY w.heap.size cs e::L) (w.alloc (.cells cs.toArray e (0,0))):=by
 have d:Hp w [] [aY w.heap.size cs e] (w.alloc (.cells cs.toArray e (0,0))):=by
  refine⟨Τ,Τ,Τ,aA2,λk c _=>RowKit.Below.heap_alloc w _ k c,λr a=> ?_,aA2⟩;simp at a;subst a;refine⟨?_,λb e=> ?_⟩
  ·show(w.heap.push _)[w.heap.size]? =_;simp
  ·simp[aY]at e;subst e;simp
 exact h.lU d
theorem Hp.dO(h:Hp w S L a)(k:Nat){b:Nat}{cs:δ ξ}{e:ω}(c:L[k]? =θ (aY b cs e)):
  a.heap[b]? =θ (.cells cs.toArray e (0,0)):=(h.res _ (aI c)).1
section
variable{P:Β}{n:Md}{Ξ:Array Α}{Q:Exit->Act->ο->Prop}{F:Nat->ξ}{w w0:ο}{S:δ Nat}{L:δ cF}
variable{d:Nat}{ty:ω}{Ο:String}{Ν:Array Edge}{Ρ:δ Α}
theorem jS{o:Α}(g:Hp w0 S L w)(cs:δ ξ)(e:ω)(V:Nat->ξ)(c:o.guard=ι)(f:o.dst=θ d)
  (a:(ς (aW n F) o).run P w=.ok (.value (V w.heap.size)) (w.alloc (.cells cs.toArray e (0,0))))
  (h:∀b w',Hp w0 S (aY b cs e::L) w'->W P n Ξ Q Ρ (dP F d (V b)) w'):W P n Ξ Q (o::Ρ) F w:=
 gC c f a (h _ _ (g.alloc cs e))
variable{a:δ ξ}{t:ω}
theorem blg{b off:Nat}{e:Nat×Nat}(h:w.heap[b]? =θ (.cells a.toArray t e)):w.cell? ⟨b,off,ι⟩=a[off]? :=by simp[World.cell?,h]
variable{x:χ}
theorem nV(i:Hp w0 S L w)(k b off:Nat)(cs:δ ξ)(e:ω)(v:ξ)(f:L[k]? =θ (aY b cs e))(c:cs[off]? =θ v)
  (hx:aW n F x=.pointer (θ ⟨b,off,ι⟩)) (g:(isAgg t).run P w=.ok ν w) (h:W P n Ξ Q Ρ (dP F d v) w):
  W P n Ξ Q (⟨θ d,.load t x,ty,Ο,Ν,ι⟩::Ρ) F w:=by
 refine gC (w':=w) Τ Τ ?_ h;have a:=blg (off:=off) (i.dO k f);rw[c]at a;simp[ς,hx,Instr.loadAt,Instr.sureAddr,loadVar,g,a]
theorem SY(b off i:Nat):(⟨b,off,ι⟩:Γ).add i=⟨b,off+i,ι⟩:=by
 unfold Addr.add;by_cases a:i=0
 ·subst a;simp
 ·simp[a]
theorem mM(r:Hp w0 S L w)(k b off m:Nat)(cs vs:δ ξ)(e:ω)(l:L[k]? =θ (aY b cs e))(f:(cs.drop off).take m=vs)(i:γ vs=m)
  (hx:aW n F x=.pointer (θ ⟨b,off,ι⟩)) (q:(isAgg t).run P w=.ok μ w) (g:(sizeOf t).run P w=.ok m w) (h:W P n Ξ Q Ρ (dP F d (.agg vs.toArray)) w):
  W P n Ξ Q (⟨θ d,.load t x,ty,Ο,Ν,ι⟩::Ρ) F w:=by
 refine gC (w':=w) Τ Τ ?_ h;have p:=r.dO k l;have o:(loadCells ⟨b,off,ι⟩ m).run P w=.ok vs.toArray w:=by
  rw[<-i];refine run_loadCells_list w _ vs λj v a=> ?_;rw[SY,blg p];rw[<-f]at a;have c:j<m:=by have:=(aF.1 a).1;simp at this;omega
  rw[bQ,aB c,bV]at a;exact a
 simp[ς,hx,Instr.loadAt,Instr.sureAddr,loadVar,q,g,o]
def Ql(cs:δ ξ)(off:Nat)(vs:δ ξ):δ ξ:=cs.take off++vs++cs.drop (off+γ vs)
theorem Hp.stored{k b off:Nat}{vs:δ ξ}(g:Hp w0 S L w)(f:L[k]? =θ (aY b a t))(h:off+γ vs<=γ a)(i:∀v∈vs,v.oneCell'=μ):
  ∃w',(storeCells ⟨b,off,ι⟩ vs).run P w=.ok () w'/\Hp w0 S (L.set k (aY b (Ql a off vs) t)) w':=by
 have d:=g.dO k f;have e:=run_storeCells_at P b off t vs 0 a.toArray w d aA7 i;refine⟨_,e,g.change k _ _ f Τ Τ Τ aA2 (λj l c=>setRow_other w b j _ (λt=>c (by simp[aY,t]))) ?_ ?_⟩
 ·show(w.setRow b _).heap[b]? =_;rw[setRow_heap w b a.toArray _ t _ d];simp[Ql]
 ·intro b' e';simp[aY]at e';subst e';refine⟨.inl Τ,?_⟩;have:=(cG.1 d).1;simpa using this
theorem kA{y:χ}(q:Hp w0 S L w)(k b off:Nat)(cs:δ ξ)(e:ω)(v:ξ)(g:δ cF)(o:L[k]? =θ (aY b cs e))(m:off<γ cs)
  (hx:aW n F x=.pointer (θ ⟨b,off,ι⟩)) (i:aW n F y=v) (f:v.oneCell'=μ) (j:(sizeOf t).run P w=.ok 1 w) (p:L.set k (aY b (cs.set off v) e)=g)
  (h:∀w',Hp w0 S g w'->W P n Ξ Q Ρ F w'):
  W P n Ξ Q (⟨ι,.store t x y,ty,Ο,Ν,ι⟩::Ρ) F w:=by
 have a:v.cells= #[v]:=by cases v<;>first|rfl|simp[Value.oneCell']at f
 obtain⟨w',l,c⟩:=q.stored (P:=P) (vs:=[v]) (off:=off) o aA3 aE3;have d:Ql cs off [v]=cs.set off v:=by unfold Ql;rw[zbN,aB m];simp
 rw[d,p]at c;refine wS (w':=w') Τ Τ ?_ (h w' c);simp[ς,hx,i,Instr.storeAt,Instr.sureAddr,storeVar,j,a,l]
theorem Cf{y:χ}(m:Hp w0 S L w)(k b off:Nat)(cs vs:δ ξ)(e:ω)(c:δ cF)(j:L[k]? =θ (aY b cs e))(i:off+γ vs<=γ cs)
  (hx:aW n F x=.pointer (θ ⟨b,off,ι⟩)) (d:aW n F y=.agg vs.toArray) (o:vs.all (·.oneCell')=μ) (f:(sizeOf t).run P w=.ok (γ vs) w) (l:L.set k (aY b (Ql cs off vs) e)=c)
  (h:∀w',Hp w0 S c w'->W P n Ξ Q Ρ F w'):
  W P n Ξ Q (⟨ι,.store t x y,ty,Ο,Ν,ι⟩::Ρ) F w:=by
 obtain⟨w',g,a⟩:=m.stored (P:=P) j i (by simpa using o);rw[l]at a;refine wS (w':=w') Τ Τ ?_ (h w' a);simp[ς,hx,d,Instr.storeAt,Instr.sureAddr,storeVar,f,Value.cells,g]
end
open List renaming replicate → jZ
open Nat renaming beq → cY, blt → fI
open _root_.Array renaming replicate → JE
section
variable{P:Β}{Ξ:Array Α}{Q:Exit->Act->ο->Prop}{md:Region.Mode}{S:Nat->ο->ο->Prop}
def eI(D:δ Nat)(f:ο->Prop)(j:Nat)(w w':ο):Prop:=D.contains j=ν->f w->f w'
variable{D:δ Nat}{f:ο->Prop}{k:Nat}{w:ο}
theorem eI.same:eI D f k w w:=λ_ h=>h
theorem eI.out{w':ο}(h:D.contains k=μ):eI D f k w w':=λa=>by rw[h]at a;cases a
theorem eI.new{w':ο}(h:f w'):eI D f k w w':=λ_ _=>h
def zG(P:Β)(md:Region.Mode)(Ξ:Array Α)(Q:Exit->Act->ο->Prop)(S:Nat->ο->ο->Prop)(k:Nat)(Z:Act->ο->Prop):Nat->Array η->Act->ο->Prop
 |0,listed,a,w=>Region.seqB md Ξ (Ξ.size-k) k listed=μ/\Z a w
 |f+1,listed,a,w=>Ζ md Ξ listed≠[]/\∀i∈Ζ md Ξ listed,i<k/\wpOp P Ξ Q i (λa' w'=>S i w w'/\zG P md Ξ Q S k Z f (listed.setIfInBounds i μ) a' w') a w
theorem Zk{k:Nat}{Z:Act->ο->Prop}(d:k<=Ξ.size)(c:∀a w,Z a w->wpList P Ξ Q (Ξ.toList.drop k) a w):
  ∀f listed a w,zG P md Ξ Q S k Z f listed a w->wpAny P md Ξ Q (f+(Ξ.size-k)) listed a w
 |0,listed,a,w,h=>by have b:γ (Ξ.toList.drop k)=Ξ.size-k:=aA2;have:=wpAny_of_seq (Q':=Q) (Ξ.toList.drop k) k listed a w (λj=>by simp) (by rw[b];exact h.1) (c a w h.2);rw[b]at this;rw[Kh];exact this
 |f+1,listed,a,w,h=>by rw[show f+1+(Ξ.size-k)=(f+(Ξ.size-k))+1 by omega];exact⟨λg=>absurd g h.1,λi e=>wpOp_mono (λa' w' l=>Zk d c f _ a' w' l.2) (h.2 i e).2⟩
def Pv(md:Region.Mode)(Ξ:Array Α)(i:Nat)(D:δ Nat):η:=
 D.all λj=>match Ξ[j]? with
  |some o=>o.after.any λe=>Region.binds md e&&fI e.on j&&(cY e.on i||D.contains e.on)
  |none=>μ
variable{i:Nat}{a:Array η}
theorem Tk(q:Pv md Ξ i D=μ)(c:HeadInv md Ξ k a)(g:a.getD i μ=ν):∀j,j∈D->j<Ξ.size->a.getD j μ=ν:=by
 intro j;induction j using Nat.strongRecOn with
 |_ j n=>
  intro o b;cases m:a.getD j ν with
  |false=>exact getD_in (by rw[c.size];exact b) m
  |true=>
   have l:=aT.1 q j o;rw[gA b]at l;simp only[Array.any_eq_true']at l;obtain⟨e,p,f⟩:=l;simp only[lX,gE]at f;have s:=c.closed j Ξ[j] (gA b) m e p f.1.1;rcases f.2 with h|h
   ·rw[gR h]at s;have:=getD_both g;rw[this]at s;cases s
   ·have d:e.on<j:=by simpa [iQ] using f.1.2
    have r:=n e.on d aA7 aA0;have:=getD_both r;rw[this]at s;cases s
theorem Pu{j:Nat}(p:Pv md Ξ i D=μ)(g:HeadInv md Ξ k a)(b:a.getD i μ=ν)(r:j∈Ζ md Ξ a):j∉D:=by
 intro h;obtain⟨o,u,c,d⟩:=mem_ready.1 r;have q:=(cG.1 c).1;have m:=aT.1 p j h;rw[c]at m;simp only[Array.any_eq_true']at m;obtain⟨e,s,f⟩:=m;simp only[lX,gE]at f;have v:=d e s f.1.1;rcases f.2 with l|l
 ·rw[gR l,getD_both b]at v;cases v
 ·have n:e.on<j:=by simpa [iQ] using f.1.2
  have t:=Tk p g b e.on (by simpa using l) aA0;rw[getD_both t]at v;cases v
theorem VH{Z:Act->ο->Prop}{oi:Α}{v:ξ}(Si:ο->Prop)(D:δ Nat)(hD:Pv md Ξ i D=μ)(R:∀j w w',S j w w'->eI D Si j w w')(O:Ξ[i]? =θ oi)(s:∀(j:Nat) o cs b,Ξ[j]? =θ o->o.op≠.select cs b)
  (hQ:∀c a w,Q (.panic c) (a.put oi.dst v) w->Q (.panic c) a w) (Y:i<k)
  (l:∀listed:Array η,HeadInv md Ξ k listed->listed.getD i μ=ν->∀t,k<=t->t∉Ζ md Ξ listed):
  ∀f listed a w,HeadInv md Ξ k listed->
   (∀j z,Ξ[j]? =θ z->j≠i->listed.getD j μ=ν->(∀e∈z.after,Region.binds md e=μ->e.on≠i)->oi.apart Ξ z=μ)->
   i∈Ζ md Ξ listed->YieldsIf P Ξ Si oi v a->Si w->(∀j w,S j w w)->
   zG P md Ξ Q S k Z f (listed.setIfInBounds i μ) (a.put oi.dst v) w->zG P md Ξ Q S k Z (f+1) listed a w:=by
 intro f;induction f with
 |zero=>
  intro listed a w n g u G I r H;have p:=(mem_ready.1 u).1;refine⟨λT=>(by rw[T]at u;cases u),λj y=> ?_⟩
  have q:j<k:=by
   rcases tM j k with h|h
   ·exact h
   ·exact absurd y (l listed n p j h)
  by_cases d:j=i
  ·subst d;exact⟨q,G.wpOp O I ⟨r _ _,H⟩⟩
  ·have U:=seqB_ready H.1 j (ready_mono y d);omega
 |succ f W=>
  intro listed a w n g u G I r H;have p:=(mem_ready.1 u).1;refine⟨λT=>(by rw[T]at u;cases u),λj y=> ?_⟩
  have q:j<k:=by
   rcases tM j k with h|h
   ·exact h
   ·exact absurd y (l listed n p j h)
  by_cases d:j=i
  ·subst d;exact⟨q,G.wpOp O I ⟨r _ _,H⟩⟩
  ·have U:=(H.2 j (ready_mono y d)).2;have N:=Pu hD n p y;obtain⟨x,z,A,F⟩:=mem_ready.1 y;have C:∀e∈z.after,Region.binds md e=μ->e.on≠i:=λe he hb heq=>by have K:=F e he hb;rw[heq,getD_both p]at K;cases K
   have K:=wpOp_putIf A (g j z A d x C) (λcs b=>s i oi cs b O) (λcs b=>s j z cs b A) hQ G U;refine⟨q,wpOp_mono (λa' w' J=>⟨J.2.1,W _ a' w' (n.set y q) (λm V X M B L=>g m V X M ?_ L) (ready_mono u (Ne.symm d)) J.1 (R j _ w' J.2.1 (by simpa using N) I) r ?_⟩) K⟩
   ·by_cases E:j=m
    ·subst E;exact x
    ·rw[getD_set_ne μ E]at B;exact B
   ·rw[Array.setIfInBounds_comm _ _ d];exact J.2.2
def Fy(Ξ:Array Α)(k:Nat):η:=Region.noSelect Ξ&&decide (k<=Ξ.size)&&(decide (k=Ξ.size)||(Region.sinkB .any Ξ k&&Region.chainB .any Ξ k))
theorem rE(h:Fy Ξ k=μ)(c:i<k):∀listed:Array η,HeadInv .any Ξ k listed->listed.getD i μ=ν->∀t,k<=t->t∉Ζ .any Ξ listed:=by
 intro listed a b t g f;simp only[Fy,lX,gE,aX]at h;have e:t<Ξ.size:=by obtain⟨_,o,j,_⟩:=mem_ready.1 f;exact(cG.1 j).1
 rcases h.2 with d|d
 ·omega
 ·exact tail_waits d.1 d.2 aA0 a _ i Τ c b t g f
end
section
variable{P:Β}{kn:Nat}{kD:δ Deferred}{Ξ:Array Α}{Q:Exit->Act->ο->Prop}{S:Nat->ο->ο->Prop}{Si:ο->Prop}{F:Nat->ξ}{w:ο}
def IX(Q:Exit->Act->ο->Prop):Prop:=∀c a w,¬Q (.panic c) a w
def R(P:Β)(n:Md)(Ξ:Array Α)(Q:Exit->Act->ο->Prop)(S:Nat->ο->ο->Prop)(k f:Nat)(listed:δ η)(F:Nat->ξ)(w:ο):Prop:=
 HeadInv .any Ξ k listed.toArray->(∀j w,S j w w)->IX Q->zG P .any Ξ Q S k (λa w=>wpList P Ξ Q (Ξ.toList.drop k) a w) f listed.toArray (fr n F) w
def RK(P:Β)(n:Md)(Ξ:Array Α)(Q:Exit->Act->ο->Prop)(S:Nat->ο->ο->Prop)(k f:Nat)(listed:δ η)(i:Nat)(w:ο):Exit->Act->ο->Prop:=
 Exit.then (λa' w'=>∃a,a'=fr n a/\S i w w'/\R P n Ξ Q S k f listed a w') Q
variable{h:ο}{g:δ Nat}{L:δ cF}
theorem Hp.RW{w:ο}(l:Hp h g L w):Hp h g L {w with drawn:=w.drawn+1}:=
 ⟨l.os,l.tape,l.output,l.size,l.below,l.res,l.sep⟩
variable{k:Nat}
theorem YX{l:δ Α}(x:Nat)(S:Nat->ο->ο->Prop)(listed:δ η)(b:∀j w,S j w w)(m:P.follows .mixedOrders=μ)(f:Fy l.toArray x=μ)
  (p:Hp h g L w) (d:jZ (γ l) ν=listed) (o:IX Q) (u:∀w',Hp h g L w'->R P ⟨kn,kD,ι⟩ l.toArray Q S x x listed F w'):C P ⟨kn,kD,ι⟩ Q (.region k l.toArray μ) F w:=by
 unfold C CC;have n:x<=l.toArray.size:=by simp only[Fy,lX,aX]at f;exact f.1.2
 have c:HeadInv .any l.toArray x (JE l.toArray.size ν):=
  ⟨aA2,λj r _ d=>(by rw[getD_replicate_false]at d;cases d),λt _ i=>getD_in (by simpa using i) (getD_replicate_false _ _)⟩
 have e:listed.toArray=JE l.toArray.size ν:=by subst d;simp
 refine wp_region_any m ?_;have q:=u _ p.RW (by rw[e];exact c) b o;have s:=Zk n (λa w u=>u) x _ _ _ q;rw[e,show x+(l.toArray.size-x)=l.toArray.size by omega]at s;exact s
theorem XX{fn:Func}{d:ξ->ο->Prop}:IX (bodyPost P fn λe w'=>∃v,e=.returned v/\d v w'):=by intro c a w h;obtain⟨_,v,b,_⟩:=h;cases b
theorem Hr{y:Code}(h:IX Q):IX (Ga P ⟨kn,kD,ι⟩ y Q):=by unfold Ga;exact h
theorem yG(h:IX Q):IX (Exit.inBlock k Q):=h
theorem mY(h:IX Q):IX (Exit.noGoto Q):=h
variable{K:Act->ο->Prop}
theorem uT(h:IX Q):IX (Exit.then K Q):=h
variable{o:Α}{v:ξ}
theorem qU(c:o.guard=ι)(a:∀w,Si w->(ς (aW ⟨kn,kD,ι⟩ F) o).run P w=.ok (.value v) w):YieldsIf P Ξ Si o v (fr ⟨kn,kD,ι⟩ F):=
 .inl ⟨by simp[Region.wanted,c],λw b=>by rw[SN];exact a w b⟩
variable{c:ε Nat}{j:Op}{d:ω}{e:String}{b:Array Edge}{f:η}
theorem oG(dg:Nat)
  (h:(Ξ[k]?).bind (·.dst)=θ dg) (l:fI dg kn=μ) (m:F dg=.bool f)
  (a:∀w,Si w->(ς (aW ⟨kn,kD,ι⟩ F) (⟨c,j,d,e,b,ι⟩)).run P w=.ok (.value v) w):YieldsIf P Ξ Si ⟨c,j,d,e,b,θ (k,f)⟩ v (fr ⟨kn,kD,ι⟩ F):=by
 refine .inl ⟨?_,λw g=> ?_⟩
 ·unfold Region.wanted;simp only[bfs (n:=⟨kn,kD,ι⟩) Ξ k dg h l,m];simp
 ·rw[SN];exact a w g
theorem y_gno(dg:Nat)
  (l:(Ξ[k]?).bind (·.dst)=θ dg) (g:fI dg kn=μ) (a:F dg=.bool (!f)):YieldsIf P Ξ Si ⟨c,j,d,e,b,θ (k,f)⟩ undef (fr ⟨kn,kD,ι⟩ F):=by
 refine .inr ⟨?_,Τ⟩;unfold Region.wanted;simp only[bfs (n:=⟨kn,kD,ι⟩) Ξ k dg l g,a];cases f<;>rfl
theorem y_gun(dg:Nat)
  (l:(Ξ[k]?).bind (·.dst)=θ dg) (g:fI dg kn=μ) (a:F dg=undef):YieldsIf P Ξ Si ⟨c,j,d,e,b,θ (k,f)⟩ undef (fr ⟨kn,kD,ι⟩ F):=by
 refine .inr ⟨?_,Τ⟩;unfold Region.wanted;simp only[bfs (n:=⟨kn,kD,ι⟩) Ξ k dg l g,a];simp[undef]
theorem oS(listed:δ η)(i:Nat):listed.toArray.setIfInBounds i μ=(listed.set i μ).toArray:=aA2
variable{i:Nat}{a:δ η}
theorem BU(b:δ η)(G d:Nat)(v:ξ)(D:δ Nat)(t:∀j w w',S j w w'->eI D Si j w w')(o:Α)(u:Ξ[G]? =θ o)(B:o.dst=θ d)(r:Fy Ξ k=μ)(E:Pv .any Ξ G D=μ)(m:Region.free .any Ξ a.toArray G=μ)
  (z:(Ζ .any Ξ a.toArray).contains G=μ) (s:fI G k=μ) (A:a.set G μ=b) (y:YieldsIf P Ξ Si o v (fr ⟨kn,kD,ι⟩ F)) (C:Si w)
  (h:R P ⟨kn,kD,ι⟩ Ξ Q S k i b (dP F d v) w):R P ⟨kn,kD,ι⟩ Ξ Q S k (i+1) a F w:=by
 intro n e x;have g:G<k:=by simpa [iQ] using s
 have q:G∈Ζ .any Ξ a.toArray:=by simpa using z
 have p:Region.noSelect Ξ=μ:=by simp only[Fy,lX]at r;exact r.1.1
 refine VH Si D E t u (Region.noSelect_spec p) (λc f w h=>absurd h (x c _ w)) g (rE r g) i _ _ _ n (Region.free_spec u m) q y C e ?_;have l:=n.set q g;rw[oS,A]at l⊢;have:=h l e x;rw[<-kK,<-B]at this;exact this
theorem K9(f:δ η)(p d:Nat)(v:ξ)(o:Α)(l:Ξ[p]? =θ o)(n:o.dst=θ d)(g:Fy Ξ k=μ)(b:Region.free .any Ξ a.toArray p=μ)
  (j:(Ζ .any Ξ a.toArray).contains p=μ) (c:fI p k=μ) (m:a.set p μ=f) (e:YieldsIf P Ξ (λ_=>True) o v (fr ⟨kn,kD,ι⟩ F))
  (h:R P ⟨kn,kD,ι⟩ Ξ Q S k i f (dP F d v) w):R P ⟨kn,kD,ι⟩ Ξ Q S k (i+1) a F w:=
 BU (Si:=λ_=>True) f p d v [] (λ_ _ _ _ _ _=>trivial) o l n g Τ b j c m e trivial h
theorem Mv{a:Act}(c:Ξ[k]? =θ o)(h:wpList P Ξ (Exit.then K Q) [o] a w):wpOp P Ξ Q k K a w:=by
 unfold wpOp;simp only[c];unfold wpList at h;split
 ·rename_i b;rw[aB b]at h;rcases h with h|h
  ·refine .inl ?_;generalize(ς a.eval o).run P w=r at*
   cases r with
   |ok x w'=>cases x<;>exact h
   |halt x w'=>cases x<;>exact h
  ·exact .inr h
 ·rename_i b;rw[aA b]at h;exact h
theorem za(b:δ η)(t:Nat)(o:Α)(m:Ξ[t]? =θ o)(n:a.set t μ=b)(g:HeadInv .any Ξ k a.toArray)(d:∀j w,S j w w)(r:IX Q)
  (l:t∈Ζ .any Ξ a.toArray) (e:t<k) (h:W P ⟨kn,kD,ι⟩ Ξ (RK P ⟨kn,kD,ι⟩ Ξ Q S k i b t w) [o] F w):
  t<k/\wpOp P Ξ Q t (λa' w'=>S t w w'/\zG P .any Ξ Q S k (λf w=>wpList P Ξ Q (Ξ.toList.drop k) f w) i (a.toArray.setIfInBounds t μ) a' w') (fr ⟨kn,kD,ι⟩ F) w:=by
 refine⟨e,?_⟩;have c:=g.set l e;rw[oS,n]at c⊢;unfold W WR RK at h;refine wpOp_mono ?_ (Mv m h);rintro a' w' ⟨s,rfl,p,q⟩;exact⟨p,q c d r⟩
theorem L0(f:δ η)(p:Nat)(o:Α)(l:Ξ[p]? =θ o)(d:Ζ .any Ξ a.toArray=[p])(e:fI p k=μ)(m:a.set p μ=f)
  (h:W P ⟨kn,kD,ι⟩ Ξ (RK P ⟨kn,kD,ι⟩ Ξ Q S k i f p w) [o] F w):R P ⟨kn,kD,ι⟩ Ξ Q S k (i+1) a F w:=by
 intro c b n;refine⟨by rw[d];simp,λj g=> ?_⟩;rw[d]at g;obtain rfl:j=p:=aE2;exact za f j o l m c b n (by rw[d];simp) (by simpa [iQ] using e) h
theorem kE{m:Nat}(l:S m h w)(f:R P ⟨kn,kD,ι⟩ Ξ Q S k i a F w):RK P ⟨kn,kD,ι⟩ Ξ Q S k i a m h .normal (fr ⟨kn,kD,ι⟩ F) w:=⟨F,Τ,l,f⟩
theorem SL(l:Region.seqB .any Ξ (Ξ.size-k) k a.toArray=μ)(h:W P ⟨kn,kD,ι⟩ Ξ Q (Ξ.toList.drop k) F w):R P ⟨kn,kD,ι⟩ Ξ Q S k 0 a F w:=by intro _ _ _;unfold W WR at h;exact⟨l,h⟩
end
attribute [irreducible] R RK
open Go.Value renaming ownBlock → Db
open List renaming drop → cC, take → eN
open Nat renaming blt → fI
open UInt8 renaming ofNat → Gg
open _root_.Array renaming replicate → JE
def ea(a:ε Γ)(j:Nat):Γ:=match a with
 |some p=>p.add j
 |none=>⟨0,j,ι⟩
theorem add_add(p:Γ)(j k:Nat):(p.add j).add k=p.add (j+k):=by
 unfold Addr.add;by_cases b:j=0
 ·subst b;simp
 ·by_cases a:k=0
  ·subst a;simp
  ·simp[b,a,Dc]
theorem MM(a:ε Γ)(j k:Nat):(ea a j).add k=ea a (j+k):=by
 cases a with
 |none=>exact SY 0 j k
 |some p=>exact add_add p j k
def Rd(w:ο)(a:ε Γ)(b:δ ξ):Prop:=∀j v,b[j]? =θ v->∃p,a=θ p/\w.cell? (p.add j)=θ v
variable{w:ο}{p:Γ}{v:ξ}
theorem Cb(h:w.cell? p=θ v):p.block<w.heap.size:=by
 unfold World.cell? at h;cases a:w.heap[p.block]? with
 |none=>simp[a]at h
 |some o=>exact(cG.1 a).1
theorem bkd(p:Γ)(j:Nat):(p.add j).block=p.block:=by unfold Addr.add;split<;>rfl
variable{b:ο}
theorem Wx(h:b.heap[p.block]? =w.heap[p.block]?):b.cell? p=w.cell? p:=by simp only[World.cell?,h]
variable{a:ε Γ}{c:δ ξ}
theorem Rd.mono(h:Rd w a c)(f:∀g,g<w.heap.size->b.heap[g]? =w.heap[g]?):Rd b a c:=by intro j v e;obtain⟨p,hp,d⟩:=h j v e;refine⟨p,hp,?_⟩;rw[Wx (f _ (Cb d))];exact d
variable{L:δ cF}
theorem Rd.hp(h:Rd w a c)(e:Hp w [] L b):Rd b a c:=h.mono λf d=>e.below f d aA2
variable{S:δ Nat}
theorem Rd.hpS(h:Rd w a c)(i:Hp w S L b)(k:∀p,a=θ p->p.block∉S):Rd b a c:=by
 intro j v f;obtain⟨p,hp,e⟩:=h j v f;refine⟨p,hp,?_⟩;have d:=Cb e;rw[bkd]at d;have g:b.heap[(p.add j).block]? =w.heap[(p.add j).block]? :=by rw[bkd];exact i.below _ d (k p hp)
 rw[Wx g];exact e
theorem Rd.nil(w:ο)(a:ε Γ):Rd w a []:=λj v h=>by simp at h
theorem Rd.some_(h:Rd w a c)(b:0<γ c):a≠ι:=by obtain⟨p,hp,_⟩:=h 0 c[0] aA2;rw[hp];simp
theorem Rd.take{w:ο}{a:ε Γ}{c:δ ξ}(h:Rd w a c)(k:Nat):Rd w a (c.take k):=by
 intro j v b;rw[bQ]at b;split at b
 ·exact h j v b
 ·cases b
theorem Rd.drop{w:ο}{p:Γ}{a:δ ξ}(h:Rd w (θ p) a)(k:Nat):Rd w (θ (p.add k)) (a.drop k):=by intro j v b;rw[bV]at b;obtain⟨q,c,d⟩:=h _ v b;simp at c;subst c;exact⟨_,Τ,by rw[add_add];exact d⟩
variable{m e:Nat}{l:δ ζ}
theorem Hp.dN(h:Hp w S L b)(k:Nat)(q:L[k]? =θ (gF (.slice a m e) m l)):Rd b a (l.map bt):=by
 obtain⟨u,_⟩:=h.res _ (aI q);obtain⟨p,g,i,f,y,x,c,n,o,s,d,r⟩:=u;intro j v z;obtain⟨rfl,rfl⟩:=c;refine⟨_,Τ,?_⟩;rw[SY];have t:b.heap[g]? =θ (.cells f y x):=by simpa [gF,Db] using n
 simp only[World.cell?,t];rw[<-d,bQ]at z;split at z
 ·simpa using z
 ·cases z
theorem Hp.fQ(h:Hp w S L b)(k:Nat)(d:L[k]? =θ (aY m c e)):Rd b (θ ⟨m,0,ι⟩) c:=by intro j v a;refine⟨_,Τ,?_⟩;rw[SY,blg (h.dO k d)];simpa using a
theorem Hp.gY(h:Hp w S L b)(k:Nat)(a:L[k]? =θ (gF v m l)):γ l=m:=(h.res _ (aI a)).1.1
theorem Hp.tail{r:cF}(h:Hp w S (r::L) b):Hp w S L b:=h.sub (List.sublist_cons_self r L)
def TI(P:Β)(e sz a:Nat):Prop:=(P.info? e).map (λi=>(i.zero.map (λz=>z.cells.size),i.size,i.bytes))=θ (θ sz,sz,a)
theorem TI.parts{P:Β}{a:Nat}(h:TI P m e a):∃i z,P.info? m=θ i/\i.zero=θ z/\i.size=e/\i.bytes=a/\z.cells.size=e:=by
 unfold TI at h;cases c:P.info? m with
 |none=>simp[c]at h
 |some i=>simp[c]at h;obtain⟨⟨z,d,b⟩,g,f⟩:=h;exact⟨i,z,Τ,d,g,f,b⟩
section
variable{P:Β}{n:Md}{Ξ:Array Α}{Q:Exit->Act->ο->Prop}{F:Nat->ξ}{w w0:ο}{S:δ Nat}{L:δ cF}
variable{d:Nat}{ty:ω}{Ο:String}{Ν:Array Edge}{Ρ:δ Α}
variable{x:χ}{t:ω}
theorem lN(b off:Nat)(cs:δ ξ)(e:ω)(v:ξ)(f:w.heap[b]? =θ (.cells cs.toArray e (0,0)))(c:cs[off]? =θ v)
  (hx:aW n F x=.pointer (θ ⟨b,off,ι⟩)) (g:(isAgg t).run P w=.ok ν w):(ς (aW n F) (⟨θ d,.load t x,ty,Ο,Ν,ι⟩)).run P w=.ok (.value v) w:=by
 have a:=blg (off:=off) f;rw[c]at a;simp[ς,hx,Instr.loadAt,Instr.sureAddr,loadVar,g,a]
theorem sk(a:ε Γ)(c:δ ξ)(j:Nat)(v:ξ)(h:Rd w a c)(e:c[j]? =θ v)(hx:aW n F x=.pointer (θ (ea a j)))
  (g:(isAgg t).run P w=.ok ν w):(ς (aW n F) (⟨θ d,.load t x,ty,Ο,Ν,ι⟩)).run P w=.ok (.value v) w:=by
 obtain⟨p,rfl,f⟩:=h j v e;have b:aW n F x=.pointer (θ (p.add j)):=hx;simp[ς,b,Instr.loadAt,Instr.sureAddr,loadVar,g,f]
theorem sq(b off m:Nat)(cs vs:δ ξ)(e:ω)(k:w.heap[b]? =θ (.cells cs.toArray e (0,0)))(f:(cs.drop off).take m=vs)(h:γ vs=m)
  (hx:aW n F x=.pointer (θ ⟨b,off,ι⟩)) (l:(isAgg t).run P w=.ok μ w) (g:(sizeOf t).run P w=.ok m w):
  (ς (aW n F) (⟨θ d,.load t x,ty,Ο,Ν,ι⟩)).run P w=.ok (.value (.agg vs.toArray)) w:=by
 have i:(loadCells ⟨b,off,ι⟩ m).run P w=.ok vs.toArray w:=by
  rw[<-h];refine run_loadCells_list w _ vs λj v a=> ?_;rw[SY,blg k];rw[<-f]at a;have c:j<m:=by have:=(aF.1 a).1;simp at this;omega
  rw[bQ,aB c,bV]at a;exact a
 simp[ς,hx,Instr.loadAt,Instr.sureAddr,loadVar,l,g,i]
theorem sj(a:ε Γ)(e vs:δ ξ)(j m:Nat)(l:Rd w a e)(o:(e.drop j).take m=vs)(s:γ vs=m)(A:0<m)(hx:aW n F x=.pointer (θ (ea a j)))
  (y:(isAgg t).run P w=.ok μ w) (r:(sizeOf t).run P w=.ok m w):
  (ς (aW n F) (⟨θ d,.load t x,ty,Ο,Ν,ι⟩)).run P w=.ok (.value (.agg vs.toArray)) w:=by
 have b:∀i v,vs[i]? =θ v->e[j+i]? =θ v:=by
  intro i v c;rw[<-o]at c;have g:i<m:=by have:=(aF.1 c).1;simp at this;omega
  rw[bQ,aB g,bV]at c;exact c
 have z:vs[0]? =θ (vs[0]' aA0):=aA2;obtain⟨p,rfl,_⟩:=l _ _ (b 0 _ z);have f:aW n F x=.pointer (θ (p.add j)):=hx;have u:(loadCells (p.add j) m).run P w=.ok vs.toArray w:=by rw[<-s];refine run_loadCells_list w _ vs λi v c=> ?_;obtain⟨q,k,h⟩:=l _ _ (b i v c);simp at k;subst k;rw[add_add];exact h
 simp[ς,f,Instr.loadAt,Instr.sureAddr,loadVar,y,r,u]
theorem Xs(a:ε Γ)(k c e:Nat)(b:P.underlying t=θ (.slice e))(hx:aW n F x=.slice a k c):
  (ς (aW n F) (⟨θ d,.call ⟨.builtin .len,#[x],#[t]⟩,ty,Ο,Ν,ι⟩)).run P w=.ok (.value (.int .i64 k)) w:=by
 simp[ς,resolve,invoke,builtin,hx,Builtin.len_,run_underlying b,goInt]
variable{y:χ}
theorem ZX(a:ε Γ)(k c e sz:Nat)(q:Ε)(i:Int)(g:P.underlying t=θ (.slice e))(h:(sizeOf e).run P w=.ok sz w)(hx:aW n F x=.slice a k c)(j:aW n F y=.int q i)
  (f:0<=i/\i<k) (l:a≠ι):(ς (aW n F) (⟨θ d,.indexAddr t x y,ty,Ο,Ν,ι⟩)).run P w=.ok (.value (.pointer (θ (ea a (i.toNat*sz))))) w:=by
 cases a with
 |none=>exact absurd Τ l
 |some p=>simp[ς,hx,j,Instr.indexAt,asIntOf,run_underlying g,h,f.1,f.2,ea]
variable{m f:Nat}
theorem su(A:Γ)(off:Nat)(hx:aW n F x=.pointer (θ A))(a:(Instr.fieldAt m (.pointer (θ A)) f).run P w=.ok (.pointer (θ (A.add off))) w):
  (ς (aW n F) (⟨θ d,.fieldAddr m x f,ty,Ο,Ν,ι⟩)).run P w=.ok (.value (.pointer (θ (A.add off)))) w:=by
 simp[ς,hx,a]
theorem Kk(a:ε Γ)(j off:Nat)(hx:aW n F x=.pointer (θ (ea a j)))(b:(Instr.fieldAt m (.pointer (θ (ea a j))) f).run P w=.ok (.pointer (θ ((ea a j).add off))) w):
  (ς (aW n F) (⟨θ d,.fieldAddr m x f,ty,Ο,Ν,ι⟩)).run P w=.ok (.value (.pointer (θ (ea a (j+off))))) w:=by
 rw[su _ off hx b,MM]
theorem JZ(a:ε Γ)(j off:Nat)(hx:aW n F x=.pointer (θ (ea a j)))(b:(Instr.fieldAt m (.pointer (θ (ea a j))) f).run P w=.ok (.pointer (θ ((ea a j).add off))) w)
  (h:W P n Ξ Q Ρ (dP F d (.pointer (θ (ea a (j+off))))) w):W P n Ξ Q (⟨θ d,.fieldAddr m x f,ty,Ο,Ν,ι⟩::Ρ) F w:=
 gC Τ Τ (Kk a j off hx b) h
variable{b:ω}
theorem Ko(D:Hp w0 S L w)(l:δ ζ)(e:ω)(A:P.underlying t=θ .string)(z:P.underlying b=θ (.slice e))(C:P.underlying e=θ (.int .u8))(hx:aW n F x=str l)
  (h:∀a cap w',(ς (aW n F) (⟨θ d,.convert t b x,ty,Ο,Ν,ι⟩)).run P w=.ok (.value (.slice a (γ l) cap)) w'->Hp w0 S (gF (.slice a (γ l) cap) (γ l) l::L) w'->W P n Ξ Q Ρ (dP F d (.slice a (γ l) cap)) w'):
  W P n Ξ Q (⟨θ d,.convert t b x,ty,Ο,Ν,ι⟩::Ρ) F w:=by
 let cap:=Question.cut (.appendCap (γ l) 0 e) (w.tape w.drawn (.appendCap (γ l) 0 e));have g:γ l<=cap:=by show _<=_+_;omega
 let cells:Array ξ:=(l.toArray.map λs=>.int .u8 s.toNat)++JE (cap-γ l) (.int .u8 0);have p:cells.size=cap:=by simp[cells];omega
 let f:ο:={w with drawn:=w.drawn+1,heap:=w.heap.push (.cells cells e (cap,cap+1))}
 have c:(ς (aW n F) (⟨θ d,.convert t b x,ty,Ο,Ν,ι⟩:Α)).run P w=.ok (.value (.slice (θ ⟨w.heap.size,0,ι⟩) (γ l) cap)) f:=by
  have G:(convert t b (str l)).run P w=(Conv.stringToBytes e ⟨l.toArray⟩).run P w:=by simp[convert,str,run_underlying A,run_underlying z,run_underlying C]
  have E:(Conv.stringToBytes e ⟨l.toArray⟩).run P w=.ok (.slice (θ ⟨w.heap.size,0,ι⟩) (γ l) cap) f:=by
   have j:(⟨l.toArray⟩:ByteArray).size=γ l:=Τ;unfold Conv.stringToBytes markStringish;simp only[Sem.run_bind,j];simp only[Sem.run_pure];show Result.andThen (Result.andThen (Result.ok (World.shape? {w with drawn:=w.drawn+1,heap:=w.heap.push _} w.heap.size) _) _) _=_;have m:World.shape? {w with drawn:=w.drawn+1,heap:=w.heap.push (.cells cells e (0,0))} w.heap.size=θ (e,cap):=by simp[World.shape?,p]
   rw[m];show Result.andThen (Result.ok () (World.freeze {w with drawn:=w.drawn+1,heap:=w.heap.push (.cells cells e _)} ⟨w.heap.size,cap,ι⟩ 1)) _=_;simp only[Result.andThen_ok,World.freeze];congr 1;refine bA (λh=>({w with drawn:=w.drawn+1,heap:=h}:ο)) ?_;apply ep
   ·simp
   ·intro i I q;have B:i<w.heap.size+1:=by simpa using q
    rw[Array.getElem_modify];by_cases v:w.heap.size=i
    ·subst v;simp
    ·have o:i<w.heap.size:=by omega
     simp[v,Array.getElem_push,o]
  simp[ς,hx,G,E]
 refine gC Τ Τ c (h _ _ _ c ?_);have q:Hp w [] [gF (.slice (θ ⟨w.heap.size,0,ι⟩) (γ l) cap) (γ l) l] f:=by
  refine⟨Τ,Τ,Τ,by simp[f],λk H _=> ?_,λr u=> ?_,aA2⟩
  ·show(w.heap.push _)[k]? =_;rw[Array.getElem?_push,aA aA0]
  ·simp at u;subst u;refine⟨⟨Τ,w.heap.size,cap,cells,e,(cap,cap+1),Τ,?_,g,aA0,?_,aA0⟩,λs y=> ?_⟩
   ·simp[gF,Db,f]
   ·simp[cells,bt]
   ·simp[gF,Db]at y;subst y;simp[f]
 exact D.lU q
theorem bjg(g:Hp w0 S L w)(l:δ ζ)(e:ω)(c:P.underlying t=θ .string)(s:P.underlying b=θ (.slice e))(f:P.underlying e=θ (.int .u8))(hx:aW n F x=str l)
  (h:∀a cap w',Hp w0 S (gF (.slice a (γ l) cap) (γ l) l::L) w'->W P n Ξ Q Ρ (dP F d (.slice a (γ l) cap)) w'):
  W P n Ξ Q (⟨θ d,.convert t b x,ty,Ο,Ν,ι⟩::Ρ) F w:=Ko g l e c s f hx λa cap w' _=>h a cap w'
theorem zD(l:δ ζ)(a:ε Γ)(m cap:Nat)(e:ω)(h:Rd w a (l.map bt))(y:γ l=m)(o:P.underlying t=θ (.slice e))(k:P.underlying b=θ .string)(B:P.underlying e=θ (.int .u8))(hx:aW n F x=.slice a m cap):
  (ς (aW n F) (⟨θ d,.convert t b x,ty,Ο,Ν,ι⟩)).run P w=.ok (.value (str l)) w:=by
 subst y;have D:(convert t b (.slice a (γ l) cap)).run P w=(Conv.bytesToString (.slice a (γ l) cap)).run P w:=by simp[convert,run_underlying o,run_underlying k,run_underlying B]
 have C:(Conv.bytesToString (.slice a (γ l) cap)).run P w=.ok (str l) w:=by
  cases a with
  |none=>
   have:l=[]:=by
    cases l with
    |nil=>rfl
    |cons c l=>obtain⟨p,u,_⟩:=h 0 (bt c) aA2;cases u
   subst this;rfl
  |some p=>
   have s:(loadCells p (γ l)).run P w=.ok ((l.map λc=>c.toNat).map (Δ .u8)).toArray w:=by have:=run_loadCells_list (P:=P) w p _ (λj v z=>by obtain⟨q,g,f⟩:=h j v z;simp at g;subst g;exact f);simp at this;rw[this];simp[bt]
   have:=run_bytesToString w p (γ l) cap _ s
   rw[this];unfold str;have A:∀(l:δ ζ) (r:ByteArray),(l.map λc=>(c.toNat:Int)).foldl (λr n=>r.push (Gg n.toNat)) r=⟨r.data++l.toArray⟩:=by
    intro l;induction l with
    |nil=>intro r;simp
    |cons c l i=>intro r;simp;rw[i];simp
   rw[A];simp
 simp[ς,hx,D,C]
variable{a:ε Γ}{v:δ ξ}
theorem Hp.grown{w':ο}{a':ε Γ}{cap cap' e sz:Nat}{l:δ ξ}(C:Hp w0 S L w)(A:L[m]? =θ (row (.slice a f cap) e sz f v)){d:Nat}
  (h:w.grownBy w' (π a f cap).ownBlock) (u:w'.ownsRow 0 e sz (.slice a' d cap') d l) (y:∀p,a'=θ p->(∃q,a=θ q/\q.block=p.block)\/w.heap.size<=p.block):
  Hp w0 S (L.set m (row (.slice a' d cap') e sz d l)) w':=by
 have k:(row (.slice a' d cap') e sz d l).holds w':=by
  obtain⟨z,n⟩:=u;refine⟨z,?_⟩;rcases n with n|⟨g,c,s,t,_,i,F,r,E,D⟩
  ·exact .inl n
  ·refine .inr ⟨g,c,s,t,?_,F,r,E,D⟩;obtain⟨rfl,-,rfl⟩:=t;exact i
 refine C.change m _ _ A h.os h.tape h.output h.size (λj B o=>h.block j B (λe=>o aF5)) k ?_;intro b i;cases a' with
 |none=>simp[row,Db]at i
 |some p=>
  simp[row,Db]at i;subst i;refine⟨?_,(u.lt p.block Τ).2⟩;rcases y p Τ with⟨q,rfl,x⟩|r
  ·left;simp[row,Db,x]
  ·exact .inr r
theorem Hp.ownsRow{a:ε Γ}{k m cap e sz:Nat}{f:δ ξ}(n:Hp w0 S L w)(j:L[k]? =θ (row (.slice a m cap) e sz m f)):w.ownsRow 0 e sz (.slice a m cap) m f:=by
 obtain⟨⟨i,b⟩,_⟩:=n.res _ (aI j);refine⟨i,?_⟩;rcases b with b|⟨g,c,d,h,l,r,q,p,o⟩
 ·exact .inl b
 ·refine .inr ⟨g,c,d,h,cH _,?_,r,q,p,o⟩;obtain⟨rfl,-,rfl⟩:=h;exact l
theorem OZ{x:ε Γ}{k cx e sz D:Nat}{b:δ ξ}(t:ω)(E:P.underlying t=θ (.slice e))(hT:TI P e sz D)(G:0<sz)(d:w.ownsRow 0 e sz (.slice a m f) m v)
  (L:Rd w x b) (A:γ b=k*sz) (h1:∀u∈b,u.oneCell'=μ) (J:m+k<=maxLen) (B:(m+k)*D<=140737488355328):
  ∃a' cap' w',(Builtin.append_ #[t,t] ty #[.slice a m f,.slice x k cx]).run P w=.ok (.slice a' (m+k) cap') w'/\w'.ownsRow 0 e sz (.slice a' (m+k) cap') (m+k) (v++b)/\
   w.grownBy w' (π a m f).ownBlock/\∀p,a'=θ p->(∃q,a=θ q/\q.block=p.block)\/w.heap.size<=p.block:=by
 obtain⟨i,z,F,N,V,Z,M⟩:=hT.parts;have U:∀{x},x=ι->Rd w x b->k=0/\b=[]:=by
  rintro _ rfl L
  have:b=[]:=by
   cases b with
   |nil=>rfl
   |cons u us=>obtain⟨p,n,_⟩:=L 0 u aA2;cases n
  subst this;refine⟨?_,Τ⟩;rcases Nat.eq_zero_or_pos k with h|h
  ·exact h
  ·have:=Xq h G;simp at A;omega
 by_cases Y:k=0
 ·
  subst Y;have Q:=qR (by simpa using A);subst Q;refine⟨a,f,w,?_,aD5,⟨Τ,Τ,Τ,dK _,λ_ _ _=>rfl⟩,λp n=>.inl ⟨p,n,Τ⟩⟩
  have a5:m+0<=f:=by
   rcases d.2 with⟨s,H⟩|⟨g,c,C,s,_,_,T,_⟩
   ·subst H;omega
   ·simp at s;omega
  have l:(Builtin.firstCells i.size 0 (.slice x 0 cx)).run P w=.ok #[] w:=by
   cases x with
   |none=>simp[Builtin.firstCells]
   |some p=>simp[Builtin.firstCells,loadCells,loadCellsFrom]
  have a3:∀q:Γ,(storeCells q []).run P w=.ok () w:=λq=>rfl;cases a with
  |none=>simp[Builtin.append_,run_underlying E,sizeOf,typeInfo,F,Builtin.lenOf,l];omega
  |some p=>have:m<=f:=aA0;simp[Builtin.append_,run_underlying E,sizeOf,typeInfo,F,Builtin.lenOf,this,l,storeCells]
 ·cases x with
  |none=>exact absurd (U Τ L).1 Y
  |some p=>
   have K:∀j u,b[j]? =θ u->w.cell? (p.add j)=θ u:=by intro j u hu;obtain⟨q,W,T⟩:=L j u hu;simp at W;subst W;exact T
   obtain⟨v',w',r,ho,hg,X⟩:=run_append_own w 0 t ty e i z sz D E F N V Z M G _ m v d p k cx b A K h1 J B (cH _);have O:∃a' cap',v'=.slice a' (m+k) cap'/\∀p,a'=θ p->(∃q,a=θ q/\q.block=p.block)\/w.heap.size<=p.block:=by
    subst V;subst Z;have a0:((m+k):Int)<=9223372036854775807:=by simp only[maxLen]at J;omega
    rcases d.2 with⟨s,H⟩|⟨g,c,C,s,_,R,T,_,S,_⟩
    ·simp at s;obtain⟨rfl,rfl,rfl⟩:=s;have:=run_append_nil (P:=P) w t ty e i z E F N p k cx b A K aA0 (by simpa using a0) (by simp at B;omega);rw[this]at r;simp at r;refine⟨_,_,by rw[<-r.1,Kh],λp n=>.inr ?_⟩;simp at n;subst n;simp
    ·simp at s;obtain⟨rfl,-,rfl⟩:=s;by_cases o:m+k<=f
     ·have I:m*i.size+γ b<=C.size:=by rw[A,S,<-kW];exact ZI _ o
      have:=run_append_room w t ty e i E F g m f C R p k cx b A K h1 o I;rw[this]at r;simp at r;refine⟨_,_,r.1.symm,λp n=>.inl ?_⟩;simp at n;subst n;exact⟨_,Τ,Τ⟩
     ·have y:=d.cells Τ;have:=run_append_grow w t ty e i z E F N _ m f v d.1 y p k cx b A K aA0 a0 (growslice_fits aA0 B);rw[this]at r;simp at r;refine⟨_,_,r.1.symm,λp n=>.inr ?_⟩;simp at n;subst n;simp
   obtain⟨a',cap',rfl,Q⟩:=O;exact⟨a',cap',w',r,ho,hg,Q⟩
theorem CW(l:Hp w0 S L w)(k:Nat)(a o:ε Γ)(m cap c cx e sz f:Nat)(i b:δ ξ)(j:L[k]? =θ (row (.slice a m cap) e sz m i))(q:P.underlying t=θ (.slice e))(C:TI P e sz f)(g:0<sz)
  (hx:aW n F x=.slice a m cap) (p:aW n F y=.slice o c cx) (D:Rd w o b) (z:γ b=c*sz) (G:∀u∈b,u.oneCell'=μ) (B:(m+c)*f<=140737488355328) (E:m+c<=9223372036854775807)
  (h:∀a' cap' w',Hp w0 S (L.set k (row (.slice a' (m+c) cap') e sz (m+c) (i++b))) w'->W P n Ξ Q Ρ (dP F d (.slice a' (m+c) cap')) w'):
  W P n Ξ Q (⟨θ d,.call ⟨.builtin .append,#[x,y],#[t,t]⟩,ty,Ο,Ν,ι⟩::Ρ) F w:=by
 obtain⟨a',cap',w',r,s,A,v⟩:=OZ (P:=P) (ty:=ty) (cx:=cx) t q C g (l.ownsRow j) D z G aE6 B;refine gC (w':=w') Τ Τ ?_ (h a' cap' w' (l.grown j A s v));simp[ς,resolve,invoke,builtin,hx,p,r]
theorem fj(N:Hp w0 S L w)(e sz m:Nat)(kl v:Ε)(c:Int)(G:P.underlying t=θ (.slice e))(M:TI P e sz m)(hx:aW n F x=.int kl 0)(E:aW n F y=.int v c)
  (V:0<=c) (l:m*c<=281474976710656) (O:c<=9223372036854775807)
  (h:∀a cap w',Hp w0 S (row (.slice a 0 cap) e sz 0 []::L) w'->W P n Ξ Q Ρ (dP F d (.slice a 0 cap)) w'):
  W P n Ξ Q (⟨θ d,.makeSlice t x y,ty,Ο,Ν,ι⟩::Ρ) F w:=by
 obtain⟨i,z,K,D,H,p,C⟩:=M.parts;obtain⟨cn,rfl⟩:=Int.eq_ofNat_of_zero_le V;have q:i.bytes*cn<=281474976710656:=by rw[p];omega
 obtain⟨w',f,B,j⟩:=run_make_own w 0 t e i z sz G K D H kl v cn q (by simp only[maxLen];omega) (cH _);refine gC (w':=w') Τ Τ ?_ (h (θ ⟨w.heap.size,0,ι⟩) cn w' ?_)
 ·simp[ς,hx,E,f]
 ·have s:Hp w [] [row (.slice (θ ⟨w.heap.size,0,ι⟩) 0 cn) e sz 0 []] w':=by
   refine⟨j.os,j.tape,j.output,j.size,λk J _=>j.block k J aA2,λr f=> ?_,aA2⟩;simp at f;subst f;have o:=B.lt w.heap.size Τ;refine⟨?_,λb l=> ?_⟩
   ·obtain⟨I,f⟩:=B;refine⟨I,?_⟩;rcases f with f|⟨g,c,u,A,_,l,U,s,T,R⟩
    ·exact .inl f
    ·refine .inr ⟨g,c,u,A,?_,U,s,T,R⟩;obtain⟨⟨rfl,-⟩,-,rfl⟩:=A;exact l
   ·simp[row,Db]at l;subst l;exact⟨o.2,.inl (dK _)⟩
  exact N.lU s
theorem Hp.E3{k e sz j:Nat}{vs:δ ξ}(B:Hp w0 S L w)(A:L[k]? =θ (row (.slice a m f) e sz m v))(O:j+γ vs<=γ v)(M:∀R∈vs,R.oneCell'=μ)(N:vs≠[]):
  ∃w',(storeCells (ea a j) vs).run P w=.ok () w'/\Hp w0 S (L.set k (row (.slice a m f) e sz m (Ql v j vs))) w':=by
 have z:=bN.2 N;obtain⟨h,E⟩:=B.ownsRow A;rcases E with⟨q,F⟩|⟨g,c,d,q,_,y,o,x,n,r⟩
 ·exfalso;subst F;rw[Nat.zero_mul]at h;omega
 ·simp at q;obtain⟨rfl,-,rfl⟩:=q;have D:γ v<=d.size:=by rw[h,n];exact ZI _ o
  have s:=run_storeCells_at P g j e vs 0 d w y aA0 M;have u:ea (θ ⟨g,0,ι⟩) j=⟨g,j,ι⟩:=by show(⟨g,0,ι⟩:Γ).add j=_;rw[SY,Kh]
  rw[u];refine⟨_,s,B.change k _ _ A Τ Τ Τ aA2 (λi Q t=>setRow_other w g i _ (λe=>t (by simp[row,Db,e]))) ?_ ?_⟩
  ·refine⟨by rw[<-h];unfold Ql;simp;omega,.inr ⟨g,f,(eN (j+0) d.toList++vs++cC (j+0+γ vs) d.toList).toArray,Τ,?_,o,x,?_,?_⟩⟩
   ·show(w.setRow g _).heap[g]? =_;rw[setRow_heap w g d _ e _ y]
   ·rw[<-n];simp;omega
   ·rw[<-h];have C:v=d.toList.take (γ v):=by rw[h];exact r.symm
    unfold Ql;rw[List.take_append,List.take_append];simp;have K:min j d.size=j:=aA0;rw[K];rw[Re,eX (l:=vs) aA0];have J:min (γ v) j=j:=aA0;rw[J,List.take_drop];have I:j+γ vs+(γ v-(j+γ vs))=γ v:=aA0;rw[I];have H:eN j v=eN j d.toList:=by rw[C];rw[Re,TF aA0]
    rw[H];have G:cC (j+γ vs) v=cC (j+γ vs) (eN (γ v) d.toList):=by rw[<-C]
    rw[G]
  ·intro b p;simp[row,Db]at p;subst p;refine⟨.inl (by simp[row,Db]),?_⟩;have:=(cG.1 y).1;simpa using this
theorem B4(K:Hp w0 S L w)(k:Nat)(a:ε Γ)(m cap j:Nat)(l:δ ζ)(c:ζ)(J:L[k]? =θ (gF (.slice a m cap) m l))(T:j<m)
  (hx:aW n F x=.pointer (θ (ea a j))) (N:aW n F y=bt c) (O:(sizeOf t).run P w=.ok 1 w)
  (h:∀w',Hp w0 S (L.set k (gF (.slice a m cap) m (l.set j c))) w'->W P n Ξ Q Ρ F w'):W P n Ξ Q (⟨ι,.store t x y,ty,Ο,Ν,ι⟩::Ρ) F w:=by
 obtain⟨⟨B,g,M,d,e,u,H,R,G,E,v,C⟩,I⟩:=K.res _ (aI J);simp at H;obtain⟨rfl,-,rfl⟩:=H;have s:w.heap[g]? =θ (.cells d e u):=by simpa [gF,Db] using R
 have D:ea (θ ⟨g,0,ι⟩) j=⟨g,j,ι⟩:=by show(⟨g,0,ι⟩:Γ).add j=_;rw[SY,Kh]
 rw[D]at hx;have p:w.cell? ⟨g,j,ι⟩=θ (d[j]' aA0):=by simp only[World.cell?,s];have:j<d.size:=aA0;simp
 have o:w.frozen? ⟨g,j,ι⟩=ν:=by simp only[World.frozen?,s];have:¬u.1<=j:=aA0;simp[this]
 have z:(storeCells ⟨g,j,ι⟩ [bt c]).run P w=.ok () (w.setCell ⟨g,j,ι⟩ (bt c)):=by simp only[storeCells,Sem.run_bind,SY,Ru,store];simp only[Sem.run,bt,p,o];rfl
 have q:(w.setCell ⟨g,j,ι⟩ (bt c)).heap[g]? =θ (.cells (d.setIfInBounds j (bt c)) e u):=by simp[World.setCell,wQ,s]
 refine wS (w':=w.setCell ⟨g,j,ι⟩ (bt c)) Τ Τ ?_ (h _ ?_)
 ·simp[ς,hx,N,Instr.storeAt,Instr.sureAddr,storeVar,O,bt,Value.cells];have f:=z;simp only[bt]at f;rw[f];rfl
 ·refine K.change k _ _ J Τ Τ Τ aA2 (λi U A=>RowKit.Below.heap_setCell w _ _ i (λe=>A (by simp[gF,Db,e]))) ?_ ?_
  ·refine⟨by simpa using B,g,cap,_,e,u,Τ,q,G,by simpa using E,?_,by simpa using C⟩;rw[List.map_set,<-v,<-List.take_set];simp
  ·intro b r;simp[gF,Db]at r;subst r;refine⟨.inl (by simp[gF,Db]),?_⟩;have:=(cG.1 s).1;simpa [World.setCell] using this
end
theorem Lq{a:Type}{P:Β}{w:ο}(f:a->Sem ξ):∀(l:δ a) vs,γ l=γ vs->(∀(i:Nat) x v,l[i]? =θ x->vs[i]? =θ v->(f x).run P w=.ok v w)->(l.mapM f).run P w=.ok vs w
 |[],[],_,_=>by simp
 |[],_::_,h,_=>by simp at h
 |_::_,[],h,_=>by simp at h
 |x::l,v::vs,h,b=>by rw[List.mapM_cons];simp only[Sem.run_bind,b 0 x v rfl rfl,Result.andThen_ok];rw[Lq f l vs aA7 (λi y u c d=>b (i+1) y u aC8 aD5)];simp
def Xp(P:Β)(c:Nat)(F:Nat->ξ)(w:ο):ResultVar->ξ->Prop
 |.tmp t,v=>aW ⟨c,[],ι⟩ F (.tmp t)=v
 |.cell a t,v=>∃(b e:Nat) (cs:δ ξ),aW ⟨c,[],ι⟩ F (.tmp a)=.pointer (θ ⟨b,0,ι⟩)/\w.heap[b]? =θ (.cells cs.toArray e (0,0))/\
   (((isAgg t).run P w=.ok μ w/\(sizeOf t).run P w=.ok (γ cs) w/\v=.agg cs.toArray)\/((isAgg t).run P w=.ok ν w/\cs=[v]))
def iB(tmps:Array ξ):ResultVar->Sem ξ
 |.tmp t=>pure (tmps.getD t undef)
 |.cell a t=>do loadVar t (<-asAddr (tmps.getD a undef))
variable{P:Β}{b:Nat}{F:Nat->ξ}{w:ο}{r:ResultVar}{v:ξ}
theorem iq(h:Xp P b F w r v):(iB (fr ⟨b,[],ι⟩ F).tmps r).run P w=.ok v w:=by
 unfold iB;cases r with
 |tmp t=>have g:(bif fI t b then F t else undef)=v:=h;simp only[oY,g,Sem.run_pure]
 |cell a t=>
  obtain⟨d,e,cs,n,i,m⟩:=h;have g:(bif fI a b then F a else undef)=.pointer _:=n;simp only[oY,g,asAddr];rcases m with⟨f,o,rfl⟩|⟨f,rfl⟩
  ·have k:(loadCells ⟨d,0,ι⟩ (γ cs)).run P w=.ok cs.toArray w:=
    run_loadCells_list w _ cs λj u l=>by rw[SY,blg i,Kh];exact l
   simp[loadVar,f,o,k]
  ·have c:w.cell? ⟨d,0,ι⟩=θ v:=by rw[blg i];rfl
   simp[loadVar,f,c]
theorem rN{P:Β}{c:Nat}{F:Nat->ξ}{w:ο}{fn:Func}(l:δ ResultVar)(vs:δ ξ)(e:fn.results=l.toArray)(g:γ l=γ vs)
  (d:∀(i:Nat) x v,l[i]? =θ x->vs[i]? =θ v->Xp P c F w x v) (v:ξ) (a:(match vs with|[u]=>u|b=>.tuple b.toArray)=v):
  (results fn (fr ⟨c,[],ι⟩ F).tmps).run P w=.ok v w:=by
 have f:=Lq (iB (fr ⟨c,[],ι⟩ F).tmps) l vs g (λi x v k j=>iq (d i x v k j));unfold results;rw[e];change Sem.run P (do let vs<-l.toArray.mapM (iB (fr _ F).tmps);pure (if h:vs.size=1 then vs[0]else .tuple vs)) w=_;simp;rw[f];subst a;cases vs with
 |nil=>simp
 |cons u b=>cases b with
  |nil=>simp
  |cons u' b=>simp
theorem vT{P:Β}{ro:ε (ε Nat)}{b:Nat}{F:Nat->ξ}{w:ο}{fn:Func}{R:ξ->ο->Prop}(l:δ ResultVar)(vs:δ ξ)(v:ξ)(f:fn.results=l.toArray)(g:γ l=γ vs)
  (d:∀(i:Nat) (x:ResultVar) (v:ξ),l[i]? =θ x->vs[i]? =θ v->Xp P b F w x v) (a:(match vs with|[u]=>u|c=>.tuple c.toArray)=v) (h:R v w):
  bodyPost P fn (λe w'=>∃v,e=.returned v/\R v w') .ret (fr ⟨b,[],ro⟩ F) w:=
 ⟨Τ,v,rN l vs f g d v a,v,Τ,h⟩
theorem BV:∀(i:Nat) x v,[][i]? =θ x->[][i]? =θ v->Xp P b F w x v:=λi x v h=>by simp at h
theorem jX{l:δ ResultVar}{vs:δ ξ}(c:Xp P b F w r v)
  (h:∀(i:Nat) x u,l[i]? =θ x->vs[i]? =θ u->Xp P b F w x u):∀(i:Nat) x u,(r::l)[i]? =θ x->(v::vs)[i]? =θ u->Xp P b F w x u
 |0,x,u,hx,a=>by simp at hx a;subst hx;subst a;exact c
 |i+1,x,u,hx,a=>h i x u aD9 aC0
variable{t:Nat}
theorem qN(h:aW ⟨b,[],ι⟩ F (.tmp t)=v):Xp P b F w (.tmp t) v:=h
variable{c:ο}{S:δ Nat}{L:δ cF}{e:Nat}
theorem dp(g:Hp c S L w)(k j a:Nat)(cs:δ ξ)(d:L[k]? =θ (aY j cs a))(f:aW ⟨b,[],ι⟩ F (.tmp t)=.pointer (θ ⟨j,0,ι⟩))
  (i:(isAgg e).run P w=.ok μ w) (h:(sizeOf e).run P w=.ok (γ cs) w):Xp P b F w (.cell t e) (.agg cs.toArray):=⟨j,a,cs,f,g.dO k d,.inl ⟨i,h,Τ⟩⟩
theorem Yu(g:Hp c S L w)(k i a:Nat)(v:ξ)(d:L[k]? =θ (aY i [v] a))(f:aW ⟨b,[],ι⟩ F (.tmp t)=.pointer (θ ⟨i,0,ι⟩))
  (h:(isAgg e).run P w=.ok ν w):Xp P b F w (.cell t e) v:=⟨i,a,[v],f,g.dO k d,.inr ⟨h,Τ⟩⟩
theorem NJ{a:ε Γ}(h:b=t):π a b e=π a t e:=by rw[h]
theorem iK{p:Prop}(h:p:=by first|rfl|(simp;done)|(simp;omega)|exact NJ (by rw[cQ];omega)):p:=h
def el{a:Type}[Inhabited a](l:δ a)(i:Int):a:=l.getD i.toNat default
theorem Ff{a:Type}(f:a->δ ξ)(sz:Nat)(b:∀x,γ (f x)=sz):∀(l:δ a) i,(l.flatMap f).drop (i*sz)=(l.drop i).flatMap f
 |l,0=>by simp
 |[],i+1=>by simp
 |x::l,i+1=>by rw[Hy,<-Ff f sz b l i,dB,Ia,<-Gj];rw[<-b x];simp
variable{d:Type}
theorem Bs[Inhabited d](f:d->δ ξ)(sz:Nat)(c:∀x,γ (f x)=sz)(l:δ d)(i:Int)(a:0<=i/\i<γ l):((l.flatMap f).drop (i.toNat*sz)).take sz=f (el l i):=by have b:i.toNat<γ l:=aA0;rw[Ff f sz c,zbF b,Rw];rw[show f (el l i)=f l[i.toNat]by simp[el,b]];rw[<-c l[i.toNat]];simp
theorem X0[Inhabited d](f:d->δ ξ)(sz k:Nat)(a:∀x,γ (f x)=sz)(l:δ d)(i:Int)(v:ξ)(e:0<=i/\i<γ l)(c:k<sz)(b:(f (el l i))[k]? =θ v):(l.flatMap f)[i.toNat*sz+k]? =θ v:=by rw[<-Bs f sz a l i e,bQ,aB c,bV]at b;exact b
theorem W9(f:d->δ ξ)(sz:Nat)(c:∀x,γ (f x)=sz)(l:δ d):γ (l.flatMap f)=γ l*sz:=by
 induction l with
 |nil=>simp
 |cons x l b=>rw[Rw,cE,b,c,cM,dB,Ia]
def eP(L:δ cF):δ Nat:=L.filterMap (·.own)
theorem nB(h:b∈eP L):∃r∈L,r.own=θ b:=by obtain⟨r,a,e⟩:=List.mem_filterMap.1 h;exact⟨r,a,e⟩
theorem Hp.dV{w':ο}{L1 L2:δ cF}(h:Hp w S (L1++L2) c)(l:Hp c (eP L1) L w'):Hp w S (L++L2) w':=by
 have f:∀b,b∈eP L1->b<c.heap.size/\(w.heap.size<=b\/b∈S):=by intro b m;obtain⟨r,a,e⟩:=nB m;exact(h.res r (aV.2 (.inl a))).2 b e
 have d:=dE.1 h.sep;have g:∀r∈L2,∀b,r.own=θ b->b∉eP L1:=by intro r a b e m;obtain⟨q,t,e'⟩:=nB m;exact d.2.2 q t r a b e' e
 refine⟨l.os.trans h.os,l.tape.trans h.tape,l.output.trans h.output,qT h.size l.size,λk o p=> ?_,λr a=> ?_,?_⟩
 ·rw[l.below k (NV o h.size) (λu=> ?_)];exact h.below k o p;rcases(f k u).2 with i|i
  ·omega
  ·exact p i
 ·rcases aV.1 a with a|a
  ·refine⟨(l.res r a).1,λb e=> ?_⟩;have:=(l.res r a).2 b e;refine⟨this.1,?_⟩;rcases this.2 with i|i
   ·exact .inl (qT h.size i)
   ·exact(f b i).2
  ·have n:=aV.2 (.inr a:r∈L1\/r∈L2);refine⟨cF.holds_of (h.res r n).1 λb e=>l.below b ((h.res r n).2 b e).1 (g r a b e),λb e=> ?_⟩;have:=(h.res r n).2 b e;exact⟨NV this.1 l.size,this.2⟩
 ·refine dE.2 ⟨l.sep,d.2.1,λr a r' j b e e'=> ?_⟩;have i:=(l.res r a).2 b e;have v:=(h.res r' (aV.2 (.inr j))).2 b e';rcases i.2 with s|s
  ·omega
  ·exact g r' j b e' s
theorem Hp.front(h:Hp w S L c)(k:Nat)(r:cF)(a:L[k]? =θ r):Hp w S (r::L.eraseIdx k) c:=by
 refine h.perm ?_;clear h;induction L generalizing k with
 |nil=>simp at a
 |cons x L b=>
  cases k with
  |zero=>simp at a;subst a;simp
  |succ k=>exact(List.Perm.cons x (b k a)).trans (List.Perm.swap r x _)
theorem Hp.AM{L1 L2:δ cF}(h:Hp w S (L1++L2) c):Hp w S L1 c:=h.sub (List.sublist_append_left _ _)
theorem Hp.hand{L1 L2:δ cF}(h:Hp w S (L1++L2) c):Hp c (eP L1) L1 c:=
 ⟨Τ,Τ,Τ,dK _,λ_ _ _=>rfl,λr a=>by have:=h.res r (aV.2 (.inl a));exact⟨this.1,λb e=>⟨(this.2 b e).1,.inr (List.mem_filterMap.2 ⟨r,a,e⟩)⟩⟩,(dE.1 h.sep).1⟩
variable{f:FuncId}{a:δ ξ}
theorem sV(h:Calls P f a.toArray w λe w'=>e=.returned v/\RowKit.Below w.heap.size w w'):CR P f a w λu w'=>u=v/\Hp w [] [] w':=
 Calls.mono h λ_ _ ⟨e,g⟩=>⟨v,e,Τ,Hp.Ak g⟩
theorem dm(h:Calls P f a.toArray w λe w'=>e=.returned v/\w'=w):CR P f a w λu w'=>u=v/\Hp w [] [] w':=
 Calls.mono h λ_ _ ⟨e,g⟩=>⟨v,e,Τ,g▸Hp.refl w⟩
theorem ng(k:Nat):Hp w [] [] (w.drewN k):=Hp.Ak ⟨Τ,Τ,Τ,dK _,λ_ _=>rfl⟩
theorem SE(h:Calls P f a.toArray w λe w'=>e=.returned v/\∃k,w'=w.drewN k):CR P f a w λu w'=>u=v/\Hp w [] [] w':=
 Calls.mono h λ_ _ ⟨e,k,g⟩=>⟨v,e,Τ,g▸ng k⟩
def UH(b:Nat)(l:δ ζ)(Ο:Nat):cF:=⟨θ b,λo=>o=θ (.stringIter ⟨l.toArray⟩ Ο)⟩
theorem Hp.qs(h:Hp w S L c)(l:δ ζ)(Ο:Nat):Hp w S (UH c.heap.size l Ο::L) (c.alloc (.stringIter ⟨l.toArray⟩ Ο)):=by
 have e:Hp c [] [UH c.heap.size l Ο] (c.alloc (.stringIter ⟨l.toArray⟩ Ο)):=by
  refine⟨Τ,Τ,Τ,aA2,λk d _=>RowKit.Below.heap_alloc c _ k d,λr a=> ?_,aA2⟩;simp at a;subst a;refine⟨?_,λb g=> ?_⟩
  ·show(c.heap.push _)[c.heap.size]? =_;simp
  ·simp[UH]at g;subst g;simp
 exact h.lU e
theorem Hp.setIt(h:Hp w S L c)(k b:Nat)(l:δ ζ)(Ο a:Nat)(f:L[k]? =θ (UH b l Ο)):
  Hp w S (L.set k (UH b l a)) {c with heap:=c.heap.setIfInBounds b (.stringIter ⟨l.toArray⟩ a)}:=by
 have g:=((h.res _ (aI f)).2 b Τ).1;refine h.change k _ _ f Τ Τ Τ aA2 (λj m d=> ?_) ?_ (λn i=> ?_)
 ·show(c.heap.setIfInBounds b _)[j]? =_;rw[Array.getElem?_setIfInBounds_ne (λe=>d aF5)]
 ·show(c.heap.setIfInBounds b _)[b]? =_;simp[g]
 ·cases i;exact⟨.inl Τ,aE2⟩
section
variable{P:Β}{n:Md}{Ξ:Array Α}{Q:Exit->Act->ο->Prop}{F:Nat->ξ}{w:ο}
variable{d:Nat}{ty:ω}{Ο:String}{Ν:Array Edge}{Ρ:δ Α}
variable{x y:χ}{t a:ω}
theorem sn(k:Ε)(j b:Int)(hx:aW n F x=.int k j)(f:aW n F y=.int k b)(h:0<=j)(i:0<b)(g:k.wrap (j/b)=j/b):
  (ς (aW n F) (⟨θ d,.binOp .quo t x y a,ty,Ο,Ν,ι⟩)).run P w=.ok (.value (.int k (j/b))) w:=by
 have e:j.tdiv b=j/b:=Int.tdiv_eq_ediv_of_nonneg h;have c:¬b=0:=aA0;simp[ς,hx,f,binOp,eqGuard,Op.intDiv,c,e,g]
theorem si(k:Ε)(j b:Int)(hx:aW n F x=.int k j)(f:aW n F y=.int k b)(g:0<=j)(i:0<b)(h:k.wrap (j%b)=j%b):
  (ς (aW n F) (⟨θ d,.binOp .rem t x y a,ty,Ο,Ν,ι⟩)).run P w=.ok (.value (.int k (j%b))) w:=by
 have e:j.tmod b=j%b:=Int.tmod_eq_emod_of_nonneg g;have c:¬b=0:=aA0;simp[ς,hx,f,binOp,eqGuard,Op.intDiv,c,e]
def andI(k:Ε)(a b:Int):Int:=k.wrap ((BitVec.ofInt k.bits a&&&BitVec.ofInt k.bits b).toNat)
def orI(k:Ε)(a b:Int):Int:=k.wrap ((BitVec.ofInt k.bits a|||BitVec.ofInt k.bits b).toNat)
theorem sw(k:Ε)(e b:Int)(hx:aW n F x=.int k e)(c:aW n F y=.int k b):(ς (aW n F) (⟨θ d,.binOp .and t x y a,ty,Ο,Ν,ι⟩)).run P w=.ok (.value (.int k (andI k e b))) w:=by simp only[ς,hx,c,binOp,ne_eq];rfl
theorem x_or(k:Ε)(e b:Int)(hx:aW n F x=.int k e)(c:aW n F y=.int k b):(ς (aW n F) (⟨θ d,.binOp .or t x y a,ty,Ο,Ν,ι⟩)).run P w=.ok (.value (.int k (orI k e b))) w:=by simp only[ς,hx,c,binOp,ne_eq];rfl
theorem sh(k k':Ε)(h b p:Int)(hx:aW n F x=.int k h)(c:aW n F y=.int k' b)(g:0<=b)(e:2^(min b.toNat k.bits)=p):(ς (aW n F) (⟨θ d,.binOp .shl t x y a,ty,Ο,Ν,ι⟩)).run P w=.ok (.value (.int k (k.wrap (h*p)))) w:=by have f:¬b<0:=aA0;rw[<-e];simp[ς,hx,c,binOp,eqGuard,Op.shift,f]
theorem sg(k k':Ε)(j b p:Int)(hx:aW n F x=.int k j)(c:aW n F y=.int k' b)(i:0<=b)(g:2^(min b.toNat k.bits)=p)(f:0<p):(ς (aW n F) (⟨θ d,.binOp .shr t x y a,ty,Ο,Ν,ι⟩)).run P w=.ok (.value (.int k (j/p))) w:=by have h:¬b<0:=aA0;have e:j.fdiv p=j/p:=Int.fdiv_eq_ediv_of_nonneg _ aA0;rw[<-e,<-g];simp[ς,hx,c,binOp,eqGuard,Op.shift,h]
theorem JT(g:ε Γ)(m c e:Nat)(f:P.underlying t=θ (.slice e))(hx:aW n F x=.slice g m c)(b:aW n F y=.slice ι 0 0):(ς (aW n F) (⟨θ d,.binOp .eql t x y a,ty,Ο,Ν,ι⟩)).run P w=.ok (.value (.bool g.isNone)) w:=by
 have e:(binOp .eql t (.slice g m c) (.slice ι 0 0)).run P w=.ok (.bool g.isNone) w:=by simp only[binOp];simp[run_equal_slice_nil w t e g m c f]
 simp[ς,hx,b,eqGuard,e]
theorem B5(g:ε Γ)(m c e:Nat)(f:P.underlying t=θ (.slice e))(hx:aW n F x=.slice g m c)(b:aW n F y=.slice ι 0 0)(h:W P n Ξ Q Ρ (dP F d (.bool g.isNone)) w):W P n Ξ Q (⟨θ d,.binOp .eql t x y a,ty,Ο,Ν,ι⟩::Ρ) F w:=
 gC Τ Τ (JT g m c e f hx b) h
theorem ZW(p:Γ)(k e sz:Nat)(q:Ε)(i:Int)(c:P.underlying t=θ (.array k e))(f:(sizeOf e).run P w=.ok sz w)(hx:aW n F x=.pointer (θ p))(g:aW n F y=.int q i)
  (b:0<=i/\i<k) (h:2<=k):(ς (aW n F) (⟨θ d,.indexAddr t x y,ty,Ο,Ν,ι⟩)).run P w=.ok (.value (.pointer (θ (ea (θ p) (i.toNat*sz))))) w:=by
 simp[ς,hx,g,Instr.indexAt,Instr.sureAddr,asIntOf,run_underlying c,f,b.1,b.2,ea]
variable{b:ο}{S:δ Nat}{L:δ cF}
theorem OH(c:Hp b S L w)(l:δ ζ)(a:P.underlying t=θ .string)(hx:aW n F x=str l)
  (h:∀e w',Hp b S (UH e l 0::L) w'->W P n Ξ Q Ρ (dP F d (.pointer (θ ⟨e,0,ι⟩))) w'):W P n Ξ Q (⟨θ d,.range t x,ty,Ο,Ν,ι⟩::Ρ) F w:=by
 refine gC (v:=.pointer (θ ⟨w.heap.size,0,ι⟩)) (w':=w.alloc (.stringIter ⟨l.toArray⟩ 0)) Τ Τ ?_ (h _ _ (c.qs l 0));simp[ς,hx,str,Instr.range,run_underlying a]
theorem Xv(h:Hp b S L w)(k q:Nat)(l:δ ζ)(p:Nat)(e:L[k]? =θ (UH q l p))(hx:aW n F x=.pointer (θ ⟨q,0,ι⟩))
  (m:p<γ l->∀w',Hp b S (L.set k (UH q l (p+(Utf8.decode ⟨l.toArray⟩ p).2))) w'->W P n Ξ Q Ρ (dP F d (.tuple #[.bool μ,.int .i64 p,.int .i32 ((Utf8.decode ⟨l.toArray⟩ p).1)])) w')
  (j:¬p<γ l->W P n Ξ Q Ρ (dP F d (.tuple #[.bool ν])) w):W P n Ξ Q (⟨θ d,.next x μ,ty,Ο,Ν,ι⟩::Ρ) F w:=by
 have g:w.heap[q]? =θ _:=(h.res _ (aI e)).1;have f:(getObj q).run P w=.ok (.stringIter ⟨l.toArray⟩ p) w:=by simp[getObj,Sem.run,g]
 have i:∀o,(setObj q o).run P w=.ok () {w with heap:=w.heap.setIfInBounds q o}:=λo=>by simp[setObj,Sem.run,g]
 by_cases c:p<γ l
 ·have a:p<(⟨l.toArray⟩:ByteArray).size:=c;refine gC (v:=.tuple #[.bool μ,.int .i64 (p:Int),.int .i32 ((Utf8.decode ⟨l.toArray⟩ p).1:Int)]) (w':={w with heap:=w.heap.setIfInBounds q (.stringIter ⟨l.toArray⟩ (p+(Utf8.decode _ p).2))}) Τ Τ ?_ (m c _ (h.setIt k q l p _ e));simp[ς,hx,Instr.next,f,i,a,goInt]
 ·have a:¬p<(⟨l.toArray⟩:ByteArray).size:=c;refine gC (v:=.tuple #[.bool ν]) (w':=w) Τ Τ ?_ (j c);simp[ς,hx,Instr.next,f,a]
theorem Tu(k k':Ε)(s:Int)(c:P.underlying t=θ (.int k'))(b:P.underlying a=θ .string)(hx:aW n F x=.int k s):(ς (aW n F) (⟨θ d,.convert t a x,ty,Ο,Ν,ι⟩)).run P w=.ok (.value (str (ψ s).data.toList)) w:=by simp[ς,hx,convert,run_underlying c,run_underlying b,Conv.intToString,str]
theorem TM(k k':Ε)(s:Int)(c:P.underlying t=θ (.int k'))(b:P.underlying a=θ .string)(hx:aW n F x=.int k s)(h:W P n Ξ Q Ρ (dP F d (str (ψ s).data.toList)) w):W P n Ξ Q (⟨θ d,.convert t a x,ty,Ο,Ν,ι⟩::Ρ) F w:=
 gC Τ Τ (Tu k k' s c b hx) h
end
open Go.Value renaming ownBlock → Db
open UInt8 renaming ofNat → Gg
abbrev aC:=δ ζ
abbrev PQ:=aC×aC×η
abbrev LQ:=δ PQ
abbrev UQ:=aC×aC×aC×Int×LQ×LQ
abbrev AQ:=aC×UQ×LQ
abbrev jY:=δ (aC×aC)
abbrev Qy:=jY×δ ζ
abbrev eK:=δ Qy
abbrev eR:=δ (Int×aC)
def gd{α:Type}(p:Prop)[Decidable p](k:ε α):ε α:=if p then k else ι
variable{a:Type}{p:Prop}{k:ε a}{r:a}
theorem V6[Decidable p](h:gd p k=θ r):p/\k=θ r:=by
 unfold gd at h;split at h
 ·exact⟨by assumption,h⟩
 ·cases h
theorem aS[Decidable p](h:p):gd p k=k:=aB h
theorem Cc{α:Type}{f:a->ε α}{r:α}(h:k.bind f=θ r):∃y,k=θ y/\f y=θ r:=by
 cases k with
 |none=>cases h
 |some y=>exact⟨y,Τ,h⟩
variable{i j:a}
theorem LX[Decidable p](h:p)(e:(if p then r else i)=j):r=j:=by rw[<-e,aB h]
theorem LY[Decidable p](h:¬p)(e:(if p then r else i)=j):i=j:=by rw[<-e,aA h]
variable{d:η}
theorem cft(h:d=μ)(e:cond d r i=j):r=j:=by rw[<-e,h];rfl
theorem cff(h:d=ν)(e:cond d r i=j):i=j:=by rw[<-e,h];rfl
def dMk(b:Nat):(c:Int)->Decidable (0<=c/\b*c<=281474976710656)
 |.ofNat n=>match h:Nat.ble (b*n) 281474976710656 with
  |true=>.isTrue ⟨Rm n,by have d:=CP h;have a:((b*n:Nat))<=(281474976710656:Int):=Int.ofNat_le.2 d;rw[Int.natCast_mul]at a;exact a⟩
  |false=>.isFalse λ⟨_,a⟩=>by
   have e:((b*n:Nat))<=(281474976710656:Int):=by rw[Int.natCast_mul];exact a
   rw[Nat.ble_eq_true_of_le (Int.ofNat_le.1 e)]at h;cases h
 |.negSucc n=>.isFalse λ⟨d,_⟩=>absurd d aA0
instance instOk64:(a:Int)->Decidable (bJ a)
 |.ofNat n=>if h:Nat.ble n 9223372036854775807=μ then .isTrue (show bJ (n:Int)from⟨aA0,by have:=CP h;omega⟩)else .isFalse λq=>h (Nat.ble_eq▸(by have:(n:Int)<=9223372036854775807:=q.hi;omega))
 |.negSucc n=>if h:Nat.ble n 9223372036854775807=μ then .isTrue ⟨by have:=CP h;rw[Int.negSucc_eq];omega,by rw[Int.negSucc_eq];omega⟩else .isFalse λq=>h (Nat.ble_eq▸(by have:=q.lo;rw[Int.negSucc_eq]at this;omega))
structure qQ {α:Type} (f:α->List ξ) (sz:Nat):Prop where
 len:∀x,γ (f x)=sz
 one:∀x,∀v∈f x,v.oneCell'=μ
def eS(s:aC):δ ξ:=[str s]
def eB(c:ζ):δ ξ:=[bt c]
theorem sS:qQ eS 1:=⟨λ_=>rfl,λx v h=>by simp[eS]at h;subst h;rfl⟩
theorem Xb:qQ eB 1:=⟨λ_=>rfl,λx v h=>by simp[eB]at h;subst h;rfl⟩
theorem oZ(l:δ ζ):l.flatMap eB=l.map bt:=by induction l with
 |nil=>rfl
 |cons c l a=>rw[Rw,a];rfl
variable{f:a->δ ξ}{e:Nat}
theorem qQ.flat(h:qQ f e)(l:δ a):γ (l.flatMap f)=γ l*e:=W9 f e h.len l
theorem qQ.cells(h:qQ f e)(l:δ a):∀v∈l.flatMap f,v.oneCell'=μ:=by intro v α;obtain⟨x,_,hx⟩:=List.mem_flatMap.1 α;exact h.one x v hx
def bM(f:a->δ ξ)(e sz:Nat)(o:ε Nat)(α:ε Γ)(cap:Nat)(l:δ a):cF:=
 ⟨o,λob=>(o=ι/\l=[]/\cap=0/\α=ι)\/
  ∃g b,o=θ g/\α=θ ⟨g,0,ι⟩/\ob=θ (.cells b e (0,0))/\γ l<=cap/\cap<=maxLen/\b.size=cap*sz/\b.toList.take (γ l*sz)=l.flatMap f⟩
variable{c w:ο}{S:δ Nat}{L:δ cF}
theorem Hp.cX(h:Hp c S L w)(f:a->δ ξ)(e sz:Nat)(m:ε Γ):Hp c S (bM f e sz ι ι 0 []::L) w:=by
 refine⟨h.os,h.tape,h.output,h.size,h.below,λr α=> ?_,?_⟩
 ·rcases aQ.1 α with rfl|α
  ·exact⟨.inl ⟨Τ,Τ,Τ,Τ⟩,λb d=>by simp[bM]at d⟩
  ·exact h.res r α
 ·refine List.Pairwise.cons (λr _ b d=>by simp[bM]at d) h.sep
variable{g h:Nat}{o:ε Nat}{b:ε Γ}{l:δ a}
theorem Hp.gL(s:Hp c S L w)(k:Nat)(p:L[k]? =θ (bM f e g o b h l)):Rd w b (l.flatMap f):=by
 obtain⟨r,_⟩:=s.res _ (aI p);rcases r with⟨_,rfl,_⟩|⟨α,m,n,rfl,d,_,_,_,t⟩
 ·exact Rd.nil _ _
 ·intro j v u;refine⟨_,Τ,?_⟩;rw[SY];have q:w.heap[α]? =θ (.cells m e (0,0)):=by have i:=n;subst i;simpa [bM] using d
  simp only[World.cell?,q];rw[<-t,bQ]at u;split at u
  ·simpa using u
  ·cases u
theorem Hp.DM{α:Nat}(x:Hp c S L w)(s:qQ f g)(k:Nat)(o:L[k]? =θ (bM f e g (θ α) b h l)):
  b=θ ⟨α,0,ι⟩/\Hp c S (L.set k (row (.slice b (γ l) h) e g (γ l) (l.flatMap f))) w:=by
 obtain⟨u,t⟩:=x.res _ (aI o);rcases u with⟨r,_⟩|⟨v,n,q,rfl,d,m,j,i,y⟩
 ·cases r
 ·cases q;refine⟨Τ,x.change k _ _ o Τ Τ Τ (dK _) (λ_ _ _=>rfl) ?_ ?_⟩
  ·exact⟨s.flat l,.inr ⟨α,h,n,Τ,d,m,j,i,y⟩⟩
  ·intro z p;simp[row,Db]at p;subst p;exact⟨.inl Τ,(t α Τ).1⟩
theorem Hp.Ls{l:δ a}(z:Hp c S L w)(k:Nat)(j:L[k]? =θ (row (.slice b (γ l) h) e g (γ l) (l.flatMap f))):
  ∃o,Hp c S (L.set k (bM f e g o b h l)) w:=by
 obtain⟨x,v⟩:=z.res _ (aI j);obtain⟨y,s⟩:=x;rcases s with⟨A,u⟩|⟨α,r,q,A,t,p,n,m,i⟩
 ·simp at A;obtain⟨rfl,-,rfl⟩:=A;refine⟨ι,z.change k _ _ j Τ Τ Τ (dK _) (λ_ _ _=>rfl) (.inl ⟨Τ,qR u,Τ,Τ⟩) (λB d=>by simp[bM]at d)⟩
 ·simp at A;obtain⟨rfl,-,rfl⟩:=A;refine⟨θ α,z.change k _ _ j Τ Τ Τ (dK _) (λ_ _ _=>rfl) (.inr ⟨α,q,Τ,Τ,t,p,n,m,i⟩) (λB d=> ?_)⟩;simp[bM]at d;subst d;exact⟨.inl (by simp[row,Db]),(v α (by simp[row,Db])).1⟩
theorem Hp.IJ{cs:δ ξ}(h:Hp c S L w)(k sz m:Nat)(l:δ a)(d:L[k]? =θ (aY e cs g))(i:qQ f sz)(b:l.flatMap f=cs)(n:γ l=m)(j:m<=maxLen):
  Hp c S (L.set k (bM f g sz (θ e) (θ ⟨e,0,ι⟩) m l)) w:=by
 have α:=h.dO k d;subst b;subst n;refine h.change k _ _ d Τ Τ Τ (dK _) (λ_ _ _=>rfl) ?_ ?_
 ·exact .inr ⟨e,_,Τ,Τ,α,dK _,j,by simpa using i.flat l,by rw[<-i.flat l];exact hC⟩
 ·intro b' q;simp[bM]at q;subst q;exact⟨.inl Τ,(cG.1 α).1⟩
theorem Hp.cuts(x:Hp c S L w)(s:qQ f g)(k:Nat)(p:L[k]? =θ (bM f e g o b h l))(m:Nat):
  Hp c S (L.set k (bM f e g o b h (l.take m))) w:=by
 obtain⟨u,t⟩:=x.res _ (aI p);refine x.change k _ _ p Τ Τ Τ (dK _) (λ_ _ _=>rfl) ?_ (λz q=>⟨.inl q,(t z q).1⟩);rcases u with⟨rfl,rfl,rfl,rfl⟩|⟨α,n,rfl,rfl,d,r,j,i,y⟩
 ·exact .inl ⟨Τ,aA2,Τ,Τ⟩
 ·refine .inr ⟨α,n,Τ,Τ,d,by simp;omega,j,i,?_⟩;have v:(l.take m).flatMap f=(l.flatMap f).take (γ (l.take m)*g):=by
   have:l.flatMap f=(l.take m).flatMap f++(l.drop m).flatMap f:=by rw[<-NW,NZ]
   rw[this,<-s.flat (l.take m),ZJ]
  rw[v,<-y,Re,TF (ZI _ aA3)]
section
variable{P:Β}{n:Md}{Ξ:Array Α}{Q:Exit->Act->ο->Prop}{F:Nat->ξ}{w w0:ο}{S:δ Nat}{L:δ cF}
variable{d:Nat}{ty:ω}{Ο:String}{Ν:Array Edge}{Ρ:δ Α}{α:Type}{f:α->δ ξ}
theorem YC{a:Type}(l:δ a)(k:Nat)(x y:a):(l.set k x).set k y=l.set k y:=aA2
variable{x y:χ}{t:ω}
theorem NK(hH:Hp w0 S L w)(k:Nat)(o:ε Nat)(a G:ε Γ)(cap cx e sz s:Nat)(l c:δ α)(C:qQ f sz)(O:L[k]? =θ (bM f e sz o a cap l))(N:P.underlying t=θ (.slice e))(hT:TI P e sz s)(D:0<sz)(a6:0<s)
  (hx:aW n F x=.slice a (γ l) cap) (Y:aW n F y=.slice G (γ c) cx) (X:Rd w G (c.flatMap f)) (K:(γ l+γ c)*s<=140737488355328)
  (h:∀o' a' cap' w',Hp w0 S (L.set k (bM f e sz o' a' cap' (l++c))) w'->W P n Ξ Q Ρ (dP F d (.slice a' (γ (l++c)) cap')) w'):
  W P n Ξ Q (⟨θ d,.call ⟨.builtin .append,#[x,y],#[t,t]⟩,ty,Ο,Ν,ι⟩::Ρ) F w:=by
 have B:γ l+γ c<=9223372036854775807:=by have:γ l+γ c<=(γ l+γ c)*s:=Nat.le_mul_of_pos_right _ a6;omega
 have M:∀a' cap' w',Hp w0 S (L.set k (row (.slice a' (γ l+γ c) cap') e sz (γ l+γ c) (l.flatMap f++c.flatMap f))) w'->W P n Ξ Q Ρ (dP F d (.slice a' (γ l+γ c) cap')) w':=by intro a' cap' w' R;rw[<-cE,<-NW]at R;rw[<-cE];have m:=(aF.1 O).1;obtain⟨o',r⟩:=R.Ls k (bF m);rw[YC]at r;exact h o' a' cap' w' r
 have m:=(aF.1 O).1;cases o with
 |some g=>obtain⟨rfl,R⟩:=hH.DM C k O;refine CW R k _ G (γ l) cap (γ c) cx e sz s _ _ (bF m) N hT D hx Y X (C.flat c) (C.cells c) K B ?_;intro a' cap' w' r;rw[YC]at r;exact M a' cap' w' r
 |none=>
  obtain⟨R,_⟩:=hH.res _ (aI O);have a9:l=[]/\cap=0:=by
   rcases R with⟨_,r,h3,_⟩|⟨g,c1,r,_⟩
   ·exact⟨r,h3⟩
   ·cases r
  obtain⟨rfl,rfl⟩:=a9;have v:Hp w0 S (L.set k (row _ e sz 0 [])) w:=hH.change k _ _ O Τ Τ Τ (dK _) (λ_ _ _=>rfl) ⟨aA2,.inl ⟨Τ,Τ⟩⟩ (λb K=>by simp[row,Db]at K);cases a with
  |none=>refine CW v k ι G 0 0 (γ c) cx e sz s [] _ (bF m) N hT D hx Y X (C.flat c) (C.cells c) (by simpa using K) (by simpa using B) ?_;intro a' cap' w' r;rw[YC]at r;exact M a' cap' w' (by simpa using r)
  |some p=>
   obtain⟨i,z,hi,hz,hs,a7,b3⟩:=hT.parts;subst hs;subst a7;by_cases hm:c=[]
   ·subst hm;have E:(Builtin.firstCells i.size 0 (.slice G 0 cx)).run P w=.ok #[] w:=by
     cases G with
     |none=>simp[Builtin.firstCells]
     |some p=>simp[Builtin.firstCells,loadCells,loadCellsFrom]
    have T:(Builtin.append_ #[t,t] ty #[.slice (θ p) 0 0,.slice G 0 cx]).run P w=.ok (.slice (θ p) 0 0) w:=by simp[Builtin.append_,run_underlying N,sizeOf,typeInfo,hi,Builtin.lenOf,E,storeCells]
    refine gC (w':=w) Τ Τ ?_ (h ι (θ p) 0 w ?_)
    ·have a2:=Y;have H:=hx;simp[ς,resolve,invoke,builtin,H,a2,T]
    ·have e:L.set k (bM f e i.size ι (θ p) 0 ([]++[]))=L:=by
      apply cS;intro j;by_cases V:j=k
      ·subst V;simp[m];have:=O;rw[aN m]at this;exact(aP this).symm
      ·rw[Ct (λe=>V e.symm)]
     rw[e];exact hH
   ·have U:=bN.2 hm;cases G with
    |none=>
     have:c.flatMap f=[]:=by
      cases Z:c.flatMap f with
      |nil=>rfl
      |cons u us=>obtain⟨p,hp,_⟩:=X 0 u (by rw[Z];rfl);cases hp
     have:=C.flat c;rename_i h0;rw[h0]at this;have:=Xq U D;simp at*
     omega
    |some q=>
     have A:∀j u,(c.flatMap f)[j]? =θ u->w.cell? (q.add j)=θ u:=by intro j u hu;obtain⟨q',Z,hc⟩:=X j u hu;simp at Z;subst Z;exact hc
     have J:=run_append_grow w t ty e i z N hi hz p 0 0 [] aA2 (λj u hu=>by simp at hu) q (γ c) cx _ (C.flat c) A aA0 (by simp at B⊢;omega) (growslice_fits aA0 (by simpa using K));have a5:=run_append_nil w t ty e i z N hi hz q (γ c) cx _ (C.flat c) A aA0 (by simp at B⊢;omega) (by simp at K;omega);have I:(Builtin.append_ #[t,t] ty #[.slice (θ p) 0 0,.slice (θ q) (γ c) cx]).run P w=(Builtin.append_ #[t,t] ty #[.slice ι 0 0,.slice (θ q) (γ c) cx]).run P w:=by rw[a5,J];simp
     obtain⟨a',cap',w',hr,ho,hg,hn⟩:=OZ t N hT D (v.ownsRow (bF m)) X (C.flat c) (C.cells c) (by unfold maxLen;simp at B⊢;omega) (by simpa using K);have r:=v.grown (bF m) hg ho hn;rw[YC]at r;have h3:=M a' cap' w' (by simpa using r);refine gC (w':=w') Τ Τ ?_ (by simpa using h3);have H:=hx;rw[<-I]at hr;simp[ς,resolve,invoke,builtin,H,Y,hr]
theorem fg(s:Hp w0 S L w)(e sz b:Nat)(kl i:Ε)(c:Int)(m:P.underlying t=θ (.slice e))(r:TI P e sz b)(q:0<b)(hx:aW n F x=.int kl 0)(k:aW n F y=.int i c)
  (g:0<=c/\b*c<=281474976710656)
  (h:∀o a cap w',Hp w0 S (bM f e sz o a cap []::L) w'->W P n Ξ Q Ρ (dP F d (.slice a 0 cap)) w'):
  W P n Ξ Q (⟨θ d,.makeSlice t x y,ty,Ο,Ν,ι⟩::Ρ) F w:=by
 have p:c<=9223372036854775807:=by have j:1*c<=b*c:=Int.mul_le_mul_of_nonneg_right aA0 g.1;omega
 refine fj s e sz b kl i c m r hx k g.1 g.2 p ?_;intro a cap w' j;obtain⟨o,u⟩:=j.Ls (l:=[]) 0 Τ;exact h o a cap w' u
theorem Tw(a:ε Γ)(m c e sz:Nat)(q:Ε)(i:Int)(h:P.underlying t=θ (.slice e))(j:(sizeOf e).run P w=.ok sz w)(hx:aW n F x=.slice a m c)(o:aW n F y=.int q i)
  (l:δ α) (k:m=γ l) (p:0<=i/\i<γ l) (r:Rd w a (l.flatMap f)) (s:qQ f sz) (b:0<sz):
  (ς (aW n F) (⟨θ d,.indexAddr t x y,ty,Ο,Ν,ι⟩)).run P w=.ok (.value (.pointer (θ (ea a (i.toNat*sz))))) w:=by
 subst k;refine ZX a (γ l) c e sz q i h j hx o p (r.some_ ?_);rw[s.flat];exact Xq aA0 b
theorem Qj(a:ε Γ)(m c e sz:Nat)(q:Ε)(i:Int)(j:P.underlying t=θ (.slice e))(k:(sizeOf e).run P w=.ok sz w)(hx:aW n F x=.slice a m c)(p:aW n F y=.int q i)
  (l:δ α) (o:m=γ l) (r:0<=i/\i<γ l) (s:Rd w a (l.flatMap f)) (u:qQ f sz) (b:0<sz) (h:W P n Ξ Q Ρ (dP F d (.pointer (θ (ea a (i.toNat*sz))))) w):
  W P n Ξ Q (⟨θ d,.indexAddr t x y,ty,Ο,Ν,ι⟩::Ρ) F w:=gC Τ Τ (Tw a m c e sz q i j k hx p l o r s u b) h
theorem ZV[Inhabited α](a:ε Γ)(f:α->δ ξ)(l:δ α)(sz:Nat)(i:Int)(e:qQ f sz)(k:Rd w a (l.flatMap f))(vs:δ ξ)(h:0<=i/\i<(γ l:Int))(c:f (el l i)=vs)
  (hx:aW n F x=.pointer (θ (ea a (i.toNat*sz)))) (j:(isAgg t).run P w=.ok μ w) (g:(sizeOf t).run P w=.ok sz w) (b:0<sz):
  (ς (aW n F) (⟨θ d,.load t x,ty,Ο,Ν,ι⟩:Α)).run P w=.ok (.value (.agg vs.toArray)) w:=
 sj a _ vs _ sz k (by rw[Bs f sz e.len l i h,c]) (by rw[<-c];exact e.len _) b hx j g
theorem Gq[Inhabited α](a:ε Γ)(f:α->δ ξ)(l:δ α)(sz:Nat)(i:Int)(m:qQ f sz)(k:Rd w a (l.flatMap f))(vs:δ ξ)(g:0<=i/\i<γ l)(c:f (el l i)=vs)
  (hx:aW n F x=.pointer (θ (ea a (i.toNat*sz)))) (j:(isAgg t).run P w=.ok μ w) (e:(sizeOf t).run P w=.ok sz w) (b:0<sz) (h:W P n Ξ Q Ρ (dP F d (.agg vs.toArray)) w):
  W P n Ξ Q (⟨θ d,.load t x,ty,Ο,Ν,ι⟩::Ρ) F w:=gC Τ Τ (ZV a f l sz i m k vs g c hx j e b) h
theorem CT[Inhabited α](a:ε Γ)(f:α->δ ξ)(l:δ α)(sz:Nat)(i:Int)(off:Nat)(j:qQ f sz)(h:Rd w a (l.flatMap f))(v:ξ)(e:0<=i/\i<(γ l:Int))(c:off<sz)(b:(f (el l i))[off]? =θ v)
  (hx:aW n F x=.pointer (θ (ea a (i.toNat*sz+off)))) (g:(isAgg t).run P w=.ok ν w):
  (ς (aW n F) (⟨θ d,.load t x,ty,Ο,Ν,ι⟩:Α)).run P w=.ok (.value v) w:=
 sk a _ _ v h (X0 f sz off j.len l i v e c b) hx g
theorem w_ldF[Inhabited α](a:ε Γ)(f:α->δ ξ)(l:δ α)(sz:Nat)(i:Int)(off:Nat)(k:qQ f sz)(j:Rd w a (l.flatMap f))(v:ξ)(e:0<=i/\i<γ l)(c:off<sz)(b:(f (el l i))[off]? =θ v)
  (hx:aW n F x=.pointer (θ (ea a (i.toNat*sz+off)))) (g:(isAgg t).run P w=.ok ν w) (h:W P n Ξ Q Ρ (dP F d v) w):
  W P n Ξ Q (⟨θ d,.load t x,ty,Ο,Ν,ι⟩::Ρ) F w:=gC Τ Τ (CT a f l sz i off k j v e c b hx g) h
theorem xe[Inhabited α](a:ε Γ)(f:α->δ ξ)(l:δ α)(sz:Nat)(i:Int)(j:qQ f sz)(h:Rd w a (l.flatMap f))(v:ξ)(e:0<=i/\i<γ l)(c:0<sz)(b:(f (el l i))[0]? =θ v)
  (hx:aW n F x=.pointer (θ (ea a (i.toNat*sz)))) (g:(isAgg t).run P w=.ok ν w):
  (ς (aW n F) (⟨θ d,.load t x,ty,Ο,Ν,ι⟩)).run P w=.ok (.value v) w:=CT a f l sz i 0 j h v e c b hx g
theorem lY[Inhabited α](a:ε Γ)(f:α->δ ξ)(l:δ α)(sz:Nat)(i:Int)(k:qQ f sz)(j:Rd w a (l.flatMap f))(v:ξ)(e:0<=i/\i<γ l)(c:0<sz)(b:(f (el l i))[0]? =θ v)
  (hx:aW n F x=.pointer (θ (ea a (i.toNat*sz)))) (g:(isAgg t).run P w=.ok ν w) (h:W P n Ξ Q Ρ (dP F d v) w):
  W P n Ξ Q (⟨θ d,.load t x,ty,Ο,Ν,ι⟩::Ρ) F w:=gC Τ Τ (xe a f l sz i k j v e c b hx g) h
theorem Hl(sz:Nat)(a:qQ f sz):∀(l:δ α) j y,j<γ l->Ql (l.flatMap f) (j*sz) (f y)=(l.set j y).flatMap f
 |[],j,y,h=>by simp at h
 |x::l,0,y,h=>by unfold Ql;simp only[Nat.zero_mul,List.take_zero,Ic,Kh,List.set_cons_zero,Rw,a.len];rw[<-a.len x,TH]
 |x::l,j+1,y,h=>by have b:=Hl sz a l j y aA7;unfold Ql at*;simp only[List.set_cons_succ,Rw,<-b];rw[dB,Ia _ sz,Dc sz,<-a.len x,List.take_length_add_append];simp
theorem Hp.rwset{k e sz cap j:Nat}{o:ε Nat}{a:ε Γ}{l:δ α}{y:α}(s:Hp w0 S L w)(d:qQ f sz)(u:0<sz)(n:L[k]? =θ (bM f e sz o a cap l))(h:j<γ l):
  ∃w',(storeCells (ea a (j*sz)) (f y)).run P w=.ok () w'/\Hp w0 S (L.set k (bM f e sz o a cap (l.set j y))) w':=by
 cases o with
 |none=>
  obtain⟨q,_⟩:=s.res _ (aI n);rcases q with⟨_,c,_⟩|⟨g,r,c,_⟩
  ·subst c;simp at h
  ·cases c
 |some g=>
  obtain⟨rfl,q⟩:=s.DM d k n;have b:=(aF.1 n).1;have p:j*sz+sz<=γ l*sz:=by rw[<-dB];exact ZI _ h
  obtain⟨w',v,c⟩:=q.E3 (vs:=f y) (j:=j*sz) (bF b) (by rw[d.len,d.flat];exact p) (d.one y) (by intro C;have:=d.len y;rw[C]at this;simp at this;omega);refine⟨w',v,?_⟩;rw[YC,Hl sz d l j y h]at c;have z:γ l=γ (l.set j y):=aA2
  rw[z]at c;obtain⟨o',m⟩:=c.Ls (k:=k) (l:=l.set j y) (bF b);rw[YC]at m;have x:o'=θ g:=by
   obtain⟨B,_⟩:=m.res _ (aI (bF b));rcases B with⟨t,i,_⟩|⟨D,r,t,i,_⟩
   ·exfalso;have:γ (l.set j y)=0:=by have A:=i;rw[A];rfl
    simp at this;subst this;simp at h
   ·simp at i;rw[i];exact t
  rw[x]at m;exact m
theorem w_stE[Inhabited α](s:Hp w0 S L w)(k:Nat)(o:ε Nat)(a:ε Γ)(cap e sz:Nat)(i:Int)(l:δ α)(z:α)(r:L[k]? =θ (bM f e sz o a cap l))(d:qQ f sz)(vs:δ ξ)(u:0<=i/\i<γ l)(j:f z=vs)
  (hx:aW n F x=.pointer (θ (ea a (i.toNat*sz)))) (g:aW n F y=.agg vs.toArray) (b:0<sz) (m:(sizeOf t).run P w=.ok sz w)
  (h:∀w',Hp w0 S (L.set k (bM f e sz o a cap (l.set i.toNat z))) w'->W P n Ξ Q Ρ F w'):W P n Ξ Q (⟨ι,.store t x y,ty,Ο,Ν,ι⟩::Ρ) F w:=by
 subst j;obtain⟨w',p,c⟩:=s.rwset (P:=P) d b r (show i.toNat<γ l by omega);refine wS (w':=w') Τ Τ ?_ (h w' c);have q:=d.len z;simp[ς,hx,g,Instr.storeAt,Instr.sureAddr,storeVar,m,Value.cells,p,q]
theorem XC(sz off:Nat)(a:qQ f sz)[Inhabited α](l:δ α)(j:Nat)(y:α)(v:ξ)(c:j<γ l)(g:off<sz)(b:f y=(f (l.getD j default)).set off v):Ql (l.flatMap f) (j*sz+off) [v]=(l.set j y).flatMap f:=by
 have d:Ql (l.flatMap f) (j*sz+off) [v]=(l.flatMap f).set (j*sz+off) v:=by
  unfold Ql;rw[zbN,aB (by rw[a.flat];calc j*sz+off<j*sz+sz:=by omega
   _=(j+1)*sz:=by rw[dB]
   _<=γ l*sz:=ZI _ c)]
  simp
 rw[d];clear d;induction l generalizing j with
 |nil=>simp at c
 |cons x l e=>
  cases j with
  |zero=>simp;simp at b;rw[b,cp _ _ (by rw[a.len];exact g)]
  |succ j=>simp;rw[dB,wO _ _ (by rw[a.len];omega),a.len];rw[show j*sz+sz+off-sz=j*sz+off by omega];rw[e j aC8 aC2]
theorem tb[Inhabited α](G:Hp w0 S L w)(k:Nat)(o:ε Nat)(a:ε Γ)(cap e sz:Nat)(i:Int)(off:Nat)(l:δ α)(z:α)(u:L[k]? =θ (bM f e sz o a cap l))(d:qQ f sz)(v:ξ)(R:0<=i/\i<γ l)
  (D:f z=(f (el l i)).set off v) (hx:aW n F x=.pointer (θ (ea a (i.toNat*sz+off)))) (J:aW n F y=v) (K:(sizeOf t).run P w=.ok 1 w) (E:off<sz)
  (h:∀w',Hp w0 S (L.set k (bM f e sz o a cap (l.set i.toNat z))) w'->W P n Ξ Q Ρ F w'):W P n Ξ Q (⟨ι,.store t x y,ty,Ο,Ν,ι⟩::Ρ) F w:=by
 have B:i.toNat<γ l:=aA0;have r:v.oneCell'=μ:=d.one z v (by rw[D];exact aI (bF (by rw[d.len];exact E)));have b:v.cells= #[v]:=by cases v<;>first|rfl|simp[Value.oneCell']at r
 cases o with
 |none=>
  obtain⟨r,_⟩:=G.res _ (aI u);rcases r with⟨_,m,_⟩|⟨g,C,m,_⟩
  ·subst m;simp at B
  ·cases m
 |some g=>
  obtain⟨rfl,m⟩:=G.DM d k u;have c:k<γ L:=(aF.1 u).1;have A:i.toNat*sz+off+1<=γ l*sz:=by
   calc i.toNat*sz+off+1<=i.toNat*sz+sz:=by omega
    _=(i.toNat+1)*sz:=by rw[dB]
    _<=γ l*sz:=ZI _ B
  obtain⟨w',M,I⟩:=m.E3 (P:=P) (vs:=[v]) (j:=i.toNat*sz+off) (bF c) (by rw[d.flat];exact A) (by simpa using r) aA2;rw[YC,XC sz off d l i.toNat z v B E D,show γ l=γ (l.set i.toNat z) by simp]at I;obtain⟨o',q⟩:=I.Ls (k:=k) (l:=l.set i.toNat z) (bF c);rw[YC]at q;have s:o'=θ g:=by
   obtain⟨O,_⟩:=q.res _ (aI (bF c));rcases O with⟨H,p,_⟩|⟨T,C,H,p,_⟩
   ·exfalso;have N:=p;have:γ (l.set i.toNat z)=0:=by rw[N];rfl
    rw[gD]at this;omega
   ·simp at p;rw[p];exact H
  rw[s]at q;refine wS (w':=w') Τ Τ ?_ (h w' q);simp[ς,hx,J,Instr.storeAt,Instr.sureAddr,storeVar,K,b,M]
theorem tc(d:Hp w0 S L w)(k:Nat)(a:ε Γ)(m cap:Nat)(i:Int)(l:δ ζ)(c:ζ)(b:L[k]? =θ (gF (.slice a m cap) m l))(g:0<=i/\i<(γ l:Int))
  (hx:aW n F x=.pointer (θ (ea a (i.toNat*1)))) (e:aW n F y=bt c) (f:(sizeOf t).run P w=.ok 1 w)
  (h:∀w',Hp w0 S (L.set k (gF (.slice a m cap) m (l.set i.toNat c))) w'->W P n Ξ Q Ρ F w'):W P n Ξ Q (⟨ι,.store t x y,ty,Ο,Ν,ι⟩::Ρ) F w:=
 B4 d k a m cap _ l c b (by have:=d.gY k b;omega) hx e f aA7
theorem aa{a b:ζ}:(a.toNat=(b.toNat:Int))↔a=b:=by
 constructor
 ·intro h;exact jE.1 aA0
 ·intro h;rw[h]
variable{a:ω}
theorem B0(e b:ζ)(hx:aW n F x=bt e)(c:aW n F y=bt b):(ς (aW n F) (⟨θ d,.binOp .eql t x y a,ty,Ο,Ν,ι⟩)).run P w=.ok (.value (.bool (decide (e=b)))) w:=by rw[A0 .u8 _ _ hx c];congr 3;exact bY.2 aa
theorem A7(e b:ζ)(hx:aW n F x=bt e)(c:aW n F y=bt b):(ς (aW n F) (⟨θ d,.binOp .neq t x y a,ty,Ο,Ν,ι⟩)).run P w=.ok (.value (.bool (!decide (e=b)))) w:=by rw[ZR .u8 _ _ hx c];congr 4;exact bY.2 aa
theorem xi(e b:ζ)(hx:aW n F x=bt e)(c:aW n F y=bt b):(ς (aW n F) (⟨θ d,.binOp .lss t x y a,ty,Ο,Ν,ι⟩)).run P w=.ok (.value (.bool (decide (e<b)))) w:=by rw[ZT .u8 _ _ hx c];congr 3;exact bY.2 (by rw[et];omega)
theorem A8(e b:ζ)(hx:aW n F x=bt e)(c:aW n F y=bt b):(ς (aW n F) (⟨θ d,.binOp .leq t x y a,ty,Ο,Ν,ι⟩)).run P w=.ok (.value (.bool (decide (e<=b)))) w:=by rw[ZU .u8 _ _ hx c];congr 3;exact bY.2 (by rw[wN];omega)
theorem xj(e b:ζ)(hx:aW n F x=bt e)(c:aW n F y=bt b):(ς (aW n F) (⟨θ d,.binOp .gtr t x y a,ty,Ο,Ν,ι⟩)).run P w=.ok (.value (.bool (decide (b<e)))) w:=by rw[ZY .u8 _ _ hx c];congr 3;exact bY.2 (by rw[et];omega)
theorem A9(e b:ζ)(hx:aW n F x=bt e)(c:aW n F y=bt b):(ς (aW n F) (⟨θ d,.binOp .geq t x y a,ty,Ο,Ν,ι⟩)).run P w=.ok (.value (.bool (decide (b<=e)))) w:=by rw[ZZ .u8 _ _ hx c];congr 3;exact bY.2 (by rw[wN];omega)
theorem xl(e b:ζ)(hx:aW n F x=bt e)(c:aW n F y=bt b):(ς (aW n F) (⟨θ d,.binOp .add t x y a,ty,Ο,Ν,ι⟩)).run P w=.ok (.value (bt (e+b))) w:=by rw[A3 .u8 _ _ hx c];congr 3
theorem A4(e b:ζ)(hx:aW n F x=bt e)(c:aW n F y=bt b):(ς (aW n F) (⟨θ d,.binOp .sub t x y a,ty,Ο,Ν,ι⟩)).run P w=.ok (.value (bt (e-b))) w:=by rw[ZN .u8 _ _ hx c];unfold bt;rw[UInt8.toNat_sub,IntKind.wrap_u8];congr 3;have:=fG b;omega
theorem xh(e b:ζ)(hx:aW n F x=bt e)(c:aW n F y=bt b):(ς (aW n F) (⟨θ d,.binOp .mul t x y a,ty,Ο,Ν,ι⟩)).run P w=.ok (.value (bt (e*b))) w:=by rw[ZS .u8 _ _ hx c];congr 3
theorem ofInt_u8(a:ζ):BitVec.ofInt 8 a.toNat=a.toBitVec:=by simp
theorem xk(e b:ζ)(hx:aW n F x=bt e)(c:aW n F y=bt b):(ς (aW n F) (⟨θ d,.binOp .and t x y a,ty,Ο,Ν,ι⟩)).run P w=.ok (.value (bt (e&&&b))) w:=by rw[sw .u8 _ _ hx c];congr 3;show IntKind.u8.wrap ((BitVec.ofInt 8 _&&&BitVec.ofInt 8 _).toNat)=_;rw[ofInt_u8,ofInt_u8,IntKind.wrap_u8];have:(e&&&b).toNat=(e.toBitVec&&&b.toBitVec).toNat:=Τ;omega
theorem x8_or(e b:ζ)(hx:aW n F x=bt e)(c:aW n F y=bt b):(ς (aW n F) (⟨θ d,.binOp .or t x y a,ty,Ο,Ν,ι⟩)).run P w=.ok (.value (bt (e|||b))) w:=by rw[x_or .u8 _ _ hx c];congr 3;show IntKind.u8.wrap ((BitVec.ofInt 8 _|||BitVec.ofInt 8 b.toNat).toNat)=_;rw[ofInt_u8,ofInt_u8,IntKind.wrap_u8];have:(e|||b).toNat=(e.toBitVec|||b.toBitVec).toNat:=Τ;omega
def Ym(c:ζ)(i:Int):ζ:=Gg (c.toNat/2^(min i.toNat 8))
def UI(c:ζ)(i:Int):ζ:=Gg (c.toNat*2^(min i.toNat 8))
def YP(i:Int):ζ:=Gg (i%256).toNat
theorem A5(k:Ε)(i:ζ)(b:Int)(hx:aW n F x=bt i)(c:aW n F y=.int k b)(f:0<=b):(ς (aW n F) (⟨θ d,.binOp .shr t x y a,ty,Ο,Ν,ι⟩)).run P w=.ok (.value (bt (Ym i b))) w:=by have e:(0:Int)<2^(min b.toNat IntKind.u8.bits):=Int.pow_pos aA1;rw[sg .u8 k _ b _ hx c f rfl e];unfold bt Ym;congr 3;show(i.toNat:Int)/2^(min b.toNat 8)=_;have h:=fG i;have g:i.toNat/2^(min b.toNat 8)<=i.toNat:=Nat.div_le_self _ _;rw[iN,IZ aA0];simp
theorem A6(k:Ε)(g:ζ)(b:Int)(hx:aW n F x=bt g)(c:aW n F y=.int k b)(e:0<=b):(ς (aW n F) (⟨θ d,.binOp .shl t x y a,ty,Ο,Ν,ι⟩)).run P w=.ok (.value (bt (UI g b))) w:=by rw[sh .u8 k _ b _ hx c e rfl];congr 3
theorem ZM(k:Ε)(s:Int)(c:P.underlying t=θ (.int k))(b:P.underlying a=θ (.int .u8))(hx:aW n F x=.int k s):(ς (aW n F) (⟨θ d,.convert t a x,ty,Ο,Ν,ι⟩)).run P w=.ok (.value (bt (YP s))) w:=by rw[JV .u8 k s c b hx];unfold bt YP;rw[IntKind.wrap_u8];congr 3;rw[iN];omega
theorem qZ(e b:ζ)(hx:aW n F x=bt e)(c:aW n F y=bt b)(h:W P n Ξ Q Ρ (dP F d (.bool (decide (e=b)))) w):W P n Ξ Q (⟨θ d,.binOp .eql t x y a,ty,Ο,Ν,ι⟩::Ρ) F w:=gC Τ Τ (B0 e b hx c) h
theorem oM(e b:ζ)(hx:aW n F x=bt e)(c:aW n F y=bt b)(h:W P n Ξ Q Ρ (dP F d (.bool (!decide (e=b)))) w):W P n Ξ Q (⟨θ d,.binOp .neq t x y a,ty,Ο,Ν,ι⟩::Ρ) F w:=gC Τ Τ (A7 e b hx c) h
theorem C0(e b:ζ)(hx:aW n F x=bt e)(c:aW n F y=bt b)(h:W P n Ξ Q Ρ (dP F d (.bool (decide (e<=b)))) w):W P n Ξ Q (⟨θ d,.binOp .leq t x y a,ty,Ο,Ν,ι⟩::Ρ) F w:=gC Τ Τ (A8 e b hx c) h
theorem C1(e b:ζ)(hx:aW n F x=bt e)(c:aW n F y=bt b)(h:W P n Ξ Q Ρ (dP F d (.bool (decide (b<=e)))) w):W P n Ξ Q (⟨θ d,.binOp .geq t x y a,ty,Ο,Ν,ι⟩::Ρ) F w:=gC Τ Τ (A9 e b hx c) h
theorem xp(e b:ζ)(hx:aW n F x=bt e)(c:aW n F y=bt b)(h:W P n Ξ Q Ρ (dP F d (bt (e-b))) w):W P n Ξ Q (⟨θ d,.binOp .sub t x y a,ty,Ο,Ν,ι⟩::Ρ) F w:=gC Τ Τ (A4 e b hx c) h
theorem xn(k:Ε)(s:Int)(c:P.underlying t=θ (.int k))(b:P.underlying a=θ (.int .u8))(hx:aW n F x=.int k s)(h:W P n Ξ Q Ρ (dP F d (bt (YP s))) w):W P n Ξ Q (⟨θ d,.convert t a x,ty,Ο,Ν,ι⟩::Ρ) F w:=gC Τ Τ (ZM k s c b hx) h
theorem CU(c:ζ):IntKind.wrap .i64 c.toNat=c.toNat:=by rw[IntKind.wrap_i64];have:=fG c;omega
theorem xc(e b:Int)(hx:aW n F x=.int .i64 e)(c:aW n F y=.int .i64 b)(g:0<=e/\0<b/\bJ e):(ς (aW n F) (⟨θ d,.binOp .quo t x y a,ty,Ο,Ν,ι⟩:Α)).run P w=.ok (.value (.int .i64 (e/b))) w:=
 sn .i64 e b hx c g.1 g.2.1 (bje (by have:=Int.ediv_nonneg g.1 (Int.le_of_lt g.2.1);omega) (by have:=Int.ediv_le_self b g.1;have:=g.2.2.2;omega))
theorem xb(e b:Int)(hx:aW n F x=.int .i64 e)(c:aW n F y=.int .i64 b)(g:0<=e/\0<b/\bJ e):(ς (aW n F) (⟨θ d,.binOp .rem t x y a,ty,Ο,Ν,ι⟩:Α)).run P w=.ok (.value (.int .i64 (e%b))) w:=
 si .i64 e b hx c g.1 g.2.1 (bje (by have:=Int.emod_nonneg e (show b≠0 by omega);omega) (by have:=Int.emod_nonneg e (show b≠0 by omega);have:e%b<=e:=(by rw[Int.emod_def];have:=Int.mul_nonneg (Int.le_of_lt g.2.1) (Int.ediv_nonneg g.1 (Int.le_of_lt g.2.1));omega);have:=g.2.2.2;omega))
end
theorem Hp.Gy{w0 w:ο}{S:δ Nat}{L:δ cF}{α:Type}{f:α->δ ξ}{e sz cap:Nat}{o:ε Nat}{a:ε Γ}{l:δ α}(h:Hp w0 S L w)(k:Nat)(b:L[k]? =θ (bM f e sz o a cap l)):γ l<=cap:=by
 obtain⟨d,_⟩:=h.res _ (aI b);rcases d with⟨_,rfl,rfl,_⟩|⟨g,i,_,_,_,c,_⟩
 ·exact dK _
 ·exact c
section
variable{P:Β}{n:Md}{Ξ:Array Α}{Q:Exit->Act->ο->Prop}{F:Nat->ξ}{w w0:ο}{S:δ Nat}{L:δ cF}
variable{d:Nat}{ty:ω}{Ο:String}{Ν:Array Edge}{Ρ:δ Α}{α:Type}{f:α->δ ξ}
variable{t e:ω}
theorem RQ(a:P.underlying t=θ (.slice e)):P.elem t=e:=by simp[Program.elem,a]
variable{x g:χ}
theorem ZO(a:ε Γ)(m c e sz:Nat)(k:Ε)(j:Int)(h:P.underlying t=θ (.slice e))(p:(sizeOf e).run P w=.ok sz w)(hx:aW n F x=.slice a m c)(f:aW n F g=.int k j)(l:δ α)(r:m=γ l)
  (q:0<=j/\j<=γ l) (s:m<=c):(ς (aW n F) (⟨θ d,.slice t x ι (θ g) ι,ty,Ο,Ν,ι⟩)).run P w=.ok (.value (.slice a j.toNat c)) w:=by
 have i:=RQ h;have b:P.underlying t=θ (.slice (P.elem t)):=by rw[i];exact h
 have o:=run_slice_h w t a m c b k j q.1 aA0;rw[i,p]at o;simp only[ς,hx,f,Sem.run_bind,cy,Ge,run_sliceAt_slice w t _ _ _ _ b,o,sliced];cases a<;>simp[Addr.add]
theorem B6{f:χ}(a:ε Γ)(m c e sz:Nat)(k:Ε)(j:Int)(g:P.underlying t=θ (.slice e))(i:(sizeOf e).run P w=.ok sz w)(hx:aW n F x=.slice a m c)(b:aW n F f=.int k j)(l:δ α)(o:m=γ l)
  (q:0<=j/\j<=(γ l:Int)) (p:m<=c) (h:W P n Ξ Q Ρ (dP F d (.slice a j.toNat c)) w):W P n Ξ Q (⟨θ d,.slice t x ι (θ f) ι,ty,Ο,Ν,ι⟩::Ρ) F w:=
 gC Τ Τ (ZO a m c e sz k j g i hx b l o q p) h
def F8(a:ε Γ)(cap b sz:Nat):ε Γ:=if cap=b then a else a.map (·.add (b*sz))
theorem CS(a:ε Γ)(m c e sz:Nat)(k:Ε)(j:Int)(h:P.underlying t=θ (.slice e))(p:(sizeOf e).run P w=.ok sz w)(hx:aW n F x=.slice a m c)(f:aW n F g=.int k j)(l:δ α)(r:m=γ l)
  (q:0<=j/\j<=γ l):(ς (aW n F) (⟨θ d,.slice t x (θ g) ι ι,ty,Ο,Ν,ι⟩)).run P w=.ok (.value (.slice (F8 a c j.toNat sz) (m-j.toNat) (c-j.toNat))) w:=by
 have i:=RQ h;have b:P.underlying t=θ (.slice (P.elem t)):=by rw[i];exact h
 have o:=run_slice_l w t a m c b k j q.1 aA0;rw[i,p]at o;simp only[ς,hx,f,Sem.run_bind,cy,Ge,run_sliceAt_slice w t _ _ _ _ b,o,Result.andThen_ok,sliced,F8,Sem.run_pure]
theorem B7{f:χ}(a:ε Γ)(m c e sz:Nat)(k:Ε)(j:Int)(g:P.underlying t=θ (.slice e))(i:(sizeOf e).run P w=.ok sz w)(hx:aW n F x=.slice a m c)(b:aW n F f=.int k j)(l:δ α)(o:m=γ l)
  (p:0<=j/\j<=(γ l:Int)) (h:W P n Ξ Q Ρ (dP F d (.slice (F8 a c j.toNat sz) (m-j.toNat) (c-j.toNat))) w):W P n Ξ Q (⟨θ d,.slice t x (θ f) ι ι,ty,Ο,Ν,ι⟩::Ρ) F w:=
 gC Τ Τ (CS a m c e sz k j g i hx b l o p) h
theorem x_ixA[Inhabited α](f:α->δ ξ)(l:δ α)(m:Nat)(k:Ε)(i:Int)(cs:δ ξ)(v:ξ)(q:l.map f=cs.map (λc=>[c]))(o:P.underlying t=θ (.array m e))(z:γ l=m)(s:(isAgg e).run P w=.ok ν w)(p:(sizeOf e).run P w=.ok 1 w)
  (hx:aW n F x=.agg cs.toArray) (r:aW n F g=.int k i) (j:f (el l i)=[v]) (A:0<=i/\i<γ l):(ς (aW n F) (⟨θ d,.index t x g,ty,Ο,Ν,ι⟩)).run P w=.ok (.value v) w:=by
 have y:i.toNat<γ l:=aA0;have a:(cs.map (λc=>[c]))[i.toNat]? =θ [v]:=by rw[<-q];rw[<-j];simp[el,y]
 have u:cs[i.toNat]? =θ v:=by
  rw[bD]at a;cases h:cs[i.toNat]? with
  |none=>rw[h]at a;simp at a
  |some c=>rw[h]at a;simp at a;rw[a]
 have b:0<=i/\i<m:=aA0;simp[ς,hx,r,Instr.index,asIntOf,run_underlying o,b,p,part,s,u]
theorem RP{w:ο}(d:Nat)(a b:aC)(h:P.underlying t=θ .string):(Op.equalIn (d+1) t (str a) (str b)).run P w=.ok (decide (a=b)) w:=by
 have e:((⟨a.toArray⟩:ByteArray).toList==(⟨b.toArray⟩:ByteArray).toList)=decide (a=b):=by rw[cz];simp
 unfold str;rw[run_equalIn_string w d t _ _ h,e]
def EqF(P:Β)(w:ο)(c a:δ ξ):δ Field->δ η->Prop
 |[],[]=>True
 | f :: e, b :: g => f.name ≠ "_" /\ (∃ u v, (part f.type c.toArray f.offset).run P w = .ok u w /\ (part f.type a.toArray f.offset).run P w = .ok v w /\ ∀ d, (Op.equalIn (d + 1) f.type u v).run P w = .ok b w) /\ EqF P w c a e g
 |_,_=>False
theorem AY{w:ο}{g e:δ ξ}(d:Nat):∀a c,EqF P w g e a c->(Op.eqFields (d+1) g.toArray e.toArray a).run P w=.ok (c.all id) w
 |[],[],_=>rfl
 |[],_::_,h=>h.elim
 |_::_,[],h=>h.elim
 |f::a,b::c,⟨n,⟨u,v,m,l,k⟩,j⟩=>by
  have i:=AY d a c j;simp only[Op.eqFields,n,ne_eq,not_false_eq_true,eW,Sem.run_bind,m,l,k d,Result.andThen_ok];cases b with
  |true=>simpa using i
  |false=>simp
variable{b:δ Field}
theorem A2(p c:δ ξ)(f:δ η)(r:η)(y:P.underlying t=θ (.struct b.toArray))(k:P.stoodInHeld t=ν)(l:P.eqGuardType P.depth t=ν)(hx:aW n F x=.agg p.toArray)(i:aW n F g=.agg c.toArray)
  (m:EqF P w p c b f) (j:f.all id=r):(ς (aW n F) (⟨θ d,.binOp .eql t x g e,ty,Ο,Ν,ι⟩)).run P w=.ok (.value (.bool r)) w:=by
 have a:P.fieldsOf t=b.toArray:=by simp[Program.fieldsOf,y]
 have h:=run_equalIn_agg w 9999 t p.toArray c.toArray (by rw[a];exact y) k;rw[a]at h;have o:=AY 9998 b f m;simp only[ς,hx,i,Sem.run_bind,run_eqGuard_agg w .eql t x g _ _ l,Result.andThen_ok,run_eql_struct,h,o,j];simp
theorem A1(p c:δ ξ)(f:δ η)(r:η)(y:P.underlying t=θ (.struct b.toArray))(k:P.stoodInHeld t=ν)(l:P.eqGuardType P.depth t=ν)(hx:aW n F x=.agg p.toArray)(i:aW n F g=.agg c.toArray)
  (m:EqF P w p c b f) (j:f.all id=r):(ς (aW n F) (⟨θ d,.binOp .neq t x g e,ty,Ο,Ν,ι⟩)).run P w=.ok (.value (.bool (!r))) w:=by
 have a:P.fieldsOf t=b.toArray:=by simp[Program.fieldsOf,y]
 have h:=run_equalIn_agg w 9999 t p.toArray c.toArray (by rw[a];exact y) k;rw[a]at h;have o:=AY 9998 b f m;simp only[ς,hx,i,Sem.run_bind,run_eqGuard_agg w .neq t x g _ _ l,Result.andThen_ok,run_neq_struct,h,o,j];simp
end
variable{w:ο}{a:ε Γ}{l:δ ζ}
theorem Rd.bytes(h:Rd w a (l.flatMap eB)):Rd w a (l.map bt):=oZ l▸h
theorem Rd.dD(h:Rd w a (l.map bt)):Rd w a (l.flatMap eB):=(oZ l).symm▸h
variable{e:Type}{g:Nat}{f:e->δ ξ}{c:δ e}
theorem Rd.takeT(b:qQ f g)(m:Nat)(h:Rd w a (c.flatMap f)):Rd w a ((c.take m).flatMap f):=by
 have α:(c.take m).flatMap f=(c.flatMap f).take (γ (c.take m)*g):=by
  have:c.flatMap f=(c.take m).flatMap f++(c.drop m).flatMap f:=by rw[<-NW,NZ]
  rw[this,<-b.flat _,ZJ]
 rw[α];exact h.take _
variable{d:ο}{S:δ Nat}{L:δ cF}{b:δ ξ}
theorem Rd.dj(h:Rd w a b)(i:Hp w S L d)(c:b≠[]->∀p,a=θ p->p.block∉S):Rd d a b:=by
 cases b with
 |nil=>exact Rd.nil _ _
 |cons x b=>exact h.hpS i (c aA2)
theorem Rd.By(l:qQ f g)(cap k:Nat)(d:γ c<=cap)(h:Rd w a (c.flatMap f)):Rd w (F8 a cap k g) ((c.drop k).flatMap f):=by
 unfold F8;split
 ·rename_i α;rw[Da aA0];exact Rd.nil _ _
 ·rw[<-Ff f g l.len c k];cases a with
  |none=>intro j v b;rw[bV]at b;obtain⟨p,hp,_⟩:=h _ v b;cases hp
  |some p=>exact h.drop _
theorem Hp.Ch{L1:δ cF}(h:Hp w S L d)(m:Nat)(n:Rd w a b)(s:b≠[]->∀p,a=θ p->p.block∉S)(o:L.take m=L1):
  b≠[]->∀p,a=θ p->p.block∉eP L1:=by
 intro hx p f j;obtain⟨r,i,l⟩:=nB j;subst o;have c:=(h.res r (Cs i)).2 p.block l;rcases c.2 with g|g
 ·cases b with
  |nil=>exact hx Τ
  |cons x b=>obtain⟨q,e,k⟩:=n 0 x Τ;rw[f]at e;cases e;have:=Cb k;rw[bkd]at this;omega
 ·exact s hx p f g
def jmp:Nat->ε Code
 |0=>ι
 |1=>θ .ret
 |n+2=>θ (.exit n)
def di(j:Nat):LoopState:=if j=0 then .ready else .done
def eC(l j:Nat)(a:Loop):cF:=⟨θ l,λo=>o=θ (.loop {a with state:=di j,pending:=jmp j})⟩
def Nh(l:Nat)(a:Loop):cF:=⟨θ l,λo=>∃b,o=θ (.loop {a with state:=.busy,pending:=b})⟩
def HY(r:Nat):cF:=⟨θ r,λo=>o=θ (.deferred (θ []))⟩
def gone(r:Nat):cF:=⟨θ r,λ_=>True⟩
theorem Hp.put(h:Hp w S L d)(k b:Nat)(r r':cF)(o:Obj)(g:L[k]? =θ r)(p:r.own=θ b)(a:r'.own=θ b)(m:r'.ok (θ o)):Hp w S (L.set k r') (d.putObj b o):=by
 have l:=((h.res _ (aI g)).2 b p).1;refine h.change k _ _ g Τ Τ Τ aA2 (λj n f=>World.putObj_heap_other (λe=>f (by rw[p,e]))) ?_ (λc i=> ?_)
 ·unfold cF.holds;rw[a];simp;rw[World.putObj_heap_same l];exact m
 ·rw[a]at i;cases i;exact⟨.inl p,by simpa using l⟩
theorem Hp.BW(h:Hp w S L d)(o:Obj)(r:cF)(a:r.own=θ d.heap.size)(i:r.ok (θ o)):Hp w S (r::L) (d.alloc o):=by
 have f:Hp d [] [r] (d.alloc o):=by
  refine⟨Τ,Τ,Τ,aA2,λk e _=>RowKit.Below.heap_alloc d _ k e,λx hx=> ?_,aA2⟩;simp at hx;subst hx;refine⟨?_,λb c=> ?_⟩
  ·unfold cF.holds;rw[a];show x.ok ((d.heap.push o)[d.heap.size]?);simpa using i
  ·rw[a]at c;cases c;simp
 exact h.lU f
def YR(P:Β)(l:Nat)(args:δ ξ)(w:ο)(R:ξ->ο->Prop):Prop:=
 ∃f a fR b,(Instr.yield l args.toArray).run P w=.ok (.round l f a fR b) w/\RoundIn Fence.wide 0 P l f a fR b w (λe w'=>∃v,e=.returned v/\R v w')
theorem YR.mono{P:Β}{l:Nat}{args:δ ξ}{w:ο}{R b:ξ->ο->Prop}(h:YR P l args w R)(d:∀v w',R v w'->b v w'):YR P l args w b:=by obtain⟨f,a,fR,k,j,i⟩:=h;exact⟨f,a,fR,k,j,i.mono λe w' ⟨v,c,g⟩=>⟨v,c,d v w' g⟩⟩
section
variable{P:Β}{Ξ:Array Α}{Q:Exit->Act->ο->Prop}{F:Nat->ξ}{w w0:ο}{S:δ Nat}{L:δ cF}
variable{d:Nat}{ty:ω}{Ο:String}{Ν:Array Edge}{Ρ:δ Α}{k:Nat}{D:δ Deferred}{ro:ε Nat}
variable{g:χ}
theorem zH{fR:Array χ}{c:Array ω}(l:Nat)(vs:δ ξ)(R:ξ->ο->Prop)
  (m:aW ⟨k,D,θ ro⟩ F g=.func (.yield l) #[] #[]) (p: #[]++fR.map (aW ⟨k,D,θ ro⟩ F)++ #[]=vs.toArray) (o:YR P l vs w R) (h:∀v w',R v w'->W P ⟨k,D,θ ro⟩ Ξ Q Ρ (dP F d v) w'):
  W P ⟨k,D,θ ro⟩ Ξ Q (⟨θ d,.call ⟨.value g,fR,c⟩,ty,Ο,Ν,ι⟩::Ρ) F w:=by
 obtain⟨f,b,i,t,s,r⟩:=o;have a:(ς (aW ⟨k,D,θ ro⟩ F) (⟨θ d,.call ⟨.value g,fR,c⟩,ty,Ο,Ν,ι⟩:Α)).run P w=.ok (.round l f b i t) w:=by simp only[ς,resolve,m,Deferred.ofValue];show Sem.run P (Instr.yield l (#[]++fR.map (aW ⟨k,D,θ ro⟩ F)++ #[])) w=_;rw[p];exact s
 unfold W WR;refine wpListIn_plain Τ λK q=>⟨λ_ _=>trivial,?_⟩;rw[SN,tX _ a (λd e=>by cases e),a,Oper.uponIn_round];refine⟨λh=>absurd h Bool.false_ne_true,?_⟩;refine RoundIn.mono (F:=Fence.wide) (n:=0) r ?_;rintro e w' ⟨v,rfl,j⟩;refine q _ _ ?_;have:=h v w' j;unfold W WR at this;rw[<-kK]at this;exact this
variable{e:FuncId}{c:Func}{f:Code}{a:δ ξ}{R:ξ->ο->Prop}
theorem ML(d:P.funcs[e]? =θ c)(g:c.body=θ f)(j:c.ntmps=k)(b:γ a<=k)
  (h:C P ⟨k,[],θ ι⟩ (bodyPost P c λi w'=>∃v,i=.returned v/\R v w') f (NA a) w):CR P e a w R:=by
 refine(callsIn_wide (n:=0)).1 (callsIn_of_wp d g trivial ?_);rw[j,AV a k b];unfold C CC at h;exact h
theorem MK(d:P.funcs[e]? =θ c)(g:c.body=θ f)(j:c.ntmps=k)(b:γ a<=k)
  (h:C P ⟨k,[],θ ι⟩ (bodyPostM Fence.wide 0 P c λi w'=>∃v,i=.returned v/\R v w') f (NA a) w):CR P e a w R:=by
 refine(callsIn_wide (n:=0)).1 (callsIn_of_wp_marks d g trivial ?_);rw[j,AV a k b];unfold C CC at h;exact h
def mark(r:Nat):Deferred:={target:=.collected r,args:= #[]}
theorem m_res0(h:∃v,(results c (fr ⟨k,[],ι⟩ F).tmps).run P w=.ok v w/\R v w):
  bodyPostM Fence.wide 0 P c (λe w'=>∃v,e=.returned v/\R v w') .ret (fr ⟨k,[],θ ι⟩ F) w:=by
 obtain⟨v,b,a⟩:=h;exact⟨v,b,v,Τ,a⟩
theorem m_res1(i:Hp w0 S L w)(a r:Nat)(b:L[a]? =θ (HY r))(h:∀w',Hp w0 S (L.set a (gone r)) w'->∃v,(results c (fr ⟨k,[],ι⟩ F).tmps).run P w'=.ok v w'/\R v w'):
  bodyPostM Fence.wide 0 P c (λe w'=>∃v,e=.returned v/\R v w') .ret (fr ⟨k,[mark r],θ ι⟩ F) w:=by
 have d:=(i.res _ (aI b)).1;obtain⟨v,g,f⟩:=h _ (i.put a r _ _ _ b Τ Τ trivial);exact⟨aA2,.inl ⟨r,_,Τ,run_takeDeferred d,v,g,v,Τ,f⟩⟩
theorem PW{c:Nat}{fn:Func}{R:ξ->ο->Prop}(l:δ ResultVar)(vs:δ ξ)(v:ξ)(f:fn.results=l.toArray)(g:γ l=γ vs)
  (e:∀(i:Nat) (x:ResultVar) (v:ξ),l[i]? =θ x->vs[i]? =θ v->Xp P c F w x v) (b:(match vs with|[u]=>u|d=>.tuple d.toArray)=v) (h:R v w):
  ∃v,(results fn (fr ⟨c,[],ι⟩ F).tmps).run P w=.ok v w/\R v w:=⟨v,rN l vs f g e v aD0,h⟩
theorem Nc{fn:Func}{R:ξ->ο->Prop}(l:δ ResultVar)(vs:δ ξ)(v:ξ)(f:fn.results=l.toArray)(g:γ l=γ vs)
  (d:∀(i:Nat) (x:ResultVar) (v:ξ),l[i]? =θ x->vs[i]? =θ v->Xp P k F w x v) (b:(match vs with|[u]=>u|c=>.tuple c.toArray)=v) (h:R v w):
  bodyPostM Fence.wide 0 P fn (λe w'=>∃v,e=.returned v/\R v w') .ret (fr ⟨k,[],θ ι⟩ F) w:=
 m_res0 (PW l vs v f g d aD0 h)
theorem AB{fn:Func}{R:ξ->ο->Prop}(o:Hp w0 S L w)(c r:Nat)(n:L[c]? =θ (HY r))(l:δ ResultVar)(vs:δ ξ)(v:ξ)(j:fn.results=l.toArray)(m:γ l=γ vs)
  (g:∀w',Hp w0 S (L.set c (gone r)) w'->∀(i:Nat) (x:ResultVar) (v:ξ),l[i]? =θ x->vs[i]? =θ v->Xp P k F w' x v) (b:(match vs with|[u]=>u|f=>.tuple f.toArray)=v) (h:∀w',Hp w0 S (L.set c (gone r)) w'->R v w'):
  bodyPostM Fence.wide 0 P fn (λe w'=>∃v,e=.returned v/\R v w') .ret (fr ⟨k,[mark r],θ ι⟩ F) w:=
 m_res1 o c r n λw' d=>PW l vs v j m (g w' d) aD0 (h w' d)
def RgQ(P:Β)(k r:Nat)(Q:Exit->Act->ο->Prop)(F:Nat->ξ)(j:Nat)(w:ο):Prop:=
 match jmp j with
 |none=>Q .normal (fr ⟨k,[mark r],θ ι⟩ F) w
 |some c=>C P ⟨k,[mark r],θ ι⟩ Q c F w
variable{l:Nat}
theorem rg0{j:Nat}(a:j=0)(h:Q .normal (fr ⟨k,[mark l],θ ι⟩ F) w):RgQ P k l Q F j w:=by subst a;exact h
theorem rg1{j:Nat}(a:j=1)(h:C P ⟨k,[mark l],θ ι⟩ Q .ret F w):RgQ P k l Q F j w:=by subst a;exact h
theorem tC{b:Array Tmp}{assign body:Code}(A:Hp w0 S L w)(f:Nat)(cap:δ ξ)(x:aW ⟨k,[],θ ι⟩ F g=.func (.func f) #[] cap.toArray)(B:Enters P f)
  (h:∀r l a q,a.assign=assign->a.body=body->a.params=b->a.tmps=(fr ⟨k,[],θ ι⟩ F).tmps->Hp w0 S (eC l 0 a::HY r::L) q->
   CR P f (.func (.yield l) #[] #[]::cap) q λ_ i=>∃j o,Hp w0 S (eC l j a::o) i/\∀p,Hp w0 S o p->RgQ P k r Q F j p):
  C P ⟨k,[],θ ι⟩ Q (.rangeFunc g b assign body) F w:=by
 unfold C CC;refine wpIn_rangeFunc λfn _=> ?_;have n:=A.BW _ (HY w.heap.size) Τ Τ;have m:=n.BW _ (eC (w.heap.size+1) 0 {state:=.ready,pending:=ι,fn:=fn,tmps:=(fr ⟨k,[],θ ι⟩ F).tmps,params:=b,assign:=assign,body:=body,defers:=w.heap.size}) (by simp[eC]) Τ;have y:=h w.heap.size _ _ _ Τ Τ Τ Τ m;refine⟨w.heap.size+1,[mark w.heap.size],((w.alloc _).alloc _),{target:=.fn (.func f) cap.toArray,args:= #[]++ #[.func (.yield (w.heap.size+1)) #[] #[]]},((w.alloc (.deferred (θ []))).alloc (.loop {state:=.ready,pending:=ι,fn:=fn,tmps:=(fr ⟨k,[],θ ι⟩ F).tmps,params:=b,assign:=assign,body:=body,defers:=w.heap.size})),f,(Θ (.yield (w.heap.size+1)) #[] #[]::cap).toArray,((w.alloc (.deferred (θ []))).alloc (.loop {state:=.ready,pending:=ι,fn:=fn,tmps:=(fr ⟨k,[],θ ι⟩ F).tmps,params:=b,assign:=assign,body:=body,defers:=w.heap.size})),run_enterLoop_outer fn _ _ _ _,?_,λ_ _=>trivial,?_,λh=>absurd h Bool.false_ne_true,?_⟩
 ·rw[SN];simp only[resolve,x];simp;rfl
 ·have e:(#[]++ #[Θ (.yield (w.heap.size+1)) #[] #[]]:Array ξ)++cap.toArray=(Θ (.yield (w.heap.size+1)) #[] #[]::cap).toArray:=by simp
  rw[<-e];exact B.run _ _
 ·refine(callsIn_wide).2 (Calls.mono y ?_);rintro e i ⟨v,rfl,j,o,s,E⟩;have u:i.heap[w.heap.size+1]? =_:=(s.res _ (gQ)).1;have z:di j≠.busy:=by unfold di;split<;>simp
  refine⟨jmp j,_,run_endLoop u z,?_⟩;have D:=(s.put 0 _ _ (gone _) (.loop {({state:=.ready,pending:=ι,fn:=fn,tmps:=(fr ⟨k,[],θ ι⟩ F).tmps,params:=b,assign:=assign,body:=body,defers:=w.heap.size}:Loop)with state:=.exhausted,pending:=jmp j}) Τ Τ Τ trivial).tail;have d:=E _ D;unfold RgQ at d;revert d;generalize jmp j=t;intro d;cases t with
  |none=>exact d
  |some c=>unfold C CC at d;exact d
def Xx(F:Nat->ξ):δ Nat->δ ξ->Nat->ξ
 |p::b,v::a=>Xx (dP F p v) b a
 |_,_=>F
theorem Ud(m:Md):∀a vs F,(a.zip vs).foldl (λt x=>t.setIfInBounds x.1 x.2) (fr m F).tmps=(fr m (Xx F a vs)).tmps
 |[],_,F=>by simp[Xx]
 |_::_,[],F=>by simp[Xx]
 |p::a,v::vs,F=>by simp only[List.zip_cons_cons,Gf,Xx];rw[<-Ud m a vs _];congr 1;have:=kK m F p v;exact bA Act.tmps this
def AsgQ(P:Β)(l:Nat)(c:Code)(R:ξ->ο->Prop):Exit->Act->ο->Prop:=
 Exit.then (λd b=>∃a,(Instr.beginRound l).run P b=.ok () a/\c.wpIn (Ti (θ l)) 0 P (roundPost P l λe w'=>∃v,e=.returned v/\R v w') d a) (λ_ _ _=>False)
def cg(P:Β)(l:Nat)(R:ξ->ο->Prop):Exit->Act->ο->Prop:=roundPost P l λe w'=>∃v,e=.returned v/\R v w'
variable{b:Loop}
theorem Ki{t:δ Nat}{m:ε (ε Nat)}{c:Code}(q:Hp w0 S L w)(kl:Nat)(n:L[kl]? =θ (eC l 0 b))(p:b.assign=f)(o:b.body=c)(d:b.params=t.toArray)(g:b.tmps=(fr ⟨k,[],m⟩ F).tmps)(j:γ t=γ a)
  (h:C P ⟨k,[],θ (θ l)⟩ (AsgQ P l c R) f (Xx F t a) w):YR P l a w R:=by
 have i:=(q.res _ (aI n)).1;subst p;subst o;refine⟨b.fn,_,b.assign,b.body,run_yield (r:={b with state:=di 0,pending:=jmp 0}) i (by simp[d,j]),?_⟩;refine roundIn_of_wpIn trivial ?_;have e:(({b with state:=di 0,pending:=jmp 0}:Loop).params.zip a.toArray).foldl (λtmps x=>tmps.setIfInBounds x.1 x.2) ({b with state:=di 0,pending:=jmp 0}:Loop).tmps=(fr ⟨k,[],θ (θ l)⟩ (Xx F t a)).tmps:=by rw[d,g];have:=Ud ⟨k,[],m⟩ t a F;rw[show(fr ⟨k,[],θ _⟩ _).tmps=(fr ⟨k,[],m⟩ (Xx F t a)).tmps from Τ,<-this];simp
 unfold C CC at h;have s:fr ⟨k,[],θ _⟩ _={tmps:=(fr ⟨k,[],θ (θ l)⟩ (Xx F t a)).tmps,defers:=[]}:=Τ;rw[s,<-e]at h;exact h
theorem Qn(d:Hp w0 S L w)(kl:Nat)(c:L[kl]? =θ (eC l 0 b))(h:∀a,Hp w0 S (L.set kl (Nh l b)) a->C P ⟨k,[],θ (θ l)⟩ (cg P l R) f F a):
  AsgQ P l f R .normal (fr ⟨k,[],θ (θ l)⟩ F) w:=by
 have g:=(d.res _ (aI c)).1;have e:=h _ (d.put kl l _ _ (.loop {b with state:=.busy,pending:=jmp 0}) c Τ Τ ⟨_,Τ⟩);unfold C CC cg at e;exact⟨_,run_beginRound g Τ,e⟩
theorem PG(j:Nat)(e:Hp w0 S L w)(kl:Nat)(d:L[kl]? =θ (Nh l b))(h:∀w',Hp w0 S (L.set kl (eC l j b)) w'->R (.bool (decide (j=0))) w'):
  ∃v w',(Instr.endRound l (jmp j)).run P w=.ok v w'/\∃u,Ending.returned v=.returned u/\R u w':=by
 obtain⟨k,f⟩:=(e.res _ (aI d)).1;have a:=f;have c:(jmp j).isNone=decide (j=0):=by
  cases j with
  |zero=>rfl
  |succ n=>cases n<;>rfl
 have i:(if(jmp j).isNone=μ then LoopState.ready else .done)=di j:=by rw[c];unfold di;simp
 refine⟨_,_,run_endRound _ a,_,Τ,?_⟩;rw[c];refine h _ ?_;have g:=e.put kl l _ (eC l j b) (.loop {b with state:=di j,pending:=jmp j}) d Τ Τ Τ;rw[<-c,i];exact g
theorem oT(c:Hp w0 S L w)(kl:Nat)(a:L[kl]? =θ (Nh l b))(h:∀w',Hp w0 S (L.set kl (eC l 0 b)) w'->R (.bool μ) w'):cg P l R .normal (fr ⟨k,[],θ (θ l)⟩ F) w:=PG 0 c kl a h
theorem PF(c:Hp w0 S L w)(kl:Nat)(a:L[kl]? =θ (Nh l b))(h:∀w',Hp w0 S (L.set kl (eC l 1 b)) w'->R (.bool ν) w'):cg P l R .ret (fr ⟨k,[],θ (θ l)⟩ F) w:=PG 1 c kl a h
end
attribute [irreducible] RgQ AsgQ cg
open List renaming replicate → jZ
open Nat renaming blt → fI
open _root_.Array renaming replicate → JE
def NoD(Ξ:Array Α):Prop:=∀(j:Nat) o c,Ξ[j]? =θ o->o.op≠.defer c
def NoPD(Ξ:Array Α)(Q:Exit->Act->ο->Prop):Prop:=IX Q/\NoD Ξ
section
variable{P:Β}{Ξ:Array Α}{Q:Exit->Act->ο->Prop}{md:Region.Mode}{S:Nat->ο->ο->Prop}{x:ε Nat}
variable{o:Α}{w:ο}
theorem pK{x:ε Nat}{ρ:χ->ξ}:∀f,o.about P w ρ=θ f->(Ti x).fn f:=λ_ _=>trivial
variable{a:ο->Prop}{i:Nat}{v:ξ}{b:Act}{K:Act->ο->Prop}
theorem _root_.Go.YieldsIf.sy(f:Ξ[i]? =θ o)(g:∀c,o.op≠.defer c)(j:a w)(d:YieldsIf P Ξ a o v b)(h:K (b.put o.dst v) w):wpOpIn (Ti x) 0 P Ξ Q i K b w:=by
 unfold wpOpIn;simp only[f];rcases d with⟨k,e⟩|⟨k,rfl⟩
 ·simp only[k,Oper.wpIn,Oper.semAt_eq _ _ _ g,e w j];exact⟨pK,h⟩
 ·simp only[k];exact⟨pK,h⟩
theorem Xt{I:Α}(G:Ξ[i]? =θ I)(A:o.apart Ξ I=μ)
  (z:∀cs H,o.op≠.select cs H) (t:∀cs H,I.op≠.select cs H) (q:∀c,I.op≠.defer c)
  (B:∀c b w,Q (.panic c) (b.put o.dst v) w->Q (.panic c) b w)   
  (k:YieldsIf P Ξ a o v b) (h:wpOpIn (Ti x) 0 P Ξ Q i K (b.put o.dst v) w):
  wpOpIn (Ti x) 0 P Ξ Q i (λa' w'=>YieldsIf P Ξ a o v a'/\K (a'.put o.dst v) w') b w:=by
 obtain⟨E,j,D⟩:=Oper.apart_spec A;have g:∀b,YieldsIf P Ξ a o v b->∀u,YieldsIf P Ξ a o v _:=λb k u=>
  k.of_same (execOp_put o z b I.dst u D) (wanted_put o b I.dst u D)
 have n:∀d,YieldsIf P Ξ a o v {b with defers:=d::b.defers}:=λd=>k.of_same Τ Τ;unfold wpOpIn at*;simp only[G]at*;rw[wanted_put I b o.dst v E]at h;split
 ·rename_i s;simp only[s]at h;refine⟨pK,?_⟩;have h:=h.2;rw[Oper.semAt_eq _ _ _ q,execOp_put I t b o.dst v E]at h;rw[Oper.semAt_eq _ _ _ q];generalize(ς b.eval I).run P w=r at*
  cases r with
  |ok y w'=>
   cases y<;>simp only[Oper.uponIn]at h⊢
   case value u=>exact⟨g b k u,by rw[<-Act.put_comm b v u j];exact h⟩
   case skip=>exact⟨g b k _,by rw[<-Act.put_comm b v undef j];exact h⟩
   case defer d=>
    refine⟨g _ (n d) _,?_⟩;rw[<-Act.put_comm _ v undef j,<-Act.put_defers];exact h
   case enter f args=>
    refine⟨h.1,CallsIn.mono h.2 λe p m=> ?_⟩;cases e with
    |returned u=>exact⟨g b k u,by rw[<-Act.put_comm b v u j];exact m⟩
    |panicked c=>exact B _ _ _ m
    |outgrown=>exact m
   case row row args=>exact⟨h.1,RowsIn.mono h.2 λu p m=>⟨g b k u,by rw[<-Act.put_comm b v u j];exact m⟩⟩
   case round l f C assign F=>
    refine⟨h.1,RoundIn.mono h.2 λe p m=> ?_⟩;cases e with
    |returned u=>exact⟨g b k u,by rw[<-Act.put_comm b v u j];exact m⟩
    |panicked c=>exact B _ _ _ m
    |outgrown=>exact m
  |halt y w'=>
   cases y<;>simp only[Oper.uponIn]at h⊢
   case panic u=>exact B _ _ _ h
 ·rename_i s;simp only[s]at h;exact⟨pK,g b k _,by rw[<-Act.put_comm b v undef j];exact h.2⟩
theorem qY{Q':Exit->Act->ο->Prop}:∀l k listed a w,(∀j,l[j]? =Ξ[k+j]?)->
  Region.seqB md Ξ (γ l) k listed=μ->wpListIn (Ti x) 0 P Ξ Q' l a w->wpAnyIn (Ti x) 0 P md Ξ Q' (γ l) listed a w
 |[],_,_,_,_,_,b,h=>⟨by simpa [Region.seqB] using b,h⟩
 |o::l,k,listed,a,w,d,b,h=>by
  have m:Ξ[k]? =θ o:=by simpa using (d 0).symm
  simp only[cM,Region.seqB,lX,aX]at b;refine⟨λf=>(by rw[b.1]at f;cases f),λi e=> ?_⟩;rw[b.1]at e;have c:i=k:=aE4;subst c;have g:wpOpIn (Ti x) 0 P Ξ Q' i (wpListIn (Ti x) 0 P Ξ Q' l) a w:=by unfold wpOpIn;simp only[m];exact h
  exact wpOpIn_mono (λa' w' n=>qY l _ _ a' w' (λj=>by have:=d (j+1);simpa [Dc,Ia 1 j] using this) b.2 n) g
def Dd(x:ε Nat)(P:Β)(md:Region.Mode)(Ξ:Array Α)(Q:Exit->Act->ο->Prop)(S:Nat->ο->ο->Prop)(k:Nat)(Z:Act->ο->Prop):Nat->Array η->Act->ο->Prop
 |0,listed,a,w=>Region.seqB md Ξ (Ξ.size-k) k listed=μ/\Z a w
 |f+1,listed,a,w=>Ζ md Ξ listed≠[]/\∀i∈Ζ md Ξ listed,i<k/\wpOpIn (Ti x) 0 P Ξ Q i (λa' w'=>S i w w'/\Dd x P md Ξ Q S k Z f (listed.setIfInBounds i μ) a' w') a w
theorem ES{k:Nat}{Z:Act->ο->Prop}(d:k<=Ξ.size)(c:∀a w,Z a w->wpListIn (Ti x) 0 P Ξ Q (Ξ.toList.drop k) a w):
  ∀f listed a w,Dd x P md Ξ Q S k Z f listed a w->wpAnyIn (Ti x) 0 P md Ξ Q (f+(Ξ.size-k)) listed a w
 |0,listed,a,w,h=>by have b:γ (Ξ.toList.drop k)=Ξ.size-k:=aA2;have:=qY (Q':=Q) (Ξ.toList.drop k) k listed a w (λj=>by simp) (by rw[b];exact h.1) (c a w h.2);rw[b]at this;rw[Kh];exact this
 |f+1,listed,a,w,h=>by rw[show f+1+(Ξ.size-k)=(f+(Ξ.size-k))+1 by omega];exact⟨λg=>absurd g h.1,λi e=>wpOpIn_mono (λa' w' l=>ES d c f _ a' w' l.2) (h.2 i e).2⟩
theorem LF{a0:Nat}(Si:ο->Prop)(D:δ Nat)(hD:Pv md Ξ a0 D=μ)(U:∀j w w',S j w w'->eI D Si j w w')(I:Ξ[a0]? =θ o)(y:∀(j:Nat) k cs b,Ξ[j]? =θ k->k.op≠.select cs b)
  (hQ:∀c a w,Q (.panic c) (a.put o.dst v) w->Q (.panic c) a w) (C:NoD Ξ) (a1:a0<i)
  (l:∀listed:Array η,HeadInv md Ξ i listed->listed.getD a0 μ=ν->∀t,i<=t->t∉Ζ md Ξ listed):
  ∀f listed a w,HeadInv md Ξ i listed->
   (∀j u,Ξ[j]? =θ u->j≠a0->listed.getD j μ=ν->(∀e∈u.after,Region.binds md e=μ->e.on≠a0)->o.apart Ξ u=μ)->
   a0∈Ζ md Ξ listed->YieldsIf P Ξ Si o v a->Si w->(∀j w,S j w w)->
   Dd x P md Ξ Q S i K f (listed.setIfInBounds a0 μ) (a.put o.dst v) w->Dd x P md Ξ Q S i K (f+1) listed a w:=by
 intro f;induction f with
 |zero=>
  intro listed a w n g z Z L s H;have p:=(mem_ready.1 z).1;refine⟨λV=>(by rw[V]at z;cases z),λj B=> ?_⟩
  have q:j<i:=by
   rcases tM j i with h|h
   ·exact h
   ·exact absurd B (l listed n p j h)
  by_cases d:j=a0
  ·subst d;exact⟨q,Z.sy I (λc=>C j o c I) L ⟨s _ _,H⟩⟩
  ·have W:=seqB_ready H.1 j (ready_mono B d);omega
 |succ f Y=>
  intro listed a w n g z Z L s H;have p:=(mem_ready.1 z).1;refine⟨λV=>(by rw[V]at z;cases z),λj B=> ?_⟩
  have q:j<i:=by
   rcases tM j i with h|h
   ·exact h
   ·exact absurd B (l listed n p j h)
  by_cases d:j=a0
  ·subst d;exact⟨q,Z.sy I (λc=>C j o c I) L ⟨s _ _,H⟩⟩
  ·have W:=(H.2 j (ready_mono B d)).2;have T:=Pu hD n p B;obtain⟨A,u,r,J⟩:=mem_ready.1 B;have F:∀e∈u.after,Region.binds md e=μ->e.on≠a0:=λe he hb heq=>by have N:=J e he hb;rw[heq,getD_both p]at N;cases N
   have N:=Xt r (g j u r d A F) (λcs b=>y a0 o cs b I) (λcs b=>y j u cs b r) (λc=>C j u c r) hQ Z W;refine⟨q,wpOpIn_mono (λa' w' M=>⟨M.2.1,Y _ a' w' (n.set B q) (λm X hm R E O=>g m X hm R ?_ O) (ready_mono z (Ne.symm d)) M.1 (U j _ w' M.2.1 (by simpa using T) L) s ?_⟩) N⟩
   ·by_cases G:j=m
    ·subst G;exact A
    ·rw[getD_set_ne μ G]at E;exact E
   ·rw[Array.setIfInBounds_comm _ _ d];exact M.2.2
end
section
variable{P:Β}{kn:Nat}{kD:δ Deferred}{Ξ:Array Α}{Q:Exit->Act->ο->Prop}{S:Nat->ο->ο->Prop}{Si:ο->Prop}{F:Nat->ξ}{w:ο}{x:ε Nat}
def RI(x:ε Nat)(P:Β)(n:Md)(Ξ:Array Α)(Q:Exit->Act->ο->Prop)(S:Nat->ο->ο->Prop)(k f:Nat)(listed:δ η)(F:Nat->ξ)(w:ο):Prop:=
 HeadInv .any Ξ k listed.toArray->(∀j w,S j w w)->NoPD Ξ Q->Dd x P .any Ξ Q S k (λa w=>wpListIn (Ti x) 0 P Ξ Q (Ξ.toList.drop k) a w) f listed.toArray (fr n F) w
def RKI(x:ε Nat)(P:Β)(n:Md)(Ξ:Array Α)(Q:Exit->Act->ο->Prop)(S:Nat->ο->ο->Prop)(k f:Nat)(listed:δ η)(i:Nat)(w:ο):Exit->Act->ο->Prop:=
 Exit.then (λa' w'=>∃a,a'=fr n a/\S i w w'/\RI x P n Ξ Q S k f listed a w') Q
variable{b:ο}{k:Nat}
theorem z7{S0:δ Nat}{L:δ cF}{l:δ Α}(s:Nat)(S:Nat->ο->ο->Prop)(listed:δ η)(u:∀j w,S j w w)(m:P.follows .mixedOrders=μ)(f:Fy l.toArray s=μ)
  (p:Hp b S0 L w) (d:jZ (γ l) ν=listed) (o:NoPD l.toArray Q) (h:∀w',Hp b S0 L w'->RI x P ⟨kn,kD,θ x⟩ l.toArray Q S s s listed F w'):C P ⟨kn,kD,θ x⟩ Q (.region k l.toArray μ) F w:=by
 unfold C CC;have n:s<=l.toArray.size:=by simp only[Fy,lX,aX]at f;exact f.1.2
 have c:HeadInv .any l.toArray s (JE l.toArray.size ν):=
  ⟨aA2,λj r _ d=>(by rw[getD_replicate_false]at d;cases d),λt _ i=>getD_in (by simpa using i) (getD_replicate_false _ _)⟩
 have e:listed.toArray=JE l.toArray.size ν:=by subst d;simp
 refine wpIn_region_any m ?_;have q:=h _ p.RW (by rw[e];exact c) u o;have g:=ES n (λa w h=>h) s _ _ _ q;rw[e,show s+(l.toArray.size-s)=l.toArray.size by omega]at g;exact g
variable{f:Nat}{a:δ η}
theorem L5(b:δ η)(i d:Nat)(v:ξ)(D:δ Nat)(t:∀j w w',S j w w'->eI D Si j w w')(o:Α)(y:Ξ[i]? =θ o)(C:o.dst=θ d)(r:Fy Ξ k=μ)(G:Pv .any Ξ i D=μ)(m:Region.free .any Ξ a.toArray i=μ)
  (A:(Ζ .any Ξ a.toArray).contains i=μ) (s:fI i k=μ) (B:a.set i μ=b) (z:YieldsIf P Ξ Si o v (fr ⟨kn,kD,θ x⟩ F)) (E:Si w)
  (h:RI x P ⟨kn,kD,θ x⟩ Ξ Q S k f b (dP F d v) w):RI x P ⟨kn,kD,θ x⟩ Ξ Q S k (f+1) a F w:=by
 intro n e u;have g:i<k:=by simpa [iQ] using s
 have q:i∈Ζ .any Ξ a.toArray:=by simpa using A
 have p:Region.noSelect Ξ=μ:=by simp only[Fy,lX]at r;exact r.1.1
 refine LF Si D G t y (Region.noSelect_spec p) (λc H w h=>absurd h (u.1 c _ w)) u.2 g (rE r g) f _ _ _ n (Region.free_spec y m) q z E e ?_;have l:=n.set q g;rw[oS,B]at l⊢;have:=h l e u;rw[<-kK,<-C]at this;exact this
theorem FB{o:Α}{K:Act->ο->Prop}{a:Act}(c:Ξ[k]? =θ o)(h:wpListIn (Ti x) 0 P Ξ (Exit.then K Q) [o] a w):wpOpIn (Ti x) 0 P Ξ Q k K a w:=by
 unfold wpOpIn;simp only[c];unfold wpListIn at h;split
 ·rename_i b;rw[aB b]at h;refine⟨h.1,?_⟩;have h:=h.2;generalize(o.semAt (Ti x).round a.eval).run P w=r at*
  cases r with
  |ok y w'=>cases y<;>exact h
  |halt y w'=>cases y<;>exact h
 ·rename_i b;rw[aA b]at h;exact h
theorem jr(b:δ η)(i:Nat)(o:Α)(m:Ξ[i]? =θ o)(n:a.set i μ=b)(g:HeadInv .any Ξ k a.toArray)(d:∀j w,S j w w)(r:NoPD Ξ Q)
  (l:i∈Ζ .any Ξ a.toArray) (e:i<k) (h:W P ⟨kn,kD,θ x⟩ Ξ (RKI x P ⟨kn,kD,θ x⟩ Ξ Q S k f b i w) [o] F w):
  i<k/\wpOpIn (Ti x) 0 P Ξ Q i (λa' w'=>S i w w'/\Dd x P .any Ξ Q S k (λt w=>wpListIn (Ti x) 0 P Ξ Q (Ξ.toList.drop k) t w) f (a.toArray.setIfInBounds i μ) a' w') (fr ⟨kn,kD,θ x⟩ F) w:=by
 refine⟨e,?_⟩;have c:=g.set l e;rw[oS,n]at c⊢;unfold W WR RKI at h;refine wpOpIn_mono ?_ (FB m h);rintro a' w' ⟨s,rfl,p,q⟩;exact⟨p,q c d r⟩
theorem js(p:δ η)(i:Nat)(o:Α)(l:Ξ[i]? =θ o)(d:Ζ .any Ξ a.toArray=[i])(e:fI i k=μ)(m:a.set i μ=p)
  (h:W P ⟨kn,kD,θ x⟩ Ξ (RKI x P ⟨kn,kD,θ x⟩ Ξ Q S k f p i w) [o] F w):RI x P ⟨kn,kD,θ x⟩ Ξ Q S k (f+1) a F w:=by
 intro c b n;refine⟨by rw[d];simp,λj g=> ?_⟩;rw[d]at g;obtain rfl:j=i:=aE2;exact jr p j o l m c b n (by rw[d];simp) (by simpa [iQ] using e) h
theorem jt{i:Nat}(c:S i b w)(h:RI x P ⟨kn,kD,θ x⟩ Ξ Q S k f a F w):RKI x P ⟨kn,kD,θ x⟩ Ξ Q S k f a i b .normal (fr ⟨kn,kD,θ x⟩ F) w:=⟨F,Τ,c,h⟩
theorem jq(c:Region.seqB .any Ξ (Ξ.size-k) k a.toArray=μ)(h:W P ⟨kn,kD,θ x⟩ Ξ Q (Ξ.toList.drop k) F w):RI x P ⟨kn,kD,θ x⟩ Ξ Q S k 0 a F w:=by intro _ _ _;unfold W WR at h;exact⟨c,h⟩
end
section
variable{P:Β}{kn:Nat}{kD:δ Deferred}{ro:ε (ε Nat)}{Ξ:Array Α}{Q:Exit->Act->ο->Prop}{S:Nat->ο->ο->Prop}{Si:ο->Prop}{F:Nat->ξ}{w:ο}
def RO(P:Β)(n:Md)(Ξ:Array Α)(Q:Exit->Act->ο->Prop)(S:Nat->ο->ο->Prop)(k f:Nat)(listed:δ η)(F:Nat->ξ)(w:ο):Prop:=
 match n.ro with
 |none=>R P n Ξ Q S k f listed F w
 |some x=>RI x P n Ξ Q S k f listed F w
def RKO(P:Β)(n:Md)(Ξ:Array Α)(Q:Exit->Act->ο->Prop)(S:Nat->ο->ο->Prop)(k f:Nat)(listed:δ η)(i:Nat)(w:ο):Exit->Act->ο->Prop:=
 match n.ro with
 |none=>RK P n Ξ Q S k f listed i w
 |some x=>RKI x P n Ξ Q S k f listed i w
variable{b:ο}{k:Nat}
theorem z6{S0:δ Nat}{L:δ cF}{l:δ Α}(i:Nat)(S:Nat->ο->ο->Prop)(listed:δ η)(a:∀j w,S j w w)(c:P.follows .mixedOrders=μ)(m:Fy l.toArray i=μ)
  (f:Hp b S0 L w) (d:jZ (γ l) ν=listed) (e:IX Q) (g:ro.isSome=μ->NoD l.toArray) (h:∀w',Hp b S0 L w'->RO P ⟨kn,kD,ro⟩ l.toArray Q S i i listed F w'):C P ⟨kn,kD,ro⟩ Q (.region k l.toArray μ) F w:=by
 cases ro with
 |none=>exact YX i S listed a c m f d e h
 |some x=>exact z7 i S listed a c m f d ⟨e,g Τ⟩ h
variable{f:Nat}{a:δ η}
theorem bks(t:δ η)(i d:Nat)(v:ξ)(D:δ Nat)(e:∀j w w',S j w w'->eI D Si j w w')(o:Α)(n:Ξ[i]? =θ o)(q:o.dst=θ d)(l:Fy Ξ k=μ)(s:Pv .any Ξ i D=μ)(b:Region.free .any Ξ a.toArray i=μ)
  (m:(Ζ .any Ξ a.toArray).contains i=μ) (c:fI i k=μ) (p:a.set i μ=t) (g:YieldsIf P Ξ Si o v (fr ⟨kn,kD,ro⟩ F)) (r:Si w)
  (h:RO P ⟨kn,kD,ro⟩ Ξ Q S k f t (dP F d v) w):RO P ⟨kn,kD,ro⟩ Ξ Q S k (f+1) a F w:=by
 cases ro with
 |none=>exact BU t i d v D e o n q l s b m c p g r h
 |some x=>exact L5 t i d v D e o n q l s b m c p g r h
theorem QC(p:δ η)(i d:Nat)(v:ξ)(o:Α)(l:Ξ[i]? =θ o)(n:o.dst=θ d)(g:Fy Ξ k=μ)(b:Region.free .any Ξ a.toArray i=μ)
  (j:(Ζ .any Ξ a.toArray).contains i=μ) (c:fI i k=μ) (m:a.set i μ=p) (e:YieldsIf P Ξ (λ_=>True) o v (fr ⟨kn,kD,ro⟩ F))
  (h:RO P ⟨kn,kD,ro⟩ Ξ Q S k f p (dP F d v) w):RO P ⟨kn,kD,ro⟩ Ξ Q S k (f+1) a F w:=
 bks p i d v [] (λ_ _ _ _ _ _=>trivial) o l n g Τ b j c m e trivial h
theorem jo(g:δ η)(i:Nat)(o:Α)(d:Ξ[i]? =θ o)(c:Ζ .any Ξ a.toArray=[i])(b:fI i k=μ)(e:a.set i μ=g)
  (h:W P ⟨kn,kD,ro⟩ Ξ (RKO P ⟨kn,kD,ro⟩ Ξ Q S k f g i w) [o] F w):RO P ⟨kn,kD,ro⟩ Ξ Q S k (f+1) a F w:=by
 cases ro with
 |none=>exact L0 g i o d c b e h
 |some x=>exact js g i o d c b e h
theorem QD{i:Nat}(c:S i b w)(h:RO P ⟨kn,kD,ro⟩ Ξ Q S k f a F w):RKO P ⟨kn,kD,ro⟩ Ξ Q S k f a i b .normal (fr ⟨kn,kD,ro⟩ F) w:=by
 cases ro with
 |none=>exact kE c h
 |some x=>exact jt c h
theorem QB(c:Region.seqB .any Ξ (Ξ.size-k) k a.toArray=μ)(h:W P ⟨kn,kD,ro⟩ Ξ Q (Ξ.toList.drop k) F w):RO P ⟨kn,kD,ro⟩ Ξ Q S k 0 a F w:=by
 cases ro with
 |none=>exact SL c h
 |some x=>exact jq c h
end
attribute [irreducible] RI RKI RO RKO
open Go.Lib
open Go.Value renaming ownBlock → Db
open Nat renaming beq → cY
theorem strCells_eq(l:aC):strCells (⟨l.toArray⟩)=l.flatMap eB:=by rw[oZ];simp[strCells,bt]
section
variable{P:Β}{n:Md}{Ξ:Array Α}{Q:Exit->Act->ο->Prop}{F:Nat->ξ}{w w0:ο}{S:δ Nat}{L:δ cF}
variable{d:Nat}{ty:ω}{Ο:String}{Ν:Array Edge}{Ρ:δ Α}
theorem G5{a:ε Γ}{m cap e:Nat}{r:δ ξ}(t u:ω)(A:P.underlying t=θ (.slice e))(y:P.underlying u=θ .string)(T:TI P e 1 1)(H:(P.info? e).bind (·.zero)=θ (.int .u8 0))(d:w.ownsRow 0 e 1 (.slice a m cap) m r)(l:aC)
  (S:m+γ l<=140737488355328):
  ∃a' cap' w',(Builtin.append_ #[t,u] ty #[.slice a m cap,str l]).run P w=.ok (.slice a' (m+γ l) cap') w'/\w'.ownsRow 0 e 1 (.slice a' (m+γ l) cap') (m+γ l) (r++l.flatMap eB)/\
   w.grownBy w' (π a m cap).ownBlock/\∀p,a'=θ p->(∃q,a=θ q/\q.block=p.block)\/w.heap.size<=p.block:=by
 obtain⟨i,z,x,M,D,o,L⟩:=T.parts;have j:i.zero=θ (.int .u8 0):=by rw[x]at H;simpa using H
 have Q:m+γ l<=maxLen:=aE6
 obtain⟨K,w',f,I,R,v⟩:=run_append_own_string w 0 t u ty e i A y x j D o _ m r d ⟨l.toArray⟩ (by show m+γ l<=_;exact Q) (by show m+γ l<=_;exact S) (cH _);rw[strCells_eq]at I;have b:(⟨l.toArray⟩:ByteArray).size=γ l:=Τ;have C:∃a' cap',K=.slice a' (m+γ l) cap'/\∀p,a'=θ p->(∃q,a=θ q/\q.block=p.block)\/w.heap.size<=p.block:=by
  have B:γ r=m:=by simpa using d.1
  rcases d.2 with⟨s,O⟩|⟨g,c,G,s,_,E,U,_,F,_⟩
  ·simp at s;obtain⟨rfl,rfl,rfl⟩:=s;by_cases J:γ l=0
   ·have:=v.2 ⟨Τ,by rw[b];exact J⟩;exact⟨ι,0,by rw[this,J],λp h=>by cases h⟩
   ·have:=run_append_nil_string w t u ty e i _ A y x j ⟨l.toArray⟩ aA0 (by rw[b];omega) (by rw[o];omega);rw[this]at f;simp at f;refine⟨_,_,by rw[<-f.1,Kh,b],λp h=>.inr ?_⟩;simp at h;subst h;simp
  ·simp at s;obtain⟨rfl,-,rfl⟩:=s;by_cases k:m+γ l<=cap
   ·have:=run_append_room_string w t u ty e i A y x D g m cap G E ⟨l.toArray⟩ k (by rw[b];simp at F;omega);rw[this]at f;simp at f;refine⟨_,_,by rw[<-f.1,b],λp h=>.inl ?_⟩;simp at h;subst h;exact⟨_,Τ,Τ⟩
   ·have n:=d.cells Τ;have:=run_append_grow_string w t u ty e i _ A y x j _ m cap r (by rw[D];simpa using B) n _ (by rw[b];omega) (by rw[b];omega) (by rw[o];exact growslice_fits aA0 aA0);rw[this]at f;simp at f;refine⟨_,_,by rw[<-f.1,b],λp h=>.inr ?_⟩;simp at h;subst h;simp
 obtain⟨a',cap',rfl,N⟩:=C;exact⟨a',cap',w',f,I,R,N⟩
variable{x y:χ}{t u:ω}
theorem wT(M:Hp w0 S L w)(k:Nat)(o:ε Nat)(a:ε Γ)(cap e:Nat)(l c:aC)(E:L[k]? =θ (bM eB e 1 o a cap l))(J:P.underlying t=θ (.slice e))(v:P.underlying u=θ .string)(V:TI P e 1 1)(N:(P.info? e).bind (·.zero)=θ (.int .u8 0))
  (hx:aW n F x=.slice a (γ l) cap) (Z:aW n F y=str c) (A:(γ l+γ c)*1<=140737488355328)
  (h:∀o' a' cap' w',Hp w0 S (L.set k (bM eB e 1 o' a' cap' (l++c))) w'->W P n Ξ Q Ρ (dP F d (.slice a' (γ (l++c)) cap')) w'):
  W P n Ξ Q (⟨θ d,.call ⟨.builtin .append,#[x,y],#[t,u]⟩,ty,Ο,Ν,ι⟩::Ρ) F w:=by
 have r:=(aF.1 E).1;have I:∀U:ε Γ,Hp w0 S (L.set k (row (.slice U (γ l) cap) e 1 (γ l) (l.flatMap eB))) w->∃a' cap' w',(Builtin.append_ #[t,u] ty #[.slice U (γ l) cap,str c]).run P w=.ok (.slice a' (γ (l++c)) cap') w'/\∃o',Hp w0 S (L.set k (bM eB e 1 o' a' cap' (l++c))) w':=by intro U s;obtain⟨a',cap',w',q,ho,hg,hn⟩:=G5 t u J v V N (s.ownsRow (bF r)) c aA0;have B:=s.grown (bF r) hg ho hn;rw[YC,<-cE,<-NW]at B;obtain⟨o',f⟩:=B.Ls k (bF r);rw[YC]at f;rw[<-cE]at q;exact⟨a',cap',w',q,o',f⟩
 have go:∀a' cap' w',(Builtin.append_ #[t,u] ty #[.slice a (γ l) cap,str c]).run P w=.ok (.slice a' (γ (l++c)) cap') w'->(∃o',Hp w0 S (L.set k (bM eB e 1 o' a' cap' (l++c))) w')->
   W P n Ξ Q (⟨θ d,.call ⟨.builtin .append,#[x,y],#[t,u]⟩,ty,Ο,Ν,ι⟩::Ρ) F w:=by
  rintro a' cap' w' q ⟨o',f⟩;refine gC (w':=w') Τ Τ ?_ (h o' a' cap' w' f);simp only[ς,resolve,invoke,builtin,List.map_toArray,tR,iS,hx,Z,Sem.run_bind,Sem.run_pure,Result.andThen_ok,q]
 cases o with
 |some g=>obtain⟨a',cap',w',q,f⟩:=I a (M.DM Xb k E).2;exact go a' cap' w' q f
 |none=>
  obtain⟨h1,_⟩:=M.res _ (aI E);have R:l=[]/\cap=0:=by
   rcases h1 with⟨_,B,f,_⟩|⟨g,b0,B,_⟩
   ·exact⟨B,f⟩
   ·cases B
  obtain⟨rfl,rfl⟩:=R;have D:Hp w0 S (L.set k (row _ e 1 0 [])) w:=M.change k _ _ E Τ Τ Τ (dK _) (λ_ _ _=>rfl) ⟨aA2,.inl ⟨Τ,Τ⟩⟩ (λb A=>by simp[row,Db]at A);obtain⟨a',cap',w',q,f⟩:=I ι D;cases a with
  |none=>exact go a' cap' w' q f
  |some p=>
   obtain⟨i,z,K,Y,hs,H,X⟩:=V.parts;have C:i.zero=θ (.int .u8 0):=by rw[K]at N;simpa using N
   have m:(⟨c.toArray⟩:ByteArray).size=γ c:=Τ;by_cases hm:γ c=0
   ·have T:=qR hm;subst T;have hf:=run_firstCells_string (P:=P) w 1 ⟨#[]⟩;have O:(Builtin.firstCells 1 0 _).run P w=.ok #[] w:=hf;refine go (θ p) 0 w ?_ ⟨ι,?_⟩
    ·show(Builtin.append_ #[t,u] ty #[.slice (θ p) 0 0,.string ⟨#[]⟩]).run P w=.ok (.slice (θ p) 0 0) w;have T:(⟨#[]⟩:ByteArray).size=0:=Τ;simp[Builtin.append_,run_underlying J,run_underlying v,sizeOf,typeInfo,K,hs,Builtin.lenOf,storeCells,T,O]
    ·have e:L.set k (bM eB e 1 ι (θ p) 0 ([]++[]))=L:=by
      apply cS;intro j;by_cases G:j=k
      ·subst G;rw[bF r,E];rfl
      ·rw[Ct (λe=>G e.symm)]
     rw[e];exact M
   ·refine go a' cap' w' ?_ f;rw[<-q];have h5:=run_append_grow_string w t u ty e i _ J v K C p 0 0 [] aA2 (λj u v=>by simp at v) _ (by rw[m];omega) (by rw[m];simp at A;omega) (by rw[H];exact growslice_fits aA0 (by simp at A;omega));have h6:=run_append_nil_string w t u ty e i _ J v K C _ (by rw[m];omega) (by rw[m];simp at A;omega) (by rw[H];simp at A;omega);show(Builtin.append_ #[t,u] ty #[.slice _ 0 0,.string _]).run P w=(Builtin.append_ #[t,u] ty #[.slice ι 0 0,.string _]).run P w;rw[h5,h6];simp[strCells]
variable{e:ω}
theorem JU(p:ε Γ)(a:P.underlying t=θ (.pointer e))(hx:aW n F x=.pointer p)(b:aW n F y=.pointer ι):(ς (aW n F) (⟨θ d,.binOp .eql t x y u,ty,Ο,Ν,ι⟩)).run P w=.ok (.value (.bool p.isNone)) w:=by
 have c:P.pointee t=e:=by simp[Program.pointee,a]
 have g:=run_equal_pointer_nil w t p (by rw[c];exact a);have f:(binOp .eql t (.pointer p) (.pointer ι)).run P w=.ok (.bool p.isNone) w:=by simp only[binOp];simp[g]
 simp[ς,hx,b,eqGuard,f]
theorem B8(p:ε Γ)(b:P.underlying t=θ (.pointer e))(hx:aW n F x=.pointer p)(a:aW n F y=.pointer ι)(h:W P n Ξ Q Ρ (dP F d (.bool p.isNone)) w):W P n Ξ Q (⟨θ d,.binOp .eql t x y u,ty,Ο,Ν,ι⟩::Ρ) F w:=gC Τ Τ (JU p b hx a) h
theorem ez(a:Γ)(c:P.underlying t=θ (.pointer e))(g:(P.info? e).isSome=μ)(hx:aW n F x=.pointer (θ a))(b:aW n F y=.pointer (θ a))(h:W P n Ξ Q Ρ (dP F d (.bool ν)) w):W P n Ξ Q (⟨θ d,.binOp .neq t x y u,ty,Ο,Ν,ι⟩::Ρ) F w:=by obtain⟨j,f⟩:=CD.1 g;have i:=run_neq_ptr_same w a c f;refine gC (v:=.bool ν) (w':=w) Τ Τ ?_ h;simp[ς,hx,b,eqGuard,i]
theorem ey(v:Hp w0 S L w)(k b off s:Nat)(cs:δ ξ)(o:L[k]? =θ (aY b cs s))(l:P.underlying t=θ (.pointer e))(g:P.underlying u=θ .unsafePointer)(q:((P.info? e).map (λi=>cY i.size 0))=θ ν)(m:off<γ cs)(hx:aW n F x=.pointer (θ ⟨b,off,ι⟩))
  (h:W P n Ξ Q Ρ (dP F d (.pointer (θ ⟨b,off,ι⟩))) w):W P n Ξ Q (⟨θ d,.convert t u x,ty,Ο,Ν,ι⟩::Ρ) F w:=by
 obtain⟨j,p,a⟩:=bU.1 q;have f:j.size≠0:=λz=>by rw[z]at a;cases a
 have r:=v.dO k o;have c:w.shape? b=θ (s,γ cs):=by simp[World.shape?,r]
 have y:=run_to_unsafe w ⟨b,off,ι⟩ l g p f c m;refine gC (w':=w) Τ Τ ?_ h;simp[ς,hx,y]
theorem fa(p:Hp w0 S L w)(k b off s:Nat)(cs:δ ξ)(i:L[k]? =θ (aY b cs s))(f:P.underlying t=θ .unsafePointer)(c:P.underlying u=θ (.pointer e))(m:(P.info? e).isSome=μ)(g:liesAt P P.depth s (γ cs/P.cellsOf s) off e 1=μ)(hx:aW n F x=.pointer (θ ⟨b,off,ι⟩))
  (h:W P n Ξ Q Ρ (dP F d (.pointer (θ ⟨b,off,ι⟩))) w):W P n Ξ Q (⟨θ d,.convert t u x,ty,Ο,Ν,ι⟩::Ρ) F w:=by
 obtain⟨j,l⟩:=CD.1 m;have o:=p.dO k i;have a:w.shape? b=θ (s,γ cs):=by simp[World.shape?,o]
 have q:=run_from_unsafe w ⟨b,off,ι⟩ f c l a g;refine gC (w':=w) Τ Τ ?_ h;simp[ς,hx,q]
theorem fc{fR : Array χ}{a : Array ω}{fn : Func}(j : Hp w0 S L w)(f : FuncId)(v : ξ)(g : aW n F x = .func (.func f) #[] #[])(i : #[] ++ fR.map (aW n F) ++ #[] = #[v])(p : P.funcs[f]? = θ fn)(o : (fn.name == "runtime.NumGoroutine") = ν)(m : fn.body.isNone = μ)(l : Extern.findNext fn = ι)(k : Extern.find fn = θ Extern.AbiNoEscape.same)
  (h:∀w',Hp w0 S L w'->W P n Ξ Q Ρ (dP F d v) w'):W P n Ξ Q (⟨θ d,.call ⟨.value x,fR,a⟩,ty,Ο,Ν,ι⟩::Ρ) F w:=by
 have c:=run_callFunc_extern (P:=P) p o m l (e:=Extern.AbiNoEscape.same) k (args:= #[v]) (w:=w);rw[run_noEscape]at c;refine gC (v:=v) (w':=w) Τ Τ ?_ (h w j);simp only[ς,resolve,g,Deferred.ofValue];show Sem.run P (callFunc f (#[]++fR.map (aW n F)++ #[])) w=_;rw[i,c];rfl
end
open Go.Op renaming bytesLess → qS
open List renaming replicate → jZ
open Nat renaming blt → fI
def Ye{α:Type}(P:Β):Sem α->ε α
 |.pure a=>θ a
 |.program k=>Ye P (k P)
 |.mark _ k=>Ye P k
 |_=>ι
theorem zL{α:Type}{P:Β}:∀{s:Sem α}{a:α},Ye P s=θ a->∀w,s.run P w=.ok a w:=by
 intro s;induction s with
 |pure a=>intro b h w;simp only[Ye,bG]at h;subst h;rfl
 |program k c=>intro b h w;exact c P h w
 |mark m k c=>intro b h w;exact c h w
 |_=>intro b h;simp[Ye]at h
def EW(b:BinOp)(x y:ξ):ε ξ:=
 match x,y with
 |.string s,.string t=>
  match b with
  |.eql=>θ (.bool (decide (s.data.toList=t.data.toList)))
  |.neq=>θ (.bool (!decide (s.data.toList=t.data.toList)))
  |.lss=>θ (.bool (qS s.data.toList t.data.toList))
  |.gtr=>θ (.bool (!(qS s.data.toList t.data.toList||s.data.toList==t.data.toList)))
  |_=>ι
 |.int k a,.int k' c=>
  if k=k' then
   match b with
   |.lss=>θ (.bool (decide (a<c)))
   |.leq=>θ (.bool (decide (a<=c)))
   |.gtr=>θ (.bool (decide (c<a)))
   |.geq=>θ (.bool (decide (c<=a)))
   |.eql=>θ (.bool (decide (a=c)))
   |.neq=>θ (.bool (!decide (a=c)))
   |_=>ι
  else ι
 |_,_=>ι
def isLen:Callee->η
 |.builtin .len=>μ
 |_=>ν
def zi(P:Β)(n:Md)(F:Nat->ξ)(c:Call):ε ξ:=
 bif isLen c.callee then
  match c.args.toList with
  |[x]=>match c.argTypes.toList with
   |[t]=>match P.underlying t with
    |some .string=>match aW n F x with|.string s=>θ (.int .i64 (γ s.data.toList))|_=>ι
    |some (.slice _)=>match aW n F x with|.slice _ m _=>θ (.int .i64 m)|_=>ι
    |_=>ι
   |_=>ι
  |_=>ι
 else ι
def Sl(P:Β)(n:Md)(F:Nat->ξ)(o:Α):ε ξ:=
 match o.op with
 |.move x=>θ (aW n F x)
 |.assign x=>θ (aW n F x)
 |.pick c a b=>match aW n F c with|.bool t=>θ (bif t then aW n F a else aW n F b)|_=>ι
 |.unOp .not _ x=>match aW n F x with|.bool b=>θ (.bool (!b))|_=>ι
 |.extract x i=>match aW n F x with|.tuple d=>d[i]? |_=>ι
 |.binOp b _ x y _=>EW b (aW n F x) (aW n F y)
 |.call c=>zi P n F c
 |_=>match Ye P (ς (aW n F) o)with|some (.value v)=>θ v|_=>ι
section
variable{P:Β}{n:Md}{Ξ:Array Α}{Q:Exit->Act->ο->Prop}{F:Nat->ξ}{w:ο}
theorem HR(ρ : χ -> ξ)(a : ε Nat)(op : Op)(ty : ω)(Ο : String)(Ν : Array Edge)(g : ε (Nat × η)) : ς ρ ⟨a, op, ty, Ο, Ν, g⟩ = ς ρ ⟨θ 0, op, ty, "", #[], ι⟩ := rfl
variable{t:ω}{i:ε Nat}{e:String}{d:Array Edge}{g:ε (Nat×η)}{v:ξ}
theorem N3{b:BinOp}{t':ω}{x y:χ}{ty:ω}(h:EW b (aW n F x) (aW n F y)=θ v)(w:ο):
  (ς (aW n F) (⟨i,.binOp b t x y t',ty,e,d,g⟩)).run P w=.ok (.value v) w:=by
 rw[HR];generalize hx:aW n F x=a at h;generalize f:aW n F y=c at h;cases a with
 |string s=>
  cases c with
  |string t2=>
   have p:=hx;have m:=f;cases b<;>simp only[EW,bG,reduceCtorEq]at h<;>subst h
   ·exact OD _ _ p m
   ·exact OA _ _ p m
   ·exact OB _ _ p m
   ·exact OC _ _ p m
  |_=>simp[EW]at h
 |int k a=>
  cases c with
  |int k' c=>
   by_cases j:k=k'
   ·subst j;cases b<;>simp only[EW,eW,bG,reduceCtorEq]at h<;>subst h
    ·exact A0 k _ _ hx f
    ·exact ZR k _ _ hx f
    ·exact ZT k _ _ hx f
    ·exact ZU k _ _ hx f
    ·exact ZY k _ _ hx f
    ·exact ZZ k _ _ hx f
   ·simp[EW,j]at h
  |_=>simp[EW]at h
 |_=>simp[EW]at h
theorem M7{c:Call}(h:zi P n F c=θ v)(w:ο):
  (ς (aW n F) (⟨i,.call c,t,e,d,g⟩:Α)).run P w=.ok (.value v) w:=by
 rw[HR];obtain⟨cl,fR,j⟩:=c;unfold zi at h;cases b:isLen cl with
 |false=>rw[b]at h;cases h
 |true=>
  obtain rfl:cl=.builtin .len:=by
   unfold isLen at b;split at b
   ·rfl
   ·cases b
  rw[b]at h;simp only[aM]at h;obtain⟨fR⟩:=fR;obtain⟨j⟩:=j
  match fR,j,h with
  |[x],[q],h=>
   dsimp only at h;split at h
   ·rename_i f;split at h
    ·rename_i s hx;cases h;exact sp s.data.toList f hx
    ·cases h
   ·rename_i p f;split at h
    ·rename_i a m c hx;cases h;exact Xs a m c p f hx
    ·cases h
   ·cases h
  |[],_,h=>cases h
  |[_],[],h=>cases h
  |[_],_::_::_,h=>cases h
  |_::_::_,_,h=>cases h
variable{o:Α}
theorem Aa(h:Sl P n F o=θ v)(w:ο):(ς (aW n F) o).run P w=.ok (.value v) w:=by
 obtain⟨i,op,ty,Ο,Ν,g⟩:=o;unfold Sl at h;dsimp only at h;split at h
 ·cases h;rfl
 ·cases h;rfl
 ·rename_i c a b;rw[HR];split at h
  ·rename_i t f;cases h;exact ZP t _ f Τ
  ·cases h
 ·rw[HR];split at h
  ·rename_i b hx;cases h;exact ZQ b hx
  ·cases h
 ·rw[HR];split at h
  ·rename_i d hx;exact Tx d v hx h
  ·cases h
 ·exact N3 h w
 ·exact M7 h w
 ·split at h
  ·rename_i j e;cases h;exact zL e w
  ·cases h
def gof(Ξ:Array Α)(g:Nat):ε Nat:=(Ξ[g]?).bind (·.dst)
def jv(P:Β)(n:Md)(Ξ:Array Α)(F:Nat->ξ)(o:Α):ξ:=
 match o.guard with
 |none=>(Sl P n F o).getD undef
 |some (g,b)=>match gof Ξ g with
  |none=>undef
  |some dg=>match F dg with
   |.bool c=>bif c==b then(Sl P n F o).getD undef else undef
   |_=>undef
def Ig(P:Β)(n:Md)(Ξ:Array Α)(F:Nat->ξ)(o:Α):Nat->ξ:=
 match o.dst with
 |none=>F
 |some d=>dP F d (jv P n Ξ F o)
def Bk:ξ->η
 |.tuple a=>a.toList.isEmpty
 |_=>ν
theorem Ov(h:Bk v=μ):v=undef:=by
 unfold Bk at h;split at h
 ·rename_i b;obtain⟨l⟩:=b;cases l with
  |nil=>rfl
  |cons a l=>cases h
 ·cases h
def YS(P:Β)(n:Md)(Ξ:Array Α)(F:Nat->ξ)(o:Α):η:=
 match o.dst with
 |none=>ν
 |some d=>match o.guard with
  |none=>(Sl P n F o).isSome
  |some (g,b)=>match gof Ξ g with
   |none=>ν
   |some dg=>fI dg n.n&&match F dg with
    |.bool c=>bif c==b then(Sl P n F o).isSome else μ
    |v=>Bk v
def pF(P:Β)(n:Md)(Ξ:Array Α):Nat->δ Α->(Nat->ξ)->Nat->ξ
 |0,_,F=>F
 |_+1,[],F=>F
 |m+1,o::l,F=>pF P n Ξ m l (Ig P n Ξ F o)
def pOK(P:Β)(n:Md)(Ξ:Array Α):Nat->δ Α->(Nat->ξ)->η
 |0,_,_=>μ
 |_+1,[],_=>ν
 |m+1,o::l,F=>YS P n Ξ F o&&pOK P n Ξ m l (Ig P n Ξ F o)
variable{l:δ Α}
theorem w_pok(a:YS P n Ξ F o=μ)(h:W P n Ξ Q l (Ig P n Ξ F o) w):W P n Ξ Q (o::l) F w:=by
 obtain⟨k,op,ty,Ο,Ν,gd⟩:=o;cases k with
 |none=>simp[YS]at a
 |some d=>
  cases gd with
  |none=>
   simp only[YS]at a;cases e:Sl P n F _ with
   |none=>rw[e]at a;cases a
   |some v=>simp only[Ig,jv,e]at h;exact gC Τ Τ (Aa e w) h
  |some q=>
   obtain⟨g,b⟩:=q;simp only[YS]at a;cases i:gof Ξ g with
   |none=>rw[i]at a;cases a
   |some dg=>
    rw[i]at a;simp only[lX]at a;simp only[Ig,jv,i]at h;cases j:F dg with
    |bool c=>
     rw[j]at a h;cases s:c==b with
     |true=>
      have f:c=b:=by simpa using s
      subst f;simp only[s]at a h;cases e:Sl P n F _ with
      |none=>rw[e]at a;exact absurd a.2 aA2
      |some v=>rw[e]at h;exact JY dg i a.1 j (gC Τ Τ (Aa e w) h)
     |false=>
      have f:c= !b:=by cases c<;>cases b<;>simp_all
      subst f;simp at h;exact tf dg i a.1 j h
    |tuple r=>
     rw[j]at a h;have m:F dg=undef:=by rw[j];have p:=a.2;exact Ov p
     exact te dg i a.1 m h
    |_=>rw[j]at a;exact absurd a.2 (by simp[Bk])
theorem B3:∀m l F,pOK P n Ξ m l F=μ->W P n Ξ Q (l.drop m) (pF P n Ξ m l F) w->W P n Ξ Q l F w
 |0,l,F,_,h=>h
 |m+1,[],F,a,_=>by simp[pOK]at a
 |m+1,o::l,F,a,h=>by simp only[pOK,lX]at a;exact w_pok a.1 (B3 m l _ a.2 h)
theorem wp(m:Nat)(h:W P n Ξ Q (l.drop m) (pF P n Ξ m l F) w)(a:pOK P n Ξ m l F=μ:=by kernel_rfl):W P n Ξ Q l F w:=B3 m l F a h
variable{b:Nat}{c:δ Deferred}
theorem se(a:YS P ⟨b,c,ι⟩ Ξ F o=μ):YieldsIf P Ξ (λ_=>True) o (jv P ⟨b,c,ι⟩ Ξ F o) (fr ⟨b,c,ι⟩ F):=by
 obtain⟨l,op,ty,Ο,Ν,gd⟩:=o;cases l with
 |none=>simp[YS]at a
 |some d=>
  cases gd with
  |none=>
   simp only[YS]at a;cases f:Sl P _ F _ with
   |none=>rw[f]at a;cases a
   |some v=>simp only[jv,f];exact qU Τ λw _=>Aa f w
  |some q=>
   obtain⟨g,k⟩:=q;simp only[YS]at a;cases h:gof Ξ g with
   |none=>rw[h]at a;cases a
   |some dg=>
    rw[h]at a;simp only[lX]at a;simp only[jv,h];cases i:F dg with
    |bool j=>
     rw[i]at a;cases m:j==k with
     |true=>
      have e:j=k:=by simpa using m
      subst e;simp only[m]at a⊢;cases f:Sl P _ F _ with
      |none=>rw[f]at a;exact absurd a.2 aA2
      |some v=>exact oG dg h a.1 i λw _=>Aa f w
     |false=>
      have e:j= !k:=by cases j<;>cases k<;>simp_all
      subst e;simp;exact y_gno dg h a.1 i
    |tuple r=>
     rw[i]at a;have p:=a.2;have n:F dg=undef:=by rw[i];exact Ov p
     exact y_gun dg h a.1 n
    |_=>rw[i]at a;exact absurd a.2 (by simp[Bk])
def rF(P:Β)(n:Md)(Ξ:Array Α):δ Nat->(Nat->ξ)->Nat->ξ
 |[],F=>F
 |i::a,F=>rF P n Ξ a (match Ξ[i]? with|some o=>Ig P n Ξ F o|none=>F)
def rL:δ Nat->δ η->δ η
 |[],l=>l
 |i::a,l=>rL a (l.set i μ)
def zb(P:Β)(n:Md)(Ξ:Array Α)(k:Nat):δ Nat->δ η->(Nat->ξ)->η
 |[],_,_=>μ
 |i::a,l,F=>(match Ξ[i]? with|some o=>YS P n Ξ F o|none=>ν)&&Region.free .any Ξ l.toArray i&&(Ζ .any Ξ l.toArray).contains i&&fI i k&&
   zb P n Ξ k a (l.set i μ) (match Ξ[i]? with|some o=>Ig P n Ξ F o|none=>F)
theorem H3{a:Nat}{b:δ Deferred}{S:Nat->ο->ο->Prop}{k f':Nat}(n:Fy Ξ k=μ):∀c l F,zb P ⟨a,b,ι⟩ Ξ k c l F=μ->
  R P ⟨a,b,ι⟩ Ξ Q S k f' (rL c l) (rF P ⟨a,b,ι⟩ Ξ c F) w->R P ⟨a,b,ι⟩ Ξ Q S k (f'+γ c) l F w
 |[],l,F,_,h=>h
 |i::c,l,F,g,h=>by
  simp only[zb,lX]at g;obtain⟨⟨⟨⟨j,s⟩,r⟩,q⟩,p⟩:=g;cases m:Ξ[i]? with
  |none=>rw[m]at j;cases j
  |some o=>
   rw[m]at j p;simp only[rL,rF,m]at h;have f:∃d,o.dst=θ d:=by
    cases f:o.dst with
    |none=>simp[YS,f]at j
    |some d=>exact⟨d,Τ⟩
   obtain⟨d,f⟩:=f;have e:Ig P ⟨a,b,ι⟩ Ξ F o=dP F d (jv P ⟨a,b,ι⟩ Ξ F o):=by simp[Ig,f]
   refine K9 _ i d _ o m f n s r q Τ (se j) ?_;rw[<-e];exact H3 n c _ _ p h
variable{S:Nat->ο->ο->Prop}{k f:Nat}{a:δ η}
theorem rp(f':Nat)(l:δ Nat)(h:R P ⟨b,c,ι⟩ Ξ Q S k f' (rL l a) (rF P ⟨b,c,ι⟩ Ξ l F) w)
  (g:f=f'+γ l:=by kernel_rfl) (e:Fy Ξ k=μ:=by kernel_rfl) (d:zb P ⟨b,c,ι⟩ Ξ k l a F=μ:=by kernel_rfl):R P ⟨b,c,ι⟩ Ξ Q S k f a F w:=by
 subst g;exact H3 e l a F d h
theorem rt{d:Nat}(i:Nat)(v:ξ)(n:Ξ[i]? =θ o)(p:o.dst=θ d)(g:YieldsIf P Ξ (λ_=>True) o v (fr ⟨b,c,ι⟩ F))
  (h:R P ⟨b,c,ι⟩ Ξ Q S k f (a.set i μ) (dP F d v) w) (j:Fy Ξ k=μ:=by kernel_rfl) (l:Region.free .any Ξ a.toArray i=μ:=by kernel_rfl)
  (m:(Ζ .any Ξ a.toArray).contains i=μ:=by kernel_rfl) (e:fI i k=μ:=by kernel_rfl):R P ⟨b,c,ι⟩ Ξ Q S k (f+1) a F w:=K9 _ i d v o n p j l m e Τ g h
theorem ro(i:Nat)(e:Ξ[i]? =θ o)(h:W P ⟨b,c,ι⟩ Ξ (RK P ⟨b,c,ι⟩ Ξ Q S k f (a.set i μ) i w) [o] F w)
  (d:Ζ .any Ξ a.toArray=[i]:=by kernel_rfl) (l:fI i k=μ:=by kernel_rfl):R P ⟨b,c,ι⟩ Ξ Q S k (f+1) a F w:=L0 _ i o e d l Τ h
theorem cdr{w0:ο}{S0:δ Nat}{L:δ cF}(j:Nat)(f:Hp w0 S0 L w)(e:IX Q)
  (h:∀w',Hp w0 S0 L w'->R P ⟨b,c,ι⟩ l.toArray Q (λ_ _ _=>True) j j (jZ (γ l) ν) F w') (d:P.follows .mixedOrders=μ:=by kernel_rfl) (a:Fy l.toArray j=μ:=by kernel_rfl):
  C P ⟨b,c,ι⟩ Q (.region k l.toArray μ) F w:=YX j _ _ (λ_ _=>trivial) d a f Τ e h
section
variable{α:Type}{c:χ}{x y:Code}{p:Prop}{ip:Decidable p}{a b r:α}{t:η}
theorem cd(d:(if p then a else b)=r)(e:p->a=r->C P n Q x F w)(f:¬p->b=r->C P n Q y F w)(g:aW n F c=.bool (decide p):=by kernel_rfl):C P n Q (.cond c x y) F w:=
 c_dec g (λh=>e h (LX h d)) (λh=>f h (LY h d))
theorem cn(d:(if p then a else b)=r)(e:¬p->b=r->C P n Q x F w)(f:p->a=r->C P n Q y F w)(g:aW n F c=.bool (!decide p):=by kernel_rfl):C P n Q (.cond c x y) F w:=
 c_ndec g (λh=>e h (LY h d)) (λh=>f h (LX h d))
theorem cb(d:cond t a b=r)(e:t=μ->a=r->C P n Q x F w)(f:t=ν->b=r->C P n Q y F w)(g:aW n F c=.bool t:=by kernel_rfl):C P n Q (.cond c x y) F w:=
 tD g (λh=>e h (cft h d)) (λh=>f h (cff h d))
variable{d:Nat}{ty:ω}{Ο:String}{Ν:Array Edge}{Ρ:δ Α}{o:χ}
theorem wd(c:(if p then a else b)=r)(e:p->a=r->W P n Ξ Q Ρ (dP F d (.bool μ)) w)(f:¬p->b=r->W P n Ξ Q Ρ (dP F d (.bool ν)) w)(g:aW n F o=.bool (decide p):=by kernel_rfl):W P n Ξ Q (⟨θ d,.move o,ty,Ο,Ν,ι⟩::Ρ) F w:=
 JX p g (λh=>e h (LX h c)) (λh=>f h (LY h c))
theorem wb(c:cond t a b=r)(e:t=μ->a=r->W P n Ξ Q Ρ (dP F d (.bool μ)) w)(f:t=ν->b=r->W P n Ξ Q Ρ (dP F d (.bool ν)) w)(g:aW n F o=.bool t:=by kernel_rfl):W P n Ξ Q (⟨θ d,.move o,ty,Ο,Ν,ι⟩::Ρ) F w:=
 Gp t g (λh=>e h (cft h c)) (λh=>f h (cff h c))
end
variable{x:Code}{a:ο}{S:δ Nat}{R:δ cF}
theorem nS{y:Code}(j:Hp a S R w)(b:δ Nat)(L:δ (Nat×ξ))
  (hx:C P n (Exit.then (λa' w'=>∃c,a'=fr n c/\b.map c=b.map (app L F)/\Hp a S R w') Q) x F w)
  (d:∀w G,Hp a S R w->C P n Q y (Bh b (app L F) G) w):C P n Q (.seq x y) F w:=
 cut (σ:=Unit) b (λ_=>L) (λ_ w'=>Hp a S R w') (BQ hx λe m w' h=>by
  cases e with
  |normal=>obtain⟨c,i,g,f⟩:=h;exact⟨(),c,i,g,f⟩
  |exit id=>exact h
  |goto l=>exact h
  |ret=>exact h
  |panic k=>exact h
  |outgrown=>exact h) (λ_ w G h=>d w G h)
variable{f:ο}{b:δ Nat}{A d:Nat->ξ}
theorem je(e:Hp a S R f)(h:b.map d=b.map A:=by kernel_rfl):∃c,fr n d=fr n c/\b.map c=b.map A/\Hp a S R f:=⟨_,Τ,h,e⟩
variable{c e:Type}
theorem Z9{y:Code}(d:Hp a S R w)(j:c⊕e)(σ:δ Nat)(L:c->δ (Nat×ξ))
  (hx:C P n (Exit.then (λa' w'=>∃s' b,a'=fr n b/\σ.map b=σ.map (app (L s') F)/\Hp a S R w'/\j=.inl s') Q) x F w)
  (ρ:∀s w G,Hp a S R w->j=.inl s->C P n Q y (Bh σ (app (L s) F) G) w):C P n Q (.seq x y) F w:=
 cut σ L _ hx (λs w G h=>ρ s w G h.1 h.2)
variable{L:c->δ (Nat×ξ)}
theorem je1{j:c⊕e}{s:c}(σ:j=.inl s)(g:Hp a S R f)(h:b.map d=b.map (app (L s) A):=by kernel_rfl):
  ∃s' ρ,fr n d=fr n ρ/\b.map ρ=b.map (app (L s') A)/\Hp a S R f/\j=.inl s':=⟨s,_,Τ,h,g,σ⟩
variable{t:Nat}
theorem mc(h:A t=d t)(b:S.map A=S.map d):(t::S).map A=(t::S).map d:=by simp[h,b]
theorem P3{r:e}(g:Nat->c->ε e)(j:c)(o:Hp a S R w)(m:g t j=θ r)(d:δ Nat)(L:c->δ (Nat×ξ))(u:∀s,g 0 s=ι)
  (round:∀b s w G,Hp a S R w->g (b+1) s=θ r->C P n (Exit.then (λa' w'=>∃s' i,a'=fr n i/\d.map i=d.map (app (L s') F)/\Hp a S R w'/\g b s'=θ r) Q) x (Bh d (app (L s) F) G) w)
  (y:d.map F=d.map (app (L j) F):=by kernel_rfl):C P n Q (.loop x) F w:=by
 refine FK (σ:=Nat×c) d (λs=>L s.2) (λs w'=>Hp a S R w'/\g s.1 s.2=θ r) (λs=>s.1) (t,j) ⟨o,m⟩ (λs w G h=> ?_) y;obtain⟨b,s⟩:=s;obtain⟨k,f⟩:=h;cases b with
 |zero=>rw[u]at f;cases f
 |succ b=>
  refine BQ (round b s w G k f) λτ ρ w' h=> ?_;cases τ with
  |normal=>obtain⟨s',i,k,f,q,p⟩:=h;exact⟨(b,s'),i,k,f,⟨q,p⟩,Cu _⟩
  |exit id=>exact h
  |goto l=>exact h
  |ret=>exact h
  |panic v=>exact h
  |outgrown=>exact h
theorem le'{r:e}{g:c->ε e}(s:c)(i:Hp a S R f)(ρ:g s=θ r)(h:b.map d=b.map (app (L s) A):=by kernel_rfl):
  ∃s' τ,fr n d=fr n τ/\b.map τ=b.map (app (L s') A)/\Hp a S R f/\g s'=θ r:=⟨s,_,Τ,h,i,ρ⟩
theorem Hp.kp{w:ο}{L1:δ cF}(h:Hp a S R w)(L:R.take (γ L1)=L1:=by kernel_rfl):Hp a S L1 w:=h.sub (by rw[<-L];exact List.take_sublist _ _)
theorem oi{a b:c}(h:θ a=θ b):a=b:=aP h
section
variable{d:Nat}{ty:ω}{Ο:String}{Ν:Array Edge}{Ρ:δ Α}{w0:ο}{S:δ Nat}{L:δ cF}
theorem wc{b:χ}{fR:Array χ}{a:Array ω}{f:FuncId}{vs:δ ξ}{V:ξ}(k:Enters P f)(j:Hp w0 S L w)(g:CR P f vs w λv w'=>v=V/\Hp w [] [] w')
  (h:∀w',Hp w0 S L w'->W P n Ξ Q Ρ (dP F d V) w') (e:aW n F b=.func (.func f) #[] #[]:=by kernel_rfl) (i: #[]++fR.map (aW n F)++ #[]=vs.toArray:=by kernel_rfl):
  W P n Ξ Q (⟨θ d,.call ⟨.value b,fR,a⟩,ty,Ο,Ν,ι⟩::Ρ) F w:=by
 refine vC f #[] vs _ k e i g ?_;rintro _ w' ⟨rfl,c⟩;exact h w' (j.call c)
end
def rone(n:Md)(F:Nat->ξ):ResultVar->ξ
 |.tmp t=>aW n F (.tmp t)
 |.cell _ _=>undef
def yo(n:Md)(F:Nat->ξ)(fn:Func):ξ:=
 match fn.results.toList.map (rone n F)with
 |[u]=>u
 |a=>.tuple a.toArray
def NG(fn:Func):η:=fn.results.toList.all λ|.tmp _=>μ|.cell _ _=>ν
variable{k:Nat}{a:ε (ε Nat)}{b:Func}
theorem yn(h:NG b=μ):(results b (fr ⟨k,[],a⟩ F).tmps).run P w=.ok (yo ⟨k,[],a⟩ F b) w:=by
 have key:∀j:δ ξ,j=b.results.toList.map (rone ⟨k,[],ι⟩ F)->(results b (fr ⟨k,[],ι⟩ F).tmps).run P w=.ok (match j with|[u]=>u|f=>.tuple f.toArray) w:=by
  intro j e;refine rN b.results.toList j Τ (by simp[e]) ?_ _ (by cases j with|nil=>rfl|cons c fR=>cases fR<;>rfl);intro i x v hx d;subst e;simp only[bD,hx,cy,bG]at d;have:=aT.1 h x (aI hx);cases x with
  |tmp t=>exact qN d
  |cell c t=>cases this
 exact key _ Τ
theorem rx{R:ξ->ο->Prop}(h:R (yo ⟨k,[],a⟩ F b) w)(d:NG b=μ:=by kernel_rfl):
  bodyPost P b (λe w'=>∃v,e=.returned v/\R v w') .ret (fr ⟨k,[],a⟩ F) w:=⟨Τ,_,yn d,_,Τ,h⟩
theorem rv{V:ξ}{w0:ο}{S:δ Nat}{L:δ cF}(h:Hp w0 S L w)(d:yo ⟨k,[],a⟩ F b=V:=by kernel_rfl)(c:NG b=μ:=by kernel_rfl):
  bodyPost P b (λe w'=>∃v,e=.returned v/\v=V/\Hp w0 S L w') .ret (fr ⟨k,[],a⟩ F) w:=rx ⟨d,h⟩ c
variable{c:Type}{g:Prop}{o:ε c}
theorem bi{α:Type}{f:c->ε α}{r:α}(h:o.bind f=θ r)(k:∀y,o=θ y->f y=θ r->g):g:=let ⟨y,a,b⟩:=Cc h;k y a b
theorem gi{ip:Decidable g}{r:c}{p:Prop}(h:gd g o=θ r)(k:g->o=θ r->p):p:=let ⟨a,b⟩:=V6 h;k a b
variable{y:Code}
theorem cs{x:Code}(h:C P n (Ga P n x Q) y F w):C P n Q (.seq y x) F w:=BR h
variable{l:δ Α}
theorem cr(h:W P n l.toArray Q l F w):C P n Q (.region k l.toArray ν) F w:=MZ h
theorem wl(h:Q .normal (fr n F) w):W P n Ξ Q [] F w:=jO h
theorem qn{k':Nat}{D d:δ Deferred}(h:C P ⟨k,D,a⟩ Q y F w):Ga P ⟨k',d,a⟩ y Q .normal (fr ⟨k,D,a⟩ F) w:=JM h
theorem ct(h:Q .ret (fr n F) w):C P n Q .ret F w:=Wy h
theorem ck(h:Q .normal (fr n F) w):C P n Q .skip F w:=Qg h
theorem ce(h:C P n (Exit.inBlock k Q) y F w):C P n Q (.block k y) F w:=SH h
theorem ql{K:Act->ο->Prop}(h:K (fr n F) w):Exit.then K Q .normal (fr n F) w:=h
theorem st{m:Md}(h:Q .ret (fr n F) w):Ga P m y Q .ret (fr n F) w:=DL h
theorem iD(h:Q .ret (fr n F) w):Exit.inBlock k Q .ret (fr n F) w:=h
theorem bn(h:Q .normal (fr n F) w):Exit.inBlock k Q .normal (fr n F) w:=h
theorem gy{a:ε Nat}{op:Op}{ty:ω}{Ο:String}{Ν:Array Edge}{b:η}(dg:Nat)(h:W P n Ξ Q (⟨a,op,ty,Ο,Ν,ι⟩::l) F w)
  (e:(Ξ[k]?).bind (·.dst)=θ dg:=by kernel_rfl) (d:fI dg n.n=μ:=by kernel_rfl) (c:F dg=.bool b:=by kernel_rfl):W P n Ξ Q (⟨a,op,ty,Ο,Ν,θ (k,b)⟩::l) F w:=JY dg e d c h
theorem sr(h:W P n l.toArray (Ga P n y Q) l F w):C P n Q (.seq (.region k l.toArray ν) y) F w:=BR (MZ h)
theorem nq{k':Nat}{D d:δ Deferred}(h:C P ⟨k,D,a⟩ Q y F w):W P ⟨k,D,a⟩ Ξ (Ga P ⟨k',d,a⟩ y Q) [] F w:=jO (JM h)
end
open Go
open List renaming replicate → jZ
open Nat renaming blt → fI
section
variable{P:Β}{kn:Nat}{kD:δ Deferred}{ro:ε (ε Nat)}{Ξ:Array Α}{Q:Exit->Act->ο->Prop}{S:Nat->ο->ο->Prop}{F:Nat->ξ}{w:ο}
@[reducible] def NP (Q:Exit->Act->ο->Prop):Exit->Act->ο->Prop:=λe a w=>match e with|.panic _=>False|e=>Q e a w
theorem tx:IX (NP Q):=λ_ _ _ h=>h
variable{b:ο}{L:δ cF}
theorem Hp.blkeq{S:δ Nat}(h:Hp b S L w)(k m:Nat)(cs a:δ ξ)(e:ω)(d:L[k]? =θ (aY m cs e))(g:cs=a):Hp b S (L.set k (aY m a e)) w:=by
 subst g;have c:k<γ L:=(aF.1 d).1;have j:L.set k (aY m cs e)=L:=by
  apply cS;intro i;rw[eT];by_cases f:k=i
  ·subst f;rw[d];simp[c]
  ·simp[f]
 rw[j];exact h
theorem Vl{a:Act}(h:Q .normal a w):NP Q .normal a w:=h
theorem c_np{n:Md}{c:Code}(h:C P n (NP Q) c F w):C P n Q c F w:=BQ h λe a w b=>by
 cases e with
 |panic c=>exact b.elim
 |_=>exact b
def nodB(l:δ Α):η:=l.all λo=>match o.op with|.defer _=>ν|_=>μ
variable{a:δ Α}
theorem zu(h:nodB a=μ):NoD a.toArray:=by intro j o c d l;have b:=aT.1 h o (by have:=aI (show a[j]? =θ o by simpa using d);simpa using this);rw[l]at b;cases b
variable{k:Nat}
theorem Wz{S0:δ Nat}(i:Nat)(S:Nat->ο->ο->Prop)(listed:δ η)(l:∀j w,S j w w)(c:P.follows .mixedOrders=μ)(m:Fy a.toArray i=μ)
  (f:Hp b S0 L w) (d:jZ (γ a) ν=listed) (e:IX Q) (h:∀w',Hp b S0 L w'->RO P ⟨kn,kD,ro⟩ a.toArray Q S i i listed F w') (g:nodB a=μ:=by kernel_rfl):C P ⟨kn,kD,ro⟩ Q (.region k a.toArray μ) F w:=
 z6 i S listed l c m f d e (λ_=>zu g) h
variable{f:Nat}{l:δ η}{o:Α}
theorem rtO{d:Nat}(i:Nat)(v:ξ)(j:Ξ[i]? =θ o)(m:o.dst=θ d)(c:YieldsIf P Ξ (λ_=>True) o v (fr ⟨kn,kD,ro⟩ F))
  (h:RO P ⟨kn,kD,ro⟩ Ξ Q S k f (l.set i μ) (dP F d v) w) (e:Fy Ξ k=μ:=by kernel_rfl) (a:Region.free .any Ξ l.toArray i=μ:=by kernel_rfl)
  (g:(Ζ .any Ξ l.toArray).contains i=μ:=by kernel_rfl) (b:fI i k=μ:=by kernel_rfl):RO P ⟨kn,kD,ro⟩ Ξ Q S k (f+1) l F w:=QC _ i d v o j m e a g b Τ c h
theorem roO(i:Nat)(c:Ξ[i]? =θ o)(h:W P ⟨kn,kD,ro⟩ Ξ (RKO P ⟨kn,kD,ro⟩ Ξ Q S k f (l.set i μ) i w) [o] F w)
  (b:Ζ .any Ξ l.toArray=[i]:=by kernel_rfl) (a:fI i k=μ:=by kernel_rfl):RO P ⟨kn,kD,ro⟩ Ξ Q S k (f+1) l F w:=jo _ i o c b a Τ h
theorem PB{k f':Nat}(j:Fy Ξ k=μ):∀(a:δ Nat) (l:δ η) (F:Nat->ξ),zb P ⟨kn,kD,ι⟩ Ξ k a l F=μ->
  RO P ⟨kn,kD,ro⟩ Ξ Q S k f' (rL a l) (rF P ⟨kn,kD,ι⟩ Ξ a F) w->RO P ⟨kn,kD,ro⟩ Ξ Q S k (f'+γ a) l F w
 |[],l,F,_,h=>h
 |i::a,l,F,c,h=>by
  simp only[zb,lX]at c;obtain⟨⟨⟨⟨f,q⟩,p⟩,n⟩,m⟩:=c;cases g:Ξ[i]? with
  |none=>rw[g]at f;cases f
  |some o=>
   rw[g]at f m;simp only[rL,rF,g]at h;have b:∃d,o.dst=θ d:=by
    cases b:o.dst with
    |none=>simp[YS,b]at f
    |some d=>exact⟨d,Τ⟩
   obtain⟨d,b⟩:=b;have e:Ig P ⟨kn,kD,ι⟩ Ξ F o=dP F d (jv P ⟨kn,kD,ι⟩ Ξ F o):=by simp[Ig,b]
   refine QC _ i d (jv P ⟨kn,kD,ι⟩ Ξ F o) o g b j q p n Τ (se f) ?_;rw[<-e];exact PB j a (l.set i μ) (Ig P ⟨kn,kD,ι⟩ Ξ F o) m h
theorem rpO(f':Nat)(a:δ Nat)(h:RO P ⟨kn,kD,ro⟩ Ξ Q S k f' (rL a l) (rF P ⟨kn,kD,ι⟩ Ξ a F) w)
  (d:f=f'+γ a:=by kernel_rfl) (c:Fy Ξ k=μ:=by kernel_rfl) (b:zb P ⟨kn,kD,ι⟩ Ξ k a l F=μ:=by kernel_rfl):RO P ⟨kn,kD,ro⟩ Ξ Q S k f l F w:=by
 subst d;exact PB c a l F b h
end
open Go
def YT(b:Nat)(l:δ Int):cF:=
 ⟨θ b,λo=>∃a clock,o=θ (.map a clock)/\a.toList.map (·.key)=l.map (Δ .i64)/\∀e∈a.toList,e.val=.bool μ⟩
theorem Hm(n:Int):∀(b:δ MapEntry) (l:δ Int) (i:Nat),b.map (·.key)=l.map (Δ .i64)->(∀e∈b,e.val=.bool μ)->
  ∃j,Instr.findNow (.int .i64) (.int .i64 n) b i=θ (if n∈l then θ (i+j,.bool μ)else ι)/\(n∈l->l[j]? =θ n)
 |[],[],i,_,_=>⟨0,by simp[Instr.findNow]⟩
 |[],_::_,i,h,_=>by cases h
 |_::_,[],i,h,_=>by cases h
 |e::b,m::l,i,h,d=>by
  simp only[tR,TG]at h;obtain⟨f,o⟩:=h;obtain⟨j,g,c⟩:=Hm n b l (i+1) o λe k=>d e (by simp[k]);by_cases a:n=m
  ·subst a;refine⟨0,?_,λ_=>rfl⟩;simp[Instr.findNow,Instr.sameNow,f,d e aA2]
  ·refine⟨j+1,?_,λh=>by simpa [a] using c (by simpa [a] using h)⟩;simp only[Instr.findNow,Instr.sameNow,f,eW,aQ,a,false_or];have:(n==m)=ν:=by simp[a]
   simp only[this,g];split
   ·simp;omega
   ·rfl
section
variable{P:Β}{n:Md}{Ξ:Array Α}{Q:Exit->Act->ο->Prop}{F:Nat->ξ}{w w0:ο}{S:δ Nat}{L:δ cF}
variable{d:Nat}{ty:ω}{Ο:String}{Ν:Array Edge}{Ρ:δ Α}
variable{t:ω}
theorem fe(a:Hp w0 S L w)(h:∀b w',Hp w0 S (YT b []::L) w'->W P n Ξ Q Ρ (dP F d (.map (θ b))) w'):W P n Ξ Q (⟨θ d,.makeMap t ι,ty,Ο,Ν,ι⟩::Ρ) F w:=by refine gC (w':=w.alloc (.map #[] 0)) Τ Τ ?_ (h w.heap.size _ (a.BW _ _ Τ ⟨#[],0,Τ,Τ,aA2⟩));simp[ς,Instr.makeMap]
theorem Nb(a:P.underlying t=θ (.int .i64))(m:Int)(b:η):(Instr.checkKey b 10000 t (.int .i64 m)).run P w=.ok () w:=by
 have key:∀i,(Instr.checkKey b (i+1) t (.int .i64 m)).run P w=.ok () w:=λi=>by simp[Instr.checkKey,run_underlying a]
 exact key 9999
theorem FH(d:P.underlying t=θ (.int .i64)){b:Nat}{a:Array MapEntry}{l:δ Int}(m:Int)(h:a.toList.map (·.key)=l.map (Δ .i64))(g:∀e∈a.toList,e.val=.bool μ):
  ∃j,(Instr.findKey t (.int .i64 m) a.toList).run P w=.ok (if m∈l then θ (j,.bool μ)else ι) w/\(m∈l->l[j]? =θ m):=by
 obtain⟨j,f,c⟩:=Hm m a.toList l 0 h g;refine⟨j,?_,c⟩;unfold Instr.findKey;simp[run_underlying d,f]
theorem xo{k e:ω}{x i:χ}(u:Hp w0 S L w)(q b:Nat)(l:δ Int)(m:Int)(s:L[q]? =θ (YT b l))(o:P.underlying t=θ (.map k e))(g:P.underlying k=θ (.int .i64))(r:(zeroValue e).run P w=.ok (.bool ν) w)
  (hx:aW n F x=.map (θ b)) (p:aW n F i=.int .i64 m) (h:W P n Ξ Q Ρ (dP F d (.bool (decide (m∈l)))) w):W P n Ξ Q (⟨θ d,.lookup t x i ν,ty,Ο,Ν,ι⟩::Ρ) F w:=by
 obtain⟨A,clock,z,y,v⟩:=(u.res _ (aI s)).1;have a:(getObj b).run P w=.ok (.map A clock) w:=by have:w.heap[b]? =θ _:=z;simp[getObj,Sem.run,this]
 obtain⟨j,f,_⟩:=FH (w:=w) g (b:=b) m y v;refine gC (w':=w) Τ Τ ?_ h;by_cases c:m∈l
 ·simp only[c]at f;simp[ς,hx,p,Instr.lookup,run_underlying o,a,Nb g,f,c]
 ·simp only[c]at f;simp[ς,hx,p,Instr.lookup,run_underlying o,a,Nb g,f,c,r]
end
open Go.Value renaming ownBlock → Db
open List renaming replicate → jZ
theorem HN{α:Type}(f:α->δ ξ)(sz:Nat)(z:α)(a:γ (f z)=sz):∀(n j:Nat),j<n*sz->((jZ n z).flatMap f)[j]? =(f z)[j%sz]?
 |0,j,h=>by simp at h
 |n+1,j,h=>by
  rw[List.replicate_succ,Rw];by_cases b:j<sz
  ·rw[aJ aA0,IZ b]
  ·rw[aO aA0,a,HN f sz z a n _ (by rw[dB]at h;omega)];congr 1;rw[<-Nat.mod_eq_sub_mod aA0]
theorem VX{α:Type}(f:α->δ ξ)(sz:Nat)(z:α)(b:Array ξ)(g:b.toList=f z)(e:b.size=sz)(d:0<sz)(n:Nat):(madeCells b (n*sz)).toList=(jZ n z).flatMap f:=by
 have c:γ (f z)=sz:=by rw[<-g];simpa using e
 apply cS;intro j;by_cases i:j<n*sz
 ·rw[HN f sz z c n j i];have h:j%sz<b.size:=by rw[e];exact Nat.mod_lt _ d
  simp[madeCells,i,<-g,e];rw[gA h,getElem!_pos b _ h]
 ·rw[bO (by simp[madeCells];omega),bO];rw[a f sz z c];omega
where
 a {α:Type} (f:α->δ ξ) (sz:Nat) (z:α) (c:γ (f z)=sz) {n:Nat}:γ ((jZ n z).flatMap f)=n*sz:=by
  induction n with
  |zero=>simp
  |succ n k=>rw[List.replicate_succ,Rw,cE,k,c,dB];omega
section
variable{P:Β}{n:Md}{Ξ:Array Α}{Q:Exit->Act->ο->Prop}{F:Nat->ξ}{w w0:ο}{S:δ Nat}{L:δ cF}
variable{d:Nat}{ty:ω}{Ο:String}{Ν:Array Edge}{Ρ:δ Α}{α:Type}{f:α->δ ξ}
theorem fh{x y:χ}{t:ω}(hH:Hp w0 S L w)(e sz j:Nat)(kl U:Ε)(c:Int)(z:α)(Y:P.underlying t=θ (.slice e))(hT:TI P e sz j)(J:0<j)(G:0<sz)
  (D:((P.info? e).bind (·.zero)).map (·.cells)=θ (f z).toArray) (hx:aW n F x=.int kl c) (X:aW n F y=.int U c)
  (m:0<=c/\(j:Int)*c<=281474976710656)
  (h:∀o a cap w',Hp w0 S (bM f e sz o a cap (jZ c.toNat z)::L) w'->W P n Ξ Q Ρ (dP F d (.slice a (γ (jZ c.toNat z)) cap)) w'):
  W P n Ξ Q (⟨θ d,.makeSlice t x y,ty,Ο,Ν,ι⟩::Ρ) F w:=by
 obtain⟨i,A,V,p,Z,u,B⟩:=hT.parts;obtain⟨h0,K⟩:=m;obtain⟨cn,rfl⟩:=Int.eq_ofNat_of_zero_le h0;have M:i.bytes*cn<=281474976710656:=by
  rw[u];have a2:((j*cn:Nat):Int)<=281474976710656:=by rw[Int.natCast_mul];exact K
  omega
 have N:cn<=maxLen:=by have:cn<=i.bytes*cn:=Nat.le_mul_of_pos_left _ (by rw[u];exact J);simp only[maxLen];omega
 have C:A.cells.toList=f z:=by rw[V]at D;simp[p]at D;rw[D]
 obtain⟨w',l,H,s⟩:=run_make_full w w.heap.size t e i A sz Y V p Z kl U cn M N (dK _);rw[VX f sz z A.cells C B G cn]at H;have R:Hp w [] [row (.slice (θ ⟨w.heap.size,0,ι⟩) cn cn) e sz cn ((jZ cn z).flatMap f)] w':=by
  refine⟨s.os,s.tape,s.output,s.size,λk hk _=>s.block k hk aA2,λr l=> ?_,aA2⟩;simp at l;subst l;have I:=H.lt w.heap.size Τ;refine⟨?_,λb m=> ?_⟩
  ·obtain⟨hl,l⟩:=H;refine⟨hl,?_⟩;rcases l with l|⟨g,c,T,E,_,m,h1,R,v,O⟩
   ·exact .inl l
   ·refine .inr ⟨g,c,T,E,?_,h1,R,v,O⟩;simp only[Value.slice.injEq,bG,Addr.mk.injEq]at E;obtain⟨⟨rfl,-⟩,-,rfl⟩:=E;exact m
  ·simp[row,Db]at m;subst m;exact⟨I.2,.inl (dK _)⟩
 have v:=hH.lU R;have q:γ (jZ cn z)=cn:=aA2;have O:(row (.slice (θ ⟨w.heap.size,0,ι⟩) cn cn) e sz cn ((jZ cn z).flatMap f))=row (.slice (θ ⟨w.heap.size,0,ι⟩) (γ (jZ cn z)) cn) e sz (γ (jZ cn z)) ((jZ cn z).flatMap f):=by rw[q]
 rw[O]at v;obtain⟨o,h5⟩:=v.Ls 0 Τ;have h6:=h o _ cn w' h5;refine gC (w':=w') Τ Τ ?_ h6;simp[ς,hx,X,l]
end
section
variable{P:Β}{n:Md}{Ξ:Array Α}{Q:Exit->Act->ο->Prop}{F:Nat->ξ}{w w0:ο}{S:δ Nat}{L:δ cF}
variable{d:Nat}{ty:ω}{Ο:String}{Ν:Array Edge}{Ρ:δ Α}{α:Type}{f:α->δ ξ}
end
section
variable{α:Type}{f:α->δ ξ}{sz:Nat}
end
open Go
open Go.Value renaming ownBlock → Db
open Int renaming toNat → bL
open List renaming replicate → jZ
abbrev PA:=ε Nat×ε Γ×Nat
abbrev vBq(g:Nat->PA×PA)(l:δ (δ (aC×aC)×δ ζ))(i:Int):ξ:=π ((g (bL i)).2.2.1) (γ ((el l i).2)) ((g (bL i)).2.2.2)
abbrev vHq(g:Nat->PA×PA)(l:δ (δ (aC×aC)×δ ζ))(i:Int):ξ:=π ((g (bL i)).1.2.1) (γ ((el l i).1)) ((g (bL i)).1.2.2)
abbrev yT(g:Nat->PA×PA)(l:δ (δ (aC×aC)×δ ζ))(i:Int):δ ξ:=[vHq g l i,vBq g l i]
abbrev lE:Nat->PA×PA:=λ_=>((ι,ι,0),(ι,ι,0))
variable{T G:Type}
def gz(g:Nat->G)(l:δ T):δ (T×G):=l.mapIdx λi x=>(x,g i)
theorem IL(g:Nat->G)(l:δ T):γ (gz g l)=γ l:=by unfold gz;simp
theorem lS(g:Nat->G)(l:δ T){i:Int}(h:0<=i/\i<γ l):0<=i/\i<(γ (gz g l)):=by rw[IL];exact h
theorem Wg[Inhabited T][Inhabited G](g:Nat->G)(l:δ T)(i:Int)(h:0<=i/\i<γ l):el (gz g l) i=(el l i,g i.toNat):=by have:i.toNat<γ l:=aA0;simp[el,gz,this]
def RL(g:Nat->T)(i:Nat)(x:T):Nat->T:=λk=>if k=i then x else g k
theorem Pe(g:Nat->G)(l:δ T)(j:Nat):(gz g l)[j]? =l[j]?.map λx=>(x,g j):=by unfold gz;simp
theorem U5(g:Nat->G)(l:δ T)(i:Nat)(p:T)(x:G):(gz g l).set i (p,x)=gz (RL g i x) (l.set i p):=by
 apply cS;intro j;rw[Pe,eT,Pe,IL];by_cases h:i=j
 ·subst h;by_cases a:i<γ l<;>simp[a,RL]
 ·simp[h,RL,show¬j=i by omega]
theorem RJ(g:Nat->G)(l:δ T)(p:T)(x:G):gz g l++[(p,x)]=gz (RL g (γ l) x) (l++[p]):=by
 apply cS;intro j;rw[Pe];by_cases h:j<γ l
 ·rw[aJ (by rw[IL];exact h),aJ h,Pe];simp[h,RL,show¬j=γ l by omega]
 ·rw[aO (by rw[IL];omega),IL];by_cases a:j=γ l
  ·subst a;simp[RL]
  ·rw[bO aA3,bO aA3];rfl
theorem U6(n:Nat)(z:T)(x:G):jZ n (z,x)=gz (λ_=>x) (jZ n z):=by apply cS;intro j;rw[Pe,qC,qC];by_cases h:j<n<;>simp
variable{w:ο}{a:ε Γ}
theorem Rd.of{c b:δ ξ}(h:Rd w a c)(e:c=b):Rd w a b:=e▸h
def JJ(f:T->δ ξ)(o:ε Nat)(a:ε Γ)(cap:Nat)(l:δ T):cF:=
 ⟨o,λob=>(o=ι/\l=[]/\cap=0/\a=ι)\/∃g b e d,o=θ g/\a=θ ⟨g,0,ι⟩/\ob=θ (.cells b e d)/\γ l<=cap/\b.toList.take (γ (l.flatMap f))=l.flatMap f⟩
variable{f:T->δ ξ}{o:ε Nat}{e:Nat}{c:δ T}
theorem V9(h:(JJ f o a e c).holds w):Rd w a (c.flatMap f)/\γ c<=e/\(a=ι->e=0):=by
 rcases h with⟨_,rfl,rfl,rfl⟩|⟨g,d,m,n,p,rfl,l,q,k⟩
 ·exact⟨Rd.nil _ _,cH _,λ_=>rfl⟩
 ·refine⟨λj v i=>⟨_,Τ,?_⟩,q,λh=>nomatch h⟩
  have l:w.heap[g]? =θ (.cells d m n):=by
   have s:((θ g).bind λb=>w.heap[b]?)=θ (.cells d m n):=by rw[<-p];exact l
   exact s
  rw[SY];have r:d.toList[j]? =θ v:=by
   rw[<-k]at i;rw[bQ]at i;split at i
   ·exact i
   ·cases i
  simp only[World.cell?,l];simpa using r
variable{b:ο}{S:δ Nat}{L:δ cF}{d:Nat}
theorem Hp.Ys{f:T×G->δ ξ}{cap:Nat}{g:Nat->G}(h:Hp w S L b)(k:Nat)(l:L[k]? =θ (bM f e d o a cap (gz g c))):γ c<=cap:=by
 have:=h.Gy k l
 rwa [IL]at this
theorem Hp.zrw{cap:Nat}(h:Hp w S L b)(k:Nat)(l:L[k]? =θ (bM f e d o a cap c)):a=ι->cap=0:=by
 intro i;rcases(h.res _ (aI l)).1 with⟨_,_,j,_⟩|⟨g,m,_,n,_⟩
 ·exact j
 ·rw[i]at n;cases n
theorem Hp.weak(h:Hp w S L b)(k:Nat)(r r':cF)(c:L[k]? =θ r)(a:r'.own=r.own)(e:r.holds b->r'.holds b):Hp w S (L.set k r') b:=by obtain⟨g,f⟩:=h.res r (aI c);exact h.change k r r' c Τ Τ Τ (dK _) (λ_ _ _=>rfl) (e g) λi d=>⟨.inl (by rw[<-a];exact d),(f i (by rw[<-a];exact d)).1⟩
theorem Hp.OY{cap:Nat}(h:Hp w S L b)(t:qQ f d)(k:Nat)(p:L[k]? =θ (bM f e d o a cap c)):Hp w S (L.set k (JJ f o a cap c)) b:=by
 refine h.weak k _ _ p Τ λm=> ?_;rcases m with⟨rfl,rfl,rfl,rfl⟩|⟨g,i,n,s,l,j,r,q,u⟩
 ·exact .inl ⟨Τ,Τ,Τ,Τ⟩
 ·exact .inr ⟨g,i,e,(0,0),n,s,l,j,by rw[t.flat];exact u⟩
variable{l:δ ζ}
theorem Hp.SJ(h:Hp w S L b)(k:Nat)(o:L[k]? =θ (gF (.slice a e d) e l)):Hp w S (L.set k (JJ eB (π a e d).ownBlock a d l)) b:=by refine h.weak k _ _ o Τ λj=> ?_;obtain⟨m,g,f,n,s,p,i,c,r,q,t⟩:=j;cases i;refine .inr ⟨g,n,s,p,Τ,Τ,c,aA0,?_⟩;rw[oZ,Gk,m];exact t.1
theorem Hp.Dz(h:Hp w S L b)(f:T->δ ξ):Hp w S (JJ f ι ι 0 []::L) b:=by
 refine⟨h.os,h.tape,h.output,h.size,h.below,λr a=> ?_,?_⟩
 ·rcases aQ.1 a with rfl|a
  ·exact⟨.inl ⟨Τ,Τ,Τ,Τ⟩,λd c=>by simp[JJ]at c⟩
  ·exact h.res r a
 ·refine List.Pairwise.cons (λr _ d c=>by simp[JJ]at c) h.sep
theorem Hp.IF(h:Hp w S L b)(k:Nat)(n:L[k]? =θ (gF (.slice a e d) e l)):e<=d:=by obtain⟨_,g,p,i,m,j,c,_,f,_⟩:=(h.res _ (aI n)).1;cases c;exact f
theorem Hp.zbr(h:Hp w S L b)(k:Nat)(n:L[k]? =θ (gF (.slice a e d) e l)):a=ι->d=0:=by intro f;obtain⟨_,g,c,i,m,j,p,_⟩:=(h.res _ (aI n)).1;rw[f]at p;cases p
def gI(inn:T×G->δ cF)(g:Nat->G)(l:δ T):δ cF:=(gz g l).flatMap inn
theorem gI_mem[Inhabited T][Inhabited G](inn:T×G->δ cF)(g:Nat->G)(l:δ T)(i:Int)(h:0<=i/\i<γ l):∀r∈inn (el l i,g i.toNat),r∈gI inn g l:=by intro r a;refine List.mem_flatMap.2 ⟨_,?_,a⟩;have b:i.toNat<γ l:=aA0;refine aI (i:=i.toNat) ?_;rw[Pe];simp[el,b]
theorem nz(inn:T×G->δ cF)(g:Nat->G)(l:δ T)(p:T)(x:G):gI inn (RL g (γ l) x) (l++[p])=gI inn g l++inn (p,x):=by unfold gI;rw[<-RJ];simp
theorem Hp.V3{L:δ cF}{inn:T×G->δ cF}{g:Nat->G}{l:δ T}(p:T)(x:G)(Z:δ cF)(h:Hp w S (inn (p,x)++(L++(gI inn g l++Z))) b):Hp w S (L++(gI inn (RL g (γ l) x) (l++[p])++Z)) b:=by refine h.perm ?_;rw[nz];refine(cw).trans ?_;rw[jI,jI];refine fK L ?_;rw[jI];exact fK _ cw
theorem V8(inn:T×G->δ cF)(g:Nat->G)(l:δ T)(i:Nat)(h:i<γ l)(p:T)(x:G):gI inn g l=((gz g l).take i).flatMap inn++(inn (l[i],g i)++((gz g l).drop (i+1)).flatMap inn)/\gI inn (RL g i x) (l.set i p)=((gz g l).take i).flatMap inn++(inn (p,x)++((gz g l).drop (i+1)).flatMap inn):=by
 have a:i<γ (gz g l):=by rw[IL];exact h
 have e:(gz g l)[i]=(l[i],g i):=by have:=Pe g l i;rw[aN a,aN h]at this;exact aP this
 constructor
 ·unfold gI
  conv=>lhs;rw[<-NZ i (gz g l),zbF a]
  rw[NW,Rw,e]
 ·unfold gI;rw[<-U5,zbN,aB a,NW,Rw]
theorem Hp.giSet{L:δ cF}{inn:T×G->δ cF}{g:Nat->G}{l:δ T}(p:T)(x:G)(Z:δ cF)(i:Int)(d:0<=i/\i<γ l)(h:Hp w S (inn (p,x)++(L++(gI inn g l++Z))) b):Hp w S (L++(gI inn (RL g i.toNat x) (l.set i.toNat p)++Z)) b:=by
 obtain⟨c,j⟩:=V8 inn g l i.toNat aA0 p x;rw[c]at h;rw[j];have a:Hp w S (inn (p,x)++(L++((((gz g l).take i.toNat).flatMap inn++((gz g l).drop (i.toNat+1)).flatMap inn)++Z))) b:=by refine h.sub (cA (cA (List.Sublist.append_right (cA (xa _ _) _) _) _) _)
 refine a.perm ?_;refine(cw).trans ?_;rw[jI];refine fK L ?_;rw[jI,jI,jI,jI];refine fK _ ?_;rw[<-jI];exact cw
theorem Hp.giNil{L:δ cF}{inn:T×G->δ cF}(z:T)(x:G)(n:Nat)(Z:δ cF)(g:∀r∈inn (z,x),r.own=ι/\r.ok ι)(h:Hp w S (L++Z) b):Hp w S (L++(gI inn (λ_=>x) (jZ n z)++Z)) b:=by
 have key:∀r∈gI inn (λ_=>x) (jZ n z),r.own=ι/\r.ok ι:=by intro r a;obtain⟨q,e,a⟩:=List.mem_flatMap.1 a;rw[<-U6]at e;rw[List.eq_of_mem_replicate e]at a;exact g r a
 have i:Hp w S (gI inn (λ_=>x) (jZ n z)++(L++Z)) b:=by
  refine⟨h.os,h.tape,h.output,h.size,h.below,λr a=> ?_,?_⟩
  ·rcases aV.1 a with a|a
   ·obtain⟨d,f⟩:=key r a;exact⟨by unfold cF.holds;rw[d];exact f,λj c=>by rw[d]at c;cases c⟩
   ·exact h.res r a
  ·refine dE.2 ⟨?_,h.sep,λr a r' _ j c=>by rw[(key r a).1]at c;cases c⟩;exact List.Pairwise.imp_of_mem (R:=λ_ _=>True) (λa _ _ j c=>by rw[(key _ a).1]at c;cases c) (List.pairwise_of_forall aA2)
 refine i.perm ?_;refine(cw).trans ?_;rw[jI];exact fK L cw
theorem Hp.rY{L1:δ cF}(h:Hp w S L b)(n m:Nat)(a:n<=m)(g:L.take n++L.drop m=L1:=by kernel_rfl):Hp w S L1 b:=by
 refine h.sub ?_;rw[<-g];have e:=(NZ n L).symm
 conv=>rhs;rw[e]
 exact cA (List.drop_sublist_drop_left L a) _
theorem Hp.By(L1 T a:δ cF)(h:Hp w S (L1++T) b)(p:a.Sublist T):Hp w S (L1++a) b:=h.sub (cA p L1)
theorem Hp.aw(A B C D:δ cF)(h:Hp w S ((A++(B++[]))++(C++D)) b):Hp w S (A++(C++(B++D))) b:=by refine h.perm ?_;rw[gH,jI];refine fK A ?_;rw[<-jI,<-jI];exact List.Perm.append_right D cw
section
variable{P:Β}{n:Md}{Ξ:Array Α}{Q:Exit->Act->ο->Prop}{F:Nat->ξ}{w w0:ο}{S:δ Nat}{L:δ cF}
variable{d:Nat}{ty:ω}{Ο:String}{Ν:Array Edge}{Ρ:δ Α}
variable{T G:Type}{f:T×G->δ ξ}
variable{x y:χ}{t:ω}
theorem fi(u:Hp w0 S L w)(e sz b:Nat)(kl l:Ε)(c:Int)(z:T)(g:G)(q:P.underlying t=θ (.slice e))(s:TI P e sz b)(k:0<b)(j:0<sz)
  (m:((P.info? e).bind (·.zero)).map (·.cells)=θ (f (z,g)).toArray) (hx:aW n F x=.int kl c) (p:aW n F y=.int l c)
  (r:0<=c/\b*c<=281474976710656)
  (h:∀o a cap w',Hp w0 S (bM f e sz o a cap (gz (λ_=>g) (jZ c.toNat z))::L) w'->W P n Ξ Q Ρ (dP F d (.slice a (γ (jZ c.toNat z)) cap)) w'):
  W P n Ξ Q (⟨θ d,.makeSlice t x y,ty,Ο,Ν,ι⟩::Ρ) F w:=by
 refine fh u e sz b kl l c _ q s k j m hx p r λo a cap w' i=> ?_;rw[U6]at i;have:=h o a cap w' i;simpa using this
theorem Ua(B:Hp w0 S L w)(k:Nat)(o:ε Nat)(a m:ε Γ)(cap cx e sz b:Nat)(g:Nat->G)(l:δ T)(p:T)(q:G)(C:qQ f sz)(u:L[k]? =θ (bM f e sz o a cap (gz g l)))(s:P.underlying t=θ (.slice e))(z:TI P e sz b)(i:0<sz)(j:0<b)
  (hx:aW n F x=.slice a (γ l) cap) (r:aW n F y=.slice m 1 cx) (A:Rd w m (f (p,q))) (v:(γ l+1)*b<=140737488355328)
  (h:∀o' a' cap' w',Hp w0 S (L.set k (bM f e sz o' a' cap' (gz (RL g (γ l) q) (l++[p])))) w'->W P n Ξ Q Ρ (dP F d (.slice a' (γ (l++[p])) cap')) w'):
  W P n Ξ Q (⟨θ d,.call ⟨.builtin .append,#[x,y],#[t,t]⟩,ty,Ο,Ν,ι⟩::Ρ) F w:=by
 refine NK B k o a m cap cx e sz b _ [(p,q)] C u s z i j (by rw[IL];exact hx) r (by simpa using A) (by rw[IL];exact v) λo' a' cap' w' c=> ?_;rw[RJ]at c⊢;rw[IL];exact h o' a' cap' w' c
theorem Ji(r:Hp w0 S L w)(k b m e:Nat)(cs:δ ξ)(l:δ ζ)(p:L[k]? =θ (aY b cs e))(f:l.map bt=cs)(u:γ l=m)(z:P.underlying t=θ (.slice e))(B:P.underlying e=θ (.int .u8))(hx:aW n F x=.slice (θ ⟨b,0,ι⟩) m m)
  (h:∀w',Hp w0 S (L.set k (gF (.slice (θ ⟨b,0,ι⟩) m m) m l)) w'->W P n Ξ Q Ρ (dP F d (.slice (θ ⟨b,0,ι⟩) m m)) w'):W P n Ξ Q (⟨θ d,.convert t t x,ty,Ο,Ν,ι⟩::Ρ) F w:=by
 have y:=r.dO k p;have o:=((r.res _ (aI p)).2 b Τ).1;have a:cs.toArray.size=m:=by rw[<-f,<-u];simp
 have g:w.shape? b=θ (e,m):=by unfold World.shape?;rw[y];simp only[a]
 have A:(w.freeze ⟨b,m,ι⟩ 1).heap[b]? =θ (.cells cs.toArray e (m,m+1)):=by unfold World.freeze;simp[wQ,y]
 refine gC (w':=w.freeze ⟨b,m,ι⟩ 1) Τ Τ ?_ (h _ ?_)
 ·simp[ς,hx,convert,run_underlying z,run_underlying B,markStringish,g]
 ·have s:w.freeze ⟨b,m,ι⟩ 1={w with heap:=(w.freeze ⟨b,m,ι⟩ 1).heap}:=by unfold World.freeze;rw[aA aA1]
  refine r.change k _ _ p (by rw[s]) (by rw[s]) (by rw[s]) (by unfold World.freeze;rw[aA aA1];simp) (λj C i=> ?_) ?_ (λc v=> ?_)
  ·unfold World.freeze;have q:¬b=j:=λh=>i (by rw[<-h];rfl);simp[wQ,q]
  ·refine⟨u,b,m,cs.toArray,e,(m,m+1),Τ,?_,dK _,aA0,?_,aA0⟩
   ·exact A
   ·rw[f,<-a];simp
  ·simp[gF,Db]at v;subst v;exact⟨.inl Τ,by unfold World.freeze;rw[aA aA1];simpa using o⟩
theorem KA{M:Type}{f:M->δ ξ}(g:Hp w0 S L w)(b:Nat)(K:ε Γ)(m cx e sz k:Nat)(l c:δ M)(s:qQ f sz)(J:Rd w (θ ⟨b,0,ι⟩) (l.flatMap f))(Z:γ l=m)(V:P.underlying t=θ (.slice e))(hT:TI P e sz k)(C:0<sz)(H:0<k)
  (hx:aW n F x=.slice (θ ⟨b,0,ι⟩) m m) (T:aW n F y=.slice K (γ c) cx) (O:Rd w K (c.flatMap f)) (u:0<γ c/\(γ l+γ c)*k<=140737488355328)
  (h:∀o a cap w',Hp w0 S (bM f e sz o a cap (l++c)::L) w'->W P n Ξ Q Ρ (dP F d (.slice a (γ (l++c)) cap)) w'):
  W P n Ξ Q (⟨θ d,.call ⟨.builtin .append,#[x,y],#[t,t]⟩,ty,Ο,Ν,ι⟩::Ρ) F w:=by
 obtain⟨h2,u⟩:=u;subst Z;obtain⟨i,z,hi,R,X,I,B⟩:=hT.parts;subst X;subst I;have N:=qT (Nat.le_mul_of_pos_right _ H) u;have r:=s.flat c;cases K with
 |none=>
  have:0<γ (c.flatMap f):=by rw[r];exact Xq h2 C
  obtain⟨p,D,_⟩:=O 0 ((c.flatMap f)[0]) aA2;cases D
 |some p=>
  have rd:∀{q:Γ} {A:δ ξ},Rd w (θ q) A->∀j v,A[j]? =θ v->w.cell? (q.add j)=θ v:=by intro q A Y j v U;obtain⟨p,D,hc⟩:=Y j v U;cases D;exact hc
  have key:=run_append_grow w t ty e i z V hi R ⟨b,0,ι⟩ (γ l) (γ l) (l.flatMap f) (s.flat l) (rd J) p (γ c) cx _ r (rd O) aA0 aA0 (growslice_fits aA0 u);have G:=grownCap_ge w (γ l+γ c) (γ l) e;have E:=grownCap_le_maxLen w (γ l+γ c) (γ l) e aE6;have hd:Hp w0 S L w.drew:=⟨g.os,g.tape,g.output,g.size,g.below,g.res,g.sep⟩
  have hA:=hd.BW (.cells ((l.flatMap f).toArray++(c.flatMap f).toArray++Builtin.zeroCells z.cells (grownCap w (γ l+γ c) (γ l) e-(γ l+γ c))) e) (bM f e i.size (θ w.drew.heap.size) (θ ⟨w.drew.heap.size,0,ι⟩) (grownCap w (γ l+γ c) (γ l) e) (l++c)) Τ (.inr ⟨w.drew.heap.size,_,Τ,Τ,Τ,by simpa using G,E,(by
   simp only[Array.size_append,List.size_toArray,Builtin.zeroCells,Array.size_map,Array.size_range,s.flat,B,<-kW];congr 1;omega),(by
   simp only[Array.toList_append,NW];rw[iE (by simp[s.flat,kW]),eX (by simp[s.flat,kW])])⟩)
  have h3:=h _ _ _ _ hA;refine gC Τ Τ ?_ h3;simp[ς,resolve,invoke,builtin,hx,T,key]
end
section
variable{P:Β}{n:Md}{Ξ:Array Α}{Q:Exit->Act->ο->Prop}{F:Nat->ξ}{w:ο}
variable{d:Nat}{ty:ω}{Ο:String}{Ν:Array Edge}{Ρ:δ Α}{k:Nat}{D:δ Deferred}{ro:ε Nat}
theorem fm{b:χ}{fR:Array χ}{a:Array ω}(f:FuncId)(cap:Array ξ)(vs:δ ξ)(i:Enters P f)
  (c:aW n F b=.func (.func f) #[] cap) (g: #[]++fR.map (aW n F)++cap=vs.toArray) (e:CR P f vs w λv w'=>W P n Ξ Q Ρ (dP F d v) w'):
  W P n Ξ Q (⟨θ d,.call ⟨.value b,fR,a⟩,ty,Ο,Ν,ι⟩::Ρ) F w:=
 vC f cap vs _ i c g e λ_ _ h=>h
end
end Go.Wk
namespace Go.Px
open Go.Wk
def bR(c:ζ):η:=c==32||c==9
def dQ(c:ζ):η:=(decide (c<32)&&c !=9)||c==127
def px(c:ζ):η:=(decide (97<=c)&&decide (c<=122))||(decide (65<=c)&&decide (c<=90))
def fZ(c:ζ):η:=decide (48<=c)&&decide (c<=57)
def cL(c:ζ):η:=px c||fZ c||c==45||c==46||c==33||c==37||c==42||c==95||c==43||c==39||c==126||c==96
def eQ(c:ζ):ζ:=if 65<=c/\c<=90 then c+32 else c
def Ht(c:ζ):ζ:=if 97<=c/\c<=122 then c-32 else c
def cD(p:ζ->η):δ ζ->Nat
 |[]=>0
 |c::l=>if p c then cD p l+1 else 0
def Cv(i:Int)(n:Nat):Nat:=(min (max i 0) (n:Int)).toNat
def bT(p:ζ->η)(s:δ ζ)(i:Int):Nat:=Cv i (γ s)+cD p (s.drop (Cv i (γ s)))
theorem Kf(p:ζ->η):∀l,cD p l<=γ l
 |[]=>qB _
 |c::l=>by simp only[cD];have:=Kf p l;split<;>simp<;>omega
theorem uR(i:Int)(n:Nat):Cv i n<=n:=aD4
theorem jD(p:ζ->η)(s:δ ζ)(i:Int):bT p s i<=γ s:=by unfold bT;have a:=Kf p (s.drop (Cv i (γ s)));have b:=uR i (γ s);simp at a;omega
theorem vy(k n:Nat)(h:k<=n):Cv (k:Int) n=k:=aD4
theorem yZ(s:δ ζ)(k:Nat)(h:k<γ s):s.drop k=Κ s k::s.drop (k+1):=by rw[Tt h];simp[Κ,h]
theorem KM(p:ζ->η)(s:δ ζ)(k:Nat)(h:k<γ s)(a:p (Κ s k)=ν):bT p s (k:Int)=k:=by unfold bT;rw[vy k _ aA0];have b:=yZ s k h;rw[b];simp only[cD,a];simp
theorem Uo(p:ζ->η)(s:δ ζ):bT p s (γ s:Int)=γ s:=by unfold bT;rw[vy _ _ (qB _)];simp[cD]
theorem fP(p:ζ->Prop)(h:∀i:Fin 256,p (UInt8.ofFin i)):∀c,p c:=λc=>h c.toFin
set_option maxRecDepth 10000
theorem pB(c:ζ):fZ c=μ↔48<=(c.toNat:Int)/\(c.toNat:Int)<=57:=by revert c;exact fP _ aA1
def au(c:ζ):η:=decide (32<=c)&&decide (c<=126)
def jG(s:δ ζ):η:= !s.isEmpty&&s.all cL
theorem bkq(p:ζ->η):∀l,cD p l=γ l↔l.all p=μ
 |[]=>by simp[cD]
 |c::l=>by
  have b:=bkq p l;have d:=Kf p l;simp only[cD,dH,List.all_cons,yQ];split
  ·rename_i a;simp[a,b]
  ·rename_i a;simp[a]
theorem gg(s:δ ζ):(s≠[]/\(bT cL s 0:Int)=(γ s:Int))↔jG s=μ:=by
 have h:=bkq cL s;have e:bT cL s 0=cD cL s:=by have c:Cv 0 (γ s)=0:=aD4;unfold bT;rw[c];simp
 rw[e];unfold jG;simp only[yQ,jU,Ts,<-h];constructor
 ·rintro⟨a,b⟩;exact⟨a,aA0⟩
 ·rintro⟨a,b⟩;exact⟨a,aA0⟩
def mK(s:δ ζ):Nat:=s.foldl (λn c=>10*n+(c.toNat-48)) 0
theorem bcp(s:δ ζ)(c:ζ):mK (s++[c])=10*mK s+(c.toNat-48):=by simp[mK,List.foldl_append]
theorem tV(s:δ ζ)(k:Nat)(h:k<γ s):s.take (k+1)=s.take k++[Κ s k]:=by rw[List.take_succ_eq_append_getElem h];simp[Κ,h]
theorem uQ:∀(n:Nat) (s:δ ζ),γ s<=n->s.all fZ=μ->mK s<10^n:=by
 intro n;induction n with
 |zero=>intro s b _;have:s=[]:=List.eq_nil_of_length_eq_zero aA0;subst this;decide
 |succ n d=>
  intro s b a;rcases List.eq_nil_or_concat s with rfl|⟨l,c,rfl⟩
  ·simp[mK];exact Nat.pow_pos aA0
  ·simp only[List.concat_eq_append]at*;rw[bcp];rw[dZ]at a;simp only[yQ,List.all_cons,List.all_nil,oB]at a;have f:=d l (by simp at b;omega) a.1;have e:=(pB c).1 a.2;rw[Nat.pow_succ];omega
def cN(s:δ ζ):δ ζ:=s.map eQ
def wH(c:ζ):δ ζ:=if c=34\/c=92 then [92,c]else [c]
def dM(p:ζ->η):δ ζ->Int
 |[]=> -1
 |b::l=>if p b then 0 else if dM p l= -1 then-1 else dM p l+1
theorem sL(p:ζ->η):∀l,-1<=dM p l
 |[]=>by simp[dM]
 |b::l=>by have:=sL p l;unfold dM;split;(·omega);(·split<;>omega)
theorem Oo(p:ζ->η):∀l,dM p l=if cD (λc=> !p c) l=γ l then(-1:Int)else(cD (λc=> !p c) l:Int)
 |[]=>by simp[dM,cD]
 |b::l=>by
  have a:=Oo p l;have d:=Kf (λc=> !p c) l;unfold dM cD;cases e:p b
  ·simp only[Bool.not_false,eW,pP,tL,dH];rw[a];by_cases h:cD (λc=> !p c) l=γ l
   ·rw[aB h,aB rfl,aB aA0]
   ·rw[aA h,aA aA0,aA aA0];omega
  ·simp
theorem qf(p:ζ->η)(l:δ ζ):(dM p l= -1/\cD (λc=> !p c) l=γ l)\/(0<=dM p l/\dM p l<(γ l:Int)/\dM p l=(cD (λc=> !p c) l:Int)):=by
 have:=Kf (λc=> !p c) l;rw[Oo];split
 ·exact .inl ⟨Τ,by assumption⟩
 ·exact .inr ⟨aA0,aA0,Τ⟩
theorem wB(c:ζ):∀l,Lib.indexByte l c=dM (·==c) l
 |[]=>rfl
 |b::l=>by unfold Lib.indexByte dM;rw[wB c l];simp
theorem azl(cs:δ ζ):∀l,Lib.indexAny l cs=dM (cs.contains ·) l
 |[]=>rfl
 |b::l=>by unfold Lib.indexAny dM;rw[azl cs l];simp
def kR(p:ζ->η):δ ζ->Int
 |[]=> -1
 |b::l=>if kR p l= -1 then(if p b then 0 else-1)else kR p l+1
theorem uG(p:ζ->η):∀l:δ ζ,(kR p l= -1/\l.any p=ν)\/(0<=kR p l/\kR p l<(γ l:Int))
 |[]=>.inl ⟨Τ,Τ⟩
 |b::l=>by
  have c:=uG p l;unfold kR;by_cases h:kR p l= -1
  ·rw[aB h];have e:l.any p=ν:=by rcases c with a|a;exact a.2;omega
   cases d:p b
   ·left;simp[d,e]
   ·right;simp
  ·rw[aA h];right;rcases c with a|a
   ·exact absurd a.1 h
   ·simp only[dH];omega
theorem Vv(p:ζ->η)(b:ζ):∀l:δ ζ,kR p (l++[b])=if p b then(γ l:Int)else kR p l
 |[]=>by simp[kR]
 |a::l=>by
  rw[JD,kR,Vv p b l];cases c:p b
  ·simp[kR]
  ·simp
theorem Av(s:δ ζ)(c:ζ):∀k:Nat,k<=γ s->Lib.lastIdx ⟨s.toArray⟩ (c.toNat:Int) k=kR (·==c) (s.take k)
 |0,_=>by simp[Lib.lastIdx,kR]
 |k+1,h=>by
  rw[tV s k aA0,Vv,Lib.lastIdx,Av s c k aA0];have e:(⟨s.toArray⟩:ByteArray).data[k]! =Κ s k:=by simp[Κ,show k<γ s by omega]
  rw[e];by_cases a:Κ s k=c
  ·rw[aB (by rw[a]),aB (by simp[a])];simp;omega
  ·rw[aA (λh=>a (jE.1 aA0)),aA aC0]
theorem xM(s:δ ζ)(c:ζ):Lib.lastIndexByte ⟨s.toArray⟩ (c.toNat:Int)=kR (·==c) s:=by unfold Lib.lastIndexByte;have:=Av s c (γ s) (qB _);rw[hC]at this;exact this
theorem BG(s t:δ ζ):γ (Lib.cut s t).1<=γ s/\γ (Lib.cut s t).2.1<=γ s:=by unfold Lib.cut;split<;>simp<;>omega
theorem Ky(s t:δ ζ):γ (Lib.trimPrefix s t)<=γ s:=by unfold Lib.trimPrefix;split<;>simp
theorem avm(p:ζ->η)(l:δ ζ):γ (l.dropWhile p)<=γ l:=(wP p).length_le
theorem vR(s t:δ ζ):γ (Lib.trimLeftS s t)<=γ s:=avm _ _
theorem Kx(s t:δ ζ):γ (Lib.trimRightS s t)<=γ s:=by unfold Lib.trimRightS;have:=avm (t.contains ·) s.reverse;simpa using this
theorem TW(s t:δ ζ):γ (Lib.trimS s t)<=γ s:=tN (vR _ _) (Kx _ _)
theorem Hw(l:δ ζ)(i j:Int):γ (sub l i j)=min (j.toNat-i.toNat) (γ l-i.toNat):=by simp[sub]
theorem sub_le(s:δ ζ)(i j:Int):γ (sub s i j)<=γ s:=aC4
theorem na{w:ο}(k:Nat)(a:Array Obj):Hp w [] [] (Sort.grow (w.drewN k) a):=Hp.Ak ⟨Τ,Τ,Τ,by simp[Sort.grow,World.drewN],λk b=>by have:k<w.heap.size:=b;show(w.heap++a)[k]? =w.heap[k]?;rw[Array.getElem?_append_left this]⟩
abbrev Pce:=Int×δ ζ
abbrev Prm:=δ ζ×δ ζ×η
section
variable(s : δ ζ) (sep : ζ) (f k b : Nat) (acc : δ Pce)
end
open Go.Wk
def xu:δ ζ:=[45,95,46,33,126,42,39,40,41]
def BK(k:Int):δ ζ:=if k=0 then [38,61,43,36,44,59,63,47]else if k=1 then [91,93,47,58,38,43,36]else if k=2 then [91,93,47,63,58,43,36]else []
def fO(l:δ ζ)(c:ζ):η:=l.any (·==c)
def Ir(c:ζ)(k:Int):η:=px c||fZ c||fO xu c||fO (BK k) c
theorem mj(l:δ ζ)(c:ζ):(0<=dM (·==c) l)↔fO l c=μ:=by
 induction l with
 |nil=>simp[dM,fO]
 |cons b l d=>
  have h:=sL (·==c) l;unfold dM fO;rw[List.any_cons];by_cases a:(b==c)=μ
  ·simp[a]
  ·rw[aA a];simp only[a,Bool.false_or];unfold fO at d;rw[<-d];split<;>omega
theorem GJ(l:δ ζ)(c:ζ):decide (0<=dM (·==c) l)=fO l c:=by rw[Bool.eq_iff_iff,aX,mj]
def fW(c:ζ):η:=fZ c||decide (97<=(c.toNat:Int)/\(c.toNat:Int)<=102)||decide (65<=(c.toNat:Int)/\(c.toNat:Int)<=70)
section
variable(s : δ ζ) (f k : Nat) (acc : δ ζ)
end
abbrev LM(s:δ ζ):δ ζ:=s.map eQ
def Is(l:δ Prm)(name:δ ζ):δ ζ×η:=match l.find? (λp=>LM p.1==LM name)with|some p=>(p.2.1,μ)|none=>([],ν)
variable{a:Type}
theorem Ps[Inhabited a](l:δ a)(k:Nat)(h:k<γ l):el l (k:Int)=l[k]:=by simp[el,h]
theorem wW[Inhabited a](l:δ a)(k:Nat)(h:k<γ l):l.take (k+1)=l.take k++[el l (k:Int)]:=by rw[List.take_succ_eq_append_getElem h,Ps l k h]
end Go.Px
