/-
  The law ProxyKnown holds: the card of its second form (part 23 of 23).
-/
import Derived.Test.YtogikccgcnhofaaGreatDoorJk22
import Derived.Test.YtogikccgcnhofaaGreatDoorCards
import Derived.Test.YtogikccgcnhofaaGreatDoorTie
import Derived.ChangeMaps5
set_option linter.unusedVariables false
set_option maxRecDepth 100000
namespace Go.Proofs.YtogikccgcnhofaaGreatDoor.proxyKnown
open Go.Ce Go.ChangeShapes Go.WideShapes Go.ChangeAt Go.ChangeMaps Go.RowKit Go.Wk
theorem contract(H:Type)(enc:TypeId×Value->H)(W:World)(base:Nat)(args:Array Value)(ds gs:List (DataW H))(before:List MemPlace)
  (hval:∀(j:Nat) t v,Tryz.f3.params[j]? =some t->args[j]? =some v->Value.okWide Tryz.prog W .any base t v)
  (hW:DataW.Whole enc Tryz.prog Tryz.f3.params.toList Rows.proxyKnownSpec.vars false W args.toList ds gs before) (hL:laidMetH Tryz.prog Rows.proxyKnownRow.laid W) (hsh:W.ShapedOpen Tryz.prog) (hk:Rows.uptoSmall H (ds++gs)=true):
  Calls Tryz.prog 3 args W fun e W'=>∃v,e=.returned v/\Rows.proxyKnownSpec.post enc Tryz.prog Tryz.f3 false true false false W args v W':=by
 have hW':=hW;obtain⟨p,q,hA0,hV,rfl,hfz,hnd⟩:=hW;have hA:DataW.TrodAll enc Tryz.prog W 0 (fun _=>true) true Tryz.f3.params.toList args.toList ds p:=hA0;rw [Tryz.params3]at hA hval;obtain⟨hargs,rfl,rfl⟩:=trodAll_nil hA;obtain rfl:args= #[]:=by cases args;simp_all
 obtain⟨rfl,rfl⟩:=trodVars_none hV;clear hA0
 try simp only [List.append_nil]at hW'
 have hb:=of_decide_eq_true hk;simp only [List.append_nil,Rows.uptoBulkAll,Rows.uptoBulk]at hb;have hgs:12<=W.heap.size:=heapSize hsh (of_decide_eq_true krf) krf;have walk:=(law_says (glOf hL hsh hgs)).2;refine Calls.mono walk ?_;rintro e W' ⟨v,rfl,rfl,hH⟩
 exact⟨_,rfl,postOf (pa:=[]) (pv:=[]) hW' (fun _ _ _=>trodAll_cons_mk (shut_bool Tryz.underlying4 _) trodAll_mk0) (fun _ _=>trodAll_mk0) (fun _ _=>rfl) (hH.toBelow.frame _)⟩
theorem laid_met(os:Os):laidMet Tryz.prog Rows.proxyKnownRow.laid ((laidWorld os).forCall (fun _ _=>0) ⟨#[], #[],[]⟩).memory:=
 laidMet_of_run' 8 krf krf
theorem reads(os:Os){H:Type}(enc:TypeId×Value->H):∃places,DataW.whole enc Tryz.prog ((laidWorld os).forCall (fun _ _=>0) ⟨#[], #[],[]⟩).memory Tryz.f3.params.toList Rows.proxyKnownSpec.vars false (#[]:Array Value).toList 8=some ([],[],places):=
 ⟨[],by kernel_rfl⟩
theorem lifted(os:Os)(started:os.Started)(H:Type)(enc:TypeId×Value->H)(F:Stop.Interp):
  ReturnsInHanded {} Tryz.checked os 3 .any ((Rows.OpenSpec.upto Rows.proxyKnownSpec).preRow enc Tryz.prog Tryz.f3 Rows.proxyKnownUptoRow.domain false Rows.proxyKnownUptoRow.laid) (((Rows.OpenSpec.upto Rows.proxyKnownSpec).at F).post enc Tryz.prog Tryz.f3 false true false false):=by
 obtain⟨places,hx⟩:=reads os enc;refine returnsInHanded_of_row (C:=Tryz.checked) (s:=Rows.OpenSpec.upto Rows.proxyKnownSpec) own started krf Tryz.func3
  (witness_row_at (enc:=enc) (C:=Tryz.checked) false (laidWorld os) #[] rfl krf krf krf
   (OpenSpec.preRow_of_cond 8 hx krf (fun k hk=>by cases hk;kernel_rfl) krf (laid_met os))) ?_
 intro W base args ds gs before hval hW _ hcond _ hL hsh _;exact contract H enc W base args ds gs before hval hW hL hsh (hcond _ rfl)
theorem fact1:(Rows.proxyKnownUptoRow.inPlace==Tryz.prog.inPlace 3)=true:=by kernel_rfl
theorem fact2:(Rows.proxyKnownUptoRow.unfollowed==Tryz.prog.unfollowed 3)=true:=by kernel_rfl
theorem fact3:(Rows.proxyKnownUptoRow.recurses==Tryz.prog.recurses 3)=true:=by kernel_rfl
theorem fact4:(Rows.proxyKnownUptoRow.named==Tryz.prog.varsNamed 3)=true:=by kernel_rfl
theorem fact5:laidOutB Tryz.prog=true:=by kernel_rfl
theorem fact6:mapsRowed Tryz.prog=true:=by kernel_rfl
theorem facts:joinedFacts Tryz.prog 3 Tryz.f3 (Rows.OpenSpec.upto Rows.proxyKnownSpec).bare Rows.proxyKnownUptoRow=true:=by
 unfold joinedFacts;rw [fact1,fact2,fact3,fact4,fact5,fact6]
 kernel_rfl
theorem said:Rows.ProxyKnownUptoSaid:=
 OpenClaim.holds_of_cond 3 Tryz.f3 rfl rfl rfl rfl rfl rfl rfl ⟨rfl,rfl,rfl,rfl,rfl⟩ rfl rfl rfl rfl rfl krf Tryz.func3 facts
  (of_decide_eq_true krf) (by unfold Func.isWrapper;first|(rw [if_pos (by decide+kernel)];kernel_rfl)|(rw [if_neg (by decide+kernel)];exact⟨rfl,rfl⟩))
  (fun os started H enc _ F=>by rw [OpenClaim.pre_eq_preRow];exact lifted os started H enc F)
theorem plain(f : FuncId)(fn : Func)(hf : Tryz.pinned.checked.prog.funcNamed "dialtone/dialtonelaw24.ProxyKnown" = some f)(hfn : Tryz.pinned.checked.prog.funcs[f]? = some fn) :
  true=Tryz.pinned.checked.prog.looks []/\∀(j:Nat) t,fn.params[j]? =some t->Tryz.pinned.checked.prog.wantsStandIn t=false:=by
 obtain rfl : f = 3 := Option.some.inj ((show Tryz.prog.funcNamed "dialtone/dialtonelaw24.ProxyKnown" = some 3 by kernel_rfl).symm.trans hf) |>.symm
 obtain rfl:fn=Tryz.f3:=(Option.some.inj (Tryz.func3.symm.trans hfn)).symm;refine⟨by kernel_rfl,fun j t ht=> ?_⟩
 rw [Tryz.params3]at ht;have hm:=Array.mem_of_getElem? ht;simp at hm
theorem goes_no {P : Program} (h : (P.funcs.toList.all fun fn => !fn.goes) = true) {c : OpenClaim} (hs : c.start = .entering) : false = c.goesBy P := by
  have h1 : ∀ fn ∈ P.funcs.toList, fn.goes = false := fun fn hf => by
    have := List.all_eq_true.1 h fn hf
    simpa using this
  have h2 : P.funcs.any Func.goes = false := by
    rw [← Array.any_toList, List.any_eq_false]
    exact fun fn hf => by rw [h1 fn hf]; simp
  have h3 : ∀ f, P.goes f = false := fun f => by
    unfold Program.goes
    rw [h2, Bool.and_false, Bool.or_false, List.any_eq_false]
    intro g _
    cases hg : P.funcs[g]? with
    | none => simp
    | some fn => simp [h1 fn (Array.mem_toList_iff.2 (Array.mem_of_getElem? hg))]
  unfold OpenClaim.goesBy Program.goesAt Program.goesFrom
  rw [hs]
  cases P.funcNamed c.func with
  | none => rfl
  | some f => simp [h3 f]
theorem no_go : (Tryz.prog.funcs.toList.all fun fn => !fn.goes) = true := by kernel_rfl
theorem goes_is : false = Rows.proxyKnownUptoRow.goesBy Tryz.pinned.checked.prog := goes_no (P := Tryz.prog) no_go rfl
theorem card:Rows.ProxyKnownUptoCardSaid:=
 Claim7.holds_tied_plain_at .later [] _ _ _ _ said (fun _ h=>by cases h) krf (fun _ h=>by cases h) proxyKnownUpto_row_tie rfl ⟨rfl,rfl⟩ krf rfl plain goes_is
end Go.Proofs.YtogikccgcnhofaaGreatDoor.proxyKnown
