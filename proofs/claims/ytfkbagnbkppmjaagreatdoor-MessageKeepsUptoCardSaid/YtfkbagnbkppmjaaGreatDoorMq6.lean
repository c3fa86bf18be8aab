/-
  The law MessageKeeps holds for a message and texts of at most 1048576 letters together (part 6 of 8).
-/
import Derived.Test.YtfkbagnbkppmjaaGreatDoorMq5
import Derived.Test.YtfkbagnbkppmjaaGreatDoorRows
import Derived.ProofKit
import Derived.OpenShut
import Derived.Deep.DeepHandedRow
import Derived.Lib.LaidTab
import Derived.Shelf.Vars
import Derived.ChangeSame
import Derived.WalkKit
import Derived.SevenTiedAt
import Derived.Deep.Slices
import Derived.ReadAgain
import Derived.Shelf.Strings.Builder1
import Derived.Shelf.Strings.Builder2
import Derived.Shelf.Strings.OnBuilder
import Derived.Shelf.Strings.Trim
import Derived.Shelf.Small.Utf8
import Derived.Shelf.Small.Strs
import Derived.Shelf.Small.Wraps
import Derived.Shelf.Strings.BuilderF
import Derived.Shelf.Strings.BuilderK
import Derived.Shelf.Utf8.RuneCount
import Derived.Shelf.Strings.Builder2Cap
import Derived.Shelf.Strconv.Itoa0
import Derived.Shelf.Strconv.Itoa1
import Derived.Shelf.LaysM
import Derived.Shelf.Strconv.Itoa2
import Derived.Shelf.Strconv.Itoa3
import Derived.Shelf.Strings.Search1
import Derived.Shelf.Strings.Search2
import Derived.Shelf.Strings.Search3
import Derived.Shelf.Strings.Cut
import Derived.Shelf.Strings.Count
import Derived.Shelf.Strings.Shaped
import Derived.Shelf.Strings.LastIndex
import Derived.Shelf.Strings.Prefix
import Derived.Shelf.Strings.Split
import Derived.Shelf.Strings.Fold
import Derived.Shelf.Strings.SplitShaped
import Derived.Shelf.Unicode.Decode
import Derived.Shelf.Strings.Runes
import Derived.Shelf.Strings.RuneCount
import Derived.Shelf.Strings.IndexAny
import Derived.Shelf.Strings.AsciiSet
import Derived.Shelf.Strings.IndexAnyAll
import Derived.Shelf.Strings.Explode
import Derived.Shelf.Unicode.DecodeSlow
import Derived.Shelf.Unicode.DecodeAny
import Derived.Shelf.Unicode.DecodeLast
import Derived.Shelf.Unicode.CaseLookup
import Derived.Shelf.Unicode.CaseConvert
import Derived.Shelf.Strings.BuilderCap
import Derived.Shelf.Bytes.SlIndexSmall
import Derived.Shelf.Bytes.SlIndexAt
import Derived.Shelf.Bytes.SlSearch0
import Derived.Shelf.Bytes.SlSearch1
import Derived.Shelf.Bytes.SlSearch2
import Derived.Shelf.Bytes.SlIndexWhole
import Derived.Ground.SlbCloneProg
import Derived.Shelf.Bytes.SlClone
import Derived.Shelf.Bytes.SlSmallAll
import Derived.Shelf.Bytes.SlEqualAll
import Derived.Ground.SlbtProg
import Derived.Shelf.Bytes.SlCut
import Derived.Ground.PaProg
import Derived.Shelf.Path.Small
import Derived.Shelf.Bytes.Small
import Derived.Shelf.Bytes.IndexByte
import Derived.Test.YtfkbagnbkppmjaaGreatDoorProg
import Derived.Shelf.Strings.SlTrimAscii
set_option linter.constructorNameAsVariable false
set_option linter.unusedVariables false
set_option linter.unusedSimpArgs false
set_option maxRecDepth 20000
namespace Go.Proofs
open Go.Wk Go.Px Go.RowKit
theorem lenOf{s:ByteArray}(h:s.size<=maxLen):s.data.toList.length<=9223372036854775807:=Nat.le_trans (by rw [Array.length_toList];exact h) (show maxLen<=9223372036854775807 by decide)
theorem laidAt{P:Program}{w:World}:∀{l:List (String×DataW Unit)} {ps:List MemPlace},DataW.LaidVars P w l ps->∀(i:Nat) {n:String} {d:DataW Unit},l[i]? =some (n,d)->
  ∃g t cs fuel p,P.globalNamed n=some g/\(P.globals[g]?).map (·.type)=some t/\w.var? P n=some cs/\DataW.trod (fun _=>()) P w 0 (fun _=>true) false fuel t cs.toList=some (d,p)
 |[],_,_,i,n,d,hi=>by simp at hi
 |(n',d')::l,ps,h,0,n,d,hi=>by
  obtain⟨g,t,cs,fuel,p,q,h1,h2,h3,h4,_,_⟩:=h;simp only [List.getElem?_cons_zero,Option.some.injEq,Prod.mk.injEq]at hi;obtain⟨rfl,rfl⟩:=hi;exact⟨g,t,cs,fuel,p,h1,h2,h3,h4⟩
 |(n',d')::l,ps,h,i+1,n,d,hi=>by
  obtain⟨g,t,cs,fuel,p,q,_,_,_,_,h5,_⟩:=h;exact laidAt h5 i (by simpa using hi)
theorem vrOf{P:Program}{w:World}{n:String}{g:Nat}{cs:Array Value}(hg:P.globalNamed n=some g)(h:w.var? P n=some cs):Vr w g cs.toList:=by
 simp only [World.var?,hg,Option.bind_some]at h;split at h
 ·rename_i cs' t f e;cases h
  exact⟨t,f,by rw [e]⟩
 ·cases h
theorem chunks{α:Type}{f:α->List Value}{sz:Nat}:∀(zs:List α) (cs:List Value),cs.length=zs.length*sz->(∀(i:Nat) (z:α),zs[i]? =some z->(cs.drop (i*sz)).take sz=f z)->cs=zs.flatMap f
 |[],cs,hl,_=>by simpa using hl
 |z::zs,cs,hl,h=>by
  have h0:=h 0 z rfl;simp only [Nat.zero_mul,List.drop_zero]at h0;have h1:=chunks (f:=f) (sz:=sz) zs (cs.drop sz) (by rw [List.length_drop,hl,List.length_cons,Nat.succ_mul];omega) (fun i z' hi=>by
   have:=h (i+1) z' (by simpa using hi)
   rw [List.drop_drop,Nat.add_comm,<-Nat.succ_mul];exact this)
  rw [List.flatMap_cons,<-h0,<-h1,List.take_append_drop]
theorem arrCells{P:Program}{w:World}{fuel n sz:Nat}{t e:TypeId}{cs:List Value}{p:List MemPlace}{α:Type}{dz:α->DataW Unit}{f:α->List Value}(zs:List α)
  (ht:P.underlying t=some (.array n e)) (hce:P.cellsOf e=sz) (hct:P.cellsOf t=n*sz) (hz:zs.length=n)
  (hel:∀fuel cs' z p,DataW.trod (fun _=>()) P w 0 (fun _=>true) false fuel e cs'=some (dz z,p)->cs'=f z)
  (h:DataW.trod (fun _=>()) P w 0 (fun _=>true) false fuel t cs=some (.agg (zs.map dz),p)):cs=zs.flatMap f:=by
 cases fuel with
 |zero=>simp [DataW.trod]at h
 |succ fuel=>
  simp only [DataW.trod,ht,hce,hct]at h;split at h
  ·rename_i hl;obtain⟨xs,hm,hx⟩:=Option.map_eq_some_iff.1 h;have hxs:xs.map (·.1)=zs.map dz:=by
    have:=congrArg Prod.fst hx
    simpa using this
   refine chunks zs cs (by rw [hl,hz]) fun i z hi=> ?_
   have hi':i<n:=by rw [<-hz];exact(List.getElem?_eq_some_iff.1 hi).1
   obtain⟨b,hb,hf⟩:=Lib.mapM_at hm i i (by simp [hi']);have hb1:b.1=dz z:=by
    have e1:(xs.map (·.1))[i]? =some b.1:=by simp [hb]
    rw [hxs]at e1;simp only [List.getElem?_map,hi,Option.map_some,Option.some.injEq]at e1;exact e1.symm
   exact hel fuel _ z b.2 (by rw [hf,<-hb1])
  ·cases h
theorem strCell{P:Program}{w:World}{fuel:Nat}{e:TypeId}{cs:List Value}{p:List MemPlace}(he:P.underlying e=some .string)(z:List UInt8)
  (h:DataW.trod (fun _=>()) P w 0 (fun _=>true) false fuel e cs=some (.lit (.string z),p)):cs=eS z:=by
 obtain⟨s,rfl,hx,_⟩:=DataW.trod_string he h;simp only [Prod.mk.injEq,DataW.lit.injEq,Lit.string.injEq]at hx;obtain⟨rfl,_⟩:=hx;rfl
theorem intCell{P:Program}{w:World}{fuel:Nat}{e:TypeId}{k:IntKind}{cs:List Value}{p:List MemPlace}(he:P.underlying e=some (.int k))(z:Int)
  (h:DataW.trod (fun _=>()) P w 0 (fun _=>true) false fuel e cs=some (.lit (.int k z),p)):cs=[.int k z]:=by
 obtain⟨n,rfl,hx,_⟩:=DataW.trod_int he h;simp only [Prod.mk.injEq,DataW.lit.injEq,Lit.int.injEq]at hx;obtain⟨⟨_,rfl⟩,_⟩:=hx;rfl
theorem pairCell{P:Program}{w:World}{fuel:Nat}{e a b:TypeId}{f0 f1:Field}{k:IntKind}{cs:List Value}{p:List MemPlace}(he:P.underlying e=some (.struct #[f0,f1]))(ha:P.underlying a=some .string)(hb:P.underlying b=some (.int k))
  (h0:(f0.type,f0.offset,f1.type,f1.offset)=(a,0,b,1)) (hca:P.cellsOf a=1) (hcb:P.cellsOf b=1) (hc:P.cellsOf e=2) (z:List UInt8×Int)
  (h:DataW.trod (fun _=>()) P w 0 (fun _=>true) false fuel e cs=some (.agg [.lit (.string z.1),.lit (.int k z.2)],p)):cs=[str z.1,.int k z.2]:=by
 obtain⟨z1,z2⟩:=z;simp only [Prod.mk.injEq]at h0;obtain⟨t0,o0,t1,o1⟩:=h0;cases fuel with
 |zero=>simp [DataW.trod]at h
 |succ fuel=>
  simp only [DataW.trod,he,hc]at h;split at h
  ·rename_i hl;obtain⟨xs,hm,hx⟩:=Option.map_eq_some_iff.1 h;simp only [List.mapM_cons,List.mapM_nil,Option.bind_eq_bind,Option.bind_eq_some_iff,Option.pure_def,Option.some.injEq,t0,t1,o0,o1,hca,hcb,List.drop_zero]at hm;obtain⟨x0,hx0,r0,⟨x1,hx1,r1,rfl,rfl⟩,rfl⟩:=hm;simp only [List.map_cons,List.map_nil,Prod.mk.injEq,DataW.agg.injEq,List.cons.injEq,and_true]at hx;obtain⟨⟨e0,e1⟩,_⟩:=hx;have g0:=strCell ha z1 (p:=x0.2) (by rw [hx0,<-e0]);have g1:=intCell hb z2 (p:=x1.2) (by rw [hx1,<-e1])
   match cs,hl,g0,g1 with
   |[u,v],_,g0,g1=>
    simp only [List.take_succ_cons,List.take_zero,List.drop_succ_cons,List.drop_zero,eS,List.cons.injEq,and_true]at g0 g1;rw [g0,g1]
  ·cases h
theorem intVar{P:Program}{w:World}{g:Nat}{t:TypeId}{zero:Array Value}{k:IntKind}(h:w.ShapedOpen P)(hg:g<P.globals.size)
  (h0:((begin P (fun _ _=>0) default).world.heap[g]?).bind Obj.row? =some (zero,t)) (hz:zero.size=1)
  (hb:P.buildable t=true) (hc:P.cellTypes P.depth t=some [t]) (hu:P.underlying t=some (.int k)):∃m,Vr w g [.int k m]:=by
 obtain⟨m,hm⟩:=cell_of_shapedOpen_int h hg h0 hz hb hc hu;obtain⟨cs,hh,hs,_⟩:=h.1 g zero t hg h0;refine⟨m,t,(0,0), ?_⟩
 rw [hh];have h1:cs.size=1:=by omega
 have h2:cs[0]? =some (.int k m):=by
  have:w.cell? ⟨g,0,none⟩=cs[0]? :=by simp [World.cell?,hh]
  rw [<-this];exact hm
 have e:cs=[Value.int k m].toArray:=by
  apply Array.ext
  ·simp [h1]
  ·intro i hi hi'
   have:i=0:=by omega
   subst this;simpa [hi] using h2
 rw [e]
theorem heapSize{P:Program}{w:World}{g:Nat}(h:w.ShapedOpen P)(hg:g<P.globals.size)(h0:(((begin P (fun _ _=>0) default).world.heap[g]?).bind Obj.row?).isSome=true):g+1<=w.heap.size:=by
 obtain⟨⟨zero,t⟩,h1⟩:=Option.isSome_iff_exists.1 h0;obtain⟨cs,hh,_⟩:=h.1 g zero t hg h1;exact(Array.getElem?_eq_some_iff.1 hh).1
theorem laidOf{P:Program}{l:List (String×DataW Unit)}{w:World}(h:laidMetH P l w)(hn:(l.filter fun x=>x.2.handleName?.isSome)=[]):∃ps,DataW.LaidVars P w l ps:=by
 unfold laidMetH at h;rw [hn]at h;obtain⟨ps,h1,_⟩:=h;exact⟨ps,h1⟩
theorem postOf{H:Type}{enc:TypeId×Value->H}{P:Program}{f:Func}{s:ChangeSpec}{apart fresh handsOn:Bool}{W W':World}{args:Array Value}{v:Value}{ds gs:List (DataW H)}{before pa pv:List MemPlace}
  (hW:DataW.Whole enc P f.params.toList s.vars apart W args.toList ds gs before)
  (hres:∀(b:Nat) (sp:Nat->Bool) (hd:Bool),DataW.TrodAll enc P W' b sp hd f.resultTypes.toList (v.resultList f.resultTypes.size) (s.fn H (ds++gs)).results [])
  (hargs:∀sp:Nat->Bool,(∀p∈before,sp p.block=true)->DataW.TrodAll enc P W' 0 sp true f.params.toList args.toList (s.fn H (ds++gs)).args pa)
  (hvars:∀sp:Nat->Bool,(∀p∈before,sp p.block=true)->DataW.TrodVars enc P W' sp s.vars (s.fn H (ds++gs)).vars pv)
  (hk:W.keptBut W' (fun p=>p∈before/\(p∈([]:List MemPlace)\/p∈pa\/p∈pv))):s.post enc P f apart fresh handsOn false W args v W':=by
 have hold:∀p∈before,(fun b=>decide (b<W.heap.size)) p.block=true:=fun p hp=>by simpa using hW.lt p hp
 exact⟨ds,gs,before,[],pa,pv,hW,hres _ _ _,hargs _ hold,hvars _ hold,hk,fun h=>by cases h⟩
end Go.Proofs
set_option maxRecDepth 100000
namespace Go.Proofs
open Go.Wk Go.Px Go.RowKit
theorem glOf{W:World}(hL:laidMetH Tryz.prog YtfkbagnbkppmjaaGreatDoor.Rows.messageKeepsRow.laid W)(hsh:W.ShapedOpen Tryz.prog)(hs:12<=W.heap.size):Gl W:=by
 obtain⟨ps,h⟩:=laidOf hL krf;have v0:Vr W 0 (List.flatMap eS ada):=by
  obtain⟨g,t,cs,fuel,p,h1,h2,h3,h4⟩:=laidAt h 3 rfl;obtain rfl := Option.some.inj ((show Tryz.prog.globalNamed "dialtone/header.specials" = some 0 by kernel_rfl).symm.trans h1);obtain rfl:=Option.some.inj ((show(Tryz.prog.globals[0]?).map (·.type)=some 85 by kernel_rfl).symm.trans h2);have e:=arrCells (dz:=fun s=>.lit (.string s)) (f:=eS) ada Tryz.underlying85 (show Tryz.prog.cellsOf 9=1 by kernel_rfl) krf rfl (fun _ _ z _ h=>strCell Tryz.underlying9 z h) h4
  have:=vrOf h1 h3
  rw [e]at this;exact this
 have v2:Vr W 2 (List.flatMap ais acn):=by
  obtain⟨g,t,cs,fuel,p,h1,h2,h3,h4⟩:=laidAt h 4 rfl;obtain rfl := Option.some.inj ((show Tryz.prog.globalNamed "dialtone/header.kinds" = some 2 by kernel_rfl).symm.trans h1);obtain rfl:=Option.some.inj ((show(Tryz.prog.globals[2]?).map (·.type)=some 190 by kernel_rfl).symm.trans h2);have e:=arrCells (dz:=fun z=>.agg [.lit (.string z.1),.lit (.int .i64 z.2)]) (f:=ais) acn Tryz.underlying190 (show Tryz.prog.cellsOf 189=2 by kernel_rfl) krf rfl (fun _ _ z _ h=>pairCell Tryz.underlying189 Tryz.underlying9 Tryz.underlying156 rfl krf krf krf z h) h4
  have:=vrOf h1 h3
  rw [e]at this;exact this
 have v3:Vr W 3 (Lib.pow10Tab.map fun z=>Value.int .u64 z):=by
  obtain⟨g,t,cs,fuel,p,h1,h2,h3,h4⟩:=laidAt h 2 rfl;obtain rfl := Option.some.inj ((show Tryz.prog.globalNamed "internal/strconv.uint64pow10" = some 3 by kernel_rfl).symm.trans h1);obtain rfl:=Option.some.inj ((show(Tryz.prog.globals[3]?).map (·.type)=some 246 by kernel_rfl).symm.trans h2);have e:=Lib.cells_of_tab (zs:=Lib.pow10Tab) (k:=.u64) Tryz.underlying246 Tryz.underlying209 krf krf h4
  have:=vrOf h1 h3
  rw [e]at this;exact this
 have v1:∃m,Vr W 1 [.int .i64 m]:=intVar (zero:= #[.int .i64 0]) (t:=3) hsh (of_decide_eq_true krf) krf rfl krf krf Tryz.underlying3;exact {gs:=hs,specials:=v0,kinds:=v2,pow10:=v3,maxlen:=v1}
def laidCells(g:Nat)(o:Obj):Obj:=
 match o with
 |.cells c t fz=>.cells (match g with
  |10=> #[.int .u8 0,.int .u8 1,.int .u8 28,.int .u8 2,.int .u8 29,.int .u8 14,.int .u8 24,.int .u8 3,.int .u8 30,.int .u8 22,.int .u8 20,.int .u8 15,.int .u8 25,.int .u8 17,.int .u8 4,.int .u8 8,.int .u8 31,.int .u8 27,.int .u8 13,.int .u8 23,.int .u8 21,.int .u8 19,.int .u8 16,.int .u8 7,.int .u8 26,.int .u8 12,.int .u8 18,.int .u8 6,.int .u8 11,.int .u8 5,.int .u8 10,.int .u8 9]
  |11=> #[.int .u8 0,.int .u8 1,.int .u8 56,.int .u8 2,.int .u8 57,.int .u8 49,.int .u8 28,.int .u8 3,.int .u8 61,.int .u8 58,.int .u8 42,.int .u8 50,.int .u8 38,.int .u8 29,.int .u8 17,.int .u8 4,.int .u8 62,.int .u8 47,.int .u8 59,.int .u8 36,.int .u8 45,.int .u8 43,.int .u8 51,.int .u8 22,.int .u8 53,.int .u8 39,.int .u8 33,.int .u8 30,.int .u8 24,.int .u8 18,.int .u8 12,.int .u8 5,.int .u8 63,.int .u8 55,.int .u8 48,.int .u8 27,.int .u8 60,.int .u8 41,.int .u8 37,.int .u8 16,.int .u8 46,.int .u8 35,.int .u8 44,.int .u8 21,.int .u8 52,.int .u8 32,.int .u8 23,.int .u8 11,.int .u8 54,.int .u8 26,.int .u8 40,.int .u8 15,.int .u8 34,.int .u8 20,.int .u8 31,.int .u8 10,.int .u8 25,.int .u8 14,.int .u8 19,.int .u8 9,.int .u8 13,.int .u8 8,.int .u8 7,.int .u8 6]
  |3=> #[.int .u64 1,.int .u64 10,.int .u64 100,.int .u64 1000,.int .u64 10000,.int .u64 100000,.int .u64 1000000,.int .u64 10000000,.int .u64 100000000,.int .u64 1000000000,.int .u64 10000000000,.int .u64 100000000000,.int .u64 1000000000000,.int .u64 10000000000000,.int .u64 100000000000000,.int .u64 1000000000000000,.int .u64 10000000000000000,.int .u64 100000000000000000,.int .u64 1000000000000000000,.int .u64 10000000000000000000]
  |0=> #[str [67,97,108,108,45,73,68],str [67,83,101,113],str [77,73,77,69,45,86,101,114,115,105,111,110],str [77,105,110,45,83,69],str [82,65,99,107],str [82,83,101,113],str [87,87,87,45,65,117,116,104,101,110,116,105,99,97,116,101]]
  |2=> #[str [70,114,111,109],.int .i64 1,str [84,111],.int .i64 1,str [67,111,110,116,97,99,116],.int .i64 1,str [82,111,117,116,101],.int .i64 1,str [82,101,99,111,114,100,45,82,111,117,116,101],.int .i64 1,str [80,97,116,104],.int .i64 1,str [83,101,114,118,105,99,101,45,82,111,117,116,101],.int .i64 1,str [82,101,102,101,114,45,84,111],.int .i64 1,str [82,101,102,101,114,114,101,100,45,66,121],.int .i64 1,str [82,101,112,108,121,45,84,111],.int .i64 1,str [86,105,97],.int .i64 2,str [67,83,101,113],.int .i64 3,str [82,65,99,107],.int .i64 4,str [67,111,110,116,101,110,116,45,76,101,110,103,116,104],.int .i64 5,str [69,120,112,105,114,101,115],.int .i64 5,str [77,97,120,45,70,111,114,119,97,114,100,115],.int .i64 5,str [77,105,110,45,69,120,112,105,114,101,115],.int .i64 5,str [82,83,101,113],.int .i64 5,str [67,111,110,116,101,110,116,45,68,105,115,112,111,115,105,116,105,111,110],.int .i64 6,str [67,111,110,116,101,110,116,45,84,121,112,101],.int .i64 6,str [69,118,101,110,116],.int .i64 6,str [77,105,110,45,83,69],.int .i64 6,str [83,101,115,115,105,111,110,45,69,120,112,105,114,101,115],.int .i64 6,str [83,117,98,115,99,114,105,112,116,105,111,110,45,83,116,97,116,101],.int .i64 6,str [65,99,99,101,112,116],.int .i64 7,str [65,108,108,111,119],.int .i64 7,str [65,108,108,111,119,45,69,118,101,110,116,115],.int .i64 7,str [80,114,111,120,121,45,82,101,113,117,105,114,101],.int .i64 7,str [82,101,113,117,105,114,101],.int .i64 7,str [83,117,112,112,111,114,116,101,100],.int .i64 7,str [85,110,115,117,112,112,111,114,116,101,100],.int .i64 7]
  |_=>c) t fz
 |o=>o
noncomputable def laidWorld(os:Os):World:={World.holding Tryz.prog os ⟨#[], #[],[]⟩with heap:=(World.holding Tryz.prog os ⟨#[], #[],[]⟩).heap.mapIdx laidCells}
theorem own:ownKnob Tryz.prog.godebug=none:=by kernel_rfl
open YtfkbagnbkppmjaaGreatDoor.Rows (uptoBulk uptoBulkAll)
theorem same_below{W W':World}(h:Below W.heap.size W W'){p:MemPlace}(hp:p.block<W.heap.size):W.sameAt W' p:=by
 cases p with
 |cell b off=>
  show W'.cell? _=W.cell? _;unfold World.cell?;rw [h.block b hp]
 |map b=>exact h.block b hp
theorem carryAll{H:Type}{enc:TypeId×Value->H}{P:Program}{W W':World}{sp:Nat->Bool}:∀{ts:List TypeId} {vs:List Value} {ds:List (DataW H)} {ps:List MemPlace},DataW.TrodAll enc P W 0 sp true ts vs ds ps->(∀p∈ps,W.sameAt W' p)->DataW.TrodAll enc P W' 0 sp true ts vs ds ps
 |[],[],[],_,h,_=>h
 |_::_,_::_,_::_,_,⟨p,q,⟨n,h1⟩,h2,e⟩,hs=>⟨p,q,⟨n,DataW.trod_carry n _ _ _ h1 fun x hx=>hs x (by rw [e];exact List.mem_append_left _ hx)⟩,carryAll h2 fun x hx=>hs x (by rw [e];exact List.mem_append_right _ hx),e⟩
theorem again{H:Type}{enc:TypeId×Value->H}{P:Program}{W W':World}{ts:List TypeId}{vs:List Value}{ds:List (DataW H)}{ps:List MemPlace}(hl:laidOutB P=true)(hm:mapsRowed P=true)
  (hf:((List.range P.types.size).all fun t=>match P.underlying t with|some (.slice e)=>decide (0<P.cellsOf e)|_=>true)=true) (hts:(ts.all fun t=>decide (t<P.types.size))=true)
  (h:DataW.TrodAll enc P W 0 (fun _=>true) true ts vs ds ps) (hb:Below W.heap.size W W') (hlt:∀p∈ps,p.block<W.heap.size) (sp:Nat->Bool) (hsp:∀p∈ps,sp p.block=true):DataW.TrodAll enc P W' 0 sp true ts vs ds ps:=by
 refine carryAll (DataW.TrodAll.respare (kids_rows hl hm) (slices_full_of P hf) (fun t ht=> ?_) h hsp) fun p hp=>same_below hb (hlt p hp)
 have:=List.all_eq_true.1 hts t ht
 simpa using this
def Dec(P:Program)(w:World){H:Type}(enc:TypeId×Value->H){α:Type}(t:TypeId)(f:α->List Value)(good:α->Prop)(sz:α->Nat):Prop:=
 ∀(base:Nat) (sp:Nat->Bool) (hd:Bool) (fuel:Nat) (cs:List Value) (x:DataW H×List MemPlace),DataW.trod enc P w base sp hd fuel t cs=some x->∃z,cs=f z/\good z/\sz z<=uptoBulk x.1
section
variable {P : Program} {w : World} {H : Type} {enc : TypeId × Value -> H} {t : TypeId}
theorem ahx(ht:P.underlying t=some .string):Dec P w enc t eS (fun s=>s.length<=9223372036854775807) (fun s=>s.length):=by
 intro base sp hd fuel cs x h;obtain⟨s,rfl,hx,hs⟩:=DataW.trod_string ht h;refine⟨s.data.toList,rfl,lenOf hs, ?_⟩
 rw [hx];simp [uptoBulk]
theorem dec_int{k:IntKind}(ht:P.underlying t=some (.int k)):Dec P w enc t (eI k) (fun n=>(Lit.int k n).wf=true) (fun _=>0):=by
 intro base sp hd fuel cs x h;obtain⟨n,rfl,hx,hs⟩:=DataW.trod_int ht h;exact⟨n,rfl,hs,Nat.zero_le _⟩
theorem bulk_range{n:Nat}{D:Nat->DataW H}{α:Type}{sz:α->Nat}:∀(zs:List α),zs.length=n->(∀i (h:i<zs.length),sz zs[i]<=uptoBulk (D i))->(zs.map sz).sum<=uptoBulkAll ((List.range n).map D):=by
 intro zs;induction zs generalizing n D with
 |nil=>intro hn _;subst hn;simp
 |cons z zs ih=>
  intro hn h;subst hn;have h0:=h 0 (by simp)
  have:=ih (n:=zs.length) (D:=fun i=>D (i+1)) rfl (fun i hi=>by have:=h (i+1) (by simp;omega);simpa using this)
  rw [List.length_cons,List.range_succ_eq_map,List.map_cons,List.map_cons,List.sum_cons,uptoBulkAll,List.map_map];simp only [List.getElem_cons_zero]at h0;exact Nat.add_le_add h0 this
theorem cells_app{base:Nat}{a:Addr}{n:Nat}{cs:List Value}(h:w.cells? base a n=some cs):cs.length=n/\∀j v,cs[j]? =some v->w.cell? (a.add j)=some v:=by
 obtain⟨h1,h2,h3⟩:=World.cells?_some h;exact⟨h2,fun j v hj=>(h3 j (by have:=(List.getElem?_eq_some_iff.1 hj).1;omega)).trans hj⟩
theorem dec_slice{e:TypeId}{α:Type}{f:α->List Value}{good:α->Prop}{sz:α->Nat}(ht:P.underlying t=some (.slice e))(he:Dec P w enc e f good sz){base:Nat}{sp:Nat->Bool}{hd:Bool}{fuel:Nat}{cs:List Value}{x:DataW H×List MemPlace}
  (h:DataW.trod enc P w base sp hd fuel t cs=some x):∃a n cap,∃zs:List α,cs=[.slice a n cap]/\n=zs.length/\n<=cap/\Rd w a (zs.flatMap f)/\(∀z∈zs,good z)/\(zs.map sz).sum<=uptoBulk x.1:=by
 rcases Deep.open_slice ht h with⟨rfl,rfl⟩|⟨a,len,cap,m,n,D,Pl,rfl,hb,hl,hm,hmm,rfl,hx⟩
 ·exact⟨none,0,0,[],rfl,rfl,Nat.le_refl _,fun j v hj=>by simp at hj,fun z hz=>by simp at hz,Nat.zero_le _⟩
 ·have hlm:len<=m:=by rw [hmm];split<;>omega
  have key:∀k,k<=len->∃zs:List α,zs.length=k/\(∀z∈zs,good z)/\(∀i (hi:i<zs.length),sz zs[i]<=uptoBulk (D i))/\(zs.flatMap f).length=k*P.cellsOf e/\∀j v,(zs.flatMap f)[j]? =some v->w.cell? (a.add j)=some v:=by
   intro k;induction k with
   |zero=>intro _;exact⟨[],rfl,fun z hz=>by simp at hz,fun i hi=>by simp at hi,by simp,fun j v hj=>by simp at hj⟩
   |succ k ih=>
    intro hk;obtain⟨zs,h1,h2,h3,h4,h5⟩:=ih (by omega);obtain⟨cs',hc,ht'⟩:=hx k (by omega);obtain⟨z,rfl,hg,hs⟩:=he _ _ _ _ _ _ ht';obtain⟨hcl,hcc⟩:=cells_app hc;refine⟨zs++[z],by simp [h1],fun y hy=> ?_,fun i hi=> ?_, ?_,fun j v hj=> ?_⟩
    ·rcases List.mem_append.1 hy with hy|hy
     ·exact h2 y hy
     ·rw [List.mem_singleton.1 hy];exact hg
    ·by_cases hik:i<zs.length
     ·rw [List.getElem_append_left hik];exact h3 i hik
     ·have:i=k:=by simp at hi;omega
      subst this;simp only [h1.symm,List.getElem_concat_length];rw [h1];exact hs
    ·simp [h4,hcl,Nat.succ_mul]
    ·rw [List.flatMap_append,List.flatMap_singleton]at hj;by_cases hjl:j<(zs.flatMap f).length
     ·rw [List.getElem?_append_left hjl]at hj;exact h5 j v hj
     ·rw [List.getElem?_append_right (by omega),h4]at hj
      have:=hcc _ _ hj
      rw [h4]at hjl;have e:(a.add (k*P.cellsOf e)).add (j-k*P.cellsOf e)=a.add j:=by
       rw [Go.Wk.add_add];congr 1
       omega
      rw [e]at this;exact this
  obtain⟨zs,h1,h2,h3,h4,h5⟩:=key len (Nat.le_refl _);refine⟨some a,len,cap,zs,rfl,h1.symm,hl,fun j v hj=>⟨a,rfl,h5 j v hj⟩,h2, ?_⟩
  have:=bulk_range (sz:=sz) zs h1 h3
  simp only [uptoBulk];omega
theorem dec_u8n(ht:P.underlying t=some (.int .u8)):Dec P w enc t eB (fun _=>True) (fun _=>1):=by
 intro base sp hd fuel cs x h;obtain⟨n,rfl,hx,hs⟩:=DataW.trod_int ht h;have h1:0<=n/\n<=255:=by simpa [Lit.wf,show IntKind.u8.min=0 by decide,show IntKind.u8.max=255 by decide] using hs
 refine⟨UInt8.ofNat n.toNat, ?_,trivial, ?_⟩
 ·have:((UInt8.ofNat n.toNat).toNat:Int)=n:=by rw [UInt8.toNat_ofNat'];omega
  simp only [eB,bt,this]
 ·rw [hx];simp [uptoBulk]
theorem sum_one{α:Type}:∀l:List α,(l.map fun _=>1).sum=l.length
 |[]=>rfl
 |a::l=>by rw [List.map_cons,List.sum_cons,sum_one l,List.length_cons];omega
theorem dec_bytes{e:TypeId}(ht:P.underlying t=some (.slice e))(he:P.underlying e=some (.int .u8)){base:Nat}{sp:Nat->Bool}{hd:Bool}{fuel:Nat}{cs:List Value}{x:DataW H×List MemPlace}
  (h:DataW.trod enc P w base sp hd fuel t cs=some x):∃a n cap,∃zs:List UInt8,cs=[.slice a n cap]/\n=zs.length/\n<=cap/\Rd w a (zs.flatMap eB)/\(∀z∈zs,True)/\zs.length<=uptoBulk x.1:=by
 obtain⟨a,n,cap,zs,h1,h2,h3,h4,h5,h6⟩:=dec_slice ht (dec_u8n he) h;rw [sum_one]at h6;exact⟨a,n,cap,zs,h1,h2,h3,h4,h5,h6⟩
def flatT:TypeDesc->Bool
 |.struct _=>false
 |.array _ _=>false
 |_=>true
theorem oneCellOf{base:Nat}{v x:Value}{ty:TypeDesc}(ht:P.underlying t=some ty)(hval:Value.okWide P w .any base t v)(hf:flatT ty=true)(e:v.cells.toList=[x]):v=x:=by
 cases v with
 |agg cs=>
  exfalso;unfold Value.okWide Cell.okWide Cell.ok at hval;rw [ht]at hval;cases ty<;>first|(simp [flatT]at hf;done)|simp at hval
 |_=>simpa [Value.cells] using e
end
open Go.Shelf
open Go.Lib renaming join -> zaD
def Tryz.lays156_ren:Go.Shelf.Ren:=⟨fun|156=>41|165=>75|166=>76|169=>77|240=>108|241=>109|276=>145|277=>146|n=>n,fun|31=>46|9=>9|3=>3|4=>4|0=>0|20=>20|72=>124|76=>128|70=>122|37=>23|75=>127|127=>159|164=>195|5=>5|80=>130|n=>n,fun|n=>n⟩
theorem Tryz.lays156:Go.Proofs.Lays.n156 Tryz.prog Tryz.lays156_ren:={
 mixed:=by kernel_rfl
 f156:=Tryz.func41.trans ksf
 f165:=Tryz.func75.trans ksf
 f166:=Tryz.func76.trans ksf
 f169:=Tryz.func77.trans ksf
 f240:=Tryz.func108.trans ksf
 f241:=Tryz.func109.trans ksf
 f276:=Tryz.func145.trans ksf
 f277:=Tryz.func146.trans ksf
 t0:=Tryz.underlying0
 a0:=Tryz.isAgg0
 z0:=Tryz.sizeOf0
 v0:=Tryz.zeroValue0
 t3:=Tryz.underlying3
 a3:=Tryz.isAgg3
 z3:=Tryz.sizeOf3
 v3:=Tryz.zeroValue3
 t4:=Tryz.underlying4
 a4:=Tryz.isAgg4
 z4:=Tryz.sizeOf4
 v4:=Tryz.zeroValue4
 t9:=Tryz.underlying9
 a9:=Tryz.isAgg9
 z9:=Tryz.sizeOf9
 v9:=Tryz.zeroValue9
 t20:=Tryz.underlying20
 a20:=Tryz.isAgg20
 z20:=Tryz.sizeOf20
 v20:=Tryz.zeroValue20
 t31:=Tryz.underlying46
 a31:=Tryz.isAgg46
 z31:=Tryz.sizeOf46
 v31:=Tryz.zeroValue46
 t37:=Tryz.underlying23
 a37:=Tryz.isAgg23
 z37:=Tryz.sizeOf23
 v37:=Tryz.zeroValue23
 t70:=Tryz.underlying122
 a70:=Tryz.isAgg122
 z70:=Tryz.sizeOf122
 v70:=Tryz.zeroValue122
 t72:=Tryz.underlying124
 a72:=Tryz.isAgg124
 z72:=Tryz.sizeOf124
 v72:=Tryz.zeroValue124
 t75:=Tryz.underlying127
 a75:=Tryz.isAgg127
 z75:=Tryz.sizeOf127
 v75:=Tryz.zeroValue127
 t76:=Tryz.underlying128
 a76:=Tryz.isAgg128
 z76:=Tryz.sizeOf128
 v76:=Tryz.zeroValue128
 t127:=Tryz.underlying159
 a127:=Tryz.isAgg159
 z127:=Tryz.sizeOf159
 v127:=Tryz.zeroValue159
 t164:=Tryz.underlying195
 a164:=Tryz.isAgg195
 z164:=Tryz.sizeOf195
 v164:=Tryz.zeroValue195}
theorem Tryz.Builder_Extra_156:Builder.Extra Tryz.prog Tryz.lays156_ren:={
 sizeBuilder:=by kernel_rfl
 liesBuilder:=by kernel_rfl
 t5:=Tryz.underlying5
 a5:=Tryz.isAgg5
 z5:=Tryz.sizeOf5
 v5:=Tryz.zeroValue5
 infoByte:=by kernel_rfl
 cellsByte:=by kernel_rfl
 sizeByte:=by kernel_rfl
 neB5:=by decide}
open Go.RowKit in
theorem Tryz.strings_Join_none (a : Option Addr) (c : Nat) (sep : ByteArray) (w : World) :
    Calls Tryz.prog 41 #[.slice a 0 c, .string sep] w fun e w' => e = .returned (.string ⟨#[]⟩) /\ w' = w := Any.strings_Join_none Tryz.lays156 Tryz.Builder_Extra_156 a c sep w
open Go.RowKit in
theorem Tryz.strings_Join (bk o c : Nat) (xs : List ByteArray) (sep : ByteArray) (w : World) (hcells : ∀ (j : Nat) x, xs[j]? = some x -> w.cell? ⟨bk, o + j, none⟩ = some (.string x)) (hbk : bk < w.heap.size) (hN : xs.length <= 140737488355328) (hcap : xs.length <= c) (hlen : (zaD (xs.map (·.data.toList)) sep.data.toList).length <= 140737488355328) :
    Calls Tryz.prog 41 #[.slice (some ⟨bk, o, none⟩) xs.length c, .string sep] w fun e w' => e = .returned (.string ⟨(zaD (xs.map (·.data.toList)) sep.data.toList).toArray⟩) /\ Below w.heap.size w w' := Any.strings_Join Tryz.lays156 Tryz.Builder_Extra_156 bk o c xs sep w hcells hbk hN hcap hlen
def Tryz.lays161_ren:Go.Shelf.Ren:=⟨fun|161=>254|231=>153|227=>155|233=>156|235=>158|228=>186|197=>187|151=>188|260=>221|152=>207|137=>143|119=>236|224=>127|225=>149|217=>148|266=>184|n=>n,fun|9=>9|4=>4|3=>3|5=>5|117=>201|116=>200|0=>0|124=>204|105=>227|21=>21|119=>285|46=>170|139=>288|138=>287|n=>n,fun|3=>8|4=>9|n=>n⟩
theorem Tryz.lays161:Go.Proofs.Lays.n161 Tryz.prog Tryz.lays161_ren:={
 mixed:=by kernel_rfl
 f119:=Tryz.func236.trans ksf
 f137:=Tryz.func143.trans ksf
 f151:=Tryz.func188.trans ksf
 f152:=Tryz.func207.trans ksf
 f161:=Tryz.func254.trans ksf
 f197:=Tryz.func187.trans ksf
 f217:=Tryz.func148.trans ksf
 f224:=Tryz.func127.trans ksf
 f225:=Tryz.func149.trans ksf
 f227:=Tryz.func155.trans ksf
 f228:=Tryz.func186.trans ksf
 f231:=Tryz.func153.trans ksf
 f233:=Tryz.func156.trans ksf
 f235:=Tryz.func158.trans ksf
 f260:=Tryz.func221.trans ksf
 f266:=Tryz.func184.trans ksf
 t0:=Tryz.underlying0
 a0:=Tryz.isAgg0
 z0:=Tryz.sizeOf0
 v0:=Tryz.zeroValue0
 t3:=Tryz.underlying3
 a3:=Tryz.isAgg3
 z3:=Tryz.sizeOf3
 v3:=Tryz.zeroValue3
 t4:=Tryz.underlying4
 a4:=Tryz.isAgg4
 z4:=Tryz.sizeOf4
 v4:=Tryz.zeroValue4
 t5:=Tryz.underlying5
 a5:=Tryz.isAgg5
 z5:=Tryz.sizeOf5
 v5:=Tryz.zeroValue5
 t9:=Tryz.underlying9
 a9:=Tryz.isAgg9
 z9:=Tryz.sizeOf9
 v9:=Tryz.zeroValue9
 t21:=Tryz.underlying21
 a21:=Tryz.isAgg21
 z21:=Tryz.sizeOf21
 v21:=Tryz.zeroValue21
 t46:=Tryz.underlying170
 a46:=Tryz.isAgg170
 z46:=Tryz.sizeOf170
 v46:=Tryz.zeroValue170
 t105:=Tryz.underlying227
 a105:=Tryz.isAgg227
 z105:=Tryz.sizeOf227
 v105:=Tryz.zeroValue227
 t116:=Tryz.underlying200
 a116:=Tryz.isAgg200
 z116:=Tryz.sizeOf200
 t117:=Tryz.underlying201
 a117:=Tryz.isAgg201
 z117:=Tryz.sizeOf201
 v117:=Tryz.zeroValue201
 t119:=Tryz.underlying285
 a119:=Tryz.isAgg285
 z119:=Tryz.sizeOf285
 t124:=Tryz.underlying204
 a124:=Tryz.isAgg204
 z124:=Tryz.sizeOf204
 v124:=Tryz.zeroValue204
 t138:=Tryz.underlying287
 a138:=Tryz.isAgg287
 z138:=Tryz.sizeOf287
 v138:=Tryz.zeroValue287
 t139:=Tryz.underlying288
 a139:=Tryz.isAgg288
 z139:=Tryz.sizeOf288
 v139:=Tryz.zeroValue288
 g3:=by kernel_rfl
 g4:=by kernel_rfl}
def Tryz.lays162_ren:Go.Shelf.Ren:=⟨fun|162=>123|232=>154|227=>155|234=>157|236=>159|228=>186|271=>189|151=>188|120=>222|197=>187|152=>207|260=>221|137=>143|119=>236|224=>127|225=>149|217=>148|266=>184|n=>n,fun|9=>9|4=>4|3=>3|5=>5|117=>201|116=>200|0=>0|124=>204|21=>21|105=>227|46=>170|119=>285|139=>288|138=>287|n=>n,fun|3=>8|4=>9|n=>n⟩
theorem Tryz.lays162:Go.Proofs.Lays.n162 Tryz.prog Tryz.lays162_ren:={
 mixed:=by kernel_rfl
 f119:=Tryz.func236.trans ksf
 f120:=Tryz.func222.trans ksf
 f137:=Tryz.func143.trans ksf
 f151:=Tryz.func188.trans ksf
 f152:=Tryz.func207.trans ksf
 f162:=Tryz.func123.trans ksf
 f197:=Tryz.func187.trans ksf
 f217:=Tryz.func148.trans ksf
 f224:=Tryz.func127.trans ksf
 f225:=Tryz.func149.trans ksf
 f227:=Tryz.func155.trans ksf
 f228:=Tryz.func186.trans ksf
 f232:=Tryz.func154.trans ksf
 f234:=Tryz.func157.trans ksf
 f236:=Tryz.func159.trans ksf
 f260:=Tryz.func221.trans ksf
 f266:=Tryz.func184.trans ksf
 f271:=Tryz.func189.trans ksf
 t0:=Tryz.underlying0
 a0:=Tryz.isAgg0
 z0:=Tryz.sizeOf0
 v0:=Tryz.zeroValue0
 t3:=Tryz.underlying3
 a3:=Tryz.isAgg3
 z3:=Tryz.sizeOf3
 v3:=Tryz.zeroValue3
 t4:=Tryz.underlying4
 a4:=Tryz.isAgg4
 z4:=Tryz.sizeOf4
 v4:=Tryz.zeroValue4
 t5:=Tryz.underlying5
 a5:=Tryz.isAgg5
 z5:=Tryz.sizeOf5
 v5:=Tryz.zeroValue5
 t9:=Tryz.underlying9
 a9:=Tryz.isAgg9
 z9:=Tryz.sizeOf9
 v9:=Tryz.zeroValue9
 t21:=Tryz.underlying21
 a21:=Tryz.isAgg21
 z21:=Tryz.sizeOf21
 v21:=Tryz.zeroValue21
 t46:=Tryz.underlying170
 a46:=Tryz.isAgg170
 z46:=Tryz.sizeOf170
 v46:=Tryz.zeroValue170
 t105:=Tryz.underlying227
 a105:=Tryz.isAgg227
 z105:=Tryz.sizeOf227
 v105:=Tryz.zeroValue227
 t116:=Tryz.underlying200
 a116:=Tryz.isAgg200
 z116:=Tryz.sizeOf200
 t117:=Tryz.underlying201
 a117:=Tryz.isAgg201
 z117:=Tryz.sizeOf201
 v117:=Tryz.zeroValue201
 t119:=Tryz.underlying285
 a119:=Tryz.isAgg285
 z119:=Tryz.sizeOf285
 t124:=Tryz.underlying204
 a124:=Tryz.isAgg204
 z124:=Tryz.sizeOf204
 v124:=Tryz.zeroValue204
 t138:=Tryz.underlying287
 a138:=Tryz.isAgg287
 z138:=Tryz.sizeOf287
 v138:=Tryz.zeroValue287
 t139:=Tryz.underlying288
 a139:=Tryz.isAgg288
 z139:=Tryz.sizeOf288
 v139:=Tryz.zeroValue288
 g3:=by kernel_rfl
 g4:=by kernel_rfl}
def Tryz.lays160_ren:Go.Shelf.Ren:=⟨fun|160=>122|232=>154|231=>153|227=>155|234=>157|233=>156|236=>159|235=>158|228=>186|271=>189|151=>188|197=>187|120=>222|152=>207|260=>221|137=>143|119=>236|224=>127|225=>149|217=>148|266=>184|n=>n,fun|9=>9|4=>4|3=>3|5=>5|117=>201|116=>200|0=>0|124=>204|21=>21|105=>227|46=>170|119=>285|139=>288|138=>287|n=>n,fun|3=>8|4=>9|n=>n⟩
theorem Tryz.lays160:Go.Proofs.Lays.n160 Tryz.prog Tryz.lays160_ren:={
 mixed:=by kernel_rfl
 f119:=Tryz.func236.trans ksf
 f120:=Tryz.func222.trans ksf
 f137:=Tryz.func143.trans ksf
 f151:=Tryz.func188.trans ksf
 f152:=Tryz.func207.trans ksf
 f160:=Tryz.func122.trans ksf
 f197:=Tryz.func187.trans ksf
 f217:=Tryz.func148.trans ksf
 f224:=Tryz.func127.trans ksf
 f225:=Tryz.func149.trans ksf
 f227:=Tryz.func155.trans ksf
 f228:=Tryz.func186.trans ksf
 f231:=Tryz.func153.trans ksf
 f232:=Tryz.func154.trans ksf
 f233:=Tryz.func156.trans ksf
 f234:=Tryz.func157.trans ksf
 f235:=Tryz.func158.trans ksf
 f236:=Tryz.func159.trans ksf
 f260:=Tryz.func221.trans ksf
 f266:=Tryz.func184.trans ksf
 f271:=Tryz.func189.trans ksf
 t0:=Tryz.underlying0
 a0:=Tryz.isAgg0
 z0:=Tryz.sizeOf0
 v0:=Tryz.zeroValue0
 t3:=Tryz.underlying3
 a3:=Tryz.isAgg3
 z3:=Tryz.sizeOf3
 v3:=Tryz.zeroValue3
 t4:=Tryz.underlying4
 a4:=Tryz.isAgg4
 z4:=Tryz.sizeOf4
 v4:=Tryz.zeroValue4
 t5:=Tryz.underlying5
 a5:=Tryz.isAgg5
 z5:=Tryz.sizeOf5
 v5:=Tryz.zeroValue5
 t9:=Tryz.underlying9
 a9:=Tryz.isAgg9
 z9:=Tryz.sizeOf9
 v9:=Tryz.zeroValue9
 t21:=Tryz.underlying21
 a21:=Tryz.isAgg21
 z21:=Tryz.sizeOf21
 v21:=Tryz.zeroValue21
 t46:=Tryz.underlying170
 a46:=Tryz.isAgg170
 z46:=Tryz.sizeOf170
 v46:=Tryz.zeroValue170
 t105:=Tryz.underlying227
 a105:=Tryz.isAgg227
 z105:=Tryz.sizeOf227
 v105:=Tryz.zeroValue227
 t116:=Tryz.underlying200
 a116:=Tryz.isAgg200
 z116:=Tryz.sizeOf200
 t117:=Tryz.underlying201
 a117:=Tryz.isAgg201
 z117:=Tryz.sizeOf201
 v117:=Tryz.zeroValue201
 t119:=Tryz.underlying285
 a119:=Tryz.isAgg285
 z119:=Tryz.sizeOf285
 t124:=Tryz.underlying204
 a124:=Tryz.isAgg204
 z124:=Tryz.sizeOf204
 v124:=Tryz.zeroValue204
 t138:=Tryz.underlying287
 a138:=Tryz.isAgg287
 z138:=Tryz.sizeOf287
 v138:=Tryz.zeroValue287
 t139:=Tryz.underlying288
 a139:=Tryz.isAgg288
 z139:=Tryz.sizeOf288
 v139:=Tryz.zeroValue288
 g3:=by kernel_rfl
 g4:=by kernel_rfl}
def Tryz.lays137_ren:Go.Shelf.Ren:=⟨fun|137=>143|217=>148|266=>184|n=>n,fun|9=>9|5=>5|3=>3|n=>n,fun|n=>n⟩
theorem Tryz.lays137:Go.Proofs.Lays.n137 Tryz.prog Tryz.lays137_ren:={
 mixed:=by kernel_rfl
 f137:=Tryz.func143.trans ksf
 f217:=Tryz.func148.trans ksf
 f266:=Tryz.func184.trans ksf
 t3:=Tryz.underlying3
 a3:=Tryz.isAgg3
 z3:=Tryz.sizeOf3
 v3:=Tryz.zeroValue3
 t5:=Tryz.underlying5
 a5:=Tryz.isAgg5
 z5:=Tryz.sizeOf5
 v5:=Tryz.zeroValue5
 t9:=Tryz.underlying9
 a9:=Tryz.isAgg9
 z9:=Tryz.sizeOf9
 v9:=Tryz.zeroValue9}
open Go.RowKit in
theorem Tryz.strings_IndexByte (s : ByteArray) (c : Int) (w : World) :
    Calls Tryz.prog 143 #[.string s, .int .u8 c] w fun e w' => e = .returned (.int .i64 (Lib.indexByte s.data.toList c.toNat.toUInt8)) /\ w' = w := Any.strings_IndexByte Tryz.lays137 s c w
def Tryz.lays103_ren:Go.Shelf.Ren:=⟨fun|103=>82|210=>117|206=>91|n=>n,fun|9=>9|4=>4|24=>44|3=>3|n=>n,fun|n=>n⟩
theorem Tryz.lays103:Go.Proofs.Lays.n103 Tryz.prog Tryz.lays103_ren:={
 mixed:=by kernel_rfl
 f103:=Tryz.func82.trans ksf
 f206:=Tryz.func91.trans ksf
 f210:=Tryz.func117.trans ksf
 t3:=Tryz.underlying3
 a3:=Tryz.isAgg3
 z3:=Tryz.sizeOf3
 v3:=Tryz.zeroValue3
 t4:=Tryz.underlying4
 a4:=Tryz.isAgg4
 z4:=Tryz.sizeOf4
 v4:=Tryz.zeroValue4
 t9:=Tryz.underlying9
 a9:=Tryz.isAgg9
 z9:=Tryz.sizeOf9
 v9:=Tryz.zeroValue9
 t24:=Tryz.underlying44
 a24:=Tryz.isAgg44
 z24:=Tryz.sizeOf44
 v24:=Tryz.zeroValue44}
open Go.RowKit in
theorem Tryz.strings_CutPrefix (s p : ByteArray) (w : World) :
    Calls Tryz.prog 82 #[.string s, .string p] w fun e w' => e = .returned (.tuple #[.string ⟨(Lib.trimPrefix s.data.toList p.data.toList).toArray⟩, .bool (Lib.hasPrefix s.data.toList p.data.toList)]) /\ w' = w := Any.strings_CutPrefix Tryz.lays103 s p w
def Tryz.laysM171_ren:Go.Shelf.Ren:=⟨fun|171=>57|243=>90|246=>129|283=>163|284=>164|285=>165|286=>166|129=>198|317=>197|318=>199|319=>200|320=>201|337=>229|338=>230|n=>n,fun|3=>3|9=>9|2=>2|4=>4|171=>208|0=>0|53=>209|37=>23|5=>5|173=>212|212=>246|51=>205|20=>20|213=>247|46=>170|232=>295|233=>296|n=>n,fun|17=>3|18=>10|19=>11|n=>n⟩
theorem Tryz.laysM171:Go.Proofs.LaysM.n171 Tryz.prog Tryz.laysM171_ren:={
 mixed:=by kernel_rfl
 f129:=Tryz.func198.trans ksf
 f171:=Tryz.func57.trans ksf
 f243:=Tryz.func90.trans ksf
 f246:=Tryz.func129.trans ksf
 f283:=Tryz.func163.trans ksf
 f284:=Tryz.func164.trans ksf
 f285:=Tryz.func165.trans ksf
 f286:=Tryz.func166.trans ksf
 f317:=Tryz.func197.trans ksf
 f318:=Tryz.func199.trans ksf
 f319:=Tryz.func200.trans ksf
 f320:=Tryz.func201.trans ksf
 f337:=Tryz.func229.trans ksf
 f338:=Tryz.func230.trans ksf
 t0:=Tryz.underlying0
 a0:=Tryz.isAgg0
 z0:=Tryz.sizeOf0
 v0:=Tryz.zeroValue0
 t2:=Tryz.underlying2
 a2:=Tryz.isAgg2
 z2:=Tryz.sizeOf2
 v2:=Tryz.zeroValue2
 t3:=Tryz.underlying3
 a3:=Tryz.isAgg3
 z3:=Tryz.sizeOf3
 v3:=Tryz.zeroValue3
 t4:=Tryz.underlying4
 a4:=Tryz.isAgg4
 z4:=Tryz.sizeOf4
 v4:=Tryz.zeroValue4
 t5:=Tryz.underlying5
 a5:=Tryz.isAgg5
 z5:=Tryz.sizeOf5
 v5:=Tryz.zeroValue5
 t9:=Tryz.underlying9
 a9:=Tryz.isAgg9
 z9:=Tryz.sizeOf9
 v9:=Tryz.zeroValue9
 t20:=Tryz.underlying20
 a20:=Tryz.isAgg20
 z20:=Tryz.sizeOf20
 v20:=Tryz.zeroValue20
 t37:=Tryz.underlying23
 a37:=Tryz.isAgg23
 z37:=Tryz.sizeOf23
 v37:=Tryz.zeroValue23
 t46:=Tryz.underlying170
 a46:=Tryz.isAgg170
 z46:=Tryz.sizeOf170
 v46:=Tryz.zeroValue170
 t51:=Tryz.underlying205
 a51:=Tryz.isAgg205
 z51:=Tryz.sizeOf205
 v51:=Tryz.zeroValue205
 t53:=Tryz.underlying209
 a53:=Tryz.isAgg209
 z53:=Tryz.sizeOf209
 v53:=Tryz.zeroValue209
 t171:=Tryz.underlying208
 a171:=Tryz.isAgg208
 z171:=Tryz.sizeOf208
 v171:=Tryz.zeroValue208
 t173:=Tryz.underlying212
 a173:=Tryz.isAgg212
 z173:=Tryz.sizeOf212
 v173:=Tryz.zeroValue212
 t212:=Tryz.underlying246
 a212:=Tryz.isAgg246
 z212:=Tryz.sizeOf246
 v212:=Tryz.zeroValue246
 t213:=Tryz.underlying247
 a213:=Tryz.isAgg247
 z213:=Tryz.sizeOf247
 t232:=Tryz.underlying295
 a232:=Tryz.isAgg295
 z232:=Tryz.sizeOf295
 v232:=Tryz.zeroValue295
 t233:=Tryz.underlying296
 a233:=Tryz.isAgg296
 z233:=Tryz.sizeOf296
 v233:=Tryz.zeroValue296
 g17:=by kernel_rfl
 g18:=by kernel_rfl
 g19:=by kernel_rfl
 i0:=by kernel_rfl
 i2:=by kernel_rfl
 i3:=by kernel_rfl
 i4:=by kernel_rfl
 i5:=by kernel_rfl
 i9:=by kernel_rfl
 i20:=by kernel_rfl
 i37:=by kernel_rfl
 i46:=by kernel_rfl
 i51:=by kernel_rfl
 i53:=by kernel_rfl
 i171:=by kernel_rfl
 i173:=by kernel_rfl
 i212:=by kernel_rfl
 i232:=by kernel_rfl
 i233:=by kernel_rfl
 m17:=by kernel_rfl
 m18:=by kernel_rfl
 m19:=by kernel_rfl}
open Go.RowKit Go.Sort Go.Lib in
theorem Tryz.strconv_Itoa (n : Int) (h0 : -9223372036854775808 <= n) (h1 : n <= 9223372036854775807) (w : World) (htab : Lib.TabIs Tryz.prog w "internal/strconv.uint64pow10" .u64 Lib.pow10Tab) :
    Calls Tryz.prog 57 #[.int .i64 n] w fun e w' => e = .returned (.string ⟨(Lib.itoa n).toArray⟩) /\ ∃ k os, w' = grow (w.drewN k) os := Any.strconv_Itoa Tryz.laysM171 n h0 h1 w htab
def Tryz.lays143_ren:Go.Shelf.Ren:=⟨fun|143=>80|219=>115|217=>148|225=>149|224=>127|267=>150|266=>184|314=>185|n=>n,fun|9=>9|3=>3|4=>4|5=>5|46=>170|146=>206|51=>205|n=>n,fun|1=>1|n=>n⟩
theorem Tryz.lays143:Go.Proofs.Lays.n143 Tryz.prog Tryz.lays143_ren:={
 mixed:=by kernel_rfl
 f143:=Tryz.func80.trans ksf
 f217:=Tryz.func148.trans ksf
 f219:=Tryz.func115.trans ksf
 f224:=Tryz.func127.trans ksf
 f225:=Tryz.func149.trans ksf
 f266:=Tryz.func184.trans ksf
 f267:=Tryz.func150.trans ksf
 f314:=Tryz.func185.trans ksf
 t3:=Tryz.underlying3
 a3:=Tryz.isAgg3
 z3:=Tryz.sizeOf3
 v3:=Tryz.zeroValue3
 t4:=Tryz.underlying4
 a4:=Tryz.isAgg4
 z4:=Tryz.sizeOf4
 v4:=Tryz.zeroValue4
 t5:=Tryz.underlying5
 a5:=Tryz.isAgg5
 z5:=Tryz.sizeOf5
 v5:=Tryz.zeroValue5
 t9:=Tryz.underlying9
 a9:=Tryz.isAgg9
 z9:=Tryz.sizeOf9
 v9:=Tryz.zeroValue9
 t46:=Tryz.underlying170
 a46:=Tryz.isAgg170
 z46:=Tryz.sizeOf170
 v46:=Tryz.zeroValue170
 t51:=Tryz.underlying205
 a51:=Tryz.isAgg205
 z51:=Tryz.sizeOf205
 v51:=Tryz.zeroValue205
 t146:=Tryz.underlying206
 a146:=Tryz.isAgg206
 z146:=Tryz.sizeOf206
 v146:=Tryz.zeroValue206
 g1:=by kernel_rfl}
open Go.RowKit Go.Lib in
theorem Tryz.strings_Index (s sub : ByteArray) (m : Int) (w : World) (hs : s.size < 4294967281) (hm : w.cell? ⟨1, 0, none⟩ = some (.int .i64 m)) :
    Calls Tryz.prog 80 #[.string s, .string sub] w fun e w' => e = .returned (.int .i64 (Lib.index s.data.toList sub.data.toList)) /\ w' = w := Any.strings_Index Tryz.lays143 s sub m w hs hm
def Tryz.lays144_ren:Go.Shelf.Ren:=⟨fun|144=>246|143=>80|219=>115|217=>148|225=>149|224=>127|267=>150|266=>184|314=>185|n=>n,fun|9=>9|4=>4|3=>3|5=>5|46=>170|146=>206|51=>205|n=>n,fun|1=>1|n=>n⟩
theorem Tryz.lays144:Go.Proofs.Lays.n144 Tryz.prog Tryz.lays144_ren:={
 mixed:=by kernel_rfl
 f143:=Tryz.func80.trans ksf
 f144:=Tryz.func246.trans ksf
 f217:=Tryz.func148.trans ksf
 f219:=Tryz.func115.trans ksf
 f224:=Tryz.func127.trans ksf
 f225:=Tryz.func149.trans ksf
 f266:=Tryz.func184.trans ksf
 f267:=Tryz.func150.trans ksf
 f314:=Tryz.func185.trans ksf
 t3:=Tryz.underlying3
 a3:=Tryz.isAgg3
 z3:=Tryz.sizeOf3
 v3:=Tryz.zeroValue3
 t4:=Tryz.underlying4
 a4:=Tryz.isAgg4
 z4:=Tryz.sizeOf4
 v4:=Tryz.zeroValue4
 t5:=Tryz.underlying5
 a5:=Tryz.isAgg5
 z5:=Tryz.sizeOf5
 v5:=Tryz.zeroValue5
 t9:=Tryz.underlying9
 a9:=Tryz.isAgg9
 z9:=Tryz.sizeOf9
 v9:=Tryz.zeroValue9
 t46:=Tryz.underlying170
 a46:=Tryz.isAgg170
 z46:=Tryz.sizeOf170
 v46:=Tryz.zeroValue170
 t51:=Tryz.underlying205
 a51:=Tryz.isAgg205
 z51:=Tryz.sizeOf205
 v51:=Tryz.zeroValue205
 t146:=Tryz.underlying206
 a146:=Tryz.isAgg206
 z146:=Tryz.sizeOf206
 v146:=Tryz.zeroValue206
 g1:=by kernel_rfl}
open Go.RowKit Go.Lib in
theorem Tryz.strings_Contains (s sub : ByteArray) (m : Int) (w : World) (hs : s.size < 4294967281) (hm : w.cell? ⟨1, 0, none⟩ = some (.int .i64 m)) :
    Calls Tryz.prog 246 #[.string s, .string sub] w fun e w' => e = .returned (.bool (Lib.contains s.data.toList sub.data.toList)) /\ w' = w := Any.strings_Contains Tryz.lays144 s sub m w hs hm
def Tryz.lays145_ren:Go.Shelf.Ren:=⟨fun|145=>84|220=>119|219=>115|217=>148|225=>149|224=>127|267=>150|266=>184|314=>185|n=>n,fun|9=>9|4=>4|59=>134|3=>3|5=>5|46=>170|146=>206|51=>205|n=>n,fun|1=>1|n=>n⟩
theorem Tryz.lays145:Go.Proofs.Lays.n145 Tryz.prog Tryz.lays145_ren:={
 mixed:=by kernel_rfl
 f145:=Tryz.func84.trans ksf
 f217:=Tryz.func148.trans ksf
 f219:=Tryz.func115.trans ksf
 f220:=Tryz.func119.trans ksf
 f224:=Tryz.func127.trans ksf
 f225:=Tryz.func149.trans ksf
 f266:=Tryz.func184.trans ksf
 f267:=Tryz.func150.trans ksf
 f314:=Tryz.func185.trans ksf
 t3:=Tryz.underlying3
 a3:=Tryz.isAgg3
 z3:=Tryz.sizeOf3
 v3:=Tryz.zeroValue3
 t4:=Tryz.underlying4
 a4:=Tryz.isAgg4
 z4:=Tryz.sizeOf4
 v4:=Tryz.zeroValue4
 t5:=Tryz.underlying5
 a5:=Tryz.isAgg5
 z5:=Tryz.sizeOf5
 v5:=Tryz.zeroValue5
 t9:=Tryz.underlying9
 a9:=Tryz.isAgg9
 z9:=Tryz.sizeOf9
 v9:=Tryz.zeroValue9
 t46:=Tryz.underlying170
 a46:=Tryz.isAgg170
 z46:=Tryz.sizeOf170
 v46:=Tryz.zeroValue170
 t51:=Tryz.underlying205
 a51:=Tryz.isAgg205
 z51:=Tryz.sizeOf205
 v51:=Tryz.zeroValue205
 t59:=Tryz.underlying134
 a59:=Tryz.isAgg134
 z59:=Tryz.sizeOf134
 v59:=Tryz.zeroValue134
 t146:=Tryz.underlying206
 a146:=Tryz.isAgg206
 z146:=Tryz.sizeOf206
 v146:=Tryz.zeroValue206
 g1:=by kernel_rfl}
open Go.RowKit Go.Lib in
theorem Tryz.strings_Cut (s sep : ByteArray) (m : Int) (w : World) (hs : s.size < 4294967281) (hm : w.cell? ⟨1, 0, none⟩ = some (.int .i64 m)) :
    Calls Tryz.prog 84 #[.string s, .string sep] w fun e w' => e = .returned (.tuple #[.string ⟨(Lib.cut s.data.toList sep.data.toList).1.toArray⟩, .string ⟨(Lib.cut s.data.toList sep.data.toList).2.1.toArray⟩, .bool (Lib.cut s.data.toList sep.data.toList).2.2]) /\ ∃ n, w' = w.drewN n := Any.strings_Cut Tryz.lays145 s sep m w hs hm
def Tryz.lays149_ren:Go.Shelf.Ren:=⟨fun|149=>249|222=>259|n=>n,fun|9=>9|5=>5|3=>3|4=>4|n=>n,fun|n=>n⟩
theorem Tryz.lays149:Go.Proofs.Lays.n149 Tryz.prog Tryz.lays149_ren:={
 mixed:=by kernel_rfl
 f149:=Tryz.func249.trans ksf
 f222:=Tryz.func259.trans ksf
 t3:=Tryz.underlying3
 a3:=Tryz.isAgg3
 z3:=Tryz.sizeOf3
 v3:=Tryz.zeroValue3
 t4:=Tryz.underlying4
 a4:=Tryz.isAgg4
 z4:=Tryz.sizeOf4
 v4:=Tryz.zeroValue4
 t5:=Tryz.underlying5
 a5:=Tryz.isAgg5
 z5:=Tryz.sizeOf5
 v5:=Tryz.zeroValue5
 t9:=Tryz.underlying9
 a9:=Tryz.isAgg9
 z9:=Tryz.sizeOf9
 v9:=Tryz.zeroValue9}
open Go.RowKit Go.Lib in
theorem Tryz.strings_LastIndexByte (s : ByteArray) (c : Int) (hs : s.size < 4611686018427387904) (w : World) :
    Calls Tryz.prog 249 #[.string s, .int .u8 c] w fun e w' => e = .returned (.int .i64 (Lib.lastIndexByte s c)) /\ w' = w := Any.strings_LastIndexByte Tryz.lays149 s c hs w
def Tryz.lays101_ren:Go.Shelf.Ren:=⟨fun|101=>212|208=>242|206=>91|n=>n,fun|9=>9|4=>4|3=>3|n=>n,fun|n=>n⟩
theorem Tryz.lays101:Go.Proofs.Lays.n101 Tryz.prog Tryz.lays101_ren:={
 mixed:=by kernel_rfl
 f101:=Tryz.func212.trans ksf
 f206:=Tryz.func91.trans ksf
 f208:=Tryz.func242.trans ksf
 t3:=Tryz.underlying3
 a3:=Tryz.isAgg3
 z3:=Tryz.sizeOf3
 v3:=Tryz.zeroValue3
 t4:=Tryz.underlying4
 a4:=Tryz.isAgg4
 z4:=Tryz.sizeOf4
 v4:=Tryz.zeroValue4
 t9:=Tryz.underlying9
 a9:=Tryz.isAgg9
 z9:=Tryz.sizeOf9
 v9:=Tryz.zeroValue9}
open Go.RowKit Go.Lib in
theorem Tryz.strings_TrimPrefix (s p : ByteArray) (w : World) :
    Calls Tryz.prog 212 #[.string s, .string p] w fun e w' => e = .returned (.string ⟨(Lib.trimPrefix s.data.toList p.data.toList).toArray⟩) /\ w' = w := Any.strings_TrimPrefix Tryz.lays101 s p w
def Tryz.lays146_ren:Go.Shelf.Ren:=⟨fun|146=>232|221=>255|268=>262|138=>263|143=>80|195=>267|197=>187|218=>268|219=>115|260=>221|217=>148|225=>149|224=>127|267=>150|266=>184|314=>185|n=>n,fun|9=>9|31=>46|3=>3|4=>4|0=>0|105=>227|21=>21|5=>5|46=>170|119=>285|139=>288|138=>287|146=>206|51=>205|n=>n,fun|1=>1|3=>8|4=>9|n=>n⟩
theorem Tryz.lays146:Go.Proofs.Lays.n146 Tryz.prog Tryz.lays146_ren:={
 mixed:=by kernel_rfl
 f138:=Tryz.func263.trans ksf
 f143:=Tryz.func80.trans ksf
 f146:=Tryz.func232.trans ksf
 f195:=Tryz.func267.trans ksf
 f197:=Tryz.func187.trans ksf
 f217:=Tryz.func148.trans ksf
 f218:=Tryz.func268.trans ksf
 f219:=Tryz.func115.trans ksf
 f221:=Tryz.func255.trans ksf
 f224:=Tryz.func127.trans ksf
 f225:=Tryz.func149.trans ksf
 f260:=Tryz.func221.trans ksf
 f266:=Tryz.func184.trans ksf
 f267:=Tryz.func150.trans ksf
 f268:=Tryz.func262.trans ksf
 f314:=Tryz.func185.trans ksf
 t0:=Tryz.underlying0
 a0:=Tryz.isAgg0
 z0:=Tryz.sizeOf0
 v0:=Tryz.zeroValue0
 t3:=Tryz.underlying3
 a3:=Tryz.isAgg3
 z3:=Tryz.sizeOf3
 v3:=Tryz.zeroValue3
 t4:=Tryz.underlying4
 a4:=Tryz.isAgg4
 z4:=Tryz.sizeOf4
 v4:=Tryz.zeroValue4
 t5:=Tryz.underlying5
 a5:=Tryz.isAgg5
 z5:=Tryz.sizeOf5
 v5:=Tryz.zeroValue5
 t9:=Tryz.underlying9
 a9:=Tryz.isAgg9
 z9:=Tryz.sizeOf9
 v9:=Tryz.zeroValue9
 t21:=Tryz.underlying21
 a21:=Tryz.isAgg21
 z21:=Tryz.sizeOf21
 v21:=Tryz.zeroValue21
 t31:=Tryz.underlying46
 a31:=Tryz.isAgg46
 z31:=Tryz.sizeOf46
 v31:=Tryz.zeroValue46
 t46:=Tryz.underlying170
 a46:=Tryz.isAgg170
 z46:=Tryz.sizeOf170
 v46:=Tryz.zeroValue170
 t51:=Tryz.underlying205
 a51:=Tryz.isAgg205
 z51:=Tryz.sizeOf205
 v51:=Tryz.zeroValue205
 t105:=Tryz.underlying227
 a105:=Tryz.isAgg227
 z105:=Tryz.sizeOf227
 v105:=Tryz.zeroValue227
 t119:=Tryz.underlying285
 a119:=Tryz.isAgg285
 z119:=Tryz.sizeOf285
 t138:=Tryz.underlying287
 a138:=Tryz.isAgg287
 z138:=Tryz.sizeOf287
 v138:=Tryz.zeroValue287
 t139:=Tryz.underlying288
 a139:=Tryz.isAgg288
 z139:=Tryz.sizeOf288
 v139:=Tryz.zeroValue288
 t146:=Tryz.underlying206
 a146:=Tryz.isAgg206
 z146:=Tryz.sizeOf206
 v146:=Tryz.zeroValue206
 g1:=by kernel_rfl
 g3:=by kernel_rfl
 g4:=by kernel_rfl}
open Go.RowKit Go.Lib in
theorem Tryz.strings_Split (s sep : ByteArray) (m : Int) (w : World) (hs : s.size < 4294967281) (hm : w.cell? ⟨1, 0, none⟩ = some (.int .i64 m)) (h1 : 1 <= sep.size) :
    Calls Tryz.prog 232 #[.string s, .string sep] w fun e w' =>
      e = .returned (.slice (some ⟨w.heap.size, 0, none⟩) (Lib.countB s sep + 1) (Lib.countB s sep + 1)) /\ w' = w.alloc (.cells ((Lib.splitB sep 0 (Lib.countB s sep) s).map Value.string).toArray 9) := Any.strings_Split Tryz.lays146 krf s sep m w hs hm h1
def Tryz.lays153_ren:Go.Shelf.Ren:=⟨fun|153=>172|152=>207|226=>208|227=>155|228=>186|137=>143|119=>236|224=>127|225=>149|217=>148|266=>184|n=>n,fun|9=>9|3=>3|4=>4|5=>5|21=>21|117=>201|116=>200|0=>0|46=>170|124=>204|n=>n,fun|n=>n⟩
theorem Tryz.lays153:Go.Proofs.Lays.n153 Tryz.prog Tryz.lays153_ren:={
 mixed:=by kernel_rfl
 f119:=Tryz.func236.trans ksf
 f137:=Tryz.func143.trans ksf
 f152:=Tryz.func207.trans ksf
 f153:=Tryz.func172.trans ksf
 f217:=Tryz.func148.trans ksf
 f224:=Tryz.func127.trans ksf
 f225:=Tryz.func149.trans ksf
 f226:=Tryz.func208.trans ksf
 f227:=Tryz.func155.trans ksf
 f228:=Tryz.func186.trans ksf
 f266:=Tryz.func184.trans ksf
 t0:=Tryz.underlying0
 a0:=Tryz.isAgg0
 z0:=Tryz.sizeOf0
 v0:=Tryz.zeroValue0
 t3:=Tryz.underlying3
 a3:=Tryz.isAgg3
 z3:=Tryz.sizeOf3
 v3:=Tryz.zeroValue3
 t4:=Tryz.underlying4
 a4:=Tryz.isAgg4
 z4:=Tryz.sizeOf4
 v4:=Tryz.zeroValue4
 t5:=Tryz.underlying5
 a5:=Tryz.isAgg5
 z5:=Tryz.sizeOf5
 v5:=Tryz.zeroValue5
 t9:=Tryz.underlying9
 a9:=Tryz.isAgg9
 z9:=Tryz.sizeOf9
 v9:=Tryz.zeroValue9
 t21:=Tryz.underlying21
 a21:=Tryz.isAgg21
 z21:=Tryz.sizeOf21
 v21:=Tryz.zeroValue21
 t46:=Tryz.underlying170
 a46:=Tryz.isAgg170
 z46:=Tryz.sizeOf170
 v46:=Tryz.zeroValue170
 t116:=Tryz.underlying200
 a116:=Tryz.isAgg200
 z116:=Tryz.sizeOf200
 t117:=Tryz.underlying201
 a117:=Tryz.isAgg201
 z117:=Tryz.sizeOf201
 v117:=Tryz.zeroValue201
 t124:=Tryz.underlying204
 a124:=Tryz.isAgg204
 z124:=Tryz.sizeOf204
 v124:=Tryz.zeroValue204}
open Go.RowKit Go.Lib in
theorem Tryz.strings_IndexAny_none (s chars : ByteArray) (w : World) (h0 : chars.size = 0) :
    Calls Tryz.prog 172 #[.string s, .string chars] w fun e w' => e = .returned (.int .i64 (Lib.indexAny s.data.toList chars.data.toList)) /\ w' = w := Any.strings_IndexAny_none Tryz.lays153 s chars w h0
open Go.RowKit Go.Lib in
theorem Tryz.strings_IndexAny_one (s chars : ByteArray) (w : World) (h1 : chars.size = 1) (hascii : ∀ (j : Nat) b, chars.data.toList[j]? = some b -> b.toNat < 128) :
    Calls Tryz.prog 172 #[.string s, .string chars] w fun e w' => e = .returned (.int .i64 (Lib.indexAny s.data.toList chars.data.toList)) /\ w' = w := Any.strings_IndexAny_one Tryz.lays153 s chars w h1 hascii
open Go.RowKit Go.Lib in
theorem Tryz.strings_IndexAny_long (hv116 : ∀ w, (zeroValue 200).run Tryz.prog w = .ok (.agg (Array.replicate 256 (.bool false))) w) (s chars : ByteArray) (w : World) (h2 : 2 <= chars.size) (h8 : 8 < s.size) (hs : s.size < 4294967281) (hcs : chars.size < 4294967281) (hascii : ∀ (j : Nat) b, chars.data.toList[j]? = some b -> b.toNat < 128) :
    Calls Tryz.prog 172 #[.string s, .string chars] w fun e w' => e = .returned (.int .i64 (Lib.indexAny s.data.toList chars.data.toList)) /\ w' = ((w.alloc (.cells (Lib.setCells chars.data.toList) 200)).alloc (.cells (Lib.setCells chars.data.toList) 200)) := Any.strings_IndexAny_long Tryz.lays153 hv116 krf s chars w h2 h8 hs hcs hascii
open Go.RowKit Go.Lib in
theorem Tryz.strings_IndexAny_laid (s chars : ByteArray) (w : World) (hs : s.size < 4294967281) (hcs : chars.size < 4294967281) (has : ∀ (j : Nat) b, s.data.toList[j]? = some b -> b.toNat < 128) (hac : ∀ (j : Nat) b, chars.data.toList[j]? = some b -> b.toNat < 128) :
    Calls Tryz.prog 172 #[.string s, .string chars] w fun e w' => e = .returned (.int .i64 (Lib.indexAny s.data.toList chars.data.toList)) /\ Below w.heap.size w w' := Any.strings_IndexAny_laid Tryz.lays153 krf s chars w hs hcs has hac
def Tryz.lays185_ren:Go.Shelf.Ren:=⟨fun|185=>89|187=>125|115=>88|253=>126|224=>127|254=>128|255=>161|291=>162|n=>n,fun|37=>23|3=>3|4=>4|0=>0|5=>5|46=>170|9=>9|146=>206|51=>205|n=>n,fun|1=>1|n=>n⟩
theorem Tryz.lays185:Go.Proofs.Lays.n185 Tryz.prog Tryz.lays185_ren:={
 mixed:=by kernel_rfl
 f115:=Tryz.func88.trans ksf
 f185:=Tryz.func89.trans ksf
 f187:=Tryz.func125.trans ksf
 f224:=Tryz.func127.trans ksf
 f253:=Tryz.func126.trans ksf
 f254:=Tryz.func128.trans ksf
 f255:=Tryz.func161.trans ksf
 f291:=Tryz.func162.trans ksf
 t0:=Tryz.underlying0
 a0:=Tryz.isAgg0
 z0:=Tryz.sizeOf0
 v0:=Tryz.zeroValue0
 t3:=Tryz.underlying3
 a3:=Tryz.isAgg3
 z3:=Tryz.sizeOf3
 v3:=Tryz.zeroValue3
 t4:=Tryz.underlying4
 a4:=Tryz.isAgg4
 z4:=Tryz.sizeOf4
 v4:=Tryz.zeroValue4
 t5:=Tryz.underlying5
 a5:=Tryz.isAgg5
 z5:=Tryz.sizeOf5
 v5:=Tryz.zeroValue5
 t9:=Tryz.underlying9
 a9:=Tryz.isAgg9
 z9:=Tryz.sizeOf9
 v9:=Tryz.zeroValue9
 t37:=Tryz.underlying23
 a37:=Tryz.isAgg23
 z37:=Tryz.sizeOf23
 v37:=Tryz.zeroValue23
 t46:=Tryz.underlying170
 a46:=Tryz.isAgg170
 z46:=Tryz.sizeOf170
 v46:=Tryz.zeroValue170
 t51:=Tryz.underlying205
 a51:=Tryz.isAgg205
 z51:=Tryz.sizeOf205
 v51:=Tryz.zeroValue205
 t146:=Tryz.underlying206
 a146:=Tryz.isAgg206
 z146:=Tryz.sizeOf206
 v146:=Tryz.zeroValue206
 g1:=by kernel_rfl}
open Go.Proofs Go.RowKit Go.Lib in
theorem Tryz.bytes_Index_at (a1 a2 : Addr) (n c1 k c2 : Nat) (xs ys : List Int) (m : Int) (w : World) (hx : xs.length = n) (hy : ys.length = k) (hr1 : ∀ x ∈ xs, 0 <= x /\ x < 256) (hr2 : ∀ y ∈ ys, 0 <= y /\ y < 256) (hc1 : ∀ i, i < n -> w.cell? (a1.add i) = some (.int .u8 (xs.getD i 0))) (hc2 : ∀ i, i < k -> w.cell? (a2.add i) = some (.int .u8 (ys.getD i 0))) (hcap : n <= c1) (hs : n < 4294967281) (hk : k <= 9223372036854775807) (hm : w.cell? ⟨1, 0, none⟩ = some (.int .i64 m)) :
    Calls Tryz.prog 89 #[.slice (some a1) n c1, .slice (some a2) k c2] w fun e w' => e = .returned (.int .i64 (Lib.index (Lib.bytesOf xs) (Lib.bytesOf ys))) /\ ∃ q, w' = w.drewN q := Any.bytes_Index_at Tryz.lays185 a1 a2 n c1 k c2 xs ys m w hx hy hr1 hr2 hc1 hc2 hcap hs hk hm
open Go.Proofs Go.RowKit Go.Lib in
theorem Tryz.bytes_Index_nil (p2 : Option Addr) (k c2 : Nat) (w : World) (hk : k <= 9223372036854775807) (h1 : k = 1 -> ∃ b2 o2 cv, p2 = some ⟨b2, o2, none⟩ /\ w.cell? ⟨b2, o2, none⟩ = some (.int .u8 cv)) :
    Calls Tryz.prog 89 #[.slice none 0 0, .slice p2 k c2] w fun e w' => e = .returned (.int .i64 (if k = 0 then 0 else -1)) /\ w' = w := Any.bytes_Index_nil Tryz.lays185 p2 k c2 w hk h1
end Go.Proofs
set_option maxRecDepth 20000
namespace Go.Proofs
open Go.Wk Go.Px
theorem sh_Insert37{w:World}(l:List (Str×Str))(x:(Str×Str))(i:Int)(o:Option Nat)(a:Option Addr)(cap b:Nat)(hM:Hp w (ahs [rwt aaa 53 2 o a cap l,blk b (aaa x) 53]) [rwt aaa 53 2 o a cap l,blk b (aaa x) 53] w)(hg:0<=i/\i<=(l.length:Int)/\(l.length+1)*32<=140737488355328):CR Tryz.prog 37 [.slice a l.length cap,.int .i64 i,.slice (some ⟨b,0,none⟩) 1 1] w fun v w'=>∃o' a' cap',v=.slice a' (aig l i x).length cap'/\Hp w (ahs [rwt aaa 53 2 o a cap l,blk b (aaa x) 53]) [rwt aaa 53 2 o' a' cap' (aig l i x),blk b (aaa x) 53] w':=by
 obtain⟨hi0,hi1,hb⟩:=hg;have hn63:l.length+1<=140737488355328:=Nat.le_trans (Nat.le_mul_of_pos_right _ (by decide)) hb;have hJ:i.toNat<=l.length:=by omega
 have hcap:l.length<=cap:=hM.rwcap 0 rfl;have hcM:=hM.rwcapM 0 rfl;have hcM2:cap<=9223372036854775807:=hcM;refine enter (k:=95) Tryz.func37 rfl rfl (Nat.le_of_ble_eq_true rfl) ?_;refine ael ?_;refine abg ?_;refine aem (Value.slice none 0 0) krf ?_;refine aeo ?_;refine acg ?_;refine ael ?_;refine abg ?_;refine abj (Value.slice a l.length cap) krf ?_;refine abj (Value.int .i64 i) krf ?_;refine abn rfl rfl (agy a l.length cap 53 2 .i64 i Tryz.underlying22 krf krf krf ⟨hi0,hi1⟩) ?_;refine aeo ?_;refine acg ?_;refine ael ?_;refine abg ?_;refine abj (Value.slice (some ⟨b,0,none⟩) 1 1) krf ?_;refine w_lenS (some ⟨b,0,none⟩) 1 1 53 Tryz.underlying22 krf ?_;refine aem (Value.int .i64 1) krf ?_;refine aeo ?_;refine acg ?_;refine ael ?_;refine ael ?_;refine abg ?_;refine abj (Value.int .i64 1) krf ?_;refine w_eql .i64 1 0 krf krf ?_;refine aeo ?_;refine acg ?_;refine c_kf (b:=decide ((1:Int)=0)) krf (by decide) ?_;refine c_skip ?_;refine acg ?_;refine ael ?_;refine abg ?_;refine abj (Value.slice a l.length cap) krf ?_;refine w_lenS a l.length cap 53 Tryz.underlying22 krf ?_;refine aem (Value.int .i64 (l.length:Int)) krf ?_;refine aeo ?_;refine acg ?_;refine ael ?_;refine ael ?_;refine abg ?_;refine abj (Value.int .i64 i) krf ?_;refine abj (Value.int .i64 (l.length:Int)) krf ?_;refine w_eql .i64 i (l.length:Int) krf krf ?_;refine aeo ?_;refine acg ?_;refine c_dec (p:=i=(l.length:Int)) krf (fun he=> ?_) (fun hne=> ?_)
 ·skip
  refine ael ?_;refine abg ?_;refine abj (Value.slice a l.length cap) krf ?_;refine abj (Value.slice (some ⟨b,0,none⟩) 1 1) krf ?_;refine agj hM 0 o a (some ⟨b,0,none⟩) cap 1 53 2 32 l [x] aad rfl Tryz.underlying22 (by unfold TI;kernel_rfl) (by decide) (by decide) krf krf (show Rd w _ ([x].flatMap aaa)from by rw [List.flatMap_cons,List.flatMap_nil,List.append_nil];exact hM.rdblk 1 rfl) (by simpa using hb) ?_;intro o' a' cap' w' hH';refine aem (Value.slice a' (l++[x]).length cap') krf ?_;refine aeo ?_;refine acg ?_;refine c_ret ?_;refine s_ret ?_;refine ajh (Value.slice a' (l++[x]).length cap') rfl krf ?_;have e:aig l i x=l++[x]:=by subst he;simp [aig]
  rw [e];exact⟨o',a',cap',rfl,hH'⟩
 ·skip
  refine c_skip ?_;refine acg ?_;refine ael ?_;refine ael ?_;refine abg ?_;refine abj (Value.int .i64 (l.length:Int)) krf ?_;refine abj (Value.int .i64 1) krf ?_;refine aar (l.length:Int) 1 krf krf ⟨by omega,by omega⟩ ?_;refine abj (Value.slice a l.length cap) krf ?_;refine w_cap a l.length cap 53 Tryz.underlying22 krf ?_;refine w_gtr .i64 ((l.length:Int)+1) (cap:Int) krf krf ?_;refine aeo ?_;refine acg ?_;refine c_dec (p:=(cap:Int)<(l.length:Int)+1) krf (fun hc=> ?_) (fun hc=> ?_)
  ·skip
   refine ael ?_;refine abg ?_;refine abj (Value.slice a l.length cap) krf ?_;refine abj (Value.int .i64 i) krf ?_;refine abn rfl rfl (x_slToC a l.length cap 53 2 .i64 i Tryz.underlying22 krf krf krf ⟨hi0,by omega⟩) ?_;refine abj (Value.int .i64 (l.length:Int)) krf ?_;refine abj (Value.int .i64 1) krf ?_;refine aar (l.length:Int) 1 krf krf ⟨by omega,by omega⟩ ?_;refine abj (Value.int .i64 i) krf ?_;refine w_sub64 ((l.length:Int)+1) i krf krf ⟨by omega,by omega⟩ ?_;have e1:i.toNat+(l.length+1-i.toNat)=l.length+1:=by omega
   refine w_appZ hM 0 o a cap 53 2 32 l i.toNat (l.length+1-i.toNat) .i64 aad rfl Tryz.underlying22 Tryz.underlying3 (by unfold TI;kernel_rfl) (by decide) (by decide) hJ (by omega) (by omega) (by rw [e1];exact hb) krf (Eq.trans (b:=Value.int .i64 ((l.length:Int)+1-i)) krf (congrArg (Value.int .i64) (by omega))) ?_;intro g' G cs' w' hl' hG hGm ht' hH';rw [e1]at hG;have hGM2:G<=9223372036854775807:=hGm;refine aem (Value.slice (some ⟨g',0,none⟩) (l.length+1) G) (Eq.trans (b:=Value.slice (some ⟨g',0,none⟩) (i.toNat+(l.length+1-i.toNat)) G) krf (aah e1)) ?_;refine aeo ?_;refine acg ?_;have hc':(l.length+1)*2<=cs'.length:=by rw [hl'];exact Nat.mul_le_mul_right _ hG
   obtain⟨hf1,hf2,hf3⟩:=ins_new_len aad l x i.toNat hJ cs' hc';refine ael ?_;refine abg ?_;refine abj (Value.slice (some ⟨g',0,none⟩) (l.length+1) G) krf ?_;refine abj (Value.int .i64 i) krf ?_;refine abn rfl rfl (agy (some ⟨g',0,none⟩) (l.length+1) G 53 2 .i64 i Tryz.underlying22 krf krf krf ⟨hi0,by omega⟩) ?_;refine abj (Value.slice (some ⟨b,0,none⟩) 1 1) krf ?_;refine w_copyB hH' 0 g' (i.toNat*2) (l.length+1-i.toNat) (G-i.toNat) (slF (some ⟨g',0,none⟩) G i.toNat 2) (some ⟨b,0,none⟩) 1 1 53 2 cs' (aaa x) rfl Tryz.underlying22 krf krf (slF_at (by omega)) krf (hH'.rdblk 2 rfl) (by rw [aad.len,show Nat.min 1 (l.length+1-i.toNat)=1 from Nat.min_eq_left (by omega),Nat.one_mul]) hf1 (aad.one x) ?_;intro w2 hH2;refine aeo ?_;refine acg ?_;refine ael ?_;refine cdr 8 hH2 (aep (aep aeq)) ?_;intro w3 hH3;refine rp 5 [0,1,2] ?_;refine rt 3 (Value.int .i64 (i+1)) rfl rfl (adv rfl (by intro w hS_;exact x_add64 i 1 krf krf ⟨by omega,by omega⟩)) ?_;refine rt 4 (Value.slice (slF (some ⟨g',0,none⟩) G (i+1).toNat 2) ((l.length+1)-(i+1).toNat) (G-(i+1).toNat)) rfl rfl (adv rfl (by intro w hS_;exact agy (some ⟨g',0,none⟩) (l.length+1) G 53 2 .i64 (i+1) Tryz.underlying22 krf krf krf ⟨by omega,by omega⟩)) ?_;refine rp 1 [5,6] ?_;refine rt 7 (Value.slice (slF a cap i.toNat 2) (l.length-i.toNat) (cap-i.toNat)) rfl rfl (adv rfl (by intro w hS_;exact agy a l.length cap 53 2 .i64 i Tryz.underlying22 krf krf krf ⟨hi0,by omega⟩)) ?_;refine agw krf ?_;refine w_copyB hH3 0 g' ((i.toNat+1)*2) ((l.length+1)-(i+1).toNat) (G-(i+1).toNat) (slF (some ⟨g',0,none⟩) G (i+1).toNat 2) (slF a cap i.toNat 2) (l.length-i.toNat) (cap-i.toNat) 53 2 _ ((l.drop i.toNat).flatMap aaa) rfl Tryz.underlying22 krf krf (by rw [show(i+1).toNat=i.toNat+1 by omega];exact slF_at (by omega)) krf (Rd.dropT aad cap i.toNat hcap (hH3.rdrw 1 rfl)) (by rw [aad.flat,List.length_drop,show Nat.min (l.length-i.toNat) (l.length+1-(i+1).toNat)=l.length-i.toNat from Nat.min_eq_left (by omega)]) hf2 (aad.cells _) ?_;intro w4 hH4;refine aeo ?_;refine acg ?_;refine ael ?_;refine abg ?_;refine abj (Value.slice (some ⟨g',0,none⟩) (l.length+1) G) krf ?_;refine aem (Value.slice (some ⟨g',0,none⟩) (l.length+1) G) krf ?_;refine aeo ?_;refine acg ?_;refine c_ret ?_;refine s_ret ?_;refine ajh (Value.slice (some ⟨g',0,none⟩) (l.length+1) G) rfl krf ?_;have h5:=hH4.closerw (f:=aaa) 0 2 G (aig l i x) rfl (by rw [hf3];exact hl') (by rw [ail];exact hG) hGm (by rw [ail];exact ins_new aad l x i.toNat hJ cs' hc' ht');exact⟨some g',(some ⟨g',0,none⟩),G,aah (ail l i x).symm,h5.sub (List.Sublist.cons_cons _ (List.Sublist.cons _ (List.Sublist.refl _)))⟩
  ·skip
   refine c_skip ?_;refine acg ?_;cases o with
   |none=>
    obtain⟨rfl,rfl,_⟩:=hM.nonerw 0 rfl;simp at hc
   |some g=>
    have hbg:b≠g:=fun h=>(List.rel_of_pairwise_cons hM.sep (List.mem_singleton.2 rfl) g rfl) (congrArg some h)
    obtain⟨cs,rfl,hcl,htk,_,hcm,hH1⟩:=hM.openrw 0 rfl;have hc':(l.length+1)*2<=cs.length:=by rw [hcl];exact Nat.mul_le_mul_right _ (by omega)
    obtain⟨hf1,hf2,hf3⟩:=ins_room_len aad l x i.toNat hJ cs hc';refine ael ?_;refine abg ?_;refine abj (Value.slice (some ⟨g,0,none⟩) l.length cap) krf ?_;refine abj (Value.int .i64 (l.length:Int)) krf ?_;refine abj (Value.int .i64 1) krf ?_;refine aar (l.length:Int) 1 krf krf ⟨by omega,by omega⟩ ?_;refine abn rfl rfl (x_slToC (some ⟨g,0,none⟩) l.length cap 53 2 .i64 ((l.length:Int)+1) Tryz.underlying22 krf krf krf ⟨by omega,by omega⟩) ?_;refine aem (Value.slice (some ⟨g,0,none⟩) (l.length+1) cap) (Eq.trans (b:=Value.slice (some ⟨g,0,none⟩) ((l.length:Int)+1).toNat cap) krf (aah (by omega))) ?_;refine aeo ?_;refine acg ?_;refine ael ?_;refine ael ?_;refine abg ?_;refine abj (Value.slice (some ⟨b,0,none⟩) 1 1) krf ?_;refine abj (Value.slice (some ⟨g,0,none⟩) (l.length+1) cap) krf ?_;refine abj (Value.int .i64 i) krf ?_;refine abj (Value.int .i64 1) krf ?_;refine aar i 1 krf krf ⟨by omega,by omega⟩ ?_;refine abn rfl rfl (agy (some ⟨g,0,none⟩) (l.length+1) cap 53 2 .i64 (i+1) Tryz.underlying22 krf krf krf ⟨by omega,by omega⟩) ?_;refine w_overlaps (tS:=22) (tR:=4) hH1 0 1 g b ((i.toNat+1)*2) 53 53 2 (slF (some ⟨g,0,none⟩) cap (i+1).toNat 2) cs (aaa x) (l.length+1-(i+1).toNat) (cap-(i+1).toNat) 1 71 rfl rfl hbg (fun h=>by rw [h]at hcl;simp at hcl;omega) Tryz.underlying22 (fun _=>krf) (by rw [show(i+1).toNat=i.toNat+1 by omega];exact slF_at (by omega)) krf krf Tryz.func71 krf krf krf krf ?_;refine w_not false krf ?_;refine aeo ?_;refine acg ?_;refine c_kt (b:= !false) krf rfl ?_;have hR0:∀w3,Rd w3 (some ⟨g,0,none⟩) cs->Rd w3 (slF (some ⟨g,0,none⟩) cap i.toNat 2) ((l.drop i.toNat).flatMap aaa):=fun w3 h=>by rw [slF_at (by omega),<-drop_flat aad l i.toNat hJ cs htk];have:=(h.drop (i.toNat*2)).take ((l.length-i.toNat)*2);rw [abb,Nat.zero_add]at this;exact this
    refine ael ?_;refine cdr 8 hH1 (aep (aep aeq)) ?_;intro w3 hH3;refine rp 5 [0,1,2] ?_;refine rt 3 (Value.int .i64 (i+1)) rfl rfl (adv rfl (by intro w hS_;exact x_add64 i 1 krf krf ⟨by omega,by omega⟩)) ?_;refine rt 4 (Value.slice (slF (some ⟨g,0,none⟩) cap (i+1).toNat 2) ((l.length+1)-(i+1).toNat) (cap-(i+1).toNat)) rfl rfl (adv rfl (by intro w hS_;exact agy (some ⟨g,0,none⟩) (l.length+1) cap 53 2 .i64 (i+1) Tryz.underlying22 krf krf krf ⟨by omega,by omega⟩)) ?_;refine rp 1 [5,6] ?_;refine rt 7 (Value.slice (slF (some ⟨g,0,none⟩) cap i.toNat 2) ((l.length+1)-i.toNat) (cap-i.toNat)) rfl rfl (adv rfl (by intro w hS_;exact agy (some ⟨g,0,none⟩) (l.length+1) cap 53 2 .i64 i Tryz.underlying22 krf krf krf ⟨hi0,by omega⟩)) ?_;refine agw krf ?_;refine w_copyB hH3 0 g ((i.toNat+1)*2) ((l.length+1)-(i+1).toNat) (cap-(i+1).toNat) (slF (some ⟨g,0,none⟩) cap (i+1).toNat 2) (slF (some ⟨g,0,none⟩) cap i.toNat 2) ((l.length+1)-i.toNat) (cap-i.toNat) 53 2 cs ((l.drop i.toNat).flatMap aaa) rfl Tryz.underlying22 krf krf (by rw [show(i+1).toNat=i.toNat+1 by omega];exact slF_at (by omega)) krf (hR0 _ (hH3.rdblk 0 rfl)) (by rw [aad.flat,List.length_drop,show Nat.min (l.length+1-i.toNat) (l.length+1-(i+1).toNat)=l.length-i.toNat from(Nat.min_eq_right (by omega)).trans (by omega)]) hf1 (aad.cells _) ?_;intro w4 hH4;refine aeo ?_;refine acg ?_;refine ael ?_;refine abg ?_;refine abj (Value.slice (some ⟨g,0,none⟩) (l.length+1) cap) krf ?_;refine abj (Value.int .i64 i) krf ?_;refine abn rfl rfl (agy (some ⟨g,0,none⟩) (l.length+1) cap 53 2 .i64 i Tryz.underlying22 krf krf krf ⟨hi0,by omega⟩) ?_;refine abj (Value.slice (some ⟨b,0,none⟩) 1 1) krf ?_;refine w_copyB hH4 0 g (i.toNat*2) (l.length+1-i.toNat) (cap-i.toNat) (slF (some ⟨g,0,none⟩) cap i.toNat 2) (some ⟨b,0,none⟩) 1 1 53 2 _ (aaa x) rfl Tryz.underlying22 krf krf (slF_at (by omega)) krf (hH4.rdblk 1 rfl) (by rw [aad.len,show Nat.min 1 (l.length+1-i.toNat)=1 from Nat.min_eq_left (by omega),Nat.one_mul]) hf2 (aad.one x) ?_;intro w5 hH5;refine aeo ?_;refine acg ?_;refine ael ?_;refine abg ?_;refine abj (Value.slice (some ⟨g,0,none⟩) (l.length+1) cap) krf ?_;refine aem (Value.slice (some ⟨g,0,none⟩) (l.length+1) cap) krf ?_;refine aeo ?_;refine acg ?_;refine c_ret ?_;refine s_ret ?_;refine ajh (Value.slice (some ⟨g,0,none⟩) (l.length+1) cap) rfl krf ?_;have h5:=hH5.closerw (f:=aaa) 0 2 cap (aig l i x) rfl (by rw [hf3];exact hcl) (by rw [ail];omega) hcm (by rw [ail];exact ins_room aad l x i.toNat hJ cs hc' htk);exact⟨some g,(some ⟨g,0,none⟩),cap,aah (ail l i x).symm,h5⟩
theorem sh_Delete42{w:World}(l:List (Str×Str))(i j:Int)(o:Option Nat)(a:Option Addr)(cap:Nat)(hM:Hp w (ahs [rwt aaa 53 2 o a cap l]) [rwt aaa 53 2 o a cap l] w)(hg:0<=i/\i<=j/\j<=(l.length:Int)):CR Tryz.prog 42 [.slice a l.length cap,.int .i64 i,.int .i64 j] w fun v w'=>∃o' a' cap',v=.slice a' (delL l i j).length cap'/\Hp w (ahs [rwt aaa 53 2 o a cap l]) [rwt aaa 53 2 o' a' cap' (delL l i j)] w':=by
 obtain⟨hi0,hij,hj1⟩:=hg;have hcap:l.length<=cap:=hM.rwcap 0 rfl;have hcM2:cap<=9223372036854775807:=hM.rwcapM 0 rfl;refine enter (k:=33) Tryz.func42 rfl rfl (Nat.le_of_ble_eq_true rfl) ?_;refine ael ?_;refine abg ?_;refine aem (Value.slice none 0 0) krf ?_;refine aeo ?_;refine acg ?_;refine ael ?_;refine abg ?_;refine abj (Value.slice a l.length cap) krf ?_;refine abj (Value.int .i64 i) krf ?_;refine abj (Value.int .i64 j) krf ?_;refine abj (Value.slice a l.length cap) krf ?_;refine w_lenS a l.length cap 53 Tryz.underlying22 krf ?_;refine abn rfl rfl (x_slLHM a l.length cap 53 2 .i64 .i64 .i64 i j (l.length:Int) Tryz.underlying22 krf krf krf krf krf ⟨hi0,hij,hj1,by omega⟩) ?_;refine aeo ?_;refine acg ?_;refine ael ?_;refine ael ?_;refine abg ?_;refine abj (Value.int .i64 i) krf ?_;refine abj (Value.int .i64 j) krf ?_;refine w_eql .i64 i j krf krf ?_;refine aeo ?_;refine acg ?_;refine c_dec (p:=i=j) krf (fun he=> ?_) (fun hne=> ?_)
 ·skip
  refine ael ?_;refine abg ?_;refine abj (Value.slice a l.length cap) krf ?_;refine aem (Value.slice a l.length cap) krf ?_;refine aeo ?_;refine acg ?_;refine c_ret ?_;refine s_ret ?_;refine ajh (Value.slice a l.length cap) rfl krf ?_;have e:delL l i j=l:=by subst he;simp [delL]
  rw [e];exact⟨o,a,cap,rfl,hM⟩
 ·skip
  refine c_skip ?_;refine acg ?_;cases o with
  |none=>
   obtain⟨rfl,rfl,_⟩:=hM.nonerw 0 rfl;simp at hj1
   omega
  |some g=>
   obtain⟨cs,rfl,hcl,htk,_,hcm,hH1⟩:=hM.openrw 0 rfl;have hcs:l.length*2<=cs.length:=by rw [hcl];exact Nat.mul_le_mul_right _ hcap
   obtain⟨hf1,hf2,hf3,hf4⟩:=del_cells aad l i.toNat j.toNat (by omega) (by omega) cs ((List.replicate (j.toNat-i.toNat) (([]:Str),([]:Str))).flatMap aaa) hcs (by rw [aad.flat];simp) htk;refine ael ?_;refine abg ?_;refine abj (Value.slice (some ⟨g,0,none⟩) l.length cap) krf ?_;refine w_lenS (some ⟨g,0,none⟩) l.length cap 53 Tryz.underlying22 krf ?_;refine aem (Value.int .i64 (l.length:Int)) krf ?_;refine aeo ?_;refine acg ?_;have hR0:∀w3,Rd w3 (some ⟨g,0,none⟩) cs->Rd w3 (some ⟨g,0,none⟩) (l.flatMap aaa):=fun w3 h=>htk▸h.take (l.length*2)
   refine ael ?_;refine cdr 6 hH1 (aep aeq) ?_;intro w1 hH1;refine rp 4 [0,1] ?_;refine rt 2 (Value.slice (some ⟨g,0,none⟩) i.toNat cap) rfl rfl (adv rfl (by intro w hS_;exact x_slToC (some ⟨g,0,none⟩) l.length cap 53 2 .i64 i Tryz.underlying22 krf krf krf ⟨hi0,by omega⟩)) ?_;refine rp 1 [3,4] ?_;refine rt 5 (Value.slice (slF (some ⟨g,0,none⟩) cap j.toNat 2) (l.length-j.toNat) (cap-j.toNat)) rfl rfl (adv rfl (by intro w hS_;exact agy (some ⟨g,0,none⟩) l.length cap 53 2 .i64 j Tryz.underlying22 krf krf krf ⟨by omega,hj1⟩)) ?_;refine agw krf ?_;refine w_appRoomB hH1 0 g i.toNat cap (slF (some ⟨g,0,none⟩) cap j.toNat 2) (l.length-j.toNat) (cap-j.toNat) 53 2 32 cs ((l.drop j.toNat).flatMap aaa) rfl Tryz.underlying22 (by unfold TI;kernel_rfl) krf krf (Rd.dropT aad cap j.toNat hcap (hR0 _ (hH1.rdblk 0 rfl))) (by rw [aad.flat,List.length_drop]) (by omega) hf1 (aad.cells _) ?_;intro w2 hH2;refine aem (Value.slice (some ⟨g,0,none⟩) (i.toNat+(l.length-j.toNat)) cap) krf ?_;refine aeo ?_;refine acg ?_;refine ael ?_;refine abg ?_;refine abj (Value.slice (some ⟨g,0,none⟩) (i.toNat+(l.length-j.toNat)) cap) krf ?_;refine abj (Value.slice (some ⟨g,0,none⟩) (i.toNat+(l.length-j.toNat)) cap) krf ?_;refine w_lenS (some ⟨g,0,none⟩) (i.toNat+(l.length-j.toNat)) cap 53 Tryz.underlying22 krf ?_;refine abj (Value.int .i64 (l.length:Int)) krf ?_;refine abn rfl rfl (x_slLH (some ⟨g,0,none⟩) (i.toNat+(l.length-j.toNat)) cap 53 2 .i64 .i64 (((i.toNat+(l.length-j.toNat)):Nat):Int) (l.length:Int) Tryz.underlying22 krf krf krf krf ⟨by omega,by omega,by omega⟩) ?_;have hm1:((l.length:Int)).toNat-(((i.toNat+(l.length-j.toNat)):Nat):Int).toNat=j.toNat-i.toNat:=by omega
   refine w_clearB0 hH2 0 g ((i.toNat+(l.length-j.toNat))*2) (j.toNat-i.toNat) (cap-(((i.toNat+(l.length-j.toNat)):Nat):Int).toNat) 53 2 (slF (some ⟨g,0,none⟩) cap (((i.toNat+(l.length-j.toNat)):Nat):Int).toNat 2) _ (([]:Str),([]:Str)) aad rfl Tryz.underlying22 (by decide) krf (Eq.trans (b:=Value.slice (slF (some ⟨g,0,none⟩) cap (((i.toNat+(l.length-j.toNat)):Nat):Int).toNat 2) (((l.length:Int)).toNat-(((i.toNat+(l.length-j.toNat)):Nat):Int).toNat) (cap-(((i.toNat+(l.length-j.toNat)):Nat):Int).toNat)) krf (aah hm1)) (by rw [Int.toNat_natCast];exact slF_at (by omega)) (by omega) (by have:=hf2;rw [aad.flat,List.length_replicate]at this;exact this) ?_;intro w3 hH3;refine aeo ?_;refine acg ?_;refine ael ?_;refine abg ?_;refine abj (Value.slice (some ⟨g,0,none⟩) (i.toNat+(l.length-j.toNat)) cap) krf ?_;refine aem (Value.slice (some ⟨g,0,none⟩) (i.toNat+(l.length-j.toNat)) cap) krf ?_;refine aeo ?_;refine acg ?_;refine c_ret ?_;refine ajh (Value.slice (some ⟨g,0,none⟩) (i.toNat+(l.length-j.toNat)) cap) rfl krf ?_;have hdl:(delL l i j).length=(i.toNat+(l.length-j.toNat)):=by unfold delL;simp;omega
   have h5:=hH3.closerw (f:=aaa) 0 2 cap (delL l i j) rfl (by rw [hf3];exact hcl) (by rw [hdl];omega) hcm (by rw [hdl];exact hf4);exact⟨some g,(some ⟨g,0,none⟩),cap,aah hdl.symm,h5⟩
open Go.Value renaming slice -> Vs, int -> Vi, bool -> Vb, pointer -> Vp
open Go.Lib renaming join -> zaD
open List renaming flatMap -> zap, flatMap_cons -> zar, length_map -> zax, map_congr_left -> zbh
open Nat renaming le_of_ble_eq_true -> zaP, lt_of_lt_of_le -> zal, lt_succ_self -> zad
theorem sh_IndexByte(s:List UInt8)(c:UInt8)(w:World):CR Tryz.prog 143 [str s,bt c] w fun v w'=>v=.int .i64 (ixb (·==c) s)/\Hp w [] [] w':=by
 have h:=Tryz.strings_IndexByte ⟨s.toArray⟩ (c.toNat:Int) w;rw [show((c.toNat:Int).toNat.toUInt8)=c by simp]at h;rw [<-indexByte_ixb];exact ajc h
theorem sh_LastIndexByte(s:List UInt8)(c:UInt8)(w:World)(hs:s.length<=1000000000):CR Tryz.prog 249 [str s,bt c] w fun v w'=>v=.int .i64 (lixb (·==c) s)/\Hp w [] [] w':=by
 have h:=Tryz.strings_LastIndexByte ⟨s.toArray⟩ (c.toNat:Int) (by show s.length<_;omega) w;rw [lastIndexByte_lixb]at h;exact ajc h
theorem sh_Contains(s t:List UInt8)(w:World)(hs:s.length<=1000000000)(hG:Gl w):CR Tryz.prog 246 [str s,str t] w fun v w'=>v=.bool (Lib.contains s t)/\Hp w [] [] w':=by
 obtain⟨m,hm⟩:=hG.cell;exact ajc (Tryz.strings_Contains ⟨s.toArray⟩ ⟨t.toArray⟩ m w (by show s.length<_;omega) hm)
theorem sh_Index(s t:List UInt8)(w:World)(hs:s.length<=1000000000)(hG:Gl w):CR Tryz.prog 80 [str s,str t] w fun v w'=>v=.int .i64 (Lib.index s t)/\Hp w [] [] w':=by
 obtain⟨m,hm⟩:=hG.cell;exact ajc (Tryz.strings_Index ⟨s.toArray⟩ ⟨t.toArray⟩ m w (by show s.length<_;omega) hm)
theorem sh_Cut(s t:List UInt8)(w:World)(hs:s.length<=1000000000)(hG:Gl w):CR Tryz.prog 84 [str s,str t] w fun v w'=>v=.tuple #[str (Lib.cut s t).1,str (Lib.cut s t).2.1,.bool (Lib.cut s t).2.2]/\Hp w [] [] w':=by
 obtain⟨m,hm⟩:=hG.cell;exact cr_drew (Tryz.strings_Cut ⟨s.toArray⟩ ⟨t.toArray⟩ m w (by show s.length<_;omega) hm)
theorem sh_CutPrefix(s t:List UInt8)(w:World):CR Tryz.prog 82 [str s,str t] w fun v w'=>v=.tuple #[str (Lib.trimPrefix s t),.bool (Lib.hasPrefix s t)]/\Hp w [] [] w':=by
 exact ajc (Tryz.strings_CutPrefix ⟨s.toArray⟩ ⟨t.toArray⟩ w)
theorem sh_TrimPrefix(s t:List UInt8)(w:World):CR Tryz.prog 212 [str s,str t] w fun v w'=>v=str (Lib.trimPrefix s t)/\Hp w [] [] w':=by
 exact ajc (Tryz.strings_TrimPrefix ⟨s.toArray⟩ ⟨t.toArray⟩ w)
theorem sh_Trim(s t:List UInt8)(w:World)(hs:s.length<=1000000000)(ht:t.length<=1000/\t.all (fun b=>decide (b.toNat<128))=true):CR Tryz.prog 122 [str s,str t] w fun v w'=>v=str (Lib.trimS s t)/\Hp w [] [] w':=by
 exact cr_below (Any.strings_Trim_laid Tryz.lays160 krf ⟨s.toArray⟩ ⟨t.toArray⟩ w (by show s.length<=_;omega) (by show t.length<_;omega) (ascii_of_all ht.2))
theorem sh_TrimLeft(s t:List UInt8)(w:World)(hs:s.length<=1000000000)(ht:t.length<=1000/\t.all (fun b=>decide (b.toNat<128))=true):CR Tryz.prog 254 [str s,str t] w fun v w'=>v=str (Lib.trimLeftS s t)/\Hp w [] [] w':=by
 exact cr_below (Any.strings_TrimLeft_laid Tryz.lays161 krf ⟨s.toArray⟩ ⟨t.toArray⟩ w (by show t.length<_;omega) (ascii_of_all ht.2))
theorem sh_TrimRight(s t:List UInt8)(w:World)(hs:s.length<=1000000000)(ht:t.length<=1000/\t.all (fun b=>decide (b.toNat<128))=true):CR Tryz.prog 123 [str s,str t] w fun v w'=>v=str (Lib.trimRightS s t)/\Hp w [] [] w':=by
 exact cr_below (Any.strings_TrimRight_laid Tryz.lays162 krf ⟨s.toArray⟩ ⟨t.toArray⟩ w (by show s.length<=_;omega) (by show t.length<_;omega) (ascii_of_all ht.2))
theorem sh_Itoa(i:Int)(w:World)(hi:afr i)(hG:Gl w):CR Tryz.prog 57 [.int .i64 i] w fun v w'=>v=str (Lib.itoa i)/\Hp w [] [] w':=by
 obtain⟨t,f,e⟩:=hG.pow10;have hT : Lib.TabIs Tryz.prog w "internal/strconv.uint64pow10" .u64 Lib.pow10Tab := by
  unfold Lib.TabIs World.var?;rw [show Tryz.prog.globalNamed "internal/strconv.uint64pow10" = some 3 by kernel_rfl];simp [e]
 have h:=Tryz.strconv_Itoa i hi.1 hi.2 w hT;exact Calls.mono h fun _ _ ⟨e,k,os,hb⟩=>⟨_,e,rfl,hb▸hp_grow k os⟩
theorem sh_Split(s:List UInt8)(c:UInt8)(w:World)(hs:s.length<=1000000000)(hG:Gl w):CR Tryz.prog 232 [str s,str [c]] w fun v w'=>∃o a cap,v=.slice a (spl c s).length cap/\Hp w [] [rwt eS 9 1 o a cap (spl c s)] w':=by
 obtain⟨m,hm⟩:=hG.cell;have h:=Tryz.strings_Split ⟨s.toArray⟩ ⟨#[c]⟩ m w (by show s.length<_;omega) hm (by show 1<=1;omega);rw [split_spl,split_spl_len]at h;refine Calls.mono h ?_;rintro _ _ ⟨rfl,rfl⟩
 have h1:=(Hp.refl w).alloc ((spl c s).map str) 9
 have:=(spl_sum c s).1
 have e:(spl c s).flatMap eS=(spl c s).map str:=by
  generalize spl c s=l;induction l with
  |nil=>rfl
  |cons x l ih=>rw [zar,ih];rfl
 exact⟨_,rfl,some w.heap.size,_,_,rfl,h1.blkrw 0 1 (spl c s).length (spl c s) rfl ajv e rfl (by simp [maxLen];omega)⟩
theorem flatS(l:List (List UInt8)):l.flatMap eS=l.map str:=by
 induction l with
 |nil=>rfl
 |cons x l ih=>rw [zar,ih];rfl
theorem sh_Join(t:List UInt8)(w:World)(a:Option Addr)(n cap:Nat)(xs:List (List UInt8))(hn:n=xs.length)(hRe:Rd w a (xs.flatMap eS))(hCa:n<=cap)(hN:xs.length<=1000000000/\(zaD xs t).length<=100000000000):CR Tryz.prog 41 [.slice a n cap,str t] w fun v w'=>v=str (zaD xs t)/\Hp w [] [] w':=by
 subst hn;rw [flatS]at hRe;cases xs with
 |nil=>exact ajc (Tryz.strings_Join_none a cap ⟨t.toArray⟩ w)
 |cons x r=>
  obtain⟨p,rfl,hp⟩:=hRe 0 (str x) (by simp);have hbk:=cell_lt hp;rw [add_block]at hbk;have hsp:p.spot=none:=by
   have:=rd_spot hp
   simpa [Addr.add] using this
  obtain⟨bk,o,sp⟩:=p;simp only at hsp hbk;subst hsp;have e:((x::r).map fun l=>(⟨l.toArray⟩:ByteArray)).map (·.data.toList)=x::r:=by rw [List.map_map];exact List.map_id _
  have h:=Tryz.strings_Join bk o cap ((x::r).map fun l=>(⟨l.toArray⟩:ByteArray)) ⟨t.toArray⟩ w (fun j y hy=>by
   have:=row_strs ⟨bk,o,none⟩ (x::r) hRe j y hy
   cases j<;>simpa [Addr.add] using this) hbk (by rw [zax];omega) (by rw [zax];exact hCa) (by rw [e];show(zaD (x::r) t).length<=_;omega)
  rw [e,zax]at h;exact cr_below h
theorem sh_bIndex(a1 a2:Addr)(n c1 k c2:Nat)(s t:List UInt8)(w:World)(hn:s.length=n)(hk:t.length=k)(h1:Rd w (some a1) (s.map bt))(h2:Rd w (some a2) (t.map bt))(hc:n<=c1)(hs:n<=1000000000)(ht:k<=1000000000)(hG:Gl w):CR Tryz.prog 89 [.slice (some a1) n c1,.slice (some a2) k c2] w fun v w'=>v=.int .i64 (Lib.index s t)/\Hp w [] [] w':=by
 obtain⟨m,hm⟩:=hG.cell;have cell:∀(a:Addr) (l:List UInt8) (N:Nat),l.length=N->Rd w (some a) (l.map bt)->∀i,i<N->w.cell? (a.add i)=some (.int .u8 ((l.map fun b=>(b.toNat:Int)).getD i 0)):=by
  intro a l N hN hR i hi;obtain⟨p,hp,e⟩:=hR i (bt (l[i]'(by omega))) (by simp [hN,hi]);cases hp
  rw [e];simp [bt,List.getD,hN,hi]
 have rng:∀(l:List UInt8),∀x∈(l.map fun b=>(b.toNat:Int)),0<=x/\x<256:=by
  intro l x hx;obtain⟨b,_,rfl⟩:=List.mem_map.1 hx;exact⟨by omega,by have:=b.toNat_lt;omega⟩
 have bo:∀(l:List UInt8),Lib.bytesOf (l.map fun b=>(b.toNat:Int))=l:=by
  intro l;unfold Lib.bytesOf;rw [List.map_map]
  conv=>rhs;rw [<-List.map_id l]
  refine zbh fun b _=> ?_
  simp
 have h:=Tryz.bytes_Index_at a1 a2 n c1 k c2 (s.map fun b=>(b.toNat:Int)) (t.map fun b=>(b.toNat:Int)) m w (by simp [hn]) (by simp [hk]) (rng s) (rng t) (cell a1 s n hn h1) (cell a2 t k hk h2) hc (by omega) (by omega) hm;rw [bo,bo]at h;exact cr_drew h
theorem sh_bIndex0(a:Option Addr)(k c:Nat)(w:World)(h2:2<=k)(hk:k<=1000000000):CR Tryz.prog 89 [.slice none 0 0,.slice a k c] w fun v w'=>v=.int .i64 (-1)/\Hp w [] [] w':=by
 have h:=Tryz.bytes_Index_nil a k c w (by omega) (fun e=>by omega);rw [if_neg (by omega)]at h;exact ajc h
theorem sh_IndexAny(s t:List UInt8)(w:World)(h:s.length<=1000000000/\t.length<=1000/\t.all (fun b=>decide (b.toNat<128))=true/\(8<s.length\/t.length<=1\/s.all (fun b=>decide (b.toNat<128))=true)):CR Tryz.prog 172 [str s,str t] w fun v w'=>v=.int .i64 (Lib.indexAny s t)/\Hp w [] [] w':=by
 obtain⟨h1,h2,h3,h4⟩:=h;by_cases h0:t.length=0
 ·exact ajc (Tryz.strings_IndexAny_none ⟨s.toArray⟩ ⟨t.toArray⟩ w h0)
 by_cases h1':t.length=1
 ·exact ajc (Tryz.strings_IndexAny_one ⟨s.toArray⟩ ⟨t.toArray⟩ w h1' (ascii_of_all h3))
 rcases h4 with h4|h4|h4
 ·have hz:∀w,(zeroValue 200).run Tryz.prog w=.ok (.agg (Array.replicate 256 (.bool false))) w:=(zero_of_info (n:=256) krf).1;have h:=Tryz.strings_IndexAny_long hz ⟨s.toArray⟩ ⟨t.toArray⟩ w (by show 2<=t.length;omega) (by show 8<s.length;omega) (by show s.length<_;omega) (by show t.length<_;omega) (ascii_of_all h3);refine Calls.mono h ?_;rintro _ _ ⟨rfl,rfl⟩
  exact⟨_,rfl,rfl,Hp.ofBelow ⟨rfl,rfl,rfl,by simp;omega,fun k hk=>by rw [RowKit.Below.heap_alloc _ _ k (by simp;omega),RowKit.Below.heap_alloc _ _ k hk]⟩⟩
 ·omega
 ·exact cr_below (Tryz.strings_IndexAny_laid ⟨s.toArray⟩ ⟨t.toArray⟩ w (by show s.length<_;omega) (by show t.length<_;omega) (ascii_of_all h4) (ascii_of_all h3))
theorem sh_Clone28(l:List UInt8)(w:World)(a:Option Addr)(n cap:Nat)(hn:n=l.length)(hR:Rd w a (l.flatMap eB))(hb:(0+l.length)*1<=140737488355328):CR Tryz.prog 28 [.slice a n cap] w fun v w'=>∃o a' cap',v=.slice a' l.length cap'/\Hp w [] [rwt eB 5 1 o a' cap' l] w':=by
 subst hn;have hH:Hp w [] [] w:=Hp.refl w;refine enter (k:=8) Tryz.func28 rfl rfl (zaP rfl) ?_;refine ael ?_;refine abg ?_;refine aem (Vs none 0 0) krf ?_;refine aeo ?_;refine acg ?_;refine ael ?_;refine ael ?_;refine abg ?_;refine abj (Vs a l.length cap) krf ?_;refine w_snil a l.length cap 5 Tryz.underlying23 krf krf ?_;refine aeo ?_;refine acg ?_;refine c_bool (b:=a.isNone) krf (fun h=> ?_) (fun h=> ?_)
 ·have ha:a=none:=by cases a with|none=>rfl|some p=>cases h
  subst ha;have hl:l=[]:=by
   cases l with
   |nil=>rfl
   |cons x l=>
    exfalso;have h1:=Enc.flat agp (x::l);have h2:(zap eB (x::l)).length=0:=by
     cases hq:zap eB (x::l)with
     |nil=>rfl
     |cons u us=>obtain⟨p,hp,_⟩:=hR 0 u (by rw [hq];rfl);cases hp
    rw [h2]at h1;simp at h1
  subst hl;refine ael ?_;refine abg ?_;refine aem (Vs none 0 0) krf ?_;refine aeo ?_;refine acg ?_;refine c_ret ?_;refine s_ret ?_;refine ajh (Vs none 0 0) rfl krf ?_;exact⟨none,none,0,rfl,Hp.nilrw hH eB 5 1 none⟩
 ·refine c_skip ?_;refine acg ?_;refine ael ?_;refine abg ?_;refine afl hH [] 5 (fun b=>(Vs (some ⟨b,0,none⟩) 0 0)) rfl rfl krf ?_;intro b1 w2 a0;have a1:Hp w [] [rwt eB 5 1 (some b1) (some ⟨b1,0,none⟩) 0 ([]:List UInt8)] w2:=a0.blkrw 0 1 0 ([]:List UInt8) rfl agp rfl rfl (by decide);refine abj (Vs a l.length cap) krf ?_;refine agj a1 0 (some b1) (some ⟨b1,0,none⟩) a 0 cap 5 1 1 ([]:List UInt8) l agp rfl Tryz.underlying23 (by unfold TI;kernel_rfl) (by decide) (by decide) krf krf (hR.hp a0) hb ?_;intro o5 a6 cap7 w8 a2;refine aem (Vs a6 l.length cap7) krf ?_;refine aeo ?_;refine acg ?_;refine c_ret ?_;refine ajh (Vs a6 l.length cap7) rfl krf ?_;exact⟨o5,a6,cap7,rfl,a2⟩
theorem sh_copyCheck(b:Nat)(z:Bool)(s:Value)(w:World)(hM:Hp w (ahs [blk b [Vp (bif z then some ⟨b,0,none⟩else none),s] 124]) [blk b [Vp (bif z then some ⟨b,0,none⟩else none),s] 124] w):CR Tryz.prog 108 [Vp (some ⟨b,0,none⟩)] w fun v w'=>v=.tuple #[]/\Hp w (ahs [blk b [Vp (bif z then some ⟨b,0,none⟩else none),s] 124]) [blk b [Vp (some ⟨b,0,none⟩),s] 124] w':=by
 cases z with
 |false=>
  have hH:Hp w (ahs [blk b [(Vp none),s] 124]) [blk b [(Vp none),s] 124] w:=hM;refine enter (k:=20) Tryz.func108 rfl rfl (zaP rfl) ?_;refine ael ?_;refine abg ?_;refine abj (Vp (some ⟨b,0,none⟩)) krf ?_;refine abn (v:=(Vp (some ⟨b,0,none⟩))) (w':=w) rfl rfl krf ?_;refine abn (v:=(Vp (some ⟨b,0,none⟩))) (w':=w) rfl rfl krf ?_;refine adw hH 0 b 0 [(Vp none),s] 124 (Vp none) rfl rfl krf krf ?_;refine w_pnil none Tryz.underlying122 krf krf ?_;refine aeo ?_;refine acg ?_;refine c_true krf ?_;refine abg ?_;refine abj (Vp (some ⟨b,0,none⟩)) krf ?_;refine abj (Vp (some ⟨b,0,none⟩)) krf ?_;refine w_toUns hH 0 b 0 124 [(Vp none),s] rfl Tryz.underlying122 Tryz.underlying195 krf (by simp) krf ?_;refine w_noEsc hH 145 (Vp (some ⟨b,0,none⟩)) krf krf Tryz.func145 krf krf krf krf ?_;intro w1 a0;refine w_ofUns a0 0 b 0 124 [(Vp none),s] rfl Tryz.underlying195 Tryz.underlying122 krf krf krf ?_;refine abn (v:=(Vp (some ⟨b,0,none⟩))) (w':=w1) rfl rfl krf ?_;refine abn (v:=(Vp (some ⟨b,0,none⟩))) (w':=w1) rfl rfl krf ?_;refine ajf a0 0 b 0 [(Vp none),s] 124 (Vp (some ⟨b,0,none⟩)) [blk b [(Vp (some ⟨b,0,none⟩)),s] 124] rfl (zal (zad _) (zaP rfl)) krf krf rfl krf rfl ?_;intro w3 a1;refine aeo ?_;refine r_none' rfl ?_;exact⟨rfl,a1.kp⟩
 |true=>
  have hH:Hp w (ahs [blk b [(Vp (some ⟨b,0,none⟩)),s] 124]) [blk b [(Vp (some ⟨b,0,none⟩)),s] 124] w:=hM;refine enter (k:=20) Tryz.func108 rfl rfl (zaP rfl) ?_;refine ael ?_;refine abg ?_;refine abj (Vp (some ⟨b,0,none⟩)) krf ?_;refine abn (v:=(Vp (some ⟨b,0,none⟩))) (w':=w) rfl rfl krf ?_;refine abn (v:=(Vp (some ⟨b,0,none⟩))) (w':=w) rfl rfl krf ?_;refine adw hH 0 b 0 [(Vp (some ⟨b,0,none⟩)),s] 124 (Vp (some ⟨b,0,none⟩)) rfl rfl krf krf ?_;refine w_pnil (some ⟨b,0,none⟩) Tryz.underlying122 krf krf ?_;refine aeo ?_;refine acg ?_;refine c_false krf ?_;refine ael ?_;refine abg ?_;refine abj (Vp (some ⟨b,0,none⟩)) krf ?_;refine abn (v:=(Vp (some ⟨b,0,none⟩))) (w':=w) rfl rfl krf ?_;refine abn (v:=(Vp (some ⟨b,0,none⟩))) (w':=w) rfl rfl krf ?_;refine adw hH 0 b 0 [(Vp (some ⟨b,0,none⟩)),s] 124 (Vp (some ⟨b,0,none⟩)) rfl rfl krf krf ?_;refine abj (Vp (some ⟨b,0,none⟩)) krf ?_;refine w_pself ⟨b,0,none⟩ Tryz.underlying122 krf krf krf ?_;refine aeo ?_;refine acg ?_;refine c_false krf ?_;refine c_skip ?_;refine r_none' rfl ?_;exact⟨rfl,hH.kp⟩
open Go.Wk Go.Px Go.Ce
theorem beqn(c:UInt8):(fun d:UInt8=>Nat.beq d.toNat c.toNat)=(·==c):=by
 funext d
 rw [Bool.eq_iff_iff];simp [Nat.beq_eq,UInt8.toNat_inj]
def cg0:List SC:=[.s 7 19220757857722691,.s 4 1902465859,.s 12 34178039824424540632871946573,.s 6 76223546812749,.s 4 1801666898,.s 4 1902465874,.s 16 134856309279822869049672161412773271383]
def cg2:List SC:=[.s 4 1836020294,.i .i64 1,.s 2 28500,.i .i64 1,.s 7 32760367514808131,.i .i64 1,.s 5 435745550162,.i .i64 1,.s 12 31398775957419736383438939474,.i .i64 1,.s 4 1752457552,.i .i64 1,.s 13 8038086645099452779117220619603,.i .i64 1,.s 8 8022086805604427090,.i .i64 1,.s 11 146592537699037055746991442,.i .i64 1,.s 8 8022086835787294034,.i .i64 1,.s 3 6383958,.i .i64 2,.s 4 1902465859,.i .i64 3,.s 4 1801666898,.i .i64 4,.s 14 2118593076047644386086300223958851,.i .i64 5,.s 7 32481164391381061,.i .i64 5,.s 12 35712208859136432295261004109,.i .i64 5,.s 11 139505538796981402030991693,.i .i64 5,.s 4 1902465874,.i .i64 5,.s 19 2462787319963300618914069775828421739474218819,.i .i64 6,.s 12 31393958642898984038472511299,.i .i64 6,.s 5 500068349509,.i .i64 6,.s 6 76223546812749,.i .i64 6,.s 15 599171726743894305243344019148465491,.i .i64 6,.s 18 8837943172779679942406515151746074144830803,.i .i64 6,.s 6 128026086171457,.i .i64 7,.s 5 512970484801,.i .i64 7,.s 12 35731532856486514854116224065,.i .i64 7,.s 13 8037453196880052494869233365584,.i .i64 7,.s 7 28554769915274578,.i .i64 7,.s 9 1851985001289037673811,.i .i64 7,.s 11 121371689044478372993003093,.i .i64 7]
noncomputable def cxG(k:Nat):Option (List SC):=bi (Nat.beq k (nat_lit 0)) (some cg0) (bi (Nat.beq k (nat_lit 2)) (some cg2) (none))
noncomputable def cx41:List SV->Hs->Option (SV×Hs):=xjoin
noncomputable def cx57:List SV->Hs->Option (SV×Hs):=xi fun a=>cv (str (Lib.itoa a))
noncomputable def cx80:List SV->Hs->Option (SV×Hs):=xs2 fun a b=>bi (Nat.ble (aid a) (nat_lit 1000000000)) (cv (.int .i64 (Lib.index a b))) none
noncomputable def cx82:List SV->Hs->Option (SV×Hs):=xs2 fun a b=>cvT [str (Lib.trimPrefix a b),.bool (Lib.hasPrefix a b)]
noncomputable def cx84:List SV->Hs->Option (SV×Hs):=xs2 fun a b=>bi (Nat.ble (aid a) (nat_lit 1000000000)) (cvT [str (Lib.cut a b).1,str (Lib.cut a b).2.1,.bool (Lib.cut a b).2.2]) none
noncomputable def cx89:List SV->Hs->Option (SV×Hs):=xbix
noncomputable def cx108:List SV->Hs->Option (SV×Hs):=xcc 124
noncomputable def cx122:List SV->Hs->Option (SV×Hs):=xs2 fun a b=>bi (Nat.ble (aid a) (nat_lit 1000000000)) (bi (Nat.ble (aid b) (nat_lit 1000)) (bi (b.all (fun b=>decide (b.toNat<128))) (cv (str (Lib.trimS a b))) none) none) none
noncomputable def cx123:List SV->Hs->Option (SV×Hs):=xs2 fun a b=>bi (Nat.ble (aid a) (nat_lit 1000000000)) (bi (Nat.ble (aid b) (nat_lit 1000)) (bi (b.all (fun b=>decide (b.toNat<128))) (cv (str (Lib.trimRightS a b))) none) none) none
noncomputable def cx143:List SV->Hs->Option (SV×Hs):=xsb fun a b=>cv (.int .i64 (ixb (fun d=>Nat.beq d.toNat b.toNat) a))
noncomputable def cx172:List SV->Hs->Option (SV×Hs):=xs2 fun a b=>bi (Nat.ble (aid a) (nat_lit 1000000000)) (bi (Nat.ble (aid b) (nat_lit 1000)) (bi (b.all (fun b=>decide (b.toNat<128))) (bi (or (Nat.ble (nat_lit 9) (aid a)) (or (Nat.ble (aid b) (nat_lit 1)) (a.all (fun b=>decide (b.toNat<128))))) (cv (.int .i64 (Lib.indexAny a b))) none) none) none) none
noncomputable def cx212:List SV->Hs->Option (SV×Hs):=xs2 fun a b=>cv (str (Lib.trimPrefix a b))
noncomputable def cx232:List SV->Hs->Option (SV×Hs):=xsplit 9
noncomputable def cx246:List SV->Hs->Option (SV×Hs):=xs2 fun a b=>bi (Nat.ble (aid a) (nat_lit 1000000000)) (cv (.bool (Lib.contains a b))) none
noncomputable def cx249:List SV->Hs->Option (SV×Hs):=xsb fun a b=>bi (Nat.ble (aid a) (nat_lit 1000000000)) (cv (.int .i64 (lixb (fun d=>Nat.beq d.toNat b.toNat) a))) none
noncomputable def cx254:List SV->Hs->Option (SV×Hs):=xs2 fun a b=>bi (Nat.ble (aid a) (nat_lit 1000000000)) (bi (Nat.ble (aid b) (nat_lit 1000)) (bi (b.all (fun b=>decide (b.toNat<128))) (cv (str (Lib.trimLeftS a b))) none) none) none
noncomputable def cxX(k:Nat):Option (List SV->Hs->Option (SV×Hs)):=bi (Nat.blt k (nat_lit 123)) (bi (Nat.blt k (nat_lit 84)) (bi (Nat.blt k (nat_lit 80)) (bi (Nat.blt k (nat_lit 57)) (bi (Nat.beq k (nat_lit 41)) (some cx41) (none)) (bi (Nat.beq k (nat_lit 57)) (some cx57) (none))) (bi (Nat.blt k (nat_lit 82)) (bi (Nat.beq k (nat_lit 80)) (some cx80) (none)) (bi (Nat.beq k (nat_lit 82)) (some cx82) (none)))) (bi (Nat.blt k (nat_lit 108)) (bi (Nat.blt k (nat_lit 89)) (bi (Nat.beq k (nat_lit 84)) (some cx84) (none)) (bi (Nat.beq k (nat_lit 89)) (some cx89) (none))) (bi (Nat.blt k (nat_lit 122)) (bi (Nat.beq k (nat_lit 108)) (some cx108) (none)) (bi (Nat.beq k (nat_lit 122)) (some cx122) (none))))) (bi (Nat.blt k (nat_lit 232)) (bi (Nat.blt k (nat_lit 172)) (bi (Nat.blt k (nat_lit 143)) (bi (Nat.beq k (nat_lit 123)) (some cx123) (none)) (bi (Nat.beq k (nat_lit 143)) (some cx143) (none))) (bi (Nat.blt k (nat_lit 212)) (bi (Nat.beq k (nat_lit 172)) (some cx172) (none)) (bi (Nat.beq k (nat_lit 212)) (some cx212) (none)))) (bi (Nat.blt k (nat_lit 249)) (bi (Nat.blt k (nat_lit 246)) (bi (Nat.beq k (nat_lit 232)) (some cx232) (none)) (bi (Nat.beq k (nat_lit 246)) (some cx246) (none))) (bi (Nat.blt k (nat_lit 254)) (bi (Nat.beq k (nat_lit 249)) (some cx249) (none)) (bi (Nat.beq k (nat_lit 254)) (some cx254) (none)))))
noncomputable def cxP(k:Nat):Bool:=bi (Nat.blt k (nat_lit 172)) (bi (Nat.blt k (nat_lit 103)) (bi (Nat.blt k (nat_lit 61)) (bi (Nat.blt k (nat_lit 39)) (bi (Nat.blt k (nat_lit 10)) (bi (Nat.blt k (nat_lit 2)) (bi (Nat.blt k (nat_lit 1)) (bi (Nat.beq k (nat_lit 0)) (true) (false)) (bi (Nat.beq k (nat_lit 1)) (true) (false))) (bi (Nat.blt k (nat_lit 5)) (bi (Nat.beq k (nat_lit 2)) (true) (false)) (bi (Nat.beq k (nat_lit 5)) (true) (false)))) (bi (Nat.blt k (nat_lit 29)) (bi (Nat.blt k (nat_lit 14)) (bi (Nat.beq k (nat_lit 10)) (true) (false)) (bi (Nat.beq k (nat_lit 14)) (true) (false))) (bi (Nat.blt k (nat_lit 30)) (bi (Nat.beq k (nat_lit 29)) (true) (false)) (bi (Nat.blt k (nat_lit 38)) (bi (Nat.beq k (nat_lit 30)) (true) (false)) (bi (Nat.beq k (nat_lit 38)) (true) (false)))))) (bi (Nat.blt k (nat_lit 49)) (bi (Nat.blt k (nat_lit 44)) (bi (Nat.blt k (nat_lit 43)) (bi (Nat.beq k (nat_lit 39)) (true) (false)) (bi (Nat.beq k (nat_lit 43)) (true) (false))) (bi (Nat.blt k (nat_lit 45)) (bi (Nat.beq k (nat_lit 44)) (true) (false)) (bi (Nat.blt k (nat_lit 48)) (bi (Nat.beq k (nat_lit 45)) (true) (false)) (bi (Nat.beq k (nat_lit 48)) (true) (false))))) (bi (Nat.blt k (nat_lit 51)) (bi (Nat.blt k (nat_lit 50)) (bi (Nat.beq k (nat_lit 49)) (true) (false)) (bi (Nat.beq k (nat_lit 50)) (true) (false))) (bi (Nat.blt k (nat_lit 57)) (bi (Nat.beq k (nat_lit 51)) (true) (false)) (bi (Nat.blt k (nat_lit 59)) (bi (Nat.beq k (nat_lit 57)) (true) (false)) (bi (Nat.beq k (nat_lit 59)) (true) (false))))))) (bi (Nat.blt k (nat_lit 84)) (bi (Nat.blt k (nat_lit 79)) (bi (Nat.blt k (nat_lit 73)) (bi (Nat.blt k (nat_lit 66)) (bi (Nat.beq k (nat_lit 61)) (true) (false)) (bi (Nat.beq k (nat_lit 66)) (true) (false))) (bi (Nat.blt k (nat_lit 78)) (bi (Nat.beq k (nat_lit 73)) (true) (false)) (bi (Nat.beq k (nat_lit 78)) (true) (false)))) (bi (Nat.blt k (nat_lit 81)) (bi (Nat.blt k (nat_lit 80)) (bi (Nat.beq k (nat_lit 79)) (true) (false)) (bi (Nat.beq k (nat_lit 80)) (true) (false))) (bi (Nat.blt k (nat_lit 82)) (bi (Nat.beq k (nat_lit 81)) (true) (false)) (bi (Nat.blt k (nat_lit 83)) (bi (Nat.beq k (nat_lit 82)) (true) (false)) (bi (Nat.beq k (nat_lit 83)) (true) (false)))))) (bi (Nat.blt k (nat_lit 92)) (bi (Nat.blt k (nat_lit 87)) (bi (Nat.blt k (nat_lit 86)) (bi (Nat.beq k (nat_lit 84)) (true) (false)) (bi (Nat.beq k (nat_lit 86)) (true) (false))) (bi (Nat.blt k (nat_lit 90)) (bi (Nat.beq k (nat_lit 87)) (true) (false)) (bi (Nat.blt k (nat_lit 91)) (bi (Nat.beq k (nat_lit 90)) (true) (false)) (bi (Nat.beq k (nat_lit 91)) (true) (false))))) (bi (Nat.blt k (nat_lit 97)) (bi (Nat.blt k (nat_lit 96)) (bi (Nat.beq k (nat_lit 92)) (true) (false)) (bi (Nat.beq k (nat_lit 96)) (true) (false))) (bi (Nat.blt k (nat_lit 99)) (bi (Nat.beq k (nat_lit 97)) (true) (false)) (bi (Nat.blt k (nat_lit 102)) (bi (Nat.beq k (nat_lit 99)) (true) (false)) (bi (Nat.beq k (nat_lit 102)) (true) (false)))))))) (bi (Nat.blt k (nat_lit 140)) (bi (Nat.blt k (nat_lit 118)) (bi (Nat.blt k (nat_lit 113)) (bi (Nat.blt k (nat_lit 111)) (bi (Nat.blt k (nat_lit 106)) (bi (Nat.beq k (nat_lit 103)) (true) (false)) (bi (Nat.beq k (nat_lit 106)) (true) (false))) (bi (Nat.blt k (nat_lit 112)) (bi (Nat.beq k (nat_lit 111)) (true) (false)) (bi (Nat.beq k (nat_lit 112)) (true) (false)))) (bi (Nat.blt k (nat_lit 115)) (bi (Nat.blt k (nat_lit 114)) (bi (Nat.beq k (nat_lit 113)) (true) (false)) (bi (Nat.beq k (nat_lit 114)) (true) (false))) (bi (Nat.blt k (nat_lit 116)) (bi (Nat.beq k (nat_lit 115)) (true) (false)) (bi (Nat.blt k (nat_lit 117)) (bi (Nat.beq k (nat_lit 116)) (true) (false)) (bi (Nat.beq k (nat_lit 117)) (true) (false)))))) (bi (Nat.blt k (nat_lit 124)) (bi (Nat.blt k (nat_lit 120)) (bi (Nat.blt k (nat_lit 119)) (bi (Nat.beq k (nat_lit 118)) (true) (false)) (bi (Nat.beq k (nat_lit 119)) (true) (false))) (bi (Nat.blt k (nat_lit 122)) (bi (Nat.beq k (nat_lit 120)) (true) (false)) (bi (Nat.blt k (nat_lit 123)) (bi (Nat.beq k (nat_lit 122)) (true) (false)) (bi (Nat.beq k (nat_lit 123)) (true) (false))))) (bi (Nat.blt k (nat_lit 129)) (bi (Nat.blt k (nat_lit 127)) (bi (Nat.beq k (nat_lit 124)) (true) (false)) (bi (Nat.beq k (nat_lit 127)) (true) (false))) (bi (Nat.blt k (nat_lit 135)) (bi (Nat.beq k (nat_lit 129)) (true) (false)) (bi (Nat.blt k (nat_lit 136)) (bi (Nat.beq k (nat_lit 135)) (true) (false)) (bi (Nat.beq k (nat_lit 136)) (true) (false))))))) (bi (Nat.blt k (nat_lit 154)) (bi (Nat.blt k (nat_lit 148)) (bi (Nat.blt k (nat_lit 143)) (bi (Nat.blt k (nat_lit 142)) (bi (Nat.beq k (nat_lit 140)) (true) (false)) (bi (Nat.beq k (nat_lit 142)) (true) (false))) (bi (Nat.blt k (nat_lit 144)) (bi (Nat.beq k (nat_lit 143)) (true) (false)) (bi (Nat.blt k (nat_lit 147)) (bi (Nat.beq k (nat_lit 144)) (true) (false)) (bi (Nat.beq k (nat_lit 147)) (true) (false))))) (bi (Nat.blt k (nat_lit 150)) (bi (Nat.blt k (nat_lit 149)) (bi (Nat.beq k (nat_lit 148)) (true) (false)) (bi (Nat.beq k (nat_lit 149)) (true) (false))) (bi (Nat.blt k (nat_lit 151)) (bi (Nat.beq k (nat_lit 150)) (true) (false)) (bi (Nat.blt k (nat_lit 153)) (bi (Nat.beq k (nat_lit 151)) (true) (false)) (bi (Nat.beq k (nat_lit 153)) (true) (false)))))) (bi (Nat.blt k (nat_lit 163)) (bi (Nat.blt k (nat_lit 158)) (bi (Nat.blt k (nat_lit 155)) (bi (Nat.beq k (nat_lit 154)) (true) (false)) (bi (Nat.beq k (nat_lit 155)) (true) (false))) (bi (Nat.blt k (nat_lit 159)) (bi (Nat.beq k (nat_lit 158)) (true) (false)) (bi (Nat.blt k (nat_lit 160)) (bi (Nat.beq k (nat_lit 159)) (true) (false)) (bi (Nat.beq k (nat_lit 160)) (true) (false))))) (bi (Nat.blt k (nat_lit 167)) (bi (Nat.blt k (nat_lit 164)) (bi (Nat.beq k (nat_lit 163)) (true) (false)) (bi (Nat.beq k (nat_lit 164)) (true) (false))) (bi (Nat.blt k (nat_lit 169)) (bi (Nat.beq k (nat_lit 167)) (true) (false)) (bi (Nat.blt k (nat_lit 170)) (bi (Nat.beq k (nat_lit 169)) (true) (false)) (bi (Nat.beq k (nat_lit 170)) (true) (false))))))))) (bi (Nat.blt k (nat_lit 235)) (bi (Nat.blt k (nat_lit 203)) (bi (Nat.blt k (nat_lit 188)) (bi (Nat.blt k (nat_lit 182)) (bi (Nat.blt k (nat_lit 179)) (bi (Nat.blt k (nat_lit 173)) (bi (Nat.beq k (nat_lit 172)) (true) (false)) (bi (Nat.beq k (nat_lit 173)) (true) (false))) (bi (Nat.blt k (nat_lit 181)) (bi (Nat.beq k (nat_lit 179)) (true) (false)) (bi (Nat.beq k (nat_lit 181)) (true) (false)))) (bi (Nat.blt k (nat_lit 184)) (bi (Nat.blt k (nat_lit 183)) (bi (Nat.beq k (nat_lit 182)) (true) (false)) (bi (Nat.beq k (nat_lit 183)) (true) (false))) (bi (Nat.blt k (nat_lit 185)) (bi (Nat.beq k (nat_lit 184)) (true) (false)) (bi (Nat.blt k (nat_lit 187)) (bi (Nat.beq k (nat_lit 185)) (true) (false)) (bi (Nat.beq k (nat_lit 187)) (true) (false)))))) (bi (Nat.blt k (nat_lit 198)) (bi (Nat.blt k (nat_lit 194)) (bi (Nat.blt k (nat_lit 189)) (bi (Nat.beq k (nat_lit 188)) (true) (false)) (bi (Nat.beq k (nat_lit 189)) (true) (false))) (bi (Nat.blt k (nat_lit 195)) (bi (Nat.beq k (nat_lit 194)) (true) (false)) (bi (Nat.blt k (nat_lit 197)) (bi (Nat.beq k (nat_lit 195)) (true) (false)) (bi (Nat.beq k (nat_lit 197)) (true) (false))))) (bi (Nat.blt k (nat_lit 200)) (bi (Nat.blt k (nat_lit 199)) (bi (Nat.beq k (nat_lit 198)) (true) (false)) (bi (Nat.beq k (nat_lit 199)) (true) (false))) (bi (Nat.blt k (nat_lit 201)) (bi (Nat.beq k (nat_lit 200)) (true) (false)) (bi (Nat.blt k (nat_lit 202)) (bi (Nat.beq k (nat_lit 201)) (true) (false)) (bi (Nat.beq k (nat_lit 202)) (true) (false))))))) (bi (Nat.blt k (nat_lit 217)) (bi (Nat.blt k (nat_lit 209)) (bi (Nat.blt k (nat_lit 207)) (bi (Nat.blt k (nat_lit 204)) (bi (Nat.beq k (nat_lit 203)) (true) (false)) (bi (Nat.beq k (nat_lit 204)) (true) (false))) (bi (Nat.blt k (nat_lit 208)) (bi (Nat.beq k (nat_lit 207)) (true) (false)) (bi (Nat.beq k (nat_lit 208)) (true) (false)))) (bi (Nat.blt k (nat_lit 212)) (bi (Nat.blt k (nat_lit 211)) (bi (Nat.beq k (nat_lit 209)) (true) (false)) (bi (Nat.beq k (nat_lit 211)) (true) (false))) (bi (Nat.blt k (nat_lit 215)) (bi (Nat.beq k (nat_lit 212)) (true) (false)) (bi (Nat.blt k (nat_lit 216)) (bi (Nat.beq k (nat_lit 215)) (true) (false)) (bi (Nat.beq k (nat_lit 216)) (true) (false)))))) (bi (Nat.blt k (nat_lit 225)) (bi (Nat.blt k (nat_lit 220)) (bi (Nat.blt k (nat_lit 218)) (bi (Nat.beq k (nat_lit 217)) (true) (false)) (bi (Nat.beq k (nat_lit 218)) (true) (false))) (bi (Nat.blt k (nat_lit 221)) (bi (Nat.beq k (nat_lit 220)) (true) (false)) (bi (Nat.blt k (nat_lit 222)) (bi (Nat.beq k (nat_lit 221)) (true) (false)) (bi (Nat.beq k (nat_lit 222)) (true) (false))))) (bi (Nat.blt k (nat_lit 229)) (bi (Nat.blt k (nat_lit 228)) (bi (Nat.beq k (nat_lit 225)) (true) (false)) (bi (Nat.beq k (nat_lit 228)) (true) (false))) (bi (Nat.blt k (nat_lit 230)) (bi (Nat.beq k (nat_lit 229)) (true) (false)) (bi (Nat.blt k (nat_lit 233)) (bi (Nat.beq k (nat_lit 230)) (true) (false)) (bi (Nat.beq k (nat_lit 233)) (true) (false)))))))) (bi (Nat.blt k (nat_lit 273)) (bi (Nat.blt k (nat_lit 252)) (bi (Nat.blt k (nat_lit 241)) (bi (Nat.blt k (nat_lit 239)) (bi (Nat.blt k (nat_lit 236)) (bi (Nat.beq k (nat_lit 235)) (true) (false)) (bi (Nat.beq k (nat_lit 236)) (true) (false))) (bi (Nat.blt k (nat_lit 240)) (bi (Nat.beq k (nat_lit 239)) (true) (false)) (bi (Nat.beq k (nat_lit 240)) (true) (false)))) (bi (Nat.blt k (nat_lit 244)) (bi (Nat.blt k (nat_lit 242)) (bi (Nat.beq k (nat_lit 241)) (true) (false)) (bi (Nat.beq k (nat_lit 242)) (true) (false))) (bi (Nat.blt k (nat_lit 246)) (bi (Nat.beq k (nat_lit 244)) (true) (false)) (bi (Nat.blt k (nat_lit 249)) (bi (Nat.beq k (nat_lit 246)) (true) (false)) (bi (Nat.beq k (nat_lit 249)) (true) (false)))))) (bi (Nat.blt k (nat_lit 267)) (bi (Nat.blt k (nat_lit 254)) (bi (Nat.blt k (nat_lit 253)) (bi (Nat.beq k (nat_lit 252)) (true) (false)) (bi (Nat.beq k (nat_lit 253)) (true) (false))) (bi (Nat.blt k (nat_lit 259)) (bi (Nat.beq k (nat_lit 254)) (true) (false)) (bi (Nat.blt k (nat_lit 263)) (bi (Nat.beq k (nat_lit 259)) (true) (false)) (bi (Nat.beq k (nat_lit 263)) (true) (false))))) (bi (Nat.blt k (nat_lit 270)) (bi (Nat.blt k (nat_lit 268)) (bi (Nat.beq k (nat_lit 267)) (true) (false)) (bi (Nat.beq k (nat_lit 268)) (true) (false))) (bi (Nat.blt k (nat_lit 271)) (bi (Nat.beq k (nat_lit 270)) (true) (false)) (bi (Nat.blt k (nat_lit 272)) (bi (Nat.beq k (nat_lit 271)) (true) (false)) (bi (Nat.beq k (nat_lit 272)) (true) (false))))))) (bi (Nat.blt k (nat_lit 291)) (bi (Nat.blt k (nat_lit 286)) (bi (Nat.blt k (nat_lit 275)) (bi (Nat.blt k (nat_lit 274)) (bi (Nat.beq k (nat_lit 273)) (true) (false)) (bi (Nat.beq k (nat_lit 274)) (true) (false))) (bi (Nat.blt k (nat_lit 276)) (bi (Nat.beq k (nat_lit 275)) (true) (false)) (bi (Nat.blt k (nat_lit 277)) (bi (Nat.beq k (nat_lit 276)) (true) (false)) (bi (Nat.beq k (nat_lit 277)) (true) (false))))) (bi (Nat.blt k (nat_lit 288)) (bi (Nat.blt k (nat_lit 287)) (bi (Nat.beq k (nat_lit 286)) (true) (false)) (bi (Nat.beq k (nat_lit 287)) (true) (false))) (bi (Nat.blt k (nat_lit 289)) (bi (Nat.beq k (nat_lit 288)) (true) (false)) (bi (Nat.blt k (nat_lit 290)) (bi (Nat.beq k (nat_lit 289)) (true) (false)) (bi (Nat.beq k (nat_lit 290)) (true) (false)))))) (bi (Nat.blt k (nat_lit 296)) (bi (Nat.blt k (nat_lit 293)) (bi (Nat.blt k (nat_lit 292)) (bi (Nat.beq k (nat_lit 291)) (true) (false)) (bi (Nat.beq k (nat_lit 292)) (true) (false))) (bi (Nat.blt k (nat_lit 294)) (bi (Nat.beq k (nat_lit 293)) (true) (false)) (bi (Nat.blt k (nat_lit 295)) (bi (Nat.beq k (nat_lit 294)) (true) (false)) (bi (Nat.beq k (nat_lit 295)) (true) (false))))) (bi (Nat.blt k (nat_lit 298)) (bi (Nat.blt k (nat_lit 297)) (bi (Nat.beq k (nat_lit 296)) (true) (false)) (bi (Nat.beq k (nat_lit 297)) (true) (false))) (bi (Nat.blt k (nat_lit 299)) (bi (Nat.beq k (nat_lit 298)) (true) (false)) (bi (Nat.blt k (nat_lit 300)) (bi (Nat.beq k (nat_lit 299)) (true) (false)) (bi (Nat.beq k (nat_lit 300)) (true) (false)))))))))
noncomputable def cxV(k:Nat):Bool:=bi (Nat.beq k (nat_lit 71)) (true) (false)
noncomputable def cx:Cx:=⟨Tryz.prog,cxG,cxX,cxP,cxV⟩
theorem cx_g{w:World}(hG:Gl w):Gok cxG w:=by
 intro g cs h;unfold cxG at h;rw [aaz]at h;split at h
 ·rename_i hk;rw [aak]at hk;have hk:g=0:=hk;subst hk;cases h
  obtain⟨t,f,e⟩:=hG.specials;exact⟨okL_ok (show okL 0 cg0=true by kernel_rfl),t,f,fun E=>by rw [e];kernel_rfl⟩
 rw [aaz]at h;split at h
 ·rename_i hk;rw [aak]at hk;have hk:g=2:=hk;subst hk;cases h
  obtain⟨t,f,e⟩:=hG.kinds;exact⟨okL_ok (show okL 0 cg2=true by kernel_rfl),t,f,fun E=>by rw [e];kernel_rfl⟩
 cases h
theorem cx_names : (Tryz.prog.funcs.all fun fn => !(fn.name == "runtime.NumGoroutine")) = true := by kernel_rfl
theorem cx_ok:Cok cx Gl where
 gp:=fun h hp=>h.hp0 hp
 g:=cx_g
 ng:=fun f fn h=>by
  have h1:=Array.all_eq_true'.1 cx_names fn (Array.mem_of_getElem? h);simpa using h1
 mo:=by kernel_rfl
 ov:=fun k h=>by
  have h:cxV k=true:=h;unfold cxV at h;rw [aaz]at h;split at h
  ·rename_i hk;rw [aak]at hk;have hk:k=71:=hk;subst hk;exact⟨Tryz.f71,22,4,53,2,Tryz.func71,by kernel_rfl,by kernel_rfl,by kernel_rfl,Tryz.underlying22,by kernel_rfl⟩
  cases h
theorem ent_41:Go.Wk.Enters cx.P 41:=⟨Tryz.f41,_,Tryz.func41,rfl,by kernel_rfl⟩
theorem cx41_ok(hC:Cok cx Gl):aew cx Gl cx41 41:=xjoin_ok hC ent_41 fun t w a n cap xs h1 h2 h3 h4=>sh_Join t w a n cap xs h1 h2 h3 h4
theorem ent_57:Go.Wk.Enters cx.P 57:=⟨Tryz.f57,_,Tryz.func57,rfl,by kernel_rfl⟩
theorem cx57_ok(hC:Cok cx Gl):aew cx Gl cx57 57:=xi_ok hC ent_57 fun a v h=>by
 exact⟨cv_pl h,fun E w hG hb=>CR.mono (sh_Itoa a w ⟨hb.1,hb.2⟩ hG) fun V w' hv=>⟨hv.1.trans (ajb h E 0).1.symm,hv.2⟩⟩
theorem ent_80:Go.Wk.Enters cx.P 80:=⟨Tryz.f80,_,Tryz.func80,rfl,by kernel_rfl⟩
theorem cx80_ok(hC:Cok cx Gl):aew cx Gl cx80 80:=xs2_ok hC ent_80 fun a b v h=>by
 obtain⟨h1,h⟩:=aac h;rw [aaj,abm]at h1;exact⟨cv_pl h,fun E w hG=>CR.mono (sh_Index a b w h1 hG) fun V w' hv=>⟨hv.1.trans (ajb h E 0).1.symm,hv.2⟩⟩
theorem ent_82:Go.Wk.Enters cx.P 82:=⟨Tryz.f82,_,Tryz.func82,rfl,by kernel_rfl⟩
theorem cx82_ok(hC:Cok cx Gl):aew cx Gl cx82 82:=xs2_ok hC ent_82 fun a b v h=>by
 exact⟨(cvT_ok h (fun _=>(0,0))).2,fun E w hG=>CR.mono (sh_CutPrefix a b w) fun V w' hv=>⟨hv.1.trans (cvT_ok h E).1.symm,hv.2⟩⟩
theorem ent_84:Go.Wk.Enters cx.P 84:=⟨Tryz.f84,_,Tryz.func84,rfl,by kernel_rfl⟩
theorem cx84_ok(hC:Cok cx Gl):aew cx Gl cx84 84:=xs2_ok hC ent_84 fun a b v h=>by
 obtain⟨h1,h⟩:=aac h;rw [aaj,abm]at h1;exact⟨(cvT_ok h (fun _=>(0,0))).2,fun E w hG=>CR.mono (sh_Cut a b w h1 hG) fun V w' hv=>⟨hv.1.trans (cvT_ok h E).1.symm,hv.2⟩⟩
theorem ent_89:Go.Wk.Enters cx.P 89:=⟨Tryz.f89,_,Tryz.func89,rfl,by kernel_rfl⟩
theorem cx89_ok(hC:Cok cx Gl):aew cx Gl cx89 89:=xbix_ok hC ent_89 (fun a1 a2 n c1 k c2 s t w hn hk h1 h2 hc hs ht hG=>sh_bIndex a1 a2 n c1 k c2 s t w hn hk h1 h2 hc hs ht hG) (fun a k c w h2 hk=>sh_bIndex0 a k c w h2 hk)
theorem ent_108:Go.Wk.Enters cx.P 108:=⟨Tryz.f108,_,Tryz.func108,rfl,by kernel_rfl⟩
theorem cx108_ok(hC:Cok cx Gl):aew cx Gl cx108 108:=xcc_ok hC ent_108 fun b z s w h=>sh_copyCheck b z s w h
theorem ent_122:Go.Wk.Enters cx.P 122:=⟨Tryz.f122,_,Tryz.func122,rfl,by kernel_rfl⟩
theorem cx122_ok(hC:Cok cx Gl):aew cx Gl cx122 122:=xs2_ok hC ent_122 fun a b v h=>by
 obtain⟨h1,h⟩:=aac h;rw [aaj,abm]at h1;obtain⟨h2,h⟩:=aac h;rw [aaj,abm]at h2;obtain⟨h3,h⟩:=aac h;exact⟨cv_pl h,fun E w hG=>CR.mono (sh_Trim a b w h1 ⟨h2,h3⟩) fun V w' hv=>⟨hv.1.trans (ajb h E 0).1.symm,hv.2⟩⟩
theorem ent_123:Go.Wk.Enters cx.P 123:=⟨Tryz.f123,_,Tryz.func123,rfl,by kernel_rfl⟩
theorem cx123_ok(hC:Cok cx Gl):aew cx Gl cx123 123:=xs2_ok hC ent_123 fun a b v h=>by
 obtain⟨h1,h⟩:=aac h;rw [aaj,abm]at h1;obtain⟨h2,h⟩:=aac h;rw [aaj,abm]at h2;obtain⟨h3,h⟩:=aac h;exact⟨cv_pl h,fun E w hG=>CR.mono (sh_TrimRight a b w h1 ⟨h2,h3⟩) fun V w' hv=>⟨hv.1.trans (ajb h E 0).1.symm,hv.2⟩⟩
theorem ent_143:Go.Wk.Enters cx.P 143:=⟨Tryz.f143,_,Tryz.func143,rfl,by kernel_rfl⟩
theorem cx143_ok(hC:Cok cx Gl):aew cx Gl cx143 143:=xsb_ok hC ent_143 fun a b v h=>by
 exact⟨cv_pl h,fun E w hG=>CR.mono (sh_IndexByte a b w) fun V w' hv=>⟨hv.1.trans (by rw [(ajb h E 0).1,beqn]),hv.2⟩⟩
theorem ent_172:Go.Wk.Enters cx.P 172:=⟨Tryz.f172,_,Tryz.func172,rfl,by kernel_rfl⟩
theorem cx172_ok(hC:Cok cx Gl):aew cx Gl cx172 172:=xs2_ok hC ent_172 fun a b v h=>by
 obtain⟨h1,h⟩:=aac h;rw [aaj,abm]at h1;obtain⟨h2,h⟩:=aac h;rw [aaj,abm]at h2;obtain⟨h3,h⟩:=aac h;obtain⟨h4,h⟩:=aac h;simp only [Bool.or_eq_true,aaj,abm]at h4;exact⟨cv_pl h,fun E w hG=>CR.mono (sh_IndexAny a b w ⟨h1,h2,h3,h4⟩) fun V w' hv=>⟨hv.1.trans (ajb h E 0).1.symm,hv.2⟩⟩
theorem ent_212:Go.Wk.Enters cx.P 212:=⟨Tryz.f212,_,Tryz.func212,rfl,by kernel_rfl⟩
theorem cx212_ok(hC:Cok cx Gl):aew cx Gl cx212 212:=xs2_ok hC ent_212 fun a b v h=>by
 exact⟨cv_pl h,fun E w hG=>CR.mono (sh_TrimPrefix a b w) fun V w' hv=>⟨hv.1.trans (ajb h E 0).1.symm,hv.2⟩⟩
theorem ent_232:Go.Wk.Enters cx.P 232:=⟨Tryz.f232,_,Tryz.func232,rfl,by kernel_rfl⟩
theorem cx232_ok(hC:Cok cx Gl):aew cx Gl cx232 232:=xsplit_ok hC ent_232 fun s c w hG h=>sh_Split s c w h hG
theorem ent_246:Go.Wk.Enters cx.P 246:=⟨Tryz.f246,_,Tryz.func246,rfl,by kernel_rfl⟩
theorem cx246_ok(hC:Cok cx Gl):aew cx Gl cx246 246:=xs2_ok hC ent_246 fun a b v h=>by
 obtain⟨h1,h⟩:=aac h;rw [aaj,abm]at h1;exact⟨cv_pl h,fun E w hG=>CR.mono (sh_Contains a b w h1 hG) fun V w' hv=>⟨hv.1.trans (ajb h E 0).1.symm,hv.2⟩⟩
theorem ent_249:Go.Wk.Enters cx.P 249:=⟨Tryz.f249,_,Tryz.func249,rfl,by kernel_rfl⟩
theorem cx249_ok(hC:Cok cx Gl):aew cx Gl cx249 249:=xsb_ok hC ent_249 fun a b v h=>by
 obtain⟨h1,h⟩:=aac h;rw [aaj,abm]at h1;exact⟨cv_pl h,fun E w hG=>CR.mono (sh_LastIndexByte a b w h1) fun V w' hv=>⟨hv.1.trans (by rw [(ajb h E 0).1,beqn]),hv.2⟩⟩
theorem ent_254:Go.Wk.Enters cx.P 254:=⟨Tryz.f254,_,Tryz.func254,rfl,by kernel_rfl⟩
theorem cx254_ok(hC:Cok cx Gl):aew cx Gl cx254 254:=xs2_ok hC ent_254 fun a b v h=>by
 obtain⟨h1,h⟩:=aac h;rw [aaj,abm]at h1;obtain⟨h2,h⟩:=aac h;rw [aaj,abm]at h2;obtain⟨h3,h⟩:=aac h;exact⟨cv_pl h,fun E w hG=>CR.mono (sh_TrimLeft a b w h1 ⟨h2,h3⟩) fun V w' hv=>⟨hv.1.trans (ajb h E 0).1.symm,hv.2⟩⟩
theorem cx_x:Xok cx Gl:=by
 intro k f h;have h:cxX k=some f:=h;unfold cxX at h;rw [aaz]at h;split at h
 ·rw [aaz]at h;split at h
  ·rw [aaz]at h;split at h
   ·rw [aaz]at h;split at h
    ·rw [aaz]at h;split at h
     ·rename_i hk;rw [aak]at hk;have hk:k=41:=hk;subst hk;cases h
      exact cx41_ok cx_ok
     ·cases h
    ·rw [aaz]at h;split at h
     ·rename_i hk;rw [aak]at hk;have hk:k=57:=hk;subst hk;cases h
      exact cx57_ok cx_ok
     ·cases h
   ·rw [aaz]at h;split at h
    ·rw [aaz]at h;split at h
     ·rename_i hk;rw [aak]at hk;have hk:k=80:=hk;subst hk;cases h
      exact cx80_ok cx_ok
     ·cases h
    ·rw [aaz]at h;split at h
     ·rename_i hk;rw [aak]at hk;have hk:k=82:=hk;subst hk;cases h
      exact cx82_ok cx_ok
     ·cases h
  ·rw [aaz]at h;split at h
   ·rw [aaz]at h;split at h
    ·rw [aaz]at h;split at h
     ·rename_i hk;rw [aak]at hk;have hk:k=84:=hk;subst hk;cases h
      exact cx84_ok cx_ok
     ·cases h
    ·rw [aaz]at h;split at h
     ·rename_i hk;rw [aak]at hk;have hk:k=89:=hk;subst hk;cases h
      exact cx89_ok cx_ok
     ·cases h
   ·rw [aaz]at h;split at h
    ·rw [aaz]at h;split at h
     ·rename_i hk;rw [aak]at hk;have hk:k=108:=hk;subst hk;cases h
      exact cx108_ok cx_ok
     ·cases h
    ·rw [aaz]at h;split at h
     ·rename_i hk;rw [aak]at hk;have hk:k=122:=hk;subst hk;cases h
      exact cx122_ok cx_ok
     ·cases h
 ·rw [aaz]at h;split at h
  ·rw [aaz]at h;split at h
   ·rw [aaz]at h;split at h
    ·rw [aaz]at h;split at h
     ·rename_i hk;rw [aak]at hk;have hk:k=123:=hk;subst hk;cases h
      exact cx123_ok cx_ok
     ·cases h
    ·rw [aaz]at h;split at h
     ·rename_i hk;rw [aak]at hk;have hk:k=143:=hk;subst hk;cases h
      exact cx143_ok cx_ok
     ·cases h
   ·rw [aaz]at h;split at h
    ·rw [aaz]at h;split at h
     ·rename_i hk;rw [aak]at hk;have hk:k=172:=hk;subst hk;cases h
      exact cx172_ok cx_ok
     ·cases h
    ·rw [aaz]at h;split at h
     ·rename_i hk;rw [aak]at hk;have hk:k=212:=hk;subst hk;cases h
      exact cx212_ok cx_ok
     ·cases h
  ·rw [aaz]at h;split at h
   ·rw [aaz]at h;split at h
    ·rw [aaz]at h;split at h
     ·rename_i hk;rw [aak]at hk;have hk:k=232:=hk;subst hk;cases h
      exact cx232_ok cx_ok
     ·cases h
    ·rw [aaz]at h;split at h
     ·rename_i hk;rw [aak]at hk;have hk:k=246:=hk;subst hk;cases h
      exact cx246_ok cx_ok
     ·cases h
   ·rw [aaz]at h;split at h
    ·rw [aaz]at h;split at h
     ·rename_i hk;rw [aak]at hk;have hk:k=249:=hk;subst hk;cases h
      exact cx249_ok cx_ok
     ·cases h
    ·rw [aaz]at h;split at h
     ·rename_i hk;rw [aak]at hk;have hk:k=254:=hk;subst hk;cases h
      exact cx254_ok cx_ok
     ·cases h
theorem closed{n k:Nat}(h:isT ((lev cx n).call k [] H0)=true){w:World}(hG:Gl w):Go.Wk.Enters Tryz.prog k/\CR Tryz.prog k [] w fun V w'=>V=.bool true/\Hp w [] [] w':=
 let ⟨H',h⟩:=isT_ok h
 run_says cx_ok cx_x h rfl rfl hG (fun _=>(0,0))
theorem awake_runs:isT ((lev cx 60).call 10 [] H0)=true:=by kernel_rfl
theorem sh_awake(w:World)(hG:Gl w):CR Tryz.prog 10 [] w fun v w'=>v=.bool true/\Hp w [] [] w':=(closed awake_runs hG).2
end Go.Proofs
set_option maxHeartbeats 1000000
namespace Go.Proofs
open Go.Wk Go.Px
open Go.Value renaming slice -> Vs, int -> Vi, bool -> Vb, pointer -> Vp
open Go.Value renaming func -> zbi
open Int renaming toNat -> zah
open Nat renaming lt_succ_self -> zad
open Tryz
theorem ent45:Wk.Enters prog 45:=⟨f45,_,func45,rfl,krf⟩
theorem ent78:Wk.Enters prog 78:=⟨f78,_,func78,rfl,krf⟩
theorem ent110:Wk.Enters prog 110:=⟨f110,_,func110,rfl,krf⟩
theorem ent111:Wk.Enters prog 111:=⟨f111,_,func111,rfl,krf⟩
theorem K_L_lexis_char_token {fu : Nat} {a2 : UInt8} {w : World} {r : Bool} (hr : aef fu a2 = some r) (hG : Gl w) : CR prog 111 [(bt a2)] w fun v w' => v = (Vb r) /\ Hp w [] [] w' := by
 have hH := Hp.refl w;refine enter (k := 34) func111 rfl rfl nbe ?_;unfold aef at hr;refine sr (wp 1 (nq (bi hr fun a7 a0 hr => cut1 hH a7 [0, 2] (fun a8 => []) ?_ ?_)));refine ce (cs (bi a0 fun a9 a3 a0 => cut0 hH [0, 2, 3] [(3, (Vb a9))] ?_ ?_));refine cr (wp 1 (aii a2 (97 : UInt8) krf krf (wd a3 (fun b0 a3 => ?_) (fun b0 a3 => ?_))));refine wp 1 (gy 6 (aih a2 (122 : UInt8) krf krf (wp 2 (wl (ql ?_)))));obtain rfl := oi a3;exact je hH.kp
 refine wp 4 (wl (ql ?_));obtain rfl := oi a3;exact je hH.kp
 intro d8 G a4;refine cb a0 (fun b1 a0 => ?_) (fun b1 a0 => ?_);refine ck (qn (cb a0 (fun b2 a0 => ?_) (fun b2 a0 => ?_)));refine sr (wp 1 (nq (ct (bt_ (acm ?_)))));obtain rfl := oi a0;obtain rfl := oi hr;exact rv a4.kp
 refine ck (bn (ql ?_));obtain rfl := oi a0;exact je1 rfl a4.kp
 refine bi a0 fun b3 a5 a0 => cut0 a4 [0, 2, 3] [(3, (Vb b3))] ?_ ?_
 refine cr (wp 1 (aii a2 (65 : UInt8) krf krf (wd a5 (fun b4 a5 => ?_) (fun b4 a5 => ?_))));refine wp 1 (gy 12 (aih a2 (90 : UInt8) krf krf (wp 2 (wl (ql ?_)))));obtain rfl := oi a5;exact je a4.kp
 refine wp 4 (wl (ql ?_));obtain rfl := oi a5;exact je a4.kp
 intro d9 G a6;refine cb a0 (fun b5 a0 => ?_) (fun b5 a0 => ?_);refine ck (qn (cb a0 (fun b6 a0 => ?_) (fun b6 a0 => ?_)));refine sr (wp 1 (nq (ct (bt_ (acm ?_)))));obtain rfl := oi a0;obtain rfl := oi hr;exact rv a6.kp
 refine ck (bn (ql ?_));obtain rfl := oi a0;exact je1 rfl a6.kp
 refine cr (wp 1 (aii a2 (48 : UInt8) krf krf (wd a0 (fun b7 a0 => ?_) (fun b7 a0 => ?_))));refine wp 1 (gy 18 (aih a2 (57 : UInt8) krf krf (wp 2 (nq (cd a0 (fun b8 a0 => ?_) (fun b8 a0 => ?_))))));refine sr (wp 1 (nq (ct (bt_ (acm ?_)))));obtain rfl := oi a0;obtain rfl := oi hr;exact rv a6.kp
 refine ck (bn (ql ?_));obtain rfl := oi a0;exact je1 rfl a6.kp
 refine wp 4 (nq (c_false krf (ck (bn (ql ?_)))));obtain rfl := oi a0;exact je1 rfl a6.kp
 rintro a8 e0 G a1 rfl
 refine cs (sr (wp 1 (nq (ce (cs (sr ?_))))));refine abh a2 (45 : UInt8) krf krf (wp 1 (nq (cd hr (fun b9 hr => ?_) (fun b9 hr => ?_))));refine ck (qn (cd hr (fun c0 hr => ?_) (fun c0 hr => ?_)));refine sr (wp 1 (nq (ct (bt_ (st ?_)))));obtain rfl := oi hr;exact rv a1.kp
 refine ck (bn (qn (sr (wp 1 (nq (ct ?_))))));obtain rfl := oi hr;exact rv a1.kp
 refine sr (abh a2 (46 : UInt8) krf krf (wp 1 (nq (cd hr (fun c1 hr => ?_) (fun c1 hr => ?_)))));refine ck (qn (cd hr (fun c2 hr => ?_) (fun c2 hr => ?_)));refine sr (wp 1 (nq (ct (bt_ (st ?_)))));obtain rfl := oi hr;exact rv a1.kp
 refine ck (bn (qn (sr (wp 1 (nq (ct ?_))))));obtain rfl := oi hr;exact rv a1.kp
 refine sr (abh a2 (33 : UInt8) krf krf (wp 1 (nq (cd hr (fun c3 hr => ?_) (fun c3 hr => ?_)))));refine ck (qn (cd hr (fun c4 hr => ?_) (fun c4 hr => ?_)));refine sr (wp 1 (nq (ct (bt_ (st ?_)))));obtain rfl := oi hr;exact rv a1.kp
 refine ck (bn (qn (sr (wp 1 (nq (ct ?_))))));obtain rfl := oi hr;exact rv a1.kp
 refine sr (abh a2 (37 : UInt8) krf krf (wp 1 (nq (cd hr (fun c5 hr => ?_) (fun c5 hr => ?_)))));refine ck (qn (cd hr (fun c6 hr => ?_) (fun c6 hr => ?_)));refine sr (wp 1 (nq (ct (bt_ (st ?_)))));obtain rfl := oi hr;exact rv a1.kp
 refine ck (bn (qn (sr (wp 1 (nq (ct ?_))))));obtain rfl := oi hr;exact rv a1.kp
 refine sr (abh a2 (42 : UInt8) krf krf (wp 1 (nq (cd hr (fun c7 hr => ?_) (fun c7 hr => ?_)))));refine ck (qn (cd hr (fun c8 hr => ?_) (fun c8 hr => ?_)));refine sr (wp 1 (nq (ct (bt_ (st ?_)))));obtain rfl := oi hr;exact rv a1.kp
 refine ck (bn (qn (sr (wp 1 (nq (ct ?_))))));obtain rfl := oi hr;exact rv a1.kp
 refine sr (abh a2 (95 : UInt8) krf krf (wp 1 (nq (cd hr (fun c9 hr => ?_) (fun c9 hr => ?_)))));refine ck (qn (cd hr (fun d0 hr => ?_) (fun d0 hr => ?_)));refine sr (wp 1 (nq (ct (bt_ (st ?_)))));obtain rfl := oi hr;exact rv a1.kp
 refine ck (bn (qn (sr (wp 1 (nq (ct ?_))))));obtain rfl := oi hr;exact rv a1.kp
 refine sr (abh a2 (43 : UInt8) krf krf (wp 1 (nq (cd hr (fun d1 hr => ?_) (fun d1 hr => ?_)))));refine ck (qn (cd hr (fun d2 hr => ?_) (fun d2 hr => ?_)));refine sr (wp 1 (nq (ct (bt_ (st ?_)))));obtain rfl := oi hr;exact rv a1.kp
 refine ck (bn (qn (sr (wp 1 (nq (ct ?_))))));obtain rfl := oi hr;exact rv a1.kp
 refine sr (abh a2 (39 : UInt8) krf krf (wp 1 (nq (cd hr (fun d3 hr => ?_) (fun d3 hr => ?_)))));refine ck (qn (cd hr (fun d4 hr => ?_) (fun d4 hr => ?_)));refine sr (wp 1 (nq (ct (bt_ (st ?_)))));obtain rfl := oi hr;exact rv a1.kp
 refine ck (bn (qn (sr (wp 1 (nq (ct ?_))))));obtain rfl := oi hr;exact rv a1.kp
 refine sr (abh a2 (126 : UInt8) krf krf (wp 1 (nq (cd hr (fun d5 hr => ?_) (fun d5 hr => ?_)))));refine ck (qn (cd hr (fun d6 hr => ?_) (fun d6 hr => ?_)));refine sr (wp 1 (nq (ct (bt_ (st ?_)))));obtain rfl := oi hr;exact rv a1.kp
 refine ck (bn (qn (sr (wp 1 (nq (ct ?_))))));obtain rfl := oi hr;exact rv a1.kp
 refine cr (abh a2 (96 : UInt8) krf krf (wp 1 (nq (cd hr (fun d7 hr => ?_) (fun d7 hr => ?_)))));refine sr (wp 1 (nq (ct (bt_ (st ?_)))));obtain rfl := oi hr;exact rv a1.kp
 refine ck (bn (qn (sr (wp 1 (nq (ct ?_))))));obtain rfl := oi hr;exact rv a1.kp
theorem ahy {fu : Nat} {a3 : Str} {a4 : Int} {w : World} {r : Int} (hr : abt fu a3 a4 = some r) (hG : Gl w) : CR prog 110 [(str a3), (Vi .i64 a4), (zbi (.func 111) #[] #[])] w fun v w' => v = (Vi .i64 r) /\ Hp w [] [] w' := by
 have hH := Hp.refl w;refine enter (k := 26) func110 rfl rfl nbe ?_;unfold abt at hr;refine sr (wp 1 (nq (sr (wp 1 (w_max .i64 a4 (0 : Int) krf krf (wp 2 ?_))))));refine w_min .i64 (max a4 (0 : Int)) (a3.length : Int) krf krf (wp 1 (nq (bi hr fun a8 a9 hr => cut0 hH [1, 6] [(1, (Vi .i64 a8))] ?_ ?_)));refine ce (lpS (fun a6 a2 => abd fu a3 a6 a2) (min (max a4 (0 : Int)) (a3.length : Int)) hH a9 [0, 1, 2, 6] (fun a2 => [(1, (Vi .i64 a2))]) (fun _ => rfl) ?_);rintro a6 a2 b8 G a5 a0
 rw [ace, aba] at a0;refine cs (bi a0 fun b0 a1 a0 => cut0 a5 [0, 1, 2, 6, 22] [(22, (Vb b0))] ?_ ?_);refine cr (wp 4 (wd a1 (fun b1 a1 => ?_) (fun b1 a1 => ?_)));refine wp 3 (gy 16 (gi a1 fun b2 a1 => aha a3 .i64 a2 underlying9 krf krf b2 (gy 16 (bi a1 fun b9 b3 a1 => wc ent111 a5 (K_L_lexis_char_token b3 (hG.hp0 a5)) fun c0 b4 => wp 1 (wl (ql ?_))))));obtain rfl := oi a1;exact je b4.kp
 refine wp 6 (wl (ql ?_));obtain rfl := oi a1;exact je a5.kp
 intro c1 G a7;refine cb a0 (fun b5 a0 => ?_) (fun b5 a0 => ?_);refine ck (qn (ce (cr (wp 1 (gi a0 fun b6 a0 => aar a2 (1 : Int) krf krf b6 (wp 1 (wl (bn ?_))))))));exact ql (le' (a2 + (1 : Int)) a7.kp a0)
 refine adz (aej (afq (aek (ql ?_))));obtain rfl := oi a0;exact je a7.kp
 intro c2 G b7;refine sr (wp 2 (nq (ct ?_)));obtain rfl := oi hr;exact rv b7.kp
theorem K_L_lexis_TokenEnd {fu : Nat} {a0 : Str} {a1 : Int} {w : World} {r : Int} (hr : agn fu a0 a1 = some r) (hG : Gl w) : CR prog 78 [(str a0), (Vi .i64 a1)] w fun v w' => v = (Vi .i64 r) /\ Hp w [] [] w' := by
 have hH := Hp.refl w;refine enter (k := 8) func78 rfl rfl nbe ?_;unfold agn at hr;refine sr (wp 1 (nq (sr (wp 2 (bi hr fun y1 a2 hr => wc ent110 hH (ahy a2 (hG.hp0 hH)) fun w3 a3 => ?_)))));refine wp 1 (nq (ct ?_));obtain rfl := oi hr;exact rv a3.kp
theorem K_L_lexis_Token {fu : Nat} {a1 : Str} {w : World} {r : Bool} (hr : ahn fu a1 = some r) (hG : Gl w) : CR prog 43 [(str a1)] w fun v w' => v = (Vb r) /\ Hp w [] [] w' := by
 have hH := Hp.refl w;refine enter (k := 12) func43 rfl rfl nbe ?_;unfold ahn at hr;refine sr (wp 1 (nq (bi hr fun a2 a0 hr => cut0 hH [2] [(2, (Vb a2))] ?_ ?_)));refine cr (wp 2 (wn a0 (fun a3 a0 => ?_) (fun a3 a0 => ?_)));refine wp 1 (gy 5 (bi a0 fun a7 a4 a0 => wc ent78 hH (K_L_lexis_TokenEnd a4 (hG.hp0 hH)) fun a8 a5 => wp 5 (wl (ql ?_))));obtain rfl := oi a0;exact je a5.kp
 refine wp 7 (wl (ql ?_));obtain rfl := oi a0;exact je hH.kp
 intro a9 G a6;refine ct ?_;obtain rfl := oi hr;exact rv a6.kp
theorem agi {fu : Nat} {a0 : UInt8} {w : World} {r : UInt8} (hr : aci fu a0 = some r) (hG : Gl w) : CR prog 45 [(bt a0)] w fun v w' => v = (bt r) /\ Hp w [] [] w' := by
 have hH := Hp.refl w;refine enter (k := 12) func45 rfl rfl nbe ?_;unfold aci at hr;refine sr (wp 1 (nq (cs (bi hr fun v5 a1 hr => cut0 hH [0, 2, 8] [(8, (Vb v5))] ?_ ?_))));refine cr (wp 1 (aii a0 (65 : UInt8) krf krf (wd a1 (fun h6 a1 => ?_) (fun h6 a1 => ?_))));refine wp 1 (gy 5 (aih a0 (90 : UInt8) krf krf (wp 1 (wl (ql ?_)))));obtain rfl := oi a1;exact je hH.kp
 refine wp 3 (wl (ql ?_));obtain rfl := oi a1;exact je hH.kp
 intro w7 G a2;refine cb hr (fun h9 hr => ?_) (fun h9 hr => ?_);refine cr (wp 1 (w8_add a0 (32 : UInt8) krf krf (wp 1 (nq (sr (wp 2 (wl ?_)))))));refine qn (ct ?_);obtain rfl := oi hr;exact rv a2.kp
 refine ck (qn (sr (wp 2 (nq (ct ?_)))));obtain rfl := oi hr;exact rv a2.kp
theorem K_L_header_longName {fu : Nat} {a0 : UInt8} {w : World} {r : Str} (hr : aev fu a0 = some r) (hG : Gl w) : CR prog 44 [(bt a0)] w fun v w' => v = (str r) /\ Hp w [] [] w' := by
 have hH := Hp.refl w;refine enter (k := 34) func44 rfl rfl nbe ?_;unfold aev at hr;refine sr (wp 1 (nq (cs (sr (wp 1 (wl ?_))))));refine qn (ce (sr (abh a0 (98 : UInt8) krf krf (wp 1 (nq (cd hr (fun h1 hr => ?_) (fun h1 hr => ?_)))))));refine sr (wp 1 (nq (ct (bt_ (st ?_)))));obtain rfl := oi hr;exact rv hH.kp
 refine sr (abh a0 (99 : UInt8) krf krf (wp 1 (nq (cd hr (fun h2 hr => ?_) (fun h2 hr => ?_)))));refine sr (wp 1 (nq (ct (bt_ (st ?_)))));obtain rfl := oi hr;exact rv hH.kp
 refine sr (abh a0 (101 : UInt8) krf krf (wp 1 (nq (cd hr (fun h3 hr => ?_) (fun h3 hr => ?_)))));refine sr (wp 1 (nq (ct (bt_ (st ?_)))));obtain rfl := oi hr;exact rv hH.kp
 refine sr (abh a0 (102 : UInt8) krf krf (wp 1 (nq (cd hr (fun h4 hr => ?_) (fun h4 hr => ?_)))));refine sr (wp 1 (nq (ct (bt_ (st ?_)))));obtain rfl := oi hr;exact rv hH.kp
 refine sr (abh a0 (105 : UInt8) krf krf (wp 1 (nq (cd hr (fun h5 hr => ?_) (fun h5 hr => ?_)))));refine sr (wp 1 (nq (ct (bt_ (st ?_)))));obtain rfl := oi hr;exact rv hH.kp
 refine sr (abh a0 (107 : UInt8) krf krf (wp 1 (nq (cd hr (fun h6 hr => ?_) (fun h6 hr => ?_)))));refine sr (wp 1 (nq (ct (bt_ (st ?_)))));obtain rfl := oi hr;exact rv hH.kp
 refine sr (abh a0 (108 : UInt8) krf krf (wp 1 (nq (cd hr (fun h7 hr => ?_) (fun h7 hr => ?_)))));refine sr (wp 1 (nq (ct (bt_ (st ?_)))));obtain rfl := oi hr;exact rv hH.kp
 refine sr (abh a0 (109 : UInt8) krf krf (wp 1 (nq (cd hr (fun h8 hr => ?_) (fun h8 hr => ?_)))));refine sr (wp 1 (nq (ct (bt_ (st ?_)))));obtain rfl := oi hr;exact rv hH.kp
 refine sr (abh a0 (111 : UInt8) krf krf (wp 1 (nq (cd hr (fun h9 hr => ?_) (fun h9 hr => ?_)))));refine sr (wp 1 (nq (ct (bt_ (st ?_)))));obtain rfl := oi hr;exact rv hH.kp
 refine sr (abh a0 (114 : UInt8) krf krf (wp 1 (nq (cd hr (fun a1 hr => ?_) (fun a1 hr => ?_)))));refine sr (wp 1 (nq (ct (bt_ (st ?_)))));obtain rfl := oi hr;exact rv hH.kp
 refine sr (abh a0 (115 : UInt8) krf krf (wp 1 (nq (cd hr (fun a2 hr => ?_) (fun a2 hr => ?_)))));refine sr (wp 1 (nq (ct (bt_ (st ?_)))));obtain rfl := oi hr;exact rv hH.kp
 refine sr (abh a0 (116 : UInt8) krf krf (wp 1 (nq (cd hr (fun a3 hr => ?_) (fun a3 hr => ?_)))));refine sr (wp 1 (nq (ct (bt_ (st ?_)))));obtain rfl := oi hr;exact rv hH.kp
 refine sr (abh a0 (117 : UInt8) krf krf (wp 1 (nq (cd hr (fun a4 hr => ?_) (fun a4 hr => ?_)))));refine sr (wp 1 (nq (ct (bt_ (st ?_)))));obtain rfl := oi hr;exact rv hH.kp
 refine sr (abh a0 (118 : UInt8) krf krf (wp 1 (nq (cd hr (fun a5 hr => ?_) (fun a5 hr => ?_)))));refine sr (wp 1 (nq (ct (bt_ (st ?_)))));obtain rfl := oi hr;exact rv hH.kp
 refine sr (abh a0 (120 : UInt8) krf krf (wp 1 (nq (cd hr (fun a6 hr => ?_) (fun a6 hr => ?_)))));refine sr (wp 1 (nq (ct (bt_ (st ?_)))));obtain rfl := oi hr;exact rv hH.kp
 refine ck (bn (qn (sr (wp 1 (nq (ct ?_))))));obtain rfl := oi hr;exact rv hH.kp
theorem adl {fu : Nat} {a2 : Str} {w : World} {r : Str} (hr : aat fu a2 = some r) (hG : Gl w) : CR prog 46 [(str a2), (zbi (.func 45) #[] #[])] w fun v w' => v = (str r) /\ Hp w [] [] w' := by
 have hH := Hp.refl w;refine enter (k := 26) func46 rfl rfl nbe ?_;unfold aat at hr;refine sr (wp 1 (nq (sr (wp 1 (w_tobytes hH a2 5 underlying9 underlying23 underlying5 krf fun a1 cap2 w3 b3 => wp 1 ?_)))));refine nq (bi hr fun b2 b4 hr => cut (σ := Str) [4, 5] (fun a5 => []) (fun a5 w' => Hp w [] [brow (Vs a1 a2.length cap2) a2.length a5] w' /\ a5 = b2) ?_ ?_);refine sr (wp 3 (nq (ce (lpG (σ := Nat × Str × Int) [1, 4, 5, 10, 11, 12] (fun ⟨a6, a4, a3⟩ => [(12, (Vi .i64 a3))]) (fun ⟨a6, a4, a3⟩ w' => Hp w [] [brow (Vs a1 a2.length cap2) a2.length a4] w' /\ aav fu a2 a6 a4 a3 = some b2) (fun ⟨a6, a4, a3⟩ => a6) (fu, a2, (0 : Int)) (by exact ⟨b3.kp, b4⟩) ?_))));rintro ⟨_ | a6, a4, a3⟩ c4 G ⟨a7, a0⟩
 · exact nzz a0
 rw [abw, aau] at a0;refine sr (wp 1 (nq (cs (cd a0 (fun b5 a0 => ?_) (fun b5 a0 => ?_)))));refine ck (qn (cs (ce (sr (wp 1 (gi a0 fun b6 a0 => agz a1 a2.length cap2 5 1 .i64 a3 underlying23 krf krf krf a4 (a7.browlen 0 rfl).symm b6 (Rd.ofbytes (a7.rdbrow 0 rfl)) agp (by decide) (gi a0 fun b7 a0 => ?_)))))));refine aip a1 eB a4 1 a3 agp (Rd.ofbytes (a7.rdbrow 0 rfl)) (bt (at_ a4 a3)) b7 (by decide) krf krf krf (wp 2 (nq (cr (wp 4 (bi a0 fun a8 b8 a0 => wc ent45 a7 (agi b8 (hG.hp0 a7)) fun c5 a9 => gi a0 fun b9 a0 => agz a1 a2.length cap2 5 1 .i64 a3 underlying23 krf krf krf a4 (a9.browlen 0 rfl).symm b9 (Rd.ofbytes (a9.rdbrow 0 rfl)) agp (by decide) ?_)))));refine gi a0 fun c0 a0 => w_stB a9 0 a1 a2.length cap2 a3 a4 a8 rfl c0 krf krf krf fun c1 b0 => ?_
 replace b0 : Hp w [] [brow (Vs a1 a2.length cap2) a2.length (List.set a4 (zah a3) a8)] c1 := b0;refine wl (bn (qn (cr (gi a0 fun c2 a0 => aar a3 (1 : Int) krf krf c2 (wp 1 (wl (ql ?_)))))));exact ⟨(a6, List.set a4 (zah a3) a8, a3 + (1 : Int)), _, rfl, by kernel_rfl, ⟨b0.kp, a0⟩, zad _⟩
 refine adz (aej (afq (aek (ql ?_))));obtain rfl := oi a0;exact ⟨a4, _, rfl, by kernel_rfl, a7.kp, rfl⟩
 rintro a5 c3 G ⟨b1, rfl⟩
 refine sr (wp 1 (abn (v := (str a5)) (w' := c3) rfl rfl (ajm a5 a1 a2.length cap2 5 (Rd.bytes (Rd.ofbytes (b1.rdbrow 0 rfl))) (b1.browlen 0 rfl) underlying23 underlying9 underlying5 krf) (wp 1 (nq (ct ?_)))));obtain rfl := oi hr;exact rv b1.kp
theorem K_L_header_upperByte {fu : Nat} {a0 : UInt8} {w : World} {r : UInt8} (hr : ahp fu a0 = some r) (hG : Gl w) : CR prog 48 [(bt a0)] w fun v w' => v = (bt r) /\ Hp w [] [] w' := by
 have hH := Hp.refl w;refine enter (k := 12) func48 rfl rfl nbe ?_;unfold ahp at hr;refine sr (wp 1 (nq (cs (bi hr fun v5 a1 hr => cut0 hH [0, 2, 8] [(8, (Vb v5))] ?_ ?_))));refine cr (wp 1 (aii a0 (97 : UInt8) krf krf (wd a1 (fun h6 a1 => ?_) (fun h6 a1 => ?_))));refine wp 1 (gy 5 (aih a0 (122 : UInt8) krf krf (wp 1 (wl (ql ?_)))));obtain rfl := oi a1;exact je hH.kp
 refine wp 3 (wl (ql ?_));obtain rfl := oi a1;exact je hH.kp
 intro w7 G a2;refine cb hr (fun h9 hr => ?_) (fun h9 hr => ?_);refine cr (wp 1 (w8_sub a0 (32 : UInt8) krf krf (wp 1 (nq (sr (wp 2 (wl ?_)))))));refine qn (ct ?_);obtain rfl := oi hr;exact rv a2.kp
 refine ck (qn (sr (wp 2 (nq (ct ?_)))));obtain rfl := oi hr;exact rv a2.kp
open Go.Value renaming agg -> zan, func -> zbi
open List renaming flatMap -> zap, length_take -> zac, replicate -> zag
open Nat renaming le_trans -> zau, lt_of_lt_of_le -> zal, lt_succ_self -> zad
theorem ent14:Wk.Enters prog 14:=⟨f14,_,func14,rfl,krf⟩
theorem ent28:Wk.Enters prog 28:=⟨f28,_,func28,rfl,krf⟩
theorem ent36:Wk.Enters prog 36:=⟨f36,_,func36,rfl,krf⟩
theorem ent43:Wk.Enters prog 43:=⟨f43,_,func43,rfl,krf⟩
theorem ent44:Wk.Enters prog 44:=⟨f44,_,func44,rfl,krf⟩
theorem ent46:Wk.Enters prog 46:=⟨f46,_,func46,rfl,krf⟩
theorem ent47:Wk.Enters prog 47:=⟨f47,_,func47,rfl,krf⟩
theorem ent48:Wk.Enters prog 48:=⟨f48,_,func48,rfl,krf⟩
theorem ent58:Wk.Enters prog 58:=⟨f58,_,func58,rfl,krf⟩
theorem K_L_header_Canon_1 {fu : Nat} {a2 : UInt8} {a1 : Bool} (a0 : Nat) {w : World} {r : (UInt8 × Bool)} (hr : afg fu a2 a1 = some r) (hG : Gl w) (hM : Hp w (ahs [blk a0 [(Vb a1)] 4]) [blk a0 [(Vb a1)] 4] w) (hS : ∀ b ∈ ahs [blk a0 [(Vb a1)] 4], 12 <= b) : CR prog 47 [(bt a2), (Vp (some ⟨a0, 0, none⟩))] w fun v w' => v = (bt r.1) /\ Hp w (ahs [blk a0 [(Vb a1)] 4]) [blk a0 [(Vb r.2)] 4] w' := by
 have hH : Hp w (ahs [blk a0 [(Vb a1)] 4]) [blk a0 [(Vb a1)] 4] w := hM;refine enter (k := 12) func47 rfl rfl nbe ?_;unfold afg at hr;refine sr (wp 1 (nq (cs (sr (adw hH 0 a0 0 [(Vb a1)] 4 (Vb a1) rfl rfl krf krf (wl ?_))))));refine qn (cb hr (fun h1 hr => ?_) (fun h1 hr => ?_));refine cr (wp 1 (bi hr fun y2 a3 hr => wc ent48 hH (K_L_header_upperByte a3 (hG.hp hH hS)) fun w4 a4 => wp 1 (nq (sr (wp 1 ?_)))));refine abh y2 (45 : UInt8) krf krf (ajf a4 0 a0 0 [(Vb a1)] 4 (Vb (decide (y2 = (45 : UInt8)))) [blk a0 [(Vb (decide (y2 = (45 : UInt8))))] 4] rfl (zal (zad _) nbe) krf krf rfl krf rfl fun w7 a5 => nq (sr (wp 2 (nq (ct ?_)))));obtain rfl := oi hr;refine ajh (bt y2) rfl krf ?_;exact ⟨(by first | rfl | (simp; done) | (simp; omega) | exact aah (by rw [zac]; omega)), a5.kp⟩
 refine cr (wp 1 (bi hr fun y9 a6 hr => wc ent45 hH (agi a6 (hG.hp hH hS)) fun a9 a7 => wp 1 (nq (sr (wp 1 ?_)))));refine abh y9 (45 : UInt8) krf krf (ajf a7 0 a0 0 [(Vb a1)] 4 (Vb (decide (y9 = (45 : UInt8)))) [blk a0 [(Vb (decide (y9 = (45 : UInt8))))] 4] rfl (zal (zad _) nbe) krf krf rfl krf rfl fun b0 a8 => nq (sr (wp 2 (nq (ct ?_)))));obtain rfl := oi hr;refine ajh (bt y9) rfl krf ?_;exact ⟨(by first | rfl | (simp; done) | (simp; omega) | exact aah (by rw [zac]; omega)), a8.kp⟩
theorem agx {fu : Nat} {a0 : Str} {a6 : Bool} (a2 : Nat) {w : World} {r : (Str × Bool)} (hr : aax fu a0 a6 = some r) (hG : Gl w) (hM : Hp w (ahs [blk a2 [(Vb a6)] 4]) [blk a2 [(Vb a6)] 4] w) (hS : ∀ b ∈ ahs [blk a2 [(Vb a6)] 4], 12 <= b) : CR prog 46 [(str a0), (zbi (.func 47) #[] #[(Vp (some ⟨a2, 0, none⟩))])] w fun v w' => v = (str r.1) /\ Hp w (ahs [blk a2 [(Vb a6)] 4]) [blk a2 [(Vb r.2)] 4] w' := by
 have hH : Hp w (ahs [blk a2 [(Vb a6)] 4]) [blk a2 [(Vb a6)] 4] w := hM;refine enter (k := 26) func46 rfl rfl nbe ?_;unfold aax at hr;refine sr (wp 1 (nq (sr (wp 1 (w_tobytes hH a0 5 underlying9 underlying23 underlying5 krf fun a1 cap2 w3 b7 => wp 1 ?_)))));refine nq (bi hr fun b5 b8 hr => cut (σ := (Str × Bool)) [4, 5] (fun a7 => []) (fun a7 w' => Hp w (ahs [blk a2 [(Vb a6)] 4]) [blk a2 [(Vb a7.2)] 4, brow (Vs a1 a0.length cap2) a0.length a7.1] w' /\ a7 = b5) ?_ ?_);refine sr (wp 3 (nq (ce (lpG (σ := Nat × Str × Int × Bool) [1, 4, 5, 10, 11, 12] (fun ⟨b0, a4, a5, a8⟩ => [(12, (Vi .i64 a5))]) (fun ⟨b0, a4, a5, a8⟩ w' => Hp w (ahs [blk a2 [(Vb a6)] 4]) [blk a2 [(Vb a8)] 4, brow (Vs a1 a0.length cap2) a0.length a4] w' /\ aay fu a0 b0 a4 a5 a8 = some b5) (fun ⟨b0, a4, a5, a8⟩ => b0) (fu, a0, (0 : Int), a6) (by exact ⟨(Hp.front b7 1 _ rfl).kp, b8⟩) ?_))));rintro ⟨_ | b0, a4, a5, a8⟩ c9 G ⟨a9, a3⟩
 · exact nzz a3
 rw [abz, aaw] at a3;refine sr (wp 1 (nq (cs (cd a3 (fun b9 a3 => ?_) (fun b9 a3 => ?_)))));refine ck (qn (cs (ce (sr (wp 1 (gi a3 fun c0 a3 => agz a1 a0.length cap2 5 1 .i64 a5 underlying23 krf krf krf a4 (a9.browlen 1 rfl).symm c0 (Rd.ofbytes (a9.rdbrow 1 rfl)) agp (by decide) (gi a3 fun c1 a3 => ?_)))))));refine aip a1 eB a4 1 a5 agp (Rd.ofbytes (a9.rdbrow 1 rfl)) (bt (at_ a4 a5)) c1 (by decide) krf krf krf (wp 2 (nq (cr (wp 4 (bi a3 fun b1 c2 a3 => abo 47 #[(Vp (some ⟨a2, 0, none⟩))] [(bt (at_ a4 a5)), (Vp (some ⟨a2, 0, none⟩))] _ ent47 krf krf (K_L_header_Canon_1 a2 c2 (hG.hp a9 hS) (a9.hand (L1 := [blk a2 [(Vb a8)] 4]) (L2 := [brow (Vs a1 a0.length cap2) a0.length a4])) (a9.highs hG hS 1 rfl)) ?_)))));rintro _ c3 ⟨rfl, b6⟩
 have b2 : Hp w (ahs [blk a2 [(Vb a6)] 4]) [blk a2 [(Vb b1.2)] 4, brow (Vs a1 a0.length cap2) a0.length a4] c3 := Hp.callK (L1 := [blk a2 [(Vb a8)] 4]) (L2 := [brow (Vs a1 a0.length cap2) a0.length a4]) a9 b6; clear b6;refine gi a3 fun c4 a3 => agz a1 a0.length cap2 5 1 .i64 a5 underlying23 krf krf krf a4 (b2.browlen 1 rfl).symm c4 (Rd.ofbytes (b2.rdbrow 1 rfl)) agp (by decide) (gi a3 fun c5 a3 => w_stB b2 1 a1 a0.length cap2 a5 a4 b1.1 rfl c5 krf krf krf fun c6 b3 => ?_)
 replace b3 : Hp w (ahs [blk a2 [(Vb a6)] 4]) [blk a2 [(Vb b1.2)] 4, brow (Vs a1 a0.length cap2) a0.length (List.set a4 (zah a5) b1.1)] c6 := b3;refine wl (bn (qn (cr (gi a3 fun c7 a3 => aar a5 (1 : Int) krf krf c7 (wp 1 (wl (ql ?_)))))));exact ⟨(b0, List.set a4 (zah a5) b1.1, a5 + (1 : Int), b1.2), _, rfl, by kernel_rfl, ⟨(Hp.front (Hp.front b3 1 _ rfl) 1 _ rfl).kp, a3⟩, zad _⟩
 refine adz (aej (afq (aek (ql ?_))));obtain rfl := oi a3;exact ⟨(a4, a8), _, rfl, by kernel_rfl, (Hp.front (Hp.front a9 1 _ rfl) 1 _ rfl).kp, rfl⟩
 rintro a7 c8 G ⟨b4, rfl⟩
 refine sr (wp 1 (abn (v := (str a7.1)) (w' := c8) rfl rfl (ajm a7.1 a1 a0.length cap2 5 (Rd.bytes (Rd.ofbytes (b4.rdbrow 1 rfl))) (b4.browlen 1 rfl) underlying23 underlying9 underlying5 krf) (wp 1 (nq (ct ?_)))));obtain rfl := oi hr;refine ajh (str a7.1) rfl krf ?_;exact ⟨(by first | rfl | (simp; done) | (simp; omega) | exact aah (by rw [zac]; omega)), b4.kp⟩
theorem afh {fu : Nat} {a6 : Str} {w : World} {r : (Str × UInt8)} (hr : acu fu a6 = some r) (hG : Gl w) : CR prog 14 [(str a6)] w fun v w' => v = (Value.tuple #[(str r.1), (bt r.2)]) /\ Hp w [] [] w' := by
 have hH := Hp.refl w;refine enter (k := 42) func14 rfl rfl nbe ?_;unfold acu at hr;refine sr (wp 2 (nq (cs (bi hr fun b7 a3 hr => cut0 hH [0, 2, 3, 16] [(16, (Vb b7))] ?_ ?_))));refine cr (wp 1 (bi a3 fun e4 b8 a3 => wc ent43 hH (K_L_lexis_Token b8 (hG.hp0 hH)) fun e5 b0 => wp 1 (wb a3 (fun b9 a3 => ?_) (fun b9 a3 => ?_))));refine wp 4 (wl (ql ?_));obtain rfl := oi a3;exact je b0.kp
 refine wp 4 (wl (ql ?_));obtain rfl := oi a3;exact je b0.kp
 intro e6 G a5;refine cb hr (fun c0 hr => ?_) (fun c0 hr => ?_);refine sr (wp 2 (nq (ct (st ?_))));obtain rfl := oi hr;exact rv a5.kp
 refine ck (qn (bi hr fun c1 a1 hr => cut1 a5 c1 [0, 2, 3] (fun c2 => []) ?_ ?_));refine sr (wp 3 (nq (cd a1 (fun c3 a1 => ?_) (fun c3 a1 => ?_))));refine sr (wp 1 (gi a1 fun c4 a1 => aha a6 .i64 (0 : Int) underlying9 krf krf c4 (bi a1 fun e7 c5 a1 => wc ent45 a5 (agi c5 (hG.hp0 a5)) fun e8 b1 => bi a1 fun e9 c6 a1 => wc ent44 b1 (K_L_header_longName c6 (hG.hp0 b1)) fun f0 b2 => wp 1 ?_)));refine nq (sr (wp 2 (nq (cn a1 (fun c7 a1 => ?_) (fun c7 a1 => ?_)))));refine sr (wp 3 (nq (ct (acm ?_))));obtain rfl := oi a1;obtain rfl := oi hr;exact rv b2.kp
 refine ck (ql ?_);obtain rfl := oi a1;exact je1 rfl b2.kp
 refine ck (ql ?_);obtain rfl := oi a1;exact je1 rfl a5.kp
 rintro c2 f1 G b3 rfl
 refine sr (wp 1 (bi hr fun c8 c9 hr => wc ent46 b3 (adl c9 (hG.hp0 b3)) fun f2 a8 => wp 1 (nq (bi hr fun d0 d1 hr => cut1 a8 d0 [0, 2, 3] (fun d2 => []) ?_ ?_))));refine sr (w_rdN (some ⟨0, 0, none⟩) (zap eS ada) [(str ([67, 97, 108, 108, 45, 73, 68] : Str)), (str ([67, 83, 101, 113] : Str)), (str ([77, 73, 77, 69, 45, 86, 101, 114, 115, 105, 111, 110] : Str)), (str ([77, 105, 110, 45, 83, 69] : Str)), (str ([82, 65, 99, 107] : Str)), (str ([82, 83, 101, 113] : Str)), (str ([87, 87, 87, 45, 65, 117, 116, 104, 101, 110, 116, 105, 99, 97, 116, 101] : Str))] 0 7 (hG.specials.rd.hp a8) rfl rfl (by decide) krf krf krf (wp 1 (nq (ce (lpS (fun b4 a2 => abv fu c8 b4 a2) (0 : Int) a8 d1 [0, 2, 3, 5, 30, 29] (fun a2 => [(30, (Vi .i64 a2))]) (fun _ => rfl) ?_)))));rintro b4 a2 f3 G a9 a0
 rw [L_header_Canon_lp0_s, agu] at a0;refine sr (wp 1 (nq (cs (cd a0 (fun d3 a0 => ?_) (fun d3 a0 => ?_)))));refine ck (qn (cs (ce (sr (gi a0 fun d4 a0 => w_ixA eS ada 7 .i64 a2 [(str ([67, 97, 108, 108, 45, 73, 68] : Str)), (str ([67, 83, 101, 113] : Str)), (str ([77, 73, 77, 69, 45, 86, 101, 114, 115, 105, 111, 110] : Str)), (str ([77, 105, 110, 45, 83, 69] : Str)), (str ([82, 65, 99, 107] : Str)), (str ([82, 83, 101, 113] : Str)), (str ([87, 87, 87, 45, 65, 117, 116, 104, 101, 110, 116, 105, 99, 97, 116, 101] : Str))] (str (el ada a2)) rfl underlying85 rfl krf krf krf krf krf d4 (wp 1 (wl ?_)))))));refine qn (sr (wp 1 (bi a0 fun f4 d5 a0 => wc ent46 a9 (adl d5 (hG.hp0 a9)) fun f5 b5 => wp 2 (nq (cd a0 (fun d6 a0 => ?_) (fun d6 a0 => ?_))))));refine sr (wp 3 (nq (ct (bt_ (st (acm (bt_ ?_)))))));refine acm ?_;obtain rfl := oi a0;obtain rfl := oi hr;exact rv b5.kp
 exact ck (bn (qn (cr (gi a0 fun d7 a0 => aar a2 (1 : Int) krf krf d7 (wp 1 (wl (ql (le' (a2 + (1 : Int)) b5.kp a0))))))))
 refine adz (aej (afq (aek (ql ?_))));obtain rfl := oi a0;exact je1 rfl a9.kp
 rintro d2 f6 G d8 rfl
 refine sr (afl d8 [(Vb false)] 4 (fun b => (Vp (some ⟨b, 0, none⟩))) rfl rfl krf fun a4 f7 d9 => ajf d9 0 a4 0 [(Vb false)] 4 (Vb true) [blk a4 [(Vb true)] 4] rfl (zal (zad _) nbe) krf krf rfl krf rfl fun f8 a7 => nq (sr (wp 2 (bi hr fun e0 e1 hr => ?_))));refine abo 46 #[] [(str a6), (zbi (.func 47) #[] #[(Vp (some ⟨a4, 0, none⟩))])] _ ent46 krf krf (agx a4 e1 (hG.hp0 a7) (a7.hand (L1 := [blk a4 [(Vb true)] 4]) (L2 := [])) (a7.highs hG (fun _ h => absurd h (by simp)) 1 rfl)) ?_;rintro _ e2 ⟨rfl, b6⟩
 have e3 : Hp w [] [blk a4 [(Vb e0.2)] 4] e2 := Hp.callK (L1 := [blk a4 [(Vb true)] 4]) (L2 := []) a7 b6; clear b6;refine wp 2 (nq (ct ?_));obtain rfl := oi hr;exact rv e3.kp
theorem adp {fu : Nat} {a0 : Str} {w : World} {r : (UInt8 × Str)} (hr : aca fu a0 = some r) (hG : Gl w) : CR prog 26 [(str a0)] w fun v w' => ∃ (b0 : Nat), ∃ (b1 : Nat), v = (zbi (.func 58) #[] #[(Vp (some ⟨b0, 0, none⟩)), (Vp (some ⟨b1, 0, none⟩))]) /\ Hp w [] [blk b0 [(bt r.1)] 29, blk b1 [(str r.2)] 9] w' := by
 have hH := Hp.refl w;refine enter (k := 11) func26 rfl rfl nbe ?_;unfold aca at hr;refine sr (wp 1 (nq (sr (wp 1 (bi hr fun y1 a1 hr => wc ent14 hH (afh a1 (hG.hp0 hH)) fun w3 a2 => ?_)))));refine wp 3 (afl a2 [(str ([] : Str))] 9 (fun b => (Vp (some ⟨b, 0, none⟩))) rfl rfl krf fun b6 w7 a3 => afl a3 [(bt (0 : UInt8))] 29 (fun b => (Vp (some ⟨b, 0, none⟩))) rfl rfl krf fun b9 a7 a4 => ajf a4 1 b6 0 [(str ([] : Str))] 9 (str y1.1) [blk b9 [(bt (0 : UInt8))] 29, blk b6 [(str y1.1)] 9] rfl (zal (zad _) nbe) krf krf rfl krf rfl fun a8 a5 => ajf a5 0 b9 0 [(bt (0 : UInt8))] 29 (bt y1.2) [blk b9 [(bt y1.2)] 29, blk b6 [(str y1.1)] 9] rfl (zal (zad _) nbe) krf krf rfl krf rfl fun a9 a6 => nq (sr (wp 2 ?_)));refine nq (ct ?_);obtain rfl := oi hr;refine ajh (zbi (.func 58) #[] #[(Vp (some ⟨b9, 0, none⟩)), (Vp (some ⟨b6, 0, none⟩))]) rfl krf ?_;exact ⟨b9, b6, (by first | rfl | (simp; done) | (simp; omega) | exact aah (by rw [zac]; omega)), (Hp.front (Hp.front a6 1 _ rfl) 1 _ rfl).kp⟩
theorem agv {fu : Nat} {a5 : (Str × Str)} {a0 : UInt8} {a1 : Str} (a2 : Nat) (a3 : Nat) {w : World} {r : Bool} (hr : acq fu a5 a0 a1 = some r) (hG : Gl w) (hM : Hp w (ahs [blk a2 [(bt a0)] 29, blk a3 [(str a1)] 9]) [blk a2 [(bt a0)] 29, blk a3 [(str a1)] 9] w) (hS : ∀ b ∈ ahs [blk a2 [(bt a0)] 29, blk a3 [(str a1)] 9], 12 <= b) : CR prog 58 [(zan #[(str a5.1), (str a5.2)]), (Vp (some ⟨a2, 0, none⟩)), (Vp (some ⟨a3, 0, none⟩))] w fun v w' => v = (Vb r) /\ Hp w (ahs [blk a2 [(bt a0)] 29, blk a3 [(str a1)] 9]) [blk a2 [(bt a0)] 29, blk a3 [(str a1)] 9] w' := by
 have hH : Hp w (ahs [blk a2 [(bt a0)] 29, blk a3 [(str a1)] 9]) [blk a2 [(bt a0)] 29, blk a3 [(str a1)] 9] w := hM;refine enter (k := 24) func58 rfl rfl nbe ?_;unfold acq at hr;refine sr (afl hH [(str a5.1), (str a5.2)] 53 (fun b => (Vp (some ⟨b, 0, none⟩))) rfl rfl krf fun b1 w2 a8 => wp 1 (nq (sr (wp 1 (adw a8 0 b1 0 [(str a5.1), (str a5.2)] 53 (str a5.1) rfl rfl krf krf ?_)))));refine bi hr fun y4 a9 hr => wc ent14 a8 (afh a9 (hG.hp a8 hS)) fun w6 a6 => wp 5 (nq (bi hr fun b0 a4 hr => cut (σ := Bool) [4] (fun a7 => [(4, (Vb a7))]) (fun a7 w' => Hp w (ahs [blk a2 [(bt a0)] 29, blk a3 [(str a1)] 9]) [blk a2 [(bt a0)] 29, blk a3 [(str a1)] 9] w' /\ a7 = b0) ?_ ?_))
 refine cr (adw a6 1 a2 0 [(bt a0)] 29 (bt a0) rfl rfl krf krf (abh a0 (0 : UInt8) krf krf (wd a4 (fun b2 a4 => ?_) (fun b2 a4 => ?_))));refine wp 1 (gy 15 (abh y4.2 (0 : UInt8) krf krf (wp 1 (wd a4 (fun b3 a4 => ?_) (fun b3 a4 => ?_)))));refine wp 1 (gy 19 (adw a6 2 a3 0 [(str a1)] 9 (str a1) rfl rfl krf krf (wp 3 (wl (ql ?_)))));obtain rfl := oi a4;exact ⟨(decide (y4.1 = a1)), _, rfl, by kernel_rfl, (Hp.front (Hp.front a6 2 _ rfl) 2 _ rfl).kp, rfl⟩
 refine wp 5 (wl (ql ?_));obtain rfl := oi a4;exact ⟨false, _, rfl, by kernel_rfl, (Hp.front (Hp.front a6 2 _ rfl) 2 _ rfl).kp, rfl⟩
 refine wp 9 (wl (ql ?_));obtain rfl := oi a4;exact ⟨false, _, rfl, by kernel_rfl, (Hp.front (Hp.front a6 2 _ rfl) 2 _ rfl).kp, rfl⟩
 rintro a7 b5 G ⟨b4, rfl⟩
 refine ct ?_;obtain rfl := oi hr;refine ajh (Vb a7) rfl krf ?_;exact ⟨(by first | rfl | (simp; done) | (simp; omega) | exact aah (by rw [zac]; omega)), (Hp.front (Hp.front b4 1 _ rfl) 1 _ rfl).kp⟩
theorem aao {fu : Nat} {a5 : List (Str × Str)} {a1 : UInt8} {a2 : Str} (a6 : Option Addr) (a9 : Nat) (b0 : Nat) (b_3 : Nat) (a0 : Nat) {w : World} {r : Int} (hr : aae fu a5 a1 a2 = some r) (hG : Gl w) (b7 : a9 = a5.length) (b1 : Rd w a6 (zap aaa a5)) (d0 : a9 <= b0) (hM : Hp w (ahs [blk b_3 [(bt a1)] 29, blk a0 [(str a2)] 9]) [blk b_3 [(bt a1)] 29, blk a0 [(str a2)] 9] w) (hS : ∀ b ∈ ahs [blk b_3 [(bt a1)] 29, blk a0 [(str a2)] 9], 12 <= b) (b2 : zap aaa a5 ≠ [] -> ∀ p, a6 = some p -> p.block ∉ ahs [blk b_3 [(bt a1)] 29, blk a0 [(str a2)] 9]) : CR prog 36 [(Vs a6 a9 b0), (zbi (.func 58) #[] #[(Vp (some ⟨b_3, 0, none⟩)), (Vp (some ⟨a0, 0, none⟩))])] w fun v w' => v = (Vi .i64 r) /\ Hp w (ahs [blk b_3 [(bt a1)] 29, blk a0 [(str a2)] 9]) [blk b_3 [(bt a1)] 29, blk a0 [(str a2)] 9] w' := by
 subst b7;have hH : Hp w (ahs [blk b_3 [(bt a1)] 29, blk a0 [(str a2)] 9]) [blk b_3 [(bt a1)] 29, blk a0 [(str a2)] 9] w := hM;refine enter (k := 19) func36 rfl rfl nbe ?_;unfold aae at hr;refine sr (wp 1 (nq (bi hr fun b8 b9 hr => cut1 hH b8 [4] (fun c0 => []) ?_ ?_)));refine sr (wp 3 (nq (ce (lpS (fun b3 a4 => aai fu a5 a1 a2 b3 a4) (0 : Int) hH b9 [0, 1, 4, 7, 8] (fun a4 => [(8, (Vi .i64 a4))]) (fun _ => rfl) ?_))));rintro b3 a4 b4 G a7 a3
 rw [abf, aam] at a3;refine sr (wp 1 (nq (cs (cd a3 (fun c1 a3 => ?_) (fun c1 a3 => ?_)))));refine ck (qn (cs (ce (sr (wp 2 (nq (cs ?_)))))));refine cr (wp 3 (gi a3 fun c2 a3 => agz a6 a5.length b0 53 2 .i64 a4 underlying22 krf krf krf a5 rfl c2 (b1.hpN a7 b2) aad (by decide) (gi a3 fun c3 a3 => w_ldE a6 aaa a5 2 a4 aad (b1.hpN a7 b2) [(str ((el a5 a4).1)), (str ((el a5 a4).2))] c3 krf krf krf krf (by decide) (bi a3 fun d1 c4 a3 => ?_))));have c5 : Hp w (ahs [blk b_3 [(bt a1)] 29, blk a0 [(str a2)] 9]) [blk a0 [(str a2)] 9, blk b_3 [(bt a1)] 29] b4 := a7.front 1 _ rfl;have a8 : Hp w (ahs [blk b_3 [(bt a1)] 29, blk a0 [(str a2)] 9]) [blk b_3 [(bt a1)] 29, blk a0 [(str a2)] 9] b4 := c5.front 1 _ rfl;refine abo 58 #[(Vp (some ⟨b_3, 0, none⟩)), (Vp (some ⟨a0, 0, none⟩))] [(zan #[(str ((el a5 a4).1)), (str ((el a5 a4).2))]), (Vp (some ⟨b_3, 0, none⟩)), (Vp (some ⟨a0, 0, none⟩))] _ ent58 krf krf (agv b_3 a0 c4 (hG.hp a8 hS) (a8.hand (L1 := [blk b_3 [(bt a1)] 29, blk a0 [(str a2)] 9]) (L2 := [])) (a8.highs hG hS 2 rfl)) ?_;rintro _ c6 ⟨rfl, b5⟩
 have b6 : Hp w (ahs [blk b_3 [(bt a1)] 29, blk a0 [(str a2)] 9]) [blk b_3 [(bt a1)] 29, blk a0 [(str a2)] 9] c6 := Hp.callK (L1 := [blk b_3 [(bt a1)] 29, blk a0 [(str a2)] 9]) (L2 := []) a8 b5; clear b5;refine nq (cb a3 (fun c7 a3 => ?_) (fun c7 a3 => ?_));refine sr (wp 2 (nq (ct (bt_ (st (acm (bt_ ?_)))))));refine acm ?_;obtain rfl := oi a3;obtain rfl := oi hr;refine ajh (Vi .i64 a4) rfl krf ?_;exact ⟨(by first | rfl | (simp; done) | (simp; omega) | exact aah (by rw [zac]; omega)), (Hp.front (Hp.front b6 1 _ rfl) 1 _ rfl).kp⟩
 exact ck (bn (qn (cr (gi a3 fun c8 a3 => aar a4 (1 : Int) krf krf c8 (wp 1 (wl (ql (le' (a4 + (1 : Int)) (Hp.front (Hp.front b6 1 _ rfl) 1 _ rfl).kp a3))))))))
 refine adz (aej (afq (aek (ql ?_))));obtain rfl := oi a3;exact je1 rfl (Hp.front (Hp.front a7 1 _ rfl) 1 _ rfl).kp
 rintro c0 d2 G c9 rfl
 refine sr (wp 1 (nq (ct ?_)));obtain rfl := oi hr;refine ajh (Vi .i64 (-1 : Int)) rfl krf ?_;exact ⟨(by first | rfl | (simp; done) | (simp; omega) | exact aah (by rw [zac]; omega)), (Hp.front (Hp.front c9 1 _ rfl) 1 _ rfl).kp⟩
theorem ahr {fu : Nat} {a2 : (Str × Str × Int × Str × (List (Str × Str)) × (List UInt8))} (a8 : Option Addr) (b3 : Nat) (b0 : Nat) (a4 : Option Addr) (b5 : Nat) (a5 : Nat) {w : World} {r : (Str × Str × Int × Str × (List (Str × Str)) × (List UInt8))} (hr : adb fu a2 = some r) (hG : Gl w) (c3 : b3 = a2.2.2.2.2.1.length) (c4 : Rd w a8 (zap aaa a2.2.2.2.2.1)) (d3 : b3 <= b0) (c5 : b5 = a2.2.2.2.2.2.length) (c6 : Rd w a4 (zap eB a2.2.2.2.2.2)) (d4 : b5 <= a5) : CR prog 24 [(zan #[(str a2.1), (str a2.2.1), (Vi .i64 a2.2.2.1), (str a2.2.2.2.1), (Vs a8 b3 b0), (Vs a4 b5 a5)])] w fun v w' => ∃ (o0 : Option Nat), ∃ (a0 : Option Addr), ∃ (cap0 : Nat), ∃ (o1 : Option Nat), ∃ (a1 : Option Addr), ∃ (cap1 : Nat), v = (zan #[(str r.1), (str r.2.1), (Vi .i64 r.2.2.1), (str r.2.2.2.1), (Vs a0 r.2.2.2.2.1.length cap0), (Vs a1 r.2.2.2.2.2.length cap1)]) /\ Hp w [] [rwt aaa 53 2 o0 a0 cap0 r.2.2.2.2.1, rwt eB 5 1 o1 a1 cap1 r.2.2.2.2.2] w' := by
 subst c3;subst c5;have hH := Hp.refl w;refine enter (k := 19) func24 rfl rfl nbe ?_;unfold adb at hr;refine sr (afl hH [(str a2.1), (str a2.2.1), (Vi .i64 a2.2.2.1), (str a2.2.2.2.1), (Vs a8 a2.2.2.2.2.1.length b0), (Vs a4 a2.2.2.2.2.2.length a5)] 25 (fun b => (Vp (some ⟨b, 0, none⟩))) rfl rfl krf fun b1 w2 c7 => afl c7 [(str ([] : Str)), (str ([] : Str)), (Vi .i64 (0 : Int)), (str ([] : Str)), (Vs none 0 0), (Vs none 0 0)] 25 (fun b => (Vp (some ⟨b, 0, none⟩))) rfl rfl krf fun b4 w5 b9 => nq (sr (wp 1 (adw b9 1 b1 4 [(str a2.1), (str a2.2.1), (Vi .i64 a2.2.2.1), (str a2.2.2.2.1), (Vs a8 a2.2.2.2.2.1.length b0), (Vs a4 a2.2.2.2.2.2.length a5)] 25 (Vs a8 a2.2.2.2.2.1.length b0) rfl rfl krf krf ?_))));refine wp 1 (gi hr fun g7 hr => w_makeN (f := aaa) b9 53 2 32 .i64 .i64 (a2.2.2.2.2.1.length : Int) (([] : Str), ([] : Str)) underlying22 (by unfold TI; kernel_rfl) (by decide) (by decide) krf krf krf g7 fun o8 a9 a3 d5 b6 => wp 1 (nq (sr (wp 2 (adw b6 2 b1 4 [(str a2.1), (str a2.2.1), (Vi .i64 a2.2.2.1), (str a2.2.2.2.1), (Vs a8 a2.2.2.2.2.1.length b0), (Vs a4 a2.2.2.2.2.2.length a5)] 25 (Vs a8 a2.2.2.2.2.1.length b0) rfl rfl krf krf ?_)))));refine w_copyT b6 0 o8 a9 a8 a3 b0 53 2 (zag (zah (a2.2.2.2.2.1.length : Int)) (([] : Str), ([] : Str))) a2.2.2.2.2.1 aad rfl underlying22 krf krf krf (c4.hp b6) fun c8 b7 => ?_
 replace b7 : Hp w [] [rwt aaa 53 2 o8 a9 a3 (cpy (zag (zah (a2.2.2.2.2.1.length : Int)) (([] : Str), ([] : Str))) a2.2.2.2.2.1), blk b4 [(str ([] : Str)), (str ([] : Str)), (Vi .i64 (0 : Int)), (str ([] : Str)), (Vs none 0 0), (Vs none 0 0)] 25, blk b1 [(str a2.1), (str a2.2.1), (Vi .i64 a2.2.2.1), (str a2.2.2.2.1), (Vs a8 a2.2.2.2.2.1.length b0), (Vs a4 a2.2.2.2.2.2.length a5)] 25] c8 := b7;refine nq (sr (wp 2 (ajf b7 2 b1 4 [(str a2.1), (str a2.2.1), (Vi .i64 a2.2.2.1), (str a2.2.2.2.1), (Vs a8 a2.2.2.2.2.1.length b0), (Vs a4 a2.2.2.2.2.2.length a5)] 25 (Vs a9 ((zag (zah (a2.2.2.2.2.1.length : Int)) (([] : Str), ([] : Str))).length) a3) [rwt aaa 53 2 o8 a9 a3 (cpy (zag (zah (a2.2.2.2.2.1.length : Int)) (([] : Str), ([] : Str))) a2.2.2.2.2.1), blk b4 [(str ([] : Str)), (str ([] : Str)), (Vi .i64 (0 : Int)), (str ([] : Str)), (Vs none 0 0), (Vs none 0 0)] 25, blk b1 [(str a2.1), (str a2.2.1), (Vi .i64 a2.2.2.1), (str a2.2.2.2.1), (Vs a9 ((zag (zah (a2.2.2.2.2.1.length : Int)) (([] : Str), ([] : Str))).length) a3), (Vs a4 a2.2.2.2.2.2.length a5)] 25] rfl (zal (zad _) nbe) krf krf rfl krf rfl fun c9 b8 => nq (sr ?_))));refine wp 1 (adw b8 2 b1 5 [(str a2.1), (str a2.2.1), (Vi .i64 a2.2.2.1), (str a2.2.2.2.1), (Vs a9 ((zag (zah (a2.2.2.2.2.1.length : Int)) (([] : Str), ([] : Str))).length) a3), (Vs a4 a2.2.2.2.2.2.length a5)] 25 (Vs a4 a2.2.2.2.2.2.length a5) rfl rfl krf krf (gi hr fun d0 hr => abo 28 #[] [(Vs a4 a2.2.2.2.2.2.length a5)] _ ent28 krf krf (sh_Clone28 a2.2.2.2.2.2 c9 a4 a2.2.2.2.2.2.length a5 rfl (c6.hp b8) d0) ?_));rintro _ d1 ⟨b2, a6, a7, rfl, c0⟩
 have d2 : Hp w [] [rwt eB 5 1 b2 a6 a7 a2.2.2.2.2.2, rwt aaa 53 2 o8 a9 a3 (cpy (zag (zah (a2.2.2.2.2.1.length : Int)) (([] : Str), ([] : Str))) a2.2.2.2.2.1), blk b4 [(str ([] : Str)), (str ([] : Str)), (Vi .i64 (0 : Int)), (str ([] : Str)), (Vs none 0 0), (Vs none 0 0)] 25, blk b1 [(str a2.1), (str a2.2.1), (Vi .i64 a2.2.2.1), (str a2.2.2.2.1), (Vs a9 ((zag (zah (a2.2.2.2.2.1.length : Int)) (([] : Str), ([] : Str))).length) a3), (Vs a4 a2.2.2.2.2.2.length a5)] 25] d1 := Hp.callK (L1 := []) (L2 := [rwt aaa 53 2 o8 a9 a3 (cpy (zag (zah (a2.2.2.2.2.1.length : Int)) (([] : Str), ([] : Str))) a2.2.2.2.2.1), blk b4 [(str ([] : Str)), (str ([] : Str)), (Vi .i64 (0 : Int)), (str ([] : Str)), (Vs none 0 0), (Vs none 0 0)] 25, blk b1 [(str a2.1), (str a2.2.1), (Vi .i64 a2.2.2.1), (str a2.2.2.2.1), (Vs a9 ((zag (zah (a2.2.2.2.2.1.length : Int)) (([] : Str), ([] : Str))).length) a3), (Vs a4 a2.2.2.2.2.2.length a5)] 25]) b8 c0; clear c0;refine wp 1 (ajf d2 3 b1 5 [(str a2.1), (str a2.2.1), (Vi .i64 a2.2.2.1), (str a2.2.2.2.1), (Vs a9 ((zag (zah (a2.2.2.2.2.1.length : Int)) (([] : Str), ([] : Str))).length) a3), (Vs a4 a2.2.2.2.2.2.length a5)] 25 (Vs a6 a2.2.2.2.2.2.length a7) [rwt eB 5 1 b2 a6 a7 a2.2.2.2.2.2, rwt aaa 53 2 o8 a9 a3 (cpy (zag (zah (a2.2.2.2.2.1.length : Int)) (([] : Str), ([] : Str))) a2.2.2.2.2.1), blk b4 [(str ([] : Str)), (str ([] : Str)), (Vi .i64 (0 : Int)), (str ([] : Str)), (Vs none 0 0), (Vs none 0 0)] 25, blk b1 [(str a2.1), (str a2.2.1), (Vi .i64 a2.2.2.1), (str a2.2.2.2.1), (Vs a9 ((zag (zah (a2.2.2.2.2.1.length : Int)) (([] : Str), ([] : Str))).length) a3), (Vs a6 a2.2.2.2.2.2.length a7)] 25] rfl (zal (zad _) nbe) krf krf rfl krf rfl fun d6 c1 => nq (sr (afd c1 3 b1 0 6 [(str a2.1), (str a2.2.1), (Vi .i64 a2.2.2.1), (str a2.2.2.2.1), (Vs a9 ((zag (zah (a2.2.2.2.2.1.length : Int)) (([] : Str), ([] : Str))).length) a3), (Vs a6 a2.2.2.2.2.2.length a7)] [(str a2.1), (str a2.2.1), (Vi .i64 a2.2.2.1), (str a2.2.2.2.1), (Vs a9 ((zag (zah (a2.2.2.2.2.1.length : Int)) (([] : Str), ([] : Str))).length) a3), (Vs a6 a2.2.2.2.2.2.length a7)] 25 rfl rfl rfl krf krf krf (ahw c1 2 b4 0 [(str ([] : Str)), (str ([] : Str)), (Vi .i64 (0 : Int)), (str ([] : Str)), (Vs none 0 0), (Vs none 0 0)] [(str a2.1), (str a2.2.1), (Vi .i64 a2.2.2.1), (str a2.2.2.2.1), (Vs a9 ((zag (zah (a2.2.2.2.2.1.length : Int)) (([] : Str), ([] : Str))).length) a3), (Vs a6 a2.2.2.2.2.2.length a7)] 25 [rwt eB 5 1 b2 a6 a7 a2.2.2.2.2.2, rwt aaa 53 2 o8 a9 a3 (cpy (zag (zah (a2.2.2.2.2.1.length : Int)) (([] : Str), ([] : Str))) a2.2.2.2.2.1), blk b4 [(str a2.1), (str a2.2.1), (Vi .i64 a2.2.2.1), (str a2.2.2.2.1), (Vs a9 ((zag (zah (a2.2.2.2.2.1.length : Int)) (([] : Str), ([] : Str))).length) a3), (Vs a6 a2.2.2.2.2.2.length a7)] 25, blk b1 [(str a2.1), (str a2.2.1), (Vi .i64 a2.2.2.1), (str a2.2.2.2.1), (Vs a9 ((zag (zah (a2.2.2.2.2.1.length : Int)) (([] : Str), ([] : Str))).length) a3), (Vs a6 a2.2.2.2.2.2.length a7)] 25] rfl nbe krf krf rfl krf rfl fun d7 c2 => nq ?_))));refine ct ?_;obtain rfl := oi hr;refine r_res _ [(zan #[(str a2.1), (str a2.2.1), (Vi .i64 a2.2.2.1), (str a2.2.2.2.1), (Vs a9 ((zag (zah (a2.2.2.2.2.1.length : Int)) (([] : Str), ([] : Str))).length) a3), (Vs a6 a2.2.2.2.2.2.length a7)])] (zan #[(str a2.1), (str a2.2.1), (Vi .i64 a2.2.2.1), (str a2.2.2.2.1), (Vs a9 ((zag (zah (a2.2.2.2.2.1.length : Int)) (([] : Str), ([] : Str))).length) a3), (Vs a6 a2.2.2.2.2.2.length a7)]) rfl rfl (aix (rok_agg c2 2 b4 25 [(str a2.1), (str a2.2.1), (Vi .i64 a2.2.2.1), (str a2.2.2.2.1), (Vs a9 ((zag (zah (a2.2.2.2.2.1.length : Int)) (([] : Str), ([] : Str))).length) a3), (Vs a6 a2.2.2.2.2.2.length a7)] rfl krf krf krf) rok_nil) rfl ?_;exact ⟨o8, a9, a3, b2, a6, a7, (by first | rfl | (simp; done) | (simp; omega) | exact aah (by rw [zac]; omega)), (Hp.front c2 1 _ rfl).kp⟩
theorem aex {fu : Nat} {a9 : List (Str × Str)} {a7 : UInt8} {a8 : Str} (a6 : Option Nat) (a2 : Option Addr) (a3 : Nat) (b_3 : Nat) (a5 : Nat) {w : World} {r : List (Str × Str)} (hr : aaq fu a9 a7 a8 = some r) (hG : Gl w) (hM : Hp w (ahs [blk b_3 [(bt a7)] 29, blk a5 [(str a8)] 9, rwt aaa 53 2 a6 a2 a3 a9]) [blk b_3 [(bt a7)] 29, blk a5 [(str a8)] 9, rwt aaa 53 2 a6 a2 a3 a9] w) (hS : ∀ b ∈ ahs [blk b_3 [(bt a7)] 29, blk a5 [(str a8)] 9, rwt aaa 53 2 a6 a2 a3 a9], 12 <= b) : CR prog 25 [(Vs a2 a9.length a3), (zbi (.func 58) #[] #[(Vp (some ⟨b_3, 0, none⟩)), (Vp (some ⟨a5, 0, none⟩))])] w fun v w' => ∃ (o0 : Option Nat), ∃ (a0 : Option Addr), ∃ (cap0 : Nat), v = (Vs a0 r.length cap0) /\ Hp w (ahs [blk b_3 [(bt a7)] 29, blk a5 [(str a8)] 9, rwt aaa 53 2 a6 a2 a3 a9]) [blk b_3 [(bt a7)] 29, blk a5 [(str a8)] 9, rwt aaa 53 2 o0 a0 cap0 r] w' := by
 have hH : Hp w (ahs [blk b_3 [(bt a7)] 29, blk a5 [(str a8)] 9, rwt aaa 53 2 a6 a2 a3 a9]) [blk b_3 [(bt a7)] 29, blk a5 [(str a8)] 9, rwt aaa 53 2 a6 a2 a3 a9] w := hM;refine enter (k := 42) func25 rfl rfl nbe ?_;unfold aaq at hr;refine sr (wp 1 (nq (sr (wp 2 (bi hr fun y1 c8 hr => ?_)))));have c9 : Hp w (ahs [blk b_3 [(bt a7)] 29, blk a5 [(str a8)] 9, rwt aaa 53 2 a6 a2 a3 a9]) [blk a5 [(str a8)] 9, blk b_3 [(bt a7)] 29, rwt aaa 53 2 a6 a2 a3 a9] w := hH.front 1 _ rfl;have b4 : Hp w (ahs [blk b_3 [(bt a7)] 29, blk a5 [(str a8)] 9, rwt aaa 53 2 a6 a2 a3 a9]) [blk b_3 [(bt a7)] 29, blk a5 [(str a8)] 9, rwt aaa 53 2 a6 a2 a3 a9] w := c9.front 1 _ rfl;refine abo 36 #[] [(Vs a2 a9.length a3), (zbi (.func 58) #[] #[(Vp (some ⟨b_3, 0, none⟩)), (Vp (some ⟨a5, 0, none⟩))])] _ ent36 krf krf (aao a2 a9.length a3 b_3 a5 c8 (hG.hp b4 hS) rfl (b4.rdrw 2 rfl) (b4.rwcap 2 rfl) (b4.hand (L1 := [blk b_3 [(bt a7)] 29, blk a5 [(str a8)] 9]) (L2 := [rwt aaa 53 2 a6 a2 a3 a9])) (b4.highs hG hS 2 rfl) (b4.apartRw 2 2 rfl rfl rfl)) ?_;rintro _ w3 ⟨rfl, c2⟩
 have c3 : Hp w (ahs [blk b_3 [(bt a7)] 29, blk a5 [(str a8)] 9, rwt aaa 53 2 a6 a2 a3 a9]) [blk b_3 [(bt a7)] 29, blk a5 [(str a8)] 9, rwt aaa 53 2 a6 a2 a3 a9] w3 := Hp.callK (L1 := [blk b_3 [(bt a7)] 29, blk a5 [(str a8)] 9]) (L2 := [rwt aaa 53 2 a6 a2 a3 a9]) b4 c2; clear c2;refine wp 1 (nq (cs (sr (wp 2 (nq (cd hr (fun h8 hr => ?_) (fun h8 hr => ?_)))))));refine sr (wp 2 (nq (ct (st ?_))));obtain rfl := oi hr;refine ajh (Vs a2 a9.length a3) rfl krf ?_;exact ⟨a6, a2, a3, (by first | rfl | (simp; done) | (simp; omega) | exact aah (by rw [zac]; omega)), (Hp.front (Hp.front (Hp.front c3 2 _ rfl) 2 _ rfl) 2 _ rfl).kp⟩
 refine ck (qn (bi hr fun c4 c0 hr => cut (σ := ((List (Str × Str)) × Int)) [0, 4, 5] (fun b1 => [(0, (Vs a2 b1.1.length a3)), (5, (Vi .i64 b1.2))]) (fun b1 w' => Hp w (ahs [blk b_3 [(bt a7)] 29, blk a5 [(str a8)] 9, rwt aaa 53 2 a6 a2 a3 a9]) [blk b_3 [(bt a7)] 29, blk a5 [(str a8)] 9, rwt aaa 53 2 a6 a2 a3 b1.1] w' /\ b1.1.length = a9.length /\ b1 = c4) ?_ ?_));refine sr (wp 1 (gi c0 fun d0 c0 => aar y1 (1 : Int) krf krf d0 (wp 1 (nq (ce (lpG (σ := Nat × (List (Str × Str)) × Int × Int) [0, 1, 4, 5, 6] (fun ⟨b5, a1, b2, a4⟩ => [(0, (Vs a2 a1.length a3)), (5, (Vi .i64 b2)), (6, (Vi .i64 a4))]) (fun ⟨b5, a1, b2, a4⟩ w' => Hp w (ahs [blk b_3 [(bt a7)] 29, blk a5 [(str a8)] 9, rwt aaa 53 2 a6 a2 a3 a9]) [blk b_3 [(bt a7)] 29, blk a5 [(str a8)] 9, rwt aaa 53 2 a6 a2 a3 a1] w' /\ a1.length = a9.length /\ aag fu a7 a8 b5 a1 b2 a4 = some c4) (fun ⟨b5, a1, b2, a4⟩ => b5) (fu, a9, y1, y1 + (1 : Int)) (by exact ⟨(Hp.front (Hp.front (Hp.front c3 2 _ rfl) 2 _ rfl) 2 _ rfl).kp, lsz, c0⟩) ?_))))));rintro ⟨_ | b5, a1, b2, a4⟩ e9 G ⟨b6, f0, b0⟩
 · exact nzz b0
 rw [abc, aal] at b0;refine cs (sr (wp 4 (nq (cd b0 (fun d1 b0 => ?_) (fun d1 b0 => ?_)))));refine ck (qn (cs (ce (sr (wp 2 (gi b0 fun d2 b0 => agz a2 a1.length a3 53 2 .i64 a4 underlying22 krf krf krf a1 rfl d2 (b6.rdrw 2 rfl) aad (by decide) (gi b0 fun d3 b0 => ?_)))))));refine w_ldE a2 aaa a1 2 a4 aad (b6.rdrw 2 rfl) [(str ((el a1 a4).1)), (str ((el a1 a4).2))] d3 krf krf krf krf (by decide) (afl b6 [(str ([] : Str)), (str ([] : Str))] 53 (fun b => (Vp (some ⟨b, 0, none⟩))) rfl rfl krf fun b3 f1 d4 => ahw d4 0 b3 0 [(str ([] : Str)), (str ([] : Str))] [(str ((el a1 a4).1)), (str ((el a1 a4).2))] 53 [blk b3 [(str ((el a1 a4).1)), (str ((el a1 a4).2))] 53, blk b_3 [(bt a7)] 29, blk a5 [(str a8)] 9, rwt aaa 53 2 a6 a2 a3 a1] rfl nbe krf krf rfl krf rfl fun c5 c6 => nq (sr (wp 1 (afd c6 0 b3 0 2 [(str ((el a1 a4).1)), (str ((el a1 a4).2))] [(str ((el a1 a4).1)), (str ((el a1 a4).2))] 53 rfl rfl rfl krf krf krf (bi b0 fun f2 d5 b0 => ?_)))));have d6 : Hp w (ahs [blk b_3 [(bt a7)] 29, blk a5 [(str a8)] 9, rwt aaa 53 2 a6 a2 a3 a9]) [blk a5 [(str a8)] 9, blk b3 [(str ((el a1 a4).1)), (str ((el a1 a4).2))] 53, blk b_3 [(bt a7)] 29, rwt aaa 53 2 a6 a2 a3 a1] c5 := c6.front 2 _ rfl;have b7 : Hp w (ahs [blk b_3 [(bt a7)] 29, blk a5 [(str a8)] 9, rwt aaa 53 2 a6 a2 a3 a9]) [blk b_3 [(bt a7)] 29, blk a5 [(str a8)] 9, blk b3 [(str ((el a1 a4).1)), (str ((el a1 a4).2))] 53, rwt aaa 53 2 a6 a2 a3 a1] c5 := d6.front 2 _ rfl;refine abo 58 #[(Vp (some ⟨b_3, 0, none⟩)), (Vp (some ⟨a5, 0, none⟩))] [(zan #[(str ((el a1 a4).1)), (str ((el a1 a4).2))]), (Vp (some ⟨b_3, 0, none⟩)), (Vp (some ⟨a5, 0, none⟩))] _ ent58 krf krf (agv b_3 a5 d5 (hG.hp b7 hS) (b7.hand (L1 := [blk b_3 [(bt a7)] 29, blk a5 [(str a8)] 9]) (L2 := [blk b3 [(str ((el a1 a4).1)), (str ((el a1 a4).2))] 53, rwt aaa 53 2 a6 a2 a3 a1])) (b7.highs hG hS 2 rfl)) ?_;rintro _ d7 ⟨rfl, c7⟩
 have b8 : Hp w (ahs [blk b_3 [(bt a7)] 29, blk a5 [(str a8)] 9, rwt aaa 53 2 a6 a2 a3 a9]) [blk b_3 [(bt a7)] 29, blk a5 [(str a8)] 9, blk b3 [(str ((el a1 a4).1)), (str ((el a1 a4).2))] 53, rwt aaa 53 2 a6 a2 a3 a1] d7 := Hp.callK (L1 := [blk b_3 [(bt a7)] 29, blk a5 [(str a8)] 9]) (L2 := [blk b3 [(str ((el a1 a4).1)), (str ((el a1 a4).2))] 53, rwt aaa 53 2 a6 a2 a3 a1]) b7 c7; clear c7;refine wp 1 (nq (cb b0 (fun d8 b0 => ?_) (fun d8 b0 => ?_)));refine sr (wp 2 (afd b8 2 b3 0 2 [(str ((el a1 a4).1)), (str ((el a1 a4).2))] [(str ((el a1 a4).1)), (str ((el a1 a4).2))] 53 rfl rfl rfl krf krf krf (gi b0 fun d9 b0 => agz a2 a1.length a3 53 2 .i64 b2 underlying22 krf krf krf a1 rfl d9 (b8.rdrw 3 rfl) aad (by decide) (gi b0 fun e0 b0 => w_stE b8 3 a6 a2 a3 53 2 b2 a1 (el a1 a4) rfl aad [(str ((el a1 a4).1)), (str ((el a1 a4).2))] e0 krf krf krf (by decide) krf fun e1 c1 => ?_))));replace c1 : Hp w (ahs [blk b_3 [(bt a7)] 29, blk a5 [(str a8)] 9, rwt aaa 53 2 a6 a2 a3 a9]) [blk b_3 [(bt a7)] 29, blk a5 [(str a8)] 9, blk b3 [(str ((el a1 a4).1)), (str ((el a1 a4).2))] 53, rwt aaa 53 2 a6 a2 a3 (List.set a1 (zah b2) (el a1 a4))] e1 := c1;refine nq (cr (wp 1 (gi b0 fun e2 b0 => aar b2 (1 : Int) krf krf e2 (wp 1 (wl (bn (qn ?_)))))));refine cr (wp 1 (gi b0 fun e3 b0 => aar a4 (1 : Int) krf krf e3 (wp 1 (wl (ql ?_)))));exact ⟨(b5, List.set a1 (zah b2) (el a1 a4), b2 + (1 : Int), a4 + (1 : Int)), _, rfl, (mc (Eq.trans (b := (Vs a2 a1.length a3)) krf (aah lsy)) (mc krf (mc krf (mc krf (mc krf rfl))))), ⟨(Hp.front (Hp.front (Hp.front c1 3 _ rfl) 2 _ rfl) 2 _ rfl).kp, lsz, b0⟩, zad _⟩
 refine ck (bn (qn (cr (wp 1 (gi b0 fun e4 b0 => aar a4 (1 : Int) krf krf e4 (wp 1 (wl (ql ?_))))))));exact ⟨(b5, a1, b2, a4 + (1 : Int)), _, rfl, by kernel_rfl, ⟨(Hp.front (Hp.front (Hp.front b8 3 _ rfl) 2 _ rfl) 2 _ rfl).kp, lsz, b0⟩, zad _⟩
 refine adz (aej (afq (aek (ql ?_))));obtain rfl := oi b0;exact ⟨(a1, b2), _, rfl, by kernel_rfl, (Hp.front (Hp.front (Hp.front b6 2 _ rfl) 2 _ rfl) 2 _ rfl).kp, lsz, rfl⟩
 rintro b1 f3 G ⟨e5, f4, rfl⟩
 refine sr (wp 2 (gi hr fun e6 hr => w_slFrom a2 b1.1.length a3 53 2 .i64 b1.2 underlying22 krf krf krf b1.1 rfl e6 (w_clearT0 e5 2 a6 a2 a3 53 2 b1.1 (zah b1.2) (([] : Str), ([] : Str)) aad rfl underlying22 trivial (by decide) krf krf (by first | omega | (simp; omega)) fun e7 b9 => ?_)));replace b9 : Hp w (ahs [blk b_3 [(bt a7)] 29, blk a5 [(str a8)] 9, rwt aaa 53 2 a6 a2 a3 a9]) [blk b_3 [(bt a7)] 29, blk a5 [(str a8)] 9, rwt aaa 53 2 a6 a2 a3 (clr b1.1 (zah b1.2) (([] : Str), ([] : Str)))] e7 := b9;refine nq (sr (wp 2 (gi hr fun e8 hr => w_slTo a2 b1.1.length a3 53 2 .i64 b1.2 underlying22 krf krf krf (clr b1.1 (zah b1.2) (([] : Str), ([] : Str))) (by first | rfl | (simp; done) | omega | (simp; omega) | (rw [zac]; omega)) e8 (zau (Nat.le_of_eq (by first | rfl | (simp; done) | omega)) (b9.rwcap 2 rfl)) (wp 1 (nq ?_)))));refine ct ?_;obtain rfl := oi hr;refine ajh (Vs a2 (zah b1.2) a3) rfl krf ?_;exact ⟨a6, a2, a3, (by first | rfl | (simp; done) | (simp; omega) | exact aah (by rw [zac]; omega)), (Hp.front (Hp.front (Hp.front (Hp.cuts b9 aad 2 rfl (zah b1.2)) 2 _ rfl) 2 _ rfl) 2 _ rfl).kp⟩
open List renaming flatMap -> zap, length_take -> zac
open Nat renaming lt_of_lt_of_le -> zal, lt_succ_self -> zad
theorem ent6:Wk.Enters prog 6:=⟨f6,_,func6,rfl,krf⟩
theorem ent24:Wk.Enters prog 24:=⟨f24,_,func24,rfl,krf⟩
theorem ent25:Wk.Enters prog 25:=⟨f25,_,func25,rfl,krf⟩
theorem ent26:Wk.Enters prog 26:=⟨f26,_,func26,rfl,krf⟩
theorem ent37:Wk.Enters prog 37:=⟨f37,_,func37,rfl,krf⟩
theorem ent38:Wk.Enters prog 38:=⟨f38,_,func38,rfl,krf⟩
theorem ent73:Wk.Enters prog 73:=⟨f73,_,func73,rfl,krf⟩
theorem ent106:Wk.Enters prog 106:=⟨f106,_,func106,rfl,krf⟩
theorem K_L_message_Drop {fu : Nat} {a2 : (Str × Str × Int × Str × (List (Str × Str)) × (List UInt8))} {c5 : Str} (b6 : Option Addr) (c6 : Nat) (b7 : Nat) (b8 : Option Addr) (c7 : Nat) (b9 : Nat) {w : World} {r : (Str × Str × Int × Str × (List (Str × Str)) × (List UInt8))} (hr : afk fu a2 c5 = some r) (hG : Gl w) (d5 : c6 = a2.2.2.2.2.1.length) (d6 : Rd w b6 (zap aaa a2.2.2.2.2.1)) (d7 : c6 <= b7) (d8 : c7 = a2.2.2.2.2.2.length) (d9 : Rd w b8 (zap eB a2.2.2.2.2.2)) (e0 : c7 <= b9) : CR prog 6 [(zan #[(str a2.1), (str a2.2.1), (Vi .i64 a2.2.2.1), (str a2.2.2.2.1), (Vs b6 c6 b7), (Vs b8 c7 b9)]), (str c5)] w fun v w' => ∃ (o0 : Option Nat), ∃ (a0 : Option Addr), ∃ (cap0 : Nat), ∃ (o1 : Option Nat), ∃ (a1 : Option Addr), ∃ (cap1 : Nat), v = (zan #[(str r.1), (str r.2.1), (Vi .i64 r.2.2.1), (str r.2.2.2.1), (Vs a0 r.2.2.2.2.1.length cap0), (Vs a1 r.2.2.2.2.2.length cap1)]) /\ Hp w [] [rwt aaa 53 2 o0 a0 cap0 r.2.2.2.2.1, rwt eB 5 1 o1 a1 cap1 r.2.2.2.2.2] w' := by
 subst d5;subst d8;have hH := Hp.refl w;refine enter (k := 14) func6 rfl rfl nbe ?_;unfold afk at hr;refine sr (afl hH [(str a2.1), (str a2.2.1), (Vi .i64 a2.2.2.1), (str a2.2.2.2.1), (Vs b6 a2.2.2.2.2.1.length b7), (Vs b8 a2.2.2.2.2.2.length b9)] 25 (fun b => (Vp (some ⟨b, 0, none⟩))) rfl rfl krf fun b1 w2 e1 => afl e1 [(str ([] : Str)), (str ([] : Str)), (Vi .i64 (0 : Int)), (str ([] : Str)), (Vs none 0 0), (Vs none 0 0)] 25 (fun b => (Vp (some ⟨b, 0, none⟩))) rfl rfl krf fun b4 w5 c1 => nq (sr (afd c1 1 b1 0 6 [(str a2.1), (str a2.2.1), (Vi .i64 a2.2.2.1), (str a2.2.2.2.1), (Vs b6 a2.2.2.2.2.1.length b7), (Vs b8 a2.2.2.2.2.2.length b9)] [(str a2.1), (str a2.2.1), (Vi .i64 a2.2.2.1), (str a2.2.2.2.1), (Vs b6 a2.2.2.2.2.1.length b7), (Vs b8 a2.2.2.2.2.2.length b9)] 25 rfl rfl rfl krf krf krf (bi hr fun y7 e2 hr => ?_))));refine abo 24 #[] [(zan #[(str a2.1), (str a2.2.1), (Vi .i64 a2.2.2.1), (str a2.2.2.2.1), (Vs b6 a2.2.2.2.2.1.length b7), (Vs b8 a2.2.2.2.2.2.length b9)])] _ ent24 krf krf (ahr b6 a2.2.2.2.2.1.length b7 b8 a2.2.2.2.2.2.length b9 e2 (hG.hp0 c1) rfl (d6.hp c1) d7 rfl (d9.hp c1) e0) ?_;rintro _ w9 ⟨c0, a5, a6, b0, a3, a4, rfl, c9⟩
 have e3 : Hp w [] [rwt aaa 53 2 c0 a5 a6 y7.2.2.2.2.1, rwt eB 5 1 b0 a3 a4 y7.2.2.2.2.2, blk b4 [(str ([] : Str)), (str ([] : Str)), (Vi .i64 (0 : Int)), (str ([] : Str)), (Vs none 0 0), (Vs none 0 0)] 25, blk b1 [(str a2.1), (str a2.2.1), (Vi .i64 a2.2.2.1), (str a2.2.2.2.1), (Vs b6 a2.2.2.2.2.1.length b7), (Vs b8 a2.2.2.2.2.2.length b9)] 25] w9 := Hp.callK (L1 := []) (L2 := [blk b4 [(str ([] : Str)), (str ([] : Str)), (Vi .i64 (0 : Int)), (str ([] : Str)), (Vs none 0 0), (Vs none 0 0)] 25, blk b1 [(str a2.1), (str a2.2.1), (Vi .i64 a2.2.2.1), (str a2.2.2.2.1), (Vs b6 a2.2.2.2.2.1.length b7), (Vs b8 a2.2.2.2.2.2.length b9)] 25]) c1 c9; clear c9;refine ahw e3 3 b1 0 [(str a2.1), (str a2.2.1), (Vi .i64 a2.2.2.1), (str a2.2.2.2.1), (Vs b6 a2.2.2.2.2.1.length b7), (Vs b8 a2.2.2.2.2.2.length b9)] [(str y7.1), (str y7.2.1), (Vi .i64 y7.2.2.1), (str y7.2.2.2.1), (Vs a5 y7.2.2.2.2.1.length a6), (Vs a3 y7.2.2.2.2.2.length a4)] 25 [rwt aaa 53 2 c0 a5 a6 y7.2.2.2.2.1, rwt eB 5 1 b0 a3 a4 y7.2.2.2.2.2, blk b4 [(str ([] : Str)), (str ([] : Str)), (Vi .i64 (0 : Int)), (str ([] : Str)), (Vs none 0 0), (Vs none 0 0)] 25, blk b1 [(str y7.1), (str y7.2.1), (Vi .i64 y7.2.2.1), (str y7.2.2.2.1), (Vs a5 y7.2.2.2.2.1.length a6), (Vs a3 y7.2.2.2.2.2.length a4)] 25] rfl nbe krf krf rfl krf rfl fun f1 e4 => nq (cs (bi hr fun a7 e5 hr => afm 4 (fun j_ w_ w_' => abp [4, 5, 6] (fun w' => w'.heap[b1]? = some (.cells [(str y7.1), (str y7.2.1), (Vi .i64 y7.2.2.1), (str y7.2.2.2.1), (Vs a5 y7.2.2.2.2.1.length a6), (Vs a3 y7.2.2.2.2.2.length a4)].toArray 25 (0, 0))) j_ w_ w_' /\ True) [false, false, false, false, false, false, false] (fun _ _ => ⟨abp.same, trivial⟩) krf krf e4 rfl (aep aeq) fun f2 c8 => rp 3 [0] (abr [true, true, false, false, false, false, false] 1 8 (Vs a5 y7.2.2.2.2.1.length a6) [4, 5, 6] (fun _ _ _ h => h.1) _ rfl rfl krf krf krf krf krf rfl (adv rfl (by intro w hS_; exact (x_ld1 b1 4 [(str y7.1), (str y7.2.1), (Vi .i64 y7.2.2.1), (str y7.2.2.2.1), (Vs a5 y7.2.2.2.2.1.length a6), (Vs a3 y7.2.2.2.2.2.length a4)] 25 (Vs a5 y7.2.2.2.2.1.length a6) hS_ rfl krf krf))) (by exact c8.blkAt 3 rfl) (rp 1 [2] (ro 3 rfl ?_)))))
 refine abo 26 #[] [(str c5)] _ ent26 krf krf (adp e5 (hG.hp0 c8)) ?_;rintro _ c2 ⟨b3, b5, rfl, d0⟩
 have d1 : Hp w [] [blk b3 [(bt a7.1)] 29, blk b5 [(str a7.2)] 9, rwt aaa 53 2 c0 a5 a6 y7.2.2.2.2.1, rwt eB 5 1 b0 a3 a4 y7.2.2.2.2.2, blk b4 [(str ([] : Str)), (str ([] : Str)), (Vi .i64 (0 : Int)), (str ([] : Str)), (Vs none 0 0), (Vs none 0 0)] 25, blk b1 [(str y7.1), (str y7.2.1), (Vi .i64 y7.2.2.1), (str y7.2.2.2.1), (Vs a5 y7.2.2.2.2.1.length a6), (Vs a3 y7.2.2.2.2.2.length a4)] 25] c2 := Hp.callK (L1 := []) (L2 := [rwt aaa 53 2 c0 a5 a6 y7.2.2.2.2.1, rwt eB 5 1 b0 a3 a4 y7.2.2.2.2.2, blk b4 [(str ([] : Str)), (str ([] : Str)), (Vi .i64 (0 : Int)), (str ([] : Str)), (Vs none 0 0), (Vs none 0 0)] 25, blk b1 [(str y7.1), (str y7.2.1), (Vi .i64 y7.2.2.1), (str y7.2.2.2.1), (Vs a5 y7.2.2.2.2.1.length a6), (Vs a3 y7.2.2.2.2.2.length a4)] 25]) c8 d0; clear d0;refine wl (age (by exact ⟨abp.new (d1.blkAt 5 rfl), trivial⟩) (agw krf (bi hr fun b2 e6 hr => ?_)));have e7 : Hp w [] [rwt aaa 53 2 c0 a5 a6 y7.2.2.2.2.1, blk b3 [(bt a7.1)] 29, blk b5 [(str a7.2)] 9, rwt eB 5 1 b0 a3 a4 y7.2.2.2.2.2, blk b4 [(str ([] : Str)), (str ([] : Str)), (Vi .i64 (0 : Int)), (str ([] : Str)), (Vs none 0 0), (Vs none 0 0)] 25, blk b1 [(str y7.1), (str y7.2.1), (Vi .i64 y7.2.2.1), (str y7.2.2.2.1), (Vs a5 y7.2.2.2.2.1.length a6), (Vs a3 y7.2.2.2.2.2.length a4)] 25] c2 := d1.front 2 _ rfl;have e8 : Hp w [] [blk b5 [(str a7.2)] 9, rwt aaa 53 2 c0 a5 a6 y7.2.2.2.2.1, blk b3 [(bt a7.1)] 29, rwt eB 5 1 b0 a3 a4 y7.2.2.2.2.2, blk b4 [(str ([] : Str)), (str ([] : Str)), (Vi .i64 (0 : Int)), (str ([] : Str)), (Vs none 0 0), (Vs none 0 0)] 25, blk b1 [(str y7.1), (str y7.2.1), (Vi .i64 y7.2.2.1), (str y7.2.2.2.1), (Vs a5 y7.2.2.2.2.1.length a6), (Vs a3 y7.2.2.2.2.2.length a4)] 25] c2 := e7.front 2 _ rfl;have c3 : Hp w [] [blk b3 [(bt a7.1)] 29, blk b5 [(str a7.2)] 9, rwt aaa 53 2 c0 a5 a6 y7.2.2.2.2.1, rwt eB 5 1 b0 a3 a4 y7.2.2.2.2.2, blk b4 [(str ([] : Str)), (str ([] : Str)), (Vi .i64 (0 : Int)), (str ([] : Str)), (Vs none 0 0), (Vs none 0 0)] 25, blk b1 [(str y7.1), (str y7.2.1), (Vi .i64 y7.2.2.1), (str y7.2.2.2.1), (Vs a5 y7.2.2.2.2.1.length a6), (Vs a3 y7.2.2.2.2.2.length a4)] 25] c2 := e8.front 2 _ rfl;refine abo 25 #[] [(Vs a5 y7.2.2.2.2.1.length a6), (zbi (.func 58) #[] #[(Vp (some ⟨b3, 0, none⟩)), (Vp (some ⟨b5, 0, none⟩))])] _ ent25 krf krf (aex c0 a5 a6 b3 b5 e6 (hG.hp0 c3) (c3.hand (L1 := [blk b3 [(bt a7.1)] 29, blk b5 [(str a7.2)] 9, rwt aaa 53 2 c0 a5 a6 y7.2.2.2.2.1]) (L2 := [rwt eB 5 1 b0 a3 a4 y7.2.2.2.2.2, blk b4 [(str ([] : Str)), (str ([] : Str)), (Vi .i64 (0 : Int)), (str ([] : Str)), (Vs none 0 0), (Vs none 0 0)] 25, blk b1 [(str y7.1), (str y7.2.1), (Vi .i64 y7.2.2.1), (str y7.2.2.2.1), (Vs a5 y7.2.2.2.2.1.length a6), (Vs a3 y7.2.2.2.2.2.length a4)] 25])) (c3.highs hG (fun _ h => absurd h (by simp)) 3 rfl)) ?_;rintro _ e9 ⟨c4, a8, a9, rfl, d2⟩
 have f0 : Hp w [] [blk b3 [(bt a7.1)] 29, blk b5 [(str a7.2)] 9, rwt aaa 53 2 c4 a8 a9 b2, rwt eB 5 1 b0 a3 a4 y7.2.2.2.2.2, blk b4 [(str ([] : Str)), (str ([] : Str)), (Vi .i64 (0 : Int)), (str ([] : Str)), (Vs none 0 0), (Vs none 0 0)] 25, blk b1 [(str y7.1), (str y7.2.1), (Vi .i64 y7.2.2.1), (str y7.2.2.2.1), (Vs a5 y7.2.2.2.2.1.length a6), (Vs a3 y7.2.2.2.2.2.length a4)] 25] e9 := Hp.callK (L1 := [blk b3 [(bt a7.1)] 29, blk b5 [(str a7.2)] 9, rwt aaa 53 2 c0 a5 a6 y7.2.2.2.2.1]) (L2 := [rwt eB 5 1 b0 a3 a4 y7.2.2.2.2.2, blk b4 [(str ([] : Str)), (str ([] : Str)), (Vi .i64 (0 : Int)), (str ([] : Str)), (Vs none 0 0), (Vs none 0 0)] 25, blk b1 [(str y7.1), (str y7.2.1), (Vi .i64 y7.2.2.1), (str y7.2.2.2.1), (Vs a5 y7.2.2.2.2.1.length a6), (Vs a3 y7.2.2.2.2.2.length a4)] 25]) c3 d2; clear d2;refine wp 1 (ajf f0 5 b1 4 [(str y7.1), (str y7.2.1), (Vi .i64 y7.2.2.1), (str y7.2.2.2.1), (Vs a5 y7.2.2.2.2.1.length a6), (Vs a3 y7.2.2.2.2.2.length a4)] 25 (Vs a8 b2.length a9) [blk b3 [(bt a7.1)] 29, blk b5 [(str a7.2)] 9, rwt aaa 53 2 c4 a8 a9 b2, rwt eB 5 1 b0 a3 a4 y7.2.2.2.2.2, blk b4 [(str ([] : Str)), (str ([] : Str)), (Vi .i64 (0 : Int)), (str ([] : Str)), (Vs none 0 0), (Vs none 0 0)] 25, blk b1 [(str y7.1), (str y7.2.1), (Vi .i64 y7.2.2.1), (str y7.2.2.2.1), (Vs a8 b2.length a9), (Vs a3 y7.2.2.2.2.2.length a4)] 25] rfl (zal (zad _) nbe) krf krf rfl krf rfl fun f3 d3 => nq (sr (afd d3 5 b1 0 6 [(str y7.1), (str y7.2.1), (Vi .i64 y7.2.2.1), (str y7.2.2.2.1), (Vs a8 b2.length a9), (Vs a3 y7.2.2.2.2.2.length a4)] [(str y7.1), (str y7.2.1), (Vi .i64 y7.2.2.1), (str y7.2.2.2.1), (Vs a8 b2.length a9), (Vs a3 y7.2.2.2.2.2.length a4)] 25 rfl rfl rfl krf krf krf (ahw d3 4 b4 0 [(str ([] : Str)), (str ([] : Str)), (Vi .i64 (0 : Int)), (str ([] : Str)), (Vs none 0 0), (Vs none 0 0)] [(str y7.1), (str y7.2.1), (Vi .i64 y7.2.2.1), (str y7.2.2.2.1), (Vs a8 b2.length a9), (Vs a3 y7.2.2.2.2.2.length a4)] 25 [blk b3 [(bt a7.1)] 29, blk b5 [(str a7.2)] 9, rwt aaa 53 2 c4 a8 a9 b2, rwt eB 5 1 b0 a3 a4 y7.2.2.2.2.2, blk b4 [(str y7.1), (str y7.2.1), (Vi .i64 y7.2.2.1), (str y7.2.2.2.1), (Vs a8 b2.length a9), (Vs a3 y7.2.2.2.2.2.length a4)] 25, blk b1 [(str y7.1), (str y7.2.1), (Vi .i64 y7.2.2.1), (str y7.2.2.2.1), (Vs a8 b2.length a9), (Vs a3 y7.2.2.2.2.2.length a4)] 25] rfl nbe krf krf rfl krf rfl fun f4 d4 => nq ?_))));refine ct ?_;obtain rfl := oi hr;refine r_res _ [(zan #[(str y7.1), (str y7.2.1), (Vi .i64 y7.2.2.1), (str y7.2.2.2.1), (Vs a8 b2.length a9), (Vs a3 y7.2.2.2.2.2.length a4)])] (zan #[(str y7.1), (str y7.2.1), (Vi .i64 y7.2.2.1), (str y7.2.2.2.1), (Vs a8 b2.length a9), (Vs a3 y7.2.2.2.2.2.length a4)]) rfl rfl (aix (rok_agg d4 4 b4 25 [(str y7.1), (str y7.2.1), (Vi .i64 y7.2.2.1), (str y7.2.2.2.1), (Vs a8 b2.length a9), (Vs a3 y7.2.2.2.2.2.length a4)] rfl krf krf krf) rok_nil) rfl ?_;exact ⟨c4, a8, a9, b0, a3, a4, (by first | rfl | (simp; done) | (simp; omega) | exact aah (by rw [zac]; omega)), (Hp.front (Hp.front d4 3 _ rfl) 3 _ rfl).kp⟩
theorem K_L_message_full {fu : Nat} {a0 : Str} {w : World} {r : Str} (hr : afj fu a0 = some r) (hG : Gl w) : CR prog 38 [(str a0)] w fun v w' => v = (str r) /\ Hp w [] [] w' := by
 have hH := Hp.refl w;refine enter (k := 14) func38 rfl rfl nbe ?_;unfold afj at hr;refine sr (wp 1 (nq (cs (sr (wp 1 (bi hr fun y1 a2 hr => ?_))))));refine wc ent14 hH (afh a2 (hG.hp0 hH)) fun w3 a1 => wp 5 (nq (sr (wp 1 (abh y1.2 (0 : UInt8) krf krf (nq (cd hr (fun h6 hr => ?_) (fun h6 hr => ?_)))))))
 refine sr (wp 2 (nq (ct (st ?_))));obtain rfl := oi hr;exact rv a1.kp
 refine ck (qn (sr (wp 2 (nq (ct ?_)))));obtain rfl := oi hr;exact rv a1.kp
theorem K_L_message_Set {fu : Nat} {a3 : (Str × Str × Int × Str × (List (Str × Str)) × (List UInt8))} {c7 : Str} {a6 : Str} (a7 : Option Addr) (c9 : Nat) (a8 : Nat) (b3 : Option Addr) (d0 : Nat) (b5 : Nat) {w : World} {r : (Str × Str × Int × Str × (List (Str × Str)) × (List UInt8))} (hr : ahm fu a3 c7 a6 = some r) (hG : Gl w) (e6 : c9 = a3.2.2.2.2.1.length) (d1 : Rd w a7 (zap aaa a3.2.2.2.2.1)) (d5 : c9 <= a8) (e7 : d0 = a3.2.2.2.2.2.length) (e8 : Rd w b3 (zap eB a3.2.2.2.2.2)) (e9 : d0 <= b5) : CR prog 11 [(zan #[(str a3.1), (str a3.2.1), (Vi .i64 a3.2.2.1), (str a3.2.2.2.1), (Vs a7 c9 a8), (Vs b3 d0 b5)]), (str c7), (str a6)] w fun v w' => ∃ (o0 : Option Nat), ∃ (a0 : Option Addr), ∃ (cap0 : Nat), ∃ (o1 : Option Nat), ∃ (a1 : Option Addr), ∃ (cap1 : Nat), v = (zan #[(str r.1), (str r.2.1), (Vi .i64 r.2.2.1), (str r.2.2.2.1), (Vs a0 r.2.2.2.2.1.length cap0), (Vs a1 r.2.2.2.2.2.length cap1)]) /\ Hp w [] [rwt aaa 53 2 o0 a0 cap0 r.2.2.2.2.1, rwt eB 5 1 o1 a1 cap1 r.2.2.2.2.2] w' := by
 subst e6;subst e7;have hH := Hp.refl w;refine enter (k := 32) func11 rfl rfl nbe ?_;unfold ahm at hr;refine sr (afl hH [(str a3.1), (str a3.2.1), (Vi .i64 a3.2.2.1), (str a3.2.2.2.1), (Vs a7 a3.2.2.2.2.1.length a8), (Vs b3 a3.2.2.2.2.2.length b5)] 25 (fun b => (Vp (some ⟨b, 0, none⟩))) rfl rfl krf fun b1 w2 f0 => afl f0 [(str ([] : Str)), (str ([] : Str)), (Vi .i64 (0 : Int)), (str ([] : Str)), (Vs none 0 0), (Vs none 0 0)] 25 (fun b => (Vp (some ⟨b, 0, none⟩))) rfl rfl krf fun b4 w5 f1 => nq (cs (bi hr fun y7 f2 hr => afm 4 (fun j_ w_ w_' => abp [4, 5] (fun w' => w'.heap[b1]? = some (.cells [(str a3.1), (str a3.2.1), (Vi .i64 a3.2.2.1), (str a3.2.2.2.1), (Vs a7 a3.2.2.2.2.1.length a8), (Vs b3 a3.2.2.2.2.2.length b5)].toArray 25 (0, 0))) j_ w_ w_' /\ True) [false, false, false, false, false, false] (fun _ _ => ⟨abp.same, trivial⟩) krf krf f1 rfl (aep aeq) fun g8 d2 => rp 3 [0] ?_)));refine abr [true, true, false, false, false, false] 1 9 (Vs a7 a3.2.2.2.2.1.length a8) [4, 5] (fun _ _ _ h => h.1) _ rfl rfl krf krf krf krf krf rfl (adv rfl (by intro w hS_; exact (x_ld1 b1 4 [(str a3.1), (str a3.2.1), (Vi .i64 a3.2.2.1), (str a3.2.2.2.1), (Vs a7 a3.2.2.2.2.1.length a8), (Vs b3 a3.2.2.2.2.2.length b5)] 25 (Vs a7 a3.2.2.2.2.1.length a8) hS_ rfl krf krf))) (by exact d2.blkAt 1 rfl) (rp 1 [2] (ro 3 rfl (abo 26 #[] [(str c7)] _ ent26 krf krf (adp f2 (hG.hp0 d2)) ?_)));rintro _ w9 ⟨b9, c0, rfl, d6⟩
 have d7 : Hp w [] [blk b9 [(bt y7.1)] 29, blk c0 [(str y7.2)] 9, blk b4 [(str ([] : Str)), (str ([] : Str)), (Vi .i64 (0 : Int)), (str ([] : Str)), (Vs none 0 0), (Vs none 0 0)] 25, blk b1 [(str a3.1), (str a3.2.1), (Vi .i64 a3.2.2.1), (str a3.2.2.2.1), (Vs a7 a3.2.2.2.2.1.length a8), (Vs b3 a3.2.2.2.2.2.length b5)] 25] w9 := Hp.callK (L1 := []) (L2 := [blk b4 [(str ([] : Str)), (str ([] : Str)), (Vi .i64 (0 : Int)), (str ([] : Str)), (Vs none 0 0), (Vs none 0 0)] 25, blk b1 [(str a3.1), (str a3.2.1), (Vi .i64 a3.2.2.1), (str a3.2.2.2.1), (Vs a7 a3.2.2.2.2.1.length a8), (Vs b3 a3.2.2.2.2.2.length b5)] 25]) d2 d6; clear d6;refine wl (age (by exact ⟨abp.new (d7.blkAt 3 rfl), trivial⟩) (agw krf (bi hr fun f3 f4 hr => ?_)));have f5 : Hp w [] [blk c0 [(str y7.2)] 9, blk b9 [(bt y7.1)] 29, blk b4 [(str ([] : Str)), (str ([] : Str)), (Vi .i64 (0 : Int)), (str ([] : Str)), (Vs none 0 0), (Vs none 0 0)] 25, blk b1 [(str a3.1), (str a3.2.1), (Vi .i64 a3.2.2.1), (str a3.2.2.2.1), (Vs a7 a3.2.2.2.2.1.length a8), (Vs b3 a3.2.2.2.2.2.length b5)] 25] w9 := d7.front 1 _ rfl;have c4 : Hp w [] [blk b9 [(bt y7.1)] 29, blk c0 [(str y7.2)] 9, blk b4 [(str ([] : Str)), (str ([] : Str)), (Vi .i64 (0 : Int)), (str ([] : Str)), (Vs none 0 0), (Vs none 0 0)] 25, blk b1 [(str a3.1), (str a3.2.1), (Vi .i64 a3.2.2.1), (str a3.2.2.2.1), (Vs a7 a3.2.2.2.2.1.length a8), (Vs b3 a3.2.2.2.2.2.length b5)] 25] w9 := f5.front 1 _ rfl;refine abo 36 #[] [(Vs a7 a3.2.2.2.2.1.length a8), (zbi (.func 58) #[] #[(Vp (some ⟨b9, 0, none⟩)), (Vp (some ⟨c0, 0, none⟩))])] _ ent36 krf krf (aao a7 a3.2.2.2.2.1.length a8 b9 c0 f4 (hG.hp0 c4) rfl (d1.hp c4) d5 (c4.hand (L1 := [blk b9 [(bt y7.1)] 29, blk c0 [(str y7.2)] 9]) (L2 := [blk b4 [(str ([] : Str)), (str ([] : Str)), (Vi .i64 (0 : Int)), (str ([] : Str)), (Vs none 0 0), (Vs none 0 0)] 25, blk b1 [(str a3.1), (str a3.2.1), (Vi .i64 a3.2.2.1), (str a3.2.2.2.1), (Vs a7 a3.2.2.2.2.1.length a8), (Vs b3 a3.2.2.2.2.2.length b5)] 25])) (c4.highs hG (fun _ h => absurd h (by simp)) 2 rfl) (c4.apartRd 2 d1 (fun _ _ _ h => absurd h (by simp)) rfl)) ?_;rintro _ f6 ⟨rfl, d8⟩
 have c5 : Hp w [] [blk b9 [(bt y7.1)] 29, blk c0 [(str y7.2)] 9, blk b4 [(str ([] : Str)), (str ([] : Str)), (Vi .i64 (0 : Int)), (str ([] : Str)), (Vs none 0 0), (Vs none 0 0)] 25, blk b1 [(str a3.1), (str a3.2.1), (Vi .i64 a3.2.2.1), (str a3.2.2.2.1), (Vs a7 a3.2.2.2.2.1.length a8), (Vs b3 a3.2.2.2.2.2.length b5)] 25] f6 := Hp.callK (L1 := [blk b9 [(bt y7.1)] 29, blk c0 [(str y7.2)] 9]) (L2 := [blk b4 [(str ([] : Str)), (str ([] : Str)), (Vi .i64 (0 : Int)), (str ([] : Str)), (Vs none 0 0), (Vs none 0 0)] 25, blk b1 [(str a3.1), (str a3.2.1), (Vi .i64 a3.2.2.1), (str a3.2.2.2.1), (Vs a7 a3.2.2.2.2.1.length a8), (Vs b3 a3.2.2.2.2.2.length b5)] 25]) c4 d8; clear d8;refine wp 1 (nq (sr (afd c5 3 b1 0 6 [(str a3.1), (str a3.2.1), (Vi .i64 a3.2.2.1), (str a3.2.2.2.1), (Vs a7 a3.2.2.2.2.1.length a8), (Vs b3 a3.2.2.2.2.2.length b5)] [(str a3.1), (str a3.2.1), (Vi .i64 a3.2.2.1), (str a3.2.2.2.1), (Vs a7 a3.2.2.2.2.1.length a8), (Vs b3 a3.2.2.2.2.2.length b5)] 25 rfl rfl rfl krf krf krf (wp 1 (bi hr fun a2 f7 hr => abo 6 #[] [(zan #[(str a3.1), (str a3.2.1), (Vi .i64 a3.2.2.1), (str a3.2.2.2.1), (Vs a7 a3.2.2.2.2.1.length a8), (Vs b3 a3.2.2.2.2.2.length b5)]), (str c7)] _ ent6 krf krf (K_L_message_Drop a7 a3.2.2.2.2.1.length a8 b3 a3.2.2.2.2.2.length b5 f7 (hG.hp0 c5) rfl (d1.hp c5) d5 rfl (e8.hp c5) e9) ?_)))));rintro _ f8 ⟨c3, a9, b0, c1, a4, a5, rfl, d9⟩
 have f9 : Hp w [] [rwt aaa 53 2 c3 a9 b0 a2.2.2.2.2.1, rwt eB 5 1 c1 a4 a5 a2.2.2.2.2.2, blk b9 [(bt y7.1)] 29, blk c0 [(str y7.2)] 9, blk b4 [(str ([] : Str)), (str ([] : Str)), (Vi .i64 (0 : Int)), (str ([] : Str)), (Vs none 0 0), (Vs none 0 0)] 25, blk b1 [(str a3.1), (str a3.2.1), (Vi .i64 a3.2.2.1), (str a3.2.2.2.1), (Vs a7 a3.2.2.2.2.1.length a8), (Vs b3 a3.2.2.2.2.2.length b5)] 25] f8 := Hp.callK (L1 := []) (L2 := [blk b9 [(bt y7.1)] 29, blk c0 [(str y7.2)] 9, blk b4 [(str ([] : Str)), (str ([] : Str)), (Vi .i64 (0 : Int)), (str ([] : Str)), (Vs none 0 0), (Vs none 0 0)] 25, blk b1 [(str a3.1), (str a3.2.1), (Vi .i64 a3.2.2.1), (str a3.2.2.2.1), (Vs a7 a3.2.2.2.2.1.length a8), (Vs b3 a3.2.2.2.2.2.length b5)] 25]) c5 d9; clear d9;refine ahw f9 5 b1 0 [(str a3.1), (str a3.2.1), (Vi .i64 a3.2.2.1), (str a3.2.2.2.1), (Vs a7 a3.2.2.2.2.1.length a8), (Vs b3 a3.2.2.2.2.2.length b5)] [(str a2.1), (str a2.2.1), (Vi .i64 a2.2.2.1), (str a2.2.2.2.1), (Vs a9 a2.2.2.2.2.1.length b0), (Vs a4 a2.2.2.2.2.2.length a5)] 25 [rwt aaa 53 2 c3 a9 b0 a2.2.2.2.2.1, rwt eB 5 1 c1 a4 a5 a2.2.2.2.2.2, blk b9 [(bt y7.1)] 29, blk c0 [(str y7.2)] 9, blk b4 [(str ([] : Str)), (str ([] : Str)), (Vi .i64 (0 : Int)), (str ([] : Str)), (Vs none 0 0), (Vs none 0 0)] 25, blk b1 [(str a2.1), (str a2.2.1), (Vi .i64 a2.2.2.1), (str a2.2.2.2.1), (Vs a9 a2.2.2.2.2.1.length b0), (Vs a4 a2.2.2.2.2.2.length a5)] 25] rfl nbe krf krf rfl krf rfl fun g9 d3 => nq (bi hr fun g0 c6 hr => cut (σ := Int) [1, 2, 3, 6, 7] (fun b6 => [(7, (Vi .i64 b6))]) (fun b6 w' => Hp w [] [rwt aaa 53 2 c3 a9 b0 a2.2.2.2.2.1, rwt eB 5 1 c1 a4 a5 a2.2.2.2.2.2, blk b4 [(str ([] : Str)), (str ([] : Str)), (Vi .i64 (0 : Int)), (str ([] : Str)), (Vs none 0 0), (Vs none 0 0)] 25, blk b1 [(str a2.1), (str a2.2.1), (Vi .i64 a2.2.2.1), (str a2.2.2.2.1), (Vs a9 a2.2.2.2.2.1.length b0), (Vs a4 a2.2.2.2.2.2.length a5)] 25] w' /\ b6 = g0) ?_ ?_)
 refine sr (wp 2 (nq (cd c6 (fun g1 c6 => ?_) (fun g1 c6 => ?_))));refine cr (wp 1 (adw d3 5 b1 4 [(str a2.1), (str a2.2.1), (Vi .i64 a2.2.2.1), (str a2.2.2.2.1), (Vs a9 a2.2.2.2.2.1.length b0), (Vs a4 a2.2.2.2.2.2.length a5)] 25 (Vs a9 a2.2.2.2.2.1.length b0) rfl rfl krf krf (wp 2 (wl (ql ?_)))));obtain rfl := oi c6;exact ⟨(a2.2.2.2.2.1.length : Int), _, rfl, by kernel_rfl, (Hp.front (Hp.front (Hp.front (Hp.front d3 5 _ rfl) 5 _ rfl) 3 _ rfl) 3 _ rfl).kp, rfl⟩
 refine ck (ql ?_);obtain rfl := oi c6;exact ⟨f3, _, rfl, by kernel_rfl, (Hp.front (Hp.front (Hp.front (Hp.front d3 5 _ rfl) 5 _ rfl) 3 _ rfl) 3 _ rfl).kp, rfl⟩
 rintro b6 h0 G ⟨g2, rfl⟩
 refine cs (bi hr fun b2 g3 hr => afm 8 (fun j_ w_ w_' => abp [8, 9, 10] (fun w' => w'.heap[b1]? = some (.cells [(str a2.1), (str a2.2.1), (Vi .i64 a2.2.2.1), (str a2.2.2.2.1), (Vs a9 a2.2.2.2.2.1.length b0), (Vs a4 a2.2.2.2.2.2.length a5)].toArray 25 (0, 0))) j_ w_ w_' /\ True) [false, false, false, false, false, false, false, false, false, false, false] (fun _ _ => ⟨abp.same, trivial⟩) krf krf g2 rfl (aep aeq) fun h1 d4 => rp 7 [0] (abr [true, true, false, false, false, false, false, false, false, false, false] 1 22 (Vs a9 a2.2.2.2.2.1.length b0) [8, 9, 10] (fun _ _ _ h => h.1) _ rfl rfl krf krf krf krf krf rfl (adv rfl (by intro w hS_; exact (x_ld1 b1 4 [(str a2.1), (str a2.2.1), (Vi .i64 a2.2.2.1), (str a2.2.2.2.1), (Vs a9 a2.2.2.2.2.1.length b0), (Vs a4 a2.2.2.2.2.2.length a5)] 25 (Vs a9 a2.2.2.2.2.1.length b0) hS_ rfl krf krf))) (by exact d4.blkAt 3 rfl) (rp 3 [2, 3, 5] (ro 4 rfl (wc ent38 d4 (K_L_message_full g3 (hG.hp0 d4)) fun h2 e0 => wl (age (by exact ⟨abp.new (e0.blkAt 3 rfl), trivial⟩) ?_))))));refine rp 1 [6] (ro 7 rfl (afl e0 [(str b2), (str a6)] 53 (fun b => (Vs (some ⟨b, 0, none⟩) 1 1)) rfl rfl krf fun c2 g4 e1 => wl (age (by exact ⟨abp.new (e1.blkAt 4 rfl), trivial⟩) (agw krf (gi hr fun g5 hr => ?_)))));have e2 : Hp w [] [rwt aaa 53 2 c3 a9 b0 a2.2.2.2.2.1, blk c2 [(str b2), (str a6)] 53, rwt eB 5 1 c1 a4 a5 a2.2.2.2.2.2, blk b4 [(str ([] : Str)), (str ([] : Str)), (Vi .i64 (0 : Int)), (str ([] : Str)), (Vs none 0 0), (Vs none 0 0)] 25, blk b1 [(str a2.1), (str a2.2.1), (Vi .i64 a2.2.2.1), (str a2.2.2.2.1), (Vs a9 a2.2.2.2.2.1.length b0), (Vs a4 a2.2.2.2.2.2.length a5)] 25] g4 := e1.front 1 _ rfl;refine abo 37 #[] [(Vs a9 a2.2.2.2.2.1.length b0), (Vi .i64 b6), (Vs (some ⟨c2, 0, none⟩) 1 1)] _ ent37 krf krf (sh_Insert37 a2.2.2.2.2.1 (b2, a6) b6 c3 a9 b0 c2 (e2.hand (L1 := [rwt aaa 53 2 c3 a9 b0 a2.2.2.2.2.1, blk c2 [(str b2), (str a6)] 53]) (L2 := [rwt eB 5 1 c1 a4 a5 a2.2.2.2.2.2, blk b4 [(str ([] : Str)), (str ([] : Str)), (Vi .i64 (0 : Int)), (str ([] : Str)), (Vs none 0 0), (Vs none 0 0)] 25, blk b1 [(str a2.1), (str a2.2.1), (Vi .i64 a2.2.2.1), (str a2.2.2.2.1), (Vs a9 a2.2.2.2.2.1.length b0), (Vs a4 a2.2.2.2.2.2.length a5)] 25])) g5) ?_;rintro _ g6 ⟨c8, b7, b8, rfl, e3⟩
 have g7 : Hp w [] [rwt aaa 53 2 c8 b7 b8 (aig a2.2.2.2.2.1 b6 (b2, a6)), blk c2 [(str b2), (str a6)] 53, rwt eB 5 1 c1 a4 a5 a2.2.2.2.2.2, blk b4 [(str ([] : Str)), (str ([] : Str)), (Vi .i64 (0 : Int)), (str ([] : Str)), (Vs none 0 0), (Vs none 0 0)] 25, blk b1 [(str a2.1), (str a2.2.1), (Vi .i64 a2.2.2.1), (str a2.2.2.2.1), (Vs a9 a2.2.2.2.2.1.length b0), (Vs a4 a2.2.2.2.2.2.length a5)] 25] g6 := Hp.callK (L1 := [rwt aaa 53 2 c3 a9 b0 a2.2.2.2.2.1, blk c2 [(str b2), (str a6)] 53]) (L2 := [rwt eB 5 1 c1 a4 a5 a2.2.2.2.2.2, blk b4 [(str ([] : Str)), (str ([] : Str)), (Vi .i64 (0 : Int)), (str ([] : Str)), (Vs none 0 0), (Vs none 0 0)] 25, blk b1 [(str a2.1), (str a2.2.1), (Vi .i64 a2.2.2.1), (str a2.2.2.2.1), (Vs a9 a2.2.2.2.2.1.length b0), (Vs a4 a2.2.2.2.2.2.length a5)] 25]) e2 e3; clear e3;refine wp 1 (ajf g7 4 b1 4 [(str a2.1), (str a2.2.1), (Vi .i64 a2.2.2.1), (str a2.2.2.2.1), (Vs a9 a2.2.2.2.2.1.length b0), (Vs a4 a2.2.2.2.2.2.length a5)] 25 (Vs b7 ((aig a2.2.2.2.2.1 b6 (b2, a6)).length) b8) [rwt aaa 53 2 c8 b7 b8 (aig a2.2.2.2.2.1 b6 (b2, a6)), blk c2 [(str b2), (str a6)] 53, rwt eB 5 1 c1 a4 a5 a2.2.2.2.2.2, blk b4 [(str ([] : Str)), (str ([] : Str)), (Vi .i64 (0 : Int)), (str ([] : Str)), (Vs none 0 0), (Vs none 0 0)] 25, blk b1 [(str a2.1), (str a2.2.1), (Vi .i64 a2.2.2.1), (str a2.2.2.2.1), (Vs b7 ((aig a2.2.2.2.2.1 b6 (b2, a6)).length) b8), (Vs a4 a2.2.2.2.2.2.length a5)] 25] rfl (zal (zad _) nbe) krf krf rfl krf rfl fun h3 e4 => nq (sr (afd e4 4 b1 0 6 [(str a2.1), (str a2.2.1), (Vi .i64 a2.2.2.1), (str a2.2.2.2.1), (Vs b7 ((aig a2.2.2.2.2.1 b6 (b2, a6)).length) b8), (Vs a4 a2.2.2.2.2.2.length a5)] [(str a2.1), (str a2.2.1), (Vi .i64 a2.2.2.1), (str a2.2.2.2.1), (Vs b7 ((aig a2.2.2.2.2.1 b6 (b2, a6)).length) b8), (Vs a4 a2.2.2.2.2.2.length a5)] 25 rfl rfl rfl krf krf krf (ahw e4 3 b4 0 [(str ([] : Str)), (str ([] : Str)), (Vi .i64 (0 : Int)), (str ([] : Str)), (Vs none 0 0), (Vs none 0 0)] [(str a2.1), (str a2.2.1), (Vi .i64 a2.2.2.1), (str a2.2.2.2.1), (Vs b7 ((aig a2.2.2.2.2.1 b6 (b2, a6)).length) b8), (Vs a4 a2.2.2.2.2.2.length a5)] 25 [rwt aaa 53 2 c8 b7 b8 (aig a2.2.2.2.2.1 b6 (b2, a6)), blk c2 [(str b2), (str a6)] 53, rwt eB 5 1 c1 a4 a5 a2.2.2.2.2.2, blk b4 [(str a2.1), (str a2.2.1), (Vi .i64 a2.2.2.1), (str a2.2.2.2.1), (Vs b7 ((aig a2.2.2.2.2.1 b6 (b2, a6)).length) b8), (Vs a4 a2.2.2.2.2.2.length a5)] 25, blk b1 [(str a2.1), (str a2.2.1), (Vi .i64 a2.2.2.1), (str a2.2.2.2.1), (Vs b7 ((aig a2.2.2.2.2.1 b6 (b2, a6)).length) b8), (Vs a4 a2.2.2.2.2.2.length a5)] 25] rfl nbe krf krf rfl krf rfl fun h4 e5 => nq ?_))));refine ct ?_;obtain rfl := oi hr;refine r_res _ [(zan #[(str a2.1), (str a2.2.1), (Vi .i64 a2.2.2.1), (str a2.2.2.2.1), (Vs b7 ((aig a2.2.2.2.2.1 b6 (b2, a6)).length) b8), (Vs a4 a2.2.2.2.2.2.length a5)])] (zan #[(str a2.1), (str a2.2.1), (Vi .i64 a2.2.2.1), (str a2.2.2.2.1), (Vs b7 ((aig a2.2.2.2.2.1 b6 (b2, a6)).length) b8), (Vs a4 a2.2.2.2.2.2.length a5)]) rfl rfl (aix (rok_agg e5 3 b4 25 [(str a2.1), (str a2.2.1), (Vi .i64 a2.2.2.1), (str a2.2.2.2.1), (Vs b7 ((aig a2.2.2.2.2.1 b6 (b2, a6)).length) b8), (Vs a4 a2.2.2.2.2.2.length a5)] rfl krf krf krf) rok_nil) rfl ?_;exact ⟨c8, b7, b8, c1, a4, a5, (by first | rfl | (simp; done) | (simp; omega) | exact aah (by rw [zac]; omega)), (Hp.front (Hp.front e5 2 _ rfl) 1 _ rfl).kp⟩
theorem K_L_message_Push {fu : Nat} {a3 : (Str × Str × Int × Str × (List (Str × Str)) × (List UInt8))} {c7 : Str} {a6 : Str} (a7 : Option Addr) (c8 : Nat) (a8 : Nat) (b0 : Option Addr) (c9 : Nat) (b2 : Nat) {w : World} {r : (Str × Str × Int × Str × (List (Str × Str)) × (List UInt8))} (hr : agl fu a3 c7 a6 = some r) (hG : Gl w) (e4 : c8 = a3.2.2.2.2.1.length) (d0 : Rd w a7 (zap aaa a3.2.2.2.2.1)) (d3 : c8 <= a8) (e5 : c9 = a3.2.2.2.2.2.length) (e6 : Rd w b0 (zap eB a3.2.2.2.2.2)) (e7 : c9 <= b2) : CR prog 12 [(zan #[(str a3.1), (str a3.2.1), (Vi .i64 a3.2.2.1), (str a3.2.2.2.1), (Vs a7 c8 a8), (Vs b0 c9 b2)]), (str c7), (str a6)] w fun v w' => ∃ (o0 : Option Nat), ∃ (a0 : Option Addr), ∃ (cap0 : Nat), ∃ (o1 : Option Nat), ∃ (a1 : Option Addr), ∃ (cap1 : Nat), v = (zan #[(str r.1), (str r.2.1), (Vi .i64 r.2.2.1), (str r.2.2.2.1), (Vs a0 r.2.2.2.2.1.length cap0), (Vs a1 r.2.2.2.2.2.length cap1)]) /\ Hp w [] [rwt aaa 53 2 o0 a0 cap0 r.2.2.2.2.1, rwt eB 5 1 o1 a1 cap1 r.2.2.2.2.2] w' := by
 subst e4;subst e5;have hH := Hp.refl w;refine enter (k := 27) func12 rfl rfl nbe ?_;unfold agl at hr;refine sr (afl hH [(str a3.1), (str a3.2.1), (Vi .i64 a3.2.2.1), (str a3.2.2.2.1), (Vs a7 a3.2.2.2.2.1.length a8), (Vs b0 a3.2.2.2.2.2.length b2)] 25 (fun b => (Vp (some ⟨b, 0, none⟩))) rfl rfl krf fun b1 w2 e8 => afl e8 [(str ([] : Str)), (str ([] : Str)), (Vi .i64 (0 : Int)), (str ([] : Str)), (Vs none 0 0), (Vs none 0 0)] 25 (fun b => (Vp (some ⟨b, 0, none⟩))) rfl rfl krf fun b4 w5 e9 => nq (cs (bi hr fun y7 f0 hr => afm 4 (fun j_ w_ w_' => abp [4, 5, 6] (fun w' => w'.heap[b1]? = some (.cells [(str a3.1), (str a3.2.1), (Vi .i64 a3.2.2.1), (str a3.2.2.2.1), (Vs a7 a3.2.2.2.2.1.length a8), (Vs b0 a3.2.2.2.2.2.length b2)].toArray 25 (0, 0))) j_ w_ w_' /\ True) [false, false, false, false, false, false, false] (fun _ _ => ⟨abp.same, trivial⟩) krf krf e9 rfl (aep aeq) fun g3 d1 => rp 3 [0] ?_)));refine abr [true, true, false, false, false, false, false] 1 9 (Vs a7 a3.2.2.2.2.1.length a8) [4, 5, 6] (fun _ _ _ h => h.1) _ rfl rfl krf krf krf krf krf rfl (adv rfl (by intro w hS_; exact (x_ld1 b1 4 [(str a3.1), (str a3.2.1), (Vi .i64 a3.2.2.1), (str a3.2.2.2.1), (Vs a7 a3.2.2.2.2.1.length a8), (Vs b0 a3.2.2.2.2.2.length b2)] 25 (Vs a7 a3.2.2.2.2.1.length a8) hS_ rfl krf krf))) (by exact d1.blkAt 1 rfl) (rp 1 [2] (ro 3 rfl (abo 26 #[] [(str c7)] _ ent26 krf krf (adp f0 (hG.hp0 d1)) ?_)));rintro _ w9 ⟨b6, b7, rfl, d4⟩
 have d5 : Hp w [] [blk b6 [(bt y7.1)] 29, blk b7 [(str y7.2)] 9, blk b4 [(str ([] : Str)), (str ([] : Str)), (Vi .i64 (0 : Int)), (str ([] : Str)), (Vs none 0 0), (Vs none 0 0)] 25, blk b1 [(str a3.1), (str a3.2.1), (Vi .i64 a3.2.2.1), (str a3.2.2.2.1), (Vs a7 a3.2.2.2.2.1.length a8), (Vs b0 a3.2.2.2.2.2.length b2)] 25] w9 := Hp.callK (L1 := []) (L2 := [blk b4 [(str ([] : Str)), (str ([] : Str)), (Vi .i64 (0 : Int)), (str ([] : Str)), (Vs none 0 0), (Vs none 0 0)] 25, blk b1 [(str a3.1), (str a3.2.1), (Vi .i64 a3.2.2.1), (str a3.2.2.2.1), (Vs a7 a3.2.2.2.2.1.length a8), (Vs b0 a3.2.2.2.2.2.length b2)] 25]) d1 d4; clear d4;refine wl (age (by exact ⟨abp.new (d5.blkAt 3 rfl), trivial⟩) (agw krf (bi hr fun b8 f1 hr => ?_)));have f2 : Hp w [] [blk b7 [(str y7.2)] 9, blk b6 [(bt y7.1)] 29, blk b4 [(str ([] : Str)), (str ([] : Str)), (Vi .i64 (0 : Int)), (str ([] : Str)), (Vs none 0 0), (Vs none 0 0)] 25, blk b1 [(str a3.1), (str a3.2.1), (Vi .i64 a3.2.2.1), (str a3.2.2.2.1), (Vs a7 a3.2.2.2.2.1.length a8), (Vs b0 a3.2.2.2.2.2.length b2)] 25] w9 := d5.front 1 _ rfl;have c3 : Hp w [] [blk b6 [(bt y7.1)] 29, blk b7 [(str y7.2)] 9, blk b4 [(str ([] : Str)), (str ([] : Str)), (Vi .i64 (0 : Int)), (str ([] : Str)), (Vs none 0 0), (Vs none 0 0)] 25, blk b1 [(str a3.1), (str a3.2.1), (Vi .i64 a3.2.2.1), (str a3.2.2.2.1), (Vs a7 a3.2.2.2.2.1.length a8), (Vs b0 a3.2.2.2.2.2.length b2)] 25] w9 := f2.front 1 _ rfl;refine abo 36 #[] [(Vs a7 a3.2.2.2.2.1.length a8), (zbi (.func 58) #[] #[(Vp (some ⟨b6, 0, none⟩)), (Vp (some ⟨b7, 0, none⟩))])] _ ent36 krf krf (aao a7 a3.2.2.2.2.1.length a8 b6 b7 f1 (hG.hp0 c3) rfl (d0.hp c3) d3 (c3.hand (L1 := [blk b6 [(bt y7.1)] 29, blk b7 [(str y7.2)] 9]) (L2 := [blk b4 [(str ([] : Str)), (str ([] : Str)), (Vi .i64 (0 : Int)), (str ([] : Str)), (Vs none 0 0), (Vs none 0 0)] 25, blk b1 [(str a3.1), (str a3.2.1), (Vi .i64 a3.2.2.1), (str a3.2.2.2.1), (Vs a7 a3.2.2.2.2.1.length a8), (Vs b0 a3.2.2.2.2.2.length b2)] 25])) (c3.highs hG (fun _ h => absurd h (by simp)) 2 rfl) (c3.apartRd 2 d0 (fun _ _ _ h => absurd h (by simp)) rfl)) ?_;rintro _ f3 ⟨rfl, d6⟩
 have c5 : Hp w [] [blk b6 [(bt y7.1)] 29, blk b7 [(str y7.2)] 9, blk b4 [(str ([] : Str)), (str ([] : Str)), (Vi .i64 (0 : Int)), (str ([] : Str)), (Vs none 0 0), (Vs none 0 0)] 25, blk b1 [(str a3.1), (str a3.2.1), (Vi .i64 a3.2.2.1), (str a3.2.2.2.1), (Vs a7 a3.2.2.2.2.1.length a8), (Vs b0 a3.2.2.2.2.2.length b2)] 25] f3 := Hp.callK (L1 := [blk b6 [(bt y7.1)] 29, blk b7 [(str y7.2)] 9]) (L2 := [blk b4 [(str ([] : Str)), (str ([] : Str)), (Vi .i64 (0 : Int)), (str ([] : Str)), (Vs none 0 0), (Vs none 0 0)] 25, blk b1 [(str a3.1), (str a3.2.1), (Vi .i64 a3.2.2.1), (str a3.2.2.2.1), (Vs a7 a3.2.2.2.2.1.length a8), (Vs b0 a3.2.2.2.2.2.length b2)] 25]) c3 d6; clear d6;refine w_max .i64 b8 (0 : Int) krf krf (wp 1 (nq (sr (afd c5 3 b1 0 6 [(str a3.1), (str a3.2.1), (Vi .i64 a3.2.2.1), (str a3.2.2.2.1), (Vs a7 a3.2.2.2.2.1.length a8), (Vs b0 a3.2.2.2.2.2.length b2)] [(str a3.1), (str a3.2.1), (Vi .i64 a3.2.2.1), (str a3.2.2.2.1), (Vs a7 a3.2.2.2.2.1.length a8), (Vs b0 a3.2.2.2.2.2.length b2)] 25 rfl rfl rfl krf krf krf (bi hr fun a2 f4 hr => abo 24 #[] [(zan #[(str a3.1), (str a3.2.1), (Vi .i64 a3.2.2.1), (str a3.2.2.2.1), (Vs a7 a3.2.2.2.2.1.length a8), (Vs b0 a3.2.2.2.2.2.length b2)])] _ ent24 krf krf (ahr a7 a3.2.2.2.2.1.length a8 b0 a3.2.2.2.2.2.length b2 f4 (hG.hp0 c5) rfl (d0.hp c5) d3 rfl (e6.hp c5) e7) ?_)))));rintro _ f5 ⟨c4, b3, b5, c1, a4, a5, rfl, d7⟩
 have f6 : Hp w [] [rwt aaa 53 2 c4 b3 b5 a2.2.2.2.2.1, rwt eB 5 1 c1 a4 a5 a2.2.2.2.2.2, blk b6 [(bt y7.1)] 29, blk b7 [(str y7.2)] 9, blk b4 [(str ([] : Str)), (str ([] : Str)), (Vi .i64 (0 : Int)), (str ([] : Str)), (Vs none 0 0), (Vs none 0 0)] 25, blk b1 [(str a3.1), (str a3.2.1), (Vi .i64 a3.2.2.1), (str a3.2.2.2.1), (Vs a7 a3.2.2.2.2.1.length a8), (Vs b0 a3.2.2.2.2.2.length b2)] 25] f5 := Hp.callK (L1 := []) (L2 := [blk b6 [(bt y7.1)] 29, blk b7 [(str y7.2)] 9, blk b4 [(str ([] : Str)), (str ([] : Str)), (Vi .i64 (0 : Int)), (str ([] : Str)), (Vs none 0 0), (Vs none 0 0)] 25, blk b1 [(str a3.1), (str a3.2.1), (Vi .i64 a3.2.2.1), (str a3.2.2.2.1), (Vs a7 a3.2.2.2.2.1.length a8), (Vs b0 a3.2.2.2.2.2.length b2)] 25]) c5 d7; clear d7;refine ahw f6 5 b1 0 [(str a3.1), (str a3.2.1), (Vi .i64 a3.2.2.1), (str a3.2.2.2.1), (Vs a7 a3.2.2.2.2.1.length a8), (Vs b0 a3.2.2.2.2.2.length b2)] [(str a2.1), (str a2.2.1), (Vi .i64 a2.2.2.1), (str a2.2.2.2.1), (Vs b3 a2.2.2.2.2.1.length b5), (Vs a4 a2.2.2.2.2.2.length a5)] 25 [rwt aaa 53 2 c4 b3 b5 a2.2.2.2.2.1, rwt eB 5 1 c1 a4 a5 a2.2.2.2.2.2, blk b6 [(bt y7.1)] 29, blk b7 [(str y7.2)] 9, blk b4 [(str ([] : Str)), (str ([] : Str)), (Vi .i64 (0 : Int)), (str ([] : Str)), (Vs none 0 0), (Vs none 0 0)] 25, blk b1 [(str a2.1), (str a2.2.1), (Vi .i64 a2.2.2.1), (str a2.2.2.2.1), (Vs b3 a2.2.2.2.2.1.length b5), (Vs a4 a2.2.2.2.2.2.length a5)] 25] rfl nbe krf krf rfl krf rfl fun g4 f7 => nq (cs (bi hr fun a9 f8 hr => afm 8 (fun j_ w_ w_' => abp [8, 9, 10] (fun w' => w'.heap[b1]? = some (.cells [(str a2.1), (str a2.2.1), (Vi .i64 a2.2.2.1), (str a2.2.2.2.1), (Vs b3 a2.2.2.2.2.1.length b5), (Vs a4 a2.2.2.2.2.2.length a5)].toArray 25 (0, 0))) j_ w_ w_' /\ True) [false, false, false, false, false, false, false, false, false, false, false] (fun _ _ => ⟨abp.same, trivial⟩) krf krf f7 rfl (aep aeq) fun g5 d2 => rp 7 [0] (abr [true, true, false, false, false, false, false, false, false, false, false] 1 17 (Vs b3 a2.2.2.2.2.1.length b5) [8, 9, 10] (fun _ _ _ h => h.1) _ rfl rfl krf krf krf krf krf rfl (adv rfl (by intro w hS_; exact (x_ld1 b1 4 [(str a2.1), (str a2.2.1), (Vi .i64 a2.2.2.1), (str a2.2.2.2.1), (Vs b3 a2.2.2.2.2.1.length b5), (Vs a4 a2.2.2.2.2.2.length a5)] 25 (Vs b3 a2.2.2.2.2.1.length b5) hS_ rfl krf krf))) (by exact d2.blkAt 5 rfl) (rp 3 [2, 3, 5] (ro 4 rfl ?_)))))
 refine wc ent38 d2 (K_L_message_full f8 (hG.hp0 d2)) fun g6 d8 => wl (age (by exact ⟨abp.new (d8.blkAt 5 rfl), trivial⟩) (rp 1 [6] (ro 7 rfl (afl d8 [(str a9), (str a6)] 53 (fun b => (Vs (some ⟨b, 0, none⟩) 1 1)) rfl rfl krf fun c2 f9 d9 => wl (age (by exact ⟨abp.new (d9.blkAt 6 rfl), trivial⟩) (agw krf (gi hr fun g0 hr => ?_)))))))
 have e0 : Hp w [] [rwt aaa 53 2 c4 b3 b5 a2.2.2.2.2.1, blk c2 [(str a9), (str a6)] 53, rwt eB 5 1 c1 a4 a5 a2.2.2.2.2.2, blk b6 [(bt y7.1)] 29, blk b7 [(str y7.2)] 9, blk b4 [(str ([] : Str)), (str ([] : Str)), (Vi .i64 (0 : Int)), (str ([] : Str)), (Vs none 0 0), (Vs none 0 0)] 25, blk b1 [(str a2.1), (str a2.2.1), (Vi .i64 a2.2.2.1), (str a2.2.2.2.1), (Vs b3 a2.2.2.2.2.1.length b5), (Vs a4 a2.2.2.2.2.2.length a5)] 25] f9 := d9.front 1 _ rfl;refine abo 37 #[] [(Vs b3 a2.2.2.2.2.1.length b5), (Vi .i64 (max b8 (0 : Int))), (Vs (some ⟨c2, 0, none⟩) 1 1)] _ ent37 krf krf (sh_Insert37 a2.2.2.2.2.1 (a9, a6) (max b8 (0 : Int)) c4 b3 b5 c2 (e0.hand (L1 := [rwt aaa 53 2 c4 b3 b5 a2.2.2.2.2.1, blk c2 [(str a9), (str a6)] 53]) (L2 := [rwt eB 5 1 c1 a4 a5 a2.2.2.2.2.2, blk b6 [(bt y7.1)] 29, blk b7 [(str y7.2)] 9, blk b4 [(str ([] : Str)), (str ([] : Str)), (Vi .i64 (0 : Int)), (str ([] : Str)), (Vs none 0 0), (Vs none 0 0)] 25, blk b1 [(str a2.1), (str a2.2.1), (Vi .i64 a2.2.2.1), (str a2.2.2.2.1), (Vs b3 a2.2.2.2.2.1.length b5), (Vs a4 a2.2.2.2.2.2.length a5)] 25])) g0) ?_;rintro _ g1 ⟨c6, b9, c0, rfl, e1⟩
 have g2 : Hp w [] [rwt aaa 53 2 c6 b9 c0 (aig a2.2.2.2.2.1 (max b8 (0 : Int)) (a9, a6)), blk c2 [(str a9), (str a6)] 53, rwt eB 5 1 c1 a4 a5 a2.2.2.2.2.2, blk b6 [(bt y7.1)] 29, blk b7 [(str y7.2)] 9, blk b4 [(str ([] : Str)), (str ([] : Str)), (Vi .i64 (0 : Int)), (str ([] : Str)), (Vs none 0 0), (Vs none 0 0)] 25, blk b1 [(str a2.1), (str a2.2.1), (Vi .i64 a2.2.2.1), (str a2.2.2.2.1), (Vs b3 a2.2.2.2.2.1.length b5), (Vs a4 a2.2.2.2.2.2.length a5)] 25] g1 := Hp.callK (L1 := [rwt aaa 53 2 c4 b3 b5 a2.2.2.2.2.1, blk c2 [(str a9), (str a6)] 53]) (L2 := [rwt eB 5 1 c1 a4 a5 a2.2.2.2.2.2, blk b6 [(bt y7.1)] 29, blk b7 [(str y7.2)] 9, blk b4 [(str ([] : Str)), (str ([] : Str)), (Vi .i64 (0 : Int)), (str ([] : Str)), (Vs none 0 0), (Vs none 0 0)] 25, blk b1 [(str a2.1), (str a2.2.1), (Vi .i64 a2.2.2.1), (str a2.2.2.2.1), (Vs b3 a2.2.2.2.2.1.length b5), (Vs a4 a2.2.2.2.2.2.length a5)] 25]) e0 e1; clear e1;refine wp 1 (ajf g2 6 b1 4 [(str a2.1), (str a2.2.1), (Vi .i64 a2.2.2.1), (str a2.2.2.2.1), (Vs b3 a2.2.2.2.2.1.length b5), (Vs a4 a2.2.2.2.2.2.length a5)] 25 (Vs b9 ((aig a2.2.2.2.2.1 (max b8 (0 : Int)) (a9, a6)).length) c0) [rwt aaa 53 2 c6 b9 c0 (aig a2.2.2.2.2.1 (max b8 (0 : Int)) (a9, a6)), blk c2 [(str a9), (str a6)] 53, rwt eB 5 1 c1 a4 a5 a2.2.2.2.2.2, blk b6 [(bt y7.1)] 29, blk b7 [(str y7.2)] 9, blk b4 [(str ([] : Str)), (str ([] : Str)), (Vi .i64 (0 : Int)), (str ([] : Str)), (Vs none 0 0), (Vs none 0 0)] 25, blk b1 [(str a2.1), (str a2.2.1), (Vi .i64 a2.2.2.1), (str a2.2.2.2.1), (Vs b9 ((aig a2.2.2.2.2.1 (max b8 (0 : Int)) (a9, a6)).length) c0), (Vs a4 a2.2.2.2.2.2.length a5)] 25] rfl (zal (zad _) nbe) krf krf rfl krf rfl fun g7 e2 => nq (sr (afd e2 6 b1 0 6 [(str a2.1), (str a2.2.1), (Vi .i64 a2.2.2.1), (str a2.2.2.2.1), (Vs b9 ((aig a2.2.2.2.2.1 (max b8 (0 : Int)) (a9, a6)).length) c0), (Vs a4 a2.2.2.2.2.2.length a5)] [(str a2.1), (str a2.2.1), (Vi .i64 a2.2.2.1), (str a2.2.2.2.1), (Vs b9 ((aig a2.2.2.2.2.1 (max b8 (0 : Int)) (a9, a6)).length) c0), (Vs a4 a2.2.2.2.2.2.length a5)] 25 rfl rfl rfl krf krf krf (ahw e2 5 b4 0 [(str ([] : Str)), (str ([] : Str)), (Vi .i64 (0 : Int)), (str ([] : Str)), (Vs none 0 0), (Vs none 0 0)] [(str a2.1), (str a2.2.1), (Vi .i64 a2.2.2.1), (str a2.2.2.2.1), (Vs b9 ((aig a2.2.2.2.2.1 (max b8 (0 : Int)) (a9, a6)).length) c0), (Vs a4 a2.2.2.2.2.2.length a5)] 25 [rwt aaa 53 2 c6 b9 c0 (aig a2.2.2.2.2.1 (max b8 (0 : Int)) (a9, a6)), blk c2 [(str a9), (str a6)] 53, rwt eB 5 1 c1 a4 a5 a2.2.2.2.2.2, blk b6 [(bt y7.1)] 29, blk b7 [(str y7.2)] 9, blk b4 [(str a2.1), (str a2.2.1), (Vi .i64 a2.2.2.1), (str a2.2.2.2.1), (Vs b9 ((aig a2.2.2.2.2.1 (max b8 (0 : Int)) (a9, a6)).length) c0), (Vs a4 a2.2.2.2.2.2.length a5)] 25, blk b1 [(str a2.1), (str a2.2.1), (Vi .i64 a2.2.2.1), (str a2.2.2.2.1), (Vs b9 ((aig a2.2.2.2.2.1 (max b8 (0 : Int)) (a9, a6)).length) c0), (Vs a4 a2.2.2.2.2.2.length a5)] 25] rfl nbe krf krf rfl krf rfl fun g8 e3 => nq ?_))));refine ct ?_;obtain rfl := oi hr;refine r_res _ [(zan #[(str a2.1), (str a2.2.1), (Vi .i64 a2.2.2.1), (str a2.2.2.2.1), (Vs b9 ((aig a2.2.2.2.2.1 (max b8 (0 : Int)) (a9, a6)).length) c0), (Vs a4 a2.2.2.2.2.2.length a5)])] (zan #[(str a2.1), (str a2.2.1), (Vi .i64 a2.2.2.1), (str a2.2.2.2.1), (Vs b9 ((aig a2.2.2.2.2.1 (max b8 (0 : Int)) (a9, a6)).length) c0), (Vs a4 a2.2.2.2.2.2.length a5)]) rfl rfl (aix (rok_agg e3 5 b4 25 [(str a2.1), (str a2.2.1), (Vi .i64 a2.2.2.1), (str a2.2.2.2.1), (Vs b9 ((aig a2.2.2.2.2.1 (max b8 (0 : Int)) (a9, a6)).length) c0), (Vs a4 a2.2.2.2.2.2.length a5)] rfl krf krf krf) rok_nil) rfl ?_;exact ⟨c6, b9, c0, c1, a4, a5, (by first | rfl | (simp; done) | (simp; omega) | exact aah (by rw [zac]; omega)), (Hp.front (Hp.front e3 2 _ rfl) 1 _ rfl).kp⟩
theorem K_L_header_kindOf {fu : Nat} {a3 : Str} {w : World} {r : Int} (hr : afx fu a3 = some r) (hG : Gl w) : CR prog 106 [(str a3)] w fun v w' => v = (Vi .i64 r) /\ Hp w [] [] w' := by
 have hH := Hp.refl w;refine enter (k := 18) func106 rfl rfl nbe ?_;unfold afx at hr;refine sr (wp 1 (nq (bi hr fun a5 a6 hr => cut1 hH a5 [2] (fun a7 => []) ?_ ?_)));refine sr (wp 1 (nq (ce (lpS (fun a4 a1 => adu fu a3 a4 a1) (0 : Int) hH a6 [0, 2, 4] (fun a1 => [(4, (Vi .i64 a1))]) (fun _ => rfl) ?_))));rintro a4 a1 b6 G a2 a0
 rw [afw, adi] at a0;refine sr (wp 1 (nq (cs (cd a0 (fun a8 a0 => ?_) (fun a8 a0 => ?_)))));refine ck (qn (cs (ce (sr (wp 2 (nq (cs ?_)))))));refine cr (wp 1 (gi a0 fun a9 a0 => w_ixaA ⟨2, 0, none⟩ 31 189 2 .i64 a1 underlying190 krf krf krf a9 (by decide) (w_fldE (some ⟨2, 0, none⟩) ((a1).toNat * 2) 0 krf krf (gi a0 fun b0 a0 => w_ldF (some ⟨2, 0, none⟩) ais acn 2 a1 0 enc_enamekind (hG.kinds.rd.hp a2) (str ((el acn a1).1)) b0 (by decide) krf krf krf (wp 2 (nq (cd a0 (fun b1 a0 => ?_) (fun b1 a0 => ?_))))))));refine sr (wp 1 (gi a0 fun b2 a0 => w_ixaA ⟨2, 0, none⟩ 31 189 2 .i64 a1 underlying190 krf krf krf b2 (by decide) (w_fldE (some ⟨2, 0, none⟩) ((a1).toNat * 2) 1 krf krf (gi a0 fun b3 a0 => w_ldF (some ⟨2, 0, none⟩) ais acn 2 a1 1 enc_enamekind (hG.kinds.rd.hp a2) (Vi .i64 ((el acn a1).2)) b3 (by decide) krf krf krf (wp 1 (wl ?_))))));refine qn (ct (bt_ (st (acm (bt_ (acm ?_))))));obtain rfl := oi a0;obtain rfl := oi hr;exact rv a2.kp
 exact ck (bn (qn (cr (gi a0 fun b4 a0 => aar a1 (1 : Int) krf krf b4 (wp 1 (wl (ql (le' (a1 + (1 : Int)) a2.kp a0))))))))
 refine adz (aej (afq (aek (ql ?_))));obtain rfl := oi a0;exact je1 rfl a2.kp
 rintro a7 b7 G b5 rfl
 refine sr (wp 1 (nq (ct ?_)));obtain rfl := oi hr;exact rv b5.kp
theorem K_L_header_many {fu : Nat} {a3 : Str} {w : World} {r : Bool} (hr : aeh fu a3 = some r) (hG : Gl w) : CR prog 73 [(str a3)] w fun v w' => v = (Vb r) /\ Hp w [] [] w' := by
 have hH := Hp.refl w;refine enter (k := 19) func73 rfl rfl nbe ?_;unfold aeh at hr;refine sr (wp 1 (nq (bi hr fun a5 a0 hr => cut1 hH a5 [0, 2] (fun a6 => []) ?_ ?_)));refine sr (wp 1 (nq (ce (cs (sr (wp 2 ?_))))));refine nq (cd a0 (fun a7 a0 => ?_) (fun a7 a0 => ?_));refine ck (qn (cd a0 (fun a8 a0 => ?_) (fun a8 a0 => ?_)));refine sr (wp 1 (nq (ct (bt_ (acm ?_)))));obtain rfl := oi a0;obtain rfl := oi hr;exact rv hH.kp
 refine ck (bn (ql ?_));obtain rfl := oi a0;exact je1 rfl hH.kp
 refine sr (wp 2 (nq (cd a0 (fun a9 a0 => ?_) (fun a9 a0 => ?_))));refine ck (qn (cd a0 (fun b0 a0 => ?_) (fun b0 a0 => ?_)));refine sr (wp 1 (nq (ct (bt_ (acm ?_)))));obtain rfl := oi a0;obtain rfl := oi hr;exact rv hH.kp
 refine ck (bn (ql ?_));obtain rfl := oi a0;exact je1 rfl hH.kp
 refine sr (wp 2 (nq (cd a0 (fun b1 a0 => ?_) (fun b1 a0 => ?_))));refine ck (qn (cd a0 (fun b2 a0 => ?_) (fun b2 a0 => ?_)));refine sr (wp 1 (nq (ct (bt_ (acm ?_)))));obtain rfl := oi a0;obtain rfl := oi hr;exact rv hH.kp
 refine ck (bn (ql ?_));obtain rfl := oi a0;exact je1 rfl hH.kp
 refine sr (wp 2 (nq (cd a0 (fun b3 a0 => ?_) (fun b3 a0 => ?_))));refine ck (qn (cd a0 (fun b4 a0 => ?_) (fun b4 a0 => ?_)));refine sr (wp 1 (nq (ct (bt_ (acm ?_)))));obtain rfl := oi a0;obtain rfl := oi hr;exact rv hH.kp
 refine ck (bn (ql ?_));obtain rfl := oi a0;exact je1 rfl hH.kp
 refine cr (wp 2 (nq (cd a0 (fun b5 a0 => ?_) (fun b5 a0 => ?_))));refine sr (wp 1 (nq (ct (bt_ (acm ?_)))));obtain rfl := oi a0;obtain rfl := oi hr;exact rv hH.kp
 refine ck (bn (ql ?_));obtain rfl := oi a0;exact je1 rfl hH.kp
 rintro a6 c0 G a4 rfl
 refine sr (wp 1 (bi hr fun c1 b6 hr => wc ent106 a4 (K_L_header_kindOf b6 (hG.hp0 a4)) fun c2 a2 => wp 1 (nq (bi hr fun b7 a1 hr => cut0 a2 [2] [(2, (Vb b7))] ?_ ?_))));refine cr (wp 2 (wd a1 (fun b8 a1 => ?_) (fun b8 a1 => ?_)));refine wp 4 (wl (ql ?_));obtain rfl := oi a1;exact je a2.kp
 refine wp 4 (wl (ql ?_));obtain rfl := oi a1;exact je a2.kp
 intro c3 G b9;refine ct ?_;obtain rfl := oi hr;exact rv b9.kp
theorem K_L_header_Many {fu : Nat} {a2 : Str} {w : World} {r : Bool} (hr : agd fu a2 = some r) (hG : Gl w) : CR prog 39 [(str a2)] w fun v w' => v = (Vb r) /\ Hp w [] [] w' := by
 have hH := Hp.refl w;refine enter (k := 16) func39 rfl rfl nbe ?_;unfold agd at hr;refine sr (wp 1 (nq (sr (wp 1 (bi hr fun y1 a3 hr => wc ent14 hH (afh a3 (hG.hp0 hH)) fun w3 a1 => ?_)))));refine wp 5 (nq (bi hr fun a4 a0 hr => cut0 a1 [2] [(2, (Vb a4))] ?_ ?_));refine cr (wp 1 (abh y1.2 (0 : UInt8) krf krf (wd a0 (fun a5 a0 => ?_) (fun a5 a0 => ?_))));refine wp 1 (gy 12 (bi a0 fun a9 a6 a0 => wc ent73 a1 (K_L_header_many a6 (hG.hp0 a1)) fun b0 a7 => wp 2 (wl (ql ?_))));obtain rfl := oi a0;exact je a7.kp
 refine wp 4 (wl (ql ?_));obtain rfl := oi a0;exact je a1.kp
 intro b1 G a8;refine ct ?_;obtain rfl := oi hr;exact rv a8.kp
theorem aik {fu : Nat} {a1 : UInt8} {w : World} {r : Bool} (hr : acx fu a1 = some r) (hG : Gl w) : CR prog 118 [(bt a1)] w fun v w' => v = (Vb r) /\ Hp w [] [] w' := by
 have hH := Hp.refl w;refine enter (k := 9) func118 rfl rfl nbe ?_;unfold acx at hr;refine sr (wp 1 (nq (bi hr fun v5 a0 hr => cut0 hH [2] [(2, (Vb v5))] ?_ ?_)));refine cr (wp 1 (abh a1 (32 : UInt8) krf krf (wd a0 (fun h6 a0 => ?_) (fun h6 a0 => ?_))));refine wp 4 (wl (ql ?_));obtain rfl := oi a0;exact je hH.kp
 refine wp 1 (gy 5 (abh a1 (9 : UInt8) krf krf (wp 2 (wl (ql ?_)))));obtain rfl := oi a0;exact je hH.kp
 intro w7 G a2;refine ct ?_;obtain rfl := oi hr;exact rv a2.kp
open List renaming drop -> zaE, length_take -> zac
theorem ent83:Wk.Enters prog 83:=⟨f83,_,func83,rfl,krf⟩
theorem ent107:Wk.Enters prog 107:=⟨f107,_,func107,rfl,krf⟩
theorem ent118:Wk.Enters prog 118:=⟨f118,_,func118,rfl,krf⟩
theorem ent123:Wk.Enters prog 123:=⟨f123,_,func123,rfl,krf⟩
theorem ent142:Wk.Enters prog 142:=⟨f142,_,func142,rfl,krf⟩
theorem ent143:Wk.Enters prog 143:=⟨f143,_,func143,rfl,krf⟩
theorem ent144:Wk.Enters prog 144:=⟨f144,_,func144,rfl,krf⟩
theorem ent151:Wk.Enters prog 151:=⟨f151,_,func151,rfl,krf⟩
theorem ent182:Wk.Enters prog 182:=⟨f182,_,func182,rfl,krf⟩
theorem K_L_lexis_char_escaped {fu : Nat} {a1 : UInt8} {w : World} {r : Bool} (hr : adg fu a1 = some r) (hG : Gl w) : CR prog 182 [(bt a1)] w fun v w' => v = (Vb r) /\ Hp w [] [] w' := by
 have hH := Hp.refl w;refine enter (k := 9) func182 rfl rfl nbe ?_;unfold adg at hr;refine sr (wp 1 (nq (bi hr fun v5 a0 hr => cut0 hH [2] [(2, (Vb v5))] ?_ ?_)));refine cr (wp 1 (aii a1 (32 : UInt8) krf krf (wd a0 (fun h6 a0 => ?_) (fun h6 a0 => ?_))));refine wp 1 (gy 5 (aih a1 (126 : UInt8) krf krf (wp 2 (wl (ql ?_)))));obtain rfl := oi a0;exact je hH.kp
 refine wp 4 (wl (ql ?_));obtain rfl := oi a0;exact je hH.kp
 intro w7 G a2;refine ct ?_;obtain rfl := oi hr;exact rv a2.kp
theorem K_L_lexis_char_control {fu : Nat} {a1 : UInt8} {w : World} {r : Bool} (hr : adh fu a1 = some r) (hG : Gl w) : CR prog 151 [(bt a1)] w fun v w' => v = (Vb r) /\ Hp w [] [] w' := by
 have hH := Hp.refl w;refine enter (k := 13) func151 rfl rfl nbe ?_;unfold adh at hr;refine sr (wp 1 (nq (bi hr fun v6 a0 hr => cut0 hH [2] [(2, (Vb v6))] ?_ ?_)));refine cr (wp 1 (w8_lss a1 (32 : UInt8) krf krf (wd a0 (fun h7 a0 => ?_) (fun h7 a0 => ?_))));refine wp 1 (gy 5 (w8_neq a1 (9 : UInt8) krf krf (wp 1 (wn a0 (fun h8 a0 => ?_) (fun h8 a0 => ?_)))));refine wp 4 (wl (ql ?_));obtain rfl := oi a0;exact je hH.kp
 refine wp 1 (gy 9 (abh a1 (127 : UInt8) krf krf (wp 2 (wl (ql ?_)))));obtain rfl := oi a0;exact je hH.kp
 refine wp 5 (gy 9 (abh a1 (127 : UInt8) krf krf (wp 2 (wl (ql ?_)))));obtain rfl := oi a0;exact je hH.kp
 intro w9 G a2;refine ct ?_;obtain rfl := oi hr;exact rv a2.kp
theorem K_L_lexis_Unquote {fu : Nat} {a2 : Str} {b1 : Int} {w : World} {r : (Str × Int × UInt8)} (hr : afv fu a2 b1 = some r) (hG : Gl w) : CR prog 142 [(str a2), (Vi .i64 b1)] w fun v w' => v = (Value.tuple #[(str r.1), (Vi .i64 r.2.1), (bt r.2.2)]) /\ Hp w [] [] w' := by
 have hH := Hp.refl w;refine enter (k := 82) func142 rfl rfl nbe ?_;unfold afv at hr;refine sr (wp 3 (nq (c_scope (cs (bi hr fun v5 b2 hr => cut0 hH [0, 1, 4, 5, 6, 17] [(17, (Vb v5))] ?_ ?_)))));refine cr (wp 2 (wd b2 (fun h6 b2 => ?_) (fun h6 b2 => ?_)));refine wp 5 (wl (ql ?_));obtain rfl := oi b2;exact je hH.kp
 refine wp 5 (wl (ql ?_));obtain rfl := oi b2;exact je hH.kp
 intro w7 G b5;refine cb hr (fun h9 hr => ?_) (fun h9 hr => ?_);refine sr (wp 3 (nq (ct (st (n_ret ?_)))));obtain rfl := oi hr;exact rv b5.kp
 refine ck (qn (cs (bi hr fun d4 a8 hr => cut0 b5 [0, 1, 4, 5, 6, 27] [(27, (Vb d4))] ?_ ?_)));refine cr (wp 4 (wd a8 (fun d5 a8 => ?_) (fun d5 a8 => ?_)));refine wp 5 (wl (ql ?_));obtain rfl := oi a8;exact je b5.kp
 refine wp 2 (gy 22 (gi a8 fun d6 a8 => aha a2 .i64 b1 underlying9 krf krf d6 (gy 22 (w8_neq (at_ a2 b1) (34 : UInt8) krf krf (wp 1 (wl (ql ?_)))))));obtain rfl := oi a8;exact je b5.kp
 intro g4 G c2;refine cb hr (fun d7 hr => ?_) (fun d7 hr => ?_);refine sr (wp 4 (nq (ct (st (n_ret ?_)))));obtain rfl := oi hr;exact rv c2.kp
 refine ck (qn (sr (wp 1 (nq (sr (wp 1 ?_))))));refine gi hr fun d8 hr => aar b1 (1 : Int) krf krf d8 (wp 1 (nq (cs (c_label (qn (bi hr fun c3 d9 hr => cut (σ := ((List UInt8) × Int) × (Option Nat) × (Option Addr) × Nat) [0, 4, 5, 6, 7, 8] (fun ⟨a4, b6, b3, b4⟩ => [(7, (Vs b3 a4.1.length b4)), (8, (Vi .i64 a4.2))]) (fun ⟨a4, b6, b3, b4⟩ w' => Hp w [] [rwt eB 5 1 b6 b3 b4 a4.1] w' /\ .inl a4 = c3) ?_ ?_))))))
 refine ce (lpG (σ := Nat × (List UInt8) × Int × (Option Nat) × (Option Addr) × Nat) [0, 4, 5, 6, 7, 8] (fun ⟨a9, a3, a1, a7, a5, a6⟩ => [(7, (Vs a5 a3.length a6)), (8, (Vi .i64 a1))]) (fun ⟨a9, a3, a1, a7, a5, a6⟩ w' => Hp w [] [rwt eB 5 1 a7 a5 a6 a3] w' /\ ads fu a2 a9 a3 a1 = some c3) (fun ⟨a9, a3, a1, a7, a5, a6⟩ => a9) (fu, ([] : List UInt8), b1 + (1 : Int), none, none, 0) (by exact ⟨(Hp.nilrw c2 eB 5 1 none).kp, d9⟩) ?_ (mc krf (mc krf (mc krf (mc krf (mc (Eq.trans (b := (Vs none 0 0)) krf (aah lsy)) (mc krf rfl)))))));rintro ⟨_ | a9, a3, a1, a7, a5, a6⟩ g5 G ⟨b0, a0⟩
 · exact nzz a0
 rw [aeg, acj] at a0;refine cs (sr (wp 4 (nq (cd a0 (fun e0 a0 => ?_) (fun e0 a0 => ?_)))));refine ck (qn (ce (sr (wp 2 (gi a0 fun e1 a0 => aha a2 .i64 a1 underlying9 krf krf e1 (wp 1 (wl ?_)))))));refine qn (cs (ce (sr (wp 1 (abh (at_ a2 a1) (34 : UInt8) krf krf (wp 1 (nq (cd a0 (fun e2 a0 => ?_) (fun e2 a0 => ?_)))))))));refine adz (b_past krf (aej (b_past krf (afq (aek (ql ?_))))));obtain rfl := oi a0;exact ⟨((a3, a1), a7, a5, a6), _, rfl, by kernel_rfl, b0.kp, rfl⟩
 refine sr (wp 1 (abh (at_ a2 a1) (92 : UInt8) krf krf (wp 1 (nq (cd a0 (fun e3 a0 => ?_) (fun e3 a0 => ?_))))));refine cs (sr (wp 1 (gi a0 fun e4 a0 => aar a1 (1 : Int) krf krf e4 (wp 3 (nq (cd a0 (fun e5 a0 => ?_) (fun e5 a0 => ?_)))))));refine sr (wp 5 (nq (ct (st (bt_ (st (bt_ ?_)))))));refine acm (bt_ (acm ?_));obtain rfl := oi a0;refine n_ret ?_;obtain rfl := oi hr;exact rv b0.kp
 refine ck (qn (cs (sr (wp 2 (gi a0 fun e6 a0 => aar a1 (1 : Int) krf krf e6 (gi a0 fun e7 a0 => aha a2 .i64 (a1 + (1 : Int)) underlying9 krf krf e7 ?_))))));refine bi a0 fun g6 e8 a0 => wc ent182 b0 (K_L_lexis_char_escaped e8 (hG.hp0 b0)) fun g7 c4 => wp 1 (nq (cb a0 (fun e9 a0 => ?_) (fun e9 a0 => ?_)))
 refine sr (wp 4 (nq (ct (st (bt_ (st (bt_ ?_)))))));refine acm (bt_ (acm ?_));obtain rfl := oi a0;refine n_ret ?_;obtain rfl := oi hr;exact rv c4.kp
 refine ck (qn (cr (wp 1 (gi a0 fun f0 a0 => aar a1 (1 : Int) krf krf f0 (wp 1 (wl (bn (qn ?_))))))));refine sr (wp 3 (gi a0 fun f1 a0 => aha a2 .i64 (a1 + (1 : Int)) underlying9 krf krf f1 (afl c4 [(bt (at_ a2 (a1 + (1 : Int))))] 5 (fun b => (Vs (some ⟨b, 0, none⟩) 1 1)) rfl rfl krf fun b7 g8 c5 => gi a0 fun f2 a0 => agj c5 1 a7 a5 (some ⟨b7, 0, none⟩) a6 1 5 1 1 a3 ([at_ a2 (a1 + (1 : Int))] : List UInt8) agp rfl underlying23 (by unfold TI; kernel_rfl) (by decide) (by decide) krf (Eq.trans (b := (Vs (some ⟨b7, 0, none⟩) 1 1)) krf (aah (by first | rfl | (simp; done) | omega | (simp; omega) | (rw [zac]; omega)))) (c5.rdblk 0 rfl) f2 fun c6 c7 c8 f3 b8 => ?_)));replace b8 : Hp w [] [blk b7 [(bt (at_ a2 (a1 + (1 : Int))))] 5, rwt eB 5 1 c6 c7 c8 (a3 ++ ([at_ a2 (a1 + (1 : Int))] : List UInt8))] f3 := b8;refine wp 1 (nq (cr (wp 1 (gi a0 fun f4 a0 => aar (a1 + (1 : Int)) (1 : Int) krf krf f4 (wp 1 (wl (bn ?_)))))));refine ql ?_;exact ⟨(a9, a3 ++ ([at_ a2 (a1 + (1 : Int))] : List UInt8), (a1 + (1 : Int)) + (1 : Int), c6, c7, c8), _, rfl, by kernel_rfl, ⟨(Hp.front b8 1 _ rfl).kp, a0⟩, zad _⟩
 refine sr (wp 1 (bi a0 fun g9 f5 a0 => wc ent151 b0 (K_L_lexis_char_control f5 (hG.hp0 b0)) fun h0 c9 => wp 1 (nq (cb a0 (fun f6 a0 => ?_) (fun f6 a0 => ?_)))));refine sr (wp 4 (nq (ct (bt_ (st (bt_ (acm ?_)))))));refine bt_ (acm ?_);obtain rfl := oi a0;refine n_ret ?_;obtain rfl := oi hr;exact rv c9.kp
 refine ck (bn (qn (sr (wp 3 (gi a0 fun f7 a0 => aha a2 .i64 a1 underlying9 krf krf f7 (afl c9 [(bt (at_ a2 a1))] 5 (fun b => (Vs (some ⟨b, 0, none⟩) 1 1)) rfl rfl krf fun b9 h1 d0 => gi a0 fun f8 a0 => ?_))))));refine agj d0 1 a7 a5 (some ⟨b9, 0, none⟩) a6 1 5 1 1 a3 ([at_ a2 a1] : List UInt8) agp rfl underlying23 (by unfold TI; kernel_rfl) (by decide) (by decide) krf (Eq.trans (b := (Vs (some ⟨b9, 0, none⟩) 1 1)) krf (aah (by first | rfl | (simp; done) | omega | (simp; omega) | (rw [zac]; omega)))) (d0.rdblk 0 rfl) f8 fun d1 d2 d3 f9 c0 => ?_
 replace c0 : Hp w [] [blk b9 [(bt (at_ a2 a1))] 5, rwt eB 5 1 d1 d2 d3 (a3 ++ ([at_ a2 a1] : List UInt8))] f9 := c0;refine wp 1 (nq (cr (wp 1 (gi a0 fun g0 a0 => aar a1 (1 : Int) krf krf g0 (wp 1 (wl (bn ?_)))))));refine ql ?_;exact ⟨(a9, a3 ++ ([at_ a2 a1] : List UInt8), a1 + (1 : Int), d1, d2, d3), _, rfl, by kernel_rfl, ⟨(Hp.front c0 1 _ rfl).kp, a0⟩, zad _⟩
 refine adz (aej (afq (aek (ql ?_))));obtain rfl := oi a0;exact ⟨((a3, a1), a7, a5, a6), _, rfl, by kernel_rfl, b0.kp, rfl⟩
 rintro ⟨a4, b6, b3, b4⟩ g1 G ⟨c1, rfl⟩
 refine cs (sr (wp 4 (nq (cd hr (fun g2 hr => ?_) (fun g2 hr => ?_)))));refine sr (wp 5 (nq (ct (st (n_ret ?_)))));obtain rfl := oi hr;exact rv c1.kp
 refine ck (qn (sr (wp 1 (abn (v := (str a4.1)) (w' := g1) rfl rfl (ajm a4.1 b3 a4.1.length b4 5 (Rd.bytes (c1.rdrw 0 rfl)) (by first | rfl | (simp; done) | omega | (simp; omega) | (rw [zac]; omega)) underlying23 underlying9 underlying5 krf) (wp 1 (gi hr fun g3 hr => aar a4.2 (1 : Int) krf krf g3 (wp 3 ?_)))))));refine nq (ct (n_ret ?_));obtain rfl := oi hr;exact rv c1.kp
theorem ahz {fu : Nat} {a3 : Str} {a4 : Int} {w : World} {r : Int} (hr : acd fu a3 a4 = some r) (hG : Gl w) : CR prog 110 [(str a3), (Vi .i64 a4), (zbi (.func 118) #[] #[])] w fun v w' => v = (Vi .i64 r) /\ Hp w [] [] w' := by
 have hH := Hp.refl w;refine enter (k := 26) func110 rfl rfl nbe ?_;unfold acd at hr;refine sr (wp 1 (nq (sr (wp 1 (w_max .i64 a4 (0 : Int) krf krf (wp 2 ?_))))));refine w_min .i64 (max a4 (0 : Int)) (a3.length : Int) krf krf (wp 1 (nq (bi hr fun a8 a9 hr => cut0 hH [1, 6] [(1, (Vi .i64 a8))] ?_ ?_)));refine ce (lpS (fun a6 a2 => abe fu a3 a6 a2) (min (max a4 (0 : Int)) (a3.length : Int)) hH a9 [0, 1, 2, 6] (fun a2 => [(1, (Vi .i64 a2))]) (fun _ => rfl) ?_);rintro a6 a2 b8 G a5 a0
 rw [abq, aas] at a0;refine cs (bi a0 fun b0 a1 a0 => cut0 a5 [0, 1, 2, 6, 22] [(22, (Vb b0))] ?_ ?_);refine cr (wp 4 (wd a1 (fun b1 a1 => ?_) (fun b1 a1 => ?_)));refine wp 3 (gy 16 (gi a1 fun b2 a1 => aha a3 .i64 a2 underlying9 krf krf b2 (gy 16 (bi a1 fun b9 b3 a1 => wc ent118 a5 (aik b3 (hG.hp0 a5)) fun c0 b4 => wp 1 (wl (ql ?_))))));obtain rfl := oi a1;exact je b4.kp
 refine wp 6 (wl (ql ?_));obtain rfl := oi a1;exact je a5.kp
 intro c1 G a7;refine cb a0 (fun b5 a0 => ?_) (fun b5 a0 => ?_);refine ck (qn (ce (cr (wp 1 (gi a0 fun b6 a0 => aar a2 (1 : Int) krf krf b6 (wp 1 (wl (bn ?_))))))));exact ql (le' (a2 + (1 : Int)) a7.kp a0)
 refine adz (aej (afq (aek (ql ?_))));obtain rfl := oi a0;exact je a7.kp
 intro c2 G b7;refine sr (wp 2 (nq (ct ?_)));obtain rfl := oi hr;exact rv b7.kp
theorem K_L_lexis_Blanks {fu : Nat} {a0 : Str} {a1 : Int} {w : World} {r : Int} (hr : agm fu a0 a1 = some r) (hG : Gl w) : CR prog 83 [(str a0), (Vi .i64 a1)] w fun v w' => v = (Vi .i64 r) /\ Hp w [] [] w' := by
 have hH := Hp.refl w;refine enter (k := 8) func83 rfl rfl nbe ?_;unfold agm at hr;refine sr (wp 1 (nq (sr (wp 2 (bi hr fun y1 a2 hr => wc ent110 hH (ahz a2 (hG.hp0 hH)) fun w3 a3 => ?_)))));refine wp 1 (nq (ct ?_));obtain rfl := oi hr;exact rv a3.kp
theorem K_L_lexis_piece {fu : Nat} {a1 : Str} {a2 : Int} {a0 : Int} {w : World} {r : (Int × Str)} (hr : agc fu a1 a2 a0 = some r) (hG : Gl w) : CR prog 144 [(str a1), (Vi .i64 a2), (Vi .i64 a0)] w fun v w' => v = (zan #[(Vi .i64 r.1), (str r.2)]) /\ Hp w [] [] w' := by
 have hH := Hp.refl w;refine enter (k := 20) func144 rfl rfl nbe ?_;unfold agc at hr;refine sr (afl hH [(Vi .i64 (0 : Int)), (str ([] : Str))] 140 (fun b => (Vp (some ⟨b, 0, none⟩))) rfl rfl krf fun b1 w2 a3 => nq (sr (wp 2 (bi hr fun y4 a6 hr => wc ent83 a3 (K_L_lexis_Blanks a6 (hG.hp0 a3)) fun w6 a7 => ?_))));refine wp 1 (w_min .i64 y4 a0 krf krf (wp 1 (nq (sr (wp 4 (gi hr fun g9 hr => w_slice a1 .i64 .i64 (min y4 a0) a0 underlying9 krf krf krf g9 ?_))))));refine gi hr fun a8 hr => gi hr fun a9 hr => abo 123 #[] [(str (sub a1 (min y4 a0) a0)), (str ([32, 9] : Str))] _ ent123 krf krf (sh_TrimRight (sub a1 (min y4 a0) a0) ([32, 9] : Str) w6 a8 a9) ?_
 rintro _ b2 ⟨rfl, a4⟩
 have b0 := a7.call a4; clear a4;refine wp 1 (ahw b0 0 b1 0 [(Vi .i64 (0 : Int)), (str ([] : Str))] [(Vi .i64 (min y4 a0)), (str (Lib.trimRightS (sub a1 (min y4 a0) a0) ([32, 9] : Str)))] 140 [blk b1 [(Vi .i64 (min y4 a0)), (str (Lib.trimRightS (sub a1 (min y4 a0) a0) ([32, 9] : Str)))] 140] rfl nbe krf krf rfl krf rfl fun b3 a5 => nq (ct ?_));obtain rfl := oi hr;refine r_res _ [(zan #[(Vi .i64 (min y4 a0)), (str (Lib.trimRightS (sub a1 (min y4 a0) a0) ([32, 9] : Str)))])] (zan #[(Vi .i64 (min y4 a0)), (str (Lib.trimRightS (sub a1 (min y4 a0) a0) ([32, 9] : Str)))]) rfl rfl (aix (rok_agg a5 0 b1 140 [(Vi .i64 (min y4 a0)), (str (Lib.trimRightS (sub a1 (min y4 a0) a0) ([32, 9] : Str)))] rfl krf krf krf) rok_nil) rfl ?_;exact ⟨(by first | rfl | (simp; done) | (simp; omega) | exact aah (by rw [zac]; omega)), a5.kp⟩
theorem K_L_lexis_Split {fu : Nat} {a3 : Str} {b3 : UInt8} {w : World} {r : ((List (Int × Str)) × Int × UInt8)} (hr : aho fu a3 b3 = some r) (hG : Gl w) : CR prog 107 [(str a3), (bt b3)] w fun v w' => ∃ (o0 : Option Nat), ∃ (a0 : Option Addr), ∃ (cap0 : Nat), v = (Value.tuple #[(Vs a0 r.1.length cap0), (Vi .i64 r.2.1), (bt r.2.2)]) /\ Hp w [] [rwt afu 140 2 o0 a0 cap0 r.1] w' := by
 have hH := Hp.refl w;refine enter (k := 89) func107 rfl rfl nbe ?_;unfold aho at hr;refine sr (wp 3 (nq (cs (bi hr fun d9 a4 hr => cut0 hH [0, 1, 4, 5, 6, 27] [(27, (Vb d9))] ?_ ?_))));refine cr (wp 1 (bi a4 fun g9 e0 a4 => wc ent118 hH (aik e0 (hG.hp0 hH)) fun h0 b8 => wb a4 (fun e1 a4 => ?_) (fun e1 a4 => ?_)));refine wp 11 (wl (ql ?_));obtain rfl := oi a4;exact je b8.kp
 refine wp 1 (gy 16 (abh b3 (34 : UInt8) krf krf (wp 1 (wd a4 (fun e2 a4 => ?_) (fun e2 a4 => ?_)))));refine wp 7 (wl (ql ?_));obtain rfl := oi a4;exact je b8.kp
 refine wp 1 (gy 20 (abh b3 (60 : UInt8) krf krf (wp 1 (wd a4 (fun e3 a4 => ?_) (fun e3 a4 => ?_)))));refine wp 3 (wl (ql ?_));obtain rfl := oi a4;exact je b8.kp
 refine wp 1 (gy 24 (abh b3 (62 : UInt8) krf krf (wp 1 (wl (ql ?_)))));obtain rfl := oi a4;exact je b8.kp
 intro h1 G c7;refine cb hr (fun e4 hr => ?_) (fun e4 hr => ?_);refine sr (wp 3 (nq (ct (st ?_))));obtain rfl := oi hr;refine r_three (Vs none 0 0) (Vi .i64 (0 : Int)) (bt (2 : UInt8)) rfl krf krf krf ?_;exact ⟨none, none, 0, (by first | rfl | (simp; done) | (simp; omega) | exact aah (by rw [zac]; omega)), (Hp.nilrw c7 afu 140 2 none).kp⟩
 refine ck (qn (sr (wp 1 (nq (sr (wp 1 ?_))))));refine nq (bi hr fun c8 e5 hr => cut (σ := ((List (Int × Str)) × Int) × (Option Nat) × (Option Addr) × Nat) [0, 4, 5, 6, 7, 8] (fun ⟨a8, b9, b6, b7⟩ => [(7, (Vs b6 a8.1.length b7)), (8, (Vi .i64 a8.2))]) (fun ⟨a8, b9, b6, b7⟩ w' => Hp w [] [rwt afu 140 2 b9 b6 b7 a8.1] w' /\ .inl a8 = c8) ?_ ?_);refine sr (wp 1 (nq (ce (lpG (σ := Nat × (List (Int × Str)) × Int × Int × (Option Nat) × (Option Addr) × Nat) [0, 1, 4, 5, 6, 7, 8, 9] (fun ⟨a9, a5, b0, a2, b1, a6, a7⟩ => [(7, (Vs a6 a5.length a7)), (8, (Vi .i64 b0)), (9, (Vi .i64 a2))]) (fun ⟨a9, a5, b0, a2, b1, a6, a7⟩ w' => Hp w [] [rwt afu 140 2 b1 a6 a7 a5] w' /\ adn fu a3 b3 a9 a5 b0 a2 = some c8) (fun ⟨a9, a5, b0, a2, b1, a6, a7⟩ => a9) (fu, ([] : List (Int × Str)), (0 : Int), (0 : Int), none, none, 0) (by exact ⟨(Hp.nilrw c7 afu 140 2 none).kp, e5⟩) ?_ (mc krf (mc krf (mc krf (mc krf (mc krf (mc (Eq.trans (b := (Vs none 0 0)) krf (aah lsy)) (mc krf (mc krf rfl))))))))))));rintro ⟨_ | a9, a5, b0, a2, b1, a6, a7⟩ e6 G ⟨b2, a1⟩
 · exact nzz a1
 rw [afc, acy] at a1;refine cs (sr (wp 4 (nq (cd a1 (fun e7 a1 => ?_) (fun e7 a1 => ?_)))));refine ck (qn (ce (sr (wp 2 (gi a1 fun e8 a1 => aha a3 .i64 a2 underlying9 krf krf e8 (nq ?_))))));refine ce (sr (abh (at_ a3 a2) (34 : UInt8) krf krf (wp 1 (nq (cd a1 (fun e9 a1 => ?_) (fun e9 a1 => ?_))))));refine sr (wp 2 (bi a1 fun c0 f0 a1 => wc ent142 b2 (K_L_lexis_Unquote f0 (hG.hp0 b2)) fun h2 c9 => wp 7 (nq (cs (cs ?_)))));refine cr (wp 1 (w8_neq c0.2.2 (0 : UInt8) krf krf (nq (cn a1 (fun f1 a1 => ?_) (fun f1 a1 => ?_)))));refine sr (wp 5 (nq (ct (st (bt_ (bt_ (acm ?_)))))));refine bt_ (acm ?_);obtain rfl := oi a1;obtain rfl := oi hr;refine r_three (Vs none 0 0) (Vi .i64 c0.2.1) (bt c0.2.2) rfl krf krf krf ?_;exact ⟨none, none, 0, (by first | rfl | (simp; done) | (simp; omega) | exact aah (by rw [zac]; omega)), (Hp.nilrw c9 afu 140 2 none).kp⟩
 refine ck (qn (cr (wp 2 (wl (bn (bn (ql ?_)))))));exact ⟨(a9, a5, b0, c0.2.1, b1, a6, a7), _, rfl, by kernel_rfl, ⟨c9.kp, a1⟩, zad _⟩
 refine sr (abh (at_ a3 a2) (60 : UInt8) krf krf (wp 1 (nq (cd a1 (fun f2 a1 => ?_) (fun f2 a1 => ?_)))));refine sr (wp 2 (gi a1 fun f3 a1 => w_slice_from a3 .i64 a2 underlying9 krf krf f3 (abo 143 #[] [(str (zaE (zah a2) a3)), (bt (62 : UInt8))] _ ent143 krf krf (sh_IndexByte (zaE (zah a2) a3) (62 : UInt8) e6) ?_)));rintro _ h3 ⟨rfl, d0⟩
 have d1 := b2.call d0; clear d0;refine wp 1 (nq (cs (sr (wp 2 (nq (cd a1 (fun f4 a1 => ?_) (fun f4 a1 => ?_)))))));refine sr (wp 5 (nq (ct (st (bt_ (bt_ (acm ?_)))))));refine bt_ (acm ?_);obtain rfl := oi a1;obtain rfl := oi hr;refine r_three (Vs none 0 0) (Vi .i64 (a3.length : Int)) (bt (6 : UInt8)) rfl krf krf krf ?_;exact ⟨none, none, 0, (by first | rfl | (simp; done) | (simp; omega) | exact aah (by rw [zac]; omega)), (Hp.nilrw d1 afu 140 2 none).kp⟩
 refine ck (qn (cr (wp 2 (gi a1 fun f5 a1 => aar (ixb (· == (62 : UInt8)) (zaE (zah a2) a3)) (1 : Int) krf krf f5 (gi a1 fun f6 a1 => aar a2 ((ixb (· == (62 : UInt8)) (zaE (zah a2) a3)) + (1 : Int)) krf krf f6 (wp 1 (wl ?_)))))));refine bn (bn (ql ?_));exact ⟨(a9, a5, b0, a2 + ((ixb (· == (62 : UInt8)) (zaE (zah a2) a3)) + (1 : Int)), b1, a6, a7), _, rfl, by kernel_rfl, ⟨d1.kp, a1⟩, zad _⟩
 refine sr (abh (at_ a3 a2) (62 : UInt8) krf krf (wp 1 (nq (cd a1 (fun f7 a1 => ?_) (fun f7 a1 => ?_)))));refine sr (wp 4 (nq (ct (bt_ (bt_ (acm (bt_ ?_)))))));refine acm ?_;obtain rfl := oi a1;obtain rfl := oi hr;refine r_three (Vs none 0 0) (Vi .i64 a2) (bt (5 : UInt8)) rfl krf krf krf ?_;exact ⟨none, none, 0, (by first | rfl | (simp; done) | (simp; omega) | exact aah (by rw [zac]; omega)), (Hp.nilrw b2 afu 140 2 none).kp⟩
 refine sr (wp 1 (abh (at_ a3 a2) b3 krf krf (wp 1 (nq (cd a1 (fun f8 a1 => ?_) (fun f8 a1 => ?_))))));refine sr (wp 4 (bi a1 fun b4 f9 a1 => wc ent144 b2 (K_L_lexis_piece f9 (hG.hp0 b2)) fun h4 g0 => afl g0 [(Vi .i64 b4.1), (str b4.2)] 140 (fun b => (Vs (some ⟨b, 0, none⟩) 1 1)) rfl rfl krf fun c1 h5 d2 => gi a1 fun g1 a1 => agj d2 1 b1 a6 (some ⟨c1, 0, none⟩) a7 1 140 2 24 a5 ([b4] : List (Int × Str)) aju rfl underlying136 (by unfold TI; kernel_rfl) (by decide) (by decide) krf (Eq.trans (b := (Vs (some ⟨c1, 0, none⟩) 1 1)) krf (aah (by first | rfl | (simp; done) | omega | (simp; omega) | (rw [zac]; omega)))) (d2.rdblk 0 rfl) g1 fun d3 d4 d5 g2 c2 => ?_));replace c2 : Hp w [] [blk c1 [(Vi .i64 b4.1), (str b4.2)] 140, rwt afu 140 2 d3 d4 d5 (a5 ++ ([b4] : List (Int × Str)))] g2 := c2;refine wp 1 (nq (sr (wp 1 (gi a1 fun g3 a1 => aar a2 (1 : Int) krf krf g3 (wp 1 (wl ?_))))));refine qn (cr (wp 2 (wl (bn (bn (ql ?_))))));exact ⟨(a9, a5 ++ ([b4] : List (Int × Str)), a2 + (1 : Int), a2 + (1 : Int), d3, d4, d5), _, rfl, by kernel_rfl, ⟨(Hp.front c2 1 _ rfl).kp, a1⟩, zad _⟩
 refine cr (wp 1 (gi a1 fun g4 a1 => aar a2 (1 : Int) krf krf g4 (wp 1 (wl (bn (bn (ql ?_)))))));exact ⟨(a9, a5, b0, a2 + (1 : Int), b1, a6, a7), _, rfl, by kernel_rfl, ⟨b2.kp, a1⟩, zad _⟩
 refine adz (aej (afq (aek (ql ?_))));obtain rfl := oi a1;exact ⟨((a5, b0), b1, a6, a7), _, rfl, by kernel_rfl, b2.kp, rfl⟩
 rintro ⟨a8, b9, b6, b7⟩ h6 G ⟨d6, rfl⟩
 refine sr (wp 5 (bi hr fun b5 g5 hr => wc ent144 d6 (K_L_lexis_piece g5 (hG.hp0 d6)) fun h7 g6 => afl g6 [(Vi .i64 b5.1), (str b5.2)] 140 (fun b => (Vs (some ⟨b, 0, none⟩) 1 1)) rfl rfl krf fun c3 h8 d7 => gi hr fun g7 hr => agj d7 1 b9 b6 (some ⟨c3, 0, none⟩) b7 1 140 2 24 a8.1 ([b5] : List (Int × Str)) aju rfl underlying136 (by unfold TI; kernel_rfl) (by decide) (by decide) krf (Eq.trans (b := (Vs (some ⟨c3, 0, none⟩) 1 1)) krf (aah (by first | rfl | (simp; done) | omega | (simp; omega) | (rw [zac]; omega)))) (d7.rdblk 0 rfl) g7 fun d8 c4 c5 g8 c6 => ?_));replace c6 : Hp w [] [blk c3 [(Vi .i64 b5.1), (str b5.2)] 140, rwt afu 140 2 d8 c4 c5 (a8.1 ++ ([b5] : List (Int × Str)))] g8 := c6;refine wp 3 (nq (ct ?_));obtain rfl := oi hr;refine r_three (Vs c4 ((a8.1 ++ ([b5] : List (Int × Str))).length) c5) (Vi .i64 (0 : Int)) (bt (0 : UInt8)) rfl krf krf krf ?_;exact ⟨d8, c4, c5, (by first | rfl | (simp; done) | (simp; omega) | exact aah (by rw [zac]; omega)), (Hp.front c6 1 _ rfl).kp⟩
theorem K_L_header_List {fu : Nat} {b6 : Str} {w : World} {r : ((List Str) × UInt8)} (hr : ahq fu b6 = some r) (hG : Gl w) : CR prog 74 [(str b6)] w fun v w' => ∃ (o0 : Option Nat), ∃ (a0 : Option Addr), ∃ (cap0 : Nat), v = (Value.tuple #[(Vs a0 r.1.length cap0), (bt r.2)]) /\ Hp w [] [rwt eS 9 1 o0 a0 cap0 r.1] w' := by
 have hH := Hp.refl w;refine enter (k := 35) func74 rfl rfl nbe ?_;unfold ahq at hr;refine sr (wp 2 (nq (sr (wp 1 (bi hr fun y1 c6 hr => abo 107 #[] [(str b6), (bt (44 : UInt8))] _ ent107 krf krf (K_L_lexis_Split c6 (hG.hp0 hH)) ?_)))));rintro _ w3 ⟨o6, a7, cap8, rfl, b9⟩
 have c0 : Hp w [] [rwt afu 140 2 o6 a7 cap8 y1.1] w3 := Hp.callK (L1 := []) (L2 := []) hH b9; clear b9;refine wp 7 (nq (cs (sr (wp 1 (w8_neq y1.2.2 (0 : UInt8) krf krf (nq (cn hr (fun h9 hr => ?_) (fun h9 hr => ?_))))))));refine sr (wp 3 (nq (ct (st ?_))));obtain rfl := oi hr;refine r_two (Vs none 0 0) (bt y1.2.2) rfl krf krf ?_;exact ⟨none, none, 0, (by first | rfl | (simp; done) | (simp; omega) | exact aah (by rw [zac]; omega)), (Hp.nilrw c0 eS 9 1 none).kp⟩
 refine ck (qn (sr (wp 1 (nq (bi hr fun c1 c7 hr => cut (σ := (List Str) × (Option Nat) × (Option Addr) × Nat) [2, 3, 7] (fun ⟨a8, b3, a9, b0⟩ => [(7, (Vs a9 a8.length b0))]) (fun ⟨a8, b3, a9, b0⟩ w' => Hp w [] [rwt eS 9 1 b3 a9 b0 a8] w' /\ .inl a8 = c1) ?_ ?_)))));refine sr (wp 3 (nq (ce (lpG (σ := Nat × (List Str) × Int × (Option Nat) × (Option Addr) × Nat) [2, 3, 7, 19, 20, 21] (fun ⟨b1, a3, a1, a6, a4, a5⟩ => [(7, (Vs a4 a3.length a5)), (21, (Vi .i64 a1))]) (fun ⟨b1, a3, a1, a6, a4, a5⟩ w' => Hp w [] [rwt afu 140 2 o6 a7 cap8 y1.1, rwt eS 9 1 a6 a4 a5 a3] w' /\ ado fu y1 b1 a3 a1 = some c1) (fun ⟨b1, a3, a1, a6, a4, a5⟩ => b1) (fu, ([] : List Str), (0 : Int), none, none, 0) (by exact ⟨(Hp.front (Hp.nilrw c0 eS 9 1 none) 1 _ rfl).kp, c7⟩) ?_ (mc krf (mc krf (mc (Eq.trans (b := (Vs none 0 0)) krf (aah lsy)) (mc krf (mc krf (mc krf rfl))))))))));rintro ⟨_ | b1, a3, a1, a6, a4, a5⟩ d7 G ⟨b4, a2⟩
 · exact nzz a2
 rw [agt, aei] at a2;refine sr (wp 1 (nq (cs (cd a2 (fun c8 a2 => ?_) (fun c8 a2 => ?_)))));refine ck (qn (cs (ce (sr (gi a2 fun c9 a2 => agz a7 y1.1.length cap8 140 2 .i64 a1 underlying136 krf krf krf y1.1 rfl c9 (b4.rdrw 0 rfl) aju (by decide) (gi a2 fun d0 a2 => w_ldE a7 afu y1.1 2 a1 aju (b4.rdrw 0 rfl) [(Vi .i64 ((el y1.1 a1).1)), (str ((el y1.1 a1).2))] d0 krf krf krf krf (by decide) ?_))))));refine afl b4 [(Vi .i64 (0 : Int)), (str ([] : Str))] 140 (fun b => (Vp (some ⟨b, 0, none⟩))) rfl rfl krf fun b2 d8 d1 => ahw d1 0 b2 0 [(Vi .i64 (0 : Int)), (str ([] : Str))] [(Vi .i64 ((el y1.1 a1).1)), (str ((el y1.1 a1).2))] 140 [blk b2 [(Vi .i64 ((el y1.1 a1).1)), (str ((el y1.1 a1).2))] 140, rwt afu 140 2 o6 a7 cap8 y1.1, rwt eS 9 1 a6 a4 a5 a3] rfl nbe krf krf rfl krf rfl fun d9 b5 => nq (cs (sr (wp 1 (adw b5 0 b2 1 [(Vi .i64 ((el y1.1 a1).1)), (str ((el y1.1 a1).2))] 140 (str ((el y1.1 a1).2)) rfl rfl krf krf (wp 1 ?_)))))
 refine nq (cd a2 (fun d2 a2 => ?_) (fun d2 a2 => ?_));refine sr (wp 2 (nq (ct (st (bt_ (st (acm ?_)))))));refine bt_ (acm ?_);obtain rfl := oi a2;obtain rfl := oi hr;refine r_two (Vs none 0 0) (bt (5 : UInt8)) rfl krf krf ?_;exact ⟨none, none, 0, (by first | rfl | (simp; done) | (simp; omega) | exact aah (by rw [zac]; omega)), (Hp.nilrw b5 eS 9 1 none).kp⟩
 refine ck (qn (cr (wp 2 (adw b5 0 b2 1 [(Vi .i64 ((el y1.1 a1).1)), (str ((el y1.1 a1).2))] 140 (str ((el y1.1 a1).2)) rfl rfl krf krf (afl b5 [(str ((el y1.1 a1).2))] 9 (fun b => (Vs (some ⟨b, 0, none⟩) 1 1)) rfl rfl krf fun b7 e0 c2 => gi a2 fun d3 a2 => agj c2 3 a6 a4 (some ⟨b7, 0, none⟩) a5 1 9 1 16 a3 ([(el y1.1 a1).2] : List Str) ajv rfl underlying46 (by unfold TI; kernel_rfl) (by decide) (by decide) krf (Eq.trans (b := (Vs (some ⟨b7, 0, none⟩) 1 1)) krf (aah (by first | rfl | (simp; done) | omega | (simp; omega) | (rw [zac]; omega)))) (c2.rdblk 0 rfl) d3 fun c3 c4 c5 d4 b8 => ?_)))));replace b8 : Hp w [] [blk b7 [(str ((el y1.1 a1).2))] 9, blk b2 [(Vi .i64 ((el y1.1 a1).1)), (str ((el y1.1 a1).2))] 140, rwt afu 140 2 o6 a7 cap8 y1.1, rwt eS 9 1 c3 c4 c5 (a3 ++ ([(el y1.1 a1).2] : List Str))] d4 := b8;refine wp 1 (wl (bn (qn (cr (gi a2 fun d5 a2 => aar a1 (1 : Int) krf krf d5 (wp 1 (wl (ql ?_))))))));exact ⟨(b1, a3 ++ ([(el y1.1 a1).2] : List Str), a1 + (1 : Int), c3, c4, c5), _, rfl, by kernel_rfl, ⟨(Hp.front (Hp.front b8 3 _ rfl) 3 _ rfl).kp, a2⟩, zad _⟩
 refine adz (aej (afq (aek (ql ?_))));obtain rfl := oi a2;exact ⟨(a3, a6, a4, a5), _, rfl, by kernel_rfl, (Hp.front b4 1 _ rfl).kp, rfl⟩
 rintro ⟨a8, b3, a9, b0⟩ e1 G ⟨d6, rfl⟩
 refine sr (wp 3 (nq (ct ?_)));obtain rfl := oi hr;refine r_two (Vs a9 a8.length b0) (bt (0 : UInt8)) rfl krf krf ?_;exact ⟨b3, a9, b0, (by first | rfl | (simp; done) | (simp; omega) | exact aah (by rw [zac]; omega)), d6.kp⟩
end Go.Proofs
