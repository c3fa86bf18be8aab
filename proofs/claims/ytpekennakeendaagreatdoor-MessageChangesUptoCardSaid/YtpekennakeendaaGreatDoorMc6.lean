/-
  The law MessageChanges (second form) holds (part 6 of 8).
-/
import Derived.Test.YtpekennakeendaaGreatDoorMc5
import Derived.Test.YtpekennakeendaaGreatDoorRows
import Derived.ProofKit
import Derived.OpenShut
import Derived.Deep.DeepHandedRow
import Derived.Lib.LaidTab
import Derived.Shelf.Vars
import Derived.ChangeSame
import Derived.WalkKit
import Derived.SevenTiedAt
import Derived.Deep.Slices
import Derived.ReadAgain
import Derived.Shelf.Strings.Builder1
import Derived.Shelf.Strings.Builder2
import Derived.Shelf.Strings.OnBuilder
import Derived.Shelf.Strings.Trim
import Derived.Shelf.Small.Utf8
import Derived.Shelf.Small.Strs
import Derived.Shelf.Small.Wraps
import Derived.Shelf.Strings.BuilderF
import Derived.Shelf.Strings.BuilderK
import Derived.Shelf.Utf8.RuneCount
import Derived.Shelf.Strings.Builder2Cap
import Derived.Shelf.Strconv.Itoa0
import Derived.Shelf.Strconv.Itoa1
import Derived.Shelf.LaysM
import Derived.Shelf.Strconv.Itoa2
import Derived.Shelf.Strconv.Itoa3
import Derived.Shelf.Strings.Search1
import Derived.Shelf.Strings.Search2
import Derived.Shelf.Strings.Search3
import Derived.Shelf.Strings.Cut
import Derived.Shelf.Strings.Count
import Derived.Shelf.Strings.Shaped
import Derived.Shelf.Strings.LastIndex
import Derived.Shelf.Strings.Prefix
import Derived.Shelf.Strings.Split
import Derived.Shelf.Strings.Fold
import Derived.Shelf.Strings.SplitShaped
import Derived.Shelf.Unicode.Decode
import Derived.Shelf.Strings.Runes
import Derived.Shelf.Strings.RuneCount
import Derived.Shelf.Strings.IndexAny
import Derived.Shelf.Strings.AsciiSet
import Derived.Shelf.Strings.IndexAnyAll
import Derived.Shelf.Strings.Explode
import Derived.Shelf.Unicode.DecodeSlow
import Derived.Shelf.Unicode.DecodeAny
import Derived.Shelf.Unicode.DecodeLast
import Derived.Shelf.Unicode.CaseLookup
import Derived.Shelf.Unicode.CaseConvert
import Derived.Shelf.Strings.BuilderCap
import Derived.Shelf.Bytes.SlIndexSmall
import Derived.Shelf.Bytes.SlIndexAt
import Derived.Shelf.Bytes.SlSearch0
import Derived.Shelf.Bytes.SlSearch1
import Derived.Shelf.Bytes.SlSearch2
import Derived.Shelf.Bytes.SlIndexWhole
import Derived.Ground.SlbCloneProg
import Derived.Shelf.Bytes.SlClone
import Derived.Shelf.Bytes.SlEqualAll
import Derived.Ground.SlbtProg
import Derived.Shelf.Bytes.SlCut
import Derived.Ground.PaProg
import Derived.Shelf.Path.Small
import Derived.Shelf.Bytes.Small
import Derived.Shelf.Bytes.IndexByte
import Derived.Test.YtpekennakeendaaGreatDoorProg
import Derived.Shelf.Strings.SlTrimAscii
set_option linter.constructorNameAsVariable false
set_option linter.unusedVariables false
set_option linter.unusedSimpArgs false
set_option maxRecDepth 20000
namespace Go.Proofs
open Go.Wk Go.Px Go.RowKit
theorem lenOf{s:ByteArray}(h:s.size≤maxLen):s.data.toList.length≤9223372036854775807:=Nat.le_trans (by rw [Array.length_toList];exact h) (show maxLen≤9223372036854775807 by decide)
theorem laidAt{P:Program}{w:World}:∀{l:List (String×DataW Unit)} {ps:List MemPlace},DataW.LaidVars P w l ps→∀(i:Nat) {n:String} {d:DataW Unit},l[i]? =some (n,d)→
  ∃g t cs fuel p,P.globalNamed n=some g∧(P.globals[g]?).map (·.type)=some t∧w.var? P n=some cs∧DataW.trod (fun _=>()) P w 0 (fun _=>true) false fuel t cs.toList=some (d,p)
 |[],_,_,i,n,d,hi=>by simp at hi
 |(n',d')::l,ps,h,0,n,d,hi=>by
  obtain⟨g,t,cs,fuel,p,q,h1,h2,h3,h4,_,_⟩:=h;simp only [List.getElem?_cons_zero,Option.some.injEq,Prod.mk.injEq]at hi;obtain⟨rfl,rfl⟩:=hi;exact⟨g,t,cs,fuel,p,h1,h2,h3,h4⟩
 |(n',d')::l,ps,h,i+1,n,d,hi=>by
  obtain⟨g,t,cs,fuel,p,q,_,_,_,_,h5,_⟩:=h;exact laidAt h5 i (by simpa using hi)
theorem vrOf{P:Program}{w:World}{n:String}{g:Nat}{cs:Array Value}(hg:P.globalNamed n=some g)(h:w.var? P n=some cs):Vr w g cs.toList:=by
 simp only [World.var?,hg,Option.bind_some]at h;split at h
 ·rename_i cs' t f e;cases h
  exact⟨t,f,by rw [e]⟩
 ·cases h
theorem chunks{α:Type}{f:α→List Value}{sz:Nat}:∀(zs:List α) (cs:List Value),cs.length=zs.length*sz→(∀(i:Nat) (z:α),zs[i]? =some z→(cs.drop (i*sz)).take sz=f z)→cs=zs.flatMap f
 |[],cs,hl,_=>by simpa using hl
 |z::zs,cs,hl,h=>by
  have h0:=h 0 z rfl;simp only [Nat.zero_mul,List.drop_zero]at h0;have h1:=chunks (f:=f) (sz:=sz) zs (cs.drop sz) (by rw [List.length_drop,hl,List.length_cons,Nat.succ_mul];omega) (fun i z' hi=>by
   have:=h (i+1) z' (by simpa using hi)
   rw [List.drop_drop,Nat.add_comm,←Nat.succ_mul];exact this)
  rw [List.flatMap_cons,←h0,←h1,List.take_append_drop]
theorem arrCells{P:Program}{w:World}{fuel n sz:Nat}{t e:TypeId}{cs:List Value}{p:List MemPlace}{α:Type}{dz:α→DataW Unit}{f:α→List Value}(zs:List α)
  (ht:P.underlying t=some (.array n e)) (hce:P.cellsOf e=sz) (hct:P.cellsOf t=n*sz) (hz:zs.length=n)
  (hel:∀fuel cs' z p,DataW.trod (fun _=>()) P w 0 (fun _=>true) false fuel e cs'=some (dz z,p)→cs'=f z)
  (h:DataW.trod (fun _=>()) P w 0 (fun _=>true) false fuel t cs=some (.agg (zs.map dz),p)):cs=zs.flatMap f:=by
 cases fuel with
 |zero=>simp [DataW.trod]at h
 |succ fuel=>
  simp only [DataW.trod,ht,hce,hct]at h;split at h
  ·rename_i hl;obtain⟨xs,hm,hx⟩:=Option.map_eq_some_iff.1 h;have hxs:xs.map (·.1)=zs.map dz:=by
    have:=congrArg Prod.fst hx
    simpa using this
   refine chunks zs cs (by rw [hl,hz]) fun i z hi=> ?_
   have hi':i<n:=by rw [←hz];exact(List.getElem?_eq_some_iff.1 hi).1
   obtain⟨b,hb,hf⟩:=Lib.mapM_at hm i i (by simp [hi']);have hb1:b.1=dz z:=by
    have e1:(xs.map (·.1))[i]? =some b.1:=by simp [hb]
    rw [hxs]at e1;simp only [List.getElem?_map,hi,Option.map_some,Option.some.injEq]at e1;exact e1.symm
   exact hel fuel _ z b.2 (by rw [hf,←hb1])
  ·cases h
theorem strCell{P:Program}{w:World}{fuel:Nat}{e:TypeId}{cs:List Value}{p:List MemPlace}(he:P.underlying e=some .string)(z:List UInt8)
  (h:DataW.trod (fun _=>()) P w 0 (fun _=>true) false fuel e cs=some (.lit (.string z),p)):cs=eS z:=by
 obtain⟨s,rfl,hx,_⟩:=DataW.trod_string he h;simp only [Prod.mk.injEq,DataW.lit.injEq,Lit.string.injEq]at hx;obtain⟨rfl,_⟩:=hx;rfl
theorem intCell{P:Program}{w:World}{fuel:Nat}{e:TypeId}{k:IntKind}{cs:List Value}{p:List MemPlace}(he:P.underlying e=some (.int k))(z:Int)
  (h:DataW.trod (fun _=>()) P w 0 (fun _=>true) false fuel e cs=some (.lit (.int k z),p)):cs=[.int k z]:=by
 obtain⟨n,rfl,hx,_⟩:=DataW.trod_int he h;simp only [Prod.mk.injEq,DataW.lit.injEq,Lit.int.injEq]at hx;obtain⟨⟨_,rfl⟩,_⟩:=hx;rfl
theorem pairCell{P:Program}{w:World}{fuel:Nat}{e a b:TypeId}{f0 f1:Field}{k:IntKind}{cs:List Value}{p:List MemPlace}(he:P.underlying e=some (.struct #[f0,f1]))(ha:P.underlying a=some .string)(hb:P.underlying b=some (.int k))
  (h0:(f0.type,f0.offset,f1.type,f1.offset)=(a,0,b,1)) (hca:P.cellsOf a=1) (hcb:P.cellsOf b=1) (hc:P.cellsOf e=2) (z:List UInt8×Int)
  (h:DataW.trod (fun _=>()) P w 0 (fun _=>true) false fuel e cs=some (.agg [.lit (.string z.1),.lit (.int k z.2)],p)):cs=[str z.1,.int k z.2]:=by
 obtain⟨z1,z2⟩:=z;simp only [Prod.mk.injEq]at h0;obtain⟨t0,o0,t1,o1⟩:=h0;cases fuel with
 |zero=>simp [DataW.trod]at h
 |succ fuel=>
  simp only [DataW.trod,he,hc]at h;split at h
  ·rename_i hl;obtain⟨xs,hm,hx⟩:=Option.map_eq_some_iff.1 h;simp only [List.mapM_cons,List.mapM_nil,Option.bind_eq_bind,Option.bind_eq_some_iff,Option.pure_def,Option.some.injEq,t0,t1,o0,o1,hca,hcb,List.drop_zero]at hm;obtain⟨x0,hx0,r0,⟨x1,hx1,r1,rfl,rfl⟩,rfl⟩:=hm;simp only [List.map_cons,List.map_nil,Prod.mk.injEq,DataW.agg.injEq,List.cons.injEq,and_true]at hx;obtain⟨⟨e0,e1⟩,_⟩:=hx;have g0:=strCell ha z1 (p:=x0.2) (by rw [hx0,←e0]);have g1:=intCell hb z2 (p:=x1.2) (by rw [hx1,←e1])
   match cs,hl,g0,g1 with
   |[u,v],_,g0,g1=>
    simp only [List.take_succ_cons,List.take_zero,List.drop_succ_cons,List.drop_zero,eS,List.cons.injEq,and_true]at g0 g1;rw [g0,g1]
  ·cases h
theorem intVar{P:Program}{w:World}{g:Nat}{t:TypeId}{zero:Array Value}{k:IntKind}(h:w.ShapedOpen P)(hg:g<P.globals.size)
  (h0:((begin P (fun _ _=>0) default).world.heap[g]?).bind Obj.row? =some (zero,t)) (hz:zero.size=1)
  (hb:P.buildable t=true) (hc:P.cellTypes P.depth t=some [t]) (hu:P.underlying t=some (.int k)):∃m,Vr w g [.int k m]:=by
 obtain⟨m,hm⟩:=cell_of_shapedOpen_int h hg h0 hz hb hc hu;obtain⟨cs,hh,hs,_⟩:=h.1 g zero t hg h0;refine⟨m,t,(0,0), ?_⟩
 rw [hh];have h1:cs.size=1:=by omega
 have h2:cs[0]? =some (.int k m):=by
  have:w.cell? ⟨g,0,none⟩=cs[0]? :=by simp [World.cell?,hh]
  rw [←this];exact hm
 have e:cs=[Value.int k m].toArray:=by
  apply Array.ext
  ·simp [h1]
  ·intro i hi hi'
   have:i=0:=by omega
   subst this;simpa [hi] using h2
 rw [e]
theorem heapSize{P:Program}{w:World}{g:Nat}(h:w.ShapedOpen P)(hg:g<P.globals.size)(h0:(((begin P (fun _ _=>0) default).world.heap[g]?).bind Obj.row?).isSome=true):g+1≤w.heap.size:=by
 obtain⟨⟨zero,t⟩,h1⟩:=Option.isSome_iff_exists.1 h0;obtain⟨cs,hh,_⟩:=h.1 g zero t hg h1;exact(Array.getElem?_eq_some_iff.1 hh).1
theorem laidOf{P:Program}{l:List (String×DataW Unit)}{w:World}(h:laidMetH P l w)(hn:(l.filter fun x=>x.2.handleName?.isSome)=[]):∃ps,DataW.LaidVars P w l ps:=by
 unfold laidMetH at h;rw [hn]at h;obtain⟨ps,h1,_⟩:=h;exact⟨ps,h1⟩
theorem postOf{H:Type}{enc:TypeId×Value→H}{P:Program}{f:Func}{s:ChangeSpec}{apart fresh handsOn:Bool}{W W':World}{args:Array Value}{v:Value}{ds gs:List (DataW H)}{before pa pv:List MemPlace}
  (hW:DataW.Whole enc P f.params.toList s.vars apart W args.toList ds gs before)
  (hres:∀(b:Nat) (sp:Nat→Bool) (hd:Bool),DataW.TrodAll enc P W' b sp hd f.resultTypes.toList (v.resultList f.resultTypes.size) (s.fn H (ds++gs)).results [])
  (hargs:∀sp:Nat→Bool,(∀p∈before,sp p.block=true)→DataW.TrodAll enc P W' 0 sp true f.params.toList args.toList (s.fn H (ds++gs)).args pa)
  (hvars:∀sp:Nat→Bool,(∀p∈before,sp p.block=true)→DataW.TrodVars enc P W' sp s.vars (s.fn H (ds++gs)).vars pv)
  (hk:W.keptBut W' (fun p=>p∈before∧(p∈([]:List MemPlace)∨p∈pa∨p∈pv))):s.post enc P f apart fresh handsOn false W args v W':=by
 have hold:∀p∈before,(fun b=>decide (b<W.heap.size)) p.block=true:=fun p hp=>by simpa using hW.lt p hp
 exact⟨ds,gs,before,[],pa,pv,hW,hres _ _ _,hargs _ hold,hvars _ hold,hk,fun h=>by cases h⟩
end Go.Proofs
set_option maxRecDepth 100000
namespace Go.Proofs
open Go.Wk Go.Px Go.RowKit
theorem glOf{W:World}(hL:laidMetH Tryz.prog YtpekennakeendaaGreatDoor.Rows.messageChangesRow.laid W)(hsh:W.ShapedOpen Tryz.prog)(hs:12≤W.heap.size):Gl W:=by
 obtain⟨ps,h⟩:=laidOf hL krf;have v0:Vr W 0 (List.flatMap eS aeu):=by
  obtain⟨g,t,cs,fuel,p,h1,h2,h3,h4⟩:=laidAt h 3 rfl;obtain rfl := Option.some.inj ((show Tryz.prog.globalNamed "dialtone/header.specials" = some 0 by kernel_rfl).symm.trans h1);obtain rfl:=Option.some.inj ((show(Tryz.prog.globals[0]?).map (·.type)=some 66 by kernel_rfl).symm.trans h2);have e:=arrCells (dz:=fun s=>.lit (.string s)) (f:=eS) aeu Tryz.underlying66 (show Tryz.prog.cellsOf 9=1 by kernel_rfl) krf rfl (fun _ _ z _ h=>strCell Tryz.underlying9 z h) h4
  have:=vrOf h1 h3
  rw [e]at this;exact this
 have v2:Vr W 2 (List.flatMap ake abr):=by
  obtain⟨g,t,cs,fuel,p,h1,h2,h3,h4⟩:=laidAt h 4 rfl;obtain rfl := Option.some.inj ((show Tryz.prog.globalNamed "dialtone/header.kinds" = some 2 by kernel_rfl).symm.trans h1);obtain rfl:=Option.some.inj ((show(Tryz.prog.globals[2]?).map (·.type)=some 141 by kernel_rfl).symm.trans h2);have e:=arrCells (dz:=fun z=>.agg [.lit (.string z.1),.lit (.int .i64 z.2)]) (f:=ake) abr Tryz.underlying141 (show Tryz.prog.cellsOf 140=2 by kernel_rfl) krf rfl (fun _ _ z _ h=>pairCell Tryz.underlying140 Tryz.underlying9 Tryz.underlying110 rfl krf krf krf z h) h4
  have:=vrOf h1 h3
  rw [e]at this;exact this
 have v7:Vr W 7 (Lib.pow10Tab.map fun z=>Value.int .u64 z):=by
  obtain⟨g,t,cs,fuel,p,h1,h2,h3,h4⟩:=laidAt h 2 rfl;obtain rfl := Option.some.inj ((show Tryz.prog.globalNamed "internal/strconv.uint64pow10" = some 7 by kernel_rfl).symm.trans h1);obtain rfl:=Option.some.inj ((show(Tryz.prog.globals[7]?).map (·.type)=some 244 by kernel_rfl).symm.trans h2);have e:=Lib.cells_of_tab (zs:=Lib.pow10Tab) (k:=.u64) Tryz.underlying244 Tryz.underlying215 krf krf h4
  have:=vrOf h1 h3
  rw [e]at this;exact this
 have v1:∃m,Vr W 1 [.int .i64 m]:=intVar (zero:= #[.int .i64 0]) (t:=3) hsh (of_decide_eq_true krf) krf rfl krf krf Tryz.underlying3;exact {gs:=hs,specials:=v0,kinds:=v2,pow10:=v7,maxlen:=v1}
def laidCells(g:Nat)(o:Obj):Obj:=
 match o with
 |.cells c t fz=>.cells (match g with
  |10=> #[.int .u8 0,.int .u8 1,.int .u8 28,.int .u8 2,.int .u8 29,.int .u8 14,.int .u8 24,.int .u8 3,.int .u8 30,.int .u8 22,.int .u8 20,.int .u8 15,.int .u8 25,.int .u8 17,.int .u8 4,.int .u8 8,.int .u8 31,.int .u8 27,.int .u8 13,.int .u8 23,.int .u8 21,.int .u8 19,.int .u8 16,.int .u8 7,.int .u8 26,.int .u8 12,.int .u8 18,.int .u8 6,.int .u8 11,.int .u8 5,.int .u8 10,.int .u8 9]
  |11=> #[.int .u8 0,.int .u8 1,.int .u8 56,.int .u8 2,.int .u8 57,.int .u8 49,.int .u8 28,.int .u8 3,.int .u8 61,.int .u8 58,.int .u8 42,.int .u8 50,.int .u8 38,.int .u8 29,.int .u8 17,.int .u8 4,.int .u8 62,.int .u8 47,.int .u8 59,.int .u8 36,.int .u8 45,.int .u8 43,.int .u8 51,.int .u8 22,.int .u8 53,.int .u8 39,.int .u8 33,.int .u8 30,.int .u8 24,.int .u8 18,.int .u8 12,.int .u8 5,.int .u8 63,.int .u8 55,.int .u8 48,.int .u8 27,.int .u8 60,.int .u8 41,.int .u8 37,.int .u8 16,.int .u8 46,.int .u8 35,.int .u8 44,.int .u8 21,.int .u8 52,.int .u8 32,.int .u8 23,.int .u8 11,.int .u8 54,.int .u8 26,.int .u8 40,.int .u8 15,.int .u8 34,.int .u8 20,.int .u8 31,.int .u8 10,.int .u8 25,.int .u8 14,.int .u8 19,.int .u8 9,.int .u8 13,.int .u8 8,.int .u8 7,.int .u8 6]
  |7=> #[.int .u64 1,.int .u64 10,.int .u64 100,.int .u64 1000,.int .u64 10000,.int .u64 100000,.int .u64 1000000,.int .u64 10000000,.int .u64 100000000,.int .u64 1000000000,.int .u64 10000000000,.int .u64 100000000000,.int .u64 1000000000000,.int .u64 10000000000000,.int .u64 100000000000000,.int .u64 1000000000000000,.int .u64 10000000000000000,.int .u64 100000000000000000,.int .u64 1000000000000000000,.int .u64 10000000000000000000]
  |0=> #[str [67,97,108,108,45,73,68],str [67,83,101,113],str [77,73,77,69,45,86,101,114,115,105,111,110],str [77,105,110,45,83,69],str [82,65,99,107],str [82,83,101,113],str [87,87,87,45,65,117,116,104,101,110,116,105,99,97,116,101]]
  |2=> #[str [70,114,111,109],.int .i64 1,str [84,111],.int .i64 1,str [67,111,110,116,97,99,116],.int .i64 1,str [82,111,117,116,101],.int .i64 1,str [82,101,99,111,114,100,45,82,111,117,116,101],.int .i64 1,str [80,97,116,104],.int .i64 1,str [83,101,114,118,105,99,101,45,82,111,117,116,101],.int .i64 1,str [82,101,102,101,114,45,84,111],.int .i64 1,str [82,101,102,101,114,114,101,100,45,66,121],.int .i64 1,str [82,101,112,108,121,45,84,111],.int .i64 1,str [86,105,97],.int .i64 2,str [67,83,101,113],.int .i64 3,str [82,65,99,107],.int .i64 4,str [67,111,110,116,101,110,116,45,76,101,110,103,116,104],.int .i64 5,str [69,120,112,105,114,101,115],.int .i64 5,str [77,97,120,45,70,111,114,119,97,114,100,115],.int .i64 5,str [77,105,110,45,69,120,112,105,114,101,115],.int .i64 5,str [82,83,101,113],.int .i64 5,str [67,111,110,116,101,110,116,45,68,105,115,112,111,115,105,116,105,111,110],.int .i64 6,str [67,111,110,116,101,110,116,45,84,121,112,101],.int .i64 6,str [69,118,101,110,116],.int .i64 6,str [77,105,110,45,83,69],.int .i64 6,str [83,101,115,115,105,111,110,45,69,120,112,105,114,101,115],.int .i64 6,str [83,117,98,115,99,114,105,112,116,105,111,110,45,83,116,97,116,101],.int .i64 6,str [65,99,99,101,112,116],.int .i64 7,str [65,108,108,111,119],.int .i64 7,str [65,108,108,111,119,45,69,118,101,110,116,115],.int .i64 7,str [80,114,111,120,121,45,82,101,113,117,105,114,101],.int .i64 7,str [82,101,113,117,105,114,101],.int .i64 7,str [83,117,112,112,111,114,116,101,100],.int .i64 7,str [85,110,115,117,112,112,111,114,116,101,100],.int .i64 7]
  |_=>c) t fz
 |o=>o
noncomputable def laidWorld(os:Os):World:={World.holding Tryz.prog os ⟨#[], #[],[]⟩with heap:=(World.holding Tryz.prog os ⟨#[], #[],[]⟩).heap.mapIdx laidCells}
theorem own:ownKnob Tryz.prog.godebug=none:=by kernel_rfl
open YtpekennakeendaaGreatDoor.Rows (uptoBulk uptoBulkAll)
theorem same_below{W W':World}(h:Below W.heap.size W W'){p:MemPlace}(hp:p.block<W.heap.size):W.sameAt W' p:=by
 cases p with
 |cell b off=>
  show W'.cell? _=W.cell? _;unfold World.cell?;rw [h.block b hp]
 |map b=>exact h.block b hp
theorem carryAll{H:Type}{enc:TypeId×Value→H}{P:Program}{W W':World}{sp:Nat→Bool}:∀{ts:List TypeId} {vs:List Value} {ds:List (DataW H)} {ps:List MemPlace},DataW.TrodAll enc P W 0 sp true ts vs ds ps→(∀p∈ps,W.sameAt W' p)→DataW.TrodAll enc P W' 0 sp true ts vs ds ps
 |[],[],[],_,h,_=>h
 |_::_,_::_,_::_,_,⟨p,q,⟨n,h1⟩,h2,e⟩,hs=>⟨p,q,⟨n,DataW.trod_carry n _ _ _ h1 fun x hx=>hs x (by rw [e];exact List.mem_append_left _ hx)⟩,carryAll h2 fun x hx=>hs x (by rw [e];exact List.mem_append_right _ hx),e⟩
theorem again{H:Type}{enc:TypeId×Value→H}{P:Program}{W W':World}{ts:List TypeId}{vs:List Value}{ds:List (DataW H)}{ps:List MemPlace}(hl:laidOutB P=true)(hm:mapsRowed P=true)
  (hf:((List.range P.types.size).all fun t=>match P.underlying t with|some (.slice e)=>decide (0<P.cellsOf e)|_=>true)=true) (hts:(ts.all fun t=>decide (t<P.types.size))=true)
  (h:DataW.TrodAll enc P W 0 (fun _=>true) true ts vs ds ps) (hb:Below W.heap.size W W') (hlt:∀p∈ps,p.block<W.heap.size) (sp:Nat→Bool) (hsp:∀p∈ps,sp p.block=true):DataW.TrodAll enc P W' 0 sp true ts vs ds ps:=by
 refine carryAll (DataW.TrodAll.respare (kids_rows hl hm) (slices_full_of P hf) (fun t ht=> ?_) h hsp) fun p hp=>same_below hb (hlt p hp)
 have:=List.all_eq_true.1 hts t ht
 simpa using this
def Dec(P:Program)(w:World){H:Type}(enc:TypeId×Value→H){α:Type}(t:TypeId)(f:α→List Value)(good:α→Prop)(sz:α→Nat):Prop:=
 ∀(base:Nat) (sp:Nat→Bool) (hd:Bool) (fuel:Nat) (cs:List Value) (x:DataW H×List MemPlace),DataW.trod enc P w base sp hd fuel t cs=some x→∃z,cs=f z∧good z∧sz z≤uptoBulk x.1
section
variable {P : Program} {w : World} {H : Type} {enc : TypeId × Value → H} {t : TypeId}
theorem ajb(ht:P.underlying t=some .string):Dec P w enc t eS (fun s=>s.length≤9223372036854775807) (fun s=>s.length):=by
 intro base sp hd fuel cs x h;obtain⟨s,rfl,hx,hs⟩:=DataW.trod_string ht h;refine⟨s.data.toList,rfl,lenOf hs, ?_⟩
 rw [hx];simp [uptoBulk]
theorem dec_int{k:IntKind}(ht:P.underlying t=some (.int k)):Dec P w enc t (eI k) (fun n=>(Lit.int k n).wf=true) (fun _=>0):=by
 intro base sp hd fuel cs x h;obtain⟨n,rfl,hx,hs⟩:=DataW.trod_int ht h;exact⟨n,rfl,hs,Nat.zero_le _⟩
theorem bulk_range{n:Nat}{D:Nat→DataW H}{α:Type}{sz:α→Nat}:∀(zs:List α),zs.length=n→(∀i (h:i<zs.length),sz zs[i]≤uptoBulk (D i))→(zs.map sz).sum≤uptoBulkAll ((List.range n).map D):=by
 intro zs;induction zs generalizing n D with
 |nil=>intro hn _;subst hn;simp
 |cons z zs ih=>
  intro hn h;subst hn;have h0:=h 0 (by simp)
  have:=ih (n:=zs.length) (D:=fun i=>D (i+1)) rfl (fun i hi=>by have:=h (i+1) (by simp;omega);simpa using this)
  rw [List.length_cons,List.range_succ_eq_map,List.map_cons,List.map_cons,List.sum_cons,uptoBulkAll,List.map_map];simp only [List.getElem_cons_zero]at h0;exact Nat.add_le_add h0 this
theorem cells_app{base:Nat}{a:Addr}{n:Nat}{cs:List Value}(h:w.cells? base a n=some cs):cs.length=n∧∀j v,cs[j]? =some v→w.cell? (a.add j)=some v:=by
 obtain⟨h1,h2,h3⟩:=World.cells?_some h;exact⟨h2,fun j v hj=>(h3 j (by have:=(List.getElem?_eq_some_iff.1 hj).1;omega)).trans hj⟩
theorem dec_slice{e:TypeId}{α:Type}{f:α→List Value}{good:α→Prop}{sz:α→Nat}(ht:P.underlying t=some (.slice e))(he:Dec P w enc e f good sz){base:Nat}{sp:Nat→Bool}{hd:Bool}{fuel:Nat}{cs:List Value}{x:DataW H×List MemPlace}
  (h:DataW.trod enc P w base sp hd fuel t cs=some x):∃a n cap,∃zs:List α,cs=[.slice a n cap]∧n=zs.length∧n≤cap∧Rd w a (zs.flatMap f)∧(∀z∈zs,good z)∧(zs.map sz).sum≤uptoBulk x.1:=by
 rcases Deep.open_slice ht h with⟨rfl,rfl⟩|⟨a,len,cap,m,n,D,Pl,rfl,hb,hl,hm,hmm,rfl,hx⟩
 ·exact⟨none,0,0,[],rfl,rfl,Nat.le_refl _,fun j v hj=>by simp at hj,fun z hz=>by simp at hz,Nat.zero_le _⟩
 ·have hlm:len≤m:=by rw [hmm];split<;>omega
  have key:∀k,k≤len→∃zs:List α,zs.length=k∧(∀z∈zs,good z)∧(∀i (hi:i<zs.length),sz zs[i]≤uptoBulk (D i))∧(zs.flatMap f).length=k*P.cellsOf e∧∀j v,(zs.flatMap f)[j]? =some v→w.cell? (a.add j)=some v:=by
   intro k;induction k with
   |zero=>intro _;exact⟨[],rfl,fun z hz=>by simp at hz,fun i hi=>by simp at hi,by simp,fun j v hj=>by simp at hj⟩
   |succ k ih=>
    intro hk;obtain⟨zs,h1,h2,h3,h4,h5⟩:=ih (by omega);obtain⟨cs',hc,ht'⟩:=hx k (by omega);obtain⟨z,rfl,hg,hs⟩:=he _ _ _ _ _ _ ht';obtain⟨hcl,hcc⟩:=cells_app hc;refine⟨zs++[z],by simp [h1],fun y hy=> ?_,fun i hi=> ?_, ?_,fun j v hj=> ?_⟩
    ·rcases List.mem_append.1 hy with hy|hy
     ·exact h2 y hy
     ·rw [List.mem_singleton.1 hy];exact hg
    ·by_cases hik:i<zs.length
     ·rw [List.getElem_append_left hik];exact h3 i hik
     ·have:i=k:=by simp at hi;omega
      subst this;simp only [h1.symm,List.getElem_concat_length];rw [h1];exact hs
    ·simp [h4,hcl,Nat.succ_mul]
    ·rw [List.flatMap_append,List.flatMap_singleton]at hj;by_cases hjl:j<(zs.flatMap f).length
     ·rw [List.getElem?_append_left hjl]at hj;exact h5 j v hj
     ·rw [List.getElem?_append_right (by omega),h4]at hj
      have:=hcc _ _ hj
      rw [h4]at hjl;have e:(a.add (k*P.cellsOf e)).add (j-k*P.cellsOf e)=a.add j:=by
       rw [Go.Wk.add_add];congr 1
       omega
      rw [e]at this;exact this
  obtain⟨zs,h1,h2,h3,h4,h5⟩:=key len (Nat.le_refl _);refine⟨some a,len,cap,zs,rfl,h1.symm,hl,fun j v hj=>⟨a,rfl,h5 j v hj⟩,h2, ?_⟩
  have:=bulk_range (sz:=sz) zs h1 h3
  simp only [uptoBulk];omega
theorem dec_u8n(ht:P.underlying t=some (.int .u8)):Dec P w enc t eB (fun _=>True) (fun _=>1):=by
 intro base sp hd fuel cs x h;obtain⟨n,rfl,hx,hs⟩:=DataW.trod_int ht h;have h1:0≤n∧n≤255:=by simpa [Lit.wf,show IntKind.u8.min=0 by decide,show IntKind.u8.max=255 by decide] using hs
 refine⟨UInt8.ofNat n.toNat, ?_,trivial, ?_⟩
 ·have:((UInt8.ofNat n.toNat).toNat:Int)=n:=by rw [UInt8.toNat_ofNat'];omega
  simp only [eB,bt,this]
 ·rw [hx];simp [uptoBulk]
theorem sum_one{α:Type}:∀l:List α,(l.map fun _=>1).sum=l.length
 |[]=>rfl
 |a::l=>by rw [List.map_cons,List.sum_cons,sum_one l,List.length_cons];omega
theorem dec_bytes{e:TypeId}(ht:P.underlying t=some (.slice e))(he:P.underlying e=some (.int .u8)){base:Nat}{sp:Nat→Bool}{hd:Bool}{fuel:Nat}{cs:List Value}{x:DataW H×List MemPlace}
  (h:DataW.trod enc P w base sp hd fuel t cs=some x):∃a n cap,∃zs:List UInt8,cs=[.slice a n cap]∧n=zs.length∧n≤cap∧Rd w a (zs.flatMap eB)∧(∀z∈zs,True)∧zs.length≤uptoBulk x.1:=by
 obtain⟨a,n,cap,zs,h1,h2,h3,h4,h5,h6⟩:=dec_slice ht (dec_u8n he) h;rw [sum_one]at h6;exact⟨a,n,cap,zs,h1,h2,h3,h4,h5,h6⟩
def flatT:TypeDesc→Bool
 |.struct _=>false
 |.array _ _=>false
 |_=>true
theorem oneCellOf{base:Nat}{v x:Value}{ty:TypeDesc}(ht:P.underlying t=some ty)(hval:Value.okWide P w .any base t v)(hf:flatT ty=true)(e:v.cells.toList=[x]):v=x:=by
 cases v with
 |agg cs=>
  exfalso;unfold Value.okWide Cell.okWide Cell.ok at hval;rw [ht]at hval;cases ty<;>first|(simp [flatT]at hf;done)|simp at hval
 |_=>simpa [Value.cells] using e
end
open Go.Shelf
open Go.Lib renaming join → zaL
def Tryz.lays156_ren:Go.Shelf.Ren:=⟨fun|156=>34|165=>58|166=>59|169=>60|240=>85|241=>86|276=>117|277=>118|n=>n,fun|31=>38|9=>9|3=>3|4=>4|0=>0|20=>20|72=>84|76=>88|70=>82|37=>23|75=>87|127=>113|164=>146|5=>5|80=>90|n=>n,fun|n=>n⟩
theorem Tryz.lays156:Go.Proofs.Lays.n156 Tryz.prog Tryz.lays156_ren:={
 mixed:=by kernel_rfl
 f156:=Tryz.func34.trans ksf
 f165:=Tryz.func58.trans ksf
 f166:=Tryz.func59.trans ksf
 f169:=Tryz.func60.trans ksf
 f240:=Tryz.func85.trans ksf
 f241:=Tryz.func86.trans ksf
 f276:=Tryz.func117.trans ksf
 f277:=Tryz.func118.trans ksf
 t0:=Tryz.underlying0
 a0:=Tryz.isAgg0
 z0:=Tryz.sizeOf0
 v0:=Tryz.zeroValue0
 t3:=Tryz.underlying3
 a3:=Tryz.isAgg3
 z3:=Tryz.sizeOf3
 v3:=Tryz.zeroValue3
 t4:=Tryz.underlying4
 a4:=Tryz.isAgg4
 z4:=Tryz.sizeOf4
 v4:=Tryz.zeroValue4
 t9:=Tryz.underlying9
 a9:=Tryz.isAgg9
 z9:=Tryz.sizeOf9
 v9:=Tryz.zeroValue9
 t20:=Tryz.underlying20
 a20:=Tryz.isAgg20
 z20:=Tryz.sizeOf20
 v20:=Tryz.zeroValue20
 t31:=Tryz.underlying38
 a31:=Tryz.isAgg38
 z31:=Tryz.sizeOf38
 v31:=Tryz.zeroValue38
 t37:=Tryz.underlying23
 a37:=Tryz.isAgg23
 z37:=Tryz.sizeOf23
 v37:=Tryz.zeroValue23
 t70:=Tryz.underlying82
 a70:=Tryz.isAgg82
 z70:=Tryz.sizeOf82
 v70:=Tryz.zeroValue82
 t72:=Tryz.underlying84
 a72:=Tryz.isAgg84
 z72:=Tryz.sizeOf84
 v72:=Tryz.zeroValue84
 t75:=Tryz.underlying87
 a75:=Tryz.isAgg87
 z75:=Tryz.sizeOf87
 v75:=Tryz.zeroValue87
 t76:=Tryz.underlying88
 a76:=Tryz.isAgg88
 z76:=Tryz.sizeOf88
 v76:=Tryz.zeroValue88
 t127:=Tryz.underlying113
 a127:=Tryz.isAgg113
 z127:=Tryz.sizeOf113
 v127:=Tryz.zeroValue113
 t164:=Tryz.underlying146
 a164:=Tryz.isAgg146
 z164:=Tryz.sizeOf146
 v164:=Tryz.zeroValue146}
theorem Tryz.Builder_Extra_156:Builder.Extra Tryz.prog Tryz.lays156_ren:={
 sizeBuilder:=by kernel_rfl
 liesBuilder:=by kernel_rfl
 t5:=Tryz.underlying5
 a5:=Tryz.isAgg5
 z5:=Tryz.sizeOf5
 v5:=Tryz.zeroValue5
 infoByte:=by kernel_rfl
 cellsByte:=by kernel_rfl
 sizeByte:=by kernel_rfl
 neB5:=by decide}
open Go.RowKit in
theorem Tryz.strings_Join_none (a : Option Addr) (c : Nat) (sep : ByteArray) (w : World) :
    Calls Tryz.prog 34 #[.slice a 0 c, .string sep] w fun e w' => e = .returned (.string ⟨#[]⟩) ∧ w' = w := Any.strings_Join_none Tryz.lays156 Tryz.Builder_Extra_156 a c sep w
open Go.RowKit in
theorem Tryz.strings_Join (bk o c : Nat) (xs : List ByteArray) (sep : ByteArray) (w : World) (hcells : ∀ (j : Nat) x, xs[j]? = some x → w.cell? ⟨bk, o + j, none⟩ = some (.string x)) (hbk : bk < w.heap.size) (hN : xs.length ≤ 140737488355328) (hcap : xs.length ≤ c) (hlen : (zaL (xs.map (·.data.toList)) sep.data.toList).length ≤ 140737488355328) :
    Calls Tryz.prog 34 #[.slice (some ⟨bk, o, none⟩) xs.length c, .string sep] w fun e w' => e = .returned (.string ⟨(zaL (xs.map (·.data.toList)) sep.data.toList).toArray⟩) ∧ Below w.heap.size w w' := Any.strings_Join Tryz.lays156 Tryz.Builder_Extra_156 bk o c xs sep w hcells hbk hN hcap hlen
def Tryz.lays161_ren:Go.Shelf.Ren:=⟨fun|161=>250|231=>128|227=>130|233=>131|235=>133|228=>161|197=>162|151=>163|260=>197|152=>165|137=>115|119=>199|224=>95|225=>195|217=>155|266=>193|n=>n,fun|9=>9|4=>4|3=>3|5=>5|117=>157|116=>156|0=>0|124=>160|105=>182|21=>21|119=>248|46=>122|139=>251|138=>250|n=>n,fun|3=>8|4=>9|n=>n⟩
theorem Tryz.lays161:Go.Proofs.Lays.n161 Tryz.prog Tryz.lays161_ren:={
 mixed:=by kernel_rfl
 f119:=Tryz.func199.trans ksf
 f137:=Tryz.func115.trans ksf
 f151:=Tryz.func163.trans ksf
 f152:=Tryz.func165.trans ksf
 f161:=Tryz.func250.trans ksf
 f197:=Tryz.func162.trans ksf
 f217:=Tryz.func155.trans ksf
 f224:=Tryz.func95.trans ksf
 f225:=Tryz.func195.trans ksf
 f227:=Tryz.func130.trans ksf
 f228:=Tryz.func161.trans ksf
 f231:=Tryz.func128.trans ksf
 f233:=Tryz.func131.trans ksf
 f235:=Tryz.func133.trans ksf
 f260:=Tryz.func197.trans ksf
 f266:=Tryz.func193.trans ksf
 t0:=Tryz.underlying0
 a0:=Tryz.isAgg0
 z0:=Tryz.sizeOf0
 v0:=Tryz.zeroValue0
 t3:=Tryz.underlying3
 a3:=Tryz.isAgg3
 z3:=Tryz.sizeOf3
 v3:=Tryz.zeroValue3
 t4:=Tryz.underlying4
 a4:=Tryz.isAgg4
 z4:=Tryz.sizeOf4
 v4:=Tryz.zeroValue4
 t5:=Tryz.underlying5
 a5:=Tryz.isAgg5
 z5:=Tryz.sizeOf5
 v5:=Tryz.zeroValue5
 t9:=Tryz.underlying9
 a9:=Tryz.isAgg9
 z9:=Tryz.sizeOf9
 v9:=Tryz.zeroValue9
 t21:=Tryz.underlying21
 a21:=Tryz.isAgg21
 z21:=Tryz.sizeOf21
 v21:=Tryz.zeroValue21
 t46:=Tryz.underlying122
 a46:=Tryz.isAgg122
 z46:=Tryz.sizeOf122
 v46:=Tryz.zeroValue122
 t105:=Tryz.underlying182
 a105:=Tryz.isAgg182
 z105:=Tryz.sizeOf182
 v105:=Tryz.zeroValue182
 t116:=Tryz.underlying156
 a116:=Tryz.isAgg156
 z116:=Tryz.sizeOf156
 t117:=Tryz.underlying157
 a117:=Tryz.isAgg157
 z117:=Tryz.sizeOf157
 v117:=Tryz.zeroValue157
 t119:=Tryz.underlying248
 a119:=Tryz.isAgg248
 z119:=Tryz.sizeOf248
 t124:=Tryz.underlying160
 a124:=Tryz.isAgg160
 z124:=Tryz.sizeOf160
 v124:=Tryz.zeroValue160
 t138:=Tryz.underlying250
 a138:=Tryz.isAgg250
 z138:=Tryz.sizeOf250
 v138:=Tryz.zeroValue250
 t139:=Tryz.underlying251
 a139:=Tryz.isAgg251
 z139:=Tryz.sizeOf251
 v139:=Tryz.zeroValue251
 g3:=by kernel_rfl
 g4:=by kernel_rfl}
def Tryz.lays162_ren:Go.Shelf.Ren:=⟨fun|162=>108|232=>129|227=>130|234=>132|236=>134|228=>161|271=>164|151=>163|120=>198|197=>162|152=>165|260=>197|137=>115|119=>199|224=>95|225=>195|217=>155|266=>193|n=>n,fun|9=>9|4=>4|3=>3|5=>5|117=>157|116=>156|0=>0|124=>160|21=>21|105=>182|46=>122|119=>248|139=>251|138=>250|n=>n,fun|3=>8|4=>9|n=>n⟩
theorem Tryz.lays162:Go.Proofs.Lays.n162 Tryz.prog Tryz.lays162_ren:={
 mixed:=by kernel_rfl
 f119:=Tryz.func199.trans ksf
 f120:=Tryz.func198.trans ksf
 f137:=Tryz.func115.trans ksf
 f151:=Tryz.func163.trans ksf
 f152:=Tryz.func165.trans ksf
 f162:=Tryz.func108.trans ksf
 f197:=Tryz.func162.trans ksf
 f217:=Tryz.func155.trans ksf
 f224:=Tryz.func95.trans ksf
 f225:=Tryz.func195.trans ksf
 f227:=Tryz.func130.trans ksf
 f228:=Tryz.func161.trans ksf
 f232:=Tryz.func129.trans ksf
 f234:=Tryz.func132.trans ksf
 f236:=Tryz.func134.trans ksf
 f260:=Tryz.func197.trans ksf
 f266:=Tryz.func193.trans ksf
 f271:=Tryz.func164.trans ksf
 t0:=Tryz.underlying0
 a0:=Tryz.isAgg0
 z0:=Tryz.sizeOf0
 v0:=Tryz.zeroValue0
 t3:=Tryz.underlying3
 a3:=Tryz.isAgg3
 z3:=Tryz.sizeOf3
 v3:=Tryz.zeroValue3
 t4:=Tryz.underlying4
 a4:=Tryz.isAgg4
 z4:=Tryz.sizeOf4
 v4:=Tryz.zeroValue4
 t5:=Tryz.underlying5
 a5:=Tryz.isAgg5
 z5:=Tryz.sizeOf5
 v5:=Tryz.zeroValue5
 t9:=Tryz.underlying9
 a9:=Tryz.isAgg9
 z9:=Tryz.sizeOf9
 v9:=Tryz.zeroValue9
 t21:=Tryz.underlying21
 a21:=Tryz.isAgg21
 z21:=Tryz.sizeOf21
 v21:=Tryz.zeroValue21
 t46:=Tryz.underlying122
 a46:=Tryz.isAgg122
 z46:=Tryz.sizeOf122
 v46:=Tryz.zeroValue122
 t105:=Tryz.underlying182
 a105:=Tryz.isAgg182
 z105:=Tryz.sizeOf182
 v105:=Tryz.zeroValue182
 t116:=Tryz.underlying156
 a116:=Tryz.isAgg156
 z116:=Tryz.sizeOf156
 t117:=Tryz.underlying157
 a117:=Tryz.isAgg157
 z117:=Tryz.sizeOf157
 v117:=Tryz.zeroValue157
 t119:=Tryz.underlying248
 a119:=Tryz.isAgg248
 z119:=Tryz.sizeOf248
 t124:=Tryz.underlying160
 a124:=Tryz.isAgg160
 z124:=Tryz.sizeOf160
 v124:=Tryz.zeroValue160
 t138:=Tryz.underlying250
 a138:=Tryz.isAgg250
 z138:=Tryz.sizeOf250
 v138:=Tryz.zeroValue250
 t139:=Tryz.underlying251
 a139:=Tryz.isAgg251
 z139:=Tryz.sizeOf251
 v139:=Tryz.zeroValue251
 g3:=by kernel_rfl
 g4:=by kernel_rfl}
def Tryz.lays160_ren:Go.Shelf.Ren:=⟨fun|160=>101|232=>129|231=>128|227=>130|234=>132|233=>131|236=>134|235=>133|228=>161|271=>164|151=>163|197=>162|120=>198|152=>165|260=>197|137=>115|119=>199|224=>95|225=>195|217=>155|266=>193|n=>n,fun|9=>9|4=>4|3=>3|5=>5|117=>157|116=>156|0=>0|124=>160|21=>21|105=>182|46=>122|119=>248|139=>251|138=>250|n=>n,fun|3=>8|4=>9|n=>n⟩
theorem Tryz.lays160:Go.Proofs.Lays.n160 Tryz.prog Tryz.lays160_ren:={
 mixed:=by kernel_rfl
 f119:=Tryz.func199.trans ksf
 f120:=Tryz.func198.trans ksf
 f137:=Tryz.func115.trans ksf
 f151:=Tryz.func163.trans ksf
 f152:=Tryz.func165.trans ksf
 f160:=Tryz.func101.trans ksf
 f197:=Tryz.func162.trans ksf
 f217:=Tryz.func155.trans ksf
 f224:=Tryz.func95.trans ksf
 f225:=Tryz.func195.trans ksf
 f227:=Tryz.func130.trans ksf
 f228:=Tryz.func161.trans ksf
 f231:=Tryz.func128.trans ksf
 f232:=Tryz.func129.trans ksf
 f233:=Tryz.func131.trans ksf
 f234:=Tryz.func132.trans ksf
 f235:=Tryz.func133.trans ksf
 f236:=Tryz.func134.trans ksf
 f260:=Tryz.func197.trans ksf
 f266:=Tryz.func193.trans ksf
 f271:=Tryz.func164.trans ksf
 t0:=Tryz.underlying0
 a0:=Tryz.isAgg0
 z0:=Tryz.sizeOf0
 v0:=Tryz.zeroValue0
 t3:=Tryz.underlying3
 a3:=Tryz.isAgg3
 z3:=Tryz.sizeOf3
 v3:=Tryz.zeroValue3
 t4:=Tryz.underlying4
 a4:=Tryz.isAgg4
 z4:=Tryz.sizeOf4
 v4:=Tryz.zeroValue4
 t5:=Tryz.underlying5
 a5:=Tryz.isAgg5
 z5:=Tryz.sizeOf5
 v5:=Tryz.zeroValue5
 t9:=Tryz.underlying9
 a9:=Tryz.isAgg9
 z9:=Tryz.sizeOf9
 v9:=Tryz.zeroValue9
 t21:=Tryz.underlying21
 a21:=Tryz.isAgg21
 z21:=Tryz.sizeOf21
 v21:=Tryz.zeroValue21
 t46:=Tryz.underlying122
 a46:=Tryz.isAgg122
 z46:=Tryz.sizeOf122
 v46:=Tryz.zeroValue122
 t105:=Tryz.underlying182
 a105:=Tryz.isAgg182
 z105:=Tryz.sizeOf182
 v105:=Tryz.zeroValue182
 t116:=Tryz.underlying156
 a116:=Tryz.isAgg156
 z116:=Tryz.sizeOf156
 t117:=Tryz.underlying157
 a117:=Tryz.isAgg157
 z117:=Tryz.sizeOf157
 v117:=Tryz.zeroValue157
 t119:=Tryz.underlying248
 a119:=Tryz.isAgg248
 z119:=Tryz.sizeOf248
 t124:=Tryz.underlying160
 a124:=Tryz.isAgg160
 z124:=Tryz.sizeOf160
 v124:=Tryz.zeroValue160
 t138:=Tryz.underlying250
 a138:=Tryz.isAgg250
 z138:=Tryz.sizeOf250
 v138:=Tryz.zeroValue250
 t139:=Tryz.underlying251
 a139:=Tryz.isAgg251
 z139:=Tryz.sizeOf251
 v139:=Tryz.zeroValue251
 g3:=by kernel_rfl
 g4:=by kernel_rfl}
def Tryz.lays137_ren:Go.Shelf.Ren:=⟨fun|137=>115|217=>155|266=>193|n=>n,fun|9=>9|5=>5|3=>3|n=>n,fun|n=>n⟩
theorem Tryz.lays137:Go.Proofs.Lays.n137 Tryz.prog Tryz.lays137_ren:={
 mixed:=by kernel_rfl
 f137:=Tryz.func115.trans ksf
 f217:=Tryz.func155.trans ksf
 f266:=Tryz.func193.trans ksf
 t3:=Tryz.underlying3
 a3:=Tryz.isAgg3
 z3:=Tryz.sizeOf3
 v3:=Tryz.zeroValue3
 t5:=Tryz.underlying5
 a5:=Tryz.isAgg5
 z5:=Tryz.sizeOf5
 v5:=Tryz.zeroValue5
 t9:=Tryz.underlying9
 a9:=Tryz.isAgg9
 z9:=Tryz.sizeOf9
 v9:=Tryz.zeroValue9}
open Go.RowKit in
theorem Tryz.strings_IndexByte (s : ByteArray) (c : Int) (w : World) :
    Calls Tryz.prog 115 #[.string s, .int .u8 c] w fun e w' => e = .returned (.int .i64 (Lib.indexByte s.data.toList c.toNat.toUInt8)) ∧ w' = w := Any.strings_IndexByte Tryz.lays137 s c w
def Tryz.lays103_ren:Go.Shelf.Ren:=⟨fun|103=>212|210=>237|206=>232|n=>n,fun|9=>9|4=>4|24=>36|3=>3|n=>n,fun|n=>n⟩
theorem Tryz.lays103:Go.Proofs.Lays.n103 Tryz.prog Tryz.lays103_ren:={
 mixed:=by kernel_rfl
 f103:=Tryz.func212.trans ksf
 f206:=Tryz.func232.trans ksf
 f210:=Tryz.func237.trans ksf
 t3:=Tryz.underlying3
 a3:=Tryz.isAgg3
 z3:=Tryz.sizeOf3
 v3:=Tryz.zeroValue3
 t4:=Tryz.underlying4
 a4:=Tryz.isAgg4
 z4:=Tryz.sizeOf4
 v4:=Tryz.zeroValue4
 t9:=Tryz.underlying9
 a9:=Tryz.isAgg9
 z9:=Tryz.sizeOf9
 v9:=Tryz.zeroValue9
 t24:=Tryz.underlying36
 a24:=Tryz.isAgg36
 z24:=Tryz.sizeOf36
 v24:=Tryz.zeroValue36}
open Go.RowKit in
theorem Tryz.strings_CutPrefix (s p : ByteArray) (w : World) :
    Calls Tryz.prog 212 #[.string s, .string p] w fun e w' => e = .returned (.tuple #[.string ⟨(Lib.trimPrefix s.data.toList p.data.toList).toArray⟩, .bool (Lib.hasPrefix s.data.toList p.data.toList)]) ∧ w' = w := Any.strings_CutPrefix Tryz.lays103 s p w
def Tryz.laysM171_ren:Go.Shelf.Ren:=⟨fun|171=>74|243=>110|246=>151|283=>189|284=>190|285=>191|286=>192|129=>223|317=>222|318=>224|319=>225|320=>226|337=>248|338=>249|n=>n,fun|3=>3|9=>9|2=>2|4=>4|171=>214|0=>0|53=>215|37=>23|5=>5|173=>218|212=>244|51=>150|20=>20|213=>245|46=>122|232=>280|233=>281|n=>n,fun|17=>7|18=>10|19=>11|n=>n⟩
theorem Tryz.laysM171:Go.Proofs.LaysM.n171 Tryz.prog Tryz.laysM171_ren:={
 mixed:=by kernel_rfl
 f129:=Tryz.func223.trans ksf
 f171:=Tryz.func74.trans ksf
 f243:=Tryz.func110.trans ksf
 f246:=Tryz.func151.trans ksf
 f283:=Tryz.func189.trans ksf
 f284:=Tryz.func190.trans ksf
 f285:=Tryz.func191.trans ksf
 f286:=Tryz.func192.trans ksf
 f317:=Tryz.func222.trans ksf
 f318:=Tryz.func224.trans ksf
 f319:=Tryz.func225.trans ksf
 f320:=Tryz.func226.trans ksf
 f337:=Tryz.func248.trans ksf
 f338:=Tryz.func249.trans ksf
 t0:=Tryz.underlying0
 a0:=Tryz.isAgg0
 z0:=Tryz.sizeOf0
 v0:=Tryz.zeroValue0
 t2:=Tryz.underlying2
 a2:=Tryz.isAgg2
 z2:=Tryz.sizeOf2
 v2:=Tryz.zeroValue2
 t3:=Tryz.underlying3
 a3:=Tryz.isAgg3
 z3:=Tryz.sizeOf3
 v3:=Tryz.zeroValue3
 t4:=Tryz.underlying4
 a4:=Tryz.isAgg4
 z4:=Tryz.sizeOf4
 v4:=Tryz.zeroValue4
 t5:=Tryz.underlying5
 a5:=Tryz.isAgg5
 z5:=Tryz.sizeOf5
 v5:=Tryz.zeroValue5
 t9:=Tryz.underlying9
 a9:=Tryz.isAgg9
 z9:=Tryz.sizeOf9
 v9:=Tryz.zeroValue9
 t20:=Tryz.underlying20
 a20:=Tryz.isAgg20
 z20:=Tryz.sizeOf20
 v20:=Tryz.zeroValue20
 t37:=Tryz.underlying23
 a37:=Tryz.isAgg23
 z37:=Tryz.sizeOf23
 v37:=Tryz.zeroValue23
 t46:=Tryz.underlying122
 a46:=Tryz.isAgg122
 z46:=Tryz.sizeOf122
 v46:=Tryz.zeroValue122
 t51:=Tryz.underlying150
 a51:=Tryz.isAgg150
 z51:=Tryz.sizeOf150
 v51:=Tryz.zeroValue150
 t53:=Tryz.underlying215
 a53:=Tryz.isAgg215
 z53:=Tryz.sizeOf215
 v53:=Tryz.zeroValue215
 t171:=Tryz.underlying214
 a171:=Tryz.isAgg214
 z171:=Tryz.sizeOf214
 v171:=Tryz.zeroValue214
 t173:=Tryz.underlying218
 a173:=Tryz.isAgg218
 z173:=Tryz.sizeOf218
 v173:=Tryz.zeroValue218
 t212:=Tryz.underlying244
 a212:=Tryz.isAgg244
 z212:=Tryz.sizeOf244
 v212:=Tryz.zeroValue244
 t213:=Tryz.underlying245
 a213:=Tryz.isAgg245
 z213:=Tryz.sizeOf245
 t232:=Tryz.underlying280
 a232:=Tryz.isAgg280
 z232:=Tryz.sizeOf280
 v232:=Tryz.zeroValue280
 t233:=Tryz.underlying281
 a233:=Tryz.isAgg281
 z233:=Tryz.sizeOf281
 v233:=Tryz.zeroValue281
 g17:=by kernel_rfl
 g18:=by kernel_rfl
 g19:=by kernel_rfl
 i0:=by kernel_rfl
 i2:=by kernel_rfl
 i3:=by kernel_rfl
 i4:=by kernel_rfl
 i5:=by kernel_rfl
 i9:=by kernel_rfl
 i20:=by kernel_rfl
 i37:=by kernel_rfl
 i46:=by kernel_rfl
 i51:=by kernel_rfl
 i53:=by kernel_rfl
 i171:=by kernel_rfl
 i173:=by kernel_rfl
 i212:=by kernel_rfl
 i232:=by kernel_rfl
 i233:=by kernel_rfl
 m17:=by kernel_rfl
 m18:=by kernel_rfl
 m19:=by kernel_rfl}
open Go.RowKit Go.Sort Go.Lib in
theorem Tryz.strconv_Itoa (n : Int) (h0 : -9223372036854775808 ≤ n) (h1 : n ≤ 9223372036854775807) (w : World) (htab : Lib.TabIs Tryz.prog w "internal/strconv.uint64pow10" .u64 Lib.pow10Tab) :
    Calls Tryz.prog 74 #[.int .i64 n] w fun e w' => e = .returned (.string ⟨(Lib.itoa n).toArray⟩) ∧ ∃ k os, w' = grow (w.drewN k) os := Any.strconv_Itoa Tryz.laysM171 n h0 h1 w htab
def Tryz.lays143_ren:Go.Shelf.Ren:=⟨fun|143=>127|219=>160|217=>155|225=>195|224=>95|267=>196|266=>193|314=>227|n=>n,fun|9=>9|3=>3|4=>4|5=>5|46=>122|146=>151|51=>150|n=>n,fun|1=>1|n=>n⟩
theorem Tryz.lays143:Go.Proofs.Lays.n143 Tryz.prog Tryz.lays143_ren:={
 mixed:=by kernel_rfl
 f143:=Tryz.func127.trans ksf
 f217:=Tryz.func155.trans ksf
 f219:=Tryz.func160.trans ksf
 f224:=Tryz.func95.trans ksf
 f225:=Tryz.func195.trans ksf
 f266:=Tryz.func193.trans ksf
 f267:=Tryz.func196.trans ksf
 f314:=Tryz.func227.trans ksf
 t3:=Tryz.underlying3
 a3:=Tryz.isAgg3
 z3:=Tryz.sizeOf3
 v3:=Tryz.zeroValue3
 t4:=Tryz.underlying4
 a4:=Tryz.isAgg4
 z4:=Tryz.sizeOf4
 v4:=Tryz.zeroValue4
 t5:=Tryz.underlying5
 a5:=Tryz.isAgg5
 z5:=Tryz.sizeOf5
 v5:=Tryz.zeroValue5
 t9:=Tryz.underlying9
 a9:=Tryz.isAgg9
 z9:=Tryz.sizeOf9
 v9:=Tryz.zeroValue9
 t46:=Tryz.underlying122
 a46:=Tryz.isAgg122
 z46:=Tryz.sizeOf122
 v46:=Tryz.zeroValue122
 t51:=Tryz.underlying150
 a51:=Tryz.isAgg150
 z51:=Tryz.sizeOf150
 v51:=Tryz.zeroValue150
 t146:=Tryz.underlying151
 a146:=Tryz.isAgg151
 z146:=Tryz.sizeOf151
 v146:=Tryz.zeroValue151
 g1:=by kernel_rfl}
open Go.RowKit Go.Lib in
theorem Tryz.strings_Index (s sub : ByteArray) (m : Int) (w : World) (hs : s.size < 4294967281) (hm : w.cell? ⟨1, 0, none⟩ = some (.int .i64 m)) :
    Calls Tryz.prog 127 #[.string s, .string sub] w fun e w' => e = .returned (.int .i64 (Lib.index s.data.toList sub.data.toList)) ∧ w' = w := Any.strings_Index Tryz.lays143 s sub m w hs hm
def Tryz.lays144_ren:Go.Shelf.Ren:=⟨fun|144=>240|143=>127|219=>160|217=>155|225=>195|224=>95|267=>196|266=>193|314=>227|n=>n,fun|9=>9|4=>4|3=>3|5=>5|46=>122|146=>151|51=>150|n=>n,fun|1=>1|n=>n⟩
theorem Tryz.lays144:Go.Proofs.Lays.n144 Tryz.prog Tryz.lays144_ren:={
 mixed:=by kernel_rfl
 f143:=Tryz.func127.trans ksf
 f144:=Tryz.func240.trans ksf
 f217:=Tryz.func155.trans ksf
 f219:=Tryz.func160.trans ksf
 f224:=Tryz.func95.trans ksf
 f225:=Tryz.func195.trans ksf
 f266:=Tryz.func193.trans ksf
 f267:=Tryz.func196.trans ksf
 f314:=Tryz.func227.trans ksf
 t3:=Tryz.underlying3
 a3:=Tryz.isAgg3
 z3:=Tryz.sizeOf3
 v3:=Tryz.zeroValue3
 t4:=Tryz.underlying4
 a4:=Tryz.isAgg4
 z4:=Tryz.sizeOf4
 v4:=Tryz.zeroValue4
 t5:=Tryz.underlying5
 a5:=Tryz.isAgg5
 z5:=Tryz.sizeOf5
 v5:=Tryz.zeroValue5
 t9:=Tryz.underlying9
 a9:=Tryz.isAgg9
 z9:=Tryz.sizeOf9
 v9:=Tryz.zeroValue9
 t46:=Tryz.underlying122
 a46:=Tryz.isAgg122
 z46:=Tryz.sizeOf122
 v46:=Tryz.zeroValue122
 t51:=Tryz.underlying150
 a51:=Tryz.isAgg150
 z51:=Tryz.sizeOf150
 v51:=Tryz.zeroValue150
 t146:=Tryz.underlying151
 a146:=Tryz.isAgg151
 z146:=Tryz.sizeOf151
 v146:=Tryz.zeroValue151
 g1:=by kernel_rfl}
open Go.RowKit Go.Lib in
theorem Tryz.strings_Contains (s sub : ByteArray) (m : Int) (w : World) (hs : s.size < 4294967281) (hm : w.cell? ⟨1, 0, none⟩ = some (.int .i64 m)) :
    Calls Tryz.prog 240 #[.string s, .string sub] w fun e w' => e = .returned (.bool (Lib.contains s.data.toList sub.data.toList)) ∧ w' = w := Any.strings_Contains Tryz.lays144 s sub m w hs hm
def Tryz.lays145_ren:Go.Shelf.Ren:=⟨fun|145=>107|220=>149|219=>160|217=>155|225=>195|224=>95|267=>196|266=>193|314=>227|n=>n,fun|9=>9|4=>4|59=>136|3=>3|5=>5|46=>122|146=>151|51=>150|n=>n,fun|1=>1|n=>n⟩
theorem Tryz.lays145:Go.Proofs.Lays.n145 Tryz.prog Tryz.lays145_ren:={
 mixed:=by kernel_rfl
 f145:=Tryz.func107.trans ksf
 f217:=Tryz.func155.trans ksf
 f219:=Tryz.func160.trans ksf
 f220:=Tryz.func149.trans ksf
 f224:=Tryz.func95.trans ksf
 f225:=Tryz.func195.trans ksf
 f266:=Tryz.func193.trans ksf
 f267:=Tryz.func196.trans ksf
 f314:=Tryz.func227.trans ksf
 t3:=Tryz.underlying3
 a3:=Tryz.isAgg3
 z3:=Tryz.sizeOf3
 v3:=Tryz.zeroValue3
 t4:=Tryz.underlying4
 a4:=Tryz.isAgg4
 z4:=Tryz.sizeOf4
 v4:=Tryz.zeroValue4
 t5:=Tryz.underlying5
 a5:=Tryz.isAgg5
 z5:=Tryz.sizeOf5
 v5:=Tryz.zeroValue5
 t9:=Tryz.underlying9
 a9:=Tryz.isAgg9
 z9:=Tryz.sizeOf9
 v9:=Tryz.zeroValue9
 t46:=Tryz.underlying122
 a46:=Tryz.isAgg122
 z46:=Tryz.sizeOf122
 v46:=Tryz.zeroValue122
 t51:=Tryz.underlying150
 a51:=Tryz.isAgg150
 z51:=Tryz.sizeOf150
 v51:=Tryz.zeroValue150
 t59:=Tryz.underlying136
 a59:=Tryz.isAgg136
 z59:=Tryz.sizeOf136
 v59:=Tryz.zeroValue136
 t146:=Tryz.underlying151
 a146:=Tryz.isAgg151
 z146:=Tryz.sizeOf151
 v146:=Tryz.zeroValue151
 g1:=by kernel_rfl}
open Go.RowKit Go.Lib in
theorem Tryz.strings_Cut (s sep : ByteArray) (m : Int) (w : World) (hs : s.size < 4294967281) (hm : w.cell? ⟨1, 0, none⟩ = some (.int .i64 m)) :
    Calls Tryz.prog 107 #[.string s, .string sep] w fun e w' => e = .returned (.tuple #[.string ⟨(Lib.cut s.data.toList sep.data.toList).1.toArray⟩, .string ⟨(Lib.cut s.data.toList sep.data.toList).2.1.toArray⟩, .bool (Lib.cut s.data.toList sep.data.toList).2.2]) ∧ ∃ n, w' = w.drewN n := Any.strings_Cut Tryz.lays145 s sep m w hs hm
def Tryz.lays149_ren:Go.Shelf.Ren:=⟨fun|149=>243|222=>256|n=>n,fun|9=>9|5=>5|3=>3|4=>4|n=>n,fun|n=>n⟩
theorem Tryz.lays149:Go.Proofs.Lays.n149 Tryz.prog Tryz.lays149_ren:={
 mixed:=by kernel_rfl
 f149:=Tryz.func243.trans ksf
 f222:=Tryz.func256.trans ksf
 t3:=Tryz.underlying3
 a3:=Tryz.isAgg3
 z3:=Tryz.sizeOf3
 v3:=Tryz.zeroValue3
 t4:=Tryz.underlying4
 a4:=Tryz.isAgg4
 z4:=Tryz.sizeOf4
 v4:=Tryz.zeroValue4
 t5:=Tryz.underlying5
 a5:=Tryz.isAgg5
 z5:=Tryz.sizeOf5
 v5:=Tryz.zeroValue5
 t9:=Tryz.underlying9
 a9:=Tryz.isAgg9
 z9:=Tryz.sizeOf9
 v9:=Tryz.zeroValue9}
open Go.RowKit Go.Lib in
theorem Tryz.strings_LastIndexByte (s : ByteArray) (c : Int) (hs : s.size < 4611686018427387904) (w : World) :
    Calls Tryz.prog 243 #[.string s, .int .u8 c] w fun e w' => e = .returned (.int .i64 (Lib.lastIndexByte s c)) ∧ w' = w := Any.strings_LastIndexByte Tryz.lays149 s c hs w
def Tryz.lays101_ren:Go.Shelf.Ren:=⟨fun|101=>171|208=>208|206=>232|n=>n,fun|9=>9|4=>4|3=>3|n=>n,fun|n=>n⟩
theorem Tryz.lays101:Go.Proofs.Lays.n101 Tryz.prog Tryz.lays101_ren:={
 mixed:=by kernel_rfl
 f101:=Tryz.func171.trans ksf
 f206:=Tryz.func232.trans ksf
 f208:=Tryz.func208.trans ksf
 t3:=Tryz.underlying3
 a3:=Tryz.isAgg3
 z3:=Tryz.sizeOf3
 v3:=Tryz.zeroValue3
 t4:=Tryz.underlying4
 a4:=Tryz.isAgg4
 z4:=Tryz.sizeOf4
 v4:=Tryz.zeroValue4
 t9:=Tryz.underlying9
 a9:=Tryz.isAgg9
 z9:=Tryz.sizeOf9
 v9:=Tryz.zeroValue9}
open Go.RowKit Go.Lib in
theorem Tryz.strings_TrimPrefix (s p : ByteArray) (w : World) :
    Calls Tryz.prog 171 #[.string s, .string p] w fun e w' => e = .returned (.string ⟨(Lib.trimPrefix s.data.toList p.data.toList).toArray⟩) ∧ w' = w := Any.strings_TrimPrefix Tryz.lays101 s p w
def Tryz.lays146_ren:Go.Shelf.Ren:=⟨fun|146=>230|221=>251|268=>259|138=>260|143=>127|195=>264|197=>162|218=>265|219=>160|260=>197|217=>155|225=>195|224=>95|267=>196|266=>193|314=>227|n=>n,fun|9=>9|31=>38|3=>3|4=>4|0=>0|105=>182|21=>21|5=>5|46=>122|119=>248|139=>251|138=>250|146=>151|51=>150|n=>n,fun|1=>1|3=>8|4=>9|n=>n⟩
theorem Tryz.lays146:Go.Proofs.Lays.n146 Tryz.prog Tryz.lays146_ren:={
 mixed:=by kernel_rfl
 f138:=Tryz.func260.trans ksf
 f143:=Tryz.func127.trans ksf
 f146:=Tryz.func230.trans ksf
 f195:=Tryz.func264.trans ksf
 f197:=Tryz.func162.trans ksf
 f217:=Tryz.func155.trans ksf
 f218:=Tryz.func265.trans ksf
 f219:=Tryz.func160.trans ksf
 f221:=Tryz.func251.trans ksf
 f224:=Tryz.func95.trans ksf
 f225:=Tryz.func195.trans ksf
 f260:=Tryz.func197.trans ksf
 f266:=Tryz.func193.trans ksf
 f267:=Tryz.func196.trans ksf
 f268:=Tryz.func259.trans ksf
 f314:=Tryz.func227.trans ksf
 t0:=Tryz.underlying0
 a0:=Tryz.isAgg0
 z0:=Tryz.sizeOf0
 v0:=Tryz.zeroValue0
 t3:=Tryz.underlying3
 a3:=Tryz.isAgg3
 z3:=Tryz.sizeOf3
 v3:=Tryz.zeroValue3
 t4:=Tryz.underlying4
 a4:=Tryz.isAgg4
 z4:=Tryz.sizeOf4
 v4:=Tryz.zeroValue4
 t5:=Tryz.underlying5
 a5:=Tryz.isAgg5
 z5:=Tryz.sizeOf5
 v5:=Tryz.zeroValue5
 t9:=Tryz.underlying9
 a9:=Tryz.isAgg9
 z9:=Tryz.sizeOf9
 v9:=Tryz.zeroValue9
 t21:=Tryz.underlying21
 a21:=Tryz.isAgg21
 z21:=Tryz.sizeOf21
 v21:=Tryz.zeroValue21
 t31:=Tryz.underlying38
 a31:=Tryz.isAgg38
 z31:=Tryz.sizeOf38
 v31:=Tryz.zeroValue38
 t46:=Tryz.underlying122
 a46:=Tryz.isAgg122
 z46:=Tryz.sizeOf122
 v46:=Tryz.zeroValue122
 t51:=Tryz.underlying150
 a51:=Tryz.isAgg150
 z51:=Tryz.sizeOf150
 v51:=Tryz.zeroValue150
 t105:=Tryz.underlying182
 a105:=Tryz.isAgg182
 z105:=Tryz.sizeOf182
 v105:=Tryz.zeroValue182
 t119:=Tryz.underlying248
 a119:=Tryz.isAgg248
 z119:=Tryz.sizeOf248
 t138:=Tryz.underlying250
 a138:=Tryz.isAgg250
 z138:=Tryz.sizeOf250
 v138:=Tryz.zeroValue250
 t139:=Tryz.underlying251
 a139:=Tryz.isAgg251
 z139:=Tryz.sizeOf251
 v139:=Tryz.zeroValue251
 t146:=Tryz.underlying151
 a146:=Tryz.isAgg151
 z146:=Tryz.sizeOf151
 v146:=Tryz.zeroValue151
 g1:=by kernel_rfl
 g3:=by kernel_rfl
 g4:=by kernel_rfl}
open Go.RowKit Go.Lib in
theorem Tryz.strings_Split (s sep : ByteArray) (m : Int) (w : World) (hs : s.size < 4294967281) (hm : w.cell? ⟨1, 0, none⟩ = some (.int .i64 m)) (h1 : 1 ≤ sep.size) :
    Calls Tryz.prog 230 #[.string s, .string sep] w fun e w' =>
      e = .returned (.slice (some ⟨w.heap.size, 0, none⟩) (Lib.countB s sep + 1) (Lib.countB s sep + 1)) ∧ w' = w.alloc (.cells ((Lib.splitB sep 0 (Lib.countB s sep) s).map Value.string).toArray 9) := Any.strings_Split Tryz.lays146 krf s sep m w hs hm h1
def Tryz.lays153_ren:Go.Shelf.Ren:=⟨fun|153=>135|152=>165|226=>166|227=>130|228=>161|137=>115|119=>199|224=>95|225=>195|217=>155|266=>193|n=>n,fun|9=>9|3=>3|4=>4|5=>5|21=>21|117=>157|116=>156|0=>0|46=>122|124=>160|n=>n,fun|n=>n⟩
theorem Tryz.lays153:Go.Proofs.Lays.n153 Tryz.prog Tryz.lays153_ren:={
 mixed:=by kernel_rfl
 f119:=Tryz.func199.trans ksf
 f137:=Tryz.func115.trans ksf
 f152:=Tryz.func165.trans ksf
 f153:=Tryz.func135.trans ksf
 f217:=Tryz.func155.trans ksf
 f224:=Tryz.func95.trans ksf
 f225:=Tryz.func195.trans ksf
 f226:=Tryz.func166.trans ksf
 f227:=Tryz.func130.trans ksf
 f228:=Tryz.func161.trans ksf
 f266:=Tryz.func193.trans ksf
 t0:=Tryz.underlying0
 a0:=Tryz.isAgg0
 z0:=Tryz.sizeOf0
 v0:=Tryz.zeroValue0
 t3:=Tryz.underlying3
 a3:=Tryz.isAgg3
 z3:=Tryz.sizeOf3
 v3:=Tryz.zeroValue3
 t4:=Tryz.underlying4
 a4:=Tryz.isAgg4
 z4:=Tryz.sizeOf4
 v4:=Tryz.zeroValue4
 t5:=Tryz.underlying5
 a5:=Tryz.isAgg5
 z5:=Tryz.sizeOf5
 v5:=Tryz.zeroValue5
 t9:=Tryz.underlying9
 a9:=Tryz.isAgg9
 z9:=Tryz.sizeOf9
 v9:=Tryz.zeroValue9
 t21:=Tryz.underlying21
 a21:=Tryz.isAgg21
 z21:=Tryz.sizeOf21
 v21:=Tryz.zeroValue21
 t46:=Tryz.underlying122
 a46:=Tryz.isAgg122
 z46:=Tryz.sizeOf122
 v46:=Tryz.zeroValue122
 t116:=Tryz.underlying156
 a116:=Tryz.isAgg156
 z116:=Tryz.sizeOf156
 t117:=Tryz.underlying157
 a117:=Tryz.isAgg157
 z117:=Tryz.sizeOf157
 v117:=Tryz.zeroValue157
 t124:=Tryz.underlying160
 a124:=Tryz.isAgg160
 z124:=Tryz.sizeOf160
 v124:=Tryz.zeroValue160}
open Go.RowKit Go.Lib in
theorem Tryz.strings_IndexAny_none (s chars : ByteArray) (w : World) (h0 : chars.size = 0) :
    Calls Tryz.prog 135 #[.string s, .string chars] w fun e w' => e = .returned (.int .i64 (Lib.indexAny s.data.toList chars.data.toList)) ∧ w' = w := Any.strings_IndexAny_none Tryz.lays153 s chars w h0
open Go.RowKit Go.Lib in
theorem Tryz.strings_IndexAny_one (s chars : ByteArray) (w : World) (h1 : chars.size = 1) (hascii : ∀ (j : Nat) b, chars.data.toList[j]? = some b → b.toNat < 128) :
    Calls Tryz.prog 135 #[.string s, .string chars] w fun e w' => e = .returned (.int .i64 (Lib.indexAny s.data.toList chars.data.toList)) ∧ w' = w := Any.strings_IndexAny_one Tryz.lays153 s chars w h1 hascii
open Go.RowKit Go.Lib in
theorem Tryz.strings_IndexAny_long (hv116 : ∀ w, (zeroValue 156).run Tryz.prog w = .ok (.agg (Array.replicate 256 (.bool false))) w) (s chars : ByteArray) (w : World) (h2 : 2 ≤ chars.size) (h8 : 8 < s.size) (hs : s.size < 4294967281) (hcs : chars.size < 4294967281) (hascii : ∀ (j : Nat) b, chars.data.toList[j]? = some b → b.toNat < 128) :
    Calls Tryz.prog 135 #[.string s, .string chars] w fun e w' => e = .returned (.int .i64 (Lib.indexAny s.data.toList chars.data.toList)) ∧ w' = ((w.alloc (.cells (Lib.setCells chars.data.toList) 156)).alloc (.cells (Lib.setCells chars.data.toList) 156)) := Any.strings_IndexAny_long Tryz.lays153 hv116 krf s chars w h2 h8 hs hcs hascii
open Go.RowKit Go.Lib in
theorem Tryz.strings_IndexAny_laid (s chars : ByteArray) (w : World) (hs : s.size < 4294967281) (hcs : chars.size < 4294967281) (has : ∀ (j : Nat) b, s.data.toList[j]? = some b → b.toNat < 128) (hac : ∀ (j : Nat) b, chars.data.toList[j]? = some b → b.toNat < 128) :
    Calls Tryz.prog 135 #[.string s, .string chars] w fun e w' => e = .returned (.int .i64 (Lib.indexAny s.data.toList chars.data.toList)) ∧ Below w.heap.size w w' := Any.strings_IndexAny_laid Tryz.lays153 krf s chars w hs hcs has hac
def Tryz.lays185_ren:Go.Shelf.Ren:=⟨fun|185=>64|187=>92|115=>93|253=>94|224=>95|254=>96|255=>122|291=>123|n=>n,fun|37=>23|3=>3|4=>4|0=>0|5=>5|46=>122|9=>9|146=>151|51=>150|n=>n,fun|1=>1|n=>n⟩
theorem Tryz.lays185:Go.Proofs.Lays.n185 Tryz.prog Tryz.lays185_ren:={
 mixed:=by kernel_rfl
 f115:=Tryz.func93.trans ksf
 f185:=Tryz.func64.trans ksf
 f187:=Tryz.func92.trans ksf
 f224:=Tryz.func95.trans ksf
 f253:=Tryz.func94.trans ksf
 f254:=Tryz.func96.trans ksf
 f255:=Tryz.func122.trans ksf
 f291:=Tryz.func123.trans ksf
 t0:=Tryz.underlying0
 a0:=Tryz.isAgg0
 z0:=Tryz.sizeOf0
 v0:=Tryz.zeroValue0
 t3:=Tryz.underlying3
 a3:=Tryz.isAgg3
 z3:=Tryz.sizeOf3
 v3:=Tryz.zeroValue3
 t4:=Tryz.underlying4
 a4:=Tryz.isAgg4
 z4:=Tryz.sizeOf4
 v4:=Tryz.zeroValue4
 t5:=Tryz.underlying5
 a5:=Tryz.isAgg5
 z5:=Tryz.sizeOf5
 v5:=Tryz.zeroValue5
 t9:=Tryz.underlying9
 a9:=Tryz.isAgg9
 z9:=Tryz.sizeOf9
 v9:=Tryz.zeroValue9
 t37:=Tryz.underlying23
 a37:=Tryz.isAgg23
 z37:=Tryz.sizeOf23
 v37:=Tryz.zeroValue23
 t46:=Tryz.underlying122
 a46:=Tryz.isAgg122
 z46:=Tryz.sizeOf122
 v46:=Tryz.zeroValue122
 t51:=Tryz.underlying150
 a51:=Tryz.isAgg150
 z51:=Tryz.sizeOf150
 v51:=Tryz.zeroValue150
 t146:=Tryz.underlying151
 a146:=Tryz.isAgg151
 z146:=Tryz.sizeOf151
 v146:=Tryz.zeroValue151
 g1:=by kernel_rfl}
open Go.Proofs Go.RowKit Go.Lib in
theorem Tryz.bytes_Index_at (a1 a2 : Addr) (n c1 k c2 : Nat) (xs ys : List Int) (m : Int) (w : World) (hx : xs.length = n) (hy : ys.length = k) (hr1 : ∀ x ∈ xs, 0 ≤ x ∧ x < 256) (hr2 : ∀ y ∈ ys, 0 ≤ y ∧ y < 256) (hc1 : ∀ i, i < n → w.cell? (a1.add i) = some (.int .u8 (xs.getD i 0))) (hc2 : ∀ i, i < k → w.cell? (a2.add i) = some (.int .u8 (ys.getD i 0))) (hcap : n ≤ c1) (hs : n < 4294967281) (hk : k ≤ 9223372036854775807) (hm : w.cell? ⟨1, 0, none⟩ = some (.int .i64 m)) :
    Calls Tryz.prog 64 #[.slice (some a1) n c1, .slice (some a2) k c2] w fun e w' => e = .returned (.int .i64 (Lib.index (Lib.bytesOf xs) (Lib.bytesOf ys))) ∧ ∃ q, w' = w.drewN q := Any.bytes_Index_at Tryz.lays185 a1 a2 n c1 k c2 xs ys m w hx hy hr1 hr2 hc1 hc2 hcap hs hk hm
open Go.Proofs Go.RowKit Go.Lib in
theorem Tryz.bytes_Index_nil (p2 : Option Addr) (k c2 : Nat) (w : World) (hk : k ≤ 9223372036854775807) (h1 : k = 1 → ∃ b2 o2 cv, p2 = some ⟨b2, o2, none⟩ ∧ w.cell? ⟨b2, o2, none⟩ = some (.int .u8 cv)) :
    Calls Tryz.prog 64 #[.slice none 0 0, .slice p2 k c2] w fun e w' => e = .returned (.int .i64 (if k = 0 then 0 else -1)) ∧ w' = w := Any.bytes_Index_nil Tryz.lays185 p2 k c2 w hk h1
end Go.Proofs
set_option maxRecDepth 20000
namespace Go.Proofs
open Go.Wk Go.Px
theorem sh_Insert24{w:World}(l:List (Str×Str))(x:(Str×Str))(i:Int)(o:Option Nat)(a:Option Addr)(cap b:Nat)(hM:Hp w (aix [rwt aaa 44 2 o a cap l,blk b (aaa x) 44]) [rwt aaa 44 2 o a cap l,blk b (aaa x) 44] w)(hg:0≤i∧i≤(l.length:Int)∧(l.length+1)*32≤140737488355328):CR Tryz.prog 24 [.slice a l.length cap,.int .i64 i,.slice (some ⟨b,0,none⟩) 1 1] w fun v w'=>∃o' a' cap',v=.slice a' (akp l i x).length cap'∧Hp w (aix [rwt aaa 44 2 o a cap l,blk b (aaa x) 44]) [rwt aaa 44 2 o' a' cap' (akp l i x),blk b (aaa x) 44] w':=by
 obtain⟨hi0,hi1,hb⟩:=hg;have hn63:l.length+1≤140737488355328:=Nat.le_trans (Nat.le_mul_of_pos_right _ (by decide)) hb;have hJ:i.toNat≤l.length:=by omega
 have hcap:l.length≤cap:=hM.rwcap 0 rfl;have hcM:=hM.rwcapM 0 rfl;have hcM2:cap≤9223372036854775807:=hcM;refine enter (k:=95) Tryz.func24 rfl rfl (Nat.le_of_ble_eq_true rfl) ?_;refine aew ?_;refine abi ?_;refine aex (Value.slice none 0 0) krf ?_;refine afq ?_;refine aci ?_;refine aew ?_;refine abi ?_;refine abk (Value.slice a l.length cap) krf ?_;refine abk (Value.int .i64 i) krf ?_;refine abj rfl rfl (ahw a l.length cap 44 2 .i64 i Tryz.underlying22 krf krf krf ⟨hi0,hi1⟩) ?_;refine afq ?_;refine aci ?_;refine aew ?_;refine abi ?_;refine abk (Value.slice (some ⟨b,0,none⟩) 1 1) krf ?_;refine w_lenS (some ⟨b,0,none⟩) 1 1 44 Tryz.underlying22 krf ?_;refine aex (Value.int .i64 1) krf ?_;refine afq ?_;refine aci ?_;refine aew ?_;refine aew ?_;refine abi ?_;refine abk (Value.int .i64 1) krf ?_;refine w_eql .i64 1 0 krf krf ?_;refine afq ?_;refine aci ?_;refine c_kf (b:=decide ((1:Int)=0)) krf (by decide) ?_;refine c_skip ?_;refine aci ?_;refine aew ?_;refine abi ?_;refine abk (Value.slice a l.length cap) krf ?_;refine w_lenS a l.length cap 44 Tryz.underlying22 krf ?_;refine aex (Value.int .i64 (l.length:Int)) krf ?_;refine afq ?_;refine aci ?_;refine aew ?_;refine aew ?_;refine abi ?_;refine abk (Value.int .i64 i) krf ?_;refine abk (Value.int .i64 (l.length:Int)) krf ?_;refine w_eql .i64 i (l.length:Int) krf krf ?_;refine afq ?_;refine aci ?_;refine c_dec (p:=i=(l.length:Int)) krf (fun he=> ?_) (fun hne=> ?_)
 ·skip
  refine aew ?_;refine abi ?_;refine abk (Value.slice a l.length cap) krf ?_;refine abk (Value.slice (some ⟨b,0,none⟩) 1 1) krf ?_;refine acf hM 0 o a (some ⟨b,0,none⟩) cap 1 44 2 32 l [x] aac rfl Tryz.underlying22 (by unfold TI;kernel_rfl) (by decide) (by decide) krf krf (show Rd w _ ([x].flatMap aaa)from by rw [List.flatMap_cons,List.flatMap_nil,List.append_nil];exact hM.rdblk 1 rfl) (by simpa using hb) ?_;intro o' a' cap' w' hH';refine aex (Value.slice a' (l++[x]).length cap') krf ?_;refine afq ?_;refine aci ?_;refine c_ret ?_;refine s_ret ?_;refine akx (Value.slice a' (l++[x]).length cap') rfl krf ?_;have e:akp l i x=l++[x]:=by subst he;simp [akp]
  rw [e];exact⟨o',a',cap',rfl,hH'⟩
 ·skip
  refine c_skip ?_;refine aci ?_;refine aew ?_;refine aew ?_;refine abi ?_;refine abk (Value.int .i64 (l.length:Int)) krf ?_;refine abk (Value.int .i64 1) krf ?_;refine aao (l.length:Int) 1 krf krf ⟨by omega,by omega⟩ ?_;refine abk (Value.slice a l.length cap) krf ?_;refine w_cap a l.length cap 44 Tryz.underlying22 krf ?_;refine w_gtr .i64 ((l.length:Int)+1) (cap:Int) krf krf ?_;refine afq ?_;refine aci ?_;refine c_dec (p:=(cap:Int)<(l.length:Int)+1) krf (fun hc=> ?_) (fun hc=> ?_)
  ·skip
   refine aew ?_;refine abi ?_;refine abk (Value.slice a l.length cap) krf ?_;refine abk (Value.int .i64 i) krf ?_;refine abj rfl rfl (x_slToC a l.length cap 44 2 .i64 i Tryz.underlying22 krf krf krf ⟨hi0,by omega⟩) ?_;refine abk (Value.int .i64 (l.length:Int)) krf ?_;refine abk (Value.int .i64 1) krf ?_;refine aao (l.length:Int) 1 krf krf ⟨by omega,by omega⟩ ?_;refine abk (Value.int .i64 i) krf ?_;refine w_sub64 ((l.length:Int)+1) i krf krf ⟨by omega,by omega⟩ ?_;have e1:i.toNat+(l.length+1-i.toNat)=l.length+1:=by omega
   refine w_appZ hM 0 o a cap 44 2 32 l i.toNat (l.length+1-i.toNat) .i64 aac rfl Tryz.underlying22 Tryz.underlying3 (by unfold TI;kernel_rfl) (by decide) (by decide) hJ (by omega) (by omega) (by rw [e1];exact hb) krf (Eq.trans (b:=Value.int .i64 ((l.length:Int)+1-i)) krf (congrArg (Value.int .i64) (by omega))) ?_;intro g' G cs' w' hl' hG hGm ht' hH';rw [e1]at hG;have hGM2:G≤9223372036854775807:=hGm;refine aex (Value.slice (some ⟨g',0,none⟩) (l.length+1) G) (Eq.trans (b:=Value.slice (some ⟨g',0,none⟩) (i.toNat+(l.length+1-i.toNat)) G) krf (aae e1)) ?_;refine afq ?_;refine aci ?_;have hc':(l.length+1)*2≤cs'.length:=by rw [hl'];exact Nat.mul_le_mul_right _ hG
   obtain⟨hf1,hf2,hf3⟩:=ins_new_len aac l x i.toNat hJ cs' hc';refine aew ?_;refine abi ?_;refine abk (Value.slice (some ⟨g',0,none⟩) (l.length+1) G) krf ?_;refine abk (Value.int .i64 i) krf ?_;refine abj rfl rfl (ahw (some ⟨g',0,none⟩) (l.length+1) G 44 2 .i64 i Tryz.underlying22 krf krf krf ⟨hi0,by omega⟩) ?_;refine abk (Value.slice (some ⟨b,0,none⟩) 1 1) krf ?_;refine w_copyB hH' 0 g' (i.toNat*2) (l.length+1-i.toNat) (G-i.toNat) (slF (some ⟨g',0,none⟩) G i.toNat 2) (some ⟨b,0,none⟩) 1 1 44 2 cs' (aaa x) rfl Tryz.underlying22 krf krf (slF_at (by omega)) krf (hH'.rdblk 2 rfl) (by rw [aac.len,show Nat.min 1 (l.length+1-i.toNat)=1 from Nat.min_eq_left (by omega),Nat.one_mul]) hf1 (aac.one x) ?_;intro w2 hH2;refine afq ?_;refine aci ?_;refine aew ?_;refine cdr 8 hH2 (akc (akc agr)) ?_;intro w3 hH3;refine rp 5 [0,1,2] ?_;refine rt 3 (Value.int .i64 (i+1)) rfl rfl (aet rfl (by intro w hS_;exact x_add64 i 1 krf krf ⟨by omega,by omega⟩)) ?_;refine rt 4 (Value.slice (slF (some ⟨g',0,none⟩) G (i+1).toNat 2) ((l.length+1)-(i+1).toNat) (G-(i+1).toNat)) rfl rfl (aet rfl (by intro w hS_;exact ahw (some ⟨g',0,none⟩) (l.length+1) G 44 2 .i64 (i+1) Tryz.underlying22 krf krf krf ⟨by omega,by omega⟩)) ?_;refine rp 1 [5,6] ?_;refine rt 7 (Value.slice (slF a cap i.toNat 2) (l.length-i.toNat) (cap-i.toNat)) rfl rfl (aet rfl (by intro w hS_;exact ahw a l.length cap 44 2 .i64 i Tryz.underlying22 krf krf krf ⟨hi0,by omega⟩)) ?_;refine ajk krf ?_;refine w_copyB hH3 0 g' ((i.toNat+1)*2) ((l.length+1)-(i+1).toNat) (G-(i+1).toNat) (slF (some ⟨g',0,none⟩) G (i+1).toNat 2) (slF a cap i.toNat 2) (l.length-i.toNat) (cap-i.toNat) 44 2 _ ((l.drop i.toNat).flatMap aaa) rfl Tryz.underlying22 krf krf (by rw [show(i+1).toNat=i.toNat+1 by omega];exact slF_at (by omega)) krf (Rd.dropT aac cap i.toNat hcap (hH3.rdrw 1 rfl)) (by rw [aac.flat,List.length_drop,show Nat.min (l.length-i.toNat) (l.length+1-(i+1).toNat)=l.length-i.toNat from Nat.min_eq_left (by omega)]) hf2 (aac.cells _) ?_;intro w4 hH4;refine afq ?_;refine aci ?_;refine aew ?_;refine abi ?_;refine abk (Value.slice (some ⟨g',0,none⟩) (l.length+1) G) krf ?_;refine aex (Value.slice (some ⟨g',0,none⟩) (l.length+1) G) krf ?_;refine afq ?_;refine aci ?_;refine c_ret ?_;refine s_ret ?_;refine akx (Value.slice (some ⟨g',0,none⟩) (l.length+1) G) rfl krf ?_;have h5:=hH4.closerw (f:=aaa) 0 2 G (akp l i x) rfl (by rw [hf3];exact hl') (by rw [ako];exact hG) hGm (by rw [ako];exact ins_new aac l x i.toNat hJ cs' hc' ht');exact⟨some g',(some ⟨g',0,none⟩),G,aae (ako l i x).symm,h5.sub (List.Sublist.cons_cons _ (List.Sublist.cons _ (List.Sublist.refl _)))⟩
  ·skip
   refine c_skip ?_;refine aci ?_;cases o with
   |none=>
    obtain⟨rfl,rfl,_⟩:=hM.nonerw 0 rfl;simp at hc
   |some g=>
    have hbg:b≠g:=fun h=>(List.rel_of_pairwise_cons hM.sep (List.mem_singleton.2 rfl) g rfl) (congrArg some h)
    obtain⟨cs,rfl,hcl,htk,_,hcm,hH1⟩:=hM.openrw 0 rfl;have hc':(l.length+1)*2≤cs.length:=by rw [hcl];exact Nat.mul_le_mul_right _ (by omega)
    obtain⟨hf1,hf2,hf3⟩:=ins_room_len aac l x i.toNat hJ cs hc';refine aew ?_;refine abi ?_;refine abk (Value.slice (some ⟨g,0,none⟩) l.length cap) krf ?_;refine abk (Value.int .i64 (l.length:Int)) krf ?_;refine abk (Value.int .i64 1) krf ?_;refine aao (l.length:Int) 1 krf krf ⟨by omega,by omega⟩ ?_;refine abj rfl rfl (x_slToC (some ⟨g,0,none⟩) l.length cap 44 2 .i64 ((l.length:Int)+1) Tryz.underlying22 krf krf krf ⟨by omega,by omega⟩) ?_;refine aex (Value.slice (some ⟨g,0,none⟩) (l.length+1) cap) (Eq.trans (b:=Value.slice (some ⟨g,0,none⟩) ((l.length:Int)+1).toNat cap) krf (aae (by omega))) ?_;refine afq ?_;refine aci ?_;refine aew ?_;refine aew ?_;refine abi ?_;refine abk (Value.slice (some ⟨b,0,none⟩) 1 1) krf ?_;refine abk (Value.slice (some ⟨g,0,none⟩) (l.length+1) cap) krf ?_;refine abk (Value.int .i64 i) krf ?_;refine abk (Value.int .i64 1) krf ?_;refine aao i 1 krf krf ⟨by omega,by omega⟩ ?_;refine abj rfl rfl (ahw (some ⟨g,0,none⟩) (l.length+1) cap 44 2 .i64 (i+1) Tryz.underlying22 krf krf krf ⟨by omega,by omega⟩) ?_;refine w_overlaps (tS:=22) (tR:=4) hH1 0 1 g b ((i.toNat+1)*2) 44 44 2 (slF (some ⟨g,0,none⟩) cap (i+1).toNat 2) cs (aaa x) (l.length+1-(i+1).toNat) (cap-(i+1).toNat) 1 53 rfl rfl hbg (fun h=>by rw [h]at hcl;simp at hcl;omega) Tryz.underlying22 (fun _=>krf) (by rw [show(i+1).toNat=i.toNat+1 by omega];exact slF_at (by omega)) krf krf Tryz.func53 krf krf krf krf ?_;refine w_not false krf ?_;refine afq ?_;refine aci ?_;refine c_kt (b:= !false) krf rfl ?_;have hR0:∀w3,Rd w3 (some ⟨g,0,none⟩) cs→Rd w3 (slF (some ⟨g,0,none⟩) cap i.toNat 2) ((l.drop i.toNat).flatMap aaa):=fun w3 h=>by rw [slF_at (by omega),←drop_flat aac l i.toNat hJ cs htk];have:=(h.drop (i.toNat*2)).take ((l.length-i.toNat)*2);rw [abh,Nat.zero_add]at this;exact this
    refine aew ?_;refine cdr 8 hH1 (akc (akc agr)) ?_;intro w3 hH3;refine rp 5 [0,1,2] ?_;refine rt 3 (Value.int .i64 (i+1)) rfl rfl (aet rfl (by intro w hS_;exact x_add64 i 1 krf krf ⟨by omega,by omega⟩)) ?_;refine rt 4 (Value.slice (slF (some ⟨g,0,none⟩) cap (i+1).toNat 2) ((l.length+1)-(i+1).toNat) (cap-(i+1).toNat)) rfl rfl (aet rfl (by intro w hS_;exact ahw (some ⟨g,0,none⟩) (l.length+1) cap 44 2 .i64 (i+1) Tryz.underlying22 krf krf krf ⟨by omega,by omega⟩)) ?_;refine rp 1 [5,6] ?_;refine rt 7 (Value.slice (slF (some ⟨g,0,none⟩) cap i.toNat 2) ((l.length+1)-i.toNat) (cap-i.toNat)) rfl rfl (aet rfl (by intro w hS_;exact ahw (some ⟨g,0,none⟩) (l.length+1) cap 44 2 .i64 i Tryz.underlying22 krf krf krf ⟨hi0,by omega⟩)) ?_;refine ajk krf ?_;refine w_copyB hH3 0 g ((i.toNat+1)*2) ((l.length+1)-(i+1).toNat) (cap-(i+1).toNat) (slF (some ⟨g,0,none⟩) cap (i+1).toNat 2) (slF (some ⟨g,0,none⟩) cap i.toNat 2) ((l.length+1)-i.toNat) (cap-i.toNat) 44 2 cs ((l.drop i.toNat).flatMap aaa) rfl Tryz.underlying22 krf krf (by rw [show(i+1).toNat=i.toNat+1 by omega];exact slF_at (by omega)) krf (hR0 _ (hH3.rdblk 0 rfl)) (by rw [aac.flat,List.length_drop,show Nat.min (l.length+1-i.toNat) (l.length+1-(i+1).toNat)=l.length-i.toNat from(Nat.min_eq_right (by omega)).trans (by omega)]) hf1 (aac.cells _) ?_;intro w4 hH4;refine afq ?_;refine aci ?_;refine aew ?_;refine abi ?_;refine abk (Value.slice (some ⟨g,0,none⟩) (l.length+1) cap) krf ?_;refine abk (Value.int .i64 i) krf ?_;refine abj rfl rfl (ahw (some ⟨g,0,none⟩) (l.length+1) cap 44 2 .i64 i Tryz.underlying22 krf krf krf ⟨hi0,by omega⟩) ?_;refine abk (Value.slice (some ⟨b,0,none⟩) 1 1) krf ?_;refine w_copyB hH4 0 g (i.toNat*2) (l.length+1-i.toNat) (cap-i.toNat) (slF (some ⟨g,0,none⟩) cap i.toNat 2) (some ⟨b,0,none⟩) 1 1 44 2 _ (aaa x) rfl Tryz.underlying22 krf krf (slF_at (by omega)) krf (hH4.rdblk 1 rfl) (by rw [aac.len,show Nat.min 1 (l.length+1-i.toNat)=1 from Nat.min_eq_left (by omega),Nat.one_mul]) hf2 (aac.one x) ?_;intro w5 hH5;refine afq ?_;refine aci ?_;refine aew ?_;refine abi ?_;refine abk (Value.slice (some ⟨g,0,none⟩) (l.length+1) cap) krf ?_;refine aex (Value.slice (some ⟨g,0,none⟩) (l.length+1) cap) krf ?_;refine afq ?_;refine aci ?_;refine c_ret ?_;refine s_ret ?_;refine akx (Value.slice (some ⟨g,0,none⟩) (l.length+1) cap) rfl krf ?_;have h5:=hH5.closerw (f:=aaa) 0 2 cap (akp l i x) rfl (by rw [hf3];exact hcl) (by rw [ako];omega) hcm (by rw [ako];exact ins_room aac l x i.toNat hJ cs hc' htk);exact⟨some g,(some ⟨g,0,none⟩),cap,aae (ako l i x).symm,h5⟩
theorem sh_Delete35{w:World}(l:List (Str×Str))(i j:Int)(o:Option Nat)(a:Option Addr)(cap:Nat)(hM:Hp w (aix [rwt aaa 44 2 o a cap l]) [rwt aaa 44 2 o a cap l] w)(hg:0≤i∧i≤j∧j≤(l.length:Int)):CR Tryz.prog 35 [.slice a l.length cap,.int .i64 i,.int .i64 j] w fun v w'=>∃o' a' cap',v=.slice a' (delL l i j).length cap'∧Hp w (aix [rwt aaa 44 2 o a cap l]) [rwt aaa 44 2 o' a' cap' (delL l i j)] w':=by
 obtain⟨hi0,hij,hj1⟩:=hg;have hcap:l.length≤cap:=hM.rwcap 0 rfl;have hcM2:cap≤9223372036854775807:=hM.rwcapM 0 rfl;refine enter (k:=33) Tryz.func35 rfl rfl (Nat.le_of_ble_eq_true rfl) ?_;refine aew ?_;refine abi ?_;refine aex (Value.slice none 0 0) krf ?_;refine afq ?_;refine aci ?_;refine aew ?_;refine abi ?_;refine abk (Value.slice a l.length cap) krf ?_;refine abk (Value.int .i64 i) krf ?_;refine abk (Value.int .i64 j) krf ?_;refine abk (Value.slice a l.length cap) krf ?_;refine w_lenS a l.length cap 44 Tryz.underlying22 krf ?_;refine abj rfl rfl (x_slLHM a l.length cap 44 2 .i64 .i64 .i64 i j (l.length:Int) Tryz.underlying22 krf krf krf krf krf ⟨hi0,hij,hj1,by omega⟩) ?_;refine afq ?_;refine aci ?_;refine aew ?_;refine aew ?_;refine abi ?_;refine abk (Value.int .i64 i) krf ?_;refine abk (Value.int .i64 j) krf ?_;refine w_eql .i64 i j krf krf ?_;refine afq ?_;refine aci ?_;refine c_dec (p:=i=j) krf (fun he=> ?_) (fun hne=> ?_)
 ·skip
  refine aew ?_;refine abi ?_;refine abk (Value.slice a l.length cap) krf ?_;refine aex (Value.slice a l.length cap) krf ?_;refine afq ?_;refine aci ?_;refine c_ret ?_;refine s_ret ?_;refine akx (Value.slice a l.length cap) rfl krf ?_;have e:delL l i j=l:=by subst he;simp [delL]
  rw [e];exact⟨o,a,cap,rfl,hM⟩
 ·skip
  refine c_skip ?_;refine aci ?_;cases o with
  |none=>
   obtain⟨rfl,rfl,_⟩:=hM.nonerw 0 rfl;simp at hj1
   omega
  |some g=>
   obtain⟨cs,rfl,hcl,htk,_,hcm,hH1⟩:=hM.openrw 0 rfl;have hcs:l.length*2≤cs.length:=by rw [hcl];exact Nat.mul_le_mul_right _ hcap
   obtain⟨hf1,hf2,hf3,hf4⟩:=del_cells aac l i.toNat j.toNat (by omega) (by omega) cs ((List.replicate (j.toNat-i.toNat) (([]:Str),([]:Str))).flatMap aaa) hcs (by rw [aac.flat];simp) htk;refine aew ?_;refine abi ?_;refine abk (Value.slice (some ⟨g,0,none⟩) l.length cap) krf ?_;refine w_lenS (some ⟨g,0,none⟩) l.length cap 44 Tryz.underlying22 krf ?_;refine aex (Value.int .i64 (l.length:Int)) krf ?_;refine afq ?_;refine aci ?_;have hR0:∀w3,Rd w3 (some ⟨g,0,none⟩) cs→Rd w3 (some ⟨g,0,none⟩) (l.flatMap aaa):=fun w3 h=>htk▸h.take (l.length*2)
   refine aew ?_;refine cdr 6 hH1 (akc agr) ?_;intro w1 hH1;refine rp 4 [0,1] ?_;refine rt 2 (Value.slice (some ⟨g,0,none⟩) i.toNat cap) rfl rfl (aet rfl (by intro w hS_;exact x_slToC (some ⟨g,0,none⟩) l.length cap 44 2 .i64 i Tryz.underlying22 krf krf krf ⟨hi0,by omega⟩)) ?_;refine rp 1 [3,4] ?_;refine rt 5 (Value.slice (slF (some ⟨g,0,none⟩) cap j.toNat 2) (l.length-j.toNat) (cap-j.toNat)) rfl rfl (aet rfl (by intro w hS_;exact ahw (some ⟨g,0,none⟩) l.length cap 44 2 .i64 j Tryz.underlying22 krf krf krf ⟨by omega,hj1⟩)) ?_;refine ajk krf ?_;refine w_appRoomB hH1 0 g i.toNat cap (slF (some ⟨g,0,none⟩) cap j.toNat 2) (l.length-j.toNat) (cap-j.toNat) 44 2 32 cs ((l.drop j.toNat).flatMap aaa) rfl Tryz.underlying22 (by unfold TI;kernel_rfl) krf krf (Rd.dropT aac cap j.toNat hcap (hR0 _ (hH1.rdblk 0 rfl))) (by rw [aac.flat,List.length_drop]) (by omega) hf1 (aac.cells _) ?_;intro w2 hH2;refine aex (Value.slice (some ⟨g,0,none⟩) (i.toNat+(l.length-j.toNat)) cap) krf ?_;refine afq ?_;refine aci ?_;refine aew ?_;refine abi ?_;refine abk (Value.slice (some ⟨g,0,none⟩) (i.toNat+(l.length-j.toNat)) cap) krf ?_;refine abk (Value.slice (some ⟨g,0,none⟩) (i.toNat+(l.length-j.toNat)) cap) krf ?_;refine w_lenS (some ⟨g,0,none⟩) (i.toNat+(l.length-j.toNat)) cap 44 Tryz.underlying22 krf ?_;refine abk (Value.int .i64 (l.length:Int)) krf ?_;refine abj rfl rfl (x_slLH (some ⟨g,0,none⟩) (i.toNat+(l.length-j.toNat)) cap 44 2 .i64 .i64 (((i.toNat+(l.length-j.toNat)):Nat):Int) (l.length:Int) Tryz.underlying22 krf krf krf krf ⟨by omega,by omega,by omega⟩) ?_;have hm1:((l.length:Int)).toNat-(((i.toNat+(l.length-j.toNat)):Nat):Int).toNat=j.toNat-i.toNat:=by omega
   refine w_clearB0 hH2 0 g ((i.toNat+(l.length-j.toNat))*2) (j.toNat-i.toNat) (cap-(((i.toNat+(l.length-j.toNat)):Nat):Int).toNat) 44 2 (slF (some ⟨g,0,none⟩) cap (((i.toNat+(l.length-j.toNat)):Nat):Int).toNat 2) _ (([]:Str),([]:Str)) aac rfl Tryz.underlying22 (by decide) krf (Eq.trans (b:=Value.slice (slF (some ⟨g,0,none⟩) cap (((i.toNat+(l.length-j.toNat)):Nat):Int).toNat 2) (((l.length:Int)).toNat-(((i.toNat+(l.length-j.toNat)):Nat):Int).toNat) (cap-(((i.toNat+(l.length-j.toNat)):Nat):Int).toNat)) krf (aae hm1)) (by rw [Int.toNat_natCast];exact slF_at (by omega)) (by omega) (by have:=hf2;rw [aac.flat,List.length_replicate]at this;exact this) ?_;intro w3 hH3;refine afq ?_;refine aci ?_;refine aew ?_;refine abi ?_;refine abk (Value.slice (some ⟨g,0,none⟩) (i.toNat+(l.length-j.toNat)) cap) krf ?_;refine aex (Value.slice (some ⟨g,0,none⟩) (i.toNat+(l.length-j.toNat)) cap) krf ?_;refine afq ?_;refine aci ?_;refine c_ret ?_;refine akx (Value.slice (some ⟨g,0,none⟩) (i.toNat+(l.length-j.toNat)) cap) rfl krf ?_;have hdl:(delL l i j).length=(i.toNat+(l.length-j.toNat)):=by unfold delL;simp;omega
   have h5:=hH3.closerw (f:=aaa) 0 2 cap (delL l i j) rfl (by rw [hf3];exact hcl) (by rw [hdl];omega) hcm (by rw [hdl];exact hf4);exact⟨some g,(some ⟨g,0,none⟩),cap,aae hdl.symm,h5⟩
open Go.Value renaming slice → Vs, int → Vi, bool → Vb, pointer → Vp
open Go.Lib renaming join → zaL
open List renaming flatMap → zao, flatMap_cons → zay, length_map → zat, map_congr_left → zaA
open Nat renaming le_of_ble_eq_true → zaS, lt_of_lt_of_le → zap, lt_succ_self → zag
theorem sh_IndexByte(s:List UInt8)(c:UInt8)(w:World):CR Tryz.prog 115 [str s,bt c] w fun v w'=>v=.int .i64 (ixb (·==c) s)∧Hp w [] [] w':=by
 have h:=Tryz.strings_IndexByte ⟨s.toArray⟩ (c.toNat:Int) w;rw [show((c.toNat:Int).toNat.toUInt8)=c by simp]at h;rw [←indexByte_ixb];exact ala h
theorem sh_LastIndexByte(s:List UInt8)(c:UInt8)(w:World)(hs:s.length≤1000000000):CR Tryz.prog 243 [str s,bt c] w fun v w'=>v=.int .i64 (lixb (·==c) s)∧Hp w [] [] w':=by
 have h:=Tryz.strings_LastIndexByte ⟨s.toArray⟩ (c.toNat:Int) (by show s.length<_;omega) w;rw [lastIndexByte_lixb]at h;exact ala h
theorem sh_Contains(s t:List UInt8)(w:World)(hs:s.length≤1000000000)(hG:Gl w):CR Tryz.prog 240 [str s,str t] w fun v w'=>v=.bool (Lib.contains s t)∧Hp w [] [] w':=by
 obtain⟨m,hm⟩:=hG.cell;exact ala (Tryz.strings_Contains ⟨s.toArray⟩ ⟨t.toArray⟩ m w (by show s.length<_;omega) hm)
theorem sh_Index(s t:List UInt8)(w:World)(hs:s.length≤1000000000)(hG:Gl w):CR Tryz.prog 127 [str s,str t] w fun v w'=>v=.int .i64 (Lib.index s t)∧Hp w [] [] w':=by
 obtain⟨m,hm⟩:=hG.cell;exact ala (Tryz.strings_Index ⟨s.toArray⟩ ⟨t.toArray⟩ m w (by show s.length<_;omega) hm)
theorem sh_Cut(s t:List UInt8)(w:World)(hs:s.length≤1000000000)(hG:Gl w):CR Tryz.prog 107 [str s,str t] w fun v w'=>v=.tuple #[str (Lib.cut s t).1,str (Lib.cut s t).2.1,.bool (Lib.cut s t).2.2]∧Hp w [] [] w':=by
 obtain⟨m,hm⟩:=hG.cell;exact cr_drew (Tryz.strings_Cut ⟨s.toArray⟩ ⟨t.toArray⟩ m w (by show s.length<_;omega) hm)
theorem sh_CutPrefix(s t:List UInt8)(w:World):CR Tryz.prog 212 [str s,str t] w fun v w'=>v=.tuple #[str (Lib.trimPrefix s t),.bool (Lib.hasPrefix s t)]∧Hp w [] [] w':=by
 exact ala (Tryz.strings_CutPrefix ⟨s.toArray⟩ ⟨t.toArray⟩ w)
theorem sh_TrimPrefix(s t:List UInt8)(w:World):CR Tryz.prog 171 [str s,str t] w fun v w'=>v=str (Lib.trimPrefix s t)∧Hp w [] [] w':=by
 exact ala (Tryz.strings_TrimPrefix ⟨s.toArray⟩ ⟨t.toArray⟩ w)
theorem sh_Trim(s t:List UInt8)(w:World)(hs:s.length≤1000000000)(ht:t.length≤1000∧t.all (fun b=>decide (b.toNat<128))=true):CR Tryz.prog 101 [str s,str t] w fun v w'=>v=str (Lib.trimS s t)∧Hp w [] [] w':=by
 exact cr_below (Any.strings_Trim_laid Tryz.lays160 krf ⟨s.toArray⟩ ⟨t.toArray⟩ w (by show s.length≤_;omega) (by show t.length<_;omega) (ascii_of_all ht.2))
theorem sh_TrimLeft(s t:List UInt8)(w:World)(hs:s.length≤1000000000)(ht:t.length≤1000∧t.all (fun b=>decide (b.toNat<128))=true):CR Tryz.prog 250 [str s,str t] w fun v w'=>v=str (Lib.trimLeftS s t)∧Hp w [] [] w':=by
 exact cr_below (Any.strings_TrimLeft_laid Tryz.lays161 krf ⟨s.toArray⟩ ⟨t.toArray⟩ w (by show t.length<_;omega) (ascii_of_all ht.2))
theorem sh_TrimRight(s t:List UInt8)(w:World)(hs:s.length≤1000000000)(ht:t.length≤1000∧t.all (fun b=>decide (b.toNat<128))=true):CR Tryz.prog 108 [str s,str t] w fun v w'=>v=str (Lib.trimRightS s t)∧Hp w [] [] w':=by
 exact cr_below (Any.strings_TrimRight_laid Tryz.lays162 krf ⟨s.toArray⟩ ⟨t.toArray⟩ w (by show s.length≤_;omega) (by show t.length<_;omega) (ascii_of_all ht.2))
theorem sh_Itoa(i:Int)(w:World)(hi:afr i)(hG:Gl w):CR Tryz.prog 74 [.int .i64 i] w fun v w'=>v=str (Lib.itoa i)∧Hp w [] [] w':=by
 obtain⟨t,f,e⟩:=hG.pow10;have hT : Lib.TabIs Tryz.prog w "internal/strconv.uint64pow10" .u64 Lib.pow10Tab := by
  unfold Lib.TabIs World.var?;rw [show Tryz.prog.globalNamed "internal/strconv.uint64pow10" = some 7 by kernel_rfl];simp [e]
 have h:=Tryz.strconv_Itoa i hi.1 hi.2 w hT;exact Calls.mono h fun _ _ ⟨e,k,os,hb⟩=>⟨_,e,rfl,hb▸hp_grow k os⟩
theorem sh_Split(s:List UInt8)(c:UInt8)(w:World)(hs:s.length≤1000000000)(hG:Gl w):CR Tryz.prog 230 [str s,str [c]] w fun v w'=>∃o a cap,v=.slice a (spl c s).length cap∧Hp w [] [rwt eS 9 1 o a cap (spl c s)] w':=by
 obtain⟨m,hm⟩:=hG.cell;have h:=Tryz.strings_Split ⟨s.toArray⟩ ⟨#[c]⟩ m w (by show s.length<_;omega) hm (by show 1≤1;omega);rw [split_spl,split_spl_len]at h;refine Calls.mono h ?_;rintro _ _ ⟨rfl,rfl⟩
 have h1:=(Hp.refl w).alloc ((spl c s).map str) 9
 have:=(spl_sum c s).1
 have e:(spl c s).flatMap eS=(spl c s).map str:=by
  generalize spl c s=l;induction l with
  |nil=>rfl
  |cons x l ih=>rw [zay,ih];rfl
 exact⟨_,rfl,some w.heap.size,_,_,rfl,h1.blkrw 0 1 (spl c s).length (spl c s) rfl ali e rfl (by simp [maxLen];omega)⟩
theorem flatS(l:List (List UInt8)):l.flatMap eS=l.map str:=by
 induction l with
 |nil=>rfl
 |cons x l ih=>rw [zay,ih];rfl
theorem sh_Join(t:List UInt8)(w:World)(a:Option Addr)(n cap:Nat)(xs:List (List UInt8))(hn:n=xs.length)(hRe:Rd w a (xs.flatMap eS))(hCa:n≤cap)(hN:xs.length≤1000000000∧(zaL xs t).length≤100000000000):CR Tryz.prog 34 [.slice a n cap,str t] w fun v w'=>v=str (zaL xs t)∧Hp w [] [] w':=by
 subst hn;rw [flatS]at hRe;cases xs with
 |nil=>exact ala (Tryz.strings_Join_none a cap ⟨t.toArray⟩ w)
 |cons x r=>
  obtain⟨p,rfl,hp⟩:=hRe 0 (str x) (by simp);have hbk:=cell_lt hp;rw [add_block]at hbk;have hsp:p.spot=none:=by
   have:=rd_spot hp
   simpa [Addr.add] using this
  obtain⟨bk,o,sp⟩:=p;simp only at hsp hbk;subst hsp;have e:((x::r).map fun l=>(⟨l.toArray⟩:ByteArray)).map (·.data.toList)=x::r:=by rw [List.map_map];exact List.map_id _
  have h:=Tryz.strings_Join bk o cap ((x::r).map fun l=>(⟨l.toArray⟩:ByteArray)) ⟨t.toArray⟩ w (fun j y hy=>by
   have:=row_strs ⟨bk,o,none⟩ (x::r) hRe j y hy
   cases j<;>simpa [Addr.add] using this) hbk (by rw [zat];omega) (by rw [zat];exact hCa) (by rw [e];show(zaL (x::r) t).length≤_;omega)
  rw [e,zat]at h;exact cr_below h
theorem sh_bIndex(a1 a2:Addr)(n c1 k c2:Nat)(s t:List UInt8)(w:World)(hn:s.length=n)(hk:t.length=k)(h1:Rd w (some a1) (s.map bt))(h2:Rd w (some a2) (t.map bt))(hc:n≤c1)(hs:n≤1000000000)(ht:k≤1000000000)(hG:Gl w):CR Tryz.prog 64 [.slice (some a1) n c1,.slice (some a2) k c2] w fun v w'=>v=.int .i64 (Lib.index s t)∧Hp w [] [] w':=by
 obtain⟨m,hm⟩:=hG.cell;have cell:∀(a:Addr) (l:List UInt8) (N:Nat),l.length=N→Rd w (some a) (l.map bt)→∀i,i<N→w.cell? (a.add i)=some (.int .u8 ((l.map fun b=>(b.toNat:Int)).getD i 0)):=by
  intro a l N hN hR i hi;obtain⟨p,hp,e⟩:=hR i (bt (l[i]'(by omega))) (by simp [hN,hi]);cases hp
  rw [e];simp [bt,List.getD,hN,hi]
 have rng:∀(l:List UInt8),∀x∈(l.map fun b=>(b.toNat:Int)),0≤x∧x<256:=by
  intro l x hx;obtain⟨b,_,rfl⟩:=List.mem_map.1 hx;exact⟨by omega,by have:=b.toNat_lt;omega⟩
 have bo:∀(l:List UInt8),Lib.bytesOf (l.map fun b=>(b.toNat:Int))=l:=by
  intro l;unfold Lib.bytesOf;rw [List.map_map]
  conv=>rhs;rw [←List.map_id l]
  refine zaA fun b _=> ?_
  simp
 have h:=Tryz.bytes_Index_at a1 a2 n c1 k c2 (s.map fun b=>(b.toNat:Int)) (t.map fun b=>(b.toNat:Int)) m w (by simp [hn]) (by simp [hk]) (rng s) (rng t) (cell a1 s n hn h1) (cell a2 t k hk h2) hc (by omega) (by omega) hm;rw [bo,bo]at h;exact cr_drew h
theorem sh_bIndex0(a:Option Addr)(k c:Nat)(w:World)(h2:2≤k)(hk:k≤1000000000):CR Tryz.prog 64 [.slice none 0 0,.slice a k c] w fun v w'=>v=.int .i64 (-1)∧Hp w [] [] w':=by
 have h:=Tryz.bytes_Index_nil a k c w (by omega) (fun e=>by omega);rw [if_neg (by omega)]at h;exact ala h
theorem sh_IndexAny(s t:List UInt8)(w:World)(h:s.length≤1000000000∧t.length≤1000∧t.all (fun b=>decide (b.toNat<128))=true∧(8<s.length∨t.length≤1∨s.all (fun b=>decide (b.toNat<128))=true)):CR Tryz.prog 135 [str s,str t] w fun v w'=>v=.int .i64 (Lib.indexAny s t)∧Hp w [] [] w':=by
 obtain⟨h1,h2,h3,h4⟩:=h;by_cases h0:t.length=0
 ·exact ala (Tryz.strings_IndexAny_none ⟨s.toArray⟩ ⟨t.toArray⟩ w h0)
 by_cases h1':t.length=1
 ·exact ala (Tryz.strings_IndexAny_one ⟨s.toArray⟩ ⟨t.toArray⟩ w h1' (ascii_of_all h3))
 rcases h4 with h4|h4|h4
 ·have hz:∀w,(zeroValue 156).run Tryz.prog w=.ok (.agg (Array.replicate 256 (.bool false))) w:=(zero_of_info (n:=256) krf).1;have h:=Tryz.strings_IndexAny_long hz ⟨s.toArray⟩ ⟨t.toArray⟩ w (by show 2≤t.length;omega) (by show 8<s.length;omega) (by show s.length<_;omega) (by show t.length<_;omega) (ascii_of_all h3);refine Calls.mono h ?_;rintro _ _ ⟨rfl,rfl⟩
  exact⟨_,rfl,rfl,Hp.ofBelow ⟨rfl,rfl,rfl,by simp;omega,fun k hk=>by rw [RowKit.Below.heap_alloc _ _ k (by simp;omega),RowKit.Below.heap_alloc _ _ k hk]⟩⟩
 ·omega
 ·exact cr_below (Tryz.strings_IndexAny_laid ⟨s.toArray⟩ ⟨t.toArray⟩ w (by show s.length<_;omega) (by show t.length<_;omega) (ascii_of_all h4) (ascii_of_all h3))
theorem sh_Clone47(l:List UInt8)(w:World)(a:Option Addr)(n cap:Nat)(hn:n=l.length)(hR:Rd w a (l.flatMap eB))(hb:(0+l.length)*1≤140737488355328):CR Tryz.prog 47 [.slice a n cap] w fun v w'=>∃o a' cap',v=.slice a' l.length cap'∧Hp w [] [rwt eB 5 1 o a' cap' l] w':=by
 subst hn;have hH:Hp w [] [] w:=Hp.refl w;refine enter (k:=8) Tryz.func47 rfl rfl (zaS rfl) ?_;refine aew ?_;refine abi ?_;refine aex (Vs none 0 0) krf ?_;refine afq ?_;refine aci ?_;refine aew ?_;refine aew ?_;refine abi ?_;refine abk (Vs a l.length cap) krf ?_;refine w_snil a l.length cap 5 Tryz.underlying23 krf krf ?_;refine afq ?_;refine aci ?_;refine c_bool (b:=a.isNone) krf (fun h=> ?_) (fun h=> ?_)
 ·have ha:a=none:=by cases a with|none=>rfl|some p=>cases h
  subst ha;have hl:l=[]:=by
   cases l with
   |nil=>rfl
   |cons x l=>
    exfalso;have h1:=Enc.flat ahh (x::l);have h2:(zao eB (x::l)).length=0:=by
     cases hq:zao eB (x::l)with
     |nil=>rfl
     |cons u us=>obtain⟨p,hp,_⟩:=hR 0 u (by rw [hq];rfl);cases hp
    rw [h2]at h1;simp at h1
  subst hl;refine aew ?_;refine abi ?_;refine aex (Vs none 0 0) krf ?_;refine afq ?_;refine aci ?_;refine c_ret ?_;refine s_ret ?_;refine akx (Vs none 0 0) rfl krf ?_;exact⟨none,none,0,rfl,Hp.nilrw hH eB 5 1 none⟩
 ·refine c_skip ?_;refine aci ?_;refine aew ?_;refine abi ?_;refine acd hH [] 5 (fun b=>(Vs (some ⟨b,0,none⟩) 0 0)) rfl rfl krf ?_;intro b1 w2 a0;have a1:Hp w [] [rwt eB 5 1 (some b1) (some ⟨b1,0,none⟩) 0 ([]:List UInt8)] w2:=a0.blkrw 0 1 0 ([]:List UInt8) rfl ahh rfl rfl (by decide);refine abk (Vs a l.length cap) krf ?_;refine acf a1 0 (some b1) (some ⟨b1,0,none⟩) a 0 cap 5 1 1 ([]:List UInt8) l ahh rfl Tryz.underlying23 (by unfold TI;kernel_rfl) (by decide) (by decide) krf krf (hR.hp a0) hb ?_;intro o5 a6 cap7 w8 a2;refine aex (Vs a6 l.length cap7) krf ?_;refine afq ?_;refine aci ?_;refine c_ret ?_;refine akx (Vs a6 l.length cap7) rfl krf ?_;exact⟨o5,a6,cap7,rfl,a2⟩
theorem sh_copyCheck(b:Nat)(z:Bool)(s:Value)(w:World)(hM:Hp w (aix [blk b [Vp (bif z then some ⟨b,0,none⟩else none),s] 84]) [blk b [Vp (bif z then some ⟨b,0,none⟩else none),s] 84] w):CR Tryz.prog 85 [Vp (some ⟨b,0,none⟩)] w fun v w'=>v=.tuple #[]∧Hp w (aix [blk b [Vp (bif z then some ⟨b,0,none⟩else none),s] 84]) [blk b [Vp (some ⟨b,0,none⟩),s] 84] w':=by
 cases z with
 |false=>
  have hH:Hp w (aix [blk b [(Vp none),s] 84]) [blk b [(Vp none),s] 84] w:=hM;refine enter (k:=20) Tryz.func85 rfl rfl (zaS rfl) ?_;refine aew ?_;refine abi ?_;refine abk (Vp (some ⟨b,0,none⟩)) krf ?_;refine abj (v:=(Vp (some ⟨b,0,none⟩))) (w':=w) rfl rfl krf ?_;refine abj (v:=(Vp (some ⟨b,0,none⟩))) (w':=w) rfl rfl krf ?_;refine aeg hH 0 b 0 [(Vp none),s] 84 (Vp none) rfl rfl krf krf ?_;refine w_pnil none Tryz.underlying82 krf krf ?_;refine afq ?_;refine aci ?_;refine c_true krf ?_;refine abi ?_;refine abk (Vp (some ⟨b,0,none⟩)) krf ?_;refine abk (Vp (some ⟨b,0,none⟩)) krf ?_;refine w_toUns hH 0 b 0 84 [(Vp none),s] rfl Tryz.underlying82 Tryz.underlying146 krf (by simp) krf ?_;refine w_noEsc hH 117 (Vp (some ⟨b,0,none⟩)) krf krf Tryz.func117 krf krf krf krf ?_;intro w1 a0;refine w_ofUns a0 0 b 0 84 [(Vp none),s] rfl Tryz.underlying146 Tryz.underlying82 krf krf krf ?_;refine abj (v:=(Vp (some ⟨b,0,none⟩))) (w':=w1) rfl rfl krf ?_;refine abj (v:=(Vp (some ⟨b,0,none⟩))) (w':=w1) rfl rfl krf ?_;refine w_st1 a0 0 b 0 [(Vp none),s] 84 (Vp (some ⟨b,0,none⟩)) [blk b [(Vp (some ⟨b,0,none⟩)),s] 84] rfl (zap (zag _) (zaS rfl)) krf krf rfl krf rfl ?_;intro w3 a1;refine afq ?_;refine r_none' rfl ?_;exact⟨rfl,a1.kp⟩
 |true=>
  have hH:Hp w (aix [blk b [(Vp (some ⟨b,0,none⟩)),s] 84]) [blk b [(Vp (some ⟨b,0,none⟩)),s] 84] w:=hM;refine enter (k:=20) Tryz.func85 rfl rfl (zaS rfl) ?_;refine aew ?_;refine abi ?_;refine abk (Vp (some ⟨b,0,none⟩)) krf ?_;refine abj (v:=(Vp (some ⟨b,0,none⟩))) (w':=w) rfl rfl krf ?_;refine abj (v:=(Vp (some ⟨b,0,none⟩))) (w':=w) rfl rfl krf ?_;refine aeg hH 0 b 0 [(Vp (some ⟨b,0,none⟩)),s] 84 (Vp (some ⟨b,0,none⟩)) rfl rfl krf krf ?_;refine w_pnil (some ⟨b,0,none⟩) Tryz.underlying82 krf krf ?_;refine afq ?_;refine aci ?_;refine c_false krf ?_;refine aew ?_;refine abi ?_;refine abk (Vp (some ⟨b,0,none⟩)) krf ?_;refine abj (v:=(Vp (some ⟨b,0,none⟩))) (w':=w) rfl rfl krf ?_;refine abj (v:=(Vp (some ⟨b,0,none⟩))) (w':=w) rfl rfl krf ?_;refine aeg hH 0 b 0 [(Vp (some ⟨b,0,none⟩)),s] 84 (Vp (some ⟨b,0,none⟩)) rfl rfl krf krf ?_;refine abk (Vp (some ⟨b,0,none⟩)) krf ?_;refine w_pself ⟨b,0,none⟩ Tryz.underlying82 krf krf krf ?_;refine afq ?_;refine aci ?_;refine c_false krf ?_;refine c_skip ?_;refine r_none' rfl ?_;exact⟨rfl,hH.kp⟩
open Go.Wk Go.Px Go.Ce
theorem beqn(c:UInt8):(fun d:UInt8=>Nat.beq d.toNat c.toNat)=(·==c):=by
 funext d
 rw [Bool.eq_iff_iff];simp [Nat.beq_eq,UInt8.toNat_inj]
def cg0:List SC:=[.s 7 19220757857722691,.s 4 1902465859,.s 12 34178039824424540632871946573,.s 6 76223546812749,.s 4 1801666898,.s 4 1902465874,.s 16 134856309279822869049672161412773271383]
def cg2:List SC:=[.s 4 1836020294,.i .i64 1,.s 2 28500,.i .i64 1,.s 7 32760367514808131,.i .i64 1,.s 5 435745550162,.i .i64 1,.s 12 31398775957419736383438939474,.i .i64 1,.s 4 1752457552,.i .i64 1,.s 13 8038086645099452779117220619603,.i .i64 1,.s 8 8022086805604427090,.i .i64 1,.s 11 146592537699037055746991442,.i .i64 1,.s 8 8022086835787294034,.i .i64 1,.s 3 6383958,.i .i64 2,.s 4 1902465859,.i .i64 3,.s 4 1801666898,.i .i64 4,.s 14 2118593076047644386086300223958851,.i .i64 5,.s 7 32481164391381061,.i .i64 5,.s 12 35712208859136432295261004109,.i .i64 5,.s 11 139505538796981402030991693,.i .i64 5,.s 4 1902465874,.i .i64 5,.s 19 2462787319963300618914069775828421739474218819,.i .i64 6,.s 12 31393958642898984038472511299,.i .i64 6,.s 5 500068349509,.i .i64 6,.s 6 76223546812749,.i .i64 6,.s 15 599171726743894305243344019148465491,.i .i64 6,.s 18 8837943172779679942406515151746074144830803,.i .i64 6,.s 6 128026086171457,.i .i64 7,.s 5 512970484801,.i .i64 7,.s 12 35731532856486514854116224065,.i .i64 7,.s 13 8037453196880052494869233365584,.i .i64 7,.s 7 28554769915274578,.i .i64 7,.s 9 1851985001289037673811,.i .i64 7,.s 11 121371689044478372993003093,.i .i64 7]
noncomputable def cxG(k:Nat):Option (List SC):=bi (Nat.beq k (nat_lit 0)) (some cg0) (bi (Nat.beq k (nat_lit 2)) (some cg2) (none))
noncomputable def cx34:List SV→Hs→Option (SV×Hs):=xjoin
noncomputable def cx64:List SV→Hs→Option (SV×Hs):=xbix
noncomputable def cx74:List SV→Hs→Option (SV×Hs):=xi fun a=>cv (str (Lib.itoa a))
noncomputable def cx85:List SV→Hs→Option (SV×Hs):=xcc 84
noncomputable def cx101:List SV→Hs→Option (SV×Hs):=xs2 fun a b=>bi (Nat.ble (ajl a) (nat_lit 1000000000)) (bi (Nat.ble (ajl b) (nat_lit 1000)) (bi (b.all (fun b=>decide (b.toNat<128))) (cv (str (Lib.trimS a b))) none) none) none
noncomputable def cx107:List SV→Hs→Option (SV×Hs):=xs2 fun a b=>bi (Nat.ble (ajl a) (nat_lit 1000000000)) (cvT [str (Lib.cut a b).1,str (Lib.cut a b).2.1,.bool (Lib.cut a b).2.2]) none
noncomputable def cx108:List SV→Hs→Option (SV×Hs):=xs2 fun a b=>bi (Nat.ble (ajl a) (nat_lit 1000000000)) (bi (Nat.ble (ajl b) (nat_lit 1000)) (bi (b.all (fun b=>decide (b.toNat<128))) (cv (str (Lib.trimRightS a b))) none) none) none
noncomputable def cx115:List SV→Hs→Option (SV×Hs):=xsb fun a b=>cv (.int .i64 (ixb (fun d=>Nat.beq d.toNat b.toNat) a))
noncomputable def cx127:List SV→Hs→Option (SV×Hs):=xs2 fun a b=>bi (Nat.ble (ajl a) (nat_lit 1000000000)) (cv (.int .i64 (Lib.index a b))) none
noncomputable def cx135:List SV→Hs→Option (SV×Hs):=xs2 fun a b=>bi (Nat.ble (ajl a) (nat_lit 1000000000)) (bi (Nat.ble (ajl b) (nat_lit 1000)) (bi (b.all (fun b=>decide (b.toNat<128))) (bi (or (Nat.ble (nat_lit 9) (ajl a)) (or (Nat.ble (ajl b) (nat_lit 1)) (a.all (fun b=>decide (b.toNat<128))))) (cv (.int .i64 (Lib.indexAny a b))) none) none) none) none
noncomputable def cx171:List SV→Hs→Option (SV×Hs):=xs2 fun a b=>cv (str (Lib.trimPrefix a b))
noncomputable def cx212:List SV→Hs→Option (SV×Hs):=xs2 fun a b=>cvT [str (Lib.trimPrefix a b),.bool (Lib.hasPrefix a b)]
noncomputable def cx230:List SV→Hs→Option (SV×Hs):=xsplit 9
noncomputable def cx240:List SV→Hs→Option (SV×Hs):=xs2 fun a b=>bi (Nat.ble (ajl a) (nat_lit 1000000000)) (cv (.bool (Lib.contains a b))) none
noncomputable def cx243:List SV→Hs→Option (SV×Hs):=xsb fun a b=>bi (Nat.ble (ajl a) (nat_lit 1000000000)) (cv (.int .i64 (lixb (fun d=>Nat.beq d.toNat b.toNat) a))) none
noncomputable def cx250:List SV→Hs→Option (SV×Hs):=xs2 fun a b=>bi (Nat.ble (ajl a) (nat_lit 1000000000)) (bi (Nat.ble (ajl b) (nat_lit 1000)) (bi (b.all (fun b=>decide (b.toNat<128))) (cv (str (Lib.trimLeftS a b))) none) none) none
noncomputable def cxX(k:Nat):Option (List SV→Hs→Option (SV×Hs)):=bi (Nat.blt k (nat_lit 127)) (bi (Nat.blt k (nat_lit 101)) (bi (Nat.blt k (nat_lit 74)) (bi (Nat.blt k (nat_lit 64)) (bi (Nat.beq k (nat_lit 34)) (some cx34) (none)) (bi (Nat.beq k (nat_lit 64)) (some cx64) (none))) (bi (Nat.blt k (nat_lit 85)) (bi (Nat.beq k (nat_lit 74)) (some cx74) (none)) (bi (Nat.beq k (nat_lit 85)) (some cx85) (none)))) (bi (Nat.blt k (nat_lit 108)) (bi (Nat.blt k (nat_lit 107)) (bi (Nat.beq k (nat_lit 101)) (some cx101) (none)) (bi (Nat.beq k (nat_lit 107)) (some cx107) (none))) (bi (Nat.blt k (nat_lit 115)) (bi (Nat.beq k (nat_lit 108)) (some cx108) (none)) (bi (Nat.beq k (nat_lit 115)) (some cx115) (none))))) (bi (Nat.blt k (nat_lit 230)) (bi (Nat.blt k (nat_lit 171)) (bi (Nat.blt k (nat_lit 135)) (bi (Nat.beq k (nat_lit 127)) (some cx127) (none)) (bi (Nat.beq k (nat_lit 135)) (some cx135) (none))) (bi (Nat.blt k (nat_lit 212)) (bi (Nat.beq k (nat_lit 171)) (some cx171) (none)) (bi (Nat.beq k (nat_lit 212)) (some cx212) (none)))) (bi (Nat.blt k (nat_lit 243)) (bi (Nat.blt k (nat_lit 240)) (bi (Nat.beq k (nat_lit 230)) (some cx230) (none)) (bi (Nat.beq k (nat_lit 240)) (some cx240) (none))) (bi (Nat.blt k (nat_lit 250)) (bi (Nat.beq k (nat_lit 243)) (some cx243) (none)) (bi (Nat.beq k (nat_lit 250)) (some cx250) (none)))))
noncomputable def cxP(k:Nat):Bool:=bi (Nat.blt k (nat_lit 164)) (bi (Nat.blt k (nat_lit 108)) (bi (Nat.blt k (nat_lit 69)) (bi (Nat.blt k (nat_lit 38)) (bi (Nat.blt k (nat_lit 15)) (bi (Nat.blt k (nat_lit 2)) (bi (Nat.blt k (nat_lit 1)) (bi (Nat.beq k (nat_lit 0)) (true) (false)) (bi (Nat.beq k (nat_lit 1)) (true) (false))) (bi (Nat.blt k (nat_lit 5)) (bi (Nat.beq k (nat_lit 2)) (true) (false)) (bi (Nat.beq k (nat_lit 5)) (true) (false)))) (bi (Nat.blt k (nat_lit 26)) (bi (Nat.blt k (nat_lit 25)) (bi (Nat.beq k (nat_lit 15)) (true) (false)) (bi (Nat.beq k (nat_lit 25)) (true) (false))) (bi (Nat.blt k (nat_lit 27)) (bi (Nat.beq k (nat_lit 26)) (true) (false)) (bi (Nat.blt k (nat_lit 32)) (bi (Nat.beq k (nat_lit 27)) (true) (false)) (bi (Nat.beq k (nat_lit 32)) (true) (false)))))) (bi (Nat.blt k (nat_lit 55)) (bi (Nat.blt k (nat_lit 40)) (bi (Nat.blt k (nat_lit 39)) (bi (Nat.beq k (nat_lit 38)) (true) (false)) (bi (Nat.beq k (nat_lit 39)) (true) (false))) (bi (Nat.blt k (nat_lit 43)) (bi (Nat.beq k (nat_lit 40)) (true) (false)) (bi (Nat.blt k (nat_lit 46)) (bi (Nat.beq k (nat_lit 43)) (true) (false)) (bi (Nat.beq k (nat_lit 46)) (true) (false))))) (bi (Nat.blt k (nat_lit 61)) (bi (Nat.blt k (nat_lit 56)) (bi (Nat.beq k (nat_lit 55)) (true) (false)) (bi (Nat.beq k (nat_lit 56)) (true) (false))) (bi (Nat.blt k (nat_lit 63)) (bi (Nat.beq k (nat_lit 61)) (true) (false)) (bi (Nat.blt k (nat_lit 68)) (bi (Nat.beq k (nat_lit 63)) (true) (false)) (bi (Nat.beq k (nat_lit 68)) (true) (false))))))) (bi (Nat.blt k (nat_lit 87)) (bi (Nat.blt k (nat_lit 77)) (bi (Nat.blt k (nat_lit 72)) (bi (Nat.blt k (nat_lit 71)) (bi (Nat.beq k (nat_lit 69)) (true) (false)) (bi (Nat.beq k (nat_lit 71)) (true) (false))) (bi (Nat.blt k (nat_lit 74)) (bi (Nat.beq k (nat_lit 72)) (true) (false)) (bi (Nat.blt k (nat_lit 76)) (bi (Nat.beq k (nat_lit 74)) (true) (false)) (bi (Nat.beq k (nat_lit 76)) (true) (false))))) (bi (Nat.blt k (nat_lit 81)) (bi (Nat.blt k (nat_lit 80)) (bi (Nat.beq k (nat_lit 77)) (true) (false)) (bi (Nat.beq k (nat_lit 80)) (true) (false))) (bi (Nat.blt k (nat_lit 82)) (bi (Nat.beq k (nat_lit 81)) (true) (false)) (bi (Nat.blt k (nat_lit 83)) (bi (Nat.beq k (nat_lit 82)) (true) (false)) (bi (Nat.beq k (nat_lit 83)) (true) (false)))))) (bi (Nat.blt k (nat_lit 99)) (bi (Nat.blt k (nat_lit 95)) (bi (Nat.blt k (nat_lit 91)) (bi (Nat.beq k (nat_lit 87)) (true) (false)) (bi (Nat.beq k (nat_lit 91)) (true) (false))) (bi (Nat.blt k (nat_lit 97)) (bi (Nat.beq k (nat_lit 95)) (true) (false)) (bi (Nat.blt k (nat_lit 98)) (bi (Nat.beq k (nat_lit 97)) (true) (false)) (bi (Nat.beq k (nat_lit 98)) (true) (false))))) (bi (Nat.blt k (nat_lit 102)) (bi (Nat.blt k (nat_lit 101)) (bi (Nat.beq k (nat_lit 99)) (true) (false)) (bi (Nat.beq k (nat_lit 101)) (true) (false))) (bi (Nat.blt k (nat_lit 103)) (bi (Nat.beq k (nat_lit 102)) (true) (false)) (bi (Nat.blt k (nat_lit 107)) (bi (Nat.beq k (nat_lit 103)) (true) (false)) (bi (Nat.beq k (nat_lit 107)) (true) (false)))))))) (bi (Nat.blt k (nat_lit 135)) (bi (Nat.blt k (nat_lit 120)) (bi (Nat.blt k (nat_lit 113)) (bi (Nat.blt k (nat_lit 110)) (bi (Nat.blt k (nat_lit 109)) (bi (Nat.beq k (nat_lit 108)) (true) (false)) (bi (Nat.beq k (nat_lit 109)) (true) (false))) (bi (Nat.blt k (nat_lit 111)) (bi (Nat.beq k (nat_lit 110)) (true) (false)) (bi (Nat.beq k (nat_lit 111)) (true) (false)))) (bi (Nat.blt k (nat_lit 115)) (bi (Nat.blt k (nat_lit 114)) (bi (Nat.beq k (nat_lit 113)) (true) (false)) (bi (Nat.beq k (nat_lit 114)) (true) (false))) (bi (Nat.blt k (nat_lit 116)) (bi (Nat.beq k (nat_lit 115)) (true) (false)) (bi (Nat.blt k (nat_lit 119)) (bi (Nat.beq k (nat_lit 116)) (true) (false)) (bi (Nat.beq k (nat_lit 119)) (true) (false)))))) (bi (Nat.blt k (nat_lit 128)) (bi (Nat.blt k (nat_lit 124)) (bi (Nat.blt k (nat_lit 121)) (bi (Nat.beq k (nat_lit 120)) (true) (false)) (bi (Nat.beq k (nat_lit 121)) (true) (false))) (bi (Nat.blt k (nat_lit 125)) (bi (Nat.beq k (nat_lit 124)) (true) (false)) (bi (Nat.blt k (nat_lit 127)) (bi (Nat.beq k (nat_lit 125)) (true) (false)) (bi (Nat.beq k (nat_lit 127)) (true) (false))))) (bi (Nat.blt k (nat_lit 130)) (bi (Nat.blt k (nat_lit 129)) (bi (Nat.beq k (nat_lit 128)) (true) (false)) (bi (Nat.beq k (nat_lit 129)) (true) (false))) (bi (Nat.blt k (nat_lit 133)) (bi (Nat.beq k (nat_lit 130)) (true) (false)) (bi (Nat.blt k (nat_lit 134)) (bi (Nat.beq k (nat_lit 133)) (true) (false)) (bi (Nat.beq k (nat_lit 134)) (true) (false))))))) (bi (Nat.blt k (nat_lit 153)) (bi (Nat.blt k (nat_lit 147)) (bi (Nat.blt k (nat_lit 137)) (bi (Nat.blt k (nat_lit 136)) (bi (Nat.beq k (nat_lit 135)) (true) (false)) (bi (Nat.beq k (nat_lit 136)) (true) (false))) (bi (Nat.blt k (nat_lit 138)) (bi (Nat.beq k (nat_lit 137)) (true) (false)) (bi (Nat.blt k (nat_lit 143)) (bi (Nat.beq k (nat_lit 138)) (true) (false)) (bi (Nat.beq k (nat_lit 143)) (true) (false))))) (bi (Nat.blt k (nat_lit 150)) (bi (Nat.blt k (nat_lit 149)) (bi (Nat.beq k (nat_lit 147)) (true) (false)) (bi (Nat.beq k (nat_lit 149)) (true) (false))) (bi (Nat.blt k (nat_lit 151)) (bi (Nat.beq k (nat_lit 150)) (true) (false)) (bi (Nat.blt k (nat_lit 152)) (bi (Nat.beq k (nat_lit 151)) (true) (false)) (bi (Nat.beq k (nat_lit 152)) (true) (false)))))) (bi (Nat.blt k (nat_lit 158)) (bi (Nat.blt k (nat_lit 155)) (bi (Nat.blt k (nat_lit 154)) (bi (Nat.beq k (nat_lit 153)) (true) (false)) (bi (Nat.beq k (nat_lit 154)) (true) (false))) (bi (Nat.blt k (nat_lit 156)) (bi (Nat.beq k (nat_lit 155)) (true) (false)) (bi (Nat.blt k (nat_lit 157)) (bi (Nat.beq k (nat_lit 156)) (true) (false)) (bi (Nat.beq k (nat_lit 157)) (true) (false))))) (bi (Nat.blt k (nat_lit 160)) (bi (Nat.blt k (nat_lit 159)) (bi (Nat.beq k (nat_lit 158)) (true) (false)) (bi (Nat.beq k (nat_lit 159)) (true) (false))) (bi (Nat.blt k (nat_lit 162)) (bi (Nat.beq k (nat_lit 160)) (true) (false)) (bi (Nat.blt k (nat_lit 163)) (bi (Nat.beq k (nat_lit 162)) (true) (false)) (bi (Nat.beq k (nat_lit 163)) (true) (false))))))))) (bi (Nat.blt k (nat_lit 225)) (bi (Nat.blt k (nat_lit 196)) (bi (Nat.blt k (nat_lit 177)) (bi (Nat.blt k (nat_lit 169)) (bi (Nat.blt k (nat_lit 166)) (bi (Nat.blt k (nat_lit 165)) (bi (Nat.beq k (nat_lit 164)) (true) (false)) (bi (Nat.beq k (nat_lit 165)) (true) (false))) (bi (Nat.blt k (nat_lit 167)) (bi (Nat.beq k (nat_lit 166)) (true) (false)) (bi (Nat.beq k (nat_lit 167)) (true) (false)))) (bi (Nat.blt k (nat_lit 171)) (bi (Nat.blt k (nat_lit 170)) (bi (Nat.beq k (nat_lit 169)) (true) (false)) (bi (Nat.beq k (nat_lit 170)) (true) (false))) (bi (Nat.blt k (nat_lit 175)) (bi (Nat.beq k (nat_lit 171)) (true) (false)) (bi (Nat.blt k (nat_lit 176)) (bi (Nat.beq k (nat_lit 175)) (true) (false)) (bi (Nat.beq k (nat_lit 176)) (true) (false)))))) (bi (Nat.blt k (nat_lit 189)) (bi (Nat.blt k (nat_lit 180)) (bi (Nat.blt k (nat_lit 178)) (bi (Nat.beq k (nat_lit 177)) (true) (false)) (bi (Nat.beq k (nat_lit 178)) (true) (false))) (bi (Nat.blt k (nat_lit 185)) (bi (Nat.beq k (nat_lit 180)) (true) (false)) (bi (Nat.blt k (nat_lit 186)) (bi (Nat.beq k (nat_lit 185)) (true) (false)) (bi (Nat.beq k (nat_lit 186)) (true) (false))))) (bi (Nat.blt k (nat_lit 193)) (bi (Nat.blt k (nat_lit 190)) (bi (Nat.beq k (nat_lit 189)) (true) (false)) (bi (Nat.beq k (nat_lit 190)) (true) (false))) (bi (Nat.blt k (nat_lit 194)) (bi (Nat.beq k (nat_lit 193)) (true) (false)) (bi (Nat.blt k (nat_lit 195)) (bi (Nat.beq k (nat_lit 194)) (true) (false)) (bi (Nat.beq k (nat_lit 195)) (true) (false))))))) (bi (Nat.blt k (nat_lit 208)) (bi (Nat.blt k (nat_lit 203)) (bi (Nat.blt k (nat_lit 198)) (bi (Nat.blt k (nat_lit 197)) (bi (Nat.beq k (nat_lit 196)) (true) (false)) (bi (Nat.beq k (nat_lit 197)) (true) (false))) (bi (Nat.blt k (nat_lit 199)) (bi (Nat.beq k (nat_lit 198)) (true) (false)) (bi (Nat.blt k (nat_lit 202)) (bi (Nat.beq k (nat_lit 199)) (true) (false)) (bi (Nat.beq k (nat_lit 202)) (true) (false))))) (bi (Nat.blt k (nat_lit 205)) (bi (Nat.blt k (nat_lit 204)) (bi (Nat.beq k (nat_lit 203)) (true) (false)) (bi (Nat.beq k (nat_lit 204)) (true) (false))) (bi (Nat.blt k (nat_lit 206)) (bi (Nat.beq k (nat_lit 205)) (true) (false)) (bi (Nat.blt k (nat_lit 207)) (bi (Nat.beq k (nat_lit 206)) (true) (false)) (bi (Nat.beq k (nat_lit 207)) (true) (false)))))) (bi (Nat.blt k (nat_lit 217)) (bi (Nat.blt k (nat_lit 212)) (bi (Nat.blt k (nat_lit 211)) (bi (Nat.beq k (nat_lit 208)) (true) (false)) (bi (Nat.beq k (nat_lit 211)) (true) (false))) (bi (Nat.blt k (nat_lit 213)) (bi (Nat.beq k (nat_lit 212)) (true) (false)) (bi (Nat.blt k (nat_lit 214)) (bi (Nat.beq k (nat_lit 213)) (true) (false)) (bi (Nat.beq k (nat_lit 214)) (true) (false))))) (bi (Nat.blt k (nat_lit 222)) (bi (Nat.blt k (nat_lit 221)) (bi (Nat.beq k (nat_lit 217)) (true) (false)) (bi (Nat.beq k (nat_lit 221)) (true) (false))) (bi (Nat.blt k (nat_lit 223)) (bi (Nat.beq k (nat_lit 222)) (true) (false)) (bi (Nat.blt k (nat_lit 224)) (bi (Nat.beq k (nat_lit 223)) (true) (false)) (bi (Nat.beq k (nat_lit 224)) (true) (false)))))))) (bi (Nat.blt k (nat_lit 269)) (bi (Nat.blt k (nat_lit 248)) (bi (Nat.blt k (nat_lit 232)) (bi (Nat.blt k (nat_lit 227)) (bi (Nat.blt k (nat_lit 226)) (bi (Nat.beq k (nat_lit 225)) (true) (false)) (bi (Nat.beq k (nat_lit 226)) (true) (false))) (bi (Nat.blt k (nat_lit 228)) (bi (Nat.beq k (nat_lit 227)) (true) (false)) (bi (Nat.beq k (nat_lit 228)) (true) (false)))) (bi (Nat.blt k (nat_lit 240)) (bi (Nat.blt k (nat_lit 237)) (bi (Nat.beq k (nat_lit 232)) (true) (false)) (bi (Nat.beq k (nat_lit 237)) (true) (false))) (bi (Nat.blt k (nat_lit 243)) (bi (Nat.beq k (nat_lit 240)) (true) (false)) (bi (Nat.blt k (nat_lit 247)) (bi (Nat.beq k (nat_lit 243)) (true) (false)) (bi (Nat.beq k (nat_lit 247)) (true) (false)))))) (bi (Nat.blt k (nat_lit 264)) (bi (Nat.blt k (nat_lit 250)) (bi (Nat.blt k (nat_lit 249)) (bi (Nat.beq k (nat_lit 248)) (true) (false)) (bi (Nat.beq k (nat_lit 249)) (true) (false))) (bi (Nat.blt k (nat_lit 256)) (bi (Nat.beq k (nat_lit 250)) (true) (false)) (bi (Nat.blt k (nat_lit 260)) (bi (Nat.beq k (nat_lit 256)) (true) (false)) (bi (Nat.beq k (nat_lit 260)) (true) (false))))) (bi (Nat.blt k (nat_lit 266)) (bi (Nat.blt k (nat_lit 265)) (bi (Nat.beq k (nat_lit 264)) (true) (false)) (bi (Nat.beq k (nat_lit 265)) (true) (false))) (bi (Nat.blt k (nat_lit 267)) (bi (Nat.beq k (nat_lit 266)) (true) (false)) (bi (Nat.blt k (nat_lit 268)) (bi (Nat.beq k (nat_lit 267)) (true) (false)) (bi (Nat.beq k (nat_lit 268)) (true) (false))))))) (bi (Nat.blt k (nat_lit 287)) (bi (Nat.blt k (nat_lit 282)) (bi (Nat.blt k (nat_lit 271)) (bi (Nat.blt k (nat_lit 270)) (bi (Nat.beq k (nat_lit 269)) (true) (false)) (bi (Nat.beq k (nat_lit 270)) (true) (false))) (bi (Nat.blt k (nat_lit 272)) (bi (Nat.beq k (nat_lit 271)) (true) (false)) (bi (Nat.blt k (nat_lit 273)) (bi (Nat.beq k (nat_lit 272)) (true) (false)) (bi (Nat.beq k (nat_lit 273)) (true) (false))))) (bi (Nat.blt k (nat_lit 284)) (bi (Nat.blt k (nat_lit 283)) (bi (Nat.beq k (nat_lit 282)) (true) (false)) (bi (Nat.beq k (nat_lit 283)) (true) (false))) (bi (Nat.blt k (nat_lit 285)) (bi (Nat.beq k (nat_lit 284)) (true) (false)) (bi (Nat.blt k (nat_lit 286)) (bi (Nat.beq k (nat_lit 285)) (true) (false)) (bi (Nat.beq k (nat_lit 286)) (true) (false)))))) (bi (Nat.blt k (nat_lit 292)) (bi (Nat.blt k (nat_lit 289)) (bi (Nat.blt k (nat_lit 288)) (bi (Nat.beq k (nat_lit 287)) (true) (false)) (bi (Nat.beq k (nat_lit 288)) (true) (false))) (bi (Nat.blt k (nat_lit 290)) (bi (Nat.beq k (nat_lit 289)) (true) (false)) (bi (Nat.blt k (nat_lit 291)) (bi (Nat.beq k (nat_lit 290)) (true) (false)) (bi (Nat.beq k (nat_lit 291)) (true) (false))))) (bi (Nat.blt k (nat_lit 294)) (bi (Nat.blt k (nat_lit 293)) (bi (Nat.beq k (nat_lit 292)) (true) (false)) (bi (Nat.beq k (nat_lit 293)) (true) (false))) (bi (Nat.blt k (nat_lit 295)) (bi (Nat.beq k (nat_lit 294)) (true) (false)) (bi (Nat.blt k (nat_lit 296)) (bi (Nat.beq k (nat_lit 295)) (true) (false)) (bi (Nat.beq k (nat_lit 296)) (true) (false)))))))))
noncomputable def cxV(k:Nat):Bool:=bi (Nat.beq k (nat_lit 53)) (true) (false)
noncomputable def cx:Cx:=⟨Tryz.prog,cxG,cxX,cxP,cxV⟩
theorem cx_g{w:World}(hG:Gl w):Gok cxG w:=by
 intro g cs h;unfold cxG at h;rw [aba]at h;split at h
 ·rename_i hk;rw [aal]at hk;have hk:g=0:=hk;subst hk;cases h
  obtain⟨t,f,e⟩:=hG.specials;exact⟨okL_ok (show okL 0 cg0=true by kernel_rfl),t,f,fun E=>by rw [e];kernel_rfl⟩
 rw [aba]at h;split at h
 ·rename_i hk;rw [aal]at hk;have hk:g=2:=hk;subst hk;cases h
  obtain⟨t,f,e⟩:=hG.kinds;exact⟨okL_ok (show okL 0 cg2=true by kernel_rfl),t,f,fun E=>by rw [e];kernel_rfl⟩
 cases h
theorem cx_names : (Tryz.prog.funcs.all fun fn => !(fn.name == "runtime.NumGoroutine")) = true := by kernel_rfl
theorem cx_ok:Cok cx Gl where
 gp:=fun h hp=>h.hp0 hp
 g:=cx_g
 ng:=fun f fn h=>by
  have h1:=Array.all_eq_true'.1 cx_names fn (Array.mem_of_getElem? h);simpa using h1
 mo:=by kernel_rfl
 ov:=fun k h=>by
  have h:cxV k=true:=h;unfold cxV at h;rw [aba]at h;split at h
  ·rename_i hk;rw [aal]at hk;have hk:k=53:=hk;subst hk;exact⟨Tryz.f53,22,4,44,2,Tryz.func53,by kernel_rfl,by kernel_rfl,by kernel_rfl,Tryz.underlying22,by kernel_rfl⟩
  cases h
theorem ent_34:Go.Wk.Enters cx.P 34:=⟨Tryz.f34,_,Tryz.func34,rfl,by kernel_rfl⟩
theorem cx34_ok(hC:Cok cx Gl):afn cx Gl cx34 34:=xjoin_ok hC ent_34 fun t w a n cap xs h1 h2 h3 h4=>sh_Join t w a n cap xs h1 h2 h3 h4
theorem ent_64:Go.Wk.Enters cx.P 64:=⟨Tryz.f64,_,Tryz.func64,rfl,by kernel_rfl⟩
theorem cx64_ok(hC:Cok cx Gl):afn cx Gl cx64 64:=xbix_ok hC ent_64 (fun a1 a2 n c1 k c2 s t w hn hk h1 h2 hc hs ht hG=>sh_bIndex a1 a2 n c1 k c2 s t w hn hk h1 h2 hc hs ht hG) (fun a k c w h2 hk=>sh_bIndex0 a k c w h2 hk)
theorem ent_74:Go.Wk.Enters cx.P 74:=⟨Tryz.f74,_,Tryz.func74,rfl,by kernel_rfl⟩
theorem cx74_ok(hC:Cok cx Gl):afn cx Gl cx74 74:=xi_ok hC ent_74 fun a v h=>by
 exact⟨cv_pl h,fun E w hG hb=>CR.mono (sh_Itoa a w ⟨hb.1,hb.2⟩ hG) fun V w' hv=>⟨hv.1.trans (akz h E 0).1.symm,hv.2⟩⟩
theorem ent_85:Go.Wk.Enters cx.P 85:=⟨Tryz.f85,_,Tryz.func85,rfl,by kernel_rfl⟩
theorem cx85_ok(hC:Cok cx Gl):afn cx Gl cx85 85:=xcc_ok hC ent_85 fun b z s w h=>sh_copyCheck b z s w h
theorem ent_101:Go.Wk.Enters cx.P 101:=⟨Tryz.f101,_,Tryz.func101,rfl,by kernel_rfl⟩
theorem cx101_ok(hC:Cok cx Gl):afn cx Gl cx101 101:=xs2_ok hC ent_101 fun a b v h=>by
 obtain⟨h1,h⟩:=aad h;rw [aaj,abn]at h1;obtain⟨h2,h⟩:=aad h;rw [aaj,abn]at h2;obtain⟨h3,h⟩:=aad h;exact⟨cv_pl h,fun E w hG=>CR.mono (sh_Trim a b w h1 ⟨h2,h3⟩) fun V w' hv=>⟨hv.1.trans (akz h E 0).1.symm,hv.2⟩⟩
theorem ent_107:Go.Wk.Enters cx.P 107:=⟨Tryz.f107,_,Tryz.func107,rfl,by kernel_rfl⟩
theorem cx107_ok(hC:Cok cx Gl):afn cx Gl cx107 107:=xs2_ok hC ent_107 fun a b v h=>by
 obtain⟨h1,h⟩:=aad h;rw [aaj,abn]at h1;exact⟨(cvT_ok h (fun _=>(0,0))).2,fun E w hG=>CR.mono (sh_Cut a b w h1 hG) fun V w' hv=>⟨hv.1.trans (cvT_ok h E).1.symm,hv.2⟩⟩
theorem ent_108:Go.Wk.Enters cx.P 108:=⟨Tryz.f108,_,Tryz.func108,rfl,by kernel_rfl⟩
theorem cx108_ok(hC:Cok cx Gl):afn cx Gl cx108 108:=xs2_ok hC ent_108 fun a b v h=>by
 obtain⟨h1,h⟩:=aad h;rw [aaj,abn]at h1;obtain⟨h2,h⟩:=aad h;rw [aaj,abn]at h2;obtain⟨h3,h⟩:=aad h;exact⟨cv_pl h,fun E w hG=>CR.mono (sh_TrimRight a b w h1 ⟨h2,h3⟩) fun V w' hv=>⟨hv.1.trans (akz h E 0).1.symm,hv.2⟩⟩
theorem ent_115:Go.Wk.Enters cx.P 115:=⟨Tryz.f115,_,Tryz.func115,rfl,by kernel_rfl⟩
theorem cx115_ok(hC:Cok cx Gl):afn cx Gl cx115 115:=xsb_ok hC ent_115 fun a b v h=>by
 exact⟨cv_pl h,fun E w hG=>CR.mono (sh_IndexByte a b w) fun V w' hv=>⟨hv.1.trans (by rw [(akz h E 0).1,beqn]),hv.2⟩⟩
theorem ent_127:Go.Wk.Enters cx.P 127:=⟨Tryz.f127,_,Tryz.func127,rfl,by kernel_rfl⟩
theorem cx127_ok(hC:Cok cx Gl):afn cx Gl cx127 127:=xs2_ok hC ent_127 fun a b v h=>by
 obtain⟨h1,h⟩:=aad h;rw [aaj,abn]at h1;exact⟨cv_pl h,fun E w hG=>CR.mono (sh_Index a b w h1 hG) fun V w' hv=>⟨hv.1.trans (akz h E 0).1.symm,hv.2⟩⟩
theorem ent_135:Go.Wk.Enters cx.P 135:=⟨Tryz.f135,_,Tryz.func135,rfl,by kernel_rfl⟩
theorem cx135_ok(hC:Cok cx Gl):afn cx Gl cx135 135:=xs2_ok hC ent_135 fun a b v h=>by
 obtain⟨h1,h⟩:=aad h;rw [aaj,abn]at h1;obtain⟨h2,h⟩:=aad h;rw [aaj,abn]at h2;obtain⟨h3,h⟩:=aad h;obtain⟨h4,h⟩:=aad h;simp only [Bool.or_eq_true,aaj,abn]at h4;exact⟨cv_pl h,fun E w hG=>CR.mono (sh_IndexAny a b w ⟨h1,h2,h3,h4⟩) fun V w' hv=>⟨hv.1.trans (akz h E 0).1.symm,hv.2⟩⟩
theorem ent_171:Go.Wk.Enters cx.P 171:=⟨Tryz.f171,_,Tryz.func171,rfl,by kernel_rfl⟩
theorem cx171_ok(hC:Cok cx Gl):afn cx Gl cx171 171:=xs2_ok hC ent_171 fun a b v h=>by
 exact⟨cv_pl h,fun E w hG=>CR.mono (sh_TrimPrefix a b w) fun V w' hv=>⟨hv.1.trans (akz h E 0).1.symm,hv.2⟩⟩
theorem ent_212:Go.Wk.Enters cx.P 212:=⟨Tryz.f212,_,Tryz.func212,rfl,by kernel_rfl⟩
theorem cx212_ok(hC:Cok cx Gl):afn cx Gl cx212 212:=xs2_ok hC ent_212 fun a b v h=>by
 exact⟨(cvT_ok h (fun _=>(0,0))).2,fun E w hG=>CR.mono (sh_CutPrefix a b w) fun V w' hv=>⟨hv.1.trans (cvT_ok h E).1.symm,hv.2⟩⟩
theorem ent_230:Go.Wk.Enters cx.P 230:=⟨Tryz.f230,_,Tryz.func230,rfl,by kernel_rfl⟩
theorem cx230_ok(hC:Cok cx Gl):afn cx Gl cx230 230:=xsplit_ok hC ent_230 fun s c w hG h=>sh_Split s c w h hG
theorem ent_240:Go.Wk.Enters cx.P 240:=⟨Tryz.f240,_,Tryz.func240,rfl,by kernel_rfl⟩
theorem cx240_ok(hC:Cok cx Gl):afn cx Gl cx240 240:=xs2_ok hC ent_240 fun a b v h=>by
 obtain⟨h1,h⟩:=aad h;rw [aaj,abn]at h1;exact⟨cv_pl h,fun E w hG=>CR.mono (sh_Contains a b w h1 hG) fun V w' hv=>⟨hv.1.trans (akz h E 0).1.symm,hv.2⟩⟩
theorem ent_243:Go.Wk.Enters cx.P 243:=⟨Tryz.f243,_,Tryz.func243,rfl,by kernel_rfl⟩
theorem cx243_ok(hC:Cok cx Gl):afn cx Gl cx243 243:=xsb_ok hC ent_243 fun a b v h=>by
 obtain⟨h1,h⟩:=aad h;rw [aaj,abn]at h1;exact⟨cv_pl h,fun E w hG=>CR.mono (sh_LastIndexByte a b w h1) fun V w' hv=>⟨hv.1.trans (by rw [(akz h E 0).1,beqn]),hv.2⟩⟩
theorem ent_250:Go.Wk.Enters cx.P 250:=⟨Tryz.f250,_,Tryz.func250,rfl,by kernel_rfl⟩
theorem cx250_ok(hC:Cok cx Gl):afn cx Gl cx250 250:=xs2_ok hC ent_250 fun a b v h=>by
 obtain⟨h1,h⟩:=aad h;rw [aaj,abn]at h1;obtain⟨h2,h⟩:=aad h;rw [aaj,abn]at h2;obtain⟨h3,h⟩:=aad h;exact⟨cv_pl h,fun E w hG=>CR.mono (sh_TrimLeft a b w h1 ⟨h2,h3⟩) fun V w' hv=>⟨hv.1.trans (akz h E 0).1.symm,hv.2⟩⟩
theorem cx_x:Xok cx Gl:=by
 intro k f h;have h:cxX k=some f:=h;unfold cxX at h;rw [aba]at h;split at h
 ·rw [aba]at h;split at h
  ·rw [aba]at h;split at h
   ·rw [aba]at h;split at h
    ·rw [aba]at h;split at h
     ·rename_i hk;rw [aal]at hk;have hk:k=34:=hk;subst hk;cases h
      exact cx34_ok cx_ok
     ·cases h
    ·rw [aba]at h;split at h
     ·rename_i hk;rw [aal]at hk;have hk:k=64:=hk;subst hk;cases h
      exact cx64_ok cx_ok
     ·cases h
   ·rw [aba]at h;split at h
    ·rw [aba]at h;split at h
     ·rename_i hk;rw [aal]at hk;have hk:k=74:=hk;subst hk;cases h
      exact cx74_ok cx_ok
     ·cases h
    ·rw [aba]at h;split at h
     ·rename_i hk;rw [aal]at hk;have hk:k=85:=hk;subst hk;cases h
      exact cx85_ok cx_ok
     ·cases h
  ·rw [aba]at h;split at h
   ·rw [aba]at h;split at h
    ·rw [aba]at h;split at h
     ·rename_i hk;rw [aal]at hk;have hk:k=101:=hk;subst hk;cases h
      exact cx101_ok cx_ok
     ·cases h
    ·rw [aba]at h;split at h
     ·rename_i hk;rw [aal]at hk;have hk:k=107:=hk;subst hk;cases h
      exact cx107_ok cx_ok
     ·cases h
   ·rw [aba]at h;split at h
    ·rw [aba]at h;split at h
     ·rename_i hk;rw [aal]at hk;have hk:k=108:=hk;subst hk;cases h
      exact cx108_ok cx_ok
     ·cases h
    ·rw [aba]at h;split at h
     ·rename_i hk;rw [aal]at hk;have hk:k=115:=hk;subst hk;cases h
      exact cx115_ok cx_ok
     ·cases h
 ·rw [aba]at h;split at h
  ·rw [aba]at h;split at h
   ·rw [aba]at h;split at h
    ·rw [aba]at h;split at h
     ·rename_i hk;rw [aal]at hk;have hk:k=127:=hk;subst hk;cases h
      exact cx127_ok cx_ok
     ·cases h
    ·rw [aba]at h;split at h
     ·rename_i hk;rw [aal]at hk;have hk:k=135:=hk;subst hk;cases h
      exact cx135_ok cx_ok
     ·cases h
   ·rw [aba]at h;split at h
    ·rw [aba]at h;split at h
     ·rename_i hk;rw [aal]at hk;have hk:k=171:=hk;subst hk;cases h
      exact cx171_ok cx_ok
     ·cases h
    ·rw [aba]at h;split at h
     ·rename_i hk;rw [aal]at hk;have hk:k=212:=hk;subst hk;cases h
      exact cx212_ok cx_ok
     ·cases h
  ·rw [aba]at h;split at h
   ·rw [aba]at h;split at h
    ·rw [aba]at h;split at h
     ·rename_i hk;rw [aal]at hk;have hk:k=230:=hk;subst hk;cases h
      exact cx230_ok cx_ok
     ·cases h
    ·rw [aba]at h;split at h
     ·rename_i hk;rw [aal]at hk;have hk:k=240:=hk;subst hk;cases h
      exact cx240_ok cx_ok
     ·cases h
   ·rw [aba]at h;split at h
    ·rw [aba]at h;split at h
     ·rename_i hk;rw [aal]at hk;have hk:k=243:=hk;subst hk;cases h
      exact cx243_ok cx_ok
     ·cases h
    ·rw [aba]at h;split at h
     ·rename_i hk;rw [aal]at hk;have hk:k=250:=hk;subst hk;cases h
      exact cx250_ok cx_ok
     ·cases h
theorem closed{n k:Nat}(h:isT ((lev cx n).call k [] H0)=true){w:World}(hG:Gl w):Go.Wk.Enters Tryz.prog k∧CR Tryz.prog k [] w fun V w'=>V=.bool true∧Hp w [] [] w':=
 let ⟨H',h⟩:=isT_ok h
 run_says cx_ok cx_x h rfl rfl hG (fun _=>(0,0))
theorem awake_runs:isT ((lev cx 60).call 5 [] H0)=true:=by kernel_rfl
theorem sh_awake(w:World)(hG:Gl w):CR Tryz.prog 5 [] w fun v w'=>v=.bool true∧Hp w [] [] w':=(closed awake_runs hG).2
end Go.Proofs
set_option maxHeartbeats 1000000
namespace Go.Proofs
open Go.Wk Go.Px
open Go.Value renaming slice → Vs, int → Vi, bool → Vb, pointer → Vp
open Int renaming toNat → zae
open Nat renaming lt_succ_self → zag
open Tryz
theorem ent40:Wk.Enters prog 40:=⟨f40,_,func40,rfl,krf⟩
theorem ent63:Wk.Enters prog 63:=⟨f63,_,func63,rfl,krf⟩
theorem ent90:Wk.Enters prog 90:=⟨f90,_,func90,rfl,krf⟩
theorem ent91:Wk.Enters prog 91:=⟨f91,_,func91,rfl,krf⟩
theorem K_L_lexis_char_token {fu : Nat} {a2 : UInt8} {w : World} {r : Bool} (hr : aep fu a2 = some r) (hG : Gl w) : CR prog 91 [(bt a2)] w fun v w' => v = (Vb r) ∧ Hp w [] [] w' := by
 have hH := Hp.refl w;refine enter (k := 34) func91 rfl rfl nbe ?_;unfold aep at hr;refine sr (wp 1 (nq (bi hr fun a7 a0 hr => cut1 hH a7 [0, 2] (fun a8 => []) ?_ ?_)));refine ce (cs (bi a0 fun a9 a3 a0 => aks hH [0, 2, 3] [(3, (Vb a9))] ?_ ?_));refine cr (wp 1 (ajw a2 (97 : UInt8) krf krf (wd a3 (fun b0 a3 => ?_) (fun b0 a3 => ?_))));refine wp 1 (gy 6 (ajv a2 (122 : UInt8) krf krf (wp 2 (wl (ql ?_)))));obtain rfl := oi a3;exact je hH.kp
 refine wp 4 (wl (ql ?_));obtain rfl := oi a3;exact je hH.kp
 intro d8 G a4;refine cb a0 (fun b1 a0 => ?_) (fun b1 a0 => ?_);refine ck (qn (cb a0 (fun b2 a0 => ?_) (fun b2 a0 => ?_)));refine sr (wp 1 (nq (ct (bt_ (acs ?_)))));obtain rfl := oi a0;obtain rfl := oi hr;exact rv a4.kp
 refine ck (bn (ql ?_));obtain rfl := oi a0;exact je1 rfl a4.kp
 refine bi a0 fun b3 a5 a0 => aks a4 [0, 2, 3] [(3, (Vb b3))] ?_ ?_
 refine cr (wp 1 (ajw a2 (65 : UInt8) krf krf (wd a5 (fun b4 a5 => ?_) (fun b4 a5 => ?_))));refine wp 1 (gy 12 (ajv a2 (90 : UInt8) krf krf (wp 2 (wl (ql ?_)))));obtain rfl := oi a5;exact je a4.kp
 refine wp 4 (wl (ql ?_));obtain rfl := oi a5;exact je a4.kp
 intro d9 G a6;refine cb a0 (fun b5 a0 => ?_) (fun b5 a0 => ?_);refine ck (qn (cb a0 (fun b6 a0 => ?_) (fun b6 a0 => ?_)));refine sr (wp 1 (nq (ct (bt_ (acs ?_)))));obtain rfl := oi a0;obtain rfl := oi hr;exact rv a6.kp
 refine ck (bn (ql ?_));obtain rfl := oi a0;exact je1 rfl a6.kp
 refine cr (wp 1 (ajw a2 (48 : UInt8) krf krf (wd a0 (fun b7 a0 => ?_) (fun b7 a0 => ?_))));refine wp 1 (gy 18 (ajv a2 (57 : UInt8) krf krf (wp 2 (nq (cd a0 (fun b8 a0 => ?_) (fun b8 a0 => ?_))))));refine sr (wp 1 (nq (ct (bt_ (acs ?_)))));obtain rfl := oi a0;obtain rfl := oi hr;exact rv a6.kp
 refine ck (bn (ql ?_));obtain rfl := oi a0;exact je1 rfl a6.kp
 refine wp 4 (nq (c_false krf (ck (bn (ql ?_)))));obtain rfl := oi a0;exact je1 rfl a6.kp
 rintro a8 e0 G a1 rfl
 refine cs (sr (wp 1 (nq (ce (cs (sr ?_))))));refine aay a2 (45 : UInt8) krf krf (wp 1 (nq (cd hr (fun b9 hr => ?_) (fun b9 hr => ?_))));refine ck (qn (cd hr (fun c0 hr => ?_) (fun c0 hr => ?_)));refine sr (wp 1 (nq (ct (bt_ (st ?_)))));obtain rfl := oi hr;exact rv a1.kp
 refine ck (bn (qn (sr (wp 1 (nq (ct ?_))))));obtain rfl := oi hr;exact rv a1.kp
 refine sr (aay a2 (46 : UInt8) krf krf (wp 1 (nq (cd hr (fun c1 hr => ?_) (fun c1 hr => ?_)))));refine ck (qn (cd hr (fun c2 hr => ?_) (fun c2 hr => ?_)));refine sr (wp 1 (nq (ct (bt_ (st ?_)))));obtain rfl := oi hr;exact rv a1.kp
 refine ck (bn (qn (sr (wp 1 (nq (ct ?_))))));obtain rfl := oi hr;exact rv a1.kp
 refine sr (aay a2 (33 : UInt8) krf krf (wp 1 (nq (cd hr (fun c3 hr => ?_) (fun c3 hr => ?_)))));refine ck (qn (cd hr (fun c4 hr => ?_) (fun c4 hr => ?_)));refine sr (wp 1 (nq (ct (bt_ (st ?_)))));obtain rfl := oi hr;exact rv a1.kp
 refine ck (bn (qn (sr (wp 1 (nq (ct ?_))))));obtain rfl := oi hr;exact rv a1.kp
 refine sr (aay a2 (37 : UInt8) krf krf (wp 1 (nq (cd hr (fun c5 hr => ?_) (fun c5 hr => ?_)))));refine ck (qn (cd hr (fun c6 hr => ?_) (fun c6 hr => ?_)));refine sr (wp 1 (nq (ct (bt_ (st ?_)))));obtain rfl := oi hr;exact rv a1.kp
 refine ck (bn (qn (sr (wp 1 (nq (ct ?_))))));obtain rfl := oi hr;exact rv a1.kp
 refine sr (aay a2 (42 : UInt8) krf krf (wp 1 (nq (cd hr (fun c7 hr => ?_) (fun c7 hr => ?_)))));refine ck (qn (cd hr (fun c8 hr => ?_) (fun c8 hr => ?_)));refine sr (wp 1 (nq (ct (bt_ (st ?_)))));obtain rfl := oi hr;exact rv a1.kp
 refine ck (bn (qn (sr (wp 1 (nq (ct ?_))))));obtain rfl := oi hr;exact rv a1.kp
 refine sr (aay a2 (95 : UInt8) krf krf (wp 1 (nq (cd hr (fun c9 hr => ?_) (fun c9 hr => ?_)))));refine ck (qn (cd hr (fun d0 hr => ?_) (fun d0 hr => ?_)));refine sr (wp 1 (nq (ct (bt_ (st ?_)))));obtain rfl := oi hr;exact rv a1.kp
 refine ck (bn (qn (sr (wp 1 (nq (ct ?_))))));obtain rfl := oi hr;exact rv a1.kp
 refine sr (aay a2 (43 : UInt8) krf krf (wp 1 (nq (cd hr (fun d1 hr => ?_) (fun d1 hr => ?_)))));refine ck (qn (cd hr (fun d2 hr => ?_) (fun d2 hr => ?_)));refine sr (wp 1 (nq (ct (bt_ (st ?_)))));obtain rfl := oi hr;exact rv a1.kp
 refine ck (bn (qn (sr (wp 1 (nq (ct ?_))))));obtain rfl := oi hr;exact rv a1.kp
 refine sr (aay a2 (39 : UInt8) krf krf (wp 1 (nq (cd hr (fun d3 hr => ?_) (fun d3 hr => ?_)))));refine ck (qn (cd hr (fun d4 hr => ?_) (fun d4 hr => ?_)));refine sr (wp 1 (nq (ct (bt_ (st ?_)))));obtain rfl := oi hr;exact rv a1.kp
 refine ck (bn (qn (sr (wp 1 (nq (ct ?_))))));obtain rfl := oi hr;exact rv a1.kp
 refine sr (aay a2 (126 : UInt8) krf krf (wp 1 (nq (cd hr (fun d5 hr => ?_) (fun d5 hr => ?_)))));refine ck (qn (cd hr (fun d6 hr => ?_) (fun d6 hr => ?_)));refine sr (wp 1 (nq (ct (bt_ (st ?_)))));obtain rfl := oi hr;exact rv a1.kp
 refine ck (bn (qn (sr (wp 1 (nq (ct ?_))))));obtain rfl := oi hr;exact rv a1.kp
 refine cr (aay a2 (96 : UInt8) krf krf (wp 1 (nq (cd hr (fun d7 hr => ?_) (fun d7 hr => ?_)))));refine sr (wp 1 (nq (ct (bt_ (st ?_)))));obtain rfl := oi hr;exact rv a1.kp
 refine ck (bn (qn (sr (wp 1 (nq (ct ?_))))));obtain rfl := oi hr;exact rv a1.kp
theorem aje {fu : Nat} {a3 : Str} {a4 : Int} {w : World} {r : Int} (hr : abq fu a3 a4 = some r) (hG : Gl w) : CR prog 90 [(str a3), (Vi .i64 a4), (Value.func (.func 91) #[] #[])] w fun v w' => v = (Vi .i64 r) ∧ Hp w [] [] w' := by
 have hH := Hp.refl w;refine enter (k := 26) func90 rfl rfl nbe ?_;unfold abq at hr;refine sr (wp 1 (nq (sr (wp 1 (w_max .i64 a4 (0 : Int) krf krf (wp 2 ?_))))));refine w_min .i64 (max a4 (0 : Int)) (a3.length : Int) krf krf (wp 1 (nq (bi hr fun a8 a9 hr => aks hH [1, 6] [(1, (Vi .i64 a8))] ?_ ?_)));refine ce (lpS (fun a6 a2 => abe fu a3 a6 a2) (min (max a4 (0 : Int)) (a3.length : Int)) hH a9 [0, 1, 2, 6] (fun a2 => [(1, (Vi .i64 a2))]) (fun _ => rfl) ?_);rintro a6 a2 b8 G a5 a0
 rw [ace, abb] at a0;refine cs (bi a0 fun b0 a1 a0 => aks a5 [0, 1, 2, 6, 22] [(22, (Vb b0))] ?_ ?_);refine cr (wp 4 (wd a1 (fun b1 a1 => ?_) (fun b1 a1 => ?_)));refine wp 3 (gy 16 (gi a1 fun b2 a1 => adb a3 .i64 a2 underlying9 krf krf b2 (gy 16 (bi a1 fun b9 b3 a1 => wc ent91 a5 (K_L_lexis_char_token b3 (hG.hp0 a5)) fun c0 b4 => wp 1 (wl (ql ?_))))));obtain rfl := oi a1;exact je b4.kp
 refine wp 6 (wl (ql ?_));obtain rfl := oi a1;exact je a5.kp
 intro c1 G a7;refine cb a0 (fun b5 a0 => ?_) (fun b5 a0 => ?_);refine ck (qn (ce (cr (wp 1 (gi a0 fun b6 a0 => aao a2 (1 : Int) krf krf b6 (wp 1 (wl (bn ?_))))))));exact ql (le' (a2 + (1 : Int)) a7.kp a0)
 refine adh (adf (adu (adm (ql ?_))));obtain rfl := oi a0;exact je a7.kp
 intro c2 G b7;refine sr (wp 2 (nq (ct ?_)));obtain rfl := oi hr;exact rv b7.kp
theorem K_L_lexis_TokenEnd {fu : Nat} {a0 : Str} {a1 : Int} {w : World} {r : Int} (hr : ahk fu a0 a1 = some r) (hG : Gl w) : CR prog 63 [(str a0), (Vi .i64 a1)] w fun v w' => v = (Vi .i64 r) ∧ Hp w [] [] w' := by
 have hH := Hp.refl w;refine enter (k := 8) func63 rfl rfl nbe ?_;unfold ahk at hr;refine sr (wp 1 (nq (sr (wp 2 (bi hr fun y1 a2 hr => wc ent90 hH (aje a2 (hG.hp0 hH)) fun w3 a3 => ?_)))));refine wp 1 (nq (ct ?_));obtain rfl := oi hr;exact rv a3.kp
theorem K_L_lexis_Token {fu : Nat} {a1 : Str} {w : World} {r : Bool} (hr : aip fu a1 = some r) (hG : Gl w) : CR prog 38 [(str a1)] w fun v w' => v = (Vb r) ∧ Hp w [] [] w' := by
 have hH := Hp.refl w;refine enter (k := 12) func38 rfl rfl nbe ?_;unfold aip at hr;refine sr (wp 1 (nq (bi hr fun a2 a0 hr => aks hH [2] [(2, (Vb a2))] ?_ ?_)));refine cr (wp 2 (wn a0 (fun a3 a0 => ?_) (fun a3 a0 => ?_)));refine wp 1 (gy 5 (bi a0 fun a7 a4 a0 => wc ent63 hH (K_L_lexis_TokenEnd a4 (hG.hp0 hH)) fun a8 a5 => wp 5 (wl (ql ?_))));obtain rfl := oi a0;exact je a5.kp
 refine wp 7 (wl (ql ?_));obtain rfl := oi a0;exact je hH.kp
 intro a9 G a6;refine ct ?_;obtain rfl := oi hr;exact rv a6.kp
theorem ahg {fu : Nat} {a0 : UInt8} {w : World} {r : UInt8} (hr : acm fu a0 = some r) (hG : Gl w) : CR prog 40 [(bt a0)] w fun v w' => v = (bt r) ∧ Hp w [] [] w' := by
 have hH := Hp.refl w;refine enter (k := 12) func40 rfl rfl nbe ?_;unfold acm at hr;refine sr (wp 1 (nq (cs (bi hr fun v5 a1 hr => aks hH [0, 2, 8] [(8, (Vb v5))] ?_ ?_))));refine cr (wp 1 (ajw a0 (65 : UInt8) krf krf (wd a1 (fun h6 a1 => ?_) (fun h6 a1 => ?_))));refine wp 1 (gy 5 (ajv a0 (90 : UInt8) krf krf (wp 1 (wl (ql ?_)))));obtain rfl := oi a1;exact je hH.kp
 refine wp 3 (wl (ql ?_));obtain rfl := oi a1;exact je hH.kp
 intro w7 G a2;refine cb hr (fun h9 hr => ?_) (fun h9 hr => ?_);refine cr (wp 1 (w8_add a0 (32 : UInt8) krf krf (wp 1 (nq (sr (wp 2 (wl ?_)))))));refine qn (ct ?_);obtain rfl := oi hr;exact rv a2.kp
 refine ck (qn (sr (wp 2 (nq (ct ?_)))));obtain rfl := oi hr;exact rv a2.kp
theorem K_L_header_longName {fu : Nat} {a0 : UInt8} {w : World} {r : Str} (hr : afm fu a0 = some r) (hG : Gl w) : CR prog 39 [(bt a0)] w fun v w' => v = (str r) ∧ Hp w [] [] w' := by
 have hH := Hp.refl w;refine enter (k := 34) func39 rfl rfl nbe ?_;unfold afm at hr;refine sr (wp 1 (nq (cs (sr (wp 1 (wl ?_))))));refine qn (ce (sr (aay a0 (98 : UInt8) krf krf (wp 1 (nq (cd hr (fun h1 hr => ?_) (fun h1 hr => ?_)))))));refine sr (wp 1 (nq (ct (bt_ (st ?_)))));obtain rfl := oi hr;exact rv hH.kp
 refine sr (aay a0 (99 : UInt8) krf krf (wp 1 (nq (cd hr (fun h2 hr => ?_) (fun h2 hr => ?_)))));refine sr (wp 1 (nq (ct (bt_ (st ?_)))));obtain rfl := oi hr;exact rv hH.kp
 refine sr (aay a0 (101 : UInt8) krf krf (wp 1 (nq (cd hr (fun h3 hr => ?_) (fun h3 hr => ?_)))));refine sr (wp 1 (nq (ct (bt_ (st ?_)))));obtain rfl := oi hr;exact rv hH.kp
 refine sr (aay a0 (102 : UInt8) krf krf (wp 1 (nq (cd hr (fun h4 hr => ?_) (fun h4 hr => ?_)))));refine sr (wp 1 (nq (ct (bt_ (st ?_)))));obtain rfl := oi hr;exact rv hH.kp
 refine sr (aay a0 (105 : UInt8) krf krf (wp 1 (nq (cd hr (fun h5 hr => ?_) (fun h5 hr => ?_)))));refine sr (wp 1 (nq (ct (bt_ (st ?_)))));obtain rfl := oi hr;exact rv hH.kp
 refine sr (aay a0 (107 : UInt8) krf krf (wp 1 (nq (cd hr (fun h6 hr => ?_) (fun h6 hr => ?_)))));refine sr (wp 1 (nq (ct (bt_ (st ?_)))));obtain rfl := oi hr;exact rv hH.kp
 refine sr (aay a0 (108 : UInt8) krf krf (wp 1 (nq (cd hr (fun h7 hr => ?_) (fun h7 hr => ?_)))));refine sr (wp 1 (nq (ct (bt_ (st ?_)))));obtain rfl := oi hr;exact rv hH.kp
 refine sr (aay a0 (109 : UInt8) krf krf (wp 1 (nq (cd hr (fun h8 hr => ?_) (fun h8 hr => ?_)))));refine sr (wp 1 (nq (ct (bt_ (st ?_)))));obtain rfl := oi hr;exact rv hH.kp
 refine sr (aay a0 (111 : UInt8) krf krf (wp 1 (nq (cd hr (fun h9 hr => ?_) (fun h9 hr => ?_)))));refine sr (wp 1 (nq (ct (bt_ (st ?_)))));obtain rfl := oi hr;exact rv hH.kp
 refine sr (aay a0 (114 : UInt8) krf krf (wp 1 (nq (cd hr (fun a1 hr => ?_) (fun a1 hr => ?_)))));refine sr (wp 1 (nq (ct (bt_ (st ?_)))));obtain rfl := oi hr;exact rv hH.kp
 refine sr (aay a0 (115 : UInt8) krf krf (wp 1 (nq (cd hr (fun a2 hr => ?_) (fun a2 hr => ?_)))));refine sr (wp 1 (nq (ct (bt_ (st ?_)))));obtain rfl := oi hr;exact rv hH.kp
 refine sr (aay a0 (116 : UInt8) krf krf (wp 1 (nq (cd hr (fun a3 hr => ?_) (fun a3 hr => ?_)))));refine sr (wp 1 (nq (ct (bt_ (st ?_)))));obtain rfl := oi hr;exact rv hH.kp
 refine sr (aay a0 (117 : UInt8) krf krf (wp 1 (nq (cd hr (fun a4 hr => ?_) (fun a4 hr => ?_)))));refine sr (wp 1 (nq (ct (bt_ (st ?_)))));obtain rfl := oi hr;exact rv hH.kp
 refine sr (aay a0 (118 : UInt8) krf krf (wp 1 (nq (cd hr (fun a5 hr => ?_) (fun a5 hr => ?_)))));refine sr (wp 1 (nq (ct (bt_ (st ?_)))));obtain rfl := oi hr;exact rv hH.kp
 refine sr (aay a0 (120 : UInt8) krf krf (wp 1 (nq (cd hr (fun a6 hr => ?_) (fun a6 hr => ?_)))));refine sr (wp 1 (nq (ct (bt_ (st ?_)))));obtain rfl := oi hr;exact rv hH.kp
 refine ck (bn (qn (sr (wp 1 (nq (ct ?_))))));obtain rfl := oi hr;exact rv hH.kp
theorem adp {fu : Nat} {a2 : Str} {w : World} {r : Str} (hr : aar fu a2 = some r) (hG : Gl w) : CR prog 41 [(str a2), (Value.func (.func 40) #[] #[])] w fun v w' => v = (str r) ∧ Hp w [] [] w' := by
 have hH := Hp.refl w;refine enter (k := 26) func41 rfl rfl nbe ?_;unfold aar at hr;refine sr (wp 1 (nq (sr (wp 1 (w_tobytes hH a2 5 underlying9 underlying23 underlying5 krf fun a1 cap2 w3 b3 => wp 1 ?_)))));refine nq (bi hr fun b2 b4 hr => cut (σ := Str) [4, 5] (fun a5 => []) (fun a5 w' => Hp w [] [brow (Vs a1 a2.length cap2) a2.length a5] w' ∧ a5 = b2) ?_ ?_);refine sr (wp 3 (nq (ce (lpG (σ := Nat × Str × Int) [1, 4, 5, 10, 11, 12] (fun ⟨a6, a4, a3⟩ => [(12, (Vi .i64 a3))]) (fun ⟨a6, a4, a3⟩ w' => Hp w [] [brow (Vs a1 a2.length cap2) a2.length a4] w' ∧ aat fu a2 a6 a4 a3 = some b2) (fun ⟨a6, a4, a3⟩ => a6) (fu, a2, (0 : Int)) (by exact ⟨b3.kp, b4⟩) ?_))));rintro ⟨_ | a6, a4, a3⟩ c4 G ⟨a7, a0⟩
 · exact nzz a0
 rw [abv, aas] at a0;refine sr (wp 1 (nq (cs (cd a0 (fun b5 a0 => ?_) (fun b5 a0 => ?_)))));refine ck (qn (cs (ce (sr (wp 1 (gi a0 fun b6 a0 => ago a1 a2.length cap2 5 1 .i64 a3 underlying23 krf krf krf a4 (a7.browlen 0 rfl).symm b6 (Rd.ofbytes (a7.rdbrow 0 rfl)) ahh (by decide) (gi a0 fun b7 a0 => ?_)))))));refine aji a1 eB a4 1 a3 ahh (Rd.ofbytes (a7.rdbrow 0 rfl)) (bt (at_ a4 a3)) b7 (by decide) krf krf krf (wp 2 (nq (cr (wp 4 (bi a0 fun a8 b8 a0 => wc ent40 a7 (ahg b8 (hG.hp0 a7)) fun c5 a9 => gi a0 fun b9 a0 => ago a1 a2.length cap2 5 1 .i64 a3 underlying23 krf krf krf a4 (a9.browlen 0 rfl).symm b9 (Rd.ofbytes (a9.rdbrow 0 rfl)) ahh (by decide) ?_)))));refine gi a0 fun c0 a0 => w_stB a9 0 a1 a2.length cap2 a3 a4 a8 rfl c0 krf krf krf fun c1 b0 => ?_
 replace b0 : Hp w [] [brow (Vs a1 a2.length cap2) a2.length (List.set a4 (zae a3) a8)] c1 := b0;refine wl (bn (qn (cr (gi a0 fun c2 a0 => aao a3 (1 : Int) krf krf c2 (wp 1 (wl (ql ?_)))))));exact ⟨(a6, List.set a4 (zae a3) a8, a3 + (1 : Int)), _, rfl, by kernel_rfl, ⟨b0.kp, a0⟩, zag _⟩
 refine adh (adf (adu (adm (ql ?_))));obtain rfl := oi a0;exact ⟨a4, _, rfl, by kernel_rfl, a7.kp, rfl⟩
 rintro a5 c3 G ⟨b1, rfl⟩
 refine sr (wp 1 (abj (v := (str a5)) (w' := c3) rfl rfl (aku a5 a1 a2.length cap2 5 (Rd.bytes (Rd.ofbytes (b1.rdbrow 0 rfl))) (b1.browlen 0 rfl) underlying23 underlying9 underlying5 krf) (wp 1 (nq (ct ?_)))));obtain rfl := oi hr;exact rv b1.kp
theorem K_L_header_upperByte {fu : Nat} {a0 : UInt8} {w : World} {r : UInt8} (hr : air fu a0 = some r) (hG : Gl w) : CR prog 43 [(bt a0)] w fun v w' => v = (bt r) ∧ Hp w [] [] w' := by
 have hH := Hp.refl w;refine enter (k := 12) func43 rfl rfl nbe ?_;unfold air at hr;refine sr (wp 1 (nq (cs (bi hr fun v5 a1 hr => aks hH [0, 2, 8] [(8, (Vb v5))] ?_ ?_))));refine cr (wp 1 (ajw a0 (97 : UInt8) krf krf (wd a1 (fun h6 a1 => ?_) (fun h6 a1 => ?_))));refine wp 1 (gy 5 (ajv a0 (122 : UInt8) krf krf (wp 1 (wl (ql ?_)))));obtain rfl := oi a1;exact je hH.kp
 refine wp 3 (wl (ql ?_));obtain rfl := oi a1;exact je hH.kp
 intro w7 G a2;refine cb hr (fun h9 hr => ?_) (fun h9 hr => ?_);refine cr (wp 1 (w8_sub a0 (32 : UInt8) krf krf (wp 1 (nq (sr (wp 2 (wl ?_)))))));refine qn (ct ?_);obtain rfl := oi hr;exact rv a2.kp
 refine ck (qn (sr (wp 2 (nq (ct ?_)))));obtain rfl := oi hr;exact rv a2.kp
open Go.Value renaming agg → zah
open List renaming flatMap → zao, length_take → zab, replicate → zaj
open Nat renaming le_trans → zas, lt_of_lt_of_le → zap, lt_succ_self → zag
theorem ent15:Wk.Enters prog 15:=⟨f15,_,func15,rfl,krf⟩
theorem ent22:Wk.Enters prog 22:=⟨f22,_,func22,rfl,krf⟩
theorem ent38:Wk.Enters prog 38:=⟨f38,_,func38,rfl,krf⟩
theorem ent39:Wk.Enters prog 39:=⟨f39,_,func39,rfl,krf⟩
theorem ent41:Wk.Enters prog 41:=⟨f41,_,func41,rfl,krf⟩
theorem ent42:Wk.Enters prog 42:=⟨f42,_,func42,rfl,krf⟩
theorem ent43:Wk.Enters prog 43:=⟨f43,_,func43,rfl,krf⟩
theorem ent47:Wk.Enters prog 47:=⟨f47,_,func47,rfl,krf⟩
theorem ent52:Wk.Enters prog 52:=⟨f52,_,func52,rfl,krf⟩
theorem K_L_header_Canon_1 {fu : Nat} {a2 : UInt8} {a1 : Bool} (a0 : Nat) {w : World} {r : (UInt8 × Bool)} (hr : agd fu a2 a1 = some r) (hG : Gl w) (hM : Hp w (aix [blk a0 [(Vb a1)] 4]) [blk a0 [(Vb a1)] 4] w) (hS : ∀ b ∈ aix [blk a0 [(Vb a1)] 4], 12 ≤ b) : CR prog 42 [(bt a2), (Vp (some ⟨a0, 0, none⟩))] w fun v w' => v = (bt r.1) ∧ Hp w (aix [blk a0 [(Vb a1)] 4]) [blk a0 [(Vb r.2)] 4] w' := by
 have hH : Hp w (aix [blk a0 [(Vb a1)] 4]) [blk a0 [(Vb a1)] 4] w := hM;refine enter (k := 12) func42 rfl rfl nbe ?_;unfold agd at hr;refine sr (wp 1 (nq (cs (sr (aeg hH 0 a0 0 [(Vb a1)] 4 (Vb a1) rfl rfl krf krf (wl ?_))))));refine qn (cb hr (fun h1 hr => ?_) (fun h1 hr => ?_));refine cr (wp 1 (bi hr fun y2 a3 hr => wc ent43 hH (K_L_header_upperByte a3 (hG.hp hH hS)) fun w4 a4 => wp 1 (nq (sr (wp 1 ?_)))));refine aay y2 (45 : UInt8) krf krf (w_st1 a4 0 a0 0 [(Vb a1)] 4 (Vb (decide (y2 = (45 : UInt8)))) [blk a0 [(Vb (decide (y2 = (45 : UInt8))))] 4] rfl (zap (zag _) nbe) krf krf rfl krf rfl fun w7 a5 => nq (sr (wp 2 (nq (ct ?_)))));obtain rfl := oi hr;refine akx (bt y2) rfl krf ?_;exact ⟨(by first | rfl | (simp; done) | (simp; omega) | exact aae (by rw [zab]; omega)), a5.kp⟩
 refine cr (wp 1 (bi hr fun y9 a6 hr => wc ent40 hH (ahg a6 (hG.hp hH hS)) fun a9 a7 => wp 1 (nq (sr (wp 1 ?_)))));refine aay y9 (45 : UInt8) krf krf (w_st1 a7 0 a0 0 [(Vb a1)] 4 (Vb (decide (y9 = (45 : UInt8)))) [blk a0 [(Vb (decide (y9 = (45 : UInt8))))] 4] rfl (zap (zag _) nbe) krf krf rfl krf rfl fun b0 a8 => nq (sr (wp 2 (nq (ct ?_)))));obtain rfl := oi hr;refine akx (bt y9) rfl krf ?_;exact ⟨(by first | rfl | (simp; done) | (simp; omega) | exact aae (by rw [zab]; omega)), a8.kp⟩
theorem ahv {fu : Nat} {a0 : Str} {a6 : Bool} (a2 : Nat) {w : World} {r : (Str × Bool)} (hr : aaw fu a0 a6 = some r) (hG : Gl w) (hM : Hp w (aix [blk a2 [(Vb a6)] 4]) [blk a2 [(Vb a6)] 4] w) (hS : ∀ b ∈ aix [blk a2 [(Vb a6)] 4], 12 ≤ b) : CR prog 41 [(str a0), (Value.func (.func 42) #[] #[(Vp (some ⟨a2, 0, none⟩))])] w fun v w' => v = (str r.1) ∧ Hp w (aix [blk a2 [(Vb a6)] 4]) [blk a2 [(Vb r.2)] 4] w' := by
 have hH : Hp w (aix [blk a2 [(Vb a6)] 4]) [blk a2 [(Vb a6)] 4] w := hM;refine enter (k := 26) func41 rfl rfl nbe ?_;unfold aaw at hr;refine sr (wp 1 (nq (sr (wp 1 (w_tobytes hH a0 5 underlying9 underlying23 underlying5 krf fun a1 cap2 w3 b7 => wp 1 ?_)))));refine nq (bi hr fun b5 b8 hr => cut (σ := (Str × Bool)) [4, 5] (fun a7 => []) (fun a7 w' => Hp w (aix [blk a2 [(Vb a6)] 4]) [blk a2 [(Vb a7.2)] 4, brow (Vs a1 a0.length cap2) a0.length a7.1] w' ∧ a7 = b5) ?_ ?_);refine sr (wp 3 (nq (ce (lpG (σ := Nat × Str × Int × Bool) [1, 4, 5, 10, 11, 12] (fun ⟨b0, a4, a5, a8⟩ => [(12, (Vi .i64 a5))]) (fun ⟨b0, a4, a5, a8⟩ w' => Hp w (aix [blk a2 [(Vb a6)] 4]) [blk a2 [(Vb a8)] 4, brow (Vs a1 a0.length cap2) a0.length a4] w' ∧ aaz fu a0 b0 a4 a5 a8 = some b5) (fun ⟨b0, a4, a5, a8⟩ => b0) (fu, a0, (0 : Int), a6) (by exact ⟨(Hp.front b7 1 _ rfl).kp, b8⟩) ?_))));rintro ⟨_ | b0, a4, a5, a8⟩ c9 G ⟨a9, a3⟩
 · exact nzz a3
 rw [abx, aav] at a3;refine sr (wp 1 (nq (cs (cd a3 (fun b9 a3 => ?_) (fun b9 a3 => ?_)))));refine ck (qn (cs (ce (sr (wp 1 (gi a3 fun c0 a3 => ago a1 a0.length cap2 5 1 .i64 a5 underlying23 krf krf krf a4 (a9.browlen 1 rfl).symm c0 (Rd.ofbytes (a9.rdbrow 1 rfl)) ahh (by decide) (gi a3 fun c1 a3 => ?_)))))));refine aji a1 eB a4 1 a5 ahh (Rd.ofbytes (a9.rdbrow 1 rfl)) (bt (at_ a4 a5)) c1 (by decide) krf krf krf (wp 2 (nq (cr (wp 4 (bi a3 fun b1 c2 a3 => abl 42 #[(Vp (some ⟨a2, 0, none⟩))] [(bt (at_ a4 a5)), (Vp (some ⟨a2, 0, none⟩))] _ ent42 krf krf (K_L_header_Canon_1 a2 c2 (hG.hp a9 hS) (a9.hand (L1 := [blk a2 [(Vb a8)] 4]) (L2 := [brow (Vs a1 a0.length cap2) a0.length a4])) (a9.highs hG hS 1 rfl)) ?_)))));rintro _ c3 ⟨rfl, b6⟩
 have b2 : Hp w (aix [blk a2 [(Vb a6)] 4]) [blk a2 [(Vb b1.2)] 4, brow (Vs a1 a0.length cap2) a0.length a4] c3 := Hp.callK (L1 := [blk a2 [(Vb a8)] 4]) (L2 := [brow (Vs a1 a0.length cap2) a0.length a4]) a9 b6; clear b6;refine gi a3 fun c4 a3 => ago a1 a0.length cap2 5 1 .i64 a5 underlying23 krf krf krf a4 (b2.browlen 1 rfl).symm c4 (Rd.ofbytes (b2.rdbrow 1 rfl)) ahh (by decide) (gi a3 fun c5 a3 => w_stB b2 1 a1 a0.length cap2 a5 a4 b1.1 rfl c5 krf krf krf fun c6 b3 => ?_)
 replace b3 : Hp w (aix [blk a2 [(Vb a6)] 4]) [blk a2 [(Vb b1.2)] 4, brow (Vs a1 a0.length cap2) a0.length (List.set a4 (zae a5) b1.1)] c6 := b3;refine wl (bn (qn (cr (gi a3 fun c7 a3 => aao a5 (1 : Int) krf krf c7 (wp 1 (wl (ql ?_)))))));exact ⟨(b0, List.set a4 (zae a5) b1.1, a5 + (1 : Int), b1.2), _, rfl, by kernel_rfl, ⟨(Hp.front (Hp.front b3 1 _ rfl) 1 _ rfl).kp, a3⟩, zag _⟩
 refine adh (adf (adu (adm (ql ?_))));obtain rfl := oi a3;exact ⟨(a4, a8), _, rfl, by kernel_rfl, (Hp.front (Hp.front a9 1 _ rfl) 1 _ rfl).kp, rfl⟩
 rintro a7 c8 G ⟨b4, rfl⟩
 refine sr (wp 1 (abj (v := (str a7.1)) (w' := c8) rfl rfl (aku a7.1 a1 a0.length cap2 5 (Rd.bytes (Rd.ofbytes (b4.rdbrow 1 rfl))) (b4.browlen 1 rfl) underlying23 underlying9 underlying5 krf) (wp 1 (nq (ct ?_)))));obtain rfl := oi hr;refine akx (str a7.1) rfl krf ?_;exact ⟨(by first | rfl | (simp; done) | (simp; omega) | exact aae (by rw [zab]; omega)), b4.kp⟩
theorem ahl {fu : Nat} {a6 : Str} {w : World} {r : (Str × UInt8)} (hr : ado fu a6 = some r) (hG : Gl w) : CR prog 15 [(str a6)] w fun v w' => v = (Value.tuple #[(str r.1), (bt r.2)]) ∧ Hp w [] [] w' := by
 have hH := Hp.refl w;refine enter (k := 42) func15 rfl rfl nbe ?_;unfold ado at hr;refine sr (wp 2 (nq (cs (bi hr fun b7 a3 hr => aks hH [0, 2, 3, 16] [(16, (Vb b7))] ?_ ?_))));refine cr (wp 1 (bi a3 fun e4 b8 a3 => wc ent38 hH (K_L_lexis_Token b8 (hG.hp0 hH)) fun e5 b0 => wp 1 (wb a3 (fun b9 a3 => ?_) (fun b9 a3 => ?_))));refine wp 4 (wl (ql ?_));obtain rfl := oi a3;exact je b0.kp
 refine wp 4 (wl (ql ?_));obtain rfl := oi a3;exact je b0.kp
 intro e6 G a5;refine cb hr (fun c0 hr => ?_) (fun c0 hr => ?_);refine sr (wp 2 (nq (ct (st ?_))));obtain rfl := oi hr;exact rv a5.kp
 refine ck (qn (bi hr fun c1 a1 hr => cut1 a5 c1 [0, 2, 3] (fun c2 => []) ?_ ?_));refine sr (wp 3 (nq (cd a1 (fun c3 a1 => ?_) (fun c3 a1 => ?_))));refine sr (wp 1 (gi a1 fun c4 a1 => adb a6 .i64 (0 : Int) underlying9 krf krf c4 (bi a1 fun e7 c5 a1 => wc ent40 a5 (ahg c5 (hG.hp0 a5)) fun e8 b1 => bi a1 fun e9 c6 a1 => wc ent39 b1 (K_L_header_longName c6 (hG.hp0 b1)) fun f0 b2 => wp 1 ?_)));refine nq (sr (wp 2 (nq (cn a1 (fun c7 a1 => ?_) (fun c7 a1 => ?_)))));refine sr (wp 3 (nq (ct (acs ?_))));obtain rfl := oi a1;obtain rfl := oi hr;exact rv b2.kp
 refine ck (ql ?_);obtain rfl := oi a1;exact je1 rfl b2.kp
 refine ck (ql ?_);obtain rfl := oi a1;exact je1 rfl a5.kp
 rintro c2 f1 G b3 rfl
 refine sr (wp 1 (bi hr fun c8 c9 hr => wc ent41 b3 (adp c9 (hG.hp0 b3)) fun f2 a8 => wp 1 (nq (bi hr fun d0 d1 hr => cut1 a8 d0 [0, 2, 3] (fun d2 => []) ?_ ?_))));refine sr (w_rdN (some ⟨0, 0, none⟩) (zao eS aeu) [(str ([67, 97, 108, 108, 45, 73, 68] : Str)), (str ([67, 83, 101, 113] : Str)), (str ([77, 73, 77, 69, 45, 86, 101, 114, 115, 105, 111, 110] : Str)), (str ([77, 105, 110, 45, 83, 69] : Str)), (str ([82, 65, 99, 107] : Str)), (str ([82, 83, 101, 113] : Str)), (str ([87, 87, 87, 45, 65, 117, 116, 104, 101, 110, 116, 105, 99, 97, 116, 101] : Str))] 0 7 (hG.specials.rd.hp a8) rfl rfl (by decide) krf krf krf (wp 1 (nq (ce (lpS (fun b4 a2 => abz fu c8 b4 a2) (0 : Int) a8 d1 [0, 2, 3, 5, 30, 29] (fun a2 => [(30, (Vi .i64 a2))]) (fun _ => rfl) ?_)))));rintro b4 a2 f3 G a9 a0
 rw [L_header_Canon_lp0_s, ahr] at a0;refine sr (wp 1 (nq (cs (cd a0 (fun d3 a0 => ?_) (fun d3 a0 => ?_)))));refine ck (qn (cs (ce (sr (gi a0 fun d4 a0 => w_ixA eS aeu 7 .i64 a2 [(str ([67, 97, 108, 108, 45, 73, 68] : Str)), (str ([67, 83, 101, 113] : Str)), (str ([77, 73, 77, 69, 45, 86, 101, 114, 115, 105, 111, 110] : Str)), (str ([77, 105, 110, 45, 83, 69] : Str)), (str ([82, 65, 99, 107] : Str)), (str ([82, 83, 101, 113] : Str)), (str ([87, 87, 87, 45, 65, 117, 116, 104, 101, 110, 116, 105, 99, 97, 116, 101] : Str))] (str (el aeu a2)) rfl underlying66 rfl krf krf krf krf krf d4 (wp 1 (wl ?_)))))));refine qn (sr (wp 1 (bi a0 fun f4 d5 a0 => wc ent41 a9 (adp d5 (hG.hp0 a9)) fun f5 b5 => wp 2 (nq (cd a0 (fun d6 a0 => ?_) (fun d6 a0 => ?_))))));refine sr (wp 3 (nq (ct (bt_ (st (acs (bt_ ?_)))))));refine acs ?_;obtain rfl := oi a0;obtain rfl := oi hr;exact rv b5.kp
 exact ck (bn (qn (cr (gi a0 fun d7 a0 => aao a2 (1 : Int) krf krf d7 (wp 1 (wl (ql (le' (a2 + (1 : Int)) b5.kp a0))))))))
 refine adh (adf (adu (adm (ql ?_))));obtain rfl := oi a0;exact je1 rfl a9.kp
 rintro d2 f6 G d8 rfl
 refine sr (acd d8 [(Vb false)] 4 (fun b => (Vp (some ⟨b, 0, none⟩))) rfl rfl krf fun a4 f7 d9 => w_st1 d9 0 a4 0 [(Vb false)] 4 (Vb true) [blk a4 [(Vb true)] 4] rfl (zap (zag _) nbe) krf krf rfl krf rfl fun f8 a7 => nq (sr (wp 2 (bi hr fun e0 e1 hr => ?_))));refine abl 41 #[] [(str a6), (Value.func (.func 42) #[] #[(Vp (some ⟨a4, 0, none⟩))])] _ ent41 krf krf (ahv a4 e1 (hG.hp0 a7) (a7.hand (L1 := [blk a4 [(Vb true)] 4]) (L2 := [])) (a7.highs hG (fun _ h => absurd h (by simp)) 1 rfl)) ?_;rintro _ e2 ⟨rfl, b6⟩
 have e3 : Hp w [] [blk a4 [(Vb e0.2)] 4] e2 := Hp.callK (L1 := [blk a4 [(Vb true)] 4]) (L2 := []) a7 b6; clear b6;refine wp 2 (nq (ct ?_));obtain rfl := oi hr;exact rv e3.kp
theorem ahd {fu : Nat} {a0 : Str} {w : World} {r : (UInt8 × Str)} (hr : acv fu a0 = some r) (hG : Gl w) : CR prog 23 [(str a0)] w fun v w' => ∃ (b0 : Nat), ∃ (b1 : Nat), v = (Value.func (.func 52) #[] #[(Vp (some ⟨b0, 0, none⟩)), (Vp (some ⟨b1, 0, none⟩))]) ∧ Hp w [] [blk b0 [(bt r.1)] 32, blk b1 [(str r.2)] 9] w' := by
 have hH := Hp.refl w;refine enter (k := 11) func23 rfl rfl nbe ?_;unfold acv at hr;refine sr (wp 1 (nq (sr (wp 1 (bi hr fun y1 a1 hr => wc ent15 hH (ahl a1 (hG.hp0 hH)) fun w3 a2 => ?_)))));refine wp 3 (acd a2 [(str ([] : Str))] 9 (fun b => (Vp (some ⟨b, 0, none⟩))) rfl rfl krf fun b6 w7 a3 => acd a3 [(bt (0 : UInt8))] 32 (fun b => (Vp (some ⟨b, 0, none⟩))) rfl rfl krf fun b9 a7 a4 => w_st1 a4 1 b6 0 [(str ([] : Str))] 9 (str y1.1) [blk b9 [(bt (0 : UInt8))] 32, blk b6 [(str y1.1)] 9] rfl (zap (zag _) nbe) krf krf rfl krf rfl fun a8 a5 => w_st1 a5 0 b9 0 [(bt (0 : UInt8))] 32 (bt y1.2) [blk b9 [(bt y1.2)] 32, blk b6 [(str y1.1)] 9] rfl (zap (zag _) nbe) krf krf rfl krf rfl fun a9 a6 => nq (sr (wp 2 ?_)));refine nq (ct ?_);obtain rfl := oi hr;refine akx (Value.func (.func 52) #[] #[(Vp (some ⟨b9, 0, none⟩)), (Vp (some ⟨b6, 0, none⟩))]) rfl krf ?_;exact ⟨b9, b6, (by first | rfl | (simp; done) | (simp; omega) | exact aae (by rw [zab]; omega)), (Hp.front (Hp.front a6 1 _ rfl) 1 _ rfl).kp⟩
theorem akh {fu : Nat} {a5 : (Str × Str)} {a0 : UInt8} {a1 : Str} (a2 : Nat) (a3 : Nat) {w : World} {r : Bool} (hr : adr fu a5 a0 a1 = some r) (hG : Gl w) (hM : Hp w (aix [blk a2 [(bt a0)] 32, blk a3 [(str a1)] 9]) [blk a2 [(bt a0)] 32, blk a3 [(str a1)] 9] w) (hS : ∀ b ∈ aix [blk a2 [(bt a0)] 32, blk a3 [(str a1)] 9], 12 ≤ b) : CR prog 52 [(zah #[(str a5.1), (str a5.2)]), (Vp (some ⟨a2, 0, none⟩)), (Vp (some ⟨a3, 0, none⟩))] w fun v w' => v = (Vb r) ∧ Hp w (aix [blk a2 [(bt a0)] 32, blk a3 [(str a1)] 9]) [blk a2 [(bt a0)] 32, blk a3 [(str a1)] 9] w' := by
 have hH : Hp w (aix [blk a2 [(bt a0)] 32, blk a3 [(str a1)] 9]) [blk a2 [(bt a0)] 32, blk a3 [(str a1)] 9] w := hM;refine enter (k := 24) func52 rfl rfl nbe ?_;unfold adr at hr;refine sr (acd hH [(str a5.1), (str a5.2)] 44 (fun b => (Vp (some ⟨b, 0, none⟩))) rfl rfl krf fun b1 w2 a8 => wp 1 (nq (sr (wp 1 (aeg a8 0 b1 0 [(str a5.1), (str a5.2)] 44 (str a5.1) rfl rfl krf krf ?_)))));refine bi hr fun y4 a9 hr => wc ent15 a8 (ahl a9 (hG.hp a8 hS)) fun w6 a6 => wp 5 (nq (bi hr fun b0 a4 hr => cut (σ := Bool) [4] (fun a7 => [(4, (Vb a7))]) (fun a7 w' => Hp w (aix [blk a2 [(bt a0)] 32, blk a3 [(str a1)] 9]) [blk a2 [(bt a0)] 32, blk a3 [(str a1)] 9] w' ∧ a7 = b0) ?_ ?_))
 refine cr (aeg a6 1 a2 0 [(bt a0)] 32 (bt a0) rfl rfl krf krf (aay a0 (0 : UInt8) krf krf (wd a4 (fun b2 a4 => ?_) (fun b2 a4 => ?_))));refine wp 1 (gy 15 (aay y4.2 (0 : UInt8) krf krf (wp 1 (wd a4 (fun b3 a4 => ?_) (fun b3 a4 => ?_)))));refine wp 1 (gy 19 (aeg a6 2 a3 0 [(str a1)] 9 (str a1) rfl rfl krf krf (wp 3 (wl (ql ?_)))));obtain rfl := oi a4;exact ⟨(decide (y4.1 = a1)), _, rfl, by kernel_rfl, (Hp.front (Hp.front a6 2 _ rfl) 2 _ rfl).kp, rfl⟩
 refine wp 5 (wl (ql ?_));obtain rfl := oi a4;exact ⟨false, _, rfl, by kernel_rfl, (Hp.front (Hp.front a6 2 _ rfl) 2 _ rfl).kp, rfl⟩
 refine wp 9 (wl (ql ?_));obtain rfl := oi a4;exact ⟨false, _, rfl, by kernel_rfl, (Hp.front (Hp.front a6 2 _ rfl) 2 _ rfl).kp, rfl⟩
 rintro a7 b5 G ⟨b4, rfl⟩
 refine ct ?_;obtain rfl := oi hr;refine akx (Vb a7) rfl krf ?_;exact ⟨(by first | rfl | (simp; done) | (simp; omega) | exact aae (by rw [zab]; omega)), (Hp.front (Hp.front b4 1 _ rfl) 1 _ rfl).kp⟩
theorem aax {fu : Nat} {a6 : List (Str × Str)} {a2 : UInt8} {a3 : Str} (a7 : Option Addr) (b0 : Nat) (b1 : Nat) (a0 : Nat) (a1 : Nat) {w : World} {r : Int} (hr : aah fu a6 a2 a3 = some r) (hG : Gl w) (b8 : b0 = a6.length) (b2 : Rd w a7 (zao aaa a6)) (d1 : b0 ≤ b1) (hM : Hp w (aix [blk a0 [(bt a2)] 32, blk a1 [(str a3)] 9]) [blk a0 [(bt a2)] 32, blk a1 [(str a3)] 9] w) (hS : ∀ b ∈ aix [blk a0 [(bt a2)] 32, blk a1 [(str a3)] 9], 12 ≤ b) (b3 : zao aaa a6 ≠ [] → ∀ p, a7 = some p → p.block ∉ aix [blk a0 [(bt a2)] 32, blk a1 [(str a3)] 9]) : CR prog 22 [(Vs a7 b0 b1), (Value.func (.func 52) #[] #[(Vp (some ⟨a0, 0, none⟩)), (Vp (some ⟨a1, 0, none⟩))])] w fun v w' => v = (Vi .i64 r) ∧ Hp w (aix [blk a0 [(bt a2)] 32, blk a1 [(str a3)] 9]) [blk a0 [(bt a2)] 32, blk a1 [(str a3)] 9] w' := by
 subst b8;have hH : Hp w (aix [blk a0 [(bt a2)] 32, blk a1 [(str a3)] 9]) [blk a0 [(bt a2)] 32, blk a1 [(str a3)] 9] w := hM;refine enter (k := 19) func22 rfl rfl nbe ?_;unfold aah at hr;refine sr (wp 1 (nq (bi hr fun b9 c0 hr => cut1 hH b9 [4] (fun c1 => []) ?_ ?_)));refine sr (wp 3 (nq (ce (lpS (fun b4 a5 => aak fu a6 a2 a3 b4 a5) (0 : Int) hH c0 [0, 1, 4, 7, 8] (fun a5 => [(8, (Vi .i64 a5))]) (fun _ => rfl) ?_))));rintro b4 a5 b5 G a8 a4
 rw [abg, aan] at a4;refine sr (wp 1 (nq (cs (cd a4 (fun c2 a4 => ?_) (fun c2 a4 => ?_)))));refine ck (qn (cs (ce (sr (wp 2 (nq (cs ?_)))))));refine cr (wp 3 (gi a4 fun c3 a4 => ago a7 a6.length b1 44 2 .i64 a5 underlying22 krf krf krf a6 rfl c3 (b2.hpN a8 b3) aac (by decide) (gi a4 fun c4 a4 => w_ldE a7 aaa a6 2 a5 aac (b2.hpN a8 b3) [(str ((el a6 a5).1)), (str ((el a6 a5).2))] c4 krf krf krf krf (by decide) (bi a4 fun d2 c5 a4 => ?_))));have c6 : Hp w (aix [blk a0 [(bt a2)] 32, blk a1 [(str a3)] 9]) [blk a1 [(str a3)] 9, blk a0 [(bt a2)] 32] b5 := a8.front 1 _ rfl;have a9 : Hp w (aix [blk a0 [(bt a2)] 32, blk a1 [(str a3)] 9]) [blk a0 [(bt a2)] 32, blk a1 [(str a3)] 9] b5 := c6.front 1 _ rfl;refine abl 52 #[(Vp (some ⟨a0, 0, none⟩)), (Vp (some ⟨a1, 0, none⟩))] [(zah #[(str ((el a6 a5).1)), (str ((el a6 a5).2))]), (Vp (some ⟨a0, 0, none⟩)), (Vp (some ⟨a1, 0, none⟩))] _ ent52 krf krf (akh a0 a1 c5 (hG.hp a9 hS) (a9.hand (L1 := [blk a0 [(bt a2)] 32, blk a1 [(str a3)] 9]) (L2 := [])) (a9.highs hG hS 2 rfl)) ?_;rintro _ c7 ⟨rfl, b6⟩
 have b7 : Hp w (aix [blk a0 [(bt a2)] 32, blk a1 [(str a3)] 9]) [blk a0 [(bt a2)] 32, blk a1 [(str a3)] 9] c7 := Hp.callK (L1 := [blk a0 [(bt a2)] 32, blk a1 [(str a3)] 9]) (L2 := []) a9 b6; clear b6;refine nq (cb a4 (fun c8 a4 => ?_) (fun c8 a4 => ?_));refine sr (wp 2 (nq (ct (bt_ (st (acs (bt_ ?_)))))));refine acs ?_;obtain rfl := oi a4;obtain rfl := oi hr;refine akx (Vi .i64 a5) rfl krf ?_;exact ⟨(by first | rfl | (simp; done) | (simp; omega) | exact aae (by rw [zab]; omega)), (Hp.front (Hp.front b7 1 _ rfl) 1 _ rfl).kp⟩
 exact ck (bn (qn (cr (gi a4 fun c9 a4 => aao a5 (1 : Int) krf krf c9 (wp 1 (wl (ql (le' (a5 + (1 : Int)) (Hp.front (Hp.front b7 1 _ rfl) 1 _ rfl).kp a4))))))))
 refine adh (adf (adu (adm (ql ?_))));obtain rfl := oi a4;exact je1 rfl (Hp.front (Hp.front a8 1 _ rfl) 1 _ rfl).kp
 rintro c1 d3 G d0 rfl
 refine sr (wp 1 (nq (ct ?_)));obtain rfl := oi hr;refine akx (Vi .i64 (-1 : Int)) rfl krf ?_;exact ⟨(by first | rfl | (simp; done) | (simp; omega) | exact aae (by rw [zab]; omega)), (Hp.front (Hp.front d0 1 _ rfl) 1 _ rfl).kp⟩
theorem aiv {fu : Nat} {a2 : (Str × Str × Int × Str × (List (Str × Str)) × (List UInt8))} (a8 : Option Addr) (b3 : Nat) (b0 : Nat) (a4 : Option Addr) (b5 : Nat) (a5 : Nat) {w : World} {r : (Str × Str × Int × Str × (List (Str × Str)) × (List UInt8))} (hr : adc fu a2 = some r) (hG : Gl w) (c3 : b3 = a2.2.2.2.2.1.length) (c4 : Rd w a8 (zao aaa a2.2.2.2.2.1)) (d3 : b3 ≤ b0) (c5 : b5 = a2.2.2.2.2.2.length) (c6 : Rd w a4 (zao eB a2.2.2.2.2.2)) (d4 : b5 ≤ a5) : CR prog 29 [(zah #[(str a2.1), (str a2.2.1), (Vi .i64 a2.2.2.1), (str a2.2.2.2.1), (Vs a8 b3 b0), (Vs a4 b5 a5)])] w fun v w' => ∃ (o0 : Option Nat), ∃ (a0 : Option Addr), ∃ (cap0 : Nat), ∃ (o1 : Option Nat), ∃ (a1 : Option Addr), ∃ (cap1 : Nat), v = (zah #[(str r.1), (str r.2.1), (Vi .i64 r.2.2.1), (str r.2.2.2.1), (Vs a0 r.2.2.2.2.1.length cap0), (Vs a1 r.2.2.2.2.2.length cap1)]) ∧ Hp w [] [rwt aaa 44 2 o0 a0 cap0 r.2.2.2.2.1, rwt eB 5 1 o1 a1 cap1 r.2.2.2.2.2] w' := by
 subst c3;subst c5;have hH := Hp.refl w;refine enter (k := 19) func29 rfl rfl nbe ?_;unfold adc at hr;refine sr (acd hH [(str a2.1), (str a2.2.1), (Vi .i64 a2.2.2.1), (str a2.2.2.2.1), (Vs a8 a2.2.2.2.2.1.length b0), (Vs a4 a2.2.2.2.2.2.length a5)] 25 (fun b => (Vp (some ⟨b, 0, none⟩))) rfl rfl krf fun b1 w2 c7 => acd c7 [(str ([] : Str)), (str ([] : Str)), (Vi .i64 (0 : Int)), (str ([] : Str)), (Vs none 0 0), (Vs none 0 0)] 25 (fun b => (Vp (some ⟨b, 0, none⟩))) rfl rfl krf fun b4 w5 b9 => nq (sr (wp 1 (aeg b9 1 b1 4 [(str a2.1), (str a2.2.1), (Vi .i64 a2.2.2.1), (str a2.2.2.2.1), (Vs a8 a2.2.2.2.2.1.length b0), (Vs a4 a2.2.2.2.2.2.length a5)] 25 (Vs a8 a2.2.2.2.2.1.length b0) rfl rfl krf krf ?_))));refine wp 1 (gi hr fun g7 hr => w_makeN (f := aaa) b9 44 2 32 .i64 .i64 (a2.2.2.2.2.1.length : Int) (([] : Str), ([] : Str)) underlying22 (by unfold TI; kernel_rfl) (by decide) (by decide) krf krf krf g7 fun o8 a9 a3 d5 b6 => wp 1 (nq (sr (wp 2 (aeg b6 2 b1 4 [(str a2.1), (str a2.2.1), (Vi .i64 a2.2.2.1), (str a2.2.2.2.1), (Vs a8 a2.2.2.2.2.1.length b0), (Vs a4 a2.2.2.2.2.2.length a5)] 25 (Vs a8 a2.2.2.2.2.1.length b0) rfl rfl krf krf ?_)))));refine w_copyT b6 0 o8 a9 a8 a3 b0 44 2 (zaj (zae (a2.2.2.2.2.1.length : Int)) (([] : Str), ([] : Str))) a2.2.2.2.2.1 aac rfl underlying22 krf krf krf (c4.hp b6) fun c8 b7 => ?_
 replace b7 : Hp w [] [rwt aaa 44 2 o8 a9 a3 (cpy (zaj (zae (a2.2.2.2.2.1.length : Int)) (([] : Str), ([] : Str))) a2.2.2.2.2.1), blk b4 [(str ([] : Str)), (str ([] : Str)), (Vi .i64 (0 : Int)), (str ([] : Str)), (Vs none 0 0), (Vs none 0 0)] 25, blk b1 [(str a2.1), (str a2.2.1), (Vi .i64 a2.2.2.1), (str a2.2.2.2.1), (Vs a8 a2.2.2.2.2.1.length b0), (Vs a4 a2.2.2.2.2.2.length a5)] 25] c8 := b7;refine nq (sr (wp 2 (w_st1 b7 2 b1 4 [(str a2.1), (str a2.2.1), (Vi .i64 a2.2.2.1), (str a2.2.2.2.1), (Vs a8 a2.2.2.2.2.1.length b0), (Vs a4 a2.2.2.2.2.2.length a5)] 25 (Vs a9 ((zaj (zae (a2.2.2.2.2.1.length : Int)) (([] : Str), ([] : Str))).length) a3) [rwt aaa 44 2 o8 a9 a3 (cpy (zaj (zae (a2.2.2.2.2.1.length : Int)) (([] : Str), ([] : Str))) a2.2.2.2.2.1), blk b4 [(str ([] : Str)), (str ([] : Str)), (Vi .i64 (0 : Int)), (str ([] : Str)), (Vs none 0 0), (Vs none 0 0)] 25, blk b1 [(str a2.1), (str a2.2.1), (Vi .i64 a2.2.2.1), (str a2.2.2.2.1), (Vs a9 ((zaj (zae (a2.2.2.2.2.1.length : Int)) (([] : Str), ([] : Str))).length) a3), (Vs a4 a2.2.2.2.2.2.length a5)] 25] rfl (zap (zag _) nbe) krf krf rfl krf rfl fun c9 b8 => nq (sr ?_))));refine wp 1 (aeg b8 2 b1 5 [(str a2.1), (str a2.2.1), (Vi .i64 a2.2.2.1), (str a2.2.2.2.1), (Vs a9 ((zaj (zae (a2.2.2.2.2.1.length : Int)) (([] : Str), ([] : Str))).length) a3), (Vs a4 a2.2.2.2.2.2.length a5)] 25 (Vs a4 a2.2.2.2.2.2.length a5) rfl rfl krf krf (gi hr fun d0 hr => abl 47 #[] [(Vs a4 a2.2.2.2.2.2.length a5)] _ ent47 krf krf (sh_Clone47 a2.2.2.2.2.2 c9 a4 a2.2.2.2.2.2.length a5 rfl (c6.hp b8) d0) ?_));rintro _ d1 ⟨b2, a6, a7, rfl, c0⟩
 have d2 : Hp w [] [rwt eB 5 1 b2 a6 a7 a2.2.2.2.2.2, rwt aaa 44 2 o8 a9 a3 (cpy (zaj (zae (a2.2.2.2.2.1.length : Int)) (([] : Str), ([] : Str))) a2.2.2.2.2.1), blk b4 [(str ([] : Str)), (str ([] : Str)), (Vi .i64 (0 : Int)), (str ([] : Str)), (Vs none 0 0), (Vs none 0 0)] 25, blk b1 [(str a2.1), (str a2.2.1), (Vi .i64 a2.2.2.1), (str a2.2.2.2.1), (Vs a9 ((zaj (zae (a2.2.2.2.2.1.length : Int)) (([] : Str), ([] : Str))).length) a3), (Vs a4 a2.2.2.2.2.2.length a5)] 25] d1 := Hp.callK (L1 := []) (L2 := [rwt aaa 44 2 o8 a9 a3 (cpy (zaj (zae (a2.2.2.2.2.1.length : Int)) (([] : Str), ([] : Str))) a2.2.2.2.2.1), blk b4 [(str ([] : Str)), (str ([] : Str)), (Vi .i64 (0 : Int)), (str ([] : Str)), (Vs none 0 0), (Vs none 0 0)] 25, blk b1 [(str a2.1), (str a2.2.1), (Vi .i64 a2.2.2.1), (str a2.2.2.2.1), (Vs a9 ((zaj (zae (a2.2.2.2.2.1.length : Int)) (([] : Str), ([] : Str))).length) a3), (Vs a4 a2.2.2.2.2.2.length a5)] 25]) b8 c0; clear c0;refine wp 1 (w_st1 d2 3 b1 5 [(str a2.1), (str a2.2.1), (Vi .i64 a2.2.2.1), (str a2.2.2.2.1), (Vs a9 ((zaj (zae (a2.2.2.2.2.1.length : Int)) (([] : Str), ([] : Str))).length) a3), (Vs a4 a2.2.2.2.2.2.length a5)] 25 (Vs a6 a2.2.2.2.2.2.length a7) [rwt eB 5 1 b2 a6 a7 a2.2.2.2.2.2, rwt aaa 44 2 o8 a9 a3 (cpy (zaj (zae (a2.2.2.2.2.1.length : Int)) (([] : Str), ([] : Str))) a2.2.2.2.2.1), blk b4 [(str ([] : Str)), (str ([] : Str)), (Vi .i64 (0 : Int)), (str ([] : Str)), (Vs none 0 0), (Vs none 0 0)] 25, blk b1 [(str a2.1), (str a2.2.1), (Vi .i64 a2.2.2.1), (str a2.2.2.2.1), (Vs a9 ((zaj (zae (a2.2.2.2.2.1.length : Int)) (([] : Str), ([] : Str))).length) a3), (Vs a6 a2.2.2.2.2.2.length a7)] 25] rfl (zap (zag _) nbe) krf krf rfl krf rfl fun d6 c1 => nq (sr (akj c1 3 b1 0 6 [(str a2.1), (str a2.2.1), (Vi .i64 a2.2.2.1), (str a2.2.2.2.1), (Vs a9 ((zaj (zae (a2.2.2.2.2.1.length : Int)) (([] : Str), ([] : Str))).length) a3), (Vs a6 a2.2.2.2.2.2.length a7)] [(str a2.1), (str a2.2.1), (Vi .i64 a2.2.2.1), (str a2.2.2.2.1), (Vs a9 ((zaj (zae (a2.2.2.2.2.1.length : Int)) (([] : Str), ([] : Str))).length) a3), (Vs a6 a2.2.2.2.2.2.length a7)] 25 rfl rfl rfl krf krf krf (aki c1 2 b4 0 [(str ([] : Str)), (str ([] : Str)), (Vi .i64 (0 : Int)), (str ([] : Str)), (Vs none 0 0), (Vs none 0 0)] [(str a2.1), (str a2.2.1), (Vi .i64 a2.2.2.1), (str a2.2.2.2.1), (Vs a9 ((zaj (zae (a2.2.2.2.2.1.length : Int)) (([] : Str), ([] : Str))).length) a3), (Vs a6 a2.2.2.2.2.2.length a7)] 25 [rwt eB 5 1 b2 a6 a7 a2.2.2.2.2.2, rwt aaa 44 2 o8 a9 a3 (cpy (zaj (zae (a2.2.2.2.2.1.length : Int)) (([] : Str), ([] : Str))) a2.2.2.2.2.1), blk b4 [(str a2.1), (str a2.2.1), (Vi .i64 a2.2.2.1), (str a2.2.2.2.1), (Vs a9 ((zaj (zae (a2.2.2.2.2.1.length : Int)) (([] : Str), ([] : Str))).length) a3), (Vs a6 a2.2.2.2.2.2.length a7)] 25, blk b1 [(str a2.1), (str a2.2.1), (Vi .i64 a2.2.2.1), (str a2.2.2.2.1), (Vs a9 ((zaj (zae (a2.2.2.2.2.1.length : Int)) (([] : Str), ([] : Str))).length) a3), (Vs a6 a2.2.2.2.2.2.length a7)] 25] rfl nbe krf krf rfl krf rfl fun d7 c2 => nq ?_))));refine ct ?_;obtain rfl := oi hr;refine r_res _ [(zah #[(str a2.1), (str a2.2.1), (Vi .i64 a2.2.2.1), (str a2.2.2.2.1), (Vs a9 ((zaj (zae (a2.2.2.2.2.1.length : Int)) (([] : Str), ([] : Str))).length) a3), (Vs a6 a2.2.2.2.2.2.length a7)])] (zah #[(str a2.1), (str a2.2.1), (Vi .i64 a2.2.2.1), (str a2.2.2.2.1), (Vs a9 ((zaj (zae (a2.2.2.2.2.1.length : Int)) (([] : Str), ([] : Str))).length) a3), (Vs a6 a2.2.2.2.2.2.length a7)]) rfl rfl (agn (ahy c2 2 b4 25 [(str a2.1), (str a2.2.1), (Vi .i64 a2.2.2.1), (str a2.2.2.2.1), (Vs a9 ((zaj (zae (a2.2.2.2.2.1.length : Int)) (([] : Str), ([] : Str))).length) a3), (Vs a6 a2.2.2.2.2.2.length a7)] rfl krf krf krf) ahx) rfl ?_;exact ⟨o8, a9, a3, b2, a6, a7, (by first | rfl | (simp; done) | (simp; omega) | exact aae (by rw [zab]; omega)), (Hp.front c2 1 _ rfl).kp⟩
theorem afo {fu : Nat} {b0 : List (Str × Str)} {a8 : UInt8} {a9 : Str} (a7 : Option Nat) (a2 : Option Addr) (a3 : Nat) (a5 : Nat) (a6 : Nat) {w : World} {r : List (Str × Str)} (hr : aap fu b0 a8 a9 = some r) (hG : Gl w) (hM : Hp w (aix [blk a5 [(bt a8)] 32, blk a6 [(str a9)] 9, rwt aaa 44 2 a7 a2 a3 b0]) [blk a5 [(bt a8)] 32, blk a6 [(str a9)] 9, rwt aaa 44 2 a7 a2 a3 b0] w) (hS : ∀ b ∈ aix [blk a5 [(bt a8)] 32, blk a6 [(str a9)] 9, rwt aaa 44 2 a7 a2 a3 b0], 12 ≤ b) : CR prog 31 [(Vs a2 b0.length a3), (Value.func (.func 52) #[] #[(Vp (some ⟨a5, 0, none⟩)), (Vp (some ⟨a6, 0, none⟩))])] w fun v w' => ∃ (o0 : Option Nat), ∃ (a0 : Option Addr), ∃ (cap0 : Nat), v = (Vs a0 r.length cap0) ∧ Hp w (aix [blk a5 [(bt a8)] 32, blk a6 [(str a9)] 9, rwt aaa 44 2 a7 a2 a3 b0]) [blk a5 [(bt a8)] 32, blk a6 [(str a9)] 9, rwt aaa 44 2 o0 a0 cap0 r] w' := by
 have hH : Hp w (aix [blk a5 [(bt a8)] 32, blk a6 [(str a9)] 9, rwt aaa 44 2 a7 a2 a3 b0]) [blk a5 [(bt a8)] 32, blk a6 [(str a9)] 9, rwt aaa 44 2 a7 a2 a3 b0] w := hM;refine enter (k := 42) func31 rfl rfl nbe ?_;unfold aap at hr;refine sr (wp 1 (nq (sr (wp 2 (bi hr fun y1 c9 hr => ?_)))));have d0 : Hp w (aix [blk a5 [(bt a8)] 32, blk a6 [(str a9)] 9, rwt aaa 44 2 a7 a2 a3 b0]) [blk a6 [(str a9)] 9, blk a5 [(bt a8)] 32, rwt aaa 44 2 a7 a2 a3 b0] w := hH.front 1 _ rfl;have b5 : Hp w (aix [blk a5 [(bt a8)] 32, blk a6 [(str a9)] 9, rwt aaa 44 2 a7 a2 a3 b0]) [blk a5 [(bt a8)] 32, blk a6 [(str a9)] 9, rwt aaa 44 2 a7 a2 a3 b0] w := d0.front 1 _ rfl;refine abl 22 #[] [(Vs a2 b0.length a3), (Value.func (.func 52) #[] #[(Vp (some ⟨a5, 0, none⟩)), (Vp (some ⟨a6, 0, none⟩))])] _ ent22 krf krf (aax a2 b0.length a3 a5 a6 c9 (hG.hp b5 hS) rfl (b5.rdrw 2 rfl) (b5.rwcap 2 rfl) (b5.hand (L1 := [blk a5 [(bt a8)] 32, blk a6 [(str a9)] 9]) (L2 := [rwt aaa 44 2 a7 a2 a3 b0])) (b5.highs hG hS 2 rfl) (b5.apartRw 2 2 rfl rfl rfl)) ?_;rintro _ w3 ⟨rfl, c3⟩
 have c4 : Hp w (aix [blk a5 [(bt a8)] 32, blk a6 [(str a9)] 9, rwt aaa 44 2 a7 a2 a3 b0]) [blk a5 [(bt a8)] 32, blk a6 [(str a9)] 9, rwt aaa 44 2 a7 a2 a3 b0] w3 := Hp.callK (L1 := [blk a5 [(bt a8)] 32, blk a6 [(str a9)] 9]) (L2 := [rwt aaa 44 2 a7 a2 a3 b0]) b5 c3; clear c3;refine wp 1 (nq (cs (sr (wp 2 (nq (cd hr (fun h8 hr => ?_) (fun h8 hr => ?_)))))));refine sr (wp 2 (nq (ct (st ?_))));obtain rfl := oi hr;refine akx (Vs a2 b0.length a3) rfl krf ?_;exact ⟨a7, a2, a3, (by first | rfl | (simp; done) | (simp; omega) | exact aae (by rw [zab]; omega)), (Hp.front (Hp.front (Hp.front c4 2 _ rfl) 2 _ rfl) 2 _ rfl).kp⟩
 refine ck (qn (bi hr fun c5 c1 hr => cut (σ := ((List (Str × Str)) × Int)) [0, 4, 5] (fun b2 => [(0, (Vs a2 b2.1.length a3)), (5, (Vi .i64 b2.2))]) (fun b2 w' => Hp w (aix [blk a5 [(bt a8)] 32, blk a6 [(str a9)] 9, rwt aaa 44 2 a7 a2 a3 b0]) [blk a5 [(bt a8)] 32, blk a6 [(str a9)] 9, rwt aaa 44 2 a7 a2 a3 b2.1] w' ∧ b2.1.length = b0.length ∧ b2 = c5) ?_ ?_));refine sr (wp 1 (gi c1 fun d1 c1 => aao y1 (1 : Int) krf krf d1 (wp 1 (nq (ce (lpG (σ := Nat × (List (Str × Str)) × Int × Int) [0, 1, 4, 5, 6] (fun ⟨b6, a1, b3, a4⟩ => [(0, (Vs a2 a1.length a3)), (5, (Vi .i64 b3)), (6, (Vi .i64 a4))]) (fun ⟨b6, a1, b3, a4⟩ w' => Hp w (aix [blk a5 [(bt a8)] 32, blk a6 [(str a9)] 9, rwt aaa 44 2 a7 a2 a3 b0]) [blk a5 [(bt a8)] 32, blk a6 [(str a9)] 9, rwt aaa 44 2 a7 a2 a3 a1] w' ∧ a1.length = b0.length ∧ aai fu a8 a9 b6 a1 b3 a4 = some c5) (fun ⟨b6, a1, b3, a4⟩ => b6) (fu, b0, y1, y1 + (1 : Int)) (by exact ⟨(Hp.front (Hp.front (Hp.front c4 2 _ rfl) 2 _ rfl) 2 _ rfl).kp, lsz, c1⟩) ?_))))));rintro ⟨_ | b6, a1, b3, a4⟩ f0 G ⟨b7, f1, b1⟩
 · exact nzz b1
 rw [abc, aam] at b1;refine cs (sr (wp 4 (nq (cd b1 (fun d2 b1 => ?_) (fun d2 b1 => ?_)))));refine ck (qn (cs (ce (sr (wp 2 (gi b1 fun d3 b1 => ago a2 a1.length a3 44 2 .i64 a4 underlying22 krf krf krf a1 rfl d3 (b7.rdrw 2 rfl) aac (by decide) (gi b1 fun d4 b1 => ?_)))))));refine w_ldE a2 aaa a1 2 a4 aac (b7.rdrw 2 rfl) [(str ((el a1 a4).1)), (str ((el a1 a4).2))] d4 krf krf krf krf (by decide) (acd b7 [(str ([] : Str)), (str ([] : Str))] 44 (fun b => (Vp (some ⟨b, 0, none⟩))) rfl rfl krf fun b4 f2 d5 => aki d5 0 b4 0 [(str ([] : Str)), (str ([] : Str))] [(str ((el a1 a4).1)), (str ((el a1 a4).2))] 44 [blk b4 [(str ((el a1 a4).1)), (str ((el a1 a4).2))] 44, blk a5 [(bt a8)] 32, blk a6 [(str a9)] 9, rwt aaa 44 2 a7 a2 a3 a1] rfl nbe krf krf rfl krf rfl fun c6 c7 => nq (sr (wp 1 (akj c7 0 b4 0 2 [(str ((el a1 a4).1)), (str ((el a1 a4).2))] [(str ((el a1 a4).1)), (str ((el a1 a4).2))] 44 rfl rfl rfl krf krf krf (bi b1 fun f3 d6 b1 => ?_)))));have d7 : Hp w (aix [blk a5 [(bt a8)] 32, blk a6 [(str a9)] 9, rwt aaa 44 2 a7 a2 a3 b0]) [blk a6 [(str a9)] 9, blk b4 [(str ((el a1 a4).1)), (str ((el a1 a4).2))] 44, blk a5 [(bt a8)] 32, rwt aaa 44 2 a7 a2 a3 a1] c6 := c7.front 2 _ rfl;have b8 : Hp w (aix [blk a5 [(bt a8)] 32, blk a6 [(str a9)] 9, rwt aaa 44 2 a7 a2 a3 b0]) [blk a5 [(bt a8)] 32, blk a6 [(str a9)] 9, blk b4 [(str ((el a1 a4).1)), (str ((el a1 a4).2))] 44, rwt aaa 44 2 a7 a2 a3 a1] c6 := d7.front 2 _ rfl;refine abl 52 #[(Vp (some ⟨a5, 0, none⟩)), (Vp (some ⟨a6, 0, none⟩))] [(zah #[(str ((el a1 a4).1)), (str ((el a1 a4).2))]), (Vp (some ⟨a5, 0, none⟩)), (Vp (some ⟨a6, 0, none⟩))] _ ent52 krf krf (akh a5 a6 d6 (hG.hp b8 hS) (b8.hand (L1 := [blk a5 [(bt a8)] 32, blk a6 [(str a9)] 9]) (L2 := [blk b4 [(str ((el a1 a4).1)), (str ((el a1 a4).2))] 44, rwt aaa 44 2 a7 a2 a3 a1])) (b8.highs hG hS 2 rfl)) ?_;rintro _ d8 ⟨rfl, c8⟩
 have b9 : Hp w (aix [blk a5 [(bt a8)] 32, blk a6 [(str a9)] 9, rwt aaa 44 2 a7 a2 a3 b0]) [blk a5 [(bt a8)] 32, blk a6 [(str a9)] 9, blk b4 [(str ((el a1 a4).1)), (str ((el a1 a4).2))] 44, rwt aaa 44 2 a7 a2 a3 a1] d8 := Hp.callK (L1 := [blk a5 [(bt a8)] 32, blk a6 [(str a9)] 9]) (L2 := [blk b4 [(str ((el a1 a4).1)), (str ((el a1 a4).2))] 44, rwt aaa 44 2 a7 a2 a3 a1]) b8 c8; clear c8;refine wp 1 (nq (cb b1 (fun d9 b1 => ?_) (fun d9 b1 => ?_)));refine sr (wp 2 (akj b9 2 b4 0 2 [(str ((el a1 a4).1)), (str ((el a1 a4).2))] [(str ((el a1 a4).1)), (str ((el a1 a4).2))] 44 rfl rfl rfl krf krf krf (gi b1 fun e0 b1 => ago a2 a1.length a3 44 2 .i64 b3 underlying22 krf krf krf a1 rfl e0 (b9.rdrw 3 rfl) aac (by decide) (gi b1 fun e1 b1 => w_stE b9 3 a7 a2 a3 44 2 b3 a1 (el a1 a4) rfl aac [(str ((el a1 a4).1)), (str ((el a1 a4).2))] e1 krf krf krf (by decide) krf fun e2 c2 => ?_))));replace c2 : Hp w (aix [blk a5 [(bt a8)] 32, blk a6 [(str a9)] 9, rwt aaa 44 2 a7 a2 a3 b0]) [blk a5 [(bt a8)] 32, blk a6 [(str a9)] 9, blk b4 [(str ((el a1 a4).1)), (str ((el a1 a4).2))] 44, rwt aaa 44 2 a7 a2 a3 (List.set a1 (zae b3) (el a1 a4))] e2 := c2;refine nq (cr (wp 1 (gi b1 fun e3 b1 => aao b3 (1 : Int) krf krf e3 (wp 1 (wl (bn (qn ?_)))))));refine cr (wp 1 (gi b1 fun e4 b1 => aao a4 (1 : Int) krf krf e4 (wp 1 (wl (ql ?_)))));exact ⟨(b6, List.set a1 (zae b3) (el a1 a4), b3 + (1 : Int), a4 + (1 : Int)), _, rfl, (mc (Eq.trans (b := (Vs a2 a1.length a3)) krf (aae lsy)) (mc krf (mc krf (mc krf (mc krf rfl))))), ⟨(Hp.front (Hp.front (Hp.front c2 3 _ rfl) 2 _ rfl) 2 _ rfl).kp, lsz, b1⟩, zag _⟩
 refine ck (bn (qn (cr (wp 1 (gi b1 fun e5 b1 => aao a4 (1 : Int) krf krf e5 (wp 1 (wl (ql ?_))))))));exact ⟨(b6, a1, b3, a4 + (1 : Int)), _, rfl, by kernel_rfl, ⟨(Hp.front (Hp.front (Hp.front b9 3 _ rfl) 2 _ rfl) 2 _ rfl).kp, lsz, b1⟩, zag _⟩
 refine adh (adf (adu (adm (ql ?_))));obtain rfl := oi b1;exact ⟨(a1, b3), _, rfl, by kernel_rfl, (Hp.front (Hp.front (Hp.front b7 2 _ rfl) 2 _ rfl) 2 _ rfl).kp, lsz, rfl⟩
 rintro b2 f4 G ⟨e6, f5, rfl⟩
 refine sr (wp 2 (gi hr fun e7 hr => w_slFrom a2 b2.1.length a3 44 2 .i64 b2.2 underlying22 krf krf krf b2.1 rfl e7 (w_clearT0 e6 2 a7 a2 a3 44 2 b2.1 (zae b2.2) (([] : Str), ([] : Str)) aac rfl underlying22 trivial (by decide) krf krf (by first | omega | (simp; omega)) fun e8 c0 => ?_)));replace c0 : Hp w (aix [blk a5 [(bt a8)] 32, blk a6 [(str a9)] 9, rwt aaa 44 2 a7 a2 a3 b0]) [blk a5 [(bt a8)] 32, blk a6 [(str a9)] 9, rwt aaa 44 2 a7 a2 a3 (clr b2.1 (zae b2.2) (([] : Str), ([] : Str)))] e8 := c0;refine nq (sr (wp 2 (gi hr fun e9 hr => w_slTo a2 b2.1.length a3 44 2 .i64 b2.2 underlying22 krf krf krf (clr b2.1 (zae b2.2) (([] : Str), ([] : Str))) (by first | rfl | (simp; done) | omega | (simp; omega) | (rw [zab]; omega)) e9 (zas (Nat.le_of_eq (by first | rfl | (simp; done) | omega)) (c0.rwcap 2 rfl)) (wp 1 (nq ?_)))));refine ct ?_;obtain rfl := oi hr;refine akx (Vs a2 (zae b2.2) a3) rfl krf ?_;exact ⟨a7, a2, a3, (by first | rfl | (simp; done) | (simp; omega) | exact aae (by rw [zab]; omega)), (Hp.front (Hp.front (Hp.front (Hp.cuts c0 aac 2 rfl (zae b2.2)) 2 _ rfl) 2 _ rfl) 2 _ rfl).kp⟩
open List renaming flatMap → zao, length_take → zab
open Nat renaming lt_of_lt_of_le → zap, lt_succ_self → zag
theorem ent11:Wk.Enters prog 11:=⟨f11,_,func11,rfl,krf⟩
theorem ent23:Wk.Enters prog 23:=⟨f23,_,func23,rfl,krf⟩
theorem ent24:Wk.Enters prog 24:=⟨f24,_,func24,rfl,krf⟩
theorem ent25:Wk.Enters prog 25:=⟨f25,_,func25,rfl,krf⟩
theorem ent29:Wk.Enters prog 29:=⟨f29,_,func29,rfl,krf⟩
theorem ent31:Wk.Enters prog 31:=⟨f31,_,func31,rfl,krf⟩
theorem ent113:Wk.Enters prog 113:=⟨f113,_,func113,rfl,krf⟩
theorem ent153:Wk.Enters prog 153:=⟨f153,_,func153,rfl,krf⟩
theorem aju {fu : Nat} {a2 : (Str × Str × Int × Str × (List (Str × Str)) × (List UInt8))} {c5 : Str} (b6 : Option Addr) (c6 : Nat) (b7 : Nat) (b8 : Option Addr) (c7 : Nat) (b9 : Nat) {w : World} {r : (Str × Str × Int × Str × (List (Str × Str)) × (List UInt8))} (hr : agj fu a2 c5 = some r) (hG : Gl w) (d5 : c6 = a2.2.2.2.2.1.length) (d6 : Rd w b6 (zao aaa a2.2.2.2.2.1)) (d7 : c6 ≤ b7) (d8 : c7 = a2.2.2.2.2.2.length) (d9 : Rd w b8 (zao eB a2.2.2.2.2.2)) (e0 : c7 ≤ b9) : CR prog 11 [(zah #[(str a2.1), (str a2.2.1), (Vi .i64 a2.2.2.1), (str a2.2.2.2.1), (Vs b6 c6 b7), (Vs b8 c7 b9)]), (str c5)] w fun v w' => ∃ (o0 : Option Nat), ∃ (a0 : Option Addr), ∃ (cap0 : Nat), ∃ (o1 : Option Nat), ∃ (a1 : Option Addr), ∃ (cap1 : Nat), v = (zah #[(str r.1), (str r.2.1), (Vi .i64 r.2.2.1), (str r.2.2.2.1), (Vs a0 r.2.2.2.2.1.length cap0), (Vs a1 r.2.2.2.2.2.length cap1)]) ∧ Hp w [] [rwt aaa 44 2 o0 a0 cap0 r.2.2.2.2.1, rwt eB 5 1 o1 a1 cap1 r.2.2.2.2.2] w' := by
 subst d5;subst d8;have hH := Hp.refl w;refine enter (k := 14) func11 rfl rfl nbe ?_;unfold agj at hr;refine sr (acd hH [(str a2.1), (str a2.2.1), (Vi .i64 a2.2.2.1), (str a2.2.2.2.1), (Vs b6 a2.2.2.2.2.1.length b7), (Vs b8 a2.2.2.2.2.2.length b9)] 25 (fun b => (Vp (some ⟨b, 0, none⟩))) rfl rfl krf fun b1 w2 e1 => acd e1 [(str ([] : Str)), (str ([] : Str)), (Vi .i64 (0 : Int)), (str ([] : Str)), (Vs none 0 0), (Vs none 0 0)] 25 (fun b => (Vp (some ⟨b, 0, none⟩))) rfl rfl krf fun b4 w5 c1 => nq (sr (akj c1 1 b1 0 6 [(str a2.1), (str a2.2.1), (Vi .i64 a2.2.2.1), (str a2.2.2.2.1), (Vs b6 a2.2.2.2.2.1.length b7), (Vs b8 a2.2.2.2.2.2.length b9)] [(str a2.1), (str a2.2.1), (Vi .i64 a2.2.2.1), (str a2.2.2.2.1), (Vs b6 a2.2.2.2.2.1.length b7), (Vs b8 a2.2.2.2.2.2.length b9)] 25 rfl rfl rfl krf krf krf (bi hr fun y7 e2 hr => ?_))));refine abl 29 #[] [(zah #[(str a2.1), (str a2.2.1), (Vi .i64 a2.2.2.1), (str a2.2.2.2.1), (Vs b6 a2.2.2.2.2.1.length b7), (Vs b8 a2.2.2.2.2.2.length b9)])] _ ent29 krf krf (aiv b6 a2.2.2.2.2.1.length b7 b8 a2.2.2.2.2.2.length b9 e2 (hG.hp0 c1) rfl (d6.hp c1) d7 rfl (d9.hp c1) e0) ?_;rintro _ w9 ⟨c0, a5, a6, b0, a3, a4, rfl, c9⟩
 have e3 : Hp w [] [rwt aaa 44 2 c0 a5 a6 y7.2.2.2.2.1, rwt eB 5 1 b0 a3 a4 y7.2.2.2.2.2, blk b4 [(str ([] : Str)), (str ([] : Str)), (Vi .i64 (0 : Int)), (str ([] : Str)), (Vs none 0 0), (Vs none 0 0)] 25, blk b1 [(str a2.1), (str a2.2.1), (Vi .i64 a2.2.2.1), (str a2.2.2.2.1), (Vs b6 a2.2.2.2.2.1.length b7), (Vs b8 a2.2.2.2.2.2.length b9)] 25] w9 := Hp.callK (L1 := []) (L2 := [blk b4 [(str ([] : Str)), (str ([] : Str)), (Vi .i64 (0 : Int)), (str ([] : Str)), (Vs none 0 0), (Vs none 0 0)] 25, blk b1 [(str a2.1), (str a2.2.1), (Vi .i64 a2.2.2.1), (str a2.2.2.2.1), (Vs b6 a2.2.2.2.2.1.length b7), (Vs b8 a2.2.2.2.2.2.length b9)] 25]) c1 c9; clear c9;refine aki e3 3 b1 0 [(str a2.1), (str a2.2.1), (Vi .i64 a2.2.2.1), (str a2.2.2.2.1), (Vs b6 a2.2.2.2.2.1.length b7), (Vs b8 a2.2.2.2.2.2.length b9)] [(str y7.1), (str y7.2.1), (Vi .i64 y7.2.2.1), (str y7.2.2.2.1), (Vs a5 y7.2.2.2.2.1.length a6), (Vs a3 y7.2.2.2.2.2.length a4)] 25 [rwt aaa 44 2 c0 a5 a6 y7.2.2.2.2.1, rwt eB 5 1 b0 a3 a4 y7.2.2.2.2.2, blk b4 [(str ([] : Str)), (str ([] : Str)), (Vi .i64 (0 : Int)), (str ([] : Str)), (Vs none 0 0), (Vs none 0 0)] 25, blk b1 [(str y7.1), (str y7.2.1), (Vi .i64 y7.2.2.1), (str y7.2.2.2.1), (Vs a5 y7.2.2.2.2.1.length a6), (Vs a3 y7.2.2.2.2.2.length a4)] 25] rfl nbe krf krf rfl krf rfl fun f1 e4 => nq (cs (bi hr fun a7 e5 hr => ahm 4 (fun j_ w_ w_' => aaf [4, 5, 6] (fun w' => w'.heap[b1]? = some (.cells [(str y7.1), (str y7.2.1), (Vi .i64 y7.2.2.1), (str y7.2.2.2.1), (Vs a5 y7.2.2.2.2.1.length a6), (Vs a3 y7.2.2.2.2.2.length a4)].toArray 25 (0, 0))) j_ w_ w_' ∧ True) [false, false, false, false, false, false, false] (fun _ _ => ⟨aaf.same, trivial⟩) krf krf e4 rfl (akc agr) fun f2 c8 => rp 3 [0] (abt [true, true, false, false, false, false, false] 1 8 (Vs a5 y7.2.2.2.2.1.length a6) [4, 5, 6] (fun _ _ _ h => h.1) _ rfl rfl krf krf krf krf krf rfl (aet rfl (by intro w hS_; exact (x_ld1 b1 4 [(str y7.1), (str y7.2.1), (Vi .i64 y7.2.2.1), (str y7.2.2.2.1), (Vs a5 y7.2.2.2.2.1.length a6), (Vs a3 y7.2.2.2.2.2.length a4)] 25 (Vs a5 y7.2.2.2.2.1.length a6) hS_ rfl krf krf))) (by exact c8.blkAt 3 rfl) (rp 1 [2] (ro 3 rfl ?_)))))
 refine abl 23 #[] [(str c5)] _ ent23 krf krf (ahd e5 (hG.hp0 c8)) ?_;rintro _ c2 ⟨b3, b5, rfl, d0⟩
 have d1 : Hp w [] [blk b3 [(bt a7.1)] 32, blk b5 [(str a7.2)] 9, rwt aaa 44 2 c0 a5 a6 y7.2.2.2.2.1, rwt eB 5 1 b0 a3 a4 y7.2.2.2.2.2, blk b4 [(str ([] : Str)), (str ([] : Str)), (Vi .i64 (0 : Int)), (str ([] : Str)), (Vs none 0 0), (Vs none 0 0)] 25, blk b1 [(str y7.1), (str y7.2.1), (Vi .i64 y7.2.2.1), (str y7.2.2.2.1), (Vs a5 y7.2.2.2.2.1.length a6), (Vs a3 y7.2.2.2.2.2.length a4)] 25] c2 := Hp.callK (L1 := []) (L2 := [rwt aaa 44 2 c0 a5 a6 y7.2.2.2.2.1, rwt eB 5 1 b0 a3 a4 y7.2.2.2.2.2, blk b4 [(str ([] : Str)), (str ([] : Str)), (Vi .i64 (0 : Int)), (str ([] : Str)), (Vs none 0 0), (Vs none 0 0)] 25, blk b1 [(str y7.1), (str y7.2.1), (Vi .i64 y7.2.2.1), (str y7.2.2.2.1), (Vs a5 y7.2.2.2.2.1.length a6), (Vs a3 y7.2.2.2.2.2.length a4)] 25]) c8 d0; clear d0;refine wl (abp (by exact ⟨aaf.new (d1.blkAt 5 rfl), trivial⟩) (ajk krf (bi hr fun b2 e6 hr => ?_)));have e7 : Hp w [] [rwt aaa 44 2 c0 a5 a6 y7.2.2.2.2.1, blk b3 [(bt a7.1)] 32, blk b5 [(str a7.2)] 9, rwt eB 5 1 b0 a3 a4 y7.2.2.2.2.2, blk b4 [(str ([] : Str)), (str ([] : Str)), (Vi .i64 (0 : Int)), (str ([] : Str)), (Vs none 0 0), (Vs none 0 0)] 25, blk b1 [(str y7.1), (str y7.2.1), (Vi .i64 y7.2.2.1), (str y7.2.2.2.1), (Vs a5 y7.2.2.2.2.1.length a6), (Vs a3 y7.2.2.2.2.2.length a4)] 25] c2 := d1.front 2 _ rfl;have e8 : Hp w [] [blk b5 [(str a7.2)] 9, rwt aaa 44 2 c0 a5 a6 y7.2.2.2.2.1, blk b3 [(bt a7.1)] 32, rwt eB 5 1 b0 a3 a4 y7.2.2.2.2.2, blk b4 [(str ([] : Str)), (str ([] : Str)), (Vi .i64 (0 : Int)), (str ([] : Str)), (Vs none 0 0), (Vs none 0 0)] 25, blk b1 [(str y7.1), (str y7.2.1), (Vi .i64 y7.2.2.1), (str y7.2.2.2.1), (Vs a5 y7.2.2.2.2.1.length a6), (Vs a3 y7.2.2.2.2.2.length a4)] 25] c2 := e7.front 2 _ rfl;have c3 : Hp w [] [blk b3 [(bt a7.1)] 32, blk b5 [(str a7.2)] 9, rwt aaa 44 2 c0 a5 a6 y7.2.2.2.2.1, rwt eB 5 1 b0 a3 a4 y7.2.2.2.2.2, blk b4 [(str ([] : Str)), (str ([] : Str)), (Vi .i64 (0 : Int)), (str ([] : Str)), (Vs none 0 0), (Vs none 0 0)] 25, blk b1 [(str y7.1), (str y7.2.1), (Vi .i64 y7.2.2.1), (str y7.2.2.2.1), (Vs a5 y7.2.2.2.2.1.length a6), (Vs a3 y7.2.2.2.2.2.length a4)] 25] c2 := e8.front 2 _ rfl;refine abl 31 #[] [(Vs a5 y7.2.2.2.2.1.length a6), (Value.func (.func 52) #[] #[(Vp (some ⟨b3, 0, none⟩)), (Vp (some ⟨b5, 0, none⟩))])] _ ent31 krf krf (afo c0 a5 a6 b3 b5 e6 (hG.hp0 c3) (c3.hand (L1 := [blk b3 [(bt a7.1)] 32, blk b5 [(str a7.2)] 9, rwt aaa 44 2 c0 a5 a6 y7.2.2.2.2.1]) (L2 := [rwt eB 5 1 b0 a3 a4 y7.2.2.2.2.2, blk b4 [(str ([] : Str)), (str ([] : Str)), (Vi .i64 (0 : Int)), (str ([] : Str)), (Vs none 0 0), (Vs none 0 0)] 25, blk b1 [(str y7.1), (str y7.2.1), (Vi .i64 y7.2.2.1), (str y7.2.2.2.1), (Vs a5 y7.2.2.2.2.1.length a6), (Vs a3 y7.2.2.2.2.2.length a4)] 25])) (c3.highs hG (fun _ h => absurd h (by simp)) 3 rfl)) ?_;rintro _ e9 ⟨c4, a8, a9, rfl, d2⟩
 have f0 : Hp w [] [blk b3 [(bt a7.1)] 32, blk b5 [(str a7.2)] 9, rwt aaa 44 2 c4 a8 a9 b2, rwt eB 5 1 b0 a3 a4 y7.2.2.2.2.2, blk b4 [(str ([] : Str)), (str ([] : Str)), (Vi .i64 (0 : Int)), (str ([] : Str)), (Vs none 0 0), (Vs none 0 0)] 25, blk b1 [(str y7.1), (str y7.2.1), (Vi .i64 y7.2.2.1), (str y7.2.2.2.1), (Vs a5 y7.2.2.2.2.1.length a6), (Vs a3 y7.2.2.2.2.2.length a4)] 25] e9 := Hp.callK (L1 := [blk b3 [(bt a7.1)] 32, blk b5 [(str a7.2)] 9, rwt aaa 44 2 c0 a5 a6 y7.2.2.2.2.1]) (L2 := [rwt eB 5 1 b0 a3 a4 y7.2.2.2.2.2, blk b4 [(str ([] : Str)), (str ([] : Str)), (Vi .i64 (0 : Int)), (str ([] : Str)), (Vs none 0 0), (Vs none 0 0)] 25, blk b1 [(str y7.1), (str y7.2.1), (Vi .i64 y7.2.2.1), (str y7.2.2.2.1), (Vs a5 y7.2.2.2.2.1.length a6), (Vs a3 y7.2.2.2.2.2.length a4)] 25]) c3 d2; clear d2;refine wp 1 (w_st1 f0 5 b1 4 [(str y7.1), (str y7.2.1), (Vi .i64 y7.2.2.1), (str y7.2.2.2.1), (Vs a5 y7.2.2.2.2.1.length a6), (Vs a3 y7.2.2.2.2.2.length a4)] 25 (Vs a8 b2.length a9) [blk b3 [(bt a7.1)] 32, blk b5 [(str a7.2)] 9, rwt aaa 44 2 c4 a8 a9 b2, rwt eB 5 1 b0 a3 a4 y7.2.2.2.2.2, blk b4 [(str ([] : Str)), (str ([] : Str)), (Vi .i64 (0 : Int)), (str ([] : Str)), (Vs none 0 0), (Vs none 0 0)] 25, blk b1 [(str y7.1), (str y7.2.1), (Vi .i64 y7.2.2.1), (str y7.2.2.2.1), (Vs a8 b2.length a9), (Vs a3 y7.2.2.2.2.2.length a4)] 25] rfl (zap (zag _) nbe) krf krf rfl krf rfl fun f3 d3 => nq (sr (akj d3 5 b1 0 6 [(str y7.1), (str y7.2.1), (Vi .i64 y7.2.2.1), (str y7.2.2.2.1), (Vs a8 b2.length a9), (Vs a3 y7.2.2.2.2.2.length a4)] [(str y7.1), (str y7.2.1), (Vi .i64 y7.2.2.1), (str y7.2.2.2.1), (Vs a8 b2.length a9), (Vs a3 y7.2.2.2.2.2.length a4)] 25 rfl rfl rfl krf krf krf (aki d3 4 b4 0 [(str ([] : Str)), (str ([] : Str)), (Vi .i64 (0 : Int)), (str ([] : Str)), (Vs none 0 0), (Vs none 0 0)] [(str y7.1), (str y7.2.1), (Vi .i64 y7.2.2.1), (str y7.2.2.2.1), (Vs a8 b2.length a9), (Vs a3 y7.2.2.2.2.2.length a4)] 25 [blk b3 [(bt a7.1)] 32, blk b5 [(str a7.2)] 9, rwt aaa 44 2 c4 a8 a9 b2, rwt eB 5 1 b0 a3 a4 y7.2.2.2.2.2, blk b4 [(str y7.1), (str y7.2.1), (Vi .i64 y7.2.2.1), (str y7.2.2.2.1), (Vs a8 b2.length a9), (Vs a3 y7.2.2.2.2.2.length a4)] 25, blk b1 [(str y7.1), (str y7.2.1), (Vi .i64 y7.2.2.1), (str y7.2.2.2.1), (Vs a8 b2.length a9), (Vs a3 y7.2.2.2.2.2.length a4)] 25] rfl nbe krf krf rfl krf rfl fun f4 d4 => nq ?_))));refine ct ?_;obtain rfl := oi hr;refine r_res _ [(zah #[(str y7.1), (str y7.2.1), (Vi .i64 y7.2.2.1), (str y7.2.2.2.1), (Vs a8 b2.length a9), (Vs a3 y7.2.2.2.2.2.length a4)])] (zah #[(str y7.1), (str y7.2.1), (Vi .i64 y7.2.2.1), (str y7.2.2.2.1), (Vs a8 b2.length a9), (Vs a3 y7.2.2.2.2.2.length a4)]) rfl rfl (agn (ahy d4 4 b4 25 [(str y7.1), (str y7.2.1), (Vi .i64 y7.2.2.1), (str y7.2.2.2.1), (Vs a8 b2.length a9), (Vs a3 y7.2.2.2.2.2.length a4)] rfl krf krf krf) ahx) rfl ?_;exact ⟨c4, a8, a9, b0, a3, a4, (by first | rfl | (simp; done) | (simp; omega) | exact aae (by rw [zab]; omega)), (Hp.front (Hp.front d4 3 _ rfl) 3 _ rfl).kp⟩
theorem K_L_message_full {fu : Nat} {a0 : Str} {w : World} {r : Str} (hr : agi fu a0 = some r) (hG : Gl w) : CR prog 25 [(str a0)] w fun v w' => v = (str r) ∧ Hp w [] [] w' := by
 have hH := Hp.refl w;refine enter (k := 14) func25 rfl rfl nbe ?_;unfold agi at hr;refine sr (wp 1 (nq (cs (sr (wp 1 (bi hr fun y1 a2 hr => ?_))))));refine wc ent15 hH (ahl a2 (hG.hp0 hH)) fun w3 a1 => wp 5 (nq (sr (wp 1 (aay y1.2 (0 : UInt8) krf krf (nq (cd hr (fun h6 hr => ?_) (fun h6 hr => ?_)))))))
 refine sr (wp 2 (nq (ct (st ?_))));obtain rfl := oi hr;exact rv a1.kp
 refine ck (qn (sr (wp 2 (nq (ct ?_)))));obtain rfl := oi hr;exact rv a1.kp
theorem aiw {fu : Nat} {a3 : (Str × Str × Int × Str × (List (Str × Str)) × (List UInt8))} {c7 : Str} {a6 : Str} (a7 : Option Addr) (c9 : Nat) (a8 : Nat) (b3 : Option Addr) (d0 : Nat) (b5 : Nat) {w : World} {r : (Str × Str × Int × Str × (List (Str × Str)) × (List UInt8))} (hr : aio fu a3 c7 a6 = some r) (hG : Gl w) (e6 : c9 = a3.2.2.2.2.1.length) (d1 : Rd w a7 (zao aaa a3.2.2.2.2.1)) (d5 : c9 ≤ a8) (e7 : d0 = a3.2.2.2.2.2.length) (e8 : Rd w b3 (zao eB a3.2.2.2.2.2)) (e9 : d0 ≤ b5) : CR prog 7 [(zah #[(str a3.1), (str a3.2.1), (Vi .i64 a3.2.2.1), (str a3.2.2.2.1), (Vs a7 c9 a8), (Vs b3 d0 b5)]), (str c7), (str a6)] w fun v w' => ∃ (o0 : Option Nat), ∃ (a0 : Option Addr), ∃ (cap0 : Nat), ∃ (o1 : Option Nat), ∃ (a1 : Option Addr), ∃ (cap1 : Nat), v = (zah #[(str r.1), (str r.2.1), (Vi .i64 r.2.2.1), (str r.2.2.2.1), (Vs a0 r.2.2.2.2.1.length cap0), (Vs a1 r.2.2.2.2.2.length cap1)]) ∧ Hp w [] [rwt aaa 44 2 o0 a0 cap0 r.2.2.2.2.1, rwt eB 5 1 o1 a1 cap1 r.2.2.2.2.2] w' := by
 subst e6;subst e7;have hH := Hp.refl w;refine enter (k := 32) func7 rfl rfl nbe ?_;unfold aio at hr;refine sr (acd hH [(str a3.1), (str a3.2.1), (Vi .i64 a3.2.2.1), (str a3.2.2.2.1), (Vs a7 a3.2.2.2.2.1.length a8), (Vs b3 a3.2.2.2.2.2.length b5)] 25 (fun b => (Vp (some ⟨b, 0, none⟩))) rfl rfl krf fun b1 w2 f0 => acd f0 [(str ([] : Str)), (str ([] : Str)), (Vi .i64 (0 : Int)), (str ([] : Str)), (Vs none 0 0), (Vs none 0 0)] 25 (fun b => (Vp (some ⟨b, 0, none⟩))) rfl rfl krf fun b4 w5 f1 => nq (cs (bi hr fun y7 f2 hr => ahm 4 (fun j_ w_ w_' => aaf [4, 5] (fun w' => w'.heap[b1]? = some (.cells [(str a3.1), (str a3.2.1), (Vi .i64 a3.2.2.1), (str a3.2.2.2.1), (Vs a7 a3.2.2.2.2.1.length a8), (Vs b3 a3.2.2.2.2.2.length b5)].toArray 25 (0, 0))) j_ w_ w_' ∧ True) [false, false, false, false, false, false] (fun _ _ => ⟨aaf.same, trivial⟩) krf krf f1 rfl (akc agr) fun g8 d2 => rp 3 [0] ?_)));refine abt [true, true, false, false, false, false] 1 9 (Vs a7 a3.2.2.2.2.1.length a8) [4, 5] (fun _ _ _ h => h.1) _ rfl rfl krf krf krf krf krf rfl (aet rfl (by intro w hS_; exact (x_ld1 b1 4 [(str a3.1), (str a3.2.1), (Vi .i64 a3.2.2.1), (str a3.2.2.2.1), (Vs a7 a3.2.2.2.2.1.length a8), (Vs b3 a3.2.2.2.2.2.length b5)] 25 (Vs a7 a3.2.2.2.2.1.length a8) hS_ rfl krf krf))) (by exact d2.blkAt 1 rfl) (rp 1 [2] (ro 3 rfl (abl 23 #[] [(str c7)] _ ent23 krf krf (ahd f2 (hG.hp0 d2)) ?_)));rintro _ w9 ⟨b9, c0, rfl, d6⟩
 have d7 : Hp w [] [blk b9 [(bt y7.1)] 32, blk c0 [(str y7.2)] 9, blk b4 [(str ([] : Str)), (str ([] : Str)), (Vi .i64 (0 : Int)), (str ([] : Str)), (Vs none 0 0), (Vs none 0 0)] 25, blk b1 [(str a3.1), (str a3.2.1), (Vi .i64 a3.2.2.1), (str a3.2.2.2.1), (Vs a7 a3.2.2.2.2.1.length a8), (Vs b3 a3.2.2.2.2.2.length b5)] 25] w9 := Hp.callK (L1 := []) (L2 := [blk b4 [(str ([] : Str)), (str ([] : Str)), (Vi .i64 (0 : Int)), (str ([] : Str)), (Vs none 0 0), (Vs none 0 0)] 25, blk b1 [(str a3.1), (str a3.2.1), (Vi .i64 a3.2.2.1), (str a3.2.2.2.1), (Vs a7 a3.2.2.2.2.1.length a8), (Vs b3 a3.2.2.2.2.2.length b5)] 25]) d2 d6; clear d6;refine wl (abp (by exact ⟨aaf.new (d7.blkAt 3 rfl), trivial⟩) (ajk krf (bi hr fun f3 f4 hr => ?_)));have f5 : Hp w [] [blk c0 [(str y7.2)] 9, blk b9 [(bt y7.1)] 32, blk b4 [(str ([] : Str)), (str ([] : Str)), (Vi .i64 (0 : Int)), (str ([] : Str)), (Vs none 0 0), (Vs none 0 0)] 25, blk b1 [(str a3.1), (str a3.2.1), (Vi .i64 a3.2.2.1), (str a3.2.2.2.1), (Vs a7 a3.2.2.2.2.1.length a8), (Vs b3 a3.2.2.2.2.2.length b5)] 25] w9 := d7.front 1 _ rfl;have c4 : Hp w [] [blk b9 [(bt y7.1)] 32, blk c0 [(str y7.2)] 9, blk b4 [(str ([] : Str)), (str ([] : Str)), (Vi .i64 (0 : Int)), (str ([] : Str)), (Vs none 0 0), (Vs none 0 0)] 25, blk b1 [(str a3.1), (str a3.2.1), (Vi .i64 a3.2.2.1), (str a3.2.2.2.1), (Vs a7 a3.2.2.2.2.1.length a8), (Vs b3 a3.2.2.2.2.2.length b5)] 25] w9 := f5.front 1 _ rfl;refine abl 22 #[] [(Vs a7 a3.2.2.2.2.1.length a8), (Value.func (.func 52) #[] #[(Vp (some ⟨b9, 0, none⟩)), (Vp (some ⟨c0, 0, none⟩))])] _ ent22 krf krf (aax a7 a3.2.2.2.2.1.length a8 b9 c0 f4 (hG.hp0 c4) rfl (d1.hp c4) d5 (c4.hand (L1 := [blk b9 [(bt y7.1)] 32, blk c0 [(str y7.2)] 9]) (L2 := [blk b4 [(str ([] : Str)), (str ([] : Str)), (Vi .i64 (0 : Int)), (str ([] : Str)), (Vs none 0 0), (Vs none 0 0)] 25, blk b1 [(str a3.1), (str a3.2.1), (Vi .i64 a3.2.2.1), (str a3.2.2.2.1), (Vs a7 a3.2.2.2.2.1.length a8), (Vs b3 a3.2.2.2.2.2.length b5)] 25])) (c4.highs hG (fun _ h => absurd h (by simp)) 2 rfl) (c4.apartRd 2 d1 (fun _ _ _ h => absurd h (by simp)) rfl)) ?_;rintro _ f6 ⟨rfl, d8⟩
 have c5 : Hp w [] [blk b9 [(bt y7.1)] 32, blk c0 [(str y7.2)] 9, blk b4 [(str ([] : Str)), (str ([] : Str)), (Vi .i64 (0 : Int)), (str ([] : Str)), (Vs none 0 0), (Vs none 0 0)] 25, blk b1 [(str a3.1), (str a3.2.1), (Vi .i64 a3.2.2.1), (str a3.2.2.2.1), (Vs a7 a3.2.2.2.2.1.length a8), (Vs b3 a3.2.2.2.2.2.length b5)] 25] f6 := Hp.callK (L1 := [blk b9 [(bt y7.1)] 32, blk c0 [(str y7.2)] 9]) (L2 := [blk b4 [(str ([] : Str)), (str ([] : Str)), (Vi .i64 (0 : Int)), (str ([] : Str)), (Vs none 0 0), (Vs none 0 0)] 25, blk b1 [(str a3.1), (str a3.2.1), (Vi .i64 a3.2.2.1), (str a3.2.2.2.1), (Vs a7 a3.2.2.2.2.1.length a8), (Vs b3 a3.2.2.2.2.2.length b5)] 25]) c4 d8; clear d8;refine wp 1 (nq (sr (akj c5 3 b1 0 6 [(str a3.1), (str a3.2.1), (Vi .i64 a3.2.2.1), (str a3.2.2.2.1), (Vs a7 a3.2.2.2.2.1.length a8), (Vs b3 a3.2.2.2.2.2.length b5)] [(str a3.1), (str a3.2.1), (Vi .i64 a3.2.2.1), (str a3.2.2.2.1), (Vs a7 a3.2.2.2.2.1.length a8), (Vs b3 a3.2.2.2.2.2.length b5)] 25 rfl rfl rfl krf krf krf (wp 1 (bi hr fun a2 f7 hr => abl 11 #[] [(zah #[(str a3.1), (str a3.2.1), (Vi .i64 a3.2.2.1), (str a3.2.2.2.1), (Vs a7 a3.2.2.2.2.1.length a8), (Vs b3 a3.2.2.2.2.2.length b5)]), (str c7)] _ ent11 krf krf (aju a7 a3.2.2.2.2.1.length a8 b3 a3.2.2.2.2.2.length b5 f7 (hG.hp0 c5) rfl (d1.hp c5) d5 rfl (e8.hp c5) e9) ?_)))));rintro _ f8 ⟨c3, a9, b0, c1, a4, a5, rfl, d9⟩
 have f9 : Hp w [] [rwt aaa 44 2 c3 a9 b0 a2.2.2.2.2.1, rwt eB 5 1 c1 a4 a5 a2.2.2.2.2.2, blk b9 [(bt y7.1)] 32, blk c0 [(str y7.2)] 9, blk b4 [(str ([] : Str)), (str ([] : Str)), (Vi .i64 (0 : Int)), (str ([] : Str)), (Vs none 0 0), (Vs none 0 0)] 25, blk b1 [(str a3.1), (str a3.2.1), (Vi .i64 a3.2.2.1), (str a3.2.2.2.1), (Vs a7 a3.2.2.2.2.1.length a8), (Vs b3 a3.2.2.2.2.2.length b5)] 25] f8 := Hp.callK (L1 := []) (L2 := [blk b9 [(bt y7.1)] 32, blk c0 [(str y7.2)] 9, blk b4 [(str ([] : Str)), (str ([] : Str)), (Vi .i64 (0 : Int)), (str ([] : Str)), (Vs none 0 0), (Vs none 0 0)] 25, blk b1 [(str a3.1), (str a3.2.1), (Vi .i64 a3.2.2.1), (str a3.2.2.2.1), (Vs a7 a3.2.2.2.2.1.length a8), (Vs b3 a3.2.2.2.2.2.length b5)] 25]) c5 d9; clear d9;refine aki f9 5 b1 0 [(str a3.1), (str a3.2.1), (Vi .i64 a3.2.2.1), (str a3.2.2.2.1), (Vs a7 a3.2.2.2.2.1.length a8), (Vs b3 a3.2.2.2.2.2.length b5)] [(str a2.1), (str a2.2.1), (Vi .i64 a2.2.2.1), (str a2.2.2.2.1), (Vs a9 a2.2.2.2.2.1.length b0), (Vs a4 a2.2.2.2.2.2.length a5)] 25 [rwt aaa 44 2 c3 a9 b0 a2.2.2.2.2.1, rwt eB 5 1 c1 a4 a5 a2.2.2.2.2.2, blk b9 [(bt y7.1)] 32, blk c0 [(str y7.2)] 9, blk b4 [(str ([] : Str)), (str ([] : Str)), (Vi .i64 (0 : Int)), (str ([] : Str)), (Vs none 0 0), (Vs none 0 0)] 25, blk b1 [(str a2.1), (str a2.2.1), (Vi .i64 a2.2.2.1), (str a2.2.2.2.1), (Vs a9 a2.2.2.2.2.1.length b0), (Vs a4 a2.2.2.2.2.2.length a5)] 25] rfl nbe krf krf rfl krf rfl fun g9 d3 => nq (bi hr fun g0 c6 hr => cut (σ := Int) [1, 2, 3, 6, 7] (fun b6 => [(7, (Vi .i64 b6))]) (fun b6 w' => Hp w [] [rwt aaa 44 2 c3 a9 b0 a2.2.2.2.2.1, rwt eB 5 1 c1 a4 a5 a2.2.2.2.2.2, blk b4 [(str ([] : Str)), (str ([] : Str)), (Vi .i64 (0 : Int)), (str ([] : Str)), (Vs none 0 0), (Vs none 0 0)] 25, blk b1 [(str a2.1), (str a2.2.1), (Vi .i64 a2.2.2.1), (str a2.2.2.2.1), (Vs a9 a2.2.2.2.2.1.length b0), (Vs a4 a2.2.2.2.2.2.length a5)] 25] w' ∧ b6 = g0) ?_ ?_)
 refine sr (wp 2 (nq (cd c6 (fun g1 c6 => ?_) (fun g1 c6 => ?_))));refine cr (wp 1 (aeg d3 5 b1 4 [(str a2.1), (str a2.2.1), (Vi .i64 a2.2.2.1), (str a2.2.2.2.1), (Vs a9 a2.2.2.2.2.1.length b0), (Vs a4 a2.2.2.2.2.2.length a5)] 25 (Vs a9 a2.2.2.2.2.1.length b0) rfl rfl krf krf (wp 2 (wl (ql ?_)))));obtain rfl := oi c6;exact ⟨(a2.2.2.2.2.1.length : Int), _, rfl, by kernel_rfl, (Hp.front (Hp.front (Hp.front (Hp.front d3 5 _ rfl) 5 _ rfl) 3 _ rfl) 3 _ rfl).kp, rfl⟩
 refine ck (ql ?_);obtain rfl := oi c6;exact ⟨f3, _, rfl, by kernel_rfl, (Hp.front (Hp.front (Hp.front (Hp.front d3 5 _ rfl) 5 _ rfl) 3 _ rfl) 3 _ rfl).kp, rfl⟩
 rintro b6 h0 G ⟨g2, rfl⟩
 refine cs (bi hr fun b2 g3 hr => ahm 8 (fun j_ w_ w_' => aaf [8, 9, 10] (fun w' => w'.heap[b1]? = some (.cells [(str a2.1), (str a2.2.1), (Vi .i64 a2.2.2.1), (str a2.2.2.2.1), (Vs a9 a2.2.2.2.2.1.length b0), (Vs a4 a2.2.2.2.2.2.length a5)].toArray 25 (0, 0))) j_ w_ w_' ∧ True) [false, false, false, false, false, false, false, false, false, false, false] (fun _ _ => ⟨aaf.same, trivial⟩) krf krf g2 rfl (akc agr) fun h1 d4 => rp 7 [0] (abt [true, true, false, false, false, false, false, false, false, false, false] 1 22 (Vs a9 a2.2.2.2.2.1.length b0) [8, 9, 10] (fun _ _ _ h => h.1) _ rfl rfl krf krf krf krf krf rfl (aet rfl (by intro w hS_; exact (x_ld1 b1 4 [(str a2.1), (str a2.2.1), (Vi .i64 a2.2.2.1), (str a2.2.2.2.1), (Vs a9 a2.2.2.2.2.1.length b0), (Vs a4 a2.2.2.2.2.2.length a5)] 25 (Vs a9 a2.2.2.2.2.1.length b0) hS_ rfl krf krf))) (by exact d4.blkAt 3 rfl) (rp 3 [2, 3, 5] (ro 4 rfl (wc ent25 d4 (K_L_message_full g3 (hG.hp0 d4)) fun h2 e0 => wl (abp (by exact ⟨aaf.new (e0.blkAt 3 rfl), trivial⟩) ?_))))));refine rp 1 [6] (ro 7 rfl (acd e0 [(str b2), (str a6)] 44 (fun b => (Vs (some ⟨b, 0, none⟩) 1 1)) rfl rfl krf fun c2 g4 e1 => wl (abp (by exact ⟨aaf.new (e1.blkAt 4 rfl), trivial⟩) (ajk krf (gi hr fun g5 hr => ?_)))));have e2 : Hp w [] [rwt aaa 44 2 c3 a9 b0 a2.2.2.2.2.1, blk c2 [(str b2), (str a6)] 44, rwt eB 5 1 c1 a4 a5 a2.2.2.2.2.2, blk b4 [(str ([] : Str)), (str ([] : Str)), (Vi .i64 (0 : Int)), (str ([] : Str)), (Vs none 0 0), (Vs none 0 0)] 25, blk b1 [(str a2.1), (str a2.2.1), (Vi .i64 a2.2.2.1), (str a2.2.2.2.1), (Vs a9 a2.2.2.2.2.1.length b0), (Vs a4 a2.2.2.2.2.2.length a5)] 25] g4 := e1.front 1 _ rfl;refine abl 24 #[] [(Vs a9 a2.2.2.2.2.1.length b0), (Vi .i64 b6), (Vs (some ⟨c2, 0, none⟩) 1 1)] _ ent24 krf krf (sh_Insert24 a2.2.2.2.2.1 (b2, a6) b6 c3 a9 b0 c2 (e2.hand (L1 := [rwt aaa 44 2 c3 a9 b0 a2.2.2.2.2.1, blk c2 [(str b2), (str a6)] 44]) (L2 := [rwt eB 5 1 c1 a4 a5 a2.2.2.2.2.2, blk b4 [(str ([] : Str)), (str ([] : Str)), (Vi .i64 (0 : Int)), (str ([] : Str)), (Vs none 0 0), (Vs none 0 0)] 25, blk b1 [(str a2.1), (str a2.2.1), (Vi .i64 a2.2.2.1), (str a2.2.2.2.1), (Vs a9 a2.2.2.2.2.1.length b0), (Vs a4 a2.2.2.2.2.2.length a5)] 25])) g5) ?_;rintro _ g6 ⟨c8, b7, b8, rfl, e3⟩
 have g7 : Hp w [] [rwt aaa 44 2 c8 b7 b8 (akp a2.2.2.2.2.1 b6 (b2, a6)), blk c2 [(str b2), (str a6)] 44, rwt eB 5 1 c1 a4 a5 a2.2.2.2.2.2, blk b4 [(str ([] : Str)), (str ([] : Str)), (Vi .i64 (0 : Int)), (str ([] : Str)), (Vs none 0 0), (Vs none 0 0)] 25, blk b1 [(str a2.1), (str a2.2.1), (Vi .i64 a2.2.2.1), (str a2.2.2.2.1), (Vs a9 a2.2.2.2.2.1.length b0), (Vs a4 a2.2.2.2.2.2.length a5)] 25] g6 := Hp.callK (L1 := [rwt aaa 44 2 c3 a9 b0 a2.2.2.2.2.1, blk c2 [(str b2), (str a6)] 44]) (L2 := [rwt eB 5 1 c1 a4 a5 a2.2.2.2.2.2, blk b4 [(str ([] : Str)), (str ([] : Str)), (Vi .i64 (0 : Int)), (str ([] : Str)), (Vs none 0 0), (Vs none 0 0)] 25, blk b1 [(str a2.1), (str a2.2.1), (Vi .i64 a2.2.2.1), (str a2.2.2.2.1), (Vs a9 a2.2.2.2.2.1.length b0), (Vs a4 a2.2.2.2.2.2.length a5)] 25]) e2 e3; clear e3;refine wp 1 (w_st1 g7 4 b1 4 [(str a2.1), (str a2.2.1), (Vi .i64 a2.2.2.1), (str a2.2.2.2.1), (Vs a9 a2.2.2.2.2.1.length b0), (Vs a4 a2.2.2.2.2.2.length a5)] 25 (Vs b7 ((akp a2.2.2.2.2.1 b6 (b2, a6)).length) b8) [rwt aaa 44 2 c8 b7 b8 (akp a2.2.2.2.2.1 b6 (b2, a6)), blk c2 [(str b2), (str a6)] 44, rwt eB 5 1 c1 a4 a5 a2.2.2.2.2.2, blk b4 [(str ([] : Str)), (str ([] : Str)), (Vi .i64 (0 : Int)), (str ([] : Str)), (Vs none 0 0), (Vs none 0 0)] 25, blk b1 [(str a2.1), (str a2.2.1), (Vi .i64 a2.2.2.1), (str a2.2.2.2.1), (Vs b7 ((akp a2.2.2.2.2.1 b6 (b2, a6)).length) b8), (Vs a4 a2.2.2.2.2.2.length a5)] 25] rfl (zap (zag _) nbe) krf krf rfl krf rfl fun h3 e4 => nq (sr (akj e4 4 b1 0 6 [(str a2.1), (str a2.2.1), (Vi .i64 a2.2.2.1), (str a2.2.2.2.1), (Vs b7 ((akp a2.2.2.2.2.1 b6 (b2, a6)).length) b8), (Vs a4 a2.2.2.2.2.2.length a5)] [(str a2.1), (str a2.2.1), (Vi .i64 a2.2.2.1), (str a2.2.2.2.1), (Vs b7 ((akp a2.2.2.2.2.1 b6 (b2, a6)).length) b8), (Vs a4 a2.2.2.2.2.2.length a5)] 25 rfl rfl rfl krf krf krf (aki e4 3 b4 0 [(str ([] : Str)), (str ([] : Str)), (Vi .i64 (0 : Int)), (str ([] : Str)), (Vs none 0 0), (Vs none 0 0)] [(str a2.1), (str a2.2.1), (Vi .i64 a2.2.2.1), (str a2.2.2.2.1), (Vs b7 ((akp a2.2.2.2.2.1 b6 (b2, a6)).length) b8), (Vs a4 a2.2.2.2.2.2.length a5)] 25 [rwt aaa 44 2 c8 b7 b8 (akp a2.2.2.2.2.1 b6 (b2, a6)), blk c2 [(str b2), (str a6)] 44, rwt eB 5 1 c1 a4 a5 a2.2.2.2.2.2, blk b4 [(str a2.1), (str a2.2.1), (Vi .i64 a2.2.2.1), (str a2.2.2.2.1), (Vs b7 ((akp a2.2.2.2.2.1 b6 (b2, a6)).length) b8), (Vs a4 a2.2.2.2.2.2.length a5)] 25, blk b1 [(str a2.1), (str a2.2.1), (Vi .i64 a2.2.2.1), (str a2.2.2.2.1), (Vs b7 ((akp a2.2.2.2.2.1 b6 (b2, a6)).length) b8), (Vs a4 a2.2.2.2.2.2.length a5)] 25] rfl nbe krf krf rfl krf rfl fun h4 e5 => nq ?_))));refine ct ?_;obtain rfl := oi hr;refine r_res _ [(zah #[(str a2.1), (str a2.2.1), (Vi .i64 a2.2.2.1), (str a2.2.2.2.1), (Vs b7 ((akp a2.2.2.2.2.1 b6 (b2, a6)).length) b8), (Vs a4 a2.2.2.2.2.2.length a5)])] (zah #[(str a2.1), (str a2.2.1), (Vi .i64 a2.2.2.1), (str a2.2.2.2.1), (Vs b7 ((akp a2.2.2.2.2.1 b6 (b2, a6)).length) b8), (Vs a4 a2.2.2.2.2.2.length a5)]) rfl rfl (agn (ahy e5 3 b4 25 [(str a2.1), (str a2.2.1), (Vi .i64 a2.2.2.1), (str a2.2.2.2.1), (Vs b7 ((akp a2.2.2.2.2.1 b6 (b2, a6)).length) b8), (Vs a4 a2.2.2.2.2.2.length a5)] rfl krf krf krf) ahx) rfl ?_;exact ⟨c8, b7, b8, c1, a4, a5, (by first | rfl | (simp; done) | (simp; omega) | exact aae (by rw [zab]; omega)), (Hp.front (Hp.front e5 2 _ rfl) 1 _ rfl).kp⟩
theorem K_L_ref01_TokenChar {fu : Nat} {a1 : UInt8} {w : World} {r : Bool} (hr : afk fu a1 = some r) (hG : Gl w) : CR prog 153 [(bt a1)] w fun v w' => v = (Vb r) ∧ Hp w [] [] w' := by
 have hH := Hp.refl w;refine enter (k := 40) func153 rfl rfl nbe ?_;unfold afk at hr;refine sr (wp 1 (nq (cs (bi hr fun a7 a0 hr => aks hH [0, 2, 26] [(26, (Vb a7))] ?_ ?_))));refine cr (wp 1 (ajw a1 (65 : UInt8) krf krf (wd a0 (fun a8 a0 => ?_) (fun a8 a0 => ?_))));refine wp 1 (gy 7 (ajv a1 (90 : UInt8) krf krf (wp 1 (wd a0 (fun a9 a0 => ?_) (fun a9 a0 => ?_)))));refine wp 15 (wl (ql ?_));obtain rfl := oi a0;exact je hH.kp
 refine wp 1 (gy 11 (ajw a1 (97 : UInt8) krf krf (gy 11 (wd a0 (fun b0 a0 => ?_) (fun b0 a0 => ?_)))));refine wp 1 (gy 14 (ajv a1 (122 : UInt8) krf krf (wp 2 (wd a0 (fun b1 a0 => ?_) (fun b1 a0 => ?_)))));refine wp 7 (wl (ql ?_));obtain rfl := oi a0;exact je hH.kp
 refine wp 1 (gy 19 (ajw a1 (48 : UInt8) krf krf (gy 19 (wd a0 (fun b2 a0 => ?_) (fun b2 a0 => ?_)))));refine wp 1 (gy 22 (ajv a1 (57 : UInt8) krf krf (wp 2 (wl (ql ?_)))));obtain rfl := oi a0;exact je hH.kp
 refine wp 4 (wl (ql ?_));obtain rfl := oi a0;exact je hH.kp
 refine wp 6 (gy 19 (ajw a1 (48 : UInt8) krf krf (gy 19 (wd a0 (fun b3 a0 => ?_) (fun b3 a0 => ?_)))));refine wp 1 (gy 22 (ajv a1 (57 : UInt8) krf krf (wp 2 (wl (ql ?_)))));obtain rfl := oi a0;exact je hH.kp
 refine wp 4 (wl (ql ?_));obtain rfl := oi a0;exact je hH.kp
 refine wp 5 (gy 11 (ajw a1 (97 : UInt8) krf krf (gy 11 (wd a0 (fun b4 a0 => ?_) (fun b4 a0 => ?_)))));refine wp 1 (gy 14 (ajv a1 (122 : UInt8) krf krf (wp 2 (wd a0 (fun b5 a0 => ?_) (fun b5 a0 => ?_)))));refine wp 7 (wl (ql ?_));obtain rfl := oi a0;exact je hH.kp
 refine wp 1 (gy 19 (ajw a1 (48 : UInt8) krf krf (gy 19 (wd a0 (fun b6 a0 => ?_) (fun b6 a0 => ?_)))));refine wp 1 (gy 22 (ajv a1 (57 : UInt8) krf krf (wp 2 (wl (ql ?_)))));obtain rfl := oi a0;exact je hH.kp
 refine wp 4 (wl (ql ?_));obtain rfl := oi a0;exact je hH.kp
 refine wp 6 (gy 19 (ajw a1 (48 : UInt8) krf krf (gy 19 (wd a0 (fun b7 a0 => ?_) (fun b7 a0 => ?_)))));refine wp 1 (gy 22 (ajv a1 (57 : UInt8) krf krf (wp 2 (wl (ql ?_)))));obtain rfl := oi a0;exact je hH.kp
 refine wp 4 (wl (ql ?_));obtain rfl := oi a0;exact je hH.kp
 intro c7 G a4;refine cb hr (fun b8 hr => ?_) (fun b8 hr => ?_);refine sr (wp 1 (nq (ct (st ?_))));obtain rfl := oi hr;exact rv a4.kp
 refine ck (qn (sr (wp 1 (nq (bi hr fun b9 c0 hr => cut1 a4 b9 [0, 2] (fun c1 => []) ?_ ?_)))));refine sr (wp 1 (nq (ce (lpS (fun a6 a3 => ael fu a1 a6 a3) (0 : Int) a4 c0 [0, 2, 3, 4] (fun a3 => [(4, (Vi .i64 a3))]) (fun _ => rfl) ?_))));rintro a6 a3 c8 G a5 a2
 rw [alw, agl] at a2;refine cs (sr (wp 4 (nq (cd a2 (fun c2 a2 => ?_) (fun c2 a2 => ?_)))));refine ck (qn (cs (ce (sr (wp 2 (gi a2 fun c3 a2 => adb ([45, 46, 33, 37, 42, 95, 43, 39, 126] : Str) .i64 a3 underlying9 krf krf c3 (wp 1 ?_)))))));refine aay (at_ ([45, 46, 33, 37, 42, 95, 43, 39, 126] : Str) a3) a1 krf krf (nq (cd a2 (fun c4 a2 => ?_) (fun c4 a2 => ?_)));refine sr (wp 1 (nq (ct (bt_ (st (acs (bt_ ?_)))))));refine acs ?_;obtain rfl := oi a2;obtain rfl := oi hr;exact rv a5.kp
 exact ck (bn (qn (cr (wp 1 (gi a2 fun c5 a2 => aao a3 (1 : Int) krf krf c5 (wp 1 (wl (ql (le' (a3 + (1 : Int)) a5.kp a2)))))))))
 refine adh (adf (adu (adm (ql ?_))));obtain rfl := oi a2;exact je1 rfl a5.kp
 rintro c1 c9 G c6 rfl
 refine sr (wp 1 (aay a1 (96 : UInt8) krf krf (wp 1 (nq (ct ?_)))));obtain rfl := oi hr;exact rv c6.kp
theorem K_L_ref01_TokenEnd {fu : Nat} {a3 : Str} {a4 : Int} {w : World} {r : Int} (hr : agc fu a3 a4 = some r) (hG : Gl w) : CR prog 113 [(str a3), (Vi .i64 a4)] w fun v w' => v = (Vi .i64 r) ∧ Hp w [] [] w' := by
 have hH := Hp.refl w;refine enter (k := 24) func113 rfl rfl nbe ?_;unfold agc at hr;refine sr (wp 1 (nq (sr (wp 1 (w_max .i64 a4 (0 : Int) krf krf (wp 2 ?_))))));refine w_min .i64 (max a4 (0 : Int)) (a3.length : Int) krf krf (wp 1 (nq (bi hr fun a8 a9 hr => aks hH [4, 5] [(5, (Vi .i64 a8))] ?_ ?_)));refine ce (lpS (fun a6 a2 => adi fu a3 a6 a2) (min (max a4 (0 : Int)) (a3.length : Int)) hH a9 [0, 4, 5] (fun a2 => [(5, (Vi .i64 a2))]) (fun _ => rfl) ?_);rintro a6 a2 b8 G a5 a0
 rw [agk, acu] at a0;refine cs (bi a0 fun b0 a1 a0 => aks a5 [0, 4, 5, 20] [(20, (Vb b0))] ?_ ?_);refine cr (wp 4 (wd a1 (fun b1 a1 => ?_) (fun b1 a1 => ?_)));refine wp 2 (gy 15 (gi a1 fun b2 a1 => adb a3 .i64 a2 underlying9 krf krf b2 (gy 15 (bi a1 fun b9 b3 a1 => wc ent153 a5 (K_L_ref01_TokenChar b3 (hG.hp0 a5)) fun c0 b4 => wp 1 (wl (ql ?_))))));obtain rfl := oi a1;exact je b4.kp
 refine wp 5 (wl (ql ?_));obtain rfl := oi a1;exact je a5.kp
 intro c1 G a7;refine cb a0 (fun b5 a0 => ?_) (fun b5 a0 => ?_);refine ck (qn (ce (cr (wp 1 (gi a0 fun b6 a0 => aao a2 (1 : Int) krf krf b6 (wp 1 (wl (bn ?_))))))));exact ql (le' (a2 + (1 : Int)) a7.kp a0)
 refine adh (adf (adu (adm (ql ?_))));obtain rfl := oi a0;exact je a7.kp
 intro c2 G b7;refine sr (wp 2 (nq (ct ?_)));obtain rfl := oi hr;exact rv b7.kp
theorem K_L_ref01_Token {fu : Nat} {a1 : Str} {w : World} {r : Bool} (hr : aim fu a1 = some r) (hG : Gl w) : CR prog 80 [(str a1)] w fun v w' => v = (Vb r) ∧ Hp w [] [] w' := by
 have hH := Hp.refl w;refine enter (k := 12) func80 rfl rfl nbe ?_;unfold aim at hr;refine sr (wp 1 (nq (bi hr fun a2 a0 hr => aks hH [2] [(2, (Vb a2))] ?_ ?_)));refine cr (wp 2 (wn a0 (fun a3 a0 => ?_) (fun a3 a0 => ?_)));refine wp 1 (gy 5 (bi a0 fun a7 a4 a0 => wc ent113 hH (K_L_ref01_TokenEnd a4 (hG.hp0 hH)) fun a8 a5 => wp 5 (wl (ql ?_))));obtain rfl := oi a0;exact je a5.kp
 refine wp 7 (wl (ql ?_));obtain rfl := oi a0;exact je hH.kp
 intro a9 G a6;refine ct ?_;obtain rfl := oi hr;exact rv a6.kp
theorem K_L_ref02_Lower {fu : Nat} {a4 : Str} {w : World} {r : Str} (hr : aha fu a4 = some r) (hG : Gl w) : CR prog 81 [(str a4)] w fun v w' => v = (str r) ∧ Hp w [] [] w' := by
 have hH := Hp.refl w;refine enter (k := 35) func81 rfl rfl nbe ?_;unfold aha at hr;refine sr (wp 1 (nq (sr (wp 1 (w_tobytes hH a4 5 underlying9 underlying23 underlying5 krf fun a1 cap2 w3 b3 => wp 1 ?_)))));refine nq (bi hr fun b2 b4 hr => cut (σ := Str) [2, 3] (fun a9 => []) (fun a9 w' => Hp w [] [brow (Vs a1 a4.length cap2) a4.length a9] w' ∧ a9 = b2) ?_ ?_);refine sr (wp 1 (nq (ce (lpG (σ := Nat × Str × Int) [2, 3, 4] (fun ⟨a7, a2, a0⟩ => [(4, (Vi .i64 a0))]) (fun ⟨a7, a2, a0⟩ w' => Hp w [] [brow (Vs a1 a4.length cap2) a4.length a2] w' ∧ afi fu a4 a7 a2 a0 = some b2) (fun ⟨a7, a2, a0⟩ => a7) (fu, a4, (0 : Int)) (by exact ⟨b3.kp, b4⟩) ?_))));rintro ⟨_ | a7, a2, a0⟩ d1 G ⟨a6, a3⟩
 · exact nzz a3
 rw [ahp, aek] at a3;refine cs (sr (wp 4 (nq (cd a3 (fun b5 a3 => ?_) (fun b5 a3 => ?_)))));refine ck (qn (cs (ce (bi a3 fun b6 a5 a3 => aks a6 [2, 3, 4, 24] [(24, (Vb b6))] ?_ ?_))));refine cr (wp 2 (gi a5 fun b7 a5 => ago a1 a4.length cap2 5 1 .i64 a0 underlying23 krf krf krf a2 (a6.browlen 0 rfl).symm b7 (Rd.ofbytes (a6.rdbrow 0 rfl)) ahh (by decide) (gi a5 fun b8 a5 => aji a1 eB a2 1 a0 ahh (Rd.ofbytes (a6.rdbrow 0 rfl)) (bt (at_ a2 a0)) b8 (by decide) krf krf krf (ajw (at_ a2 a0) (65 : UInt8) krf krf (wd a5 (fun b9 a5 => ?_) (fun b9 a5 => ?_))))));refine wp 2 (gy 18 (gi a5 fun c0 a5 => ago a1 a4.length cap2 5 1 .i64 a0 underlying23 krf krf krf a2 (a6.browlen 0 rfl).symm c0 (Rd.ofbytes (a6.rdbrow 0 rfl)) ahh (by decide) (gy 18 (gi a5 fun c1 a5 => aji a1 eB a2 1 a0 ahh (Rd.ofbytes (a6.rdbrow 0 rfl)) (bt (at_ a2 a0)) c1 (by decide) krf krf krf (gy 18 (ajv (at_ a2 a0) (90 : UInt8) krf krf (wp 1 ?_)))))));refine wl (ql ?_);obtain rfl := oi a5;exact je a6.kp
 refine wp 6 (wl (ql ?_));obtain rfl := oi a5;exact je a6.kp
 intro d2 G a8;refine cb a3 (fun c2 a3 => ?_) (fun c2 a3 => ?_);refine cr (wp 4 (gi a3 fun c3 a3 => ago a1 a4.length cap2 5 1 .i64 a0 underlying23 krf krf krf a2 (a8.browlen 0 rfl).symm c3 (Rd.ofbytes (a8.rdbrow 0 rfl)) ahh (by decide) (gi a3 fun c4 a3 => aji a1 eB a2 1 a0 ahh (Rd.ofbytes (a8.rdbrow 0 rfl)) (bt (at_ a2 a0)) c4 (by decide) krf krf krf (w8_add (at_ a2 a0) (32 : UInt8) krf krf (gi a3 fun c5 a3 => ago a1 a4.length cap2 5 1 .i64 a0 underlying23 krf krf krf a2 (a8.browlen 0 rfl).symm c5 (Rd.ofbytes (a8.rdbrow 0 rfl)) ahh (by decide) (gi a3 fun c6 a3 => ?_))))));refine w_stB a8 0 a1 a4.length cap2 a0 a2 ((at_ a2 a0) + (32 : UInt8)) rfl c6 krf krf krf fun c7 b0 => ?_
 replace b0 : Hp w [] [brow (Vs a1 a4.length cap2) a4.length (List.set a2 (zae a0) ((at_ a2 a0) + (32 : UInt8)))] c7 := b0;refine wl (bn (qn (cr (wp 1 (gi a3 fun c8 a3 => aao a0 (1 : Int) krf krf c8 (wp 1 (wl (ql ?_))))))));exact ⟨(a7, List.set a2 (zae a0) ((at_ a2 a0) + (32 : UInt8)), a0 + (1 : Int)), _, rfl, by kernel_rfl, ⟨b0.kp, a3⟩, zag _⟩
 refine ck (bn (qn (cr (wp 1 (gi a3 fun c9 a3 => aao a0 (1 : Int) krf krf c9 (wp 1 (wl (ql ?_))))))));exact ⟨(a7, a2, a0 + (1 : Int)), _, rfl, by kernel_rfl, ⟨a8.kp, a3⟩, zag _⟩
 refine adh (adf (adu (adm (ql ?_))));obtain rfl := oi a3;exact ⟨a2, _, rfl, by kernel_rfl, a6.kp, rfl⟩
 rintro a9 d0 G ⟨b1, rfl⟩
 refine sr (wp 1 (abj (v := (str a9)) (w' := d0) rfl rfl (aku a9 a1 a4.length cap2 5 (Rd.bytes (Rd.ofbytes (b1.rdbrow 0 rfl))) (b1.browlen 0 rfl) underlying23 underlying9 underlying5 krf) (wp 1 (nq (ct ?_)))));obtain rfl := oi hr;exact rv b1.kp
theorem K_L_ref03_short {fu : Nat} {a3 : UInt8} {w : World} {r : Str} (hr : aii fu a3 = some r) (hG : Gl w) : CR prog 82 [(bt a3)] w fun v w' => v = (str r) ∧ Hp w [] [] w' := by
 have hH := Hp.refl w;refine enter (k := 24) func82 rfl rfl nbe ?_;unfold aii at hr;refine sr (wp 1 (nq (sr (acd hH [(str ([98, 82, 101, 102, 101, 114, 114, 101, 100, 45, 66, 121] : Str)), (str ([99, 67, 111, 110, 116, 101, 110, 116, 45, 84, 121, 112, 101] : Str)), (str ([101, 67, 111, 110, 116, 101, 110, 116, 45, 69, 110, 99, 111, 100, 105, 110, 103] : Str)), (str ([102, 70, 114, 111, 109] : Str)), (str ([105, 67, 97, 108, 108, 45, 73, 68] : Str)), (str ([107, 83, 117, 112, 112, 111, 114, 116, 101, 100] : Str)), (str ([108, 67, 111, 110, 116, 101, 110, 116, 45, 76, 101, 110, 103, 116, 104] : Str)), (str ([109, 67, 111, 110, 116, 97, 99, 116] : Str)), (str ([111, 69, 118, 101, 110, 116] : Str)), (str ([114, 82, 101, 102, 101, 114, 45, 84, 111] : Str)), (str ([115, 83, 117, 98, 106, 101, 99, 116] : Str)), (str ([116, 84, 111] : Str)), (str ([117, 65, 108, 108, 111, 119, 45, 69, 118, 101, 110, 116, 115] : Str)), (str ([118, 86, 105, 97] : Str)), (str ([120, 83, 101, 115, 115, 105, 111, 110, 45, 69, 120, 112, 105, 114, 101, 115] : Str))] 9 (fun b => (Vs (some ⟨b, 0, none⟩) 15 15)) rfl rfl krf fun b1 w2 a6 => wp 1 (wl ?_)))));refine qn (bi hr fun a7 a8 hr => cut (σ := Unit) [2] (fun a4 => []) (fun a4 w' => Hp w [] [] w' ∧ .inl a4 = a7) ?_ ?_);refine sr (wp 1 (nq (ce (lpS (fun a5 a1 => agz fu a3 a5 a1) (0 : Int) a6 a8 [0, 2, 3, 4] (fun a1 => [(4, (Vi .i64 a1))]) (fun _ => rfl) ?_))));rintro a5 a1 c0 G a2 a0
 rw [L_ref03_short_lp0_s, aih] at a0;refine cs (sr (wp 4 (nq (cd a0 (fun a9 a0 => ?_) (fun a9 a0 => ?_)))));refine ck (qn (cs (ce (sr (wp 2 (gi a0 fun b0 a0 => ago (some ⟨b1, 0, none⟩) 15 15 9 1 .i64 a1 underlying38 krf krf krf ([([98, 82, 101, 102, 101, 114, 114, 101, 100, 45, 66, 121] : Str), ([99, 67, 111, 110, 116, 101, 110, 116, 45, 84, 121, 112, 101] : Str), ([101, 67, 111, 110, 116, 101, 110, 116, 45, 69, 110, 99, 111, 100, 105, 110, 103] : Str), ([102, 70, 114, 111, 109] : Str), ([105, 67, 97, 108, 108, 45, 73, 68] : Str), ([107, 83, 117, 112, 112, 111, 114, 116, 101, 100] : Str), ([108, 67, 111, 110, 116, 101, 110, 116, 45, 76, 101, 110, 103, 116, 104] : Str), ([109, 67, 111, 110, 116, 97, 99, 116] : Str), ([111, 69, 118, 101, 110, 116] : Str), ([114, 82, 101, 102, 101, 114, 45, 84, 111] : Str), ([115, 83, 117, 98, 106, 101, 99, 116] : Str), ([116, 84, 111] : Str), ([117, 65, 108, 108, 111, 119, 45, 69, 118, 101, 110, 116, 115] : Str), ([118, 86, 105, 97] : Str), ([120, 83, 101, 115, 115, 105, 111, 110, 45, 69, 120, 112, 105, 114, 101, 115] : Str)] : List Str) (by first | rfl | (simp; done) | omega | (simp; omega) | (rw [zab]; omega)) b0 (a2.rdblk 0 rfl) ali (by decide) (gi a0 fun b2 a0 => ?_)))))));refine aji (some ⟨b1, 0, none⟩) eS ([([98, 82, 101, 102, 101, 114, 114, 101, 100, 45, 66, 121] : Str), ([99, 67, 111, 110, 116, 101, 110, 116, 45, 84, 121, 112, 101] : Str), ([101, 67, 111, 110, 116, 101, 110, 116, 45, 69, 110, 99, 111, 100, 105, 110, 103] : Str), ([102, 70, 114, 111, 109] : Str), ([105, 67, 97, 108, 108, 45, 73, 68] : Str), ([107, 83, 117, 112, 112, 111, 114, 116, 101, 100] : Str), ([108, 67, 111, 110, 116, 101, 110, 116, 45, 76, 101, 110, 103, 116, 104] : Str), ([109, 67, 111, 110, 116, 97, 99, 116] : Str), ([111, 69, 118, 101, 110, 116] : Str), ([114, 82, 101, 102, 101, 114, 45, 84, 111] : Str), ([115, 83, 117, 98, 106, 101, 99, 116] : Str), ([116, 84, 111] : Str), ([117, 65, 108, 108, 111, 119, 45, 69, 118, 101, 110, 116, 115] : Str), ([118, 86, 105, 97] : Str), ([120, 83, 101, 115, 115, 105, 111, 110, 45, 69, 120, 112, 105, 114, 101, 115] : Str)] : List Str) 1 a1 ali (a2.rdblk 0 rfl) (str (el ([([98, 82, 101, 102, 101, 114, 114, 101, 100, 45, 66, 121] : Str), ([99, 67, 111, 110, 116, 101, 110, 116, 45, 84, 121, 112, 101] : Str), ([101, 67, 111, 110, 116, 101, 110, 116, 45, 69, 110, 99, 111, 100, 105, 110, 103] : Str), ([102, 70, 114, 111, 109] : Str), ([105, 67, 97, 108, 108, 45, 73, 68] : Str), ([107, 83, 117, 112, 112, 111, 114, 116, 101, 100] : Str), ([108, 67, 111, 110, 116, 101, 110, 116, 45, 76, 101, 110, 103, 116, 104] : Str), ([109, 67, 111, 110, 116, 97, 99, 116] : Str), ([111, 69, 118, 101, 110, 116] : Str), ([114, 82, 101, 102, 101, 114, 45, 84, 111] : Str), ([115, 83, 117, 98, 106, 101, 99, 116] : Str), ([116, 84, 111] : Str), ([117, 65, 108, 108, 111, 119, 45, 69, 118, 101, 110, 116, 115] : Str), ([118, 86, 105, 97] : Str), ([120, 83, 101, 115, 115, 105, 111, 110, 45, 69, 120, 112, 105, 114, 101, 115] : Str)] : List Str) a1)) b2 (by decide) krf krf krf (gi a0 fun b3 a0 => adb (el ([([98, 82, 101, 102, 101, 114, 114, 101, 100, 45, 66, 121] : Str), ([99, 67, 111, 110, 116, 101, 110, 116, 45, 84, 121, 112, 101] : Str), ([101, 67, 111, 110, 116, 101, 110, 116, 45, 69, 110, 99, 111, 100, 105, 110, 103] : Str), ([102, 70, 114, 111, 109] : Str), ([105, 67, 97, 108, 108, 45, 73, 68] : Str), ([107, 83, 117, 112, 112, 111, 114, 116, 101, 100] : Str), ([108, 67, 111, 110, 116, 101, 110, 116, 45, 76, 101, 110, 103, 116, 104] : Str), ([109, 67, 111, 110, 116, 97, 99, 116] : Str), ([111, 69, 118, 101, 110, 116] : Str), ([114, 82, 101, 102, 101, 114, 45, 84, 111] : Str), ([115, 83, 117, 98, 106, 101, 99, 116] : Str), ([116, 84, 111] : Str), ([117, 65, 108, 108, 111, 119, 45, 69, 118, 101, 110, 116, 115] : Str), ([118, 86, 105, 97] : Str), ([120, 83, 101, 115, 115, 105, 111, 110, 45, 69, 120, 112, 105, 114, 101, 115] : Str)] : List Str) a1) .i64 (0 : Int) underlying9 krf krf b3 (wp 1 (aay (at_ (el ([([98, 82, 101, 102, 101, 114, 114, 101, 100, 45, 66, 121] : Str), ([99, 67, 111, 110, 116, 101, 110, 116, 45, 84, 121, 112, 101] : Str), ([101, 67, 111, 110, 116, 101, 110, 116, 45, 69, 110, 99, 111, 100, 105, 110, 103] : Str), ([102, 70, 114, 111, 109] : Str), ([105, 67, 97, 108, 108, 45, 73, 68] : Str), ([107, 83, 117, 112, 112, 111, 114, 116, 101, 100] : Str), ([108, 67, 111, 110, 116, 101, 110, 116, 45, 76, 101, 110, 103, 116, 104] : Str), ([109, 67, 111, 110, 116, 97, 99, 116] : Str), ([111, 69, 118, 101, 110, 116] : Str), ([114, 82, 101, 102, 101, 114, 45, 84, 111] : Str), ([115, 83, 117, 98, 106, 101, 99, 116] : Str), ([116, 84, 111] : Str), ([117, 65, 108, 108, 111, 119, 45, 69, 118, 101, 110, 116, 115] : Str), ([118, 86, 105, 97] : Str), ([120, 83, 101, 115, 115, 105, 111, 110, 45, 69, 120, 112, 105, 114, 101, 115] : Str)] : List Str) a1) (0 : Int)) a3 krf krf (nq (cd a0 (fun b4 a0 => ?_) (fun b4 a0 => ?_))))));refine sr (wp 2 (gi a0 fun b5 a0 => ago (some ⟨b1, 0, none⟩) 15 15 9 1 .i64 a1 underlying38 krf krf krf ([([98, 82, 101, 102, 101, 114, 114, 101, 100, 45, 66, 121] : Str), ([99, 67, 111, 110, 116, 101, 110, 116, 45, 84, 121, 112, 101] : Str), ([101, 67, 111, 110, 116, 101, 110, 116, 45, 69, 110, 99, 111, 100, 105, 110, 103] : Str), ([102, 70, 114, 111, 109] : Str), ([105, 67, 97, 108, 108, 45, 73, 68] : Str), ([107, 83, 117, 112, 112, 111, 114, 116, 101, 100] : Str), ([108, 67, 111, 110, 116, 101, 110, 116, 45, 76, 101, 110, 103, 116, 104] : Str), ([109, 67, 111, 110, 116, 97, 99, 116] : Str), ([111, 69, 118, 101, 110, 116] : Str), ([114, 82, 101, 102, 101, 114, 45, 84, 111] : Str), ([115, 83, 117, 98, 106, 101, 99, 116] : Str), ([116, 84, 111] : Str), ([117, 65, 108, 108, 111, 119, 45, 69, 118, 101, 110, 116, 115] : Str), ([118, 86, 105, 97] : Str), ([120, 83, 101, 115, 115, 105, 111, 110, 45, 69, 120, 112, 105, 114, 101, 115] : Str)] : List Str) (by first | rfl | (simp; done) | omega | (simp; omega) | (rw [zab]; omega)) b5 (a2.rdblk 0 rfl) ali (by decide) (gi a0 fun b6 a0 => aji (some ⟨b1, 0, none⟩) eS ([([98, 82, 101, 102, 101, 114, 114, 101, 100, 45, 66, 121] : Str), ([99, 67, 111, 110, 116, 101, 110, 116, 45, 84, 121, 112, 101] : Str), ([101, 67, 111, 110, 116, 101, 110, 116, 45, 69, 110, 99, 111, 100, 105, 110, 103] : Str), ([102, 70, 114, 111, 109] : Str), ([105, 67, 97, 108, 108, 45, 73, 68] : Str), ([107, 83, 117, 112, 112, 111, 114, 116, 101, 100] : Str), ([108, 67, 111, 110, 116, 101, 110, 116, 45, 76, 101, 110, 103, 116, 104] : Str), ([109, 67, 111, 110, 116, 97, 99, 116] : Str), ([111, 69, 118, 101, 110, 116] : Str), ([114, 82, 101, 102, 101, 114, 45, 84, 111] : Str), ([115, 83, 117, 98, 106, 101, 99, 116] : Str), ([116, 84, 111] : Str), ([117, 65, 108, 108, 111, 119, 45, 69, 118, 101, 110, 116, 115] : Str), ([118, 86, 105, 97] : Str), ([120, 83, 101, 115, 115, 105, 111, 110, 45, 69, 120, 112, 105, 114, 101, 115] : Str)] : List Str) 1 a1 ali (a2.rdblk 0 rfl) (str (el ([([98, 82, 101, 102, 101, 114, 114, 101, 100, 45, 66, 121] : Str), ([99, 67, 111, 110, 116, 101, 110, 116, 45, 84, 121, 112, 101] : Str), ([101, 67, 111, 110, 116, 101, 110, 116, 45, 69, 110, 99, 111, 100, 105, 110, 103] : Str), ([102, 70, 114, 111, 109] : Str), ([105, 67, 97, 108, 108, 45, 73, 68] : Str), ([107, 83, 117, 112, 112, 111, 114, 116, 101, 100] : Str), ([108, 67, 111, 110, 116, 101, 110, 116, 45, 76, 101, 110, 103, 116, 104] : Str), ([109, 67, 111, 110, 116, 97, 99, 116] : Str), ([111, 69, 118, 101, 110, 116] : Str), ([114, 82, 101, 102, 101, 114, 45, 84, 111] : Str), ([115, 83, 117, 98, 106, 101, 99, 116] : Str), ([116, 84, 111] : Str), ([117, 65, 108, 108, 111, 119, 45, 69, 118, 101, 110, 116, 115] : Str), ([118, 86, 105, 97] : Str), ([120, 83, 101, 115, 115, 105, 111, 110, 45, 69, 120, 112, 105, 114, 101, 115] : Str)] : List Str) a1)) b6 (by decide) krf krf krf (gi a0 fun b7 a0 => w_slice_from (el ([([98, 82, 101, 102, 101, 114, 114, 101, 100, 45, 66, 121] : Str), ([99, 67, 111, 110, 116, 101, 110, 116, 45, 84, 121, 112, 101] : Str), ([101, 67, 111, 110, 116, 101, 110, 116, 45, 69, 110, 99, 111, 100, 105, 110, 103] : Str), ([102, 70, 114, 111, 109] : Str), ([105, 67, 97, 108, 108, 45, 73, 68] : Str), ([107, 83, 117, 112, 112, 111, 114, 116, 101, 100] : Str), ([108, 67, 111, 110, 116, 101, 110, 116, 45, 76, 101, 110, 103, 116, 104] : Str), ([109, 67, 111, 110, 116, 97, 99, 116] : Str), ([111, 69, 118, 101, 110, 116] : Str), ([114, 82, 101, 102, 101, 114, 45, 84, 111] : Str), ([115, 83, 117, 98, 106, 101, 99, 116] : Str), ([116, 84, 111] : Str), ([117, 65, 108, 108, 111, 119, 45, 69, 118, 101, 110, 116, 115] : Str), ([118, 86, 105, 97] : Str), ([120, 83, 101, 115, 115, 105, 111, 110, 45, 69, 120, 112, 105, 114, 101, 115] : Str)] : List Str) a1) .i64 (1 : Int) underlying9 krf krf b7 (wp 1 ?_)))));refine nq (ct (bt_ (st (acs (bt_ (acs ?_))))));obtain rfl := oi a0;obtain rfl := oi hr;exact rv a2.kp
 exact ck (bn (qn (cr (wp 1 (gi a0 fun b8 a0 => aao a1 (1 : Int) krf krf b8 (wp 1 (wl (ql (le' (a1 + (1 : Int)) a2.kp a0)))))))))
 refine adh (adf (adu (adm (ql ?_))));obtain rfl := oi a0;exact ⟨(), _, rfl, by kernel_rfl, a2.kp, rfl⟩
 rintro a4 c1 G ⟨b9, rfl⟩
 refine sr (wp 1 (nq (ct ?_)));obtain rfl := oi hr;exact rv b9.kp
end Go.Proofs
