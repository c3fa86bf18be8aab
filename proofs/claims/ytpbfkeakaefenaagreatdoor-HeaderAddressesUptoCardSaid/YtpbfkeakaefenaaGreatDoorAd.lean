/-
  The law HeaderAddresses (part 8 of 8).
-/
import Derived.Test.YtpbfkeakaefenaaGreatDoorAd7
import Derived.Test.YtpbfkeakaefenaaGreatDoorRows
import Derived.ProofKit
import Derived.OpenShut
import Derived.Deep.DeepHandedRow
import Derived.Lib.LaidTab
import Derived.Shelf.Vars
import Derived.ChangeSame
import Derived.WalkKit
import Derived.SevenTiedAt
import Derived.Shelf.Strings.Builder1
import Derived.Shelf.Strings.Builder2
import Derived.Shelf.Strings.OnBuilder
import Derived.Shelf.Strings.Trim
import Derived.Shelf.Small.Utf8
import Derived.Shelf.Small.Strs
import Derived.Shelf.Small.Wraps
import Derived.Shelf.Strings.BuilderF
import Derived.Shelf.Strings.BuilderK
import Derived.Shelf.Utf8.RuneCount
import Derived.Shelf.Strings.Builder2Cap
import Derived.Shelf.Strconv.Itoa0
import Derived.Shelf.Strconv.Itoa1
import Derived.Shelf.LaysM
import Derived.Shelf.Strconv.Itoa2
import Derived.Shelf.Strconv.Itoa3
import Derived.Shelf.Strings.Search1
import Derived.Shelf.Strings.Search2
import Derived.Shelf.Strings.Search3
import Derived.Shelf.Strings.Cut
import Derived.Shelf.Strings.Count
import Derived.Shelf.Strings.Shaped
import Derived.Shelf.Strings.LastIndex
import Derived.Shelf.Strings.Prefix
import Derived.Shelf.Strings.Split
import Derived.Shelf.Strings.SplitShaped
import Derived.Shelf.Unicode.Decode
import Derived.Shelf.Strings.Runes
import Derived.Shelf.Strings.RuneCount
import Derived.Shelf.Strings.IndexAny
import Derived.Shelf.Strings.AsciiSet
import Derived.Shelf.Strings.IndexAnyAll
import Derived.Shelf.Strings.Explode
import Derived.Shelf.Unicode.DecodeSlow
import Derived.Shelf.Unicode.DecodeAny
import Derived.Shelf.Unicode.DecodeLast
import Derived.Shelf.Strings.BuilderCap
import Derived.Ground.PaProg
import Derived.Shelf.Path.Small
import Derived.Test.YtpbfkeakaefenaaGreatDoorProg
import Derived.Shelf.Strings.SlTrimAscii
import Derived.Test.YtpbfkeakaefenaaGreatDoorCards
import Derived.Test.YtpbfkeakaefenaaGreatDoorTie
import Derived.ChangeMaps5
set_option linter.unusedVariables false
set_option linter.unusedSimpArgs false
set_option maxRecDepth 20000
namespace Go.Proofs
open Go.Wk Go.Px Go.RowKit
theorem lenOf{s:ByteArray}(h:s.size≤maxLen):s.data.toList.length≤9223372036854775807:=Nat.le_trans (by rw [Array.length_toList];exact h) (show maxLen≤9223372036854775807 by decide)
theorem laidAt{P:Program}{w:World}:∀{l:List (String×DataW Unit)} {ps:List MemPlace},DataW.LaidVars P w l ps→∀(i:Nat) {n:String} {d:DataW Unit},l[i]? =some (n,d)→
  ∃g t cs fuel p,P.globalNamed n=some g∧(P.globals[g]?).map (·.type)=some t∧w.var? P n=some cs∧DataW.trod (fun _=>()) P w 0 (fun _=>true) false fuel t cs.toList=some (d,p)
 |[],_,_,i,n,d,hi=>by simp at hi
 |(n',d')::l,ps,h,0,n,d,hi=>by
  obtain⟨g,t,cs,fuel,p,q,h1,h2,h3,h4,_,_⟩:=h
  simp only [List.getElem?_cons_zero,Option.some.injEq,Prod.mk.injEq]at hi
  obtain⟨rfl,rfl⟩:=hi
  exact⟨g,t,cs,fuel,p,h1,h2,h3,h4⟩
 |(n',d')::l,ps,h,i+1,n,d,hi=>by
  obtain⟨g,t,cs,fuel,p,q,_,_,_,_,h5,_⟩:=h
  exact laidAt h5 i (by simpa using hi)
theorem vrOf{P:Program}{w:World}{n:String}{g:Nat}{cs:Array Value}(hg:P.globalNamed n=some g)(h:w.var? P n=some cs):Vr w g cs.toList:=by
 simp only [World.var?,hg,Option.bind_some]at h
 split at h
 ·rename_i cs' t f e
  cases h
  exact⟨t,f,by rw [e]⟩
 ·cases h
theorem chunks{α:Type}{f:α→List Value}{sz:Nat}:∀(zs:List α) (cs:List Value),cs.length=zs.length*sz→(∀(i:Nat) (z:α),zs[i]? =some z→(cs.drop (i*sz)).take sz=f z)→cs=zs.flatMap f
 |[],cs,hl,_=>by simpa using hl
 |z::zs,cs,hl,h=>by
  have h0:=h 0 z rfl
  simp only [Nat.zero_mul,List.drop_zero]at h0
  have h1:=chunks (f:=f) (sz:=sz) zs (cs.drop sz) (by rw [List.length_drop,hl,List.length_cons,Nat.succ_mul];omega) (fun i z' hi=>by
   have:=h (i+1) z' (by simpa using hi)
   rw [List.drop_drop,Nat.add_comm,←Nat.succ_mul]
   exact this)
  rw [List.flatMap_cons,←h0,←h1,List.take_append_drop]
theorem arrCells{P:Program}{w:World}{fuel n sz:Nat}{t e:TypeId}{cs:List Value}{p:List MemPlace}{α:Type}{dz:α→DataW Unit}{f:α→List Value}(zs:List α)
  (ht:P.underlying t=some (.array n e)) (hce:P.cellsOf e=sz) (hct:P.cellsOf t=n*sz) (hz:zs.length=n)
  (hel:∀fuel cs' z p,DataW.trod (fun _=>()) P w 0 (fun _=>true) false fuel e cs'=some (dz z,p)→cs'=f z)
  (h:DataW.trod (fun _=>()) P w 0 (fun _=>true) false fuel t cs=some (.agg (zs.map dz),p)):cs=zs.flatMap f:=by
 cases fuel with
 |zero=>simp [DataW.trod]at h
 |succ fuel=>
  simp only [DataW.trod,ht,hce,hct]at h
  split at h
  ·rename_i hl
   obtain⟨xs,hm,hx⟩:=Option.map_eq_some_iff.1 h
   have hxs:xs.map (·.1)=zs.map dz:=by
    have:=congrArg Prod.fst hx
    simpa using this
   refine chunks zs cs (by rw [hl,hz]) fun i z hi=> ?_
   have hi':i<n:=by rw [←hz];exact(List.getElem?_eq_some_iff.1 hi).1
   obtain⟨b,hb,hf⟩:=Lib.mapM_at hm i i (by simp [hi'])
   have hb1:b.1=dz z:=by
    have e1:(xs.map (·.1))[i]? =some b.1:=by simp [hb]
    rw [hxs]at e1
    simp only [List.getElem?_map,hi,Option.map_some,Option.some.injEq]at e1
    exact e1.symm
   exact hel fuel _ z b.2 (by rw [hf,←hb1])
  ·cases h
theorem strCell{P:Program}{w:World}{fuel:Nat}{e:TypeId}{cs:List Value}{p:List MemPlace}(he:P.underlying e=some .string)(z:List UInt8)
  (h:DataW.trod (fun _=>()) P w 0 (fun _=>true) false fuel e cs=some (.lit (.string z),p)):cs=eS z:=by
 obtain⟨s,rfl,hx,_⟩:=DataW.trod_string he h
 simp only [Prod.mk.injEq,DataW.lit.injEq,Lit.string.injEq]at hx
 obtain⟨rfl,_⟩:=hx
 rfl
theorem intCell{P:Program}{w:World}{fuel:Nat}{e:TypeId}{k:IntKind}{cs:List Value}{p:List MemPlace}(he:P.underlying e=some (.int k))(z:Int)
  (h:DataW.trod (fun _=>()) P w 0 (fun _=>true) false fuel e cs=some (.lit (.int k z),p)):cs=[.int k z]:=by
 obtain⟨n,rfl,hx,_⟩:=DataW.trod_int he h
 simp only [Prod.mk.injEq,DataW.lit.injEq,Lit.int.injEq]at hx
 obtain⟨⟨_,rfl⟩,_⟩:=hx
 rfl
theorem pairCell{P:Program}{w:World}{fuel:Nat}{e a b:TypeId}{f0 f1:Field}{k:IntKind}{cs:List Value}{p:List MemPlace}(he:P.underlying e=some (.struct #[f0,f1]))(ha:P.underlying a=some .string)(hb:P.underlying b=some (.int k))
  (h0:(f0.type,f0.offset,f1.type,f1.offset)=(a,0,b,1)) (hca:P.cellsOf a=1) (hcb:P.cellsOf b=1) (hc:P.cellsOf e=2) (z:List UInt8×Int)
  (h:DataW.trod (fun _=>()) P w 0 (fun _=>true) false fuel e cs=some (.agg [.lit (.string z.1),.lit (.int k z.2)],p)):cs=[str z.1,.int k z.2]:=by
 obtain⟨z1,z2⟩:=z
 simp only [Prod.mk.injEq]at h0
 obtain⟨t0,o0,t1,o1⟩:=h0
 cases fuel with
 |zero=>simp [DataW.trod]at h
 |succ fuel=>
  simp only [DataW.trod,he,hc]at h
  split at h
  ·rename_i hl
   obtain⟨xs,hm,hx⟩:=Option.map_eq_some_iff.1 h
   simp only [List.mapM_cons,List.mapM_nil,Option.bind_eq_bind,Option.bind_eq_some_iff,Option.pure_def,Option.some.injEq,t0,t1,o0,o1,hca,hcb,List.drop_zero]at hm
   obtain⟨x0,hx0,r0,⟨x1,hx1,r1,rfl,rfl⟩,rfl⟩:=hm
   simp only [List.map_cons,List.map_nil,Prod.mk.injEq,DataW.agg.injEq,List.cons.injEq,and_true]at hx
   obtain⟨⟨e0,e1⟩,_⟩:=hx
   have g0:=strCell ha z1 (p:=x0.2) (by rw [hx0,←e0])
   have g1:=intCell hb z2 (p:=x1.2) (by rw [hx1,←e1])
   match cs,hl,g0,g1 with
   |[u,v],_,g0,g1=>
    simp only [List.take_succ_cons,List.take_zero,List.drop_succ_cons,List.drop_zero,eS,List.cons.injEq,and_true]at g0 g1
    rw [g0,g1]
  ·cases h
theorem intVar{P:Program}{w:World}{g:Nat}{t:TypeId}{zero:Array Value}{k:IntKind}(h:w.ShapedOpen P)(hg:g<P.globals.size)
  (h0:((begin P (fun _ _=>0) default).world.heap[g]?).bind Obj.row? =some (zero,t)) (hz:zero.size=1)
  (hb:P.buildable t=true) (hc:P.cellTypes P.depth t=some [t]) (hu:P.underlying t=some (.int k)):∃m,Vr w g [.int k m]:=by
 obtain⟨m,hm⟩:=cell_of_shapedOpen_int h hg h0 hz hb hc hu
 obtain⟨cs,hh,hs,_⟩:=h.1 g zero t hg h0
 refine⟨m,t,(0,0), ?_⟩
 rw [hh]
 have h1:cs.size=1:=by omega
 have h2:cs[0]? =some (.int k m):=by
  have:w.cell? ⟨g,0,none⟩=cs[0]? :=by simp [World.cell?,hh]
  rw [←this];exact hm
 have e:cs=[Value.int k m].toArray:=by
  apply Array.ext
  ·simp [h1]
  ·intro i hi hi'
   have:i=0:=by omega
   subst this
   simpa [hi] using h2
 rw [e]
theorem heapSize{P:Program}{w:World}{g:Nat}(h:w.ShapedOpen P)(hg:g<P.globals.size)(h0:(((begin P (fun _ _=>0) default).world.heap[g]?).bind Obj.row?).isSome=true):g+1≤w.heap.size:=by
 obtain⟨⟨zero,t⟩,h1⟩:=Option.isSome_iff_exists.1 h0
 obtain⟨cs,hh,_⟩:=h.1 g zero t hg h1
 exact(Array.getElem?_eq_some_iff.1 hh).1
theorem laidOf{P:Program}{l:List (String×DataW Unit)}{w:World}(h:laidMetH P l w)(hn:(l.filter fun x=>x.2.handleName?.isSome)=[]):∃ps,DataW.LaidVars P w l ps:=by
 unfold laidMetH at h
 rw [hn]at h
 obtain⟨ps,h1,_⟩:=h
 exact⟨ps,h1⟩
theorem postOf{H:Type}{enc:TypeId×Value→H}{P:Program}{f:Func}{s:ChangeSpec}{apart fresh handsOn:Bool}{W W':World}{args:Array Value}{v:Value}{ds gs:List (DataW H)}{before pa pv:List MemPlace}
  (hW:DataW.Whole enc P f.params.toList s.vars apart W args.toList ds gs before)
  (hres:∀(b:Nat) (sp:Nat→Bool) (hd:Bool),DataW.TrodAll enc P W' b sp hd f.resultTypes.toList (v.resultList f.resultTypes.size) (s.fn H (ds++gs)).results [])
  (hargs:∀sp:Nat→Bool,(∀p∈before,sp p.block=true)→DataW.TrodAll enc P W' 0 sp true f.params.toList args.toList (s.fn H (ds++gs)).args pa)
  (hvars:∀sp:Nat→Bool,(∀p∈before,sp p.block=true)→DataW.TrodVars enc P W' sp s.vars (s.fn H (ds++gs)).vars pv)
  (hk:W.keptBut W' (fun p=>p∈before∧(p∈([]:List MemPlace)∨p∈pa∨p∈pv))):s.post enc P f apart fresh handsOn false W args v W':=by
 have hold:∀p∈before,(fun b=>decide (b<W.heap.size)) p.block=true:=fun p hp=>by simpa using hW.lt p hp
 exact⟨ds,gs,before,[],pa,pv,hW,hres _ _ _,hargs _ hold,hvars _ hold,hk,fun h=>by cases h⟩
end Go.Proofs
set_option maxRecDepth 100000
namespace Go.Proofs
open Go.Wk Go.Px Go.RowKit
theorem glOf{W:World}(hL:laidMetH Tryz.prog YtpbfkeakaefenaaGreatDoor.Rows.headerAddressesRow.laid W)(hsh:W.ShapedOpen Tryz.prog)(hs:9≤W.heap.size):Gl W:=by
 obtain⟨ps,h⟩:=laidOf hL krf
 have v0:Vr W 0 (List.flatMap eS ark):=by
  obtain⟨g,t,cs,fuel,p,h1,h2,h3,h4⟩:=laidAt h 5 rfl
  obtain rfl := Option.some.inj ((show Tryz.prog.globalNamed "dialtone/header.specials" = some 0 by kernel_rfl).symm.trans h1)
  obtain rfl:=Option.some.inj ((show(Tryz.prog.globals[0]?).map (·.type)=some 83 by kernel_rfl).symm.trans h2)
  have e:=arrCells (dz:=fun s=>.lit (.string s)) (f:=eS) ark Tryz.underlying83 (show Tryz.prog.cellsOf 9=1 by kernel_rfl) krf rfl (fun _ _ z _ h=>strCell Tryz.underlying9 z h) h4
  have:=vrOf h1 h3
  rw [e]at this
  exact this
 have v1:Vr W 1 (List.flatMap enamekind axc):=by
  obtain⟨g,t,cs,fuel,p,h1,h2,h3,h4⟩:=laidAt h 6 rfl
  obtain rfl := Option.some.inj ((show Tryz.prog.globalNamed "dialtone/header.kinds" = some 1 by kernel_rfl).symm.trans h1)
  obtain rfl:=Option.some.inj ((show(Tryz.prog.globals[1]?).map (·.type)=some 171 by kernel_rfl).symm.trans h2)
  have e:=arrCells (dz:=fun z=>.agg [.lit (.string z.1),.lit (.int .i64 z.2)]) (f:=enamekind) axc Tryz.underlying171 (show Tryz.prog.cellsOf 170=2 by kernel_rfl) krf rfl (fun _ _ z _ h=>pairCell Tryz.underlying170 Tryz.underlying9 Tryz.underlying123 rfl krf krf krf z h) h4
  have:=vrOf h1 h3
  rw [e]at this
  exact this
 have v3:Vr W 3 (List.flatMap eS ana):=by
  obtain⟨g,t,cs,fuel,p,h1,h2,h3,h4⟩:=laidAt h 4 rfl
  obtain rfl := Option.some.inj ((show Tryz.prog.globalNamed "dialtone/address.classes" = some 3 by kernel_rfl).symm.trans h1)
  obtain rfl:=Option.some.inj ((show(Tryz.prog.globals[3]?).map (·.type)=some 209 by kernel_rfl).symm.trans h2)
  have e:=arrCells (dz:=fun s=>.lit (.string s)) (f:=eS) ana Tryz.underlying209 (show Tryz.prog.cellsOf 9=1 by kernel_rfl) krf rfl (fun _ _ z _ h=>strCell Tryz.underlying9 z h) h4
  have:=vrOf h1 h3
  rw [e]at this
  exact this
 have v4:Vr W 4 (Lib.pow10Tab.map fun z=>Value.int .u64 z):=by
  obtain⟨g,t,cs,fuel,p,h1,h2,h3,h4⟩:=laidAt h 2 rfl
  obtain rfl := Option.some.inj ((show Tryz.prog.globalNamed "internal/strconv.uint64pow10" = some 4 by kernel_rfl).symm.trans h1)
  obtain rfl:=Option.some.inj ((show(Tryz.prog.globals[4]?).map (·.type)=some 216 by kernel_rfl).symm.trans h2)
  have e:=Lib.cells_of_tab (zs:=Lib.pow10Tab) (k:=.u64) Tryz.underlying216 Tryz.underlying195 krf krf h4
  have:=vrOf h1 h3
  rw [e]at this
  exact this
 have v2:∃m,Vr W 2 [.int .i64 m]:=intVar (zero:= #[.int .i64 0]) (t:=3) hsh (of_decide_eq_true krf) krf rfl krf krf Tryz.underlying3
 exact {gs:=hs,specials:=v0,kinds:=v1,classes:=v3,pow10:=v4,maxlen:=v2}
def laidCells(g:Nat)(o:Obj):Obj:=
 match o with
 |.cells c t fz=>.cells (match g with
  |7=> #[.int .u8 0,.int .u8 1,.int .u8 28,.int .u8 2,.int .u8 29,.int .u8 14,.int .u8 24,.int .u8 3,.int .u8 30,.int .u8 22,.int .u8 20,.int .u8 15,.int .u8 25,.int .u8 17,.int .u8 4,.int .u8 8,.int .u8 31,.int .u8 27,.int .u8 13,.int .u8 23,.int .u8 21,.int .u8 19,.int .u8 16,.int .u8 7,.int .u8 26,.int .u8 12,.int .u8 18,.int .u8 6,.int .u8 11,.int .u8 5,.int .u8 10,.int .u8 9]
  |8=> #[.int .u8 0,.int .u8 1,.int .u8 56,.int .u8 2,.int .u8 57,.int .u8 49,.int .u8 28,.int .u8 3,.int .u8 61,.int .u8 58,.int .u8 42,.int .u8 50,.int .u8 38,.int .u8 29,.int .u8 17,.int .u8 4,.int .u8 62,.int .u8 47,.int .u8 59,.int .u8 36,.int .u8 45,.int .u8 43,.int .u8 51,.int .u8 22,.int .u8 53,.int .u8 39,.int .u8 33,.int .u8 30,.int .u8 24,.int .u8 18,.int .u8 12,.int .u8 5,.int .u8 63,.int .u8 55,.int .u8 48,.int .u8 27,.int .u8 60,.int .u8 41,.int .u8 37,.int .u8 16,.int .u8 46,.int .u8 35,.int .u8 44,.int .u8 21,.int .u8 52,.int .u8 32,.int .u8 23,.int .u8 11,.int .u8 54,.int .u8 26,.int .u8 40,.int .u8 15,.int .u8 34,.int .u8 20,.int .u8 31,.int .u8 10,.int .u8 25,.int .u8 14,.int .u8 19,.int .u8 9,.int .u8 13,.int .u8 8,.int .u8 7,.int .u8 6]
  |4=> #[.int .u64 1,.int .u64 10,.int .u64 100,.int .u64 1000,.int .u64 10000,.int .u64 100000,.int .u64 1000000,.int .u64 10000000,.int .u64 100000000,.int .u64 1000000000,.int .u64 10000000000,.int .u64 100000000000,.int .u64 1000000000000,.int .u64 10000000000000,.int .u64 100000000000000,.int .u64 1000000000000000,.int .u64 10000000000000000,.int .u64 100000000000000000,.int .u64 1000000000000000000,.int .u64 10000000000000000000]
  |6=> #[.int .u8 128,.int .u8 191,.int .u8 160,.int .u8 191,.int .u8 128,.int .u8 159,.int .u8 144,.int .u8 191,.int .u8 128,.int .u8 143,.int .u8 0,.int .u8 0,.int .u8 0,.int .u8 0,.int .u8 0,.int .u8 0,.int .u8 0,.int .u8 0,.int .u8 0,.int .u8 0,.int .u8 0,.int .u8 0,.int .u8 0,.int .u8 0,.int .u8 0,.int .u8 0,.int .u8 0,.int .u8 0,.int .u8 0,.int .u8 0,.int .u8 0,.int .u8 0]
  |3=> #[str [38,61,43,36,44,59,63,47],str [91,93,47,58,38,43,36],str [91,93,47,63,58,43,36]]
  |0=> #[str [67,97,108,108,45,73,68],str [67,83,101,113],str [77,73,77,69,45,86,101,114,115,105,111,110],str [77,105,110,45,83,69],str [82,65,99,107],str [82,83,101,113],str [87,87,87,45,65,117,116,104,101,110,116,105,99,97,116,101]]
  |1=> #[str [70,114,111,109],.int .i64 1,str [84,111],.int .i64 1,str [67,111,110,116,97,99,116],.int .i64 1,str [82,111,117,116,101],.int .i64 1,str [82,101,99,111,114,100,45,82,111,117,116,101],.int .i64 1,str [80,97,116,104],.int .i64 1,str [83,101,114,118,105,99,101,45,82,111,117,116,101],.int .i64 1,str [82,101,102,101,114,45,84,111],.int .i64 1,str [82,101,102,101,114,114,101,100,45,66,121],.int .i64 1,str [82,101,112,108,121,45,84,111],.int .i64 1,str [86,105,97],.int .i64 2,str [67,83,101,113],.int .i64 3,str [82,65,99,107],.int .i64 4,str [67,111,110,116,101,110,116,45,76,101,110,103,116,104],.int .i64 5,str [69,120,112,105,114,101,115],.int .i64 5,str [77,97,120,45,70,111,114,119,97,114,100,115],.int .i64 5,str [77,105,110,45,69,120,112,105,114,101,115],.int .i64 5,str [82,83,101,113],.int .i64 5,str [67,111,110,116,101,110,116,45,68,105,115,112,111,115,105,116,105,111,110],.int .i64 6,str [67,111,110,116,101,110,116,45,84,121,112,101],.int .i64 6,str [69,118,101,110,116],.int .i64 6,str [77,105,110,45,83,69],.int .i64 6,str [83,101,115,115,105,111,110,45,69,120,112,105,114,101,115],.int .i64 6,str [83,117,98,115,99,114,105,112,116,105,111,110,45,83,116,97,116,101],.int .i64 6,str [65,99,99,101,112,116],.int .i64 7,str [65,108,108,111,119],.int .i64 7,str [65,108,108,111,119,45,69,118,101,110,116,115],.int .i64 7,str [80,114,111,120,121,45,82,101,113,117,105,114,101],.int .i64 7,str [82,101,113,117,105,114,101],.int .i64 7,str [83,117,112,112,111,114,116,101,100],.int .i64 7,str [85,110,115,117,112,112,111,114,116,101,100],.int .i64 7]
  |5=>(Go.Pinned.utf8FirstZ.map fun(z:Nat)=>Value.int .u8 (z:Int)).toArray
  |_=>c) t fz
 |o=>o
noncomputable def laidWorld(os:Os):World:={World.holding Tryz.prog os ⟨#[], #[],[]⟩with heap:=(World.holding Tryz.prog os ⟨#[], #[],[]⟩).heap.mapIdx laidCells}
theorem own:ownKnob Tryz.prog.godebug=none:=by kernel_rfl
open Go.Shelf
open Go.Lib renaming cut → zbe, hasPrefix → zaO, index → zaB, indexAny → zaX, join → zar, trimPrefix → zaq
def Tryz.lays169_ren:Go.Shelf.Ren:=⟨fun|169=>105|n=>n,fun|70=>109|9=>9|0=>0|72=>111|37=>85|127=>167|3=>3|5=>5|n=>n,fun|n=>n⟩
theorem Tryz.lays169:Go.Proofs.Lays.n169 Tryz.prog Tryz.lays169_ren:={
 mixed:=by kernel_rfl
 f169:=Tryz.func105.trans ksf
 t0:=Tryz.underlying0
 a0:=Tryz.isAgg0
 z0:=Tryz.sizeOf0
 v0:=Tryz.zeroValue0
 t3:=Tryz.underlying3
 a3:=Tryz.isAgg3
 z3:=Tryz.sizeOf3
 v3:=Tryz.zeroValue3
 t9:=Tryz.underlying9
 a9:=Tryz.isAgg9
 z9:=Tryz.sizeOf9
 v9:=Tryz.zeroValue9
 t37:=Tryz.underlying85
 a37:=Tryz.isAgg85
 z37:=Tryz.sizeOf85
 v37:=Tryz.zeroValue85
 t70:=Tryz.underlying109
 a70:=Tryz.isAgg109
 z70:=Tryz.sizeOf109
 v70:=Tryz.zeroValue109
 t72:=Tryz.underlying111
 a72:=Tryz.isAgg111
 z72:=Tryz.sizeOf111
 v72:=Tryz.zeroValue111
 t127:=Tryz.underlying167
 a127:=Tryz.isAgg167
 z127:=Tryz.sizeOf167
 v127:=Tryz.zeroValue167}
theorem Tryz.Builder_Extra_169:Builder.Extra Tryz.prog Tryz.lays169_ren:={
 sizeBuilder:=by kernel_rfl
 liesBuilder:=by kernel_rfl
 t5:=Tryz.underlying5
 a5:=Tryz.isAgg5
 z5:=Tryz.sizeOf5
 v5:=Tryz.zeroValue5
 infoByte:=by kernel_rfl
 cellsByte:=by kernel_rfl
 sizeByte:=by kernel_rfl
 neB5:=by decide}
def Tryz.lays156_ren:Go.Shelf.Ren:=⟨fun|156=>59|165=>119|166=>104|169=>105|240=>165|241=>172|276=>199|277=>206|n=>n,fun|31=>70|9=>9|3=>3|4=>4|0=>0|20=>20|72=>111|76=>115|70=>109|37=>85|75=>114|127=>167|164=>191|5=>5|80=>117|n=>n,fun|n=>n⟩
theorem Tryz.lays156:Go.Proofs.Lays.n156 Tryz.prog Tryz.lays156_ren:={
 mixed:=by kernel_rfl
 f156:=Tryz.func59.trans ksf
 f165:=Tryz.func119.trans ksf
 f166:=Tryz.func104.trans ksf
 f169:=Tryz.func105.trans ksf
 f240:=Tryz.func165.trans ksf
 f241:=Tryz.func172.trans ksf
 f276:=Tryz.func199.trans ksf
 f277:=Tryz.func206.trans ksf
 t0:=Tryz.underlying0
 a0:=Tryz.isAgg0
 z0:=Tryz.sizeOf0
 v0:=Tryz.zeroValue0
 t3:=Tryz.underlying3
 a3:=Tryz.isAgg3
 z3:=Tryz.sizeOf3
 v3:=Tryz.zeroValue3
 t4:=Tryz.underlying4
 a4:=Tryz.isAgg4
 z4:=Tryz.sizeOf4
 v4:=Tryz.zeroValue4
 t9:=Tryz.underlying9
 a9:=Tryz.isAgg9
 z9:=Tryz.sizeOf9
 v9:=Tryz.zeroValue9
 t20:=Tryz.underlying20
 a20:=Tryz.isAgg20
 z20:=Tryz.sizeOf20
 v20:=Tryz.zeroValue20
 t31:=Tryz.underlying70
 a31:=Tryz.isAgg70
 z31:=Tryz.sizeOf70
 v31:=Tryz.zeroValue70
 t37:=Tryz.underlying85
 a37:=Tryz.isAgg85
 z37:=Tryz.sizeOf85
 v37:=Tryz.zeroValue85
 t70:=Tryz.underlying109
 a70:=Tryz.isAgg109
 z70:=Tryz.sizeOf109
 v70:=Tryz.zeroValue109
 t72:=Tryz.underlying111
 a72:=Tryz.isAgg111
 z72:=Tryz.sizeOf111
 v72:=Tryz.zeroValue111
 t75:=Tryz.underlying114
 a75:=Tryz.isAgg114
 z75:=Tryz.sizeOf114
 v75:=Tryz.zeroValue114
 t76:=Tryz.underlying115
 a76:=Tryz.isAgg115
 z76:=Tryz.sizeOf115
 v76:=Tryz.zeroValue115
 t127:=Tryz.underlying167
 a127:=Tryz.isAgg167
 z127:=Tryz.sizeOf167
 v127:=Tryz.zeroValue167
 t164:=Tryz.underlying191
 a164:=Tryz.isAgg191
 z164:=Tryz.sizeOf191
 v164:=Tryz.zeroValue191}
theorem Tryz.Builder_Extra_156:Builder.Extra Tryz.prog Tryz.lays156_ren:={
 sizeBuilder:=by kernel_rfl
 liesBuilder:=by kernel_rfl
 t5:=Tryz.underlying5
 a5:=Tryz.isAgg5
 z5:=Tryz.sizeOf5
 v5:=Tryz.zeroValue5
 infoByte:=by kernel_rfl
 cellsByte:=by kernel_rfl
 sizeByte:=by kernel_rfl
 neB5:=by decide}
open Go.RowKit in
theorem Tryz.strings_Join_none (a : Option Addr) (c : Nat) (sep : ByteArray) (w : World) :
    Calls Tryz.prog 59 #[.slice a 0 c, .string sep] w fun e w' => e = .returned (.string ⟨#[]⟩) ∧ w' = w := Any.strings_Join_none Tryz.lays156 Tryz.Builder_Extra_156 a c sep w
open Go.RowKit in
theorem Tryz.strings_Join (bk o c : Nat) (xs : List ByteArray) (sep : ByteArray) (w : World) (hcells : ∀ (j : Nat) x, xs[j]? = some x → w.cell? ⟨bk, o + j, none⟩ = some (.string x)) (hbk : bk < w.heap.size) (hN : xs.length ≤ 140737488355328) (hcap : xs.length ≤ c) (hlen : (zar (xs.map (·.data.toList)) sep.data.toList).length ≤ 140737488355328) :
    Calls Tryz.prog 59 #[.slice (some ⟨bk, o, none⟩) xs.length c, .string sep] w fun e w' => e = .returned (.string ⟨(zar (xs.map (·.data.toList)) sep.data.toList).toArray⟩) ∧ Below w.heap.size w w' := Any.strings_Join Tryz.lays156 Tryz.Builder_Extra_156 bk o c xs sep w hcells hbk hN hcap hlen
def Tryz.lays161_ren:Go.Shelf.Ren:=⟨fun|161=>191|231=>138|227=>81|233=>140|235=>142|228=>82|197=>184|151=>185|260=>221|152=>79|137=>144|119=>145|224=>146|225=>147|217=>187|266=>223|n=>n,fun|9=>9|4=>4|3=>3|5=>5|117=>93|116=>92|0=>0|124=>151|105=>180|21=>21|119=>225|46=>154|139=>228|138=>227|n=>n,fun|3=>5|4=>6|n=>n⟩
theorem Tryz.lays161:Go.Proofs.Lays.n161 Tryz.prog Tryz.lays161_ren:={
 mixed:=by kernel_rfl
 f119:=Tryz.func145.trans ksf
 f137:=Tryz.func144.trans ksf
 f151:=Tryz.func185.trans ksf
 f152:=Tryz.func79.trans ksf
 f161:=Tryz.func191.trans ksf
 f197:=Tryz.func184.trans ksf
 f217:=Tryz.func187.trans ksf
 f224:=Tryz.func146.trans ksf
 f225:=Tryz.func147.trans ksf
 f227:=Tryz.func81.trans ksf
 f228:=Tryz.func82.trans ksf
 f231:=Tryz.func138.trans ksf
 f233:=Tryz.func140.trans ksf
 f235:=Tryz.func142.trans ksf
 f260:=Tryz.func221.trans ksf
 f266:=Tryz.func223.trans ksf
 t0:=Tryz.underlying0
 a0:=Tryz.isAgg0
 z0:=Tryz.sizeOf0
 v0:=Tryz.zeroValue0
 t3:=Tryz.underlying3
 a3:=Tryz.isAgg3
 z3:=Tryz.sizeOf3
 v3:=Tryz.zeroValue3
 t4:=Tryz.underlying4
 a4:=Tryz.isAgg4
 z4:=Tryz.sizeOf4
 v4:=Tryz.zeroValue4
 t5:=Tryz.underlying5
 a5:=Tryz.isAgg5
 z5:=Tryz.sizeOf5
 v5:=Tryz.zeroValue5
 t9:=Tryz.underlying9
 a9:=Tryz.isAgg9
 z9:=Tryz.sizeOf9
 v9:=Tryz.zeroValue9
 t21:=Tryz.underlying21
 a21:=Tryz.isAgg21
 z21:=Tryz.sizeOf21
 v21:=Tryz.zeroValue21
 t46:=Tryz.underlying154
 a46:=Tryz.isAgg154
 z46:=Tryz.sizeOf154
 v46:=Tryz.zeroValue154
 t105:=Tryz.underlying180
 a105:=Tryz.isAgg180
 z105:=Tryz.sizeOf180
 v105:=Tryz.zeroValue180
 t116:=Tryz.underlying92
 a116:=Tryz.isAgg92
 z116:=Tryz.sizeOf92
 t117:=Tryz.underlying93
 a117:=Tryz.isAgg93
 z117:=Tryz.sizeOf93
 v117:=Tryz.zeroValue93
 t119:=Tryz.underlying225
 a119:=Tryz.isAgg225
 z119:=Tryz.sizeOf225
 t124:=Tryz.underlying151
 a124:=Tryz.isAgg151
 z124:=Tryz.sizeOf151
 v124:=Tryz.zeroValue151
 t138:=Tryz.underlying227
 a138:=Tryz.isAgg227
 z138:=Tryz.sizeOf227
 v138:=Tryz.zeroValue227
 t139:=Tryz.underlying228
 a139:=Tryz.isAgg228
 z139:=Tryz.sizeOf228
 v139:=Tryz.zeroValue228
 g3:=by kernel_rfl
 g4:=by kernel_rfl}
def Tryz.lays162_ren:Go.Shelf.Ren:=⟨fun|162=>205|232=>139|227=>81|234=>141|236=>143|228=>82|271=>186|151=>185|120=>222|197=>184|152=>79|260=>221|137=>144|119=>145|224=>146|225=>147|217=>187|266=>223|n=>n,fun|9=>9|4=>4|3=>3|5=>5|117=>93|116=>92|0=>0|124=>151|21=>21|105=>180|46=>154|119=>225|139=>228|138=>227|n=>n,fun|3=>5|4=>6|n=>n⟩
theorem Tryz.lays162:Go.Proofs.Lays.n162 Tryz.prog Tryz.lays162_ren:={
 mixed:=by kernel_rfl
 f119:=Tryz.func145.trans ksf
 f120:=Tryz.func222.trans ksf
 f137:=Tryz.func144.trans ksf
 f151:=Tryz.func185.trans ksf
 f152:=Tryz.func79.trans ksf
 f162:=Tryz.func205.trans ksf
 f197:=Tryz.func184.trans ksf
 f217:=Tryz.func187.trans ksf
 f224:=Tryz.func146.trans ksf
 f225:=Tryz.func147.trans ksf
 f227:=Tryz.func81.trans ksf
 f228:=Tryz.func82.trans ksf
 f232:=Tryz.func139.trans ksf
 f234:=Tryz.func141.trans ksf
 f236:=Tryz.func143.trans ksf
 f260:=Tryz.func221.trans ksf
 f266:=Tryz.func223.trans ksf
 f271:=Tryz.func186.trans ksf
 t0:=Tryz.underlying0
 a0:=Tryz.isAgg0
 z0:=Tryz.sizeOf0
 v0:=Tryz.zeroValue0
 t3:=Tryz.underlying3
 a3:=Tryz.isAgg3
 z3:=Tryz.sizeOf3
 v3:=Tryz.zeroValue3
 t4:=Tryz.underlying4
 a4:=Tryz.isAgg4
 z4:=Tryz.sizeOf4
 v4:=Tryz.zeroValue4
 t5:=Tryz.underlying5
 a5:=Tryz.isAgg5
 z5:=Tryz.sizeOf5
 v5:=Tryz.zeroValue5
 t9:=Tryz.underlying9
 a9:=Tryz.isAgg9
 z9:=Tryz.sizeOf9
 v9:=Tryz.zeroValue9
 t21:=Tryz.underlying21
 a21:=Tryz.isAgg21
 z21:=Tryz.sizeOf21
 v21:=Tryz.zeroValue21
 t46:=Tryz.underlying154
 a46:=Tryz.isAgg154
 z46:=Tryz.sizeOf154
 v46:=Tryz.zeroValue154
 t105:=Tryz.underlying180
 a105:=Tryz.isAgg180
 z105:=Tryz.sizeOf180
 v105:=Tryz.zeroValue180
 t116:=Tryz.underlying92
 a116:=Tryz.isAgg92
 z116:=Tryz.sizeOf92
 t117:=Tryz.underlying93
 a117:=Tryz.isAgg93
 z117:=Tryz.sizeOf93
 v117:=Tryz.zeroValue93
 t119:=Tryz.underlying225
 a119:=Tryz.isAgg225
 z119:=Tryz.sizeOf225
 t124:=Tryz.underlying151
 a124:=Tryz.isAgg151
 z124:=Tryz.sizeOf151
 v124:=Tryz.zeroValue151
 t138:=Tryz.underlying227
 a138:=Tryz.isAgg227
 z138:=Tryz.sizeOf227
 v138:=Tryz.zeroValue227
 t139:=Tryz.underlying228
 a139:=Tryz.isAgg228
 z139:=Tryz.sizeOf228
 v139:=Tryz.zeroValue228
 g3:=by kernel_rfl
 g4:=by kernel_rfl}
def Tryz.lays160_ren:Go.Shelf.Ren:=⟨fun|160=>75|232=>139|231=>138|227=>81|234=>141|233=>140|236=>143|235=>142|228=>82|271=>186|151=>185|197=>184|120=>222|152=>79|260=>221|137=>144|119=>145|224=>146|225=>147|217=>187|266=>223|n=>n,fun|9=>9|4=>4|3=>3|5=>5|117=>93|116=>92|0=>0|124=>151|21=>21|105=>180|46=>154|119=>225|139=>228|138=>227|n=>n,fun|3=>5|4=>6|n=>n⟩
theorem Tryz.lays160:Go.Proofs.Lays.n160 Tryz.prog Tryz.lays160_ren:={
 mixed:=by kernel_rfl
 f119:=Tryz.func145.trans ksf
 f120:=Tryz.func222.trans ksf
 f137:=Tryz.func144.trans ksf
 f151:=Tryz.func185.trans ksf
 f152:=Tryz.func79.trans ksf
 f160:=Tryz.func75.trans ksf
 f197:=Tryz.func184.trans ksf
 f217:=Tryz.func187.trans ksf
 f224:=Tryz.func146.trans ksf
 f225:=Tryz.func147.trans ksf
 f227:=Tryz.func81.trans ksf
 f228:=Tryz.func82.trans ksf
 f231:=Tryz.func138.trans ksf
 f232:=Tryz.func139.trans ksf
 f233:=Tryz.func140.trans ksf
 f234:=Tryz.func141.trans ksf
 f235:=Tryz.func142.trans ksf
 f236:=Tryz.func143.trans ksf
 f260:=Tryz.func221.trans ksf
 f266:=Tryz.func223.trans ksf
 f271:=Tryz.func186.trans ksf
 t0:=Tryz.underlying0
 a0:=Tryz.isAgg0
 z0:=Tryz.sizeOf0
 v0:=Tryz.zeroValue0
 t3:=Tryz.underlying3
 a3:=Tryz.isAgg3
 z3:=Tryz.sizeOf3
 v3:=Tryz.zeroValue3
 t4:=Tryz.underlying4
 a4:=Tryz.isAgg4
 z4:=Tryz.sizeOf4
 v4:=Tryz.zeroValue4
 t5:=Tryz.underlying5
 a5:=Tryz.isAgg5
 z5:=Tryz.sizeOf5
 v5:=Tryz.zeroValue5
 t9:=Tryz.underlying9
 a9:=Tryz.isAgg9
 z9:=Tryz.sizeOf9
 v9:=Tryz.zeroValue9
 t21:=Tryz.underlying21
 a21:=Tryz.isAgg21
 z21:=Tryz.sizeOf21
 v21:=Tryz.zeroValue21
 t46:=Tryz.underlying154
 a46:=Tryz.isAgg154
 z46:=Tryz.sizeOf154
 v46:=Tryz.zeroValue154
 t105:=Tryz.underlying180
 a105:=Tryz.isAgg180
 z105:=Tryz.sizeOf180
 v105:=Tryz.zeroValue180
 t116:=Tryz.underlying92
 a116:=Tryz.isAgg92
 z116:=Tryz.sizeOf92
 t117:=Tryz.underlying93
 a117:=Tryz.isAgg93
 z117:=Tryz.sizeOf93
 v117:=Tryz.zeroValue93
 t119:=Tryz.underlying225
 a119:=Tryz.isAgg225
 z119:=Tryz.sizeOf225
 t124:=Tryz.underlying151
 a124:=Tryz.isAgg151
 z124:=Tryz.sizeOf151
 v124:=Tryz.zeroValue151
 t138:=Tryz.underlying227
 a138:=Tryz.isAgg227
 z138:=Tryz.sizeOf227
 v138:=Tryz.zeroValue227
 t139:=Tryz.underlying228
 a139:=Tryz.isAgg228
 z139:=Tryz.sizeOf228
 v139:=Tryz.zeroValue228
 g3:=by kernel_rfl
 g4:=by kernel_rfl}
def Tryz.lays137_ren:Go.Shelf.Ren:=⟨fun|137=>144|217=>187|266=>223|n=>n,fun|9=>9|5=>5|3=>3|n=>n,fun|n=>n⟩
theorem Tryz.lays137:Go.Proofs.Lays.n137 Tryz.prog Tryz.lays137_ren:={
 mixed:=by kernel_rfl
 f137:=Tryz.func144.trans ksf
 f217:=Tryz.func187.trans ksf
 f266:=Tryz.func223.trans ksf
 t3:=Tryz.underlying3
 a3:=Tryz.isAgg3
 z3:=Tryz.sizeOf3
 v3:=Tryz.zeroValue3
 t5:=Tryz.underlying5
 a5:=Tryz.isAgg5
 z5:=Tryz.sizeOf5
 v5:=Tryz.zeroValue5
 t9:=Tryz.underlying9
 a9:=Tryz.isAgg9
 z9:=Tryz.sizeOf9
 v9:=Tryz.zeroValue9}
open Go.RowKit in
theorem Tryz.strings_IndexByte (s : ByteArray) (c : Int) (w : World) :
    Calls Tryz.prog 144 #[.string s, .int .u8 c] w fun e w' => e = .returned (.int .i64 (Lib.indexByte s.data.toList c.toNat.toUInt8)) ∧ w' = w := Any.strings_IndexByte Tryz.lays137 s c w
def Tryz.lays103_ren:Go.Shelf.Ren:=⟨fun|103=>217|210=>241|206=>252|n=>n,fun|9=>9|4=>4|24=>42|3=>3|n=>n,fun|n=>n⟩
theorem Tryz.lays103:Go.Proofs.Lays.n103 Tryz.prog Tryz.lays103_ren:={
 mixed:=by kernel_rfl
 f103:=Tryz.func217.trans ksf
 f206:=Tryz.func252.trans ksf
 f210:=Tryz.func241.trans ksf
 t3:=Tryz.underlying3
 a3:=Tryz.isAgg3
 z3:=Tryz.sizeOf3
 v3:=Tryz.zeroValue3
 t4:=Tryz.underlying4
 a4:=Tryz.isAgg4
 z4:=Tryz.sizeOf4
 v4:=Tryz.zeroValue4
 t9:=Tryz.underlying9
 a9:=Tryz.isAgg9
 z9:=Tryz.sizeOf9
 v9:=Tryz.zeroValue9
 t24:=Tryz.underlying42
 a24:=Tryz.isAgg42
 z24:=Tryz.sizeOf42
 v24:=Tryz.zeroValue42}
open Go.RowKit in
theorem Tryz.strings_CutPrefix (s p : ByteArray) (w : World) :
    Calls Tryz.prog 217 #[.string s, .string p] w fun e w' => e = .returned (.tuple #[.string ⟨(zaq s.data.toList p.data.toList).toArray⟩, .bool (zaO s.data.toList p.data.toList)]) ∧ w' = w := Any.strings_CutPrefix Tryz.lays103 s p w
def Tryz.laysM171_ren:Go.Shelf.Ren:=⟨fun|171=>50|243=>110|246=>169|283=>201|284=>202|285=>203|286=>204|129=>230|317=>229|318=>231|319=>232|320=>233|337=>246|338=>247|n=>n,fun|3=>3|9=>9|2=>2|4=>4|171=>194|0=>0|53=>195|37=>85|5=>5|173=>198|212=>216|51=>217|20=>20|213=>218|46=>154|232=>234|233=>235|n=>n,fun|17=>4|18=>7|19=>8|n=>n⟩
theorem Tryz.laysM171:Go.Proofs.LaysM.n171 Tryz.prog Tryz.laysM171_ren:={
 mixed:=by kernel_rfl
 f129:=Tryz.func230.trans ksf
 f171:=Tryz.func50.trans ksf
 f243:=Tryz.func110.trans ksf
 f246:=Tryz.func169.trans ksf
 f283:=Tryz.func201.trans ksf
 f284:=Tryz.func202.trans ksf
 f285:=Tryz.func203.trans ksf
 f286:=Tryz.func204.trans ksf
 f317:=Tryz.func229.trans ksf
 f318:=Tryz.func231.trans ksf
 f319:=Tryz.func232.trans ksf
 f320:=Tryz.func233.trans ksf
 f337:=Tryz.func246.trans ksf
 f338:=Tryz.func247.trans ksf
 t0:=Tryz.underlying0
 a0:=Tryz.isAgg0
 z0:=Tryz.sizeOf0
 v0:=Tryz.zeroValue0
 t2:=Tryz.underlying2
 a2:=Tryz.isAgg2
 z2:=Tryz.sizeOf2
 v2:=Tryz.zeroValue2
 t3:=Tryz.underlying3
 a3:=Tryz.isAgg3
 z3:=Tryz.sizeOf3
 v3:=Tryz.zeroValue3
 t4:=Tryz.underlying4
 a4:=Tryz.isAgg4
 z4:=Tryz.sizeOf4
 v4:=Tryz.zeroValue4
 t5:=Tryz.underlying5
 a5:=Tryz.isAgg5
 z5:=Tryz.sizeOf5
 v5:=Tryz.zeroValue5
 t9:=Tryz.underlying9
 a9:=Tryz.isAgg9
 z9:=Tryz.sizeOf9
 v9:=Tryz.zeroValue9
 t20:=Tryz.underlying20
 a20:=Tryz.isAgg20
 z20:=Tryz.sizeOf20
 v20:=Tryz.zeroValue20
 t37:=Tryz.underlying85
 a37:=Tryz.isAgg85
 z37:=Tryz.sizeOf85
 v37:=Tryz.zeroValue85
 t46:=Tryz.underlying154
 a46:=Tryz.isAgg154
 z46:=Tryz.sizeOf154
 v46:=Tryz.zeroValue154
 t51:=Tryz.underlying217
 a51:=Tryz.isAgg217
 z51:=Tryz.sizeOf217
 v51:=Tryz.zeroValue217
 t53:=Tryz.underlying195
 a53:=Tryz.isAgg195
 z53:=Tryz.sizeOf195
 v53:=Tryz.zeroValue195
 t171:=Tryz.underlying194
 a171:=Tryz.isAgg194
 z171:=Tryz.sizeOf194
 v171:=Tryz.zeroValue194
 t173:=Tryz.underlying198
 a173:=Tryz.isAgg198
 z173:=Tryz.sizeOf198
 v173:=Tryz.zeroValue198
 t212:=Tryz.underlying216
 a212:=Tryz.isAgg216
 z212:=Tryz.sizeOf216
 v212:=Tryz.zeroValue216
 t213:=Tryz.underlying218
 a213:=Tryz.isAgg218
 z213:=Tryz.sizeOf218
 t232:=Tryz.underlying234
 a232:=Tryz.isAgg234
 z232:=Tryz.sizeOf234
 v232:=Tryz.zeroValue234
 t233:=Tryz.underlying235
 a233:=Tryz.isAgg235
 z233:=Tryz.sizeOf235
 v233:=Tryz.zeroValue235
 g17:=by kernel_rfl
 g18:=by kernel_rfl
 g19:=by kernel_rfl
 i0:=by kernel_rfl
 i2:=by kernel_rfl
 i3:=by kernel_rfl
 i4:=by kernel_rfl
 i5:=by kernel_rfl
 i9:=by kernel_rfl
 i20:=by kernel_rfl
 i37:=by kernel_rfl
 i46:=by kernel_rfl
 i51:=by kernel_rfl
 i53:=by kernel_rfl
 i171:=by kernel_rfl
 i173:=by kernel_rfl
 i212:=by kernel_rfl
 i232:=by kernel_rfl
 i233:=by kernel_rfl
 m17:=by kernel_rfl
 m18:=by kernel_rfl
 m19:=by kernel_rfl}
open Go.RowKit Go.Sort Go.Lib in
theorem Tryz.strconv_Itoa (n : Int) (h0 : -9223372036854775808 ≤ n) (h1 : n ≤ 9223372036854775807) (w : World) (htab : Lib.TabIs Tryz.prog w "internal/strconv.uint64pow10" .u64 Lib.pow10Tab) :
    Calls Tryz.prog 50 #[.int .i64 n] w fun e w' => e = .returned (.string ⟨(Lib.itoa n).toArray⟩) ∧ ∃ k os, w' = grow (w.drewN k) os := Any.strconv_Itoa Tryz.laysM171 n h0 h1 w htab
def Tryz.lays143_ren:Go.Shelf.Ren:=⟨fun|143=>149|219=>188|217=>187|225=>147|224=>146|267=>224|266=>223|314=>243|n=>n,fun|9=>9|3=>3|4=>4|5=>5|46=>154|146=>229|51=>217|n=>n,fun|1=>2|n=>n⟩
theorem Tryz.lays143:Go.Proofs.Lays.n143 Tryz.prog Tryz.lays143_ren:={
 mixed:=by kernel_rfl
 f143:=Tryz.func149.trans ksf
 f217:=Tryz.func187.trans ksf
 f219:=Tryz.func188.trans ksf
 f224:=Tryz.func146.trans ksf
 f225:=Tryz.func147.trans ksf
 f266:=Tryz.func223.trans ksf
 f267:=Tryz.func224.trans ksf
 f314:=Tryz.func243.trans ksf
 t3:=Tryz.underlying3
 a3:=Tryz.isAgg3
 z3:=Tryz.sizeOf3
 v3:=Tryz.zeroValue3
 t4:=Tryz.underlying4
 a4:=Tryz.isAgg4
 z4:=Tryz.sizeOf4
 v4:=Tryz.zeroValue4
 t5:=Tryz.underlying5
 a5:=Tryz.isAgg5
 z5:=Tryz.sizeOf5
 v5:=Tryz.zeroValue5
 t9:=Tryz.underlying9
 a9:=Tryz.isAgg9
 z9:=Tryz.sizeOf9
 v9:=Tryz.zeroValue9
 t46:=Tryz.underlying154
 a46:=Tryz.isAgg154
 z46:=Tryz.sizeOf154
 v46:=Tryz.zeroValue154
 t51:=Tryz.underlying217
 a51:=Tryz.isAgg217
 z51:=Tryz.sizeOf217
 v51:=Tryz.zeroValue217
 t146:=Tryz.underlying229
 a146:=Tryz.isAgg229
 z146:=Tryz.sizeOf229
 v146:=Tryz.zeroValue229
 g1:=by kernel_rfl}
open Go.RowKit Go.Lib in
theorem Tryz.strings_Index (s sub : ByteArray) (m : Int) (w : World) (hs : s.size < 4294967281) (hm : w.cell? ⟨2, 0, none⟩ = some (.int .i64 m)) :
    Calls Tryz.prog 149 #[.string s, .string sub] w fun e w' => e = .returned (.int .i64 (zaB s.data.toList sub.data.toList)) ∧ w' = w := Any.strings_Index Tryz.lays143 s sub m w hs hm
def Tryz.lays144_ren:Go.Shelf.Ren:=⟨fun|144=>84|143=>149|219=>188|217=>187|225=>147|224=>146|267=>224|266=>223|314=>243|n=>n,fun|9=>9|4=>4|3=>3|5=>5|46=>154|146=>229|51=>217|n=>n,fun|1=>2|n=>n⟩
theorem Tryz.lays144:Go.Proofs.Lays.n144 Tryz.prog Tryz.lays144_ren:={
 mixed:=by kernel_rfl
 f143:=Tryz.func149.trans ksf
 f144:=Tryz.func84.trans ksf
 f217:=Tryz.func187.trans ksf
 f219:=Tryz.func188.trans ksf
 f224:=Tryz.func146.trans ksf
 f225:=Tryz.func147.trans ksf
 f266:=Tryz.func223.trans ksf
 f267:=Tryz.func224.trans ksf
 f314:=Tryz.func243.trans ksf
 t3:=Tryz.underlying3
 a3:=Tryz.isAgg3
 z3:=Tryz.sizeOf3
 v3:=Tryz.zeroValue3
 t4:=Tryz.underlying4
 a4:=Tryz.isAgg4
 z4:=Tryz.sizeOf4
 v4:=Tryz.zeroValue4
 t5:=Tryz.underlying5
 a5:=Tryz.isAgg5
 z5:=Tryz.sizeOf5
 v5:=Tryz.zeroValue5
 t9:=Tryz.underlying9
 a9:=Tryz.isAgg9
 z9:=Tryz.sizeOf9
 v9:=Tryz.zeroValue9
 t46:=Tryz.underlying154
 a46:=Tryz.isAgg154
 z46:=Tryz.sizeOf154
 v46:=Tryz.zeroValue154
 t51:=Tryz.underlying217
 a51:=Tryz.isAgg217
 z51:=Tryz.sizeOf217
 v51:=Tryz.zeroValue217
 t146:=Tryz.underlying229
 a146:=Tryz.isAgg229
 z146:=Tryz.sizeOf229
 v146:=Tryz.zeroValue229
 g1:=by kernel_rfl}
open Go.RowKit Go.Lib in
theorem Tryz.strings_Contains (s sub : ByteArray) (m : Int) (w : World) (hs : s.size < 4294967281) (hm : w.cell? ⟨2, 0, none⟩ = some (.int .i64 m)) :
    Calls Tryz.prog 84 #[.string s, .string sub] w fun e w' => e = .returned (.bool (Lib.contains s.data.toList sub.data.toList)) ∧ w' = w := Any.strings_Contains Tryz.lays144 s sub m w hs hm
def Tryz.lays145_ren:Go.Shelf.Ren:=⟨fun|145=>150|220=>189|219=>188|217=>187|225=>147|224=>146|267=>224|266=>223|314=>243|n=>n,fun|9=>9|4=>4|59=>54|3=>3|5=>5|46=>154|146=>229|51=>217|n=>n,fun|1=>2|n=>n⟩
theorem Tryz.lays145:Go.Proofs.Lays.n145 Tryz.prog Tryz.lays145_ren:={
 mixed:=by kernel_rfl
 f145:=Tryz.func150.trans ksf
 f217:=Tryz.func187.trans ksf
 f219:=Tryz.func188.trans ksf
 f220:=Tryz.func189.trans ksf
 f224:=Tryz.func146.trans ksf
 f225:=Tryz.func147.trans ksf
 f266:=Tryz.func223.trans ksf
 f267:=Tryz.func224.trans ksf
 f314:=Tryz.func243.trans ksf
 t3:=Tryz.underlying3
 a3:=Tryz.isAgg3
 z3:=Tryz.sizeOf3
 v3:=Tryz.zeroValue3
 t4:=Tryz.underlying4
 a4:=Tryz.isAgg4
 z4:=Tryz.sizeOf4
 v4:=Tryz.zeroValue4
 t5:=Tryz.underlying5
 a5:=Tryz.isAgg5
 z5:=Tryz.sizeOf5
 v5:=Tryz.zeroValue5
 t9:=Tryz.underlying9
 a9:=Tryz.isAgg9
 z9:=Tryz.sizeOf9
 v9:=Tryz.zeroValue9
 t46:=Tryz.underlying154
 a46:=Tryz.isAgg154
 z46:=Tryz.sizeOf154
 v46:=Tryz.zeroValue154
 t51:=Tryz.underlying217
 a51:=Tryz.isAgg217
 z51:=Tryz.sizeOf217
 v51:=Tryz.zeroValue217
 t59:=Tryz.underlying54
 a59:=Tryz.isAgg54
 z59:=Tryz.sizeOf54
 v59:=Tryz.zeroValue54
 t146:=Tryz.underlying229
 a146:=Tryz.isAgg229
 z146:=Tryz.sizeOf229
 v146:=Tryz.zeroValue229
 g1:=by kernel_rfl}
open Go.RowKit Go.Lib in
theorem Tryz.strings_Cut (s sep : ByteArray) (m : Int) (w : World) (hs : s.size < 4294967281) (hm : w.cell? ⟨2, 0, none⟩ = some (.int .i64 m)) :
    Calls Tryz.prog 150 #[.string s, .string sep] w fun e w' => e = .returned (.tuple #[.string ⟨(zbe s.data.toList sep.data.toList).1.toArray⟩, .string ⟨(zbe s.data.toList sep.data.toList).2.1.toArray⟩, .bool (zbe s.data.toList sep.data.toList).2.2]) ∧ ∃ n, w' = w.drewN n := Any.strings_Cut Tryz.lays145 s sep m w hs hm
def Tryz.lays149_ren:Go.Shelf.Ren:=⟨fun|149=>83|222=>148|n=>n,fun|9=>9|5=>5|3=>3|4=>4|n=>n,fun|n=>n⟩
theorem Tryz.lays149:Go.Proofs.Lays.n149 Tryz.prog Tryz.lays149_ren:={
 mixed:=by kernel_rfl
 f149:=Tryz.func83.trans ksf
 f222:=Tryz.func148.trans ksf
 t3:=Tryz.underlying3
 a3:=Tryz.isAgg3
 z3:=Tryz.sizeOf3
 v3:=Tryz.zeroValue3
 t4:=Tryz.underlying4
 a4:=Tryz.isAgg4
 z4:=Tryz.sizeOf4
 v4:=Tryz.zeroValue4
 t5:=Tryz.underlying5
 a5:=Tryz.isAgg5
 z5:=Tryz.sizeOf5
 v5:=Tryz.zeroValue5
 t9:=Tryz.underlying9
 a9:=Tryz.isAgg9
 z9:=Tryz.sizeOf9
 v9:=Tryz.zeroValue9}
open Go.RowKit Go.Lib in
theorem Tryz.strings_LastIndexByte (s : ByteArray) (c : Int) (hs : s.size < 4611686018427387904) (w : World) :
    Calls Tryz.prog 83 #[.string s, .int .u8 c] w fun e w' => e = .returned (.int .i64 (Lib.lastIndexByte s c)) ∧ w' = w := Any.strings_LastIndexByte Tryz.lays149 s c hs w
def Tryz.lays101_ren:Go.Shelf.Ren:=⟨fun|101=>236|208=>250|206=>252|n=>n,fun|9=>9|4=>4|3=>3|n=>n,fun|n=>n⟩
theorem Tryz.lays101:Go.Proofs.Lays.n101 Tryz.prog Tryz.lays101_ren:={
 mixed:=by kernel_rfl
 f101:=Tryz.func236.trans ksf
 f206:=Tryz.func252.trans ksf
 f208:=Tryz.func250.trans ksf
 t3:=Tryz.underlying3
 a3:=Tryz.isAgg3
 z3:=Tryz.sizeOf3
 v3:=Tryz.zeroValue3
 t4:=Tryz.underlying4
 a4:=Tryz.isAgg4
 z4:=Tryz.sizeOf4
 v4:=Tryz.zeroValue4
 t9:=Tryz.underlying9
 a9:=Tryz.isAgg9
 z9:=Tryz.sizeOf9
 v9:=Tryz.zeroValue9}
open Go.RowKit Go.Lib in
theorem Tryz.strings_TrimPrefix (s p : ByteArray) (w : World) :
    Calls Tryz.prog 236 #[.string s, .string p] w fun e w' => e = .returned (.string ⟨(zaq s.data.toList p.data.toList).toArray⟩) ∧ w' = w := Any.strings_TrimPrefix Tryz.lays101 s p w
def Tryz.lays146_ren:Go.Shelf.Ren:=⟨fun|146=>152|221=>192|268=>225|138=>226|143=>149|195=>244|197=>184|218=>245|219=>188|260=>221|217=>187|225=>147|224=>146|267=>224|266=>223|314=>243|n=>n,fun|9=>9|31=>70|3=>3|4=>4|0=>0|105=>180|21=>21|5=>5|46=>154|119=>225|139=>228|138=>227|146=>229|51=>217|n=>n,fun|1=>2|3=>5|4=>6|n=>n⟩
theorem Tryz.lays146:Go.Proofs.Lays.n146 Tryz.prog Tryz.lays146_ren:={
 mixed:=by kernel_rfl
 f138:=Tryz.func226.trans ksf
 f143:=Tryz.func149.trans ksf
 f146:=Tryz.func152.trans ksf
 f195:=Tryz.func244.trans ksf
 f197:=Tryz.func184.trans ksf
 f217:=Tryz.func187.trans ksf
 f218:=Tryz.func245.trans ksf
 f219:=Tryz.func188.trans ksf
 f221:=Tryz.func192.trans ksf
 f224:=Tryz.func146.trans ksf
 f225:=Tryz.func147.trans ksf
 f260:=Tryz.func221.trans ksf
 f266:=Tryz.func223.trans ksf
 f267:=Tryz.func224.trans ksf
 f268:=Tryz.func225.trans ksf
 f314:=Tryz.func243.trans ksf
 t0:=Tryz.underlying0
 a0:=Tryz.isAgg0
 z0:=Tryz.sizeOf0
 v0:=Tryz.zeroValue0
 t3:=Tryz.underlying3
 a3:=Tryz.isAgg3
 z3:=Tryz.sizeOf3
 v3:=Tryz.zeroValue3
 t4:=Tryz.underlying4
 a4:=Tryz.isAgg4
 z4:=Tryz.sizeOf4
 v4:=Tryz.zeroValue4
 t5:=Tryz.underlying5
 a5:=Tryz.isAgg5
 z5:=Tryz.sizeOf5
 v5:=Tryz.zeroValue5
 t9:=Tryz.underlying9
 a9:=Tryz.isAgg9
 z9:=Tryz.sizeOf9
 v9:=Tryz.zeroValue9
 t21:=Tryz.underlying21
 a21:=Tryz.isAgg21
 z21:=Tryz.sizeOf21
 v21:=Tryz.zeroValue21
 t31:=Tryz.underlying70
 a31:=Tryz.isAgg70
 z31:=Tryz.sizeOf70
 v31:=Tryz.zeroValue70
 t46:=Tryz.underlying154
 a46:=Tryz.isAgg154
 z46:=Tryz.sizeOf154
 v46:=Tryz.zeroValue154
 t51:=Tryz.underlying217
 a51:=Tryz.isAgg217
 z51:=Tryz.sizeOf217
 v51:=Tryz.zeroValue217
 t105:=Tryz.underlying180
 a105:=Tryz.isAgg180
 z105:=Tryz.sizeOf180
 v105:=Tryz.zeroValue180
 t119:=Tryz.underlying225
 a119:=Tryz.isAgg225
 z119:=Tryz.sizeOf225
 t138:=Tryz.underlying227
 a138:=Tryz.isAgg227
 z138:=Tryz.sizeOf227
 v138:=Tryz.zeroValue227
 t139:=Tryz.underlying228
 a139:=Tryz.isAgg228
 z139:=Tryz.sizeOf228
 v139:=Tryz.zeroValue228
 t146:=Tryz.underlying229
 a146:=Tryz.isAgg229
 z146:=Tryz.sizeOf229
 v146:=Tryz.zeroValue229
 g1:=by kernel_rfl
 g3:=by kernel_rfl
 g4:=by kernel_rfl}
open Go.RowKit Go.Lib in
theorem Tryz.strings_Split (s sep : ByteArray) (m : Int) (w : World) (hs : s.size < 4294967281) (hm : w.cell? ⟨2, 0, none⟩ = some (.int .i64 m)) (h1 : 1 ≤ sep.size) :
    Calls Tryz.prog 152 #[.string s, .string sep] w fun e w' =>
      e = .returned (.slice (some ⟨w.heap.size, 0, none⟩) (Lib.countB s sep + 1) (Lib.countB s sep + 1)) ∧ w' = w.alloc (.cells ((Lib.splitB sep 0 (Lib.countB s sep) s).map Value.string).toArray 9) := Any.strings_Split Tryz.lays146 krf s sep m w hs hm h1
def Tryz.lays153_ren:Go.Shelf.Ren:=⟨fun|153=>32|152=>79|226=>80|227=>81|228=>82|137=>144|119=>145|224=>146|225=>147|217=>187|266=>223|n=>n,fun|9=>9|3=>3|4=>4|5=>5|21=>21|117=>93|116=>92|0=>0|46=>154|124=>151|n=>n,fun|n=>n⟩
theorem Tryz.lays153:Go.Proofs.Lays.n153 Tryz.prog Tryz.lays153_ren:={
 mixed:=by kernel_rfl
 f119:=Tryz.func145.trans ksf
 f137:=Tryz.func144.trans ksf
 f152:=Tryz.func79.trans ksf
 f153:=Tryz.func32.trans ksf
 f217:=Tryz.func187.trans ksf
 f224:=Tryz.func146.trans ksf
 f225:=Tryz.func147.trans ksf
 f226:=Tryz.func80.trans ksf
 f227:=Tryz.func81.trans ksf
 f228:=Tryz.func82.trans ksf
 f266:=Tryz.func223.trans ksf
 t0:=Tryz.underlying0
 a0:=Tryz.isAgg0
 z0:=Tryz.sizeOf0
 v0:=Tryz.zeroValue0
 t3:=Tryz.underlying3
 a3:=Tryz.isAgg3
 z3:=Tryz.sizeOf3
 v3:=Tryz.zeroValue3
 t4:=Tryz.underlying4
 a4:=Tryz.isAgg4
 z4:=Tryz.sizeOf4
 v4:=Tryz.zeroValue4
 t5:=Tryz.underlying5
 a5:=Tryz.isAgg5
 z5:=Tryz.sizeOf5
 v5:=Tryz.zeroValue5
 t9:=Tryz.underlying9
 a9:=Tryz.isAgg9
 z9:=Tryz.sizeOf9
 v9:=Tryz.zeroValue9
 t21:=Tryz.underlying21
 a21:=Tryz.isAgg21
 z21:=Tryz.sizeOf21
 v21:=Tryz.zeroValue21
 t46:=Tryz.underlying154
 a46:=Tryz.isAgg154
 z46:=Tryz.sizeOf154
 v46:=Tryz.zeroValue154
 t116:=Tryz.underlying92
 a116:=Tryz.isAgg92
 z116:=Tryz.sizeOf92
 t117:=Tryz.underlying93
 a117:=Tryz.isAgg93
 z117:=Tryz.sizeOf93
 v117:=Tryz.zeroValue93
 t124:=Tryz.underlying151
 a124:=Tryz.isAgg151
 z124:=Tryz.sizeOf151
 v124:=Tryz.zeroValue151}
open Go.RowKit Go.Lib in
theorem Tryz.strings_IndexAny_none (s chars : ByteArray) (w : World) (h0 : chars.size = 0) :
    Calls Tryz.prog 32 #[.string s, .string chars] w fun e w' => e = .returned (.int .i64 (zaX s.data.toList chars.data.toList)) ∧ w' = w := Any.strings_IndexAny_none Tryz.lays153 s chars w h0
open Go.RowKit Go.Lib in
theorem Tryz.strings_IndexAny_one (s chars : ByteArray) (w : World) (h1 : chars.size = 1) (hascii : ∀ (j : Nat) b, chars.data.toList[j]? = some b → b.toNat < 128) :
    Calls Tryz.prog 32 #[.string s, .string chars] w fun e w' => e = .returned (.int .i64 (zaX s.data.toList chars.data.toList)) ∧ w' = w := Any.strings_IndexAny_one Tryz.lays153 s chars w h1 hascii
open Go.RowKit Go.Lib in
theorem Tryz.strings_IndexAny_long (hv116 : ∀ w, (zeroValue 92).run Tryz.prog w = .ok (.agg (Array.replicate 256 (.bool false))) w) (s chars : ByteArray) (w : World) (h2 : 2 ≤ chars.size) (h8 : 8 < s.size) (hs : s.size < 4294967281) (hcs : chars.size < 4294967281) (hascii : ∀ (j : Nat) b, chars.data.toList[j]? = some b → b.toNat < 128) :
    Calls Tryz.prog 32 #[.string s, .string chars] w fun e w' => e = .returned (.int .i64 (zaX s.data.toList chars.data.toList)) ∧ w' = ((w.alloc (.cells (Lib.setCells chars.data.toList) 92)).alloc (.cells (Lib.setCells chars.data.toList) 92)) := Any.strings_IndexAny_long Tryz.lays153 hv116 krf s chars w h2 h8 hs hcs hascii
open Go.RowKit Go.Lib in
theorem Tryz.strings_IndexAny_laid (s chars : ByteArray) (w : World) (hs : s.size < 4294967281) (hcs : chars.size < 4294967281) (has : ∀ (j : Nat) b, s.data.toList[j]? = some b → b.toNat < 128) (hac : ∀ (j : Nat) b, chars.data.toList[j]? = some b → b.toNat < 128) :
    Calls Tryz.prog 32 #[.string s, .string chars] w fun e w' => e = .returned (.int .i64 (zaX s.data.toList chars.data.toList)) ∧ Below w.heap.size w w' := Any.strings_IndexAny_laid Tryz.lays153 krf s chars w hs hcs has hac
end Go.Proofs
set_option maxRecDepth 20000
namespace Go.Proofs
open Go.Wk Go.Px
open Go.Value renaming slice → Vs, int → Vi, bool → Vb, pointer → Vp
open Go.Lib renaming cut → zbe, hasPrefix → zaO, index → zaB, indexAny → zaX, join → zar, trimLeftS → zaS, trimPrefix → zaq
open List renaming flatMap_cons → zaJ, length_map → zaF
open Nat renaming le_of_ble_eq_true → zaG, lt_of_lt_of_le → zbn, lt_succ_self → zbc
theorem sh_IndexByte(s:List UInt8)(c:UInt8)(w:World):CR Tryz.prog 144 [str s,bt c] w fun v w'=>v=.int .i64 (ixb (·==c) s)∧Hp w [] [] w':=by
 have h:=Tryz.strings_IndexByte ⟨s.toArray⟩ (c.toNat:Int) w
 rw [show((c.toNat:Int).toNat.toUInt8)=c by simp]at h
 rw [←indexByte_ixb]
 exact azq h
theorem sh_LastIndexByte(s:List UInt8)(c:UInt8)(w:World)(hs:s.length≤1000000000):CR Tryz.prog 83 [str s,bt c] w fun v w'=>v=.int .i64 (lixb (·==c) s)∧Hp w [] [] w':=by
 have h:=Tryz.strings_LastIndexByte ⟨s.toArray⟩ (c.toNat:Int) (by show s.length<_;omega) w
 rw [lastIndexByte_lixb]at h
 exact azq h
theorem sh_Contains(s t:List UInt8)(w:World)(hs:s.length≤1000000000)(hG:Gl w):CR Tryz.prog 84 [str s,str t] w fun v w'=>v=.bool (Lib.contains s t)∧Hp w [] [] w':=by
 obtain⟨m,hm⟩:=hG.cell
 exact azq (Tryz.strings_Contains ⟨s.toArray⟩ ⟨t.toArray⟩ m w (by show s.length<_;omega) hm)
theorem sh_Index(s t:List UInt8)(w:World)(hs:s.length≤1000000000)(hG:Gl w):CR Tryz.prog 149 [str s,str t] w fun v w'=>v=.int .i64 (zaB s t)∧Hp w [] [] w':=by
 obtain⟨m,hm⟩:=hG.cell
 exact azq (Tryz.strings_Index ⟨s.toArray⟩ ⟨t.toArray⟩ m w (by show s.length<_;omega) hm)
theorem sh_Cut(s t:List UInt8)(w:World)(hs:s.length≤1000000000)(hG:Gl w):CR Tryz.prog 150 [str s,str t] w fun v w'=>v=.tuple #[str (zbe s t).1,str (zbe s t).2.1,.bool (zbe s t).2.2]∧Hp w [] [] w':=by
 obtain⟨m,hm⟩:=hG.cell
 exact cr_drew (Tryz.strings_Cut ⟨s.toArray⟩ ⟨t.toArray⟩ m w (by show s.length<_;omega) hm)
theorem sh_CutPrefix(s t:List UInt8)(w:World):CR Tryz.prog 217 [str s,str t] w fun v w'=>v=.tuple #[str (zaq s t),.bool (zaO s t)]∧Hp w [] [] w':=by
 exact azq (Tryz.strings_CutPrefix ⟨s.toArray⟩ ⟨t.toArray⟩ w)
theorem sh_TrimPrefix(s t:List UInt8)(w:World):CR Tryz.prog 236 [str s,str t] w fun v w'=>v=str (zaq s t)∧Hp w [] [] w':=by
 exact azq (Tryz.strings_TrimPrefix ⟨s.toArray⟩ ⟨t.toArray⟩ w)
theorem sh_Trim(s t:List UInt8)(w:World)(hs:s.length≤1000000000)(ht:t.length≤1000∧t.all (fun b=>decide (b.toNat<128))=true):CR Tryz.prog 75 [str s,str t] w fun v w'=>v=str (Lib.trimS s t)∧Hp w [] [] w':=by
 exact cr_below (Any.strings_Trim_laid Tryz.lays160 krf ⟨s.toArray⟩ ⟨t.toArray⟩ w (by show s.length≤_;omega) (by show t.length<_;omega) (ascii_of_all ht.2))
theorem sh_TrimLeft(s t:List UInt8)(w:World)(hs:s.length≤1000000000)(ht:t.length≤1000∧t.all (fun b=>decide (b.toNat<128))=true):CR Tryz.prog 191 [str s,str t] w fun v w'=>v=str (zaS s t)∧Hp w [] [] w':=by
 exact cr_below (Any.strings_TrimLeft_laid Tryz.lays161 krf ⟨s.toArray⟩ ⟨t.toArray⟩ w (by show t.length<_;omega) (ascii_of_all ht.2))
theorem sh_TrimRight(s t:List UInt8)(w:World)(hs:s.length≤1000000000)(ht:t.length≤1000∧t.all (fun b=>decide (b.toNat<128))=true):CR Tryz.prog 205 [str s,str t] w fun v w'=>v=str (Lib.trimRightS s t)∧Hp w [] [] w':=by
 exact cr_below (Any.strings_TrimRight_laid Tryz.lays162 krf ⟨s.toArray⟩ ⟨t.toArray⟩ w (by show s.length≤_;omega) (by show t.length<_;omega) (ascii_of_all ht.2))
theorem sh_Itoa(i:Int)(w:World)(hi:aap i)(hG:Gl w):CR Tryz.prog 50 [.int .i64 i] w fun v w'=>v=str (Lib.itoa i)∧Hp w [] [] w':=by
 obtain⟨t,f,e⟩:=hG.pow10
 have hT : Lib.TabIs Tryz.prog w "internal/strconv.uint64pow10" .u64 Lib.pow10Tab := by
  unfold Lib.TabIs World.var?
  rw [show Tryz.prog.globalNamed "internal/strconv.uint64pow10" = some 4 by kernel_rfl]
  simp [e]
 have h:=Tryz.strconv_Itoa i hi.1 hi.2 w hT
 exact Calls.mono h fun _ _ ⟨e,k,os,hb⟩=>⟨_,e,rfl,hb▸hp_grow k os⟩
theorem sh_Split(s:List UInt8)(c:UInt8)(w:World)(hs:s.length≤1000000000)(hG:Gl w):CR Tryz.prog 152 [str s,str [c]] w fun v w'=>∃o a cap,v=.slice a (spl c s).length cap∧Hp w [] [rwt eS 9 1 o a cap (spl c s)] w':=by
 obtain⟨m,hm⟩:=hG.cell
 have h:=Tryz.strings_Split ⟨s.toArray⟩ ⟨#[c]⟩ m w (by show s.length<_;omega) hm (by show 1≤1;omega)
 rw [split_spl,split_spl_len]at h
 refine Calls.mono h ?_
 rintro _ _ ⟨rfl,rfl⟩
 have h1:=(Hp.refl w).alloc ((spl c s).map str) 9
 have:=(ayy c s).1
 have e:(spl c s).flatMap eS=(spl c s).map str:=by
  generalize spl c s=l
  induction l with
  |nil=>rfl
  |cons x l ih=>rw [zaJ,ih];rfl
 exact⟨_,rfl,some w.heap.size,_,_,rfl,h1.blkrw 0 1 (spl c s).length (spl c s) rfl enc_S e rfl (by simp [maxLen];omega)⟩
theorem flatS(l:List (List UInt8)):l.flatMap eS=l.map str:=by
 induction l with
 |nil=>rfl
 |cons x l ih=>rw [zaJ,ih];rfl
theorem sh_Join(t:List UInt8)(w:World)(a:Option Addr)(n cap:Nat)(xs:List (List UInt8))(hn:n=xs.length)(hRe:Rd w a (xs.flatMap eS))(hCa:n≤cap)(hN:xs.length≤1000000000∧(zar xs t).length≤100000000000):CR Tryz.prog 59 [.slice a n cap,str t] w fun v w'=>v=str (zar xs t)∧Hp w [] [] w':=by
 subst hn
 rw [flatS]at hRe
 cases xs with
 |nil=>exact azq (Tryz.strings_Join_none a cap ⟨t.toArray⟩ w)
 |cons x r=>
  obtain⟨p,rfl,hp⟩:=hRe 0 (str x) (by simp)
  have hbk:=cell_lt hp
  rw [add_block]at hbk
  have hsp:p.spot=none:=by
   have:=rd_spot hp
   simpa [Addr.add] using this
  obtain⟨bk,o,sp⟩:=p
  simp only at hsp hbk
  subst hsp
  have e:((x::r).map fun l=>(⟨l.toArray⟩:ByteArray)).map (·.data.toList)=x::r:=by rw [List.map_map];exact List.map_id _
  have h:=Tryz.strings_Join bk o cap ((x::r).map fun l=>(⟨l.toArray⟩:ByteArray)) ⟨t.toArray⟩ w (fun j y hy=>by
   have:=row_strs ⟨bk,o,none⟩ (x::r) hRe j y hy
   cases j<;>simpa [Addr.add] using this) hbk (by rw [zaF];omega) (by rw [zaF];exact hCa) (by rw [e];show(zar (x::r) t).length≤_;omega)
  rw [e,zaF]at h
  exact cr_below h
theorem sh_IndexAny(s t:List UInt8)(w:World)(h:s.length≤1000000000∧t.length≤1000∧t.all (fun b=>decide (b.toNat<128))=true∧(8<s.length∨t.length≤1∨s.all (fun b=>decide (b.toNat<128))=true)):CR Tryz.prog 32 [str s,str t] w fun v w'=>v=.int .i64 (zaX s t)∧Hp w [] [] w':=by
 obtain⟨h1,h2,h3,h4⟩:=h
 by_cases h0:t.length=0
 ·exact azq (Tryz.strings_IndexAny_none ⟨s.toArray⟩ ⟨t.toArray⟩ w h0)
 by_cases h1':t.length=1
 ·exact azq (Tryz.strings_IndexAny_one ⟨s.toArray⟩ ⟨t.toArray⟩ w h1' (ascii_of_all h3))
 rcases h4 with h4|h4|h4
 ·have hz:∀w,(zeroValue 92).run Tryz.prog w=.ok (.agg (Array.replicate 256 (.bool false))) w:=(zero_of_info (n:=256) krf).1
  have h:=Tryz.strings_IndexAny_long hz ⟨s.toArray⟩ ⟨t.toArray⟩ w (by show 2≤t.length;omega) (by show 8<s.length;omega) (by show s.length<_;omega) (by show t.length<_;omega) (ascii_of_all h3)
  refine Calls.mono h ?_
  rintro _ _ ⟨rfl,rfl⟩
  exact⟨_,rfl,rfl,Hp.ofBelow ⟨rfl,rfl,rfl,by simp;omega,fun k hk=>by rw [RowKit.Below.heap_alloc _ _ k (by simp;omega),RowKit.Below.heap_alloc _ _ k hk]⟩⟩
 ·omega
 ·exact cr_below (Tryz.strings_IndexAny_laid ⟨s.toArray⟩ ⟨t.toArray⟩ w (by show s.length<_;omega) (by show t.length<_;omega) (ascii_of_all h4) (ascii_of_all h3))
theorem sh_Clone68(l:LQ)(w:World)(a:Option Addr)(n cap:Nat)(hn:n=l.length)(hR:Rd w a (l.flatMap aaf))(hb:(0+l.length)*40≤140737488355328):CR Tryz.prog 68 [.slice a n cap] w fun v w'=>∃o a' cap',v=.slice a' l.length cap'∧Hp w [] [rwt aaf 65 3 o a' cap' l] w':=by
 subst hn
 have hH:Hp w [] [] w:=Hp.refl w
 refine enter (k:=8) Tryz.func68 rfl rfl (zaG rfl) ?_
 refine c_seq ?_
 refine asm ?_
 refine w_assign (Vs none 0 0) krf ?_
 refine w_nil ?_
 refine q_next ?_
 refine c_seq ?_
 refine c_seq ?_
 refine asm ?_
 refine w_move (Vs a l.length cap) krf ?_
 refine w_snil a l.length cap 65 Tryz.underlying22 krf krf ?_
 refine w_nil ?_
 refine q_next ?_
 refine c_bool (b:=a.isNone) krf (fun h=> ?_) (fun h=> ?_)
 ·have ha:a=none:=by cases a with|none=>rfl|some p=>cases h
  subst ha
  have hl:l=[]:=by
   cases l with
   |nil=>rfl
   |cons x l=>
    exfalso
    have h1:=Enc.flat aav (x::l)
    have h2:(List.flatMap aaf (x::l)).length=0:=by
     cases hq:List.flatMap aaf (x::l)with
     |nil=>rfl
     |cons u us=>obtain⟨p,hp,_⟩:=hR 0 u (by rw [hq];rfl);cases hp
    rw [h2]at h1
    simp at h1
  subst hl
  refine c_seq ?_
  refine asm ?_
  refine w_assign (Vs none 0 0) krf ?_
  refine w_nil ?_
  refine q_next ?_
  refine c_ret ?_
  refine s_ret ?_
  refine r_one (Vs none 0 0) rfl krf ?_
  exact⟨none,none,0,rfl,Hp.nilrw hH aaf 65 3 none⟩
 ·refine c_skip ?_
  refine q_next ?_
  refine c_seq ?_
  refine asm ?_
  refine w_new hH [] 65 (fun b=>(Vs (some ⟨b,0,none⟩) 0 0)) rfl rfl krf ?_
  intro b1 w2 a0
  have a1:Hp w [] [rwt aaf 65 3 (some b1) (some ⟨b1,0,none⟩) 0 ([]:LQ)] w2:=a0.blkrw 0 3 0 ([]:LQ) rfl aav rfl rfl (by decide)
  refine w_move (Vs a l.length cap) krf ?_
  refine avq a1 0 (some b1) (some ⟨b1,0,none⟩) a 0 cap 65 3 40 ([]:LQ) l aav rfl Tryz.underlying22 (by unfold TI;kernel_rfl) (by decide) (by decide) krf krf (hR.hp a0) hb ?_
  intro o5 a6 cap7 w8 a2
  refine w_assign (Vs a6 l.length cap7) krf ?_
  refine w_nil ?_
  refine q_next ?_
  refine c_ret ?_
  refine r_one (Vs a6 l.length cap7) rfl krf ?_
  exact⟨o5,a6,cap7,rfl,a2⟩
theorem sh_copyCheck(b:Nat)(z:Bool)(s:Value)(w:World)(hM:Hp w (axy [blk b [Vp (bif z then some ⟨b,0,none⟩else none),s] 111]) [blk b [Vp (bif z then some ⟨b,0,none⟩else none),s] 111] w):CR Tryz.prog 165 [Vp (some ⟨b,0,none⟩)] w fun v w'=>v=.tuple #[]∧Hp w (axy [blk b [Vp (bif z then some ⟨b,0,none⟩else none),s] 111]) [blk b [Vp (some ⟨b,0,none⟩),s] 111] w':=by
 cases z with
 |false=>
  have hH:Hp w (axy [blk b [(Vp none),s] 111]) [blk b [(Vp none),s] 111] w:=hM
  refine enter (k:=20) Tryz.func165 rfl rfl (zaG rfl) ?_
  refine c_seq ?_
  refine asm ?_
  refine w_move (Vp (some ⟨b,0,none⟩)) krf ?_
  refine aht (v:=(Vp (some ⟨b,0,none⟩))) (w':=w) rfl rfl krf ?_
  refine aht (v:=(Vp (some ⟨b,0,none⟩))) (w':=w) rfl rfl krf ?_
  refine w_ld1 hH 0 b 0 [(Vp none),s] 111 (Vp none) rfl rfl krf krf ?_
  refine w_pnil none Tryz.underlying109 krf krf ?_
  refine w_nil ?_
  refine q_next ?_
  refine c_true krf ?_
  refine asm ?_
  refine w_move (Vp (some ⟨b,0,none⟩)) krf ?_
  refine w_move (Vp (some ⟨b,0,none⟩)) krf ?_
  refine w_toUns hH 0 b 0 111 [(Vp none),s] rfl Tryz.underlying109 Tryz.underlying191 krf (by simp) krf ?_
  refine w_noEsc hH 199 (Vp (some ⟨b,0,none⟩)) krf krf Tryz.func199 krf krf krf krf ?_
  intro w1 a0
  refine w_ofUns a0 0 b 0 111 [(Vp none),s] rfl Tryz.underlying191 Tryz.underlying109 krf krf krf ?_
  refine aht (v:=(Vp (some ⟨b,0,none⟩))) (w':=w1) rfl rfl krf ?_
  refine aht (v:=(Vp (some ⟨b,0,none⟩))) (w':=w1) rfl rfl krf ?_
  refine w_st1 a0 0 b 0 [(Vp none),s] 111 (Vp (some ⟨b,0,none⟩)) [blk b [(Vp (some ⟨b,0,none⟩)),s] 111] rfl (zbn (zbc _) (zaG rfl)) krf krf rfl krf rfl ?_
  intro w3 a1
  refine w_nil ?_
  refine r_none' rfl ?_
  exact⟨rfl,a1.kp⟩
 |true=>
  have hH:Hp w (axy [blk b [(Vp (some ⟨b,0,none⟩)),s] 111]) [blk b [(Vp (some ⟨b,0,none⟩)),s] 111] w:=hM
  refine enter (k:=20) Tryz.func165 rfl rfl (zaG rfl) ?_
  refine c_seq ?_
  refine asm ?_
  refine w_move (Vp (some ⟨b,0,none⟩)) krf ?_
  refine aht (v:=(Vp (some ⟨b,0,none⟩))) (w':=w) rfl rfl krf ?_
  refine aht (v:=(Vp (some ⟨b,0,none⟩))) (w':=w) rfl rfl krf ?_
  refine w_ld1 hH 0 b 0 [(Vp (some ⟨b,0,none⟩)),s] 111 (Vp (some ⟨b,0,none⟩)) rfl rfl krf krf ?_
  refine w_pnil (some ⟨b,0,none⟩) Tryz.underlying109 krf krf ?_
  refine w_nil ?_
  refine q_next ?_
  refine c_false krf ?_
  refine c_seq ?_
  refine asm ?_
  refine w_move (Vp (some ⟨b,0,none⟩)) krf ?_
  refine aht (v:=(Vp (some ⟨b,0,none⟩))) (w':=w) rfl rfl krf ?_
  refine aht (v:=(Vp (some ⟨b,0,none⟩))) (w':=w) rfl rfl krf ?_
  refine w_ld1 hH 0 b 0 [(Vp (some ⟨b,0,none⟩)),s] 111 (Vp (some ⟨b,0,none⟩)) rfl rfl krf krf ?_
  refine w_move (Vp (some ⟨b,0,none⟩)) krf ?_
  refine w_pself ⟨b,0,none⟩ Tryz.underlying109 krf krf krf ?_
  refine w_nil ?_
  refine q_next ?_
  refine c_false krf ?_
  refine c_skip ?_
  refine r_none' rfl ?_
  exact⟨rfl,hH.kp⟩
open Go.Shelf Go.RowKit Go.Wk
open Nat renaming le_refl → zam, lt_succ_self → zbc
variable {P : Program} {ρ : Ren}
set_option maxHeartbeats 1000000 in
set_option maxRecDepth 100000 in
theorem bs_full(L:Lays.n169 P ρ)(X:Builder.Extra P ρ)(b g cap:Nat)(p:Value)(cur:Array Value)(l:List UInt8)(w:World)(hbk:w.heap[b]? =some (.cells #[p,.slice (some ⟨g,0,none⟩) l.length cap] (ρ.t 72) (0,0)))
  (hg:w.heap[g]? =some (.cells cur (ρ.t 5) (0,0))) (hnc:l.length≤cap) (hcm:cap≤maxLen) (hcs:cur.size=cap) (hcell:∀j x,l[j]? =some x→w.cell? ((⟨g,0,none⟩:Addr).add j)=some (.int .u8 x.toNat)) (h0:l≠[]):
  Calls P (ρ.f 169) #[.pointer (some ⟨b,0,none⟩)] w fun e w'=>e=.returned (.string ⟨l.toArray⟩)∧w'=w.drew.freeze ⟨g,0,none⟩ l.length:=by
 have hl0:l.length≠0:=by simpa using h0
 have c1:w.drew.cell? ⟨b,1,none⟩=some (.slice (some ⟨g,0,none⟩) l.length cap):=by
  have:w.drew.heap[b]? =some (.cells #[p,.slice (some ⟨g,0,none⟩) l.length cap] (ρ.t 72) (0,0)):=hbk
  rw [Lib.cell_of_heap this];rfl
 have hSD:(Builtin.unsafeSliceData_ #[(ρ.t 37)] (ρ.t 127) #[.slice (some ⟨g,0,none⟩) l.length cap]).run P w.drew=.ok (.pointer (some ⟨g,0,none⟩)) w.drew:=
  Lib.run_unsafeSliceData_row _ _ _ _ _ _ (by omega)
 have hUS:(Builtin.unsafeString_ #[(ρ.t 127),(ρ.t 3)] (ρ.t 9) #[.pointer (some ⟨g,0,none⟩),.int .i64 l.length]).run P w.drew=.ok (.string ⟨l.toArray⟩) (w.drew.freeze ⟨g,0,none⟩ l.length):=by
  refine Lib.run_unsafeString_row w.drew (ρ.t 127) (ρ.t 3) (ρ.t 9) (ρ.t 5) L.t127 X.cellsByte g cur.size (by have hg':w.drew.heap[g]? =some (.cells cur (ρ.t 5) (0,0)):=hg;simp [World.shape?,hg']) l h0 (by omega) (by unfold maxLen at hcm;omega) ?_
  intro j x hx
  exact hcell j x hx
 have mixed:=L.mixed
 have t72:=L.t72;have a72:=L.a72;have z72:=L.z72;have v72:=L.v72;have u72:=run_underlying L.t72
 have t70:=L.t70;have a70:=L.a70;have z70:=L.z70;have v70:=L.v70;have u70:=run_underlying L.t70
 have t37:=L.t37;have a37:=L.a37;have z37:=L.z37;have v37:=L.v37;have u37:=run_underlying L.t37
 have t127:=L.t127;have a127:=L.a127;have z127:=L.z127;have v127:=L.v127;have u127:=run_underlying L.t127
 have t3:=L.t3;have a3:=L.a3;have z3:=L.z3;have v3:=L.v3;have u3:=run_underlying L.t3
 have t9:=L.t9;have a9:=L.a9;have z9:=L.z9;have v9:=L.v9;have u9:=run_underlying L.t9
 have t5:=X.t5;have a5:=X.a5;have z5:=X.z5;have v5:=X.v5;have u5:=run_underlying X.t5
 go_enter L.f169,Body.n169_ntmps ρ
 go_wp2
 go_region_o
 all_goals (go_wp2;go_ret;exact⟨rfl,rfl⟩)
theorem bs_any(L0:Lays.n169 P ρ)(X:Builder.Extra P ρ){w:World}{S:List Nat}{L:List Res}(hH:Hp w S L w)(b:Nat)(p:Value)(o:Option Nat)(a:Option Addr)(cap:Nat)(l:Str)(kr:Nat)(hb:w.heap[b]? =some (.cells #[p,.slice a l.length cap] (ρ.t 72) (0,0)))(hr:L[kr]? =some (rwt eB (ρ.t 5) 1 o a cap l)):
  CR P (ρ.f 169) [Value.pointer (some ⟨b,0,none⟩)] w fun v w'=>v=str l∧Hp w S (L.set kr Go.Oe.nores) w':=by
 have fin0:∀w',Below w.heap.size w w'→Hp w S (L.set kr Go.Oe.nores) w':=by
  intro w' hB
  have h1:=hH.call (Hp.ofBelow hB)
  exact h1.change kr _ Go.Oe.nores hr rfl rfl rfl (zam _) (fun _ _ _=>rfl) trivial (fun _ hb=>by cases hb)
 obtain⟨h1,h2⟩:=hH.res _ (List.mem_of_getElem? hr)
 rcases h1 with⟨rfl,rfl,rfl,rfl⟩|⟨g,cur,ho,rfl,hob,hc1,hc2,hc3,htk⟩
 ·refine Calls.mono (Any.Builder_String_nil L0 X w.heap.size b p w hb) ?_
  rintro _ w' ⟨rfl,hw⟩
  exact⟨_,rfl,rfl,fin0 w' hw⟩
 ·have ho:o=some g:=ho
  subst ho
  have hobw:w.heap[g]? =some (.cells cur (ρ.t 5) (0,0)):=hob
  clear hob
  cases l with
  |nil=>
   by_cases hc0:cap=0
   ·subst hc0
    refine Calls.mono (Any.Builder_String_noroom L0 X w.heap.size b g p cur w (zam _) hb hobw) ?_
    rintro _ w' ⟨rfl,hw⟩
    exact⟨_,rfl,rfl,fin0 w' hw⟩
   ·refine Calls.mono (Any.Builder_String_room L0 X w.heap.size b g cap p w hc0 hb) ?_
    rintro _ w' ⟨rfl,hw⟩
    exact⟨_,rfl,rfl,fin0 w' hw⟩
  |cons x r=>
   refine Calls.mono (bs_full L0 X b g cap p cur (x::r) w hb hobw hc1 hc2 (by omega) (fun j y hy=> ?_) (by simp)) ?_
   ·have e1:(cur.toList.take ((x::r).length*1))[j]? =some (bt y):=by
     rw [htk,flat_eB,List.getElem?_map,hy];rfl
    rw [List.getElem?_take]at e1
    split at e1
    ·have e2:cur[j]? =some (bt y):=by simpa using e1
     cases j<;>simp [World.cell?,Addr.add,hobw,e2,bt]
    ·cases e1
   ·rintro _ w' ⟨rfl,rfl⟩
    refine⟨_,rfl,rfl, ?_⟩
    refine hH.drewn.change kr _ Go.Oe.nores hr ?_ ?_ ?_ ?_ (fun j hj hne=> ?_) trivial (fun _ hb=>by cases hb)
    all_goals (try(unfold World.freeze;rw [if_neg (by simp)];rfl))
    ·unfold World.freeze;rw [if_neg (by simp)];simp
    ·unfold World.freeze;rw [if_neg (by simp)]
     simp only [Array.getElem?_modify]
     have hne:g≠j:=fun e=>hne (by show some j=some g;rw [e])
     rw [if_neg hne]
     rfl
open Go.Oe in
theorem fok_bstr (L0 : Lays.n169 P ρ) (X : Builder.Extra P ρ) {GS : Glo} {bb : Nat} (g : Unit × Str → List PD) : FOk P GS (ρ.f 169) ⟨[.p' (ρ.t 72) (.pr .z' (.l' (ρ.t 5) bb .c'))], [.r' .s'], fun x => .gs (g x) x.2⟩ := by
  intro w S r0 L us x y hG hHp hMt hus hy
  obtain ⟨_, rfl⟩ := hy
  have hMt : Mt w S r0 [.bl (ρ.t 72) [.z' 0 1, .l' 2], .dd 0, .rw (ρ.t 5) bb .c' x.2] L := hMt
  have hus : [some (bptr (r0 0).b 0)] = us.map some := hus
  obtain rfl : us = [bptr (r0 0).b 0] := by
    match us, hus with
    | [u], h => simp at h; rw [h]
  obtain ⟨_, q0, hq0, vs, rfl, hmat⟩ := hMt.2 0 _ rfl
  obtain ⟨_, q1, hq1, _⟩ := hMt.2 1 _ rfl
  obtain ⟨hl2, q2, hq2, he2⟩ := hMt.2 2 _ rfl
  have he2 : q2 = rwt (Ty.c').enc (ρ.t 5) (Ty.c').sz (r0 2).o (r0 2).a (r0 2).cap x.2 := he2
  subst he2
  have hl2 : x.2.length = (r0 2).ln := hl2
  have hb := hHp.blkAt 0 hq0
  have hvs : vs = [.pointer (bif (r0 1).z then some ⟨(r0 0).b, 0, none⟩ else none), .slice (r0 2).a x.2.length (r0 2).cap] := by
    have h1 := hmat.2 0 _ rfl rfl
    have h2 := hmat.2 1 _ rfl rfl
    have h3 : vs.length = 2 := hmat.1
    rw [hl2]
    match vs, h3, h1, h2 with
    | [a, c], _, h1, h2 =>
      have h1 : a = _ := Option.some.inj h1
      have h2 : c = _ := Option.some.inj h2
      rw [h1, h2]; rfl
  rw [hvs] at hb
  refine Calls.mono (bs_any L0 X hHp (r0 0).b _ (r0 2).o (r0 2).a (r0 2).cap x.2 2 hb hq2) ?_
  rintro e w2 ⟨v, he, rfl, hw⟩
  refine ⟨_, he, r0, _, fun _ _ => rfl, hw, ?_, rfl⟩
  show Mt w S r0 [.bl (ρ.t 72) [.z' 0 1, .l' 2], .dd 0, .dd x.2.length] (L.set 2 nores)
  refine ⟨by rw [List.length_set]; exact hMt.1, fun id o ho => ?_⟩
  match id, ho with
  | 0, ho =>
    obtain ⟨h1, r, h2, h3⟩ := hMt.2 0 o ho
    exact ⟨h1, r, by rw [List.getElem?_set_ne (by decide)]; exact h2, h3⟩
  | 1, ho =>
    obtain ⟨h1, r, h2, h3⟩ := hMt.2 1 o ho
    exact ⟨h1, r, by rw [List.getElem?_set_ne (by decide)]; exact h2, h3⟩
  | 2, ho =>
    cases ho
    exact ⟨hl2, nores, by rw [List.getElem?_set_self (by rw [hMt.1]; exact zbc 2)], trivial⟩
  | id + 3, ho => simp at ho
open Go.Oe in
theorem fok_bcc {GS : Glo} {k T e bb : Nat} (h : ∀ (b : Nat) (z : Bool) (s : Value) (w : World), Hp w (axy [blk b [Value.pointer (bif z then some ⟨b, 0, none⟩ else none), s] T]) [blk b [Value.pointer (bif z then some ⟨b, 0, none⟩ else none), s] T] w →
    CR P k [Value.pointer (some ⟨b, 0, none⟩)] w fun v w' => v = .tuple #[] ∧ Hp w (axy [blk b [Value.pointer (bif z then some ⟨b, 0, none⟩ else none), s] T]) [blk b [Value.pointer (some ⟨b, 0, none⟩), s] T] w') :
    FOk P GS k ⟨[.p' T (.pr .z' (.l' e bb .c'))], [.o' 0 T (.pr .z' (.l' e bb .c'))], fun x => .gs [] x⟩ := by
  intro w S r0 L us x y hG hHp hMt hus hy
  obtain ⟨_, rfl⟩ := hy
  have hMt : Mt w S r0 [.bl T [.z' 0 1, .l' 2], .dd 0, .rw e bb .c' x.2] L := hMt
  have hus : [some (bptr (r0 0).b 0)] = us.map some := hus
  obtain rfl : us = [bptr (r0 0).b 0] := by
    match us, hus with
    | [u], h => simp at h; rw [h]
  obtain ⟨_, q0, hq0, vs, rfl, hmat⟩ := hMt.2 0 _ rfl
  obtain ⟨hl2, q2, hq2, he2⟩ := hMt.2 2 _ rfl
  have he2 : q2 = rwt (Ty.c').enc e (Ty.c').sz (r0 2).o (r0 2).a (r0 2).cap x.2 := he2
  subst he2
  have hvs : vs = [.pointer (bif (r0 1).z then some ⟨(r0 0).b, 0, none⟩ else none), .slice (r0 2).a (r0 2).ln (r0 2).cap] := by
    have h1 := hmat.2 0 _ rfl rfl
    have h2 := hmat.2 1 _ rfl rfl
    have h3 : vs.length = 2 := hmat.1
    match vs, h3, h1, h2 with
    | [a, c], _, h1, h2 =>
      have h1 : a = _ := Option.some.inj h1
      have h2 : c = _ := Option.some.inj h2
      rw [h1, h2]; rfl
  rw [hvs] at hq0
  obtain ⟨q1, L', rfl⟩ : ∃ q1, L = [blk (r0 0).b [.pointer (bif (r0 1).z then some ⟨(r0 0).b, 0, none⟩ else none), .slice (r0 2).a (r0 2).ln (r0 2).cap] T, q1, rwt (Ty.c').enc e (Ty.c').sz (r0 2).o (r0 2).a (r0 2).cap x.2] := by
    have h3 : L.length = 3 := hMt.1
    match L, h3, hq0, hq2 with
    | [a, b, c], _, h1, h2 =>
      cases h1; cases h2
      exact ⟨b, rfl⟩
  have hh := Hp.hand (L1 := [blk (r0 0).b [.pointer (bif (r0 1).z then some ⟨(r0 0).b, 0, none⟩ else none), .slice (r0 2).a (r0 2).ln (r0 2).cap] T]) (L2 := [q1, rwt (Ty.c').enc e (Ty.c').sz (r0 2).o (r0 2).a (r0 2).cap x.2]) hHp
  refine Calls.mono (h (r0 0).b (r0 1).z (.slice (r0 2).a (r0 2).ln (r0 2).cap) w hh) ?_
  rintro e2 w2 ⟨v, he, rfl, hw⟩
  have hw2 := Hp.callK (L1 := [blk (r0 0).b [.pointer (bif (r0 1).z then some ⟨(r0 0).b, 0, none⟩ else none), .slice (r0 2).a (r0 2).ln (r0 2).cap] T]) (L2 := [q1, rwt (Ty.c').enc e (Ty.c').sz (r0 2).o (r0 2).a (r0 2).cap x.2]) hHp hw
  let r2 : Nat → Ad := fun id => if id < 3 then r0 id else if id = 3 then ⟨none, none, 0, true, 0⟩ else r0 2
  have hw3 := (hp_idle (hp_idle hw2)).perm ((List.perm_append_comm (l₁ := [nores, nores]) (l₂ := [blk (r0 0).b [Value.pointer (some ⟨(r0 0).b, 0, none⟩), .slice (r0 2).a (r0 2).ln (r0 2).cap] T, q1])).append_right [rwt (Ty.c').enc e (Ty.c').sz (r0 2).o (r0 2).a (r0 2).cap x.2])
  refine ⟨_, he, r2, _, fun i hi => (by have hi : i < 3 := hi; simp only [r2]; rw [if_pos hi]), hw3, ?_, rfl⟩
  show Mt w S r2 [.bl T [.z' 0 3, .l' 4], .dd 0, .dd x.2.length, .dd 0, .rw e bb .c' x.2] [_, _, _, _, _]
  refine ⟨rfl, fun id o ho => ?_⟩
  match id, ho with
  | 0, ho =>
    cases ho
    refine ⟨(hMt.2 0 _ rfl).1, _, rfl, _, rfl, rfl, fun j c hj hk => ?_⟩
    match j, hj with
    | 0, hj => cases hj; rfl
    | 1, hj => cases hj; rfl
    | j + 2, hj => simp at hj
  | 1, ho =>
    cases ho
    exact ⟨(hMt.2 1 _ rfl).1, _, rfl, trivial⟩
  | 2, ho =>
    cases ho
    exact ⟨hl2, _, rfl, trivial⟩
  | 3, ho =>
    cases ho
    exact ⟨rfl, _, rfl, trivial⟩
  | 4, ho =>
    cases ho
    exact ⟨hl2, _, rfl, rfl⟩
  | id + 5, ho => simp at ho
end Go.Proofs
set_option maxHeartbeats 1000000
namespace Go.Proofs
open Go.Wk Go.Px
open Go.Value renaming slice → Vs, int → Vi, bool → Vb, pointer → Vp
open Go.IntKind renaming wrap → zae
open Int renaming toNat → zai
open List renaming drop → zaA
open Nat renaming lt_succ_self → zbc
open Tryz
theorem wrap_u8_i32 (c : UInt8) : zae .i32 ((c.toNat : Nat) : Int) = (c.toNat : Int) := by
 revert c; exact aaz _ (by decide +kernel)
theorem ent79:Wk.Enters prog 79:=⟨f79,_,func79,rfl,krf⟩
theorem ent80:Wk.Enters prog 80:=⟨f80,_,func80,rfl,krf⟩
theorem ent144:Wk.Enters prog 144:=⟨f144,_,func144,rfl,krf⟩
theorem ent145:Wk.Enters prog 145:=⟨f145,_,func145,rfl,krf⟩
theorem awu {fu : Nat} {a3 : Int} {w : World} {r : Bool} (hr : aen fu a3 = some r) (hG : Gl w) : CR prog 145 [(Vi .i32 a3)] w fun v w' => v = (Vb r) ∧ Hp w [] [] w' := by
 have hH := Hp.refl w
 refine enter (k := 17) func145 rfl rfl nbe ?_
 unfold aen at hr
 refine sr (wp 1 (nq (cs (ce (bi hr fun v5 a0 hr => cut0 hH [0, 2, 3] [(3, (Vb v5))] ?_ ?_)))))
 refine cr (wp 2 (wd a0 (fun h6 a0 => ?_) (fun h6 a0 => ?_)))
 refine wp 4 (wl (ql ?_))
 obtain rfl := oi a0
 exact je hH.kp
 refine wp 4 (wl (ql ?_))
 obtain rfl := oi a0
 exact je hH.kp
 intro w7 G a2
 refine cb hr (fun h9 hr => ?_) (fun h9 hr => ?_)
 refine sr (wp 1 (nq (ct (bt_ (st ?_)))))
 obtain rfl := oi hr
 exact rv a2.kp
 refine bi hr fun a5 a1 hr => cut0 a2 [2, 10] [(10, (Vb a5))] ?_ ?_
 refine cr (wp 2 (wd a1 (fun a6 a1 => ?_) (fun a6 a1 => ?_)))
 refine wp 4 (wl (ql ?_))
 obtain rfl := oi a1
 exact je a2.kp
 refine wp 4 (wl (ql ?_))
 obtain rfl := oi a1
 exact je a2.kp
 intro a8 G a4
 refine cb hr (fun a7 hr => ?_) (fun a7 hr => ?_)
 refine sr (wp 1 (nq (ct (bt_ (st ?_)))))
 obtain rfl := oi hr
 exact rv a4.kp
 refine ck (bn (qn (sr (wp 1 (nq (ct ?_))))))
 obtain rfl := oi hr
 exact rv a4.kp
theorem aul {fu : Nat} {a1 : Str} {a0 : Int} {w : World} {r : Int} (hr : adg fu a1 a0 = some r) (hG : Gl w) : CR prog 79 [(str a1), (Vi .i32 a0)] w fun v w' => v = (Vi .i64 r) ∧ Hp w [] [] w' := by
 have hH := Hp.refl w
 refine enter (k := 187) func79 rfl rfl nbe ?_
 unfold adg at hr
 refine sr (wp 1 (nq (ce (bi hr fun v5 b0 hr => cut0 hH [0, 1, 4, 160] [(160, (Vb v5))] ?_ ?_))))
 refine cr (wp 2 (wd b0 (fun h6 b0 => ?_) (fun h6 b0 => ?_)))
 refine wp 4 (wl (ql ?_))
 obtain rfl := oi b0
 exact je hH.kp
 refine wp 4 (wl (ql ?_))
 obtain rfl := oi b0
 exact je hH.kp
 intro w7 G b1
 refine cb hr (fun h9 hr => ?_) (fun h9 hr => ?_)
 refine sr (wp 2 (w_toU8 .i32 a0 underlying21 underlying5 krf (w_call 144 #[] [(str a1), (bt (u8i a0))] _ ent144 krf krf (sh_IndexByte a1 (u8i a0) w7) ?_)))
 rintro _ g1 ⟨rfl, b8⟩
 have c7 := b1.call b8; clear b8
 refine wp 1 (nq (ct (bt_ ?_)))
 obtain rfl := oi hr
 exact rv c7.kp
 refine sr (wp 3 (nq (cd hr (fun c8 hr => ?_) (fun c8 hr => ?_))))
 refine bi hr fun b9 c9 hr => cut1 b1 b9 [4] (fun d0 => []) ?_ ?_
 refine sr (wp 1 (w_range b1 a1 underlying9 krf fun b2 g2 d1 => nq (ce (lpG (σ := Nat × Nat) [4, 175] (fun ⟨a9, a5⟩ => []) (fun ⟨a9, a5⟩ w' => Hp w [] [sit b2 a1 a5] w' ∧ afb fu a1 a9 a5 = some b9) (fun ⟨a9, a5⟩ => a9) (fu, 0) (by exact ⟨d1.kp, c9⟩) ?_))))
 rintro ⟨_ | a9, a5⟩ g3 G ⟨b5, a6⟩
 · exact nzz a6
 rw [akk, aeo] at a6
 refine sr ?_
 by_cases b3 : a5 < a1.length
 replace a6 := ift b3 a6
 refine w_next b5 0 b2 a1 a5 rfl krf (fun _ d2 b4 => ?_) (fun b6 => absurd b3 b6)
 replace b4 : Hp w [] [sit b2 a1 (a5 + (Utf8.decode ⟨List.toArray a1⟩ a5).2)] d2 := b4
 refine wp 1 (nq (cs (c_true krf (ck (qn (ce (sr ?_)))))))
 refine wp 4 (nq (sr (wp 2 (nq (cd a6 (fun d3 a6 => ?_) (fun d3 a6 => ?_))))))
 refine sr (wp 2 (nq (ct (bt_ (q_ret (bt_ (q_ret ?_)))))))
 obtain rfl := oi a6
 refine bt_ ?_
 obtain rfl := oi hr
 exact rv b4.kp
 refine ck (bn (ql ?_))
 exact ⟨(a9, a5 + (Utf8.decode ⟨List.toArray a1⟩ a5).2), _, rfl, by kernel_rfl, ⟨b4.kp, a6⟩, zbc _⟩
 replace a6 := ifn b3 a6
 refine w_next b5 0 b2 a1 a5 rfl krf (fun b6 => absurd b6 b3) (fun _ => ?_)
 refine wp 1 (nq (cs (c_false krf (c_exit (s_exit (q_exit (b_here (ql ?_))))))))
 obtain rfl := oi a6
 exact je1 rfl b5.kp
 rintro d0 g4 G d4 rfl
 refine sr (wp 1 (nq (ct (bt_ ?_))))
 obtain rfl := oi hr
 exact rv d4.kp
 refine sr (wp 1 (bi hr fun g5 d5 hr => wc ent145 b1 (awu d5 (hG.hp0 b1)) fun g6 c0 => wp 2 (nq (cb hr (fun d6 hr => ?_) (fun d6 hr => ?_)))))
 refine sr (wp 1 (nq (ct (bt_ ?_))))
 obtain rfl := oi hr
 exact rv c0.kp
 refine c_scope (sr (wp 1 (w_runestr .i32 .i32 a0 underlying21 underlying9 krf (wp 1 (nq (sr ?_))))))
 refine wp 2 (gi hr fun d7 hr => w_sub64 (((Utf8.encode a0).data.toList).length : Int) (1 : Int) krf krf d7 (wp 1 (nq (sr (wp 2 (wl ?_))))))
 refine qn (sr (wp 1 (nq (cs (ce (lpS (fun c1 (_ : Unit) => afa fu a1 a0 c1) () c0 hr [0, 4, 7, 8, 9] (fun (_ : Unit) => []) (fun _ => rfl) ?_))))))
 rintro c1 _ g7 G b7 a7
 rw [aqg, agp] at a7
 refine cs (sr (wp 4 (nq (cd a7 (fun d8 a7 => ?_) (fun d8 a7 => ?_)))))
 refine ck (qn (ce (c_scope (bi a7 fun d9 a2 a7 => cut1 b7 d9 [0, 4, 7, 8, 9] (fun a8 => [(9, (Vi .i64 a8))]) ?_ ?_))))
 refine cs (gi a2 fun e0 a2 => gi a2 fun e1 a2 => cdr 6 b7 (np_seq (alk (np_scope (ahi (alk (ahi (np_seq (np_scope (ahi np_body))))))))) fun g8 c2 => rp 4 [0, 1] (rt 2 (bt (at_ a1 ((((Utf8.encode a0).data.toList).length : Int) - (1 : Int)))) rfl rfl (y_val rfl (by intro w hS_; exact (x_index a1 .i64 ((((Utf8.encode a0).data.toList).length : Int) - (1 : Int)) underlying9 krf krf e0))) (rp 1 [3, 4] (rt 5 (bt (at_ ((Utf8.encode a0).data.toList) ((((Utf8.encode a0).data.toList).length : Int) - (1 : Int)))) rfl rfl (y_val rfl (by intro w hS_; exact (x_index ((Utf8.encode a0).data.toList) .i64 ((((Utf8.encode a0).data.toList).length : Int) - (1 : Int)) underlying9 krf krf e1))) (r_zero krf (w8_neq (at_ a1 ((((Utf8.encode a0).data.toList).length : Int) - (1 : Int))) (at_ ((Utf8.encode a0).data.toList) ((((Utf8.encode a0).data.toList).length : Int) - (1 : Int))) krf krf ?_))))))
 refine nq (cn a2 (fun e2 a2 => ?_) (fun e2 a2 => ?_))
 refine cs (gi a2 fun e3 a2 => gi a2 fun e4 a2 => gi a2 fun e5 a2 => cdr 7 c2 (np_seq (alk (np_scope (ahi (alk (ahi (np_seq (np_scope (ahi np_body))))))))) fun e6 e7 => rp 5 [0, 1] (rt 2 (Vi .i64 (((((Utf8.encode a0).data.toList).length : Int) - (1 : Int)) + (1 : Int))) rfl rfl (y_val rfl (by intro w hS_; exact (x_add64 ((((Utf8.encode a0).data.toList).length : Int) - (1 : Int)) (1 : Int) krf krf e3))) (rt 3 (str (zaA (zai (((((Utf8.encode a0).data.toList).length : Int) - (1 : Int)) + (1 : Int))) a1)) rfl rfl (y_val rfl (by intro w hS_; exact (x_slice_from a1 .i64 (((((Utf8.encode a0).data.toList).length : Int) - (1 : Int)) + (1 : Int)) underlying9 krf krf e4))) (rp 1 [4, 5] (rt 6 (bt (at_ ((Utf8.encode a0).data.toList) ((((Utf8.encode a0).data.toList).length : Int) - (1 : Int)))) rfl rfl (y_val rfl (by intro w hS_; exact (x_index ((Utf8.encode a0).data.toList) .i64 ((((Utf8.encode a0).data.toList).length : Int) - (1 : Int)) underlying9 krf krf e5))) ?_)))))
 refine r_zero krf (w_call 144 #[] [(str (zaA (zai (((((Utf8.encode a0).data.toList).length : Int) - (1 : Int)) + (1 : Int))) a1)), (bt (at_ ((Utf8.encode a0).data.toList) ((((Utf8.encode a0).data.toList).length : Int) - (1 : Int))))] _ ent144 krf krf (sh_IndexByte (zaA (zai (((((Utf8.encode a0).data.toList).length : Int) - (1 : Int)) + (1 : Int))) a1) (at_ ((Utf8.encode a0).data.toList) ((((Utf8.encode a0).data.toList).length : Int) - (1 : Int))) e6) ?_)
 rintro _ g9 ⟨rfl, c3⟩
 have c4 := e7.call c3; clear c3
 refine wp 1 (nq (cs (sr (wp 2 (nq (cd a2 (fun e8 a2 => ?_) (fun e8 a2 => ?_)))))))
 refine sr (wp 1 (nq (ct (st (q_ret ?_)))))
 obtain rfl := oi a2
 refine n_ret (bt_ (q_ret (bt_ (st (n_ret (bt_ ?_))))))
 obtain rfl := oi a7
 exact rv c4.kp
 refine ck (qn (cr (wp 2 (gi a2 fun e9 a2 => ayv (ixb (· == (at_ ((Utf8.encode a0).data.toList) ((((Utf8.encode a0).data.toList).length : Int) - (1 : Int)))) (zaA (zai (((((Utf8.encode a0).data.toList).length : Int) - (1 : Int)) + (1 : Int))) a1)) (1 : Int) krf krf e9 (gi a2 fun f0 a2 => ayv ((((Utf8.encode a0).data.toList).length : Int) - (1 : Int)) ((ixb (· == (at_ ((Utf8.encode a0).data.toList) ((((Utf8.encode a0).data.toList).length : Int) - (1 : Int)))) (zaA (zai (((((Utf8.encode a0).data.toList).length : Int) - (1 : Int)) + (1 : Int))) a1)) + (1 : Int)) krf krf f0 (wp 1 (wl ?_)))))))
 refine ql ?_
 obtain rfl := oi a2
 exact je1 rfl c4.kp
 refine ck (ql ?_)
 obtain rfl := oi a2
 exact je1 rfl c2.kp
 rintro a8 h0 G f1 rfl
 refine cs (sr (wp 1 (nq (ce (lpS (fun c5 a4 => ahl fu a1 a0 a8 c5 a4) (1 : Int) f1 a7 [0, 4, 7, 8, 9, 12] (fun a4 => [(12, (Vi .i64 a4))]) (fun _ => rfl) ?_)))))
 rintro c5 a4 h1 G c6 a3
 rw [axu, alo] at a3
 refine cs (sr (wp 4 (nq (cd a3 (fun f2 a3 => ?_) (fun f2 a3 => ?_)))))
 refine ck (qn (cs (ce (cs (gi a3 fun f3 a3 => gi a3 fun f4 a3 => gi a3 fun f5 a3 => gi a3 fun f6 a3 => cdr 10 c6 (np_seq (ahi (np_seq (alk (ahi (np_seq (np_scope (ahi (alk (ahi (np_seq (np_scope (ahi np_body))))))))))))) fun h2 f7 => ?_)))))
 refine rp 7 [0, 1, 2] (rt 3 (Vi .i64 (a8 - a4)) rfl rfl (y_val rfl (by intro w hS_; exact (x_sub64 a8 a4 krf krf f3))) (rt 4 (bt (at_ a1 (a8 - a4))) rfl rfl (y_val rfl (by intro w hS_; exact (x_index a1 .i64 (a8 - a4) underlying9 krf krf f4))) (rp 2 [5, 6, 7] (rt 8 (Vi .i64 (((((Utf8.encode a0).data.toList).length : Int) - (1 : Int)) - a4)) rfl rfl (y_val rfl (by intro w hS_; exact (x_sub64 ((((Utf8.encode a0).data.toList).length : Int) - (1 : Int)) a4 krf krf f5))) (rt 9 (bt (at_ ((Utf8.encode a0).data.toList) (((((Utf8.encode a0).data.toList).length : Int) - (1 : Int)) - a4))) rfl rfl (y_val rfl (by intro w hS_; exact (x_index ((Utf8.encode a0).data.toList) .i64 (((((Utf8.encode a0).data.toList).length : Int) - (1 : Int)) - a4) underlying9 krf krf f6))) (r_zero krf (w8_neq (at_ a1 (a8 - a4)) (at_ ((Utf8.encode a0).data.toList) (((((Utf8.encode a0).data.toList).length : Int) - (1 : Int)) - a4)) krf krf (nq (cn a3 (fun f8 a3 => ?_) (fun f8 a3 => ?_))))))))))
 exact nzz a3
 exact ck (bn (qn (cr (wp 1 (gi a3 fun f9 a3 => ayv a4 (1 : Int) krf krf f9 (wp 1 (wl (ql (le' (a4 + (1 : Int)) f7.kp a3)))))))))
 refine c_exit (s_exit (q_exit (b_here (qn (cs (sr (wp 2 (gi a3 fun g0 a3 => ?_))))))))
 refine w_sub64 a8 ((((Utf8.encode a0).data.toList).length : Int) - (1 : Int)) krf krf g0 (wp 1 (nq (ct (st (n_ret (bt_ (q_ret (bt_ ?_))))))))
 refine st (n_ret (bt_ ?_))
 obtain rfl := oi a3
 exact rv c6.kp
 refine c_exit (s_exit (q_exit (b_here (qn (cs (sr (wp 1 (wl ?_))))))))
 refine qn (ct (st (n_ret (bt_ ?_))))
 obtain rfl := oi a7
 exact rv b7.kp
theorem aut {fu : Nat} {a0 : Int} {w : World} {r : Bool} (hr : aez fu a0 = some r) (hG : Gl w) : CR prog 80 [(Vi .i64 a0)] w fun v w' => v = (Vb r) ∧ Hp w [] [] w' := by
 have hH := Hp.refl w
 refine enter (k := 5) func80 rfl rfl nbe ?_
 unfold aez at hr
 refine sr (wp 1 (nq (sr (wp 3 (nq ?_)))))
 refine ct ?_
 obtain rfl := oi hr
 exact rv hH.kp
theorem K_L_strings_IndexAny {fu : Nat} {a2 : Str} {a5 : Str} {w : World} {r : Int} (hr : anm fu a2 a5 = some r) (hG : Gl w) : CR prog 32 [(str a2), (str a5)] w fun v w' => v = (Vi .i64 r) ∧ Hp w [] [] w' := by
 have hH := Hp.refl w
 refine enter (k := 55) func32 rfl rfl nbe ?_
 unfold anm at hr
 refine sr (wp 1 (nq (cs (sr (wp 2 (wl ?_))))))
 refine qn (cd hr (fun h1 hr => ?_) (fun h1 hr => ?_))
 refine sr (wp 1 (nq (ct (st ?_))))
 obtain rfl := oi hr
 exact rv hH.kp
 refine ck (qn (cs (sr (wp 3 (nq (cd hr (fun h2 hr => ?_) (fun h2 hr => ?_)))))))
 refine sr (wp 1 (gi hr fun g3 hr => w_index a5 .i64 (0 : Int) underlying9 krf krf g3 (w_convx .i32 .u8 ((at_ a5 (0 : Int)).toNat : Int) underlying5 underlying21 krf (wrap_u8_i32 _) (wp 1 (nq (bi hr fun v8 a6 hr => cut0 hH [0, 1, 4, 5] [(5, (Vi .i32 v8))] ?_ ?_))))))
 refine sr (wp 2 (nq (cd a6 (fun h9 a6 => ?_) (fun h9 a6 => ?_))))
 refine cr (wp 1 (wl (ql ?_)))
 obtain rfl := oi a6
 exact je hH.kp
 refine ck (ql ?_)
 obtain rfl := oi a6
 exact je hH.kp
 intro c8 G b2
 refine sr (wp 2 (bi hr fun c9 b6 hr => wc ent79 b2 (aul b6 (hG.hp0 b2)) fun d0 b7 => wp 1 (nq (ct (st ?_)))))
 obtain rfl := oi hr
 exact rv b7.kp
 refine ck (qn (bi hr fun d1 a3 hr => cut0 hH [0, 1, 4] [] ?_ ?_))
 refine sr (wp 2 (bi a3 fun d2 b8 a3 => wc ent80 hH (aut b8 (hG.hp0 hH)) fun d3 b9 => nq (cb a3 (fun c0 a3 => ?_) (fun c0 a3 => ?_))))
 exact nzz a3
 refine ck (ql ?_)
 obtain rfl := oi a3
 exact je b9.kp
 intro d4 G b3
 refine bi hr fun b4 c1 hr => cut1 b3 b4 [4] (fun c2 => []) ?_ ?_
 refine sr (wp 1 (w_range b3 a2 underlying9 krf fun a7 d5 c3 => nq (ce (lpG (σ := Nat × Nat) [1, 4, 45] (fun ⟨a4, a1⟩ => []) (fun ⟨a4, a1⟩ w' => Hp w [] [sit a7 a2 a1] w' ∧ afu fu a2 a5 a4 a1 = some b4) (fun ⟨a4, a1⟩ => a4) (fu, 0) (by exact ⟨c3.kp, c1⟩) ?_))))
 rintro ⟨_ | a4, a1⟩ d6 G ⟨b0, a0⟩
 · exact nzz a0
 rw [agq, adm] at a0
 refine sr ?_
 by_cases a8 : a1 < a2.length
 replace a0 := ift a8 a0
 refine w_next b0 0 a7 a2 a1 rfl krf (fun _ c4 a9 => ?_) (fun b1 => absurd a8 b1)
 replace a9 : Hp w [] [sit a7 a2 (a1 + (Utf8.decode ⟨List.toArray a2⟩ a1).2)] c4 := a9
 refine wp 1 (nq (cs (c_true krf (ck (qn (ce (sr ?_)))))))
 refine wp 4 (nq (sr (wp 2 (bi a0 fun d7 c5 a0 => wc ent79 a9 (aul c5 (hG.hp0 a9)) fun d8 b5 => wp 1 (wl ?_)))))
 refine qn (cd a0 (fun c6 a0 => ?_) (fun c6 a0 => ?_))
 refine sr (wp 2 (nq (ct (bt_ (q_ret (bt_ (q_ret ?_)))))))
 obtain rfl := oi a0
 obtain rfl := oi hr
 exact rv b5.kp
 refine ck (bn (ql ?_))
 exact ⟨(a4, a1 + (Utf8.decode ⟨List.toArray a2⟩ a1).2), _, rfl, by kernel_rfl, ⟨b5.kp, a0⟩, zbc _⟩
 replace a0 := ifn a8 a0
 refine w_next b0 0 a7 a2 a1 rfl krf (fun b1 => absurd b1 a8) (fun _ => ?_)
 refine wp 1 (nq (cs (c_false krf (c_exit (s_exit (q_exit (b_here (ql ?_))))))))
 obtain rfl := oi a0
 exact je1 rfl b0.kp
 rintro c2 d9 G c7 rfl
 refine sr (wp 1 (nq (ct ?_)))
 obtain rfl := oi hr
 exact rv c7.kp
end Go.Proofs
namespace Go.Wk
open Go.Px
theorem asc_at{t:Str}(h:t.all (fun b=>decide (b.toNat<128))=true)(k:Nat)(hk:k<t.length):(at_ t (k:Int)).toNat<128:=by
 have hm:at_ t (k:Int)∈t:=by simp only [at_,Int.toNat_natCast,List.getD_eq_getElem?_getD,List.getElem?_eq_getElem hk,Option.getD_some];exact List.getElem_mem hk
 exact of_decide_eq_true (List.all_eq_true.1 h _ hm)
theorem ia_ok(a:Int)(h0: -1000000≤a)(h:a≤1000000):aap a:=⟨by omega,by omega⟩
theorem ia_err(t:Str)(ha:t.all (fun b=>decide (b.toNat<128))=true)(n:Nat):∀(k fk:Nat),k+n=t.length→n<fk→afb 2000 t fk k=some (.inl ()):=by
 induction n with
 |zero=>
  intro k fk hk hf
  obtain⟨fk,rfl⟩:=fkx fk
  rw [akk,aeo,if_neg (by omega)]
 |succ n ih=>
  intro k fk hk hf
  obtain⟨fk,rfl⟩:=fkx fk
  have h1:=asc_at ha k (by omega)
  have hd:=dec_ascii t k (by omega) h1
  have hd':Utf8.decode ⟨List.toArray t⟩ k=((at_ t (k:Int)).toNat,1):=hd
  rw [akk,aeo,if_pos (by omega),hd',if_neg (by simp only;omega)]
  exact ih (k+1) fk (by omega) (by omega)
theorem ixb_no(p:UInt8→Bool):∀l:Str,(∀c∈l,p c=false)→ixb p l= -1
 |[],_=>rfl
 |c::l,h=>by
  unfold ixb
  rw [h c (by simp),if_neg (by decide),ixb_no p l (fun x hx=>h x (List.mem_cons_of_mem _ hx)),if_pos rfl]
theorem ia_high(t:Str)(ht:t.length≤1000)(ha:t.all (fun b=>decide (b.toNat<128))=true)(r:Int)(hr:128≤r):adg 2000 t r=some (-1):=by
 have hn:decide (r<128)=false:=decide_eq_false (by omega)
 unfold adg
 rw [if_pos (by omega),hn,Option.bind_some,cond_false]
 by_cases he:r=65533
 ·rw [if_pos he,ia_err t ha t.length 0 2000 (by omega) (by omega)];rfl
 rw [if_neg he]
 have hv:∃b,aen 2000 r=some b:=by
  unfold aen
  rw [if_pos (by omega),Option.bind_some]
  cases decide (r<55296)with
  |true=>exact⟨_,rfl⟩
  |false=>
   rw [cond_false]
   by_cases h:57343<r
   ·rw [if_pos h,Option.bind_some];cases decide (r≤1114111)<;>exact⟨_,rfl⟩
   ·rw [if_neg h];exact⟨_,rfl⟩
 obtain⟨b,hb⟩:=hv
 rw [hb,Option.bind_some]
 cases b with
 |false=>rfl
 |true=>
  obtain⟨e1,e2,e3⟩:=encL_high r hr
  have hE:(Utf8.encode r).data.toList=encL r:=rfl
  rw [Bool.not_true,cond_false,hE]
  have hok:aap (((encL r).length:Int)-1):=ia_ok _ (by omega) (by omega)
  rw [aaa hok]
  show afa 2000 t r (1999+1)=_
  rw [aqg,agp,hE]
  generalize hlast:at_ (encL r) (((encL r).length:Int)-1)=last at e3
  generalize hm:((encL r).length:Int)-1=m at hlast e3⊢
  by_cases hlt:m<(t.length:Int)
  ·obtain⟨k,rfl⟩:∃k:Nat,m=(k:Int):=⟨m.toNat,by omega⟩
   have h1:=asc_at ha k (by omega)
   have hne:¬at_ t (k:Int)=last:=fun e=>by rw [e]at h1;omega
   have hall:∀l:Str,(∀c∈l,c∈t)→ixb (·==last) l= -1:=fun l hl=>ixb_no _ l fun c hc=>by
    have hc':=of_decide_eq_true (List.all_eq_true.1 ha c (hl c hc))
    have:¬c=last:=fun e=>by rw [e]at hc';omega
    simpa using this
   rw [if_pos hlt,aaa (by omega),aaa (by omega),if_neg hne,aaa (ia_ok _ (by omega) (by omega)),aaa (by omega),aaa (by omega),hall _ (fun c hc=>List.mem_of_mem_drop hc),if_pos (by decide),Option.bind_some,Sum.elim_inr]
  ·rw [if_neg hlt]
theorem u8i_back:∀c:UInt8,u8i (c.toNat:Int)=c:=aaz _ (by decide+kernel)
theorem ia_low(t:Str)(c:UInt8)(hc:c.toNat<128):adg 2000 t (c.toNat:Int)=some (ixb (·==c) t):=by
 have hn:decide ((c.toNat:Int)<128)=true:=decide_eq_true (by omega)
 unfold adg
 rw [if_pos (by omega),hn,Option.bind_some,cond_true,u8i_back]
theorem ixb_mem(c:UInt8):∀t:Str,(0≤ixb (·==c) t)↔t.contains c=true
 |[]=>by simp [ixb]
 |b::t=>by
  have ih:=ixb_mem c t
  have hg:=ixb_ge (·==c) t
  unfold ixb
  by_cases h:b=c
  ·rw [if_pos (by simpa using h)]
   simp [h]
  ·have h':¬c=b:=fun e=>h e.symm
   rw [if_neg (by simpa using h),List.contains_cons]
   have hb:(c==b)=false:=by simpa using h'
   rw [hb,Bool.false_or,←ih]
   split
   ·rename_i h1;rw [h1]
   ·omega
theorem ixb_skip(p:UInt8→Bool):∀a l:Str,(∀c∈a,p c=false)→ixb p (a++l)=if ixb p l= -1 then-1 else ixb p l+(a.length:Int)
 |[],l,_=>by
  rw [List.nil_append,List.length_nil]
  split
  ·assumption
  ·omega
 |c::a,l,h=>by
  have ih:=ixb_skip p a l (fun x hx=>h x (List.mem_cons_of_mem _ hx))
  have hg:=ixb_ge p l
  rw [List.cons_append,ixb,h c (by simp),if_neg (by decide),ih]
  by_cases h1:ixb p l= -1
  ·rw [if_pos h1,if_pos h1,if_pos rfl]
  ·rw [if_neg h1,if_neg h1,if_neg (by omega),List.length_cons];omega
theorem ia_lp(s t:Str)(ht:t.length≤1000)(ha:t.all (fun b=>decide (b.toNat<128))=true)(n:Nat):∀(k fk:Nat),s.length-k≤n→n<fk→k≤s.length→
  afu 2000 s t fk k=some (if ixb (t.contains ·) (s.drop k)= -1 then .inl ()else .inr ((k:Int)+ixb (t.contains ·) (s.drop k))):=by
 induction n with
 |zero=>
  intro k fk hk hf hl
  obtain⟨fk,rfl⟩:=fkx fk
  rw [agq,adm,if_neg (by omega),List.drop_eq_nil_of_le (by omega)];rfl
 |succ n ih=>
  intro k fk hk hf hl
  obtain⟨fk,rfl⟩:=fkx fk
  by_cases hlt:k<s.length
  ·rw [agq,adm,if_pos hlt]
   have hg:=ixb_ge (t.contains ·) (s.drop (k+1))
   by_cases h128:(at_ s (k:Int)).toNat<128
   ·have hd':Utf8.decode ⟨List.toArray s⟩ k=((at_ s (k:Int)).toNat,1):=dec_ascii s k hlt h128
    rw [hd']
    simp only
    rw [ia_low t _ h128,Option.bind_some,aln s k hlt,ixb]
    have hmem:=ixb_mem (at_ s (k:Int)) t
    by_cases hc:t.contains (at_ s (k:Int))=true
    ·rw [if_pos (hmem.2 hc),if_pos hc,if_neg (by decide)];simp
    ·rw [if_neg (fun h=>hc (hmem.1 h)),if_neg hc,ih (k+1) fk (by omega) (by omega) (by omega)]
     by_cases h1:ixb (t.contains ·) (s.drop (k+1))= -1
     ·rw [if_pos h1,if_pos h1,if_pos rfl]
     ·rw [if_neg h1,if_neg h1,if_neg (by omega)]
      congr 2
      omega
   ·obtain⟨d1,d2,d3,d4⟩:=dec_high s k hlt h128
    have e:(⟨s.toArray⟩:ByteArray)=⟨List.toArray s⟩:=rfl
    rw [ia_high t ht ha _ (by omega),Option.bind_some,if_neg (by decide)]
    generalize(Utf8.decode ⟨s.toArray⟩ k).2=wd at d2 d3 d4⊢
    rw [ih (k+wd) fk (by omega) (by omega) (by omega)]
    have hsplit:s.drop k=(s.drop k).take wd++s.drop (k+wd):=by
     have hdd:s.drop (k+wd)=(s.drop k).drop wd:=by rw [List.drop_drop]
     rw [hdd,List.take_append_drop]
    have hno:∀c∈(s.drop k).take wd,t.contains c=false:=by
     intro c hc
     obtain⟨j,hj,rfl⟩:=List.getElem_of_mem hc
     rw [List.length_take,List.length_drop]at hj
     have hb:=d4 (k+j) (by omega) (by omega)
     rw [List.getElem_take,List.getElem_drop]
     have e2:at_ s ((k+j:Nat):Int)=s[k+j]'(by omega):=by
      unfold at_
      rw [Int.toNat_natCast]
      simp [show k+j<s.length by omega]
     rw [e2]at hb
     cases hcc:t.contains (s[k+j]'(by omega))with
     |false=>rfl
     |true=>
      have:=of_decide_eq_true (List.all_eq_true.1 ha _ (List.contains_iff_mem.1 hcc))
      omega
    have hsk:ixb (t.contains ·) (s.drop k)=if ixb (t.contains ·) (s.drop (k+wd))= -1 then-1 else ixb (t.contains ·) (s.drop (k+wd))+(((s.drop k).take wd).length:Int):=by
     conv=>lhs;rw [hsplit]
     exact ixb_skip _ _ _ hno
    rw [hsk]
    have hlen:((s.drop k).take wd).length=wd:=by rw [List.length_take,List.length_drop];omega
    have hg2:=ixb_ge (t.contains ·) (s.drop (k+wd))
    rw [hlen]
    by_cases h1:ixb (t.contains ·) (s.drop (k+wd))= -1
    ·rw [if_pos h1,if_pos h1,if_pos rfl]
    ·rw [if_neg h1,if_neg h1,if_neg (by omega)]
     congr 2
     omega
  ·rw [agq,adm,if_neg hlt,List.drop_eq_nil_of_le (by omega)];rfl
theorem ia_short(s t:Str)(h8:s.length≤8)(h2:2≤t.length)(ht:t.length≤1000)(ha:t.all (fun b=>decide (b.toNat<128))=true):anm 2000 s t=some (Lib.indexAny s t):=by
 have hne:¬t=[]:=fun e=>by rw [e]at h2;simp at h2
 have hg:=ixb_ge (t.contains ·) s
 unfold anm aez
 rw [if_neg hne,if_neg (by omega),Option.bind_some,decide_eq_false (by omega),cond_false,Option.bind_some,ia_lp s t ht ha s.length 0 2000 (by omega) (by omega) (by omega),List.drop_zero,axa,Option.bind_some]
 by_cases h1:ixb (t.contains ·) s= -1
 ·rw [if_pos h1,h1];rfl
 ·rw [if_neg h1,Sum.elim_inr]
  congr 1
  omega
end Go.Wk
namespace Go.Proofs
open Go.Wk Go.Px
theorem sh_IndexAnyW(s t:List UInt8)(w:World)(h:s.length≤1000000000∧t.length≤1000∧t.all (fun b=>decide (b.toNat<128))=true)(hG:Gl w):CR Tryz.prog 32 [str s,str t] w fun v w'=>v=.int .i64 (Lib.indexAny s t)∧Hp w [] [] w':=by
 obtain⟨h1,h2,h3⟩:=h
 by_cases h8:8<s.length
 ·exact sh_IndexAny s t w ⟨h1,h2,h3,.inl h8⟩
 by_cases ht:t.length≤1
 ·exact sh_IndexAny s t w ⟨h1,h2,h3,.inr (.inl ht)⟩
 exact K_L_strings_IndexAny (ia_short s t (by omega) (by omega) h2 h3) hG
open Go.Wk Go.Px Go.Oe
abbrev tPQ:Ty:=.pr .s' (.pr .s' .b')
abbrev tLQ:Ty:=.l' 65 40 tPQ
noncomputable section
noncomputable def gT:List (Nat×Ob):=[(0,.ro .s' ark),(1,.ro (.pr .s' (.i' .i64)) axc),(3,.ro .s' ana)]
noncomputable def glo:Glo where
 gs:=gT
 p w S:=Gl w∧∀b∈S,9≤b
 st h hp hS:=⟨hp.1.hp h hp.2,fun b hb=>(hS b hb).elim (fun h1=>Nat.le_trans hp.1.gs h1) (hp.2 b)⟩
 rd:=by
  intro w S g t l hp hm
  have hn:∀g,g<9→g∉S:=fun g hg hs=>Nat.lt_irrefl _ (Nat.lt_of_lt_of_le hg (hp.2 g hs))
  unfold gT at hm
  cases hm with
  |head=>exact⟨hp.1.specials.rd,hn _ (by decide)⟩
  |tail _ hm=>
  cases hm with
  |head=>exact⟨hp.1.kinds.rd,hn _ (by decide)⟩
  |tail _ hm=>
  cases hm with
  |head=>exact⟨hp.1.classes.rd,hn _ (by decide)⟩
  |tail _ hm=>
  cases hm
noncomputable def oE(t:Nat):Option (Nat×Nat×Ty):=bif Nat.beq t 22 then some (65,40,.pr .s' (.pr .s' .b'))else bif Nat.beq t 70 then some (9,16,.s')else bif Nat.beq t 85 then some (5,1,.c')else bif Nat.beq t 128 then some (132,24,.pr (.i' .i64) .s')else none
theorem oEh:∀t e b τ,oE t=some (e,b,τ)→Tryz.prog.underlying t=some (.slice e)∧TI Tryz.prog e τ.sz b∧τ.flat=true∧0<b:=by
 intro t e b τ h
 unfold oE at h
 cases h22:Nat.beq t 22 with
 |true=>rw [h22]at h;cases h;rw [Nat.eq_of_beq_eq_true h22];exact⟨Tryz.underlying22,by unfold TI;kernel_rfl,rfl,by decide⟩
 |false=>
 rw [h22]at h
 simp only [cond_false]at h
 cases h70:Nat.beq t 70 with
 |true=>rw [h70]at h;cases h;rw [Nat.eq_of_beq_eq_true h70];exact⟨Tryz.underlying70,by unfold TI;kernel_rfl,rfl,by decide⟩
 |false=>
 rw [h70]at h
 simp only [cond_false]at h
 cases h85:Nat.beq t 85 with
 |true=>rw [h85]at h;cases h;rw [Nat.eq_of_beq_eq_true h85];exact⟨Tryz.underlying85,by unfold TI;kernel_rfl,rfl,by decide⟩
 |false=>
 rw [h85]at h
 simp only [cond_false]at h
 cases h128:Nat.beq t 128 with
 |true=>rw [h128]at h;cases h;rw [Nat.eq_of_beq_eq_true h128];exact⟨Tryz.underlying128,by unfold TI;kernel_rfl,rfl,by decide⟩
 |false=>
 rw [h128]at h
 simp only [cond_false]at h
 cases h
theorem gTt:∀q∈glo.gs,∃t l,q.2=.ro t l:=by
 intro q hm
 have hm:q∈gT:=hm
 unfold gT at hm
 cases hm with
 |head=>exact⟨_,_,rfl⟩
 |tail _ hm=>
 cases hm with
 |head=>exact⟨_,_,rfl⟩
 |tail _ hm=>
 cases hm with
 |head=>exact⟨_,_,rfl⟩
 |tail _ hm=>
 cases hm
noncomputable def sea:Sea:=⟨Tryz.prog,glo,oE,oEh,gTt⟩
noncomputable def kf(fu k : Nat)(fn : Func)(hf : sea.P.funcs[k]? = some fn)(hb : fn.body = some (fn.body.getD .skip))(nm : (fn.name == "runtime.NumGoroutine") = false)(l : List sea.K)(a : List Ty)(r : List Rk)(g : (tupT a).T → Option (resT r).T)(sc : Sc)(hal : Nat.ble a.length fn.ntmps = true)(hden : ∀ x, denF (sea.cx fu fn.ntmps l a) (sea.GS.gs.map (·.2)) (fn.body.getD .skip) fn.results.toList sc a r x = g x) : sea.K := sea.fn fu k hf hb nm l a r g sc hal hden
noncomputable def ard:sea.K:=⟨32,⟨[.s',.s'],[.r' (.i' .i64)],fun x=>.gs [⟨x.1.length≤1000000000∧x.2.length≤1000∧x.2.all (fun b=>decide (b.toNat<128))=true,inferInstance⟩] (Lib.indexAny x.1 x.2)⟩,⟨Tryz.f32,_,Tryz.func32,rfl,by kernel_rfl⟩,aqr (fun x=>[str x.1,str x.2]) (fun y=>.int .i64 y) (fun _=>rfl) (fun _ _=>rfl) (fun _ _=>rfl) (fun _ _ _=>rfl) fun w S x y hG hy=>by obtain⟨⟨h0,_⟩,rfl⟩:=hy;exact sh_IndexAnyW x.1 x.2 w h0 hG.1⟩
noncomputable def avy:sea.K:=⟨50,⟨[.i' .i64],[.r' (.s')],fun x=>.gs [⟨aap x,inferInstance⟩] (Lib.itoa x)⟩,⟨Tryz.f50,_,Tryz.func50,rfl,by kernel_rfl⟩,aqr (fun x=>[.int .i64 x]) (fun y=>str y) (fun _=>rfl) (fun _ _=>rfl) (fun _ _=>rfl) (fun _ _ _=>rfl) fun w S x y hG hy=>by obtain⟨⟨h0,_⟩,rfl⟩:=hy;exact sh_Itoa x w h0 hG.1⟩
noncomputable def avw:sea.K:=⟨59,⟨[.r' .s',.s'],[.r' .s'],fun x=>.gs [⟨x.1.length≤1000000000∧(Lib.join x.1 x.2).length≤100000000000,inferInstance⟩] (Lib.join x.1 x.2)⟩,⟨Tryz.f59,_,Tryz.func59,rfl,by kernel_rfl⟩,fok_read (t:=.s') (fun x=>x.1) (fun x=>[str x.2]) (fun y=>str y) (fun _=>rfl) (fun _ _=>rfl) (fun _ _=>rfl) (fun _ _ _=>rfl) fun w S x y a n cap hG hy hn hR hc=>by
  obtain⟨⟨h0,_⟩,rfl⟩:=hy
  exact sh_Join x.2 w a n cap x.1 hn hR hc h0⟩
noncomputable def kf_clone68:sea.K:=⟨68,⟨[.r' tPQ],[.r' tLQ],fun x=>.gs [⟨(0+x.length)*40≤140737488355328,inferInstance⟩] x⟩,⟨Tryz.f68,_,Tryz.func68,rfl,by kernel_rfl⟩,fok_clone (e:=65) (b:=40) (t:=.pr .s' (.pr .s' .b')) (fun x=>x) (fun y=>y) (fun _=>rfl) (fun _ _=>rfl) (fun _ _=>rfl) (fun _ _ _=>rfl) fun w S x y a n cap hG hy hn hR hc=>by
  obtain⟨⟨h0,_⟩,rfl⟩:=hy
  exact sh_Clone68 x w a n cap hn hR h0⟩
noncomputable def kf_strings_Trim:sea.K:=⟨75,⟨[.s',.s'],[.r' (.s')],fun x=>.gs [⟨x.1.length≤1000000000,inferInstance⟩,⟨x.2.length≤1000∧x.2.all (fun b=>decide (b.toNat<128))=true,inferInstance⟩] (Lib.trimS x.1 x.2)⟩,⟨Tryz.f75,_,Tryz.func75,rfl,by kernel_rfl⟩,aqr (fun x=>[str x.1,str x.2]) (fun y=>str y) (fun _=>rfl) (fun _ _=>rfl) (fun _ _=>rfl) (fun _ _ _=>rfl) fun w S x y hG hy=>by obtain⟨⟨h0,h1,_⟩,rfl⟩:=hy;exact sh_Trim x.1 x.2 w h0 h1⟩
noncomputable def ayf:sea.K:=⟨83,⟨[.s',.c'],[.r' (.i' .i64)],fun x=>.gs [⟨x.1.length≤1000000000,inferInstance⟩] (lixb (·==x.2) x.1)⟩,⟨Tryz.f83,_,Tryz.func83,rfl,by kernel_rfl⟩,aqr (fun x=>[str x.1,bt x.2]) (fun y=>.int .i64 y) (fun _=>rfl) (fun _ _=>rfl) (fun _ _=>rfl) (fun _ _ _=>rfl) fun w S x y hG hy=>by obtain⟨⟨h0,_⟩,rfl⟩:=hy;exact sh_LastIndexByte x.1 x.2 w h0⟩
noncomputable def avx:sea.K:=⟨84,⟨[.s',.s'],[.r' (.b')],fun x=>.gs [⟨x.1.length≤1000000000,inferInstance⟩] (Lib.contains x.1 x.2)⟩,⟨Tryz.f84,_,Tryz.func84,rfl,by kernel_rfl⟩,aqr (fun x=>[str x.1,str x.2]) (fun y=>.bool y) (fun _=>rfl) (fun _ _=>rfl) (fun _ _=>rfl) (fun _ _ _=>rfl) fun w S x y hG hy=>by obtain⟨⟨h0,_⟩,rfl⟩:=hy;exact sh_Contains x.1 x.2 w h0 hG.1⟩
noncomputable def kf_builderString:sea.K:=⟨105,⟨[.p' 111 (.pr .z' (.l' 5 1 .c'))],[.r' .s'],fun x=>.gs [⟨x.2.length≤140737488355328,inferInstance⟩] x.2⟩,⟨Tryz.f105,_,Tryz.func105,rfl,by kernel_rfl⟩,fok_bstr Tryz.lays169 Tryz.Builder_Extra_169 _⟩
noncomputable def aha:sea.K:=⟨144,⟨[.s',.c'],[.r' (.i' .i64)],fun x=>.gs [] (ixb (·==x.2) x.1)⟩,⟨Tryz.f144,_,Tryz.func144,rfl,by kernel_rfl⟩,aqr (fun x=>[str x.1,bt x.2]) (fun y=>.int .i64 y) (fun _=>rfl) (fun _ _=>rfl) (fun _ _=>rfl) (fun _ _ _=>rfl) fun w S x y hG hy=>by obtain⟨_,rfl⟩:=hy;exact sh_IndexByte x.1 x.2 w⟩
noncomputable def kf_strings_Cut:sea.K:=⟨150,⟨[.s',.s'],[.r' (.s'),.r' (.s'),.r' (.b')],fun x=>.gs [⟨x.1.length≤1000000000,inferInstance⟩] ((Lib.cut x.1 x.2).1,(Lib.cut x.1 x.2).2.1,(Lib.cut x.1 x.2).2.2)⟩,⟨Tryz.f150,_,Tryz.func150,rfl,by kernel_rfl⟩,aqr (fun x=>[str x.1,str x.2]) (fun y=>.tuple #[str y.1,str y.2.1,.bool y.2.2]) (fun _=>rfl) (fun _ _=>rfl) (fun _ _=>rfl) (fun _ _ _=>rfl) fun w S x y hG hy=>by obtain⟨⟨h0,_⟩,rfl⟩:=hy;exact sh_Cut x.1 x.2 w h0 hG.1⟩
noncomputable def kf_strings_Split:sea.K:=⟨152,⟨[.s',.s'],[.r' (.l' 9 16 .s')],fun x=>match x.2 with|[c]=>.gs [⟨x.1.length≤1000000000,inferInstance⟩] (spl c x.1)|_=>.one none⟩,⟨Tryz.f152,_,Tryz.func152,rfl,by kernel_rfl⟩,fok_row (e:=9) (b:=16) (t:=.s') (fun y=>y) (fun x=>[str x.1,str x.2]) (fun _=>rfl) (fun _ _=>rfl) (fun _ _=>rfl) (fun _ _ _=>rfl) fun w S x y hG hy=>by
  obtain⟨s,c⟩:=x
  match c,hy with
  |[c],hy=>obtain⟨⟨h0,_⟩,rfl⟩:=hy;exact sh_Split s c w h0 hG.1
  |[],hy=>cases hy
  |_::_::_,hy=>cases hy⟩
noncomputable def kf_copyCheck:sea.K:=⟨165,⟨[.p' 111 (.pr .z' (.l' 5 1 .c'))],[.o' 0 111 (.pr .z' (.l' 5 1 .c'))],fun x=>.gs [] x⟩,⟨Tryz.f165,_,Tryz.func165,rfl,by kernel_rfl⟩,fok_bcc sh_copyCheck⟩
noncomputable def kf_strings_TrimLeft:sea.K:=⟨191,⟨[.s',.s'],[.r' (.s')],fun x=>.gs [⟨x.1.length≤1000000000,inferInstance⟩,⟨x.2.length≤1000∧x.2.all (fun b=>decide (b.toNat<128))=true,inferInstance⟩] (Lib.trimLeftS x.1 x.2)⟩,⟨Tryz.f191,_,Tryz.func191,rfl,by kernel_rfl⟩,aqr (fun x=>[str x.1,str x.2]) (fun y=>str y) (fun _=>rfl) (fun _ _=>rfl) (fun _ _=>rfl) (fun _ _ _=>rfl) fun w S x y hG hy=>by obtain⟨⟨h0,h1,_⟩,rfl⟩:=hy;exact sh_TrimLeft x.1 x.2 w h0 h1⟩
noncomputable def kf_strings_TrimRight:sea.K:=⟨205,⟨[.s',.s'],[.r' (.s')],fun x=>.gs [⟨x.1.length≤1000000000,inferInstance⟩,⟨x.2.length≤1000∧x.2.all (fun b=>decide (b.toNat<128))=true,inferInstance⟩] (Lib.trimRightS x.1 x.2)⟩,⟨Tryz.f205,_,Tryz.func205,rfl,by kernel_rfl⟩,aqr (fun x=>[str x.1,str x.2]) (fun y=>str y) (fun _=>rfl) (fun _ _=>rfl) (fun _ _=>rfl) (fun _ _ _=>rfl) fun w S x y hG hy=>by obtain⟨⟨h0,h1,_⟩,rfl⟩:=hy;exact sh_TrimRight x.1 x.2 w h0 h1⟩
noncomputable def kf_strings_CutPrefix:sea.K:=⟨217,⟨[.s',.s'],[.r' (.s'),.r' (.b')],fun x=>.gs [] (Lib.trimPrefix x.1 x.2,Lib.hasPrefix x.1 x.2)⟩,⟨Tryz.f217,_,Tryz.func217,rfl,by kernel_rfl⟩,aqr (fun x=>[str x.1,str x.2]) (fun y=>.tuple #[str y.1,.bool y.2]) (fun _=>rfl) (fun _ _=>rfl) (fun _ _=>rfl) (fun _ _ _=>rfl) fun w S x y hG hy=>by obtain⟨_,rfl⟩:=hy;exact sh_CutPrefix x.1 x.2 w⟩
noncomputable def kf_strings_TrimPrefix:sea.K:=⟨236,⟨[.s',.s'],[.r' (.s')],fun x=>.gs [] (Lib.trimPrefix x.1 x.2)⟩,⟨Tryz.f236,_,Tryz.func236,rfl,by kernel_rfl⟩,aqr (fun x=>[str x.1,str x.2]) (fun y=>str y) (fun _=>rfl) (fun _ _=>rfl) (fun _ _=>rfl) (fun _ _ _=>rfl) fun w S x y hG hy=>by obtain⟨_,rfl⟩:=hy;exact sh_TrimPrefix x.1 x.2 w⟩
end
open Go.Wk Go.Px Go.Oe
noncomputable def aqd(fu:Nat):sea.K:=kf fu 27 Tryz.f27 Tryz.func27 rfl rfl [kf_strings_Trim] [.s'] [.r' (.s')] (fun x=>akb fu x) (.n') rfl (fun x=>by kernel_rfl)
noncomputable def are(fu:Nat):sea.K:=kf fu 78 Tryz.f78 Tryz.func78 rfl rfl [] [.c'] [.r' (.b')] (fun x=>ajz fu x) (.s' .n' (.j' [.s' 2 (.b')] [0,1,2,6] .n' .n')) rfl (fun x=>by kernel_rfl)
noncomputable def amg(fu:Nat):sea.K:=kf fu 76 Tryz.f76 Tryz.func76 rfl rfl [are fu] [.s',.i' .i64,.f' 78 .u'] [.r' (.i' .i64)] (fun x=>agy fu x.1 x.2.1) (.s' .n' (.s' .n' (.j' [.s' 1 (.i' .i64)] [] (.l' [.s' 1 (.i' .i64)] (.s' (.j' [.s' 22 (.b')] [0,1,3,4] .n' .n') .n')) .n'))) rfl (fun x=>by kernel_rfl)
noncomputable def asb(fu:Nat):sea.K:=kf fu 31 Tryz.f31 Tryz.func31 rfl rfl [amg fu,are fu] [.s',.i' .i64] [.r' (.i' .i64)] (fun x=>akp fu x.1 x.2) (.n') rfl (fun x=>by kernel_rfl)
noncomputable def ael(fu:Nat):sea.K:=kf fu 88 Tryz.f88 Tryz.func88 rfl rfl [asb fu] [.p' 99 (.pr (.w' .s') (.i' .i64))] [.o' 0 99 (.pr (.w' .s') (.i' .i64))] (fun x=>abn fu x) (.n') rfl (fun x=>by kernel_rfl)
noncomputable def ahk(fu:Nat):sea.K:=kf fu 89 Tryz.f89 Tryz.func89 rfl rfl [] [.p' 99 (.pr (.w' .s') (.i' .i64))] [.r' (.b')] (fun x=>ach fu x) (.n') rfl (fun x=>by kernel_rfl)
noncomputable def abu(fu:Nat):sea.K:=kf fu 90 Tryz.f90 Tryz.func90 rfl rfl [ahk fu] [.p' 99 (.pr (.w' .s') (.i' .i64)),.c'] [.r' (.b')] (fun x=>aad fu x.1 x.2) (.s' .n' (.j' [.s' 4 (.b')] [] .n' .n')) rfl (fun x=>by kernel_rfl)
noncomputable def kf_lexis_char_escaped(fu:Nat):sea.K:=kf fu 194 Tryz.f194 Tryz.func194 rfl rfl [] [.c'] [.r' (.b')] (fun x=>ald fu x) (.s' .n' (.j' [.s' 2 (.b')] [0,1,2,6] .n' .n')) rfl (fun x=>by kernel_rfl)
noncomputable def auc(fu:Nat):sea.K:=kf fu 135 Tryz.f135 Tryz.func135 rfl rfl [] [.c'] [.r' (.b')] (fun x=>ahd fu x) (.s' .n' (.j' [.s' 2 (.b')] [0,1,2,6,10] .n' .n')) rfl (fun x=>by kernel_rfl)
noncomputable def auq(fu:Nat):sea.K:=kf fu 157 Tryz.f157 Tryz.func157 rfl rfl [auc fu,kf_lexis_char_escaped fu] [.s',.i' .i64] [.r' (.s'),.r' (.i' .i64),.r' (.c')] (fun x=>aop fu x.1 x.2) (.s' .n' (.s' (.j' [.s' 17 (.b')] [0,1,2] .n' .n') (.s' (.j' [.s' 27 (.b')] [0,1,3,4] .n' .n') (.s' .n' (.s' .n' (.s' .n' (.r' [.s' 7 (.l' 5 1 .c'),.s' 8 (.i' .i64)] [] (.l' [.s' 7 (.l' 5 1 .c'),.s' 8 (.i' .i64)] .n') .n'))))))) rfl (fun x=>by kernel_rfl)
noncomputable def ave(fu:Nat):sea.K:=kf fu 120 Tryz.f120 Tryz.func120 rfl rfl [ael fu,abu fu,auq fu] [.p' 99 (.pr (.w' .s') (.i' .i64)),.p' 38 (.pr .s' (.pr (.pr .s' (.pr .s' (.pr .s' (.pr (.i' .i64) (.pr tLQ tLQ))))) tLQ))] [.r' (.i' .i64),.r' (.c'),.o' 0 99 (.pr (.w' .s') (.i' .i64)),.o' 1 38 (.pr .s' (.pr (.pr .s' (.pr .s' (.pr .s' (.pr (.i' .i64) (.pr tLQ tLQ))))) tLQ))] (fun x=>afi fu x.1 x.2) (.n') rfl (fun x=>by kernel_rfl)
noncomputable def awa(fu:Nat):sea.K:=kf fu 77 Tryz.f77 Tryz.func77 rfl rfl [] [.c'] [.r' (.b')] (fun x=>anv fu x) (.s' .n' (.r' [] [] (.s' (.j' [.s' 3 (.b')] [0,1,2,6] .n' (.s' .n' (.j' [.s' 3 (.b')] [0,1,2,6] .n' .n'))) .n') .n')) rfl (fun x=>by kernel_rfl)
noncomputable def aub(fu:Nat):sea.K:=kf fu 76 Tryz.f76 Tryz.func76 rfl rfl [awa fu] [.s',.i' .i64,.f' 77 .u'] [.r' (.i' .i64)] (fun x=>aed fu x.1 x.2.1) (.s' .n' (.s' .n' (.j' [.s' 1 (.i' .i64)] [] (.l' [.s' 1 (.i' .i64)] (.s' (.j' [.s' 22 (.b')] [0,1,3,4] .n' .n') .n')) .n'))) rfl (fun x=>by kernel_rfl)
noncomputable def aow(fu:Nat):sea.K:=kf fu 30 Tryz.f30 Tryz.func30 rfl rfl [amg fu,aub fu,awa fu] [.s',.i' .i64] [.r' (.i' .i64)] (fun x=>afo fu x.1 x.2) (.n') rfl (fun x=>by kernel_rfl)
noncomputable def ase(fu:Nat):sea.K:=kf fu 156 Tryz.f156 Tryz.func156 rfl rfl [aow fu] [.p' 99 (.pr (.w' .s') (.i' .i64))] [.r' (.s'),.o' 0 99 (.pr (.w' .s') (.i' .i64))] (fun x=>ady fu x) (.n') rfl (fun x=>by kernel_rfl)
noncomputable def awe(fu:Nat):sea.K:=kf fu 121 Tryz.f121 Tryz.func121 rfl rfl [avw,ael fu,abu fu,ase fu] [.p' 99 (.pr (.w' .s') (.i' .i64)),.p' 38 (.pr .s' (.pr (.pr .s' (.pr .s' (.pr .s' (.pr (.i' .i64) (.pr tLQ tLQ))))) tLQ))] [.r' (.i' .i64),.r' (.c'),.o' 0 99 (.pr (.w' .s') (.i' .i64)),.o' 1 38 (.pr .s' (.pr (.pr .s' (.pr .s' (.pr .s' (.pr (.i' .i64) (.pr tLQ tLQ))))) tLQ))] (fun x=>aco fu x.1 x.2) (.s' .n' (.s' .n' (.r' [.s' 6 (.l' 9 16 .s'),.o' 0 0 (.s'),.o' 0 1 (.i' .i64)] [] (.l' [.s' 6 (.l' 9 16 .s'),.o' 0 0 (.s'),.o' 0 1 (.i' .i64)] .n') .n'))) rfl (fun x=>by kernel_rfl)
noncomputable def agf(fu:Nat):sea.K:=kf fu 158 Tryz.f158 Tryz.func158 rfl rfl [ard] [.w' .s',.i' .i64,.s'] [.r' (.i' .i64)] (fun x=>aak fu x.1 x.2.1 x.2.2) (.n') rfl (fun x=>by kernel_rfl)
noncomputable def aeb(fu:Nat):sea.K:=kf fu 67 Tryz.f67 Tryz.func67 rfl rfl [] [.s'] [.r' (.s')] (fun x=>ack fu x) (.s' .n' (.s' .n' (.j' [.w' 3 (.y')] [] (.s' .n' (.l' [.w' 3 (.y'),.s' 10 (.i' .i64)] (.s' .n' (.s' .n' (.s' (.s' .n' (.j' [.s' 20 (.b')] [0,1,2] .n' .n')) .n'))))) .n'))) rfl (fun x=>by kernel_rfl)
noncomputable def ayi(fu:Nat):sea.K:=kf fu 155 Tryz.f155 Tryz.func155 rfl rfl [] [.c'] [.r' (.b')] (fun x=>aji fu x) (.s' .n' (.j' [.s' 2 (.b')] [0,1,2,6,14] .n' .n')) rfl (fun x=>by kernel_rfl)
noncomputable def amv(fu:Nat):sea.K:=kf fu 153 Tryz.f153 Tryz.func153 rfl rfl [] [.c'] [.r' (.b')] (fun x=>acw fu x) (.s' .n' (.j' [.s' 2 (.b')] [0,1,2,6] .n' .n')) rfl (fun x=>by kernel_rfl)
noncomputable def awx(fu:Nat):sea.K:=kf fu 178 Tryz.f178 Tryz.func178 rfl rfl [aha,amv fu,ayi fu] [.c',.i' .i64] [.r' (.b')] (fun x=>alw fu x.1 x.2) (.s' .n' (.s' (.j' [.s' 15 (.b')] [0,2,6] .n' .n') (.j' [.s' 4 (.b')] [0,1,2,6,14] .n' .n'))) rfl (fun x=>by kernel_rfl)
noncomputable def awc(fu:Nat):sea.K:=kf fu 190 Tryz.f190 Tryz.func190 rfl rfl [amv fu] [.c'] [.r' (.c'),.r' (.b')] (fun x=>adu fu x) (.s' .n' (.s' (.s' .n' (.s' .n' (.j' [.s' 9 (.b')] [0,1,2,6] .n' (.s' .n' (.j' [.s' 19 (.b')] [0,1,2,6] .n' .n'))))) .n')) rfl (fun x=>by kernel_rfl)
noncomputable def awd(fu:Nat):sea.K:=kf fu 248 Tryz.f248 Tryz.func248 rfl rfl [awc fu] [.s',.i' .i64] [.r' (.c'),.r' (.b')] (fun x=>akd fu x.1 x.2) (.s' .n' (.s' (.j' [.s' 20 (.b')] [0,1,2,4,5] .n' .n') (.s' .n' (.s' .n' (.j' [.s' 5 (.b')] [0,1,2,3,4,5,8,9] .n' .n'))))) rfl (fun x=>by kernel_rfl)
noncomputable def awy(fu:Nat):sea.K:=kf fu 216 Tryz.f216 Tryz.func216 rfl rfl [] [.c'] [.r' (.b')] (fun x=>apo fu x) (.s' .n' (.j' [.s' 2 (.b')] [0,1,2,6,10] .n' .n')) rfl (fun x=>by kernel_rfl)
noncomputable def asd(fu:Nat):sea.K:=kf fu 234 Tryz.f234 Tryz.func234 rfl rfl [awx fu,awy fu,awd fu] [.p' 99 (.pr (.w' .s') (.i' .i64)),.i' .i64,.i' .i64] [.r' (.i' .i64),.r' (.b')] (fun x=>adx fu x.1 x.2.1 x.2.2) (.s' .n' (.r' [] [] (.s' .n' (.l' [.s' 8 (.i' .i64)] (.s' .n' (.s' (.s' .n' (.s' .n' (.s' (.j' [.s' 46 (.b')] [0,1,2] .n' .n') .n'))) .n')))) .n')) rfl (fun x=>by kernel_rfl)
noncomputable def kf_address_Unescape(fu:Nat):sea.K:=kf fu 249 Tryz.f249 Tryz.func249 rfl rfl [awd fu] [.s'] [.r' (.s'),.r' (.i' .i64),.r' (.c')] (fun x=>asw fu x) (.s' .n' (.s' .n' (.r' [.s' 5 (.l' 5 1 .c')] [] (.s' .n' (.l' [.s' 5 (.l' 5 1 .c'),.s' 6 (.i' .i64)] .n')) .n'))) rfl (fun x=>by kernel_rfl)
noncomputable def awz(fu:Nat):sea.K:=kf fu 235 Tryz.f235 Tryz.func235 rfl rfl [kf_address_Unescape fu] [.s'] [.r' (.s')] (fun x=>aic fu x) (.n') rfl (fun x=>by kernel_rfl)
noncomputable def kf_address_groupList(fu:Nat):sea.K:=kf fu 151 Tryz.f151 Tryz.func151 rfl rfl [aeb fu,kf_strings_Split,awc fu,kf_strings_TrimLeft] [.s'] [.r' (.l' 9 16 .s'),.r' (.b')] (fun x=>aei fu x) (.s' .n' (.s' .n' (.r' [.w' 4 (.l' 9 16 .s')] [] (.s' .n' (.l' [.w' 4 (.l' 9 16 .s'),.s' 14 (.i' .i64)] (.s' .n' (.s' .n' (.r' [.w' 4 (.l' 9 16 .s')] [] (.s' .n' (.s' (.j' [.s' 26 (.b')] [0,2,3] .n' .n') (.r' [] [] (.s' .n' (.l' [.s' 29 (.i' .i64)] .n')) .n'))) .n'))))) .n'))) rfl (fun x=>by kernel_rfl)
noncomputable def kf_address_groups(fu:Nat):sea.K:=kf fu 85 Tryz.f85 Tryz.func85 rfl rfl [avw,kf_strings_Cut,kf_address_groupList fu] [.s'] [.r' (.s'),.r' (.b')] (fun x=>aqx fu x) (.s' .n' (.s' .n' (.s' .n' (.s' (.s' .n' (.s' (.s' .n' (.j' [.s' 2 (.s'),.s' 3 (.b')] [0,2,3,8,9] .n' .n')) .n')) (.s' .n' (.s' .n' (.j' [.s' 9 (.l' 9 16 .s'),.s' 11 (.b')] [] .n' (.j' [.s' 10 (.l' 9 16 .s'),.s' 12 (.b')] [] .n' (.s' (.j' [.s' 64 (.b')] [0,1,2,6] .n' .n') .n'))))))))) rfl (fun x=>by kernel_rfl)
noncomputable def kf_address_numbers(fu:Nat):sea.K:=kf fu 86 Tryz.f86 Tryz.func86 rfl rfl [avy,kf_strings_Split,amv fu] [.s'] [.r' (.b')] (fun x=>apm fu x) (.s' .n' (.s' .n' (.s' .n' (.r' [] [] (.s' .n' (.l' [.s' 15 (.i' .i64)] (.s' .n' (.s' .n' (.r' [] [] (.s' .n' (.s' .n' (.r' [.s' 6 (.i' .i64)] [] (.s' .n' (.l' [.s' 6 (.i' .i64),.s' 21 (.i' .i64)] .n')) (.j' [.s' 49 (.b')] [0,1,2,6] .n' .n')))) .n'))))) .n')))) rfl (fun x=>by kernel_rfl)
theorem ent149:Go.Wk.Enters Tryz.prog 149:=⟨Tryz.f149,_,Tryz.func149,rfl,by kernel_rfl⟩
theorem ent153:Go.Wk.Enters Tryz.prog 153:=⟨Tryz.f153,_,Tryz.func153,rfl,by kernel_rfl⟩
theorem ent154:Go.Wk.Enters Tryz.prog 154:=⟨Tryz.f154,_,Tryz.func154,rfl,by kernel_rfl⟩
theorem ent155:Go.Wk.Enters Tryz.prog 155:=⟨Tryz.f155,_,Tryz.func155,rfl,by kernel_rfl⟩
theorem ent193:Go.Wk.Enters Tryz.prog 193:=⟨Tryz.f193,_,Tryz.func193,rfl,by kernel_rfl⟩
theorem ent227:Go.Wk.Enters Tryz.prog 227:=⟨Tryz.f227,_,Tryz.func227,rfl,by kernel_rfl⟩
theorem ayu{fu:Nat}{x0:UInt8}{r:Bool}(hr:acw fu x0=some r){w:World}(hG:Gl w):CR Tryz.prog 153 [bt x0] w fun v w2=>v=.bool r∧Hp w [] [] w2:=
 fok_use (x:=x0) (y:=r) (amv fu).ok (fun x=>[bt x]) (fun r=>.bool r) (fun _=>rfl) (fun _ _=>rfl) (fun _ _ _=>rfl) ⟨hG,fun b hb=>by cases hb⟩ hr
theorem K_L_address_letter{fu:Nat}{x0:UInt8}{r:Bool}(hr:aji fu x0=some r){w:World}(hG:Gl w):CR Tryz.prog 155 [bt x0] w fun v w2=>v=.bool r∧Hp w [] [] w2:=
 fok_use (x:=x0) (y:=r) (ayi fu).ok (fun x=>[bt x]) (fun r=>.bool r) (fun _=>rfl) (fun _ _=>rfl) (fun _ _ _=>rfl) ⟨hG,fun b hb=>by cases hb⟩ hr
theorem K_L_strings_splitSeq{fu:Nat}{s_0:Str}{sep_1:Str}{sepSave_2:Int}{w:World}{r:(Str×Str×Int)}(hr:ank fu s_0 sep_1 sepSave_2=some r)(hG:Gl w):CR Tryz.prog 193 [(str s_0),(str sep_1),(Value.int .i64 sepSave_2)] w fun v w'=>∃(b0:Nat),∃(b1:Nat),∃(b2:Nat),v=(Value.func (.func 227) #[] #[(Value.pointer (some ⟨b0,0,none⟩)),(Value.pointer (some ⟨b1,0,none⟩)),(Value.pointer (some ⟨b2,0,none⟩))])∧Hp w [] [blk b0 [(str r.1)] 9,blk b1 [(str r.2.1)] 9,blk b2 [(Value.int .i64 r.2.2)] 3] w':=by
 have hH:Hp w [] [] w:=Hp.refl w
 refine enter (k:=8) Tryz.func193 rfl rfl (Nat.le_of_ble_eq_true rfl) ?_
 unfold ank at hr
 refine sr (w_new hH [(str s_0)] 9 (fun b=>(Value.pointer (some ⟨b,0,none⟩))) rfl rfl krf fun b1 w2 hH3=>w_new hH3 [(str sep_1)] 9 (fun b=>(Value.pointer (some ⟨b,0,none⟩))) rfl rfl krf fun b4 w5 hH6=>w_new hH6 [(Value.int .i64 sepSave_2)] 3 (fun b=>(Value.pointer (some ⟨b,0,none⟩))) rfl rfl krf fun b7 w8 hH9=>wp 1 (nq (sr ?_)))
 refine wp 2 (nq (ct ?_))
 obtain rfl:=oi hr
 refine r_one (Value.func (.func 227) #[] #[(Value.pointer (some ⟨b4,0,none⟩)),(Value.pointer (some ⟨b1,0,none⟩)),(Value.pointer (some ⟨b7,0,none⟩))]) rfl krf ?_
 exact⟨b4,b1,b7,(by first|rfl|(simp;done)|(simp;omega)),(Hp.front (Hp.front hH9 2 _ rfl) 2 _ rfl).kp⟩
theorem K_L_strings_SplitSeq{fu:Nat}{s_0:Str}{sep_1:Str}{w:World}{r:(Str×Str×Int)}(hr:anl fu s_0 sep_1=some r)(hG:Gl w):CR Tryz.prog 154 [(str s_0),(str sep_1)] w fun v w'=>∃(b0:Nat),∃(b1:Nat),∃(b2:Nat),v=(Value.func (.func 227) #[] #[(Value.pointer (some ⟨b0,0,none⟩)),(Value.pointer (some ⟨b1,0,none⟩)),(Value.pointer (some ⟨b2,0,none⟩))])∧Hp w [] [blk b0 [(str r.1)] 9,blk b1 [(str r.2.1)] 9,blk b2 [(Value.int .i64 r.2.2)] 3] w':=by
 have hH:Hp w [] [] w:=Hp.refl w
 refine enter (k:=8) Tryz.func154 rfl rfl (Nat.le_of_ble_eq_true rfl) ?_
 unfold anl at hr
 refine sr (wp 1 (nq (sr (wp 2 (bi hr fun y1 hy2 hr=>w_call 193 #[] [(str s_0),(str sep_1),(Value.int .i64 (0:Int))] _ ent193 krf krf (K_L_strings_splitSeq hy2 (hG.hp0 hH)) ?_)))))
 rintro _ w3 ⟨b6,b7,b8,rfl,hq5⟩
 have hH4:Hp w [] [blk b6 [(str y1.1)] 9,blk b7 [(str y1.2.1)] 9,blk b8 [(Value.int .i64 y1.2.2)] 3] w3:=Hp.callK (L1:=[]) (L2:=[]) hH hq5;clear hq5
 refine wp 1 (nq (ct ?_))
 obtain rfl:=oi hr
 refine r_one (Value.func (.func 227) #[] #[(Value.pointer (some ⟨b6,0,none⟩)),(Value.pointer (some ⟨b7,0,none⟩)),(Value.pointer (some ⟨b8,0,none⟩))]) rfl krf ?_
 exact⟨b6,b7,b8,(by first|rfl|(simp;done)|(simp;omega)),(Hp.front (Hp.front (Hp.front hH4 2 _ rfl) 2 _ rfl) 2 _ rfl).kp⟩
theorem aoc{fu:Nat}{x_1:Bool}{x_3:Bool}{x_5:Str}{x_7:Str}{x_9:Int}(l_0:Nat)(rc_0:Loop)(b_2:Nat)(b_4:Nat)(b_6:Nat)(b_8:Nat)(b_10:Nat){w:World}{r:(Bool×Bool×Str×Nat)}(hr:acd fu x_1 x_3 x_5 x_7 x_9=some r)(hG:Gl w)(hM:Hp w (axy [aoi l_0 0 rc_0,blk b_2 [(Value.bool x_1)] 4,blk b_4 [(Value.bool x_3)] 4,blk b_6 [(str x_5)] 9,blk b_8 [(str x_7)] 9,blk b_10 [(Value.int .i64 x_9)] 3]) [aoi l_0 0 rc_0,blk b_2 [(Value.bool x_1)] 4,blk b_4 [(Value.bool x_3)] 4,blk b_6 [(str x_5)] 9,blk b_8 [(str x_7)] 9,blk b_10 [(Value.int .i64 x_9)] 3] w)(hS:∀b∈axy [aoi l_0 0 rc_0,blk b_2 [(Value.bool x_1)] 4,blk b_4 [(Value.bool x_3)] 4,blk b_6 [(str x_5)] 9,blk b_8 [(str x_7)] 9,blk b_10 [(Value.int .i64 x_9)] 3],9≤b)(HY_0:∀(x220:Str) (c221:Bool) (c222:Bool) (w_:World),Hp w (axy [aoi l_0 0 rc_0,blk b_2 [(Value.bool x_1)] 4,blk b_4 [(Value.bool x_3)] 4,blk b_6 [(str x_5)] 9,blk b_8 [(str x_7)] 9,blk b_10 [(Value.int .i64 x_9)] 3]) [aoi l_0 0 rc_0,blk b_2 [(Value.bool c221)] 4,blk b_4 [(Value.bool c222)] 4] w_→∀(yr:(Nat×Bool×Bool)),acu fu x220 c221 c222=some yr→YR Tryz.prog l_0 [(str x220)] w_ fun v w_2=>v=Value.bool (decide (yr.1=0))∧Hp w_ (axy [aoi l_0 0 rc_0,blk b_2 [(Value.bool c221)] 4,blk b_4 [(Value.bool c222)] 4]) [aoi l_0 yr.1 rc_0,blk b_2 [(Value.bool yr.2.1)] 4,blk b_4 [(Value.bool yr.2.2)] 4] w_2):CR Tryz.prog 227 [(Value.func (.yield l_0) #[] #[]),(Value.pointer (some ⟨b_6,0,none⟩)),(Value.pointer (some ⟨b_8,0,none⟩)),(Value.pointer (some ⟨b_10,0,none⟩))] w fun v w'=>v=(Value.tuple #[])∧Hp w (axy [aoi l_0 0 rc_0,blk b_2 [(Value.bool x_1)] 4,blk b_4 [(Value.bool x_3)] 4,blk b_6 [(str x_5)] 9,blk b_8 [(str x_7)] 9,blk b_10 [(Value.int .i64 x_9)] 3]) [blk b_2 [(Value.bool r.1)] 4,blk b_4 [(Value.bool r.2.1)] 4,blk b_6 [(str x_5)] 9,blk b_8 [(str r.2.2.1)] 9,blk b_10 [(Value.int .i64 x_9)] 3,aoi l_0 r.2.2.2 rc_0] w':=by
 have hH:Hp w (axy [aoi l_0 0 rc_0,blk b_2 [(Value.bool x_1)] 4,blk b_4 [(Value.bool x_3)] 4,blk b_6 [(str x_5)] 9,blk b_8 [(str x_7)] 9,blk b_10 [(Value.int .i64 x_9)] 3]) [aoi l_0 0 rc_0,blk b_2 [(Value.bool x_1)] 4,blk b_4 [(Value.bool x_3)] 4,blk b_6 [(str x_5)] 9,blk b_8 [(str x_7)] 9,blk b_10 [(Value.int .i64 x_9)] 3] w:=hM
 refine enterF (k:=52) Tryz.func227 rfl rfl (Nat.le_of_ble_eq_true rfl) ?_
 unfold acd at hr
 refine bi hr fun j21 hr22 hr=>cut1 hH j21 [0,1,2,3] (fun v23=>[]) ?_ ?_
 refine sr (w_ld1 hH 3 b_6 0 [(str x_5)] 9 (str x_5) rfl rfl krf krf (wp 2 (nq (cd hr22 (fun h24 hr22=> ?_) (fun h24 hr22=> ?_)))))
 refine bi hr22 fun v34 hr33 hr22=>cut0 hH [0,1,2,3] [] ?_ ?_
 refine ce (lpS (fun fk37 (_:Unit)=>abt fu x_7 fk37) () hH hr33 [0,1,2,3] (fun(_:Unit)=>[]) (fun _=>rfl) ?_)
 rintro fk37 _ w38 G hH39 hr36
 rw [amd,acq]at hr36
 refine cs (sr (w_ld1 hH39 4 b_8 0 [(str x_7)] 9 (str x_7) rfl rfl krf krf (wp 2 (nq (cd hr36 (fun h40 hr36=> ?_) (fun h40 hr36=> ?_))))))
 exact absurd hr36 (by simp)
 refine c_exit (s_exit (q_exit (b_here (ql ?_))))
 obtain rfl:=oi hr36
 exact je (Hp.front (Hp.front (Hp.front (Hp.front (Hp.front (Hp.front hH39 5 _ rfl) 5 _ rfl) 5 _ rfl) 5 _ rfl) 5 _ rfl) 5 _ rfl).kp
 intro w42 G hH43
 refine ct (q_ret ?_)
 obtain rfl:=oi hr22
 obtain rfl:=oi hr
 refine r_none rfl ?_
 exact⟨(by first|rfl|(simp;done)|(simp;omega)),(Hp.front (Hp.front (Hp.front (Hp.front (Hp.front hH43 5 _ rfl) 5 _ rfl) 5 _ rfl) 5 _ rfl) 5 _ rfl).kp⟩
 refine ck (ql ?_)
 obtain rfl:=oi hr22
 exact je1 rfl (Hp.front (Hp.front (Hp.front (Hp.front (Hp.front (Hp.front hH 5 _ rfl) 5 _ rfl) 5 _ rfl) 5 _ rfl) 5 _ rfl) 5 _ rfl).kp
 rintro v23 w44 G hH45 rfl
 refine bi hr fun j120 hr121 hr=>cut (σ:=(Bool×Bool×Str)) [0,2] (fun v122=>[]) (fun v122 w'=>Hp w (axy [aoi l_0 0 rc_0,blk b_2 [(Value.bool x_1)] 4,blk b_4 [(Value.bool x_3)] 4,blk b_6 [(str x_5)] 9,blk b_8 [(str x_7)] 9,blk b_10 [(Value.int .i64 x_9)] 3]) [aoi l_0 0 rc_0,blk b_2 [(Value.bool v122.1)] 4,blk b_4 [(Value.bool v122.2.1)] 4,blk b_6 [(str x_5)] 9,blk b_8 [(str v122.2.2)] 9,blk b_10 [(Value.int .i64 x_9)] 3] w'∧.inl v122=j120) ?_ ?_
 refine ce (lpG (σ:=Nat×Bool×Bool×Str) [0,1,2,3] (fun⟨fk169,f_144,f_145,f_146⟩=>[]) (fun⟨fk169,f_144,f_145,f_146⟩ w'=>Hp w (axy [aoi l_0 0 rc_0,blk b_2 [(Value.bool x_1)] 4,blk b_4 [(Value.bool x_3)] 4,blk b_6 [(str x_5)] 9,blk b_8 [(str x_7)] 9,blk b_10 [(Value.int .i64 x_9)] 3]) [aoi l_0 0 rc_0,blk b_2 [(Value.bool f_144)] 4,blk b_4 [(Value.bool f_145)] 4,blk b_6 [(str x_5)] 9,blk b_8 [(str f_146)] 9,blk b_10 [(Value.int .i64 x_9)] 3] w'∧abc fu x_5 x_9 fk169 f_144 f_145 f_146=some j120) (fun⟨fk169,f_144,f_145,f_146⟩=>fk169) (fu,x_1,x_3,x_7) (by exact⟨(Hp.front (Hp.front (Hp.front (Hp.front (Hp.front (Hp.front hH45 5 _ rfl) 5 _ rfl) 5 _ rfl) 5 _ rfl) 5 _ rfl) 5 _ rfl).kp,hr121⟩) ?_)
 rintro⟨_|fk169,f_144,f_145,f_146⟩ w170 G ⟨hH171,hr168⟩
 ·exact absurd (show none=some _ from hr168) (by simp)
 rw [acm,aba]at hr168
 refine ce (sr (w_ld1 hH171 4 b_8 0 [(str f_146)] 9 (str f_146) rfl rfl krf krf (w_ld1 hH171 3 b_6 0 [(str x_5)] 9 (str x_5) rfl rfl krf krf (gi hr168 fun g175 hr168=>w_call 149 #[] [(str f_146),(str x_5)] _ ent149 krf krf (sh_Index f_146 x_5 w170 g175 (hG.hp hH171 hS)) ?_))))
 rintro _ w172 ⟨rfl,hq174⟩
 have hH173:=hH171.call hq174;clear hq174
 refine wp 1 (nq (cs (sr (wp 2 (nq (cd hr168 (fun h176 hr168=> ?_) (fun h176 hr168=> ?_)))))))
 refine c_exit (s_exit (b_past krf (q_exit (b_here (ql ?_)))))
 obtain rfl:=oi hr168
 exact⟨(f_144,f_145,f_146),_,rfl,by kernel_rfl,(Hp.front (Hp.front (Hp.front (Hp.front (Hp.front (Hp.front hH173 5 _ rfl) 5 _ rfl) 5 _ rfl) 5 _ rfl) 5 _ rfl) 5 _ rfl).kp,rfl⟩
 refine ck (qn (sr (w_ld1 hH173 4 b_8 0 [(str f_146)] 9 (str f_146) rfl rfl krf krf (wp 1 (w_ld1 hH173 5 b_10 0 [(Value.int .i64 x_9)] 3 (Value.int .i64 x_9) rfl rfl krf krf (gi hr168 fun g177 hr168=>ayv (Lib.index f_146 x_5) x_9 krf krf g177 (gi hr168 fun g178 hr168=> ?_)))))))
 refine w_slice_to f_146 .i64 ((Lib.index f_146 x_5)+x_9) Tryz.underlying9 krf krf g178 (wp 1 (nq (cs (sr (wp 2 (bi hr168 fun y179 hy180 hr168=> ?_))))))
 have hH185:Hp w (axy [aoi l_0 0 rc_0,blk b_2 [(Value.bool x_1)] 4,blk b_4 [(Value.bool x_3)] 4,blk b_6 [(str x_5)] 9,blk b_8 [(str x_7)] 9,blk b_10 [(Value.int .i64 x_9)] 3]) [blk b_4 [(Value.bool f_145)] 4,aoi l_0 0 rc_0,blk b_2 [(Value.bool f_144)] 4,blk b_6 [(str x_5)] 9,blk b_8 [(str f_146)] 9,blk b_10 [(Value.int .i64 x_9)] 3] w172:=hH173.front 2 _ rfl
 have hH186:Hp w (axy [aoi l_0 0 rc_0,blk b_2 [(Value.bool x_1)] 4,blk b_4 [(Value.bool x_3)] 4,blk b_6 [(str x_5)] 9,blk b_8 [(str x_7)] 9,blk b_10 [(Value.int .i64 x_9)] 3]) [blk b_2 [(Value.bool f_144)] 4,blk b_4 [(Value.bool f_145)] 4,aoi l_0 0 rc_0,blk b_6 [(str x_5)] 9,blk b_8 [(str f_146)] 9,blk b_10 [(Value.int .i64 x_9)] 3] w172:=hH185.front 2 _ rfl
 have hH187:Hp w (axy [aoi l_0 0 rc_0,blk b_2 [(Value.bool x_1)] 4,blk b_4 [(Value.bool x_3)] 4,blk b_6 [(str x_5)] 9,blk b_8 [(str x_7)] 9,blk b_10 [(Value.int .i64 x_9)] 3]) [aoi l_0 0 rc_0,blk b_2 [(Value.bool f_144)] 4,blk b_4 [(Value.bool f_145)] 4,blk b_6 [(str x_5)] 9,blk b_8 [(str f_146)] 9,blk b_10 [(Value.int .i64 x_9)] 3] w172:=hH186.front 2 _ rfl
 have hB184:Hp w (axy [aoi l_0 0 rc_0,blk b_2 [(Value.bool x_1)] 4,blk b_4 [(Value.bool x_3)] 4,blk b_6 [(str x_5)] 9,blk b_8 [(str x_7)] 9,blk b_10 [(Value.int .i64 x_9)] 3]) [aoi l_0 0 rc_0,blk b_2 [(Value.bool f_144)] 4,blk b_4 [(Value.bool f_145)] 4] w172:=Hp.keep (L1:=[aoi l_0 0 rc_0,blk b_2 [(Value.bool f_144)] 4,blk b_4 [(Value.bool f_145)] 4]) (L2:=[blk b_6 [(str x_5)] 9,blk b_8 [(str f_146)] 9,blk b_10 [(Value.int .i64 x_9)] 3]) hH187
 refine w_yield l_0 [(str (List.take (Int.toNat ((Lib.index f_146 x_5)+x_9)) f_146))] _ krf krf (HY_0 (List.take (Int.toNat ((Lib.index f_146 x_5)+x_9)) f_146) f_144 f_145 w172 hB184 y179 hy180) ?_
 rintro _ w181 ⟨rfl,hq183⟩
 have hH182:Hp w (axy [aoi l_0 0 rc_0,blk b_2 [(Value.bool x_1)] 4,blk b_4 [(Value.bool x_3)] 4,blk b_6 [(str x_5)] 9,blk b_8 [(str x_7)] 9,blk b_10 [(Value.int .i64 x_9)] 3]) [aoi l_0 y179.1 rc_0,blk b_2 [(Value.bool y179.2.1)] 4,blk b_4 [(Value.bool y179.2.2)] 4,blk b_6 [(str x_5)] 9,blk b_8 [(str f_146)] 9,blk b_10 [(Value.int .i64 x_9)] 3] w181:=Hp.callK (L1:=[aoi l_0 0 rc_0,blk b_2 [(Value.bool f_144)] 4,blk b_4 [(Value.bool f_145)] 4]) (L2:=[blk b_6 [(str x_5)] 9,blk b_8 [(str f_146)] 9,blk b_10 [(Value.int .i64 x_9)] 3]) hH187 hq183;clear hq183
 by_cases h188:y179.1=0
 replace hr168:=ift h188 hr168
 rw [h188]at hH182
 rw [show decide (y179.1=0)=true from(decide_eq_true h188)]
 refine wp 1 (nq (c_false krf (ck (qn (cr (w_ld1 hH182 4 b_8 0 [(str f_146)] 9 (str f_146) rfl rfl krf krf (wp 1 (w_ld1 hH182 3 b_6 0 [(str x_5)] 9 (str x_5) rfl rfl krf krf ?_))))))))
 refine wp 1 (gi hr168 fun g189 hr168=>ayv (Lib.index f_146 x_5) (x_5.length:Int) krf krf g189 (gi hr168 fun g190 hr168=>w_slice_from f_146 .i64 ((Lib.index f_146 x_5)+(x_5.length:Int)) Tryz.underlying9 krf krf g190 (w_st1 hH182 4 b_8 0 [(str f_146)] 9 (str (List.drop (Int.toNat ((Lib.index f_146 x_5)+(x_5.length:Int))) f_146)) [aoi l_0 0 rc_0,blk b_2 [(Value.bool y179.2.1)] 4,blk b_4 [(Value.bool y179.2.2)] 4,blk b_6 [(str x_5)] 9,blk b_8 [(str (List.drop (Int.toNat ((Lib.index f_146 x_5)+(x_5.length:Int))) f_146))] 9,blk b_10 [(Value.int .i64 x_9)] 3] rfl (Nat.lt_of_lt_of_le (Nat.lt_succ_self _) (Nat.le_of_ble_eq_true rfl)) krf krf rfl krf rfl fun w191 hH192=>wl (bn (ql ?_)))))
 exact⟨(fk169,y179.2.1,y179.2.2,List.drop (Int.toNat ((Lib.index f_146 x_5)+(x_5.length:Int))) f_146),_,rfl,by kernel_rfl,⟨(Hp.front (Hp.front (Hp.front (Hp.front (Hp.front (Hp.front hH192 5 _ rfl) 5 _ rfl) 5 _ rfl) 5 _ rfl) 5 _ rfl) 5 _ rfl).kp,hr168⟩,Nat.lt_succ_self _⟩
 replace hr168:=ifn h188 hr168
 rw [show decide (y179.1=0)=false from(decide_eq_false h188)]
 refine wp 1 (nq (c_true krf (ct (st (bt_ (q_ret (bt_ (q_ret ?_))))))))
 obtain rfl:=oi hr168
 obtain rfl:=oi hr
 refine r_none rfl ?_
 exact⟨(by first|rfl|(simp;done)|(simp;omega)),(Hp.front (Hp.front (Hp.front (Hp.front (Hp.front hH182 5 _ rfl) 5 _ rfl) 5 _ rfl) 5 _ rfl) 5 _ rfl).kp⟩
 rintro v122 w194 G ⟨hH195,rfl⟩
 refine cr (wp 1 (w_ld1 hH195 4 b_8 0 [(str v122.2.2)] 9 (str v122.2.2) rfl rfl krf krf (bi hr fun y196 hy197 hr=> ?_)))
 have hH202:Hp w (axy [aoi l_0 0 rc_0,blk b_2 [(Value.bool x_1)] 4,blk b_4 [(Value.bool x_3)] 4,blk b_6 [(str x_5)] 9,blk b_8 [(str x_7)] 9,blk b_10 [(Value.int .i64 x_9)] 3]) [blk b_4 [(Value.bool v122.2.1)] 4,aoi l_0 0 rc_0,blk b_2 [(Value.bool v122.1)] 4,blk b_6 [(str x_5)] 9,blk b_8 [(str v122.2.2)] 9,blk b_10 [(Value.int .i64 x_9)] 3] w194:=hH195.front 2 _ rfl
 have hH203:Hp w (axy [aoi l_0 0 rc_0,blk b_2 [(Value.bool x_1)] 4,blk b_4 [(Value.bool x_3)] 4,blk b_6 [(str x_5)] 9,blk b_8 [(str x_7)] 9,blk b_10 [(Value.int .i64 x_9)] 3]) [blk b_2 [(Value.bool v122.1)] 4,blk b_4 [(Value.bool v122.2.1)] 4,aoi l_0 0 rc_0,blk b_6 [(str x_5)] 9,blk b_8 [(str v122.2.2)] 9,blk b_10 [(Value.int .i64 x_9)] 3] w194:=hH202.front 2 _ rfl
 have hH204:Hp w (axy [aoi l_0 0 rc_0,blk b_2 [(Value.bool x_1)] 4,blk b_4 [(Value.bool x_3)] 4,blk b_6 [(str x_5)] 9,blk b_8 [(str x_7)] 9,blk b_10 [(Value.int .i64 x_9)] 3]) [aoi l_0 0 rc_0,blk b_2 [(Value.bool v122.1)] 4,blk b_4 [(Value.bool v122.2.1)] 4,blk b_6 [(str x_5)] 9,blk b_8 [(str v122.2.2)] 9,blk b_10 [(Value.int .i64 x_9)] 3] w194:=hH203.front 2 _ rfl
 have hB201:Hp w (axy [aoi l_0 0 rc_0,blk b_2 [(Value.bool x_1)] 4,blk b_4 [(Value.bool x_3)] 4,blk b_6 [(str x_5)] 9,blk b_8 [(str x_7)] 9,blk b_10 [(Value.int .i64 x_9)] 3]) [aoi l_0 0 rc_0,blk b_2 [(Value.bool v122.1)] 4,blk b_4 [(Value.bool v122.2.1)] 4] w194:=Hp.keep (L1:=[aoi l_0 0 rc_0,blk b_2 [(Value.bool v122.1)] 4,blk b_4 [(Value.bool v122.2.1)] 4]) (L2:=[blk b_6 [(str x_5)] 9,blk b_8 [(str v122.2.2)] 9,blk b_10 [(Value.int .i64 x_9)] 3]) hH204
 refine w_yield l_0 [(str v122.2.2)] _ krf krf (HY_0 v122.2.2 v122.1 v122.2.1 w194 hB201 y196 hy197) ?_
 rintro _ w198 ⟨rfl,hq200⟩
 have hH199:Hp w (axy [aoi l_0 0 rc_0,blk b_2 [(Value.bool x_1)] 4,blk b_4 [(Value.bool x_3)] 4,blk b_6 [(str x_5)] 9,blk b_8 [(str x_7)] 9,blk b_10 [(Value.int .i64 x_9)] 3]) [aoi l_0 y196.1 rc_0,blk b_2 [(Value.bool y196.2.1)] 4,blk b_4 [(Value.bool y196.2.2)] 4,blk b_6 [(str x_5)] 9,blk b_8 [(str v122.2.2)] 9,blk b_10 [(Value.int .i64 x_9)] 3] w198:=Hp.callK (L1:=[aoi l_0 0 rc_0,blk b_2 [(Value.bool v122.1)] 4,blk b_4 [(Value.bool v122.2.1)] 4]) (L2:=[blk b_6 [(str x_5)] 9,blk b_8 [(str v122.2.2)] 9,blk b_10 [(Value.int .i64 x_9)] 3]) hH204 hq200;clear hq200
 by_cases h205:y196.1=0
 replace hr:=ift h205 hr
 rw [h205]at hH199
 rw [show decide (y196.1=0)=true from(decide_eq_true h205)]
 refine wl ?_
 obtain rfl:=oi hr
 refine r_none' rfl ?_
 exact⟨(by first|rfl|(simp;done)|(simp;omega)),(Hp.front (Hp.front (Hp.front (Hp.front (Hp.front hH199 5 _ rfl) 5 _ rfl) 5 _ rfl) 5 _ rfl) 5 _ rfl).kp⟩
 replace hr:=ifn h205 hr
 rw [show decide (y196.1=0)=false from(decide_eq_false h205)]
 refine wl ?_
 obtain rfl:=oi hr
 refine r_none' rfl ?_
 exact⟨(by first|rfl|(simp;done)|(simp;omega)),(Hp.front (Hp.front (Hp.front (Hp.front (Hp.front hH199 5 _ rfl) 5 _ rfl) 5 _ rfl) 5 _ rfl) 5 _ rfl).kp⟩
theorem K_L_address_named{fu:Nat}{s_0:Str}{w:World}{r:Bool}(hr:alv fu s_0=some r)(hG:Gl w):CR Tryz.prog 87 [(str s_0)] w fun v w'=>v=(Value.bool r)∧Hp w [] [] w':=by
 have hH:Hp w [] [] w:=Hp.refl w
 refine enterM (k:=67) Tryz.func87 rfl rfl (Nat.le_of_ble_eq_true rfl) ?_
 unfold alv at hr
 refine sr (w_new hH [(Value.bool false)] 4 (fun b=>(Value.pointer (some ⟨b,0,none⟩))) rfl rfl krf fun b1 w2 hH3=>nq (cs (bi hr fun v8 hr7 hr=>cut0 hH3 [0,2,14] [(14,(Value.bool v8))] ?_ ?_)))
 refine cr (wp 3 (wd hr7 (fun h9 hr7=> ?_) (fun h9 hr7=> ?_)))
 refine wp 4 (wl (ql ?_))
 obtain rfl:=oi hr7
 exact je hH3.kp
 refine wp 4 (wl (ql ?_))
 obtain rfl:=oi hr7
 exact je hH3.kp
 intro w10 G hH11
 refine cb hr (fun h12 hr=> ?_) (fun h12 hr=> ?_)
 refine sr (w_st1 hH11 0 b1 0 [(Value.bool false)] 4 (Value.bool false) [blk b1 [(Value.bool false)] 4] rfl (Nat.lt_of_lt_of_le (Nat.lt_succ_self _) (Nat.le_of_ble_eq_true rfl)) krf krf rfl krf rfl fun w13 hH14=>nq (ct (st ?_)))
 obtain rfl:=oi hr
 refine m_fin0 _ [(Value.bool false)] (Value.bool false) rfl rfl (rok_cons (rok_one hH14 0 b1 4 (Value.bool false) rfl krf krf) rok_nil) rfl ?_
 exact⟨(by first|rfl|(simp;done)|(simp;omega)),hH14.kp⟩
 refine ck (qn (sr (w_new hH11 [(Value.bool false)] 4 (fun b=>(Value.pointer (some ⟨b,0,none⟩))) rfl rfl krf fun b15 w16 hH17=>w_st1 hH17 0 b15 0 [(Value.bool false)] 4 (Value.bool false) [blk b15 [(Value.bool false)] 4,blk b1 [(Value.bool false)] 4] rfl (Nat.lt_of_lt_of_le (Nat.lt_succ_self _) (Nat.le_of_ble_eq_true rfl)) krf krf rfl krf rfl fun w18 hH19=>nq (cs (cs ?_)))))
 refine cr (wp 1 (bi hr fun y20 hy21 hr=>w_call 154 #[] [(str s_0),(str ([46]:Str))] _ ent154 krf krf (K_L_strings_SplitSeq hy21 (hG.hp0 hH19)) ?_))
 rintro _ w22 ⟨b25,b26,b27,rfl,hq24⟩
 have hH23:Hp w [] [blk b25 [(str y20.1)] 9,blk b26 [(str y20.2.1)] 9,blk b27 [(Value.int .i64 y20.2.2)] 3,blk b15 [(Value.bool false)] 4,blk b1 [(Value.bool false)] 4] w22:=Hp.callK (L1:=[]) (L2:=[blk b15 [(Value.bool false)] 4,blk b1 [(Value.bool false)] 4]) hH19 hq24;clear hq24
 refine nq (ce (c_rangeFunc hH23 227 [(Value.pointer (some ⟨b25,0,none⟩)),(Value.pointer (some ⟨b26,0,none⟩)),(Value.pointer (some ⟨b27,0,none⟩))] krf ent227 fun r213 l28 rc29 w211 hc214 hc215 hc216 hc217 hH212=>bi hr fun y400 hy401 hr=> ?_))
 have hH405:Hp w [] [blk b27 [(Value.int .i64 y20.2.2)] 3,aoi l28 0 rc29,dfr r213,blk b25 [(str y20.1)] 9,blk b26 [(str y20.2.1)] 9,blk b15 [(Value.bool false)] 4,blk b1 [(Value.bool false)] 4] w211:=hH212.front 4 _ rfl
 have hH406:Hp w [] [blk b26 [(str y20.2.1)] 9,blk b27 [(Value.int .i64 y20.2.2)] 3,aoi l28 0 rc29,dfr r213,blk b25 [(str y20.1)] 9,blk b15 [(Value.bool false)] 4,blk b1 [(Value.bool false)] 4] w211:=hH405.front 4 _ rfl
 have hH407:Hp w [] [blk b25 [(str y20.1)] 9,blk b26 [(str y20.2.1)] 9,blk b27 [(Value.int .i64 y20.2.2)] 3,aoi l28 0 rc29,dfr r213,blk b15 [(Value.bool false)] 4,blk b1 [(Value.bool false)] 4] w211:=hH406.front 4 _ rfl
 have hH408:Hp w [] [blk b1 [(Value.bool false)] 4,blk b25 [(str y20.1)] 9,blk b26 [(str y20.2.1)] 9,blk b27 [(Value.int .i64 y20.2.2)] 3,aoi l28 0 rc29,dfr r213,blk b15 [(Value.bool false)] 4] w211:=hH407.front 6 _ rfl
 have hH409:Hp w [] [blk b15 [(Value.bool false)] 4,blk b1 [(Value.bool false)] 4,blk b25 [(str y20.1)] 9,blk b26 [(str y20.2.1)] 9,blk b27 [(Value.int .i64 y20.2.2)] 3,aoi l28 0 rc29,dfr r213] w211:=hH408.front 6 _ rfl
 have hH410:Hp w [] [aoi l28 0 rc29,blk b15 [(Value.bool false)] 4,blk b1 [(Value.bool false)] 4,blk b25 [(str y20.1)] 9,blk b26 [(str y20.2.1)] 9,blk b27 [(Value.int .i64 y20.2.2)] 3,dfr r213] w211:=hH409.front 5 _ rfl
 have HY30:∀(x220:Str) (c221:Bool) (c222:Bool) (w_:World),Hp w211 (axy [aoi l28 0 rc29,blk b15 [(Value.bool false)] 4,blk b1 [(Value.bool false)] 4,blk b25 [(str y20.1)] 9,blk b26 [(str y20.2.1)] 9,blk b27 [(Value.int .i64 y20.2.2)] 3]) [aoi l28 0 rc29,blk b15 [(Value.bool c221)] 4,blk b1 [(Value.bool c222)] 4] w_→∀(yr:(Nat×Bool×Bool)),acu fu x220 c221 c222=some yr→YR Tryz.prog l28 [(str x220)] w_ fun v w_2=>v=Value.bool (decide (yr.1=0))∧Hp w_ (axy [aoi l28 0 rc29,blk b15 [(Value.bool c221)] 4,blk b1 [(Value.bool c222)] 4]) [aoi l28 yr.1 rc29,blk b15 [(Value.bool yr.2.1)] 4,blk b1 [(Value.bool yr.2.2)] 4] w_2:=by
  intro x220 c221 c222 w219 hB218 yr hyr
  have hH0_:=Hp.callK (L1:=[aoi l28 0 rc29,blk b15 [(Value.bool false)] 4,blk b1 [(Value.bool false)] 4,blk b25 [(str y20.1)] 9,blk b26 [(str y20.2.1)] 9,blk b27 [(Value.int .i64 y20.2.2)] 3]) (L2:=[dfr r213]) hH410 hB218
  have hG0_:=hG;replace hG:=hG.hp0 hH0_
  have hS_:=Hp.highs hH0_ hG0_ (fun _ h=>absurd h (by simp)) 3 rfl
  unfold acu at hyr
  refine yr_intro (Hp.hand (L1:=[aoi l28 0 rc29,blk b15 [(Value.bool c221)] 4,blk b1 [(Value.bool c222)] 4]) (L2:=[]) (by simpa using hB218)) 0 rfl hc214 hc215 hc216 hc217 rfl ?_
  have hH:Hp w219 (axy [aoi l28 0 rc29,blk b15 [(Value.bool c221)] 4,blk b1 [(Value.bool c222)] 4]) [aoi l28 0 rc29,blk b15 [(Value.bool c221)] 4,blk b1 [(Value.bool c222)] 4] w219:=Hp.hand (L1:=[aoi l28 0 rc29,blk b15 [(Value.bool c221)] 4,blk b1 [(Value.bool c222)] 4]) (L2:=[]) (by simpa using hB218)
  clear hH0_ hB218
  refine cr (wp 1 (wl (asg_next hH 0 rfl fun w223 hH224=>ce (cs (bi hyr fun v234 hr233 hyr=>cut0 hH224 [2,3,4,38] [(38,(Value.bool v234))] ?_ ?_)))))
  refine cr (wp 3 (wd hr233 (fun h235 hr233=> ?_) (fun h235 hr233=> ?_)))
  refine wp 17 (wl (ql ?_))
  obtain rfl:=oi hr233
  exact je (Hp.front (Hp.front (Hp.front hH224 2 _ rfl) 2 _ rfl) 2 _ rfl).kp
  refine wp 4 (wd hr233 (fun h236 hr233=> ?_) (fun h236 hr233=> ?_))
  refine wp 12 (wl (ql ?_))
  obtain rfl:=oi hr233
  exact je (Hp.front (Hp.front (Hp.front hH224 2 _ rfl) 2 _ rfl) 2 _ rfl).kp
  refine wp 1 (gy 26 (gi hr233 fun g237 hr233=>w_index x220 .i64 (0:Int) Tryz.underlying9 krf krf g237 (gy 26 (w8_eql (at_ x220 (0:Int)) (45:UInt8) krf krf (wp 1 (wd hr233 (fun h238 hr233=> ?_) (fun h238 hr233=> ?_)))))))
  refine wp 7 (wl (ql ?_))
  obtain rfl:=oi hr233
  exact je (Hp.front (Hp.front (Hp.front hH224 2 _ rfl) 2 _ rfl) 2 _ rfl).kp
  refine wp 3 (gy 31 (gi hr233 fun g239 hr233=>w_sub64 (x220.length:Int) (1:Int) krf krf g239 (gy 31 (gi hr233 fun g240 hr233=>w_index x220 .i64 ((x220.length:Int)-(1:Int)) Tryz.underlying9 krf krf g240 (gy 31 (w8_eql (at_ x220 ((x220.length:Int)-(1:Int))) (45:UInt8) krf krf (wp 1 ?_)))))))
  refine wl (ql ?_)
  obtain rfl:=oi hr233
  exact je (Hp.front (Hp.front (Hp.front hH224 2 _ rfl) 2 _ rfl) 2 _ rfl).kp
  intro w241 G hH242
  refine cb hyr (fun h243 hyr=> ?_) (fun h243 hyr=> ?_)
  refine sr (w_st1 hH242 2 b1 0 [(Value.bool c222)] 4 (Value.bool false) [lbusy l28 rc29,blk b15 [(Value.bool c221)] 4,blk b1 [(Value.bool false)] 4] rfl (Nat.lt_of_lt_of_le (Nat.lt_succ_self _) (Nat.le_of_ble_eq_true rfl)) krf krf rfl krf rfl fun w244 hH245=>nq (ct (st (bt_ ?_))))
  obtain rfl:=oi hyr
  refine rnd_ret hH245 0 rfl fun w246 hH247=> ?_
  exact⟨(by first|rfl|(simp;done)|(simp;omega)),(Hp.front (Hp.front (Hp.front hH247 2 _ rfl) 2 _ rfl) 2 _ rfl).kp⟩
  refine ck (qn (sr (wp 3 (nq (ce (lpG (σ:=Nat×Int×Bool) [2,3,4,40,41] (fun⟨fk345,x_295,x_296⟩=>[(41,(Value.int .i64 x_295))]) (fun⟨fk345,x_295,x_296⟩ w'=>Hp w219 (axy [aoi l28 0 rc29,blk b15 [(Value.bool c221)] 4,blk b1 [(Value.bool c222)] 4]) [lbusy l28 rc29,blk b15 [(Value.bool x_296)] 4,blk b1 [(Value.bool c222)] 4] w'∧abr fu x220 c222 fk345 x_295 x_296=some yr) (fun⟨fk345,x_295,x_296⟩=>fk345) (fu,(0:Int),c221) (by exact⟨(Hp.front (Hp.front (Hp.front hH242 2 _ rfl) 2 _ rfl) 2 _ rfl).kp,hyr⟩) ?_))))))
  rintro⟨_|fk345,x_295,x_296⟩ w346 G ⟨hH347,hr344⟩
  ·exact absurd (show none=some _ from hr344) (by simp)
  rw [akq,aes]at hr344
  refine sr (wp 1 (nq (cs (cd hr344 (fun h348 hr344=> ?_) (fun h348 hr344=> ?_)))))
  refine ck (qn (cs (ce (sr (wp 2 (nq (cs ?_)))))))
  refine cr (wp 2 (gi hr344 fun g349 hr344=>w_index x220 .i64 x_295 Tryz.underlying9 krf krf g349 (wp 1 (nq (cs (bi hr344 fun v365 hr364 hr344=>cut0 hH347 [2,3,4,6,40,41,58] [(58,(Value.bool v365))] ?_ ?_))))))
  refine cr (wp 1 (bi hr364 fun y366 hy367 hr364=>wc ent155 hH347 (K_L_address_letter hy367 (hG.hp hH347 hS_)) fun w368 hH369=>wp 1 (wb hr364 (fun h371 hr364=> ?_) (fun h371 hr364=> ?_))))
  refine wp 1 (gy 50 (bi hr364 fun y372 hy373 hr364=>wc ent153 hH369 (ayu hy373 (hG.hp hH369 hS_)) fun w374 hH375=>wp 2 (wb hr364 (fun h377 hr364=> ?_) (fun h377 hr364=> ?_))))
  refine wp 1 (gy 55 (w8_neq (at_ x220 x_295) (45:UInt8) krf krf (wp 1 (wl (ql ?_)))))
  obtain rfl:=oi hr364
  exact je (Hp.front (Hp.front (Hp.front hH375 2 _ rfl) 2 _ rfl) 2 _ rfl).kp
  refine wp 3 (wl (ql ?_))
  obtain rfl:=oi hr364
  exact je (Hp.front (Hp.front (Hp.front hH375 2 _ rfl) 2 _ rfl) 2 _ rfl).kp
  refine wp 8 (wl (ql ?_))
  obtain rfl:=oi hr364
  exact je (Hp.front (Hp.front (Hp.front hH369 2 _ rfl) 2 _ rfl) 2 _ rfl).kp
  intro w378 G hH379
  refine cb hr344 (fun h380 hr344=> ?_) (fun h380 hr344=> ?_)
  refine sr (w_st1 hH379 2 b1 0 [(Value.bool c222)] 4 (Value.bool false) [lbusy l28 rc29,blk b15 [(Value.bool x_296)] 4,blk b1 [(Value.bool false)] 4] rfl (Nat.lt_of_lt_of_le (Nat.lt_succ_self _) (Nat.le_of_ble_eq_true rfl)) krf krf rfl krf rfl fun w381 hH382=>nq (ct (st (bt_ (st (q_ret ?_))))))
  refine bt_ (bt_ ?_)
  obtain rfl:=oi hr344
  refine rnd_ret hH382 0 rfl fun w383 hH384=> ?_
  exact⟨(by first|rfl|(simp;done)|(simp;omega)),(Hp.front (Hp.front (Hp.front hH384 2 _ rfl) 2 _ rfl) 2 _ rfl).kp⟩
  refine ck (qn (cr (w_ld1 hH379 1 b15 0 [(Value.bool x_296)] 4 (Value.bool x_296) rfl rfl krf krf (wb hr344 (fun h385 hr344=> ?_) (fun h385 hr344=> ?_)))))
  refine wp 4 (w_st1 hH379 1 b15 0 [(Value.bool x_296)] 4 (Value.bool true) [lbusy l28 rc29,blk b15 [(Value.bool true)] 4,blk b1 [(Value.bool c222)] 4] rfl (Nat.lt_of_lt_of_le (Nat.lt_succ_self _) (Nat.le_of_ble_eq_true rfl)) krf krf rfl krf rfl fun w386 hH387=>wl (bn (qn (cr (gi hr344 fun g388 hr344=>ayv x_295 (1:Int) krf krf g388 (wp 1 (wl ?_)))))))
  refine ql ?_
  exact⟨(fk345,x_295+(1:Int),true),_,rfl,by kernel_rfl,⟨(Hp.front (Hp.front (Hp.front hH387 2 _ rfl) 2 _ rfl) 2 _ rfl).kp,hr344⟩,Nat.lt_succ_self _⟩
  refine wp 1 (gy 60 (bi hr344 fun y389 hy390 hr344=>wc ent153 hH379 (ayu hy390 (hG.hp hH379 hS_)) fun w391 hH392=>wp 2 (w_st1 hH392 1 b15 0 [(Value.bool x_296)] 4 (Value.bool (!y389)) [lbusy l28 rc29,blk b15 [(Value.bool (!y389))] 4,blk b1 [(Value.bool c222)] 4] rfl (Nat.lt_of_lt_of_le (Nat.lt_succ_self _) (Nat.le_of_ble_eq_true rfl)) krf krf rfl krf rfl fun w394 hH395=>wl (bn (qn (cr ?_))))))
  refine gi hr344 fun g396 hr344=>ayv x_295 (1:Int) krf krf g396 (wp 1 (wl (ql ?_)))
  exact⟨(fk345,x_295+(1:Int),(!y389)),_,rfl,by kernel_rfl,⟨(Hp.front (Hp.front (Hp.front hH395 2 _ rfl) 2 _ rfl) 2 _ rfl).kp,hr344⟩,Nat.lt_succ_self _⟩
  refine c_exit (s_exit (q_exit (b_here (bn ?_))))
  obtain rfl:=oi hr344
  refine rnd_normal hH347 0 rfl fun w397 hH398=> ?_
  exact⟨(by first|rfl|(simp;done)|(simp;omega)),(Hp.front (Hp.front (Hp.front hH398 2 _ rfl) 2 _ rfl) 2 _ rfl).kp⟩
 refine CR.mono (aoc l28 rc29 b15 b1 b25 b26 b27 hy401 (hG.hp0 hH410) (hH410.hand (L1:=[aoi l28 0 rc29,blk b15 [(Value.bool false)] 4,blk b1 [(Value.bool false)] 4,blk b25 [(str y20.1)] 9,blk b26 [(str y20.2.1)] 9,blk b27 [(Value.int .i64 y20.2.2)] 3]) (L2:=[dfr r213])) (hH410.highs hG (fun _ h=>absurd h (by simp)) 6 rfl) HY30) ?_
 rintro _ w403 ⟨rfl,hq402⟩
 have hH404:Hp w [] [blk b15 [(Value.bool y400.1)] 4,blk b1 [(Value.bool y400.2.1)] 4,blk b25 [(str y20.1)] 9,blk b26 [(str y400.2.2.1)] 9,blk b27 [(Value.int .i64 y20.2.2)] 3,aoi l28 y400.2.2.2 rc29,dfr r213] w403:=Hp.callK (L1:=[aoi l28 0 rc29,blk b15 [(Value.bool false)] 4,blk b1 [(Value.bool false)] 4,blk b25 [(str y20.1)] 9,blk b26 [(str y20.2.1)] 9,blk b27 [(Value.int .i64 y20.2.2)] 3]) (L2:=[dfr r213]) hH410 hq402;clear hq402
 have hH411:Hp w [] [aoi l28 y400.2.2.2 rc29,blk b15 [(Value.bool y400.1)] 4,blk b1 [(Value.bool y400.2.1)] 4,blk b25 [(str y20.1)] 9,blk b26 [(str y400.2.2.1)] 9,blk b27 [(Value.int .i64 y20.2.2)] 3,dfr r213] w403:=hH404.front 5 _ rfl
 refine⟨y400.2.2.2,[blk b15 [(Value.bool y400.1)] 4,blk b1 [(Value.bool y400.2.1)] 4,blk b25 [(str y20.1)] 9,blk b26 [(str y400.2.2.1)] 9,blk b27 [(Value.int .i64 y20.2.2)] 3,dfr r213],hH411, ?_⟩
 intro w412 hH413
 by_cases h414:y400.2.2.2=0
 replace hr:=ift h414 hr
 refine rg0 h414 (bn (qn (sr (w_ld1 hH413 0 b15 0 [(Value.bool y400.1)] 4 (Value.bool y400.1) rfl rfl krf krf (w_st1 hH413 1 b1 0 [(Value.bool y400.2.1)] 4 (Value.bool y400.1) [blk b15 [(Value.bool y400.1)] 4,blk b1 [(Value.bool y400.1)] 4,blk b25 [(str y20.1)] 9,blk b26 [(str y400.2.2.1)] 9,blk b27 [(Value.int .i64 y20.2.2)] 3,dfr r213] rfl (Nat.lt_of_lt_of_le (Nat.lt_succ_self _) (Nat.le_of_ble_eq_true rfl)) krf krf rfl krf rfl fun w415 hH416=>nq (ct ?_))))))
 obtain rfl:=oi hr
 refine m_fin1 hH416 5 r213 rfl _ [(Value.bool y400.1)] (Value.bool y400.1) rfl rfl (fun w417 hH418=>(rok_cons (rok_one hH418 1 b1 4 (Value.bool y400.1) rfl krf krf) rok_nil)) rfl fun w417 hH418=> ?_
 exact⟨(by first|rfl|(simp;done)|(simp;omega)),hH418.kp⟩
 replace hr:=ifn h414 hr
 by_cases h419:y400.2.2.2=1
 replace hr:=ift h419 hr
 refine rg1 h419 (ct (bt_ (st ?_)))
 obtain rfl:=oi hr
 refine m_fin1 hH413 5 r213 rfl _ [(Value.bool y400.2.1)] (Value.bool y400.2.1) rfl rfl (fun w420 hH421=>(rok_cons (rok_one hH421 1 b1 4 (Value.bool y400.2.1) rfl krf krf) rok_nil)) rfl fun w420 hH421=> ?_
 exact⟨(by first|rfl|(simp;done)|(simp;omega)),hH421.kp⟩
 replace hr:=ifn h419 hr
 exact absurd hr (by simp)
noncomputable def kf_address_named(fu:Nat):sea.K:=⟨87,⟨[.s'],[.r' (.b')],fun x=>.one (alv fu x)⟩,⟨Tryz.f87,_,Tryz.func87,rfl,by kernel_rfl⟩,aqr (fun x=>[str x]) (fun y=>.bool y) (fun _=>rfl) (fun _ _=>rfl) (fun _ _=>rfl) (fun _ _ _=>rfl) fun w S x y hG hy=>K_L_address_named hy hG.1⟩
noncomputable def aoj(fu:Nat):sea.K:=kf fu 34 Tryz.f34 Tryz.func34 rfl rfl [aeb fu,kf_address_groups fu,kf_address_numbers fu,kf_address_named fu] [.s'] [.r' (.s'),.r' (.b')] (fun x=>age fu x) (.s' .n' (.s' (.j' [.s' 21 (.b')] [0,2,3,8] .n' .n') .n')) rfl (fun x=>by kernel_rfl)
noncomputable def awb(fu:Nat):sea.K:=kf fu 35 Tryz.f35 Tryz.func35 rfl rfl [] [.s'] [.r' (.i' .i64),.r' (.c')] (fun x=>ako fu x) (.s' .n' (.s' (.j' [.s' 13 (.b')] [0,2,3] .n' .n') (.s' .n' (.r' [.s' 4 (.i' .i64)] [] (.s' .n' (.l' [.s' 4 (.i' .i64),.s' 16 (.i' .i64)] (.s' .n' (.s' .n' (.s' (.s' .n' (.s' (.j' [.s' 28 (.b')] [0,1,2,3,4] .n' .n') .n')) .n'))))) .n')))) rfl (fun x=>by kernel_rfl)
noncomputable def azi(fu:Nat):sea.K:=kf fu 207 Tryz.f207 Tryz.func207 rfl rfl [aoj fu,awb fu,ahk fu,abu fu,aha,agf fu,asd fu,awz fu] [.p' 99 (.pr (.w' .s') (.i' .i64)),.p' 36 (.pr .s' (.pr .s' (.pr .s' (.pr (.i' .i64) (.pr tLQ tLQ)))))] [.r' (.i' .i64),.r' (.c'),.o' 0 99 (.pr (.w' .s') (.i' .i64)),.o' 1 36 (.pr .s' (.pr .s' (.pr .s' (.pr (.i' .i64) (.pr tLQ tLQ)))))] (fun x=>aiy fu x.1 x.2) (.s' .n' (.r' [.o' 0 1 (.i' .i64),.o' 1 1 (.s')] [] .n' (.s' .n' (.s' .n' (.j' [.s' 11 (.i' .i64)] [] .n' (.s' .n' (.s' .n' (.s' .n' (.s' (.s' .n' (.s' (.s' .n' (.s' .n' (.s' .n' (.j' [.s' 15 (.c')] [] (.j' [.s' 167 (.b')] [0,1,2] .n' .n') .n')))) .n')) (.s' (.j' [.s' 192 (.b')] [0,2,3,8] .n' .n') .n')))))))))) rfl (fun x=>by kernel_rfl)
noncomputable def ayk(fu:Nat):sea.K:=kf fu 208 Tryz.f208 Tryz.func208 rfl rfl [abu fu,agf fu,kf_strings_TrimPrefix] [.p' 99 (.pr (.w' .s') (.i' .i64)),.p' 36 (.pr .s' (.pr .s' (.pr .s' (.pr (.i' .i64) (.pr tLQ tLQ)))))] [.r' (.i' .i64),.r' (.c'),.o' 0 99 (.pr (.w' .s') (.i' .i64)),.o' 1 36 (.pr .s' (.pr .s' (.pr .s' (.pr (.i' .i64) (.pr tLQ tLQ)))))] (fun x=>ahq fu x.1 x.2) (.s' .n' (.s' .n' (.s' .n' (.s' .n' (.s' .n' (.j' [.s' 8 (.l' 5 1 .c'),.o' 0 1 (.i' .i64)] [] .n' (.r' [.s' 8 (.l' 5 1 .c'),.o' 0 1 (.i' .i64)] [] (.l' [.s' 8 (.l' 5 1 .c'),.o' 0 1 (.i' .i64)] (.s' .n' (.r' [.s' 8 (.l' 5 1 .c')] [] (.s' .n' (.j' [.s' 58 (.b')] [] (.j' [.s' 58 (.b')] [0,1,2,6] .n' .n') (.s' .n' (.j' [.s' 79 (.b')] [0,1,2,6,10,14] .n' .n')))) .n'))) .n'))))))) rfl (fun x=>by kernel_rfl)
noncomputable def asc(fu:Nat):sea.K:=kf fu 164 Tryz.f164 Tryz.func164 rfl rfl [] [.pr .s' (.pr .s' .b'),.p' 9 .s'] [.r' (.b')] (fun x=>apn fu x.1 x.2) (.n') rfl (fun x=>by kernel_rfl)
noncomputable def ane(fu:Nat):sea.K:=kf fu 198 Tryz.f198 Tryz.func198 rfl rfl [asc fu] [.r' tPQ,.f' 164 (.p' 9 .s')] [.r' (.i' .i64)] (fun x=>adc fu x.1 x.2) (.s' .n' (.r' [] [] (.s' .n' (.l' [.s' 8 (.i' .i64)] .n')) .n')) rfl (fun x=>by kernel_rfl)
noncomputable def amc(fu:Nat):sea.K:=kf fu 163 Tryz.f163 Tryz.func163 rfl rfl [asc fu,ane fu] [.r' tPQ,.f' 164 (.p' 9 .s')] [.r' (.b')] (fun x=>acr fu x.1 x.2) (.n') rfl (fun x=>by kernel_rfl)
noncomputable def aur(fu:Nat):sea.K:=kf fu 103 Tryz.f103 Tryz.func103 rfl rfl [amc fu,asc fu] [.r' tPQ,.s'] [.r' (.b')] (fun x=>alx fu x.1 x.2) (.n') rfl (fun x=>by kernel_rfl)
noncomputable def kf_address_room(fu:Nat):sea.K:=kf fu 92 Tryz.f92 Tryz.func92 rfl rfl [aur fu] [.r' tPQ,.s'] [.r' (.c')] (fun x=>anc fu x.1 x.2) (.n') rfl (fun x=>by kernel_rfl)
noncomputable def azj(fu:Nat):sea.K:=kf fu 209 Tryz.f209 Tryz.func209 rfl rfl [aeb fu,kf_address_room fu,aha,asd fu,awz fu] [.p' 99 (.pr (.w' .s') (.i' .i64)),.l' 65 40 tPQ,.i' .i64,.i' .i64] [.r' tLQ,.r' (.i' .i64),.r' (.c'),.o' 0 99 (.pr (.w' .s') (.i' .i64))] (fun x=>afv fu x.1 x.2.1 x.2.2.1 x.2.2.2) (.s' .n' (.s' .n' (.s' .n' (.s' .n' (.j' [.s' 13 (.i' .i64)] [] .n' (.s' .n' (.s' .n' (.s' .n' (.s' .n' (.r' [.o' 0 1 (.i' .i64),.o' 16 1 (.s')] [] (.s' .n' (.s' (.s' .n' (.s' .n' (.s' (.j' [.s' 94 (.b')] [0,2,4,5,6] .n' .n') .n'))) .n')) .n')))))))))) rfl (fun x=>by kernel_rfl)
noncomputable def kf_cmp_isNaN_string(fu:Nat):sea.K:=kf fu 168 Tryz.f168 Tryz.func168 rfl rfl [] [.s'] [.r' (.b')] (fun x=>anx fu x) (.n') rfl (fun x=>by kernel_rfl)
noncomputable def kf_cmp_Compare_string(fu:Nat):sea.K:=kf fu 109 Tryz.f109 Tryz.func109 rfl rfl [kf_cmp_isNaN_string fu] [.s',.s'] [.r' (.i' .i64)] (fun x=>apz fu x.1 x.2) (.n') rfl (fun x=>by kernel_rfl)
noncomputable def aeg(fu:Nat):sea.K:=kf fu 137 Tryz.f137 Tryz.func137 rfl rfl [kf_cmp_Compare_string fu] [.pr .s' (.pr .s' .b'),.pr .s' (.pr .s' .b')] [.r' (.i' .i64)] (fun x=>aff fu x.1 x.2) (.n') rfl (fun x=>by kernel_rfl)
noncomputable def ahj(fu:Nat):sea.K:=kf fu 219 Tryz.f219 Tryz.func219 rfl rfl [aeg fu] [.l' 65 40 tPQ,.i' .i64,.i' .i64,.f' 137 .u'] [.w' 0 tLQ] (fun x=>aao fu x.1 x.2.1 x.2.2.1) (.s' .n' (.l' [.w' 0 tLQ,.s' 8 (.i' .i64)] (.s' .n' (.j' [.w' 0 tLQ] [] (.s' .n' (.l' [.w' 0 tLQ,.s' 9 (.i' .i64)] (.s' (.j' [.s' 34 (.b')] [] .n' .n') .n'))) .n')))) rfl (fun x=>by kernel_rfl)
noncomputable def aje(fu:Nat):sea.K:=kf fu 253 Tryz.f253 Tryz.func253 rfl rfl [aeg fu] [.l' 65 40 tPQ,.i' .i64,.i' .i64,.i' .i64,.f' 137 .u'] [.w' 0 tLQ] (fun x=>abh fu x.1 x.2.1 x.2.2.1 x.2.2.2.1) (.s' .n' (.l' [.w' 0 tLQ,.s' 10 (.i' .i64)] .n')) rfl (fun x=>by kernel_rfl)
noncomputable def akw(fu:Nat):sea.K:=kf fu 242 Tryz.f242 Tryz.func242 rfl rfl [aeg fu,aje fu] [.l' 65 40 tPQ,.i' .i64,.i' .i64,.i' .i64,.f' 137 .u'] [.w' 0 tLQ] (fun x=>aep fu x.1 x.2.1 x.2.2.1 x.2.2.2.1) (.s' .n' (.s' .n' (.j' [.w' 0 tLQ,.s' 10 (.i' .i64)] [] (.l' [.w' 0 tLQ,.s' 10 (.i' .i64),.s' 11 (.i' .i64)] .n') .n'))) rfl (fun x=>by kernel_rfl)
noncomputable def aca(fu:Nat):Con:=⟨[.l' 65 40 tPQ,.i' .i64,.i' .i64,.i' .i64,.f' 137 .u'],[.w' 0 tLQ],fun x=>.one (aan fu x.1 x.2.1 x.2.2.1 x.2.2.2.1)⟩
theorem ads:Go.Wk.Enters sea.P 220:=⟨Tryz.f220,_,Tryz.func220,rfl,by kernel_rfl⟩
theorem ajn(fu:Nat):FOk sea.P sea.GS 220 (aca fu):=by
 induction fu with
 |zero=>intro w S ρ L us x y _ _ _ _ hy;cases hy
 |succ fu ih=>exact(kf fu 220 Tryz.f220 Tryz.func220 rfl rfl [⟨220,aca fu,ads,ih⟩,aeg fu,akw fu] [.l' 65 40 tPQ,.i' .i64,.i' .i64,.i' .i64,.f' 137 .u'] [.w' 0 tLQ] (fun x=>aan (fu+1) x.1 x.2.1 x.2.2.1 x.2.2.2.1) (.r' [] [] (.s' .n' (.s' (.s' .n' (.s' .n' (.j' [.s' 10 (.i' .i64)] [] (.l' [.s' 10 (.i' .i64),.s' 11 (.i' .i64)] .n') (.j' [.w' 0 tLQ] [] (.s' .n' (.l' [.w' 0 tLQ,.s' 13 (.i' .i64)] .n')) .n')))) .n')) (.r' [] [] (.s' .n' (.s' (.s' .n' (.s' .n' (.j' [.s' 14 (.i' .i64)] [] (.l' [.s' 14 (.i' .i64),.s' 15 (.i' .i64)] .n') (.j' [.w' 0 tLQ] [] (.s' .n' (.l' [.w' 0 tLQ,.s' 17 (.i' .i64)] .n')) .n')))) .n')) (.s' .n' (.s' .n' (.s' .n' (.j' [.s' 20 (.i' .i64),.s' 21 (.i' .i64)] [] .n' (.s' .n' (.j' [.s' 20 (.i' .i64)] [] (.l' [.s' 20 (.i' .i64),.s' 21 (.i' .i64)] .n') (.s' .n' (.j' [.w' 0 tLQ] [] (.j' [.s' 185 (.b')] [0,1,2,3] .n' .n') (.j' [.w' 0 tLQ] [] (.j' [.s' 199 (.b')] [0,1,2,3] .n' .n') (.j' [.s' 213 (.b')] [0,1,2,3] .n' .n')))))))))))) rfl (fun x=>by kernel_rfl)).ok
noncomputable def ajl(fu:Nat):sea.K:=⟨220,aca fu,ads,ajn fu⟩
noncomputable def akv(fu:Nat):sea.K:=kf fu 183 Tryz.f183 Tryz.func183 rfl rfl [aeg fu,ahj fu,ajl fu] [.l' 65 40 tPQ,.i' .i64,.f' 137 .u'] [.w' 0 tLQ] (fun x=>acj fu x.1 x.2.1) (.s' .n' (.s' .n' (.j' [.w' 0 tLQ,.s' 7 (.i' .i64)] [] (.l' [.w' 0 tLQ,.s' 7 (.i' .i64),.s' 8 (.i' .i64)] .n') (.s' .n' (.l' [.w' 0 tLQ,.s' 6 (.i' .i64)] (.s' .n' (.s' .n' (.j' [.w' 0 tLQ,.s' 7 (.i' .i64)] [] (.l' [.w' 0 tLQ,.s' 7 (.i' .i64),.s' 8 (.i' .i64)] .n') .n')))))))) rfl (fun x=>by kernel_rfl)
noncomputable def akj(fu:Nat):sea.K:=kf fu 136 Tryz.f136 Tryz.func136 rfl rfl [aeg fu,akv fu] [.l' 65 40 tPQ,.f' 137 .u'] [.w' 0 tLQ] (fun x=>ace fu x.1) (.n') rfl (fun x=>by kernel_rfl)
noncomputable def atk(fu:Nat):sea.K:=kf fu 70 Tryz.f70 Tryz.func70 rfl rfl [kf_clone68,akj fu,aeg fu] [.r' tPQ] [.r' tLQ] (fun x=>aee fu x) (.n') rfl (fun x=>by kernel_rfl)
noncomputable def kf_address_Parse(fu:Nat):sea.K:=kf fu 173 Tryz.f173 Tryz.func173 rfl rfl [aeb fu,atk fu,ahk fu,abu fu,aha,agf fu,azi fu,ayk fu,azj fu] [.s'] [.r' (.pr .s' (.pr .s' (.pr .s' (.pr (.i' .i64) (.pr tLQ tLQ))))),.r' (.i' .i64),.r' (.c')] (fun x=>aou fu x) (.s' .n' (.s' .n' (.s' .n' (.s' .n' (.s' .n' (.s' .n' (.s' .n' (.s' .n' (.j' [.s' 8 (.i' .i64),.s' 9 (.c'),.s' 10 (.s'),.o' 27 0 (.s'),.o' 27 1 (.i' .i64),.o' 7 0 (.s'),.o' 7 1 (.s'),.o' 7 2 (.s'),.o' 7 3 (.i' .i64),.o' 7 4 tLQ,.o' 7 5 tLQ] [] (.s' .n' (.j' [.s' 35 (.b')] [] .n' .n')) (.j' [.s' 8 (.i' .i64),.s' 9 (.c'),.o' 6 0 (.s'),.o' 6 1 (.i' .i64),.o' 7 4 tLQ] [] (.l' [.s' 8 (.i' .i64),.s' 9 (.c'),.o' 6 0 (.s'),.o' 6 1 (.i' .i64),.o' 7 4 tLQ] (.s' (.j' [.s' 55 (.b')] [0,1,2] .n' .n') .n')) (.j' [.s' 8 (.i' .i64),.s' 9 (.c'),.o' 6 0 (.s'),.o' 6 1 (.i' .i64),.o' 7 5 tLQ] [] (.l' [.s' 8 (.i' .i64),.s' 9 (.c'),.o' 6 0 (.s'),.o' 6 1 (.i' .i64),.o' 7 5 tLQ] (.s' (.j' [.s' 88 (.b')] [0,1,2] .n' .n') .n')) .n'))))))))))) rfl (fun x=>by kernel_rfl)
noncomputable def ayj(fu:Nat):sea.K:=kf fu 122 Tryz.f122 Tryz.func122 rfl rfl [abu fu,agf fu,kf_address_Parse fu] [.p' 99 (.pr (.w' .s') (.i' .i64)),.p' 38 (.pr .s' (.pr (.pr .s' (.pr .s' (.pr .s' (.pr (.i' .i64) (.pr tLQ tLQ))))) tLQ))] [.r' (.i' .i64),.r' (.c'),.o' 0 99 (.pr (.w' .s') (.i' .i64)),.o' 1 38 (.pr .s' (.pr (.pr .s' (.pr .s' (.pr .s' (.pr (.i' .i64) (.pr tLQ tLQ))))) tLQ))] (fun x=>afh fu x.1 x.2) (.s' .n' (.s' .n' (.r' [.s' 6 (.i' .i64),.s' 7 (.i' .i64),.s' 8 (.i' .i64)] [] .n' .n'))) rfl (fun x=>by kernel_rfl)
noncomputable def ayl(fu:Nat):sea.K:=kf fu 91 Tryz.f91 Tryz.func91 rfl rfl [aoj fu,aeb fu,ael fu,abu fu,ase fu,auq fu,agf fu] [.p' 99 (.pr (.w' .s') (.i' .i64))] [.r' tPQ,.r' (.i' .i64),.r' (.c'),.o' 0 99 (.pr (.w' .s') (.i' .i64))] (fun x=>ahr fu x) (.n') rfl (fun x=>by kernel_rfl)
noncomputable def atl(fu:Nat):sea.K:=kf fu 36 Tryz.f36 Tryz.func36 rfl rfl [ael fu,ahk fu,abu fu,ayl fu,kf_address_room fu] [.s'] [.r' tLQ,.r' (.i' .i64),.r' (.c')] (fun x=>agz fu x) (.s' .n' (.s' .n' (.s' .n' (.l' [.s' 6 tLQ,.o' 5 0 (.s'),.o' 5 1 (.i' .i64)] (.s' .n' (.s' .n' (.s' .n' (.s' .n' (.s' .n' (.s' .n' (.s' .n' (.j' [.s' 9 (.i' .i64),.s' 10 (.c')] [] .n' .n')))))))))))) rfl (fun x=>by kernel_rfl)
noncomputable def azl(fu:Nat):sea.K:=kf fu 60 Tryz.f60 Tryz.func60 rfl rfl [atl fu,avx,ael fu,abu fu,ave fu,awe fu,ayj fu] [.s'] [.r' (.pr .s' (.pr (.pr .s' (.pr .s' (.pr .s' (.pr (.i' .i64) (.pr tLQ tLQ))))) tLQ)),.r' (.i' .i64),.r' (.c')] (fun x=>aiz fu x) (.s' .n' (.s' .n' (.s' .n' (.s' .n' (.s' .n' (.s' .n' (.j' [.s' 7 (.i' .i64),.s' 8 (.c'),.o' 16 0 (.s'),.o' 16 1 (.i' .i64),.o' 6 0 (.s'),.o' 6 1 (.s'),.o' 6 2 (.s'),.o' 6 3 (.s'),.o' 6 4 (.i' .i64),.o' 6 5 tLQ,.o' 6 6 tLQ,.o' 6 7 tLQ] [] .n' (.j' [.s' 7 (.i' .i64),.s' 8 (.c'),.o' 5 0 (.s'),.o' 5 1 (.i' .i64),.o' 6 0 (.s'),.o' 6 1 (.s'),.o' 6 2 (.s'),.o' 6 3 (.s'),.o' 6 4 (.i' .i64),.o' 6 5 tLQ,.o' 6 6 tLQ,.o' 6 7 tLQ] [] .n' (.j' [.s' 7 (.i' .i64),.s' 8 (.c'),.o' 6 7 tLQ] [] .n' .n'))))))))) rfl (fun x=>by kernel_rfl)
noncomputable def alm(fu:Nat):sea.K:=kf fu 14 Tryz.f14 Tryz.func14 rfl rfl [aqd fu,azl fu] [.s'] [.r' (.pr .s' (.pr (.pr .s' (.pr .s' (.pr .s' (.pr (.i' .i64) (.pr tLQ tLQ))))) tLQ)),.r' (.c')] (fun x=>afp fu x) (.n') rfl (fun x=>by kernel_rfl)
noncomputable def axp(fu:Nat):sea.K:=kf fu 42 Tryz.f42 Tryz.func42 rfl rfl [] [.c'] [.r' (.b')] (fun x=>amq fu x) (.s' .n' (.j' [.s' 2 (.b')] [0,1,2,6] .n' .n')) rfl (fun x=>by kernel_rfl)
noncomputable def asa(fu:Nat):sea.K:=kf fu 40 Tryz.f40 Tryz.func40 rfl rfl [axp fu] [.s',.i' .i64] [.r' (.i' .i64)] (fun x=>adk fu x.1 x.2) (.s' .n' (.s' .n' (.j' [.s' 5 (.i' .i64)] [] (.l' [.s' 5 (.i' .i64)] (.s' (.j' [.s' 20 (.b')] [0,1,3,4] .n' .n') .n')) .n'))) rfl (fun x=>by kernel_rfl)
noncomputable def kf_ref01_Trim(fu:Nat):sea.K:=kf fu 38 Tryz.f38 Tryz.func38 rfl rfl [asa fu,axp fu] [.s'] [.r' (.s')] (fun x=>aug fu x) (.s' .n' (.s' .n' (.s' .n' (.j' [.s' 3 (.i' .i64)] [] (.l' [.s' 3 (.i' .i64)] (.s' (.j' [.s' 18 (.b')] [0,1,2] .n' .n') .n')) .n')))) rfl (fun x=>by kernel_rfl)
noncomputable def kf_ref02_index(fu:Nat):sea.K:=kf fu 123 Tryz.f123 Tryz.func123 rfl rfl [] [.s',.i' .i64,.c'] [.r' (.i' .i64)] (fun x=>apb fu x.1 x.2.1 x.2.2) (.s' .n' (.r' [] [] (.s' .n' (.l' [.s' 7 (.i' .i64)] .n')) .n')) rfl (fun x=>by kernel_rfl)
noncomputable def atj(fu:Nat):sea.K:=kf fu 218 Tryz.f218 Tryz.func218 rfl rfl [] [.s',.c'] [.r' (.b')] (fun x=>aci fu x.1 x.2) (.s' .n' (.r' [] [] (.s' .n' (.l' [.s' 5 (.i' .i64)] .n')) .n')) rfl (fun x=>by kernel_rfl)
noncomputable def aek(fu:Nat):sea.K:=kf fu 210 Tryz.f210 Tryz.func210 rfl rfl [atj fu] [.p' 206 (.pr .s' (.pr (.i' .i64) (.pr (.i' .i64) .c'))),.s'] [.r' (.i' .i64)] (fun x=>abk fu x.1 x.2) (.s' .n' (.s' .n' (.j' [.s' 5 (.i' .i64)] [] (.l' [.s' 5 (.i' .i64)] (.s' (.j' [.s' 27 (.b')] [0,1,3,6,7] .n' .n') .n')) .n'))) rfl (fun x=>by kernel_rfl)
noncomputable def ahs(fu:Nat):sea.K:=kf fu 98 Tryz.f98 Tryz.func98 rfl rfl [] [.s'] [.r' (.s')] (fun x=>aec fu x) (.s' .n' (.s' .n' (.j' [.w' 3 (.y')] [] (.s' .n' (.l' [.w' 3 (.y'),.s' 4 (.i' .i64)] (.s' .n' (.s' (.j' [.s' 24 (.b')] [0,1,4,5] .n' .n') .n')))) .n'))) rfl (fun x=>by kernel_rfl)
noncomputable def aqc(fu:Nat):sea.K:=kf fu 161 Tryz.f161 Tryz.func161 rfl rfl [] [.c'] [.r' (.b')] (fun x=>adn fu x) (.s' .n' (.j' [.s' 2 (.b')] [0,1,2,6] .n' .n')) rfl (fun x=>by kernel_rfl)
noncomputable def kf_ref02_hex(fu:Nat):sea.K:=kf fu 228 Tryz.f228 Tryz.func228 rfl rfl [aqc fu] [.c'] [.r' (.i' .i64)] (fun x=>akl fu x) (.s' .n' (.s' .n' (.s' (.j' [.s' 13 (.b')] [0,1,2] .n' .n') (.s' (.j' [.s' 23 (.b')] [0,1,2] .n' .n') .n')))) rfl (fun x=>by kernel_rfl)
noncomputable def kf_ref02_escape(fu:Nat):sea.K:=kf fu 251 Tryz.f251 Tryz.func251 rfl rfl [kf_ref02_hex fu] [.s',.i' .i64] [.r' (.i' .i64)] (fun x=>atu fu x.1 x.2) (.s' .n' (.s' (.j' [.s' 31 (.b')] [0,1,2,4,5,11,19] .n' .n') .n')) rfl (fun x=>by kernel_rfl)
noncomputable def aup(fu:Nat):sea.K:=kf fu 170 Tryz.f170 Tryz.func170 rfl rfl [] [.c'] [.r' (.b')] (fun x=>alu fu x) (.s' .n' (.j' [.s' 2 (.b')] [0,1,2,6,10] .n' .n')) rfl (fun x=>by kernel_rfl)
noncomputable def adr(fu:Nat):sea.K:=kf fu 238 Tryz.f238 Tryz.func238 rfl rfl [] [.p' 206 (.pr .s' (.pr (.i' .i64) (.pr (.i' .i64) .c'))),.i' .i64,.c'] [.o' 0 206 (.pr .s' (.pr (.i' .i64) (.pr (.i' .i64) .c')))] (fun x=>aag fu x.1 x.2.1 x.2.2) (.n') rfl (fun x=>by kernel_rfl)
noncomputable def kf_ref02_letter(fu:Nat):sea.K:=kf fu 160 Tryz.f160 Tryz.func160 rfl rfl [] [.c'] [.r' (.b')] (fun x=>aqk fu x) (.s' .n' (.j' [.s' 2 (.b')] [0,1,2,6,14] .n' .n')) rfl (fun x=>by kernel_rfl)
noncomputable def kf_ref02_In(fu:Nat):sea.K:=kf fu 182 Tryz.f182 Tryz.func182 rfl rfl [kf_ref02_letter fu,aqc fu,atj fu] [.c',.i' .i64] [.r' (.b')] (fun x=>ayr fu x.1 x.2) (.s' .n' (.s' (.j' [.s' 14 (.b')] [0,2,6] .n' .n') .n')) rfl (fun x=>by kernel_rfl)
noncomputable def arz(fu:Nat):sea.K:=kf fu 237 Tryz.f237 Tryz.func237 rfl rfl [aup fu,kf_ref02_In fu,adr fu,kf_ref02_escape fu] [.p' 206 (.pr .s' (.pr (.i' .i64) (.pr (.i' .i64) .c'))),.i' .i64,.i' .i64] [.r' (.s'),.o' 0 206 (.pr .s' (.pr (.i' .i64) (.pr (.i' .i64) .c')))] (fun x=>acg fu x.1 x.2.1 x.2.2) (.s' .n' (.s' .n' (.r' [.s' 7 (.l' 5 1 .c')] [] (.s' .n' (.l' [.s' 7 (.l' 5 1 .c'),.s' 8 (.i' .i64)] (.s' .n' (.s' (.s' .n' (.r' [.s' 8 (.i' .i64),.s' 9 (.i' .i64)] [] (.s' .n' (.s' (.s' .n' (.s' (.j' [.s' 42 (.b')] [0,1,2] .n' .n') .n')) .n')) .n')) .n')))) .n'))) rfl (fun x=>by kernel_rfl)
noncomputable def kf_ref02_reader_user(fu:Nat):sea.K:=kf fu 211 Tryz.f211 Tryz.func211 rfl rfl [aek fu,arz fu,adr fu] [.p' 206 (.pr .s' (.pr (.i' .i64) (.pr (.i' .i64) .c')))] [.r' (.s'),.o' 0 206 (.pr .s' (.pr (.i' .i64) (.pr (.i' .i64) .c')))] (fun x=>ain fu x) (.s' .n' (.s' .n' (.s' .n' (.r' [] [] (.s' .n' (.l' [.s' 4 (.i' .i64)] .n')) (.j' [.o' 0 0 (.s'),.o' 0 1 (.i' .i64),.o' 0 2 (.i' .i64),.o' 0 3 (.c')] [] .n' .n'))))) rfl (fun x=>by kernel_rfl)
noncomputable def ani(fu:Nat):sea.K:=kf fu 239 Tryz.f239 Tryz.func239 rfl rfl [] [.p' 206 (.pr .s' (.pr (.i' .i64) (.pr (.i' .i64) .c'))),.c'] [.r' (.b')] (fun x=>abj fu x.1 x.2) (.s' .n' (.j' [.s' 4 (.b')] [] .n' .n')) rfl (fun x=>by kernel_rfl)
noncomputable def kf_ref02_pieces(fu:Nat):sea.K:=kf fu 95 Tryz.f95 Tryz.func95 rfl rfl [] [.s',.c'] [.r' (.l' 9 16 .s')] (fun x=>aqj fu x.1 x.2) (.s' .n' (.s' .n' (.s' .n' (.j' [.s' 5 (.l' 9 16 .s'),.s' 6 (.i' .i64)] [] (.s' .n' (.l' [.s' 5 (.l' 9 16 .s'),.s' 6 (.i' .i64),.s' 7 (.i' .i64)] .n')) .n')))) rfl (fun x=>by kernel_rfl)
noncomputable def kf_ref02_group(fu:Nat):sea.K:=kf fu 195 Tryz.f195 Tryz.func195 rfl rfl [ahs fu,kf_ref02_hex fu] [.s'] [.r' (.s'),.r' (.b')] (fun x=>avi fu x) (.s' .n' (.s' (.j' [.s' 12 (.b')] [0,2,3] .n' .n') (.r' [] [] (.s' .n' (.l' [.s' 4 (.i' .i64)] .n')) (.j' [.s' 0 (.s')] [] (.l' [.s' 0 (.s')] (.s' (.j' [.s' 31 (.b')] [0,2,3] .n' .n') .n')) .n')))) rfl (fun x=>by kernel_rfl)
noncomputable def kf_ref02_groups(fu:Nat):sea.K:=kf fu 159 Tryz.f159 Tryz.func159 rfl rfl [kf_ref02_pieces fu,kf_ref02_group fu] [.s'] [.r' (.s'),.r' (.i' .i64),.r' (.b')] (fun x=>anb fu x) (.s' .n' (.s' .n' (.s' .n' (.s' .n' (.r' [.s' 6 (.s')] [] (.s' .n' (.l' [.s' 6 (.s'),.s' 7 (.i' .i64)] (.s' .n' (.s' (.s' .n' (.s' .n' (.j' [.s' 6 (.s')] [] .n' .n'))) .n')))) .n'))))) rfl (fun x=>by kernel_rfl)
noncomputable def kf_ref02_six(fu:Nat):sea.K:=kf fu 94 Tryz.f94 Tryz.func94 rfl rfl [kf_ref02_groups fu] [.s'] [.r' (.s'),.r' (.b')] (fun x=>azu fu x) (.s' .n' (.r' [] [] (.s' .n' (.l' [.s' 4 (.i' .i64)] (.s' .n' (.s' (.s' (.j' [.s' 31 (.b')] [0,1,2,3,4] .n' .n') (.s' .n' (.s' .n' (.s' (.j' [.s' 60 (.b')] [0,1,2,6] .n' .n') .n')))) .n')))) (.s' .n' (.j' [.s' 3 (.b')] [0,1,2,6,7] .n' .n')))) rfl (fun x=>by kernel_rfl)
noncomputable def kf_ref02_label(fu:Nat):sea.K:=kf fu 96 Tryz.f96 Tryz.func96 rfl rfl [kf_ref02_letter fu,aqc fu] [.s'] [.r' (.b'),.r' (.b')] (fun x=>avh fu x) (.s' .n' (.s' (.j' [.s' 26 (.b')] [0,2,3,8,13] .n' .n') (.s' .n' (.r' [.s' 4 (.b')] [] (.s' .n' (.l' [.s' 4 (.b'),.s' 5 (.i' .i64)] (.s' .n' (.s' (.s' (.j' [.s' 50 (.b')] [0,1,2,4,5,12] .n' .n') .n') .n')))) .n')))) rfl (fun x=>by kernel_rfl)
noncomputable def kf_ref02_number(fu:Nat):sea.K:=kf fu 97 Tryz.f97 Tryz.func97 rfl rfl [aqc fu] [.s'] [.r' (.b')] (fun x=>att fu x) (.s' .n' (.s' (.j' [.s' 22 (.b')] [0,2,3,8] .n' .n') (.s' .n' (.r' [.s' 3 (.i' .i64)] [] (.s' .n' (.l' [.s' 3 (.i' .i64),.s' 4 (.i' .i64)] .n')) .n')))) rfl (fun x=>by kernel_rfl)
noncomputable def azh(fu:Nat):sea.K:=kf fu 43 Tryz.f43 Tryz.func43 rfl rfl [kf_ref02_six fu,kf_ref02_pieces fu,kf_ref02_label fu,kf_ref02_number fu,ahs fu] [.s'] [.r' (.s'),.r' (.b')] (fun x=>art fu x) (.s' .n' (.s' .n' (.s' (.j' [.s' 28 (.b')] [0,1,2,7] .n' .n') (.s' .n' (.s' .n' (.r' [.s' 8 (.b'),.s' 9 (.b')] [] (.s' .n' (.l' [.s' 8 (.b'),.s' 9 (.b'),.s' 10 (.i' .i64)] (.s' .n' (.s' (.s' .n' (.s' .n' (.j' [.s' 9 (.b')] [1,4] .n' .n'))) .n')))) (.s' (.j' [.s' 84 (.b')] [0,1,2] .n' .n') .n'))))))) rfl (fun x=>by kernel_rfl)
noncomputable def kf_ref02_reader_host(fu:Nat):sea.K:=kf fu 212 Tryz.f212 Tryz.func212 rfl rfl [azh fu,aek fu,adr fu,ani fu] [.p' 206 (.pr .s' (.pr (.i' .i64) (.pr (.i' .i64) .c')))] [.r' (.s'),.o' 0 206 (.pr .s' (.pr (.i' .i64) (.pr (.i' .i64) .c')))] (fun x=>acs fu x) (.s' .n' (.s' .n' (.s' .n' (.j' [.s' 3 (.i' .i64)] [] .n' (.s' .n' (.j' [.o' 0 0 (.s'),.o' 0 1 (.i' .i64),.o' 0 2 (.i' .i64),.o' 0 3 (.c')] [] .n' .n')))))) rfl (fun x=>by kernel_rfl)
noncomputable def kf_ref01_Number(fu:Nat):sea.K:=kf fu 99 Tryz.f99 Tryz.func99 rfl rfl [] [.s'] [.r' (.i' .i64),.r' (.c')] (fun x=>atw fu x) (.s' .n' (.s' .n' (.r' [.s' 4 (.i' .i64)] [] (.s' .n' (.l' [.s' 4 (.i' .i64),.s' 5 (.i' .i64)] (.s' .n' (.s' (.s' (.j' [.s' 25 (.b')] [0,1,2,3,4,10] .n' .n') .n') .n')))) .n'))) rfl (fun x=>by kernel_rfl)
noncomputable def kf_ref02_reader_port(fu:Nat):sea.K:=kf fu 213 Tryz.f213 Tryz.func213 rfl rfl [kf_ref01_Number fu,aek fu,adr fu,ani fu] [.p' 206 (.pr .s' (.pr (.i' .i64) (.pr (.i' .i64) .c')))] [.r' (.i' .i64),.o' 0 206 (.pr .s' (.pr (.i' .i64) (.pr (.i' .i64) .c')))] (fun x=>acb fu x) (.s' .n' (.s' (.s' .n' (.s' (.j' [.o' 0 0 (.s'),.o' 0 1 (.i' .i64),.o' 0 2 (.i' .i64),.o' 0 3 (.c')] [] (.j' [.s' 28 (.b')] [] .n' .n') .n') .n')) (.s' .n' (.s' .n' (.s' .n' (.j' [.o' 0 0 (.s'),.o' 0 1 (.i' .i64),.o' 0 2 (.i' .i64),.o' 0 3 (.c')] [] .n' (.j' [.o' 0 0 (.s'),.o' 0 1 (.i' .i64),.o' 0 2 (.i' .i64),.o' 0 3 (.c')] [] (.j' [.s' 72 (.b')] [0,1,2] .n' .n') .n'))))))) rfl (fun x=>by kernel_rfl)
noncomputable def kf_ref02_reader_param(fu:Nat):sea.K:=kf fu 240 Tryz.f240 Tryz.func240 rfl rfl [ahs fu,arz fu,adr fu] [.p' 206 (.pr .s' (.pr (.i' .i64) (.pr (.i' .i64) .c'))),.i' .i64,.i' .i64] [.r' tPQ,.o' 0 206 (.pr .s' (.pr (.i' .i64) (.pr (.i' .i64) .c')))] (fun x=>akz fu x.1 x.2.1 x.2.2) (.s' .n' (.s' .n' (.j' [.s' 7 (.i' .i64)] [] (.l' [.s' 7 (.i' .i64)] (.s' (.j' [.s' 26 (.b')] [0,1,2,3] .n' .n') .n')) (.s' .n' (.s' .n' (.j' [.o' 0 0 (.s'),.o' 0 1 (.i' .i64),.o' 0 2 (.i' .i64),.o' 0 3 (.c')] [] .n' (.s' .n' (.j' [.o' 0 0 (.s'),.o' 0 1 (.i' .i64),.o' 0 2 (.i' .i64),.o' 0 3 (.c')] [] (.j' [.s' 51 (.b')] [0,1,2] .n' .n') (.j' [.o' 0 0 (.s'),.o' 0 1 (.i' .i64),.o' 0 2 (.i' .i64),.o' 0 3 (.c'),.o' 10 1 (.s'),.o' 10 2 (.b')] [] (.s' .n' (.s' (.s' .n' (.s' .n' (.s' .n' (.j' [.s' 75 (.b')] [0,1,2] .n' .n')))) .n')) .n'))))))))) rfl (fun x=>by kernel_rfl)
noncomputable def kf_ref02_find(fu:Nat):sea.K:=kf fu 102 Tryz.f102 Tryz.func102 rfl rfl [ahs fu] [.r' tPQ,.s'] [.r' (.i' .i64)] (fun x=>auf fu x.1 x.2) (.s' .n' (.r' [] [] (.s' .n' (.l' [.s' 5 (.i' .i64)] .n')) .n')) rfl (fun x=>by kernel_rfl)
noncomputable def azg(fu:Nat):sea.K:=kf fu 101 Tryz.f101 Tryz.func101 rfl rfl [kf_ref02_find fu] [.r' tPQ,.s'] [.r' (.c')] (fun x=>aeq fu x.1 x.2) (.n') rfl (fun x=>by kernel_rfl)
theorem K_L_ref02_Sorted{fu:Nat}{l_0:LQ}(a_1:Option Addr)(n_1:Nat)(cap_1:Nat){w:World}{r:LQ}(hr:akm fu l_0=some r)(hG:Gl w)(hna_1:n_1=l_0.length)(hRa_1:Rd w a_1 (List.flatMap aaf l_0))(hCa_1:n_1≤cap_1):CR Tryz.prog 53 [(Value.slice a_1 n_1 cap_1)] w fun v w'=>∃(o0:Option Nat),∃(a0:Option Addr),∃(cap0:Nat),v=(Value.slice a0 r.length cap0)∧Hp w [] [rwt aaf 65 3 o0 a0 cap0 r] w':=by
 subst hna_1
 have hH:Hp w [] [] w:=Hp.refl w
 refine enter (k:=51) Tryz.func53 rfl rfl (Nat.le_of_ble_eq_true rfl) ?_
 unfold akm at hr
 refine sr (wp 1 (nq (sr (wp 1 (nq ?_)))))
 refine bi hr fun j1098 hr1099 hr=>cut (σ:=LQ×(Option Nat)×(Option Addr)×Nat) [2,3] (fun⟨v1100,o1097,a1095,cap1096⟩=>[(3,(Value.slice a1095 v1100.length cap1096))]) (fun⟨v1100,o1097,a1095,cap1096⟩ w'=>Hp w [] [rwt aaf 65 3 o1097 a1095 cap1096 v1100] w'∧v1100=j1098) ?_ ?_
 refine sr (wp 1 (nq (ce (lpG (σ:=Nat×LQ×Int×(Option Nat)×(Option Addr)×Nat) [0,2,3,4] (fun⟨fk1755,out_1314,i_1318,o1317,a1315,cap1316⟩=>[(3,(Value.slice a1315 out_1314.length cap1316)),(4,(Value.int .i64 i_1318))]) (fun⟨fk1755,out_1314,i_1318,o1317,a1315,cap1316⟩ w'=>Hp w [] [rwt aaf 65 3 o1317 a1315 cap1316 out_1314] w'∧agw fu l_0 fk1755 out_1314 i_1318=some j1098) (fun⟨fk1755,out_1314,i_1318,o1317,a1315,cap1316⟩=>fk1755) (fu,([]:LQ),(0:Int),none,none,0) (by exact⟨(Hp.nilrw hH aaf 65 3 none).kp,hr1099⟩) ?_ (mc krf (mc krf (mc (Eq.trans (b:=(Value.slice none 0 0)) krf (slice_len (by(try simp only [List.length_set])<;>first|rfl|omega|simp))) (mc krf rfl))))))))
 rintro⟨_|fk1755,out_1314,i_1318,o1317,a1315,cap1316⟩ w1756 G ⟨hH1757,hr1754⟩
 ·exact absurd (show none=some _ from hr1754) (by simp)
 rw [apu,air]at hr1754
 refine cs (sr (wp 4 (nq (cd hr1754 (fun h1758 hr1754=> ?_) (fun h1758 hr1754=> ?_)))))
 refine ck (qn (bi hr1754 fun j1975 hr1976 hr1754=>cut (σ:=LQ×(Option Nat)×(Option Addr)×Nat) [0,2,3,4] (fun⟨v1977,o1974,a1972,cap1973⟩=>[(3,(Value.slice a1972 v1977.length cap1973))]) (fun⟨v1977,o1974,a1972,cap1973⟩ w'=>Hp w [] [rwt aaf 65 3 o1974 a1972 cap1973 v1977] w'∧v1977=j1975) ?_ ?_))
 refine ce (sr (wp 3 (nq (bi hr1976 fun v2071 hr2070 hr1976=>cut0 hH1757 [0,2,3,4,5] [(5,(Value.int .i64 v2071))] ?_ ?_))))
 refine ce (lpS (fun fk2130 k_2100=>aju fu l_0 out_1314 i_1318 fk2130 k_2100) (out_1314.length:Int) hH1757 hr2070 [0,2,3,4,5] (fun k_2100=>[(5,(Value.int .i64 k_2100))]) (fun _=>rfl) ?_)
 rintro fk2130 k_2100 w2131 G hH2132 hr2129
 rw [apt,aiq]at hr2129
 refine cs (bi hr2129 fun v2146 hr2145 hr2129=>cut0 hH2132 [0,2,3,4,5,30] [(30,(Value.bool v2146))] ?_ ?_)
 by_cases h2147:(0:Int)<k_2100
 replace hr2145:=ift h2147 hr2145
 refine gi hr2145 fun g2148 hr2145=>gi hr2145 fun g2149 hr2145=>gi hr2145 fun g2150 hr2145=>gi hr2145 fun g2151 hr2145=>gi hr2145 fun g2152 hr2145=>c_drawn 14 (fun j_ w_ w_'=>Keep [7,8,14,15] (fun w'=>Rd w' a1315 (List.flatMap aaf out_1314)) j_ w_ w_'∧Keep [14,15] (fun w'=>Rd w' a1315 (List.flatMap aaf out_1314)) j_ w_ w_'∧Keep [12,13,14,15] (fun w'=>Rd w' a_1 (List.flatMap aaf l_0)) j_ w_ w_'∧Keep [14,15] (fun w'=>Rd w' a_1 (List.flatMap aaf l_0)) j_ w_ w_'∧True) [false,false,false,false,false,false,false,false,false,false,false,false,false,false,false,false] (fun _ _=>⟨Keep.same,Keep.same,Keep.same,Keep.same,trivial⟩) krf krf hH2132 rfl (alk (np_seq (alk (ahi (alk (ahi (alk (alk (ahi (alk np_body)))))))))) fun w2153 hH2154=>rp 12 [0,1] (rt 2 (Value.bool true) rfl rfl (y_val rfl (by intro w hS_;exact Eq.trans (b:=Result.ok (Next.value (.bool (decide ((0:Int)<k_2100)))) w) krf (congrArg (fun b=>Result.ok (Next.value (.bool b)) w) (decide_eq_true h2147)))) (rp 9 [3,4] (rt 5 (Value.int .i64 (k_2100-(1:Int))) rfl rfl (y_gyes 17 krf krf krf (by intro w hS_;exact(x_sub64 k_2100 (1:Int) krf krf g2148))) ?_)))
 refine azc [true,true,true,true,true,true,true,false,false,false,false,false,false,false,false,false] 6 21 (Value.pointer (some (ea a1315 ((k_2100-(1:Int)).toNat*3)))) [7,8,14,15] (fun _ _ _ h=>h.1) _ rfl rfl krf krf krf krf krf rfl (y_gyes 17 krf krf krf (by intro w hS_;exact(x_ixT a1315 out_1314.length cap1316 65 3 .i64 (k_2100-(1:Int)) Tryz.underlying22 krf krf krf out_1314 rfl g2149 hS_ aav (by decide)))) (by exact(hH2154.rdrw 0 rfl)) (rt 7 (Value.pointer (some (ea a1315 ((k_2100-(1:Int)).toNat*3+0)))) rfl rfl (y_gyes 17 krf krf krf (by intro w hS_;exact(x_fldE a1315 ((k_2100-(1:Int)).toNat*3) 0 krf krf))) (azc [true,true,true,true,true,true,true,true,true,false,false,false,false,false,false,false] 8 23 (str ((el out_1314 (k_2100-(1:Int))).1)) [14,15] (fun _ _ _ h=>h.2.1) _ rfl rfl krf krf krf krf krf rfl (y_gyes 17 krf krf krf (by intro w hS_;exact(x_ldF a1315 aaf out_1314 3 (k_2100-(1:Int)) 0 aav hS_ (str ((el out_1314 (k_2100-(1:Int))).1)) g2150 (by decide) krf krf krf))) (by exact(hH2154.rdrw 0 rfl)) (rp 3 [9,10] (azc [true,true,true,true,true,true,true,true,true,true,true,true,false,false,false,false] 11 26 (Value.pointer (some (ea a_1 (i_1318.toNat*3)))) [12,13,14,15] (fun _ _ _ h=>h.2.2.1) _ rfl rfl krf krf krf krf krf rfl (y_gyes 17 krf krf krf (by intro w hS_;exact(x_ixT a_1 l_0.length cap_1 65 3 .i64 i_1318 Tryz.underlying22 krf krf krf l_0 rfl g2151 hS_ aav (by decide)))) (by exact(hRa_1.hp hH2154)) (rt 12 (Value.pointer (some (ea a_1 (i_1318.toNat*3+0)))) rfl rfl (y_gyes 17 krf krf krf (by intro w hS_;exact(x_fldE a_1 ((i_1318).toNat*3) 0 krf krf))) (azc [true,true,true,true,true,true,true,true,true,true,true,true,true,true,false,false] 13 28 (str ((el l_0 i_1318).1)) [14,15] (fun _ _ _ h=>h.2.2.2.1) _ rfl rfl krf krf krf krf krf rfl (y_gyes 17 krf krf krf (by intro w hS_;exact(x_ldF a_1 aaf l_0 3 i_1318 0 aav hS_ (str ((el l_0 i_1318).1)) g2152 (by decide) krf krf krf))) (by exact(hRa_1.hp hH2154)) (r_zero krf (wp 2 (wl ?_)))))))))
 refine ql ?_
 obtain rfl:=oi hr2145
 exact je hH2154.kp
 replace hr2145:=ifn h2147 hr2145
 refine c_drawn 14 (fun j_ w_ w_'=>Keep [7,8,14,15] (fun w'=>Rd w' a1315 (List.flatMap aaf out_1314)) j_ w_ w_'∧Keep [14,15] (fun w'=>Rd w' a1315 (List.flatMap aaf out_1314)) j_ w_ w_'∧Keep [12,13,14,15] (fun w'=>Rd w' a_1 (List.flatMap aaf l_0)) j_ w_ w_'∧Keep [14,15] (fun w'=>Rd w' a_1 (List.flatMap aaf l_0)) j_ w_ w_'∧True) [false,false,false,false,false,false,false,false,false,false,false,false,false,false,false,false] (fun _ _=>⟨Keep.same,Keep.same,Keep.same,Keep.same,trivial⟩) krf krf hH2132 rfl (alk (np_seq (alk (ahi (alk (ahi (alk (alk (ahi (alk np_body)))))))))) fun w2155 hH2156=>rp 12 [0,1] (rt 2 (Value.bool false) rfl rfl (y_val rfl (by intro w hS_;exact Eq.trans (b:=Result.ok (Next.value (.bool (decide ((0:Int)<k_2100)))) w) krf (congrArg (fun b=>Result.ok (Next.value (.bool b)) w) (decide_eq_false h2147)))) (rp 0 [3,4,5,6,7,8,9,10,11,12,13] (r_zero krf (wp 2 (wl (ql ?_))))))
 obtain rfl:=oi hr2145
 exact je hH2156.kp
 intro w2157 G hH2158
 refine cb hr2129 (fun h2159 hr2129=> ?_) (fun h2159 hr2129=> ?_)
 refine ck (qn (ce (cr (wp 1 (gi hr2129 fun g2160 hr2129=>w_sub64 k_2100 (1:Int) krf krf g2160 (wp 1 (wl (bn ?_))))))))
 exact ql (le' (k_2100-(1:Int)) hH2158.kp hr2129)
 refine c_exit (s_exit (q_exit (b_here (ql ?_))))
 obtain rfl:=oi hr2129
 exact je hH2158.kp
 intro w2162 G hH2163
 refine sr (wp 1 (nq (sr (wp 3 (gi hr1976 fun g2164 hr1976=>w_slTo a1315 out_1314.length cap1316 65 3 .i64 v2071 Tryz.underlying22 krf krf krf out_1314 rfl g2164 (hH2163.rwcap 0 rfl) ?_)))))
 have hH2165:=hH2163.nilrw aaf 65 3 none
 replace hH2165:Hp w [] [rwt aaf 65 3 none none 0 ([]:LQ),rwt aaf 65 3 o1317 a1315 cap1316 out_1314] w2162:=hH2165
 refine gi hr1976 fun g2166 hr1976=>avq hH2165 0 none none a1315 0 cap1316 65 3 40 ([]:LQ) (List.take (Int.toNat v2071) out_1314) aav rfl Tryz.underlying22 (by unfold TI;kernel_rfl) (by decide) (by decide) (Eq.trans (b:=(Value.slice none 0 0)) krf (slice_len (by first|rfl|(simp;done)|omega|(simp;omega)|(rw [List.length_take];omega)))) (Eq.trans (b:=(Value.slice a1315 (Int.toNat v2071) cap1316)) krf (slice_len (by first|rfl|(simp;done)|omega|(simp;omega)|(rw [List.length_take];omega)))) (Rd.takeT aav (Int.toNat v2071) (hH2165.rdrw 1 rfl)) g2166 fun o2167 a2168 cap2169 w2170 hH2171=> ?_
 replace hH2171:Hp w [] [rwt aaf 65 3 o2167 a2168 cap2169 (([]:LQ)++(List.take (Int.toNat v2071) out_1314)),rwt aaf 65 3 o1317 a1315 cap1316 out_1314] w2170:=hH2171
 refine wp 1 (nq (sr (wp 3 (gi hr1976 fun g2172 hr1976=>w_ixT a_1 l_0.length cap_1 65 3 .i64 i_1318 Tryz.underlying22 krf krf krf l_0 rfl g2172 (hRa_1.hp hH2171) aav (by decide) (gi hr1976 fun g2173 hr1976=>w_ldE a_1 aaf l_0 3 i_1318 aav (hRa_1.hp hH2171) [(str ((el l_0 i_1318).1)),(str ((el l_0 i_1318).2.1)),(Value.bool ((el l_0 i_1318).2.2))] g2173 krf krf krf krf (by decide) ?_)))))
 refine w_new hH2171 [(str ((el l_0 i_1318).1)),(str ((el l_0 i_1318).2.1)),(Value.bool ((el l_0 i_1318).2.2))] 65 (fun b=>(Value.slice (some ⟨b,0,none⟩) 1 1)) rfl rfl krf fun b2174 w2175 hH2176=>gi hr1976 fun g2177 hr1976=>avq hH2176 1 o2167 a2168 (some ⟨b2174,0,none⟩) cap2169 1 65 3 40 (([]:LQ)++(List.take (Int.toNat v2071) out_1314)) ([((el l_0 i_1318).1,(el l_0 i_1318).2.1,((el l_0 i_1318).2.2))]:LQ) aav rfl Tryz.underlying22 (by unfold TI;kernel_rfl) (by decide) (by decide) krf (Eq.trans (b:=(Value.slice (some ⟨b2174,0,none⟩) 1 1)) krf (slice_len (by first|rfl|(simp;done)|omega|(simp;omega)|(rw [List.length_take];omega)))) (hH2176.rdblk 0 rfl) g2177 fun o2178 a2179 cap2180 w2181 hH2182=> ?_
 replace hH2182:Hp w [] [blk b2174 [(str ((el l_0 i_1318).1)),(str ((el l_0 i_1318).2.1)),(Value.bool ((el l_0 i_1318).2.2))] 65,rwt aaf 65 3 o2178 a2179 cap2180 ((([]:LQ)++(List.take (Int.toNat v2071) out_1314))++([((el l_0 i_1318).1,(el l_0 i_1318).2.1,((el l_0 i_1318).2.2))]:LQ)),rwt aaf 65 3 o1317 a1315 cap1316 out_1314] w2181:=hH2182
 refine wp 1 (nq (cr (wp 3 (gi hr1976 fun g2183 hr1976=>w_slFrom a1315 out_1314.length cap1316 65 3 .i64 v2071 Tryz.underlying22 krf krf krf out_1314 rfl g2183 (gi hr1976 fun g2184 hr1976=>avq hH2182 1 o2178 a2179 (slF a1315 cap1316 (Int.toNat v2071) 3) cap2180 (cap1316-(Int.toNat v2071)) 65 3 40 ((([]:LQ)++(List.take (Int.toNat v2071) out_1314))++([((el l_0 i_1318).1,(el l_0 i_1318).2.1,((el l_0 i_1318).2.2))]:LQ)) (List.drop (Int.toNat v2071) out_1314) aav rfl Tryz.underlying22 (by unfold TI;kernel_rfl) (by decide) (by decide) krf (Eq.trans (b:=(Value.slice (slF a1315 cap1316 (Int.toNat v2071) 3) (out_1314.length-(Int.toNat v2071)) (cap1316-(Int.toNat v2071)))) krf (slice_len (by first|rfl|(simp;done)|omega|(simp;omega)|(rw [List.length_take];omega)))) (Rd.dropT aav cap1316 (Int.toNat v2071) (Nat.le_trans (Nat.le_of_eq rfl) (hH2182.rwcap 2 rfl)) (hH2182.rdrw 2 rfl)) g2184 fun o2185 a2186 cap2187 w2188 hH2189=> ?_)))))
 replace hH2189:Hp w [] [blk b2174 [(str ((el l_0 i_1318).1)),(str ((el l_0 i_1318).2.1)),(Value.bool ((el l_0 i_1318).2.2))] 65,rwt aaf 65 3 o2185 a2186 cap2187 (((([]:LQ)++(List.take (Int.toNat v2071) out_1314))++([((el l_0 i_1318).1,(el l_0 i_1318).2.1,((el l_0 i_1318).2.2))]:LQ))++(List.drop (Int.toNat v2071) out_1314)),rwt aaf 65 3 o1317 a1315 cap1316 out_1314] w2188:=hH2189
 refine wp 1 (wl (bn (ql ?_)))
 obtain rfl:=oi hr1976
 exact⟨(((([]:LQ)++(List.take (Int.toNat v2071) out_1314))++([((el l_0 i_1318).1,(el l_0 i_1318).2.1,((el l_0 i_1318).2.2))]:LQ))++(List.drop (Int.toNat v2071) out_1314),o2185,a2186,cap2187),_,rfl,by kernel_rfl,(Hp.front hH2189 1 _ rfl).kp,rfl⟩
 rintro⟨v1977,o1974,a1972,cap1973⟩ w2190 G ⟨hH2191,rfl⟩
 refine cr (wp 1 (gi hr1754 fun g2192 hr1754=>ayv i_1318 (1:Int) krf krf g2192 (wp 1 (wl (ql ?_)))))
 exact⟨(fk1755,v1977,i_1318+(1:Int),o1974,a1972,cap1973),_,rfl,by kernel_rfl,⟨hH2191.kp,hr1754⟩,Nat.lt_succ_self _⟩
 refine c_exit (s_exit (q_exit (b_here (ql ?_))))
 obtain rfl:=oi hr1754
 exact⟨(out_1314,o1317,a1315,cap1316),_,rfl,by kernel_rfl,hH1757.kp,rfl⟩
 rintro⟨v1100,o1097,a1095,cap1096⟩ w2194 G ⟨hH2195,rfl⟩
 refine sr (wp 2 (nq (ct ?_)))
 obtain rfl:=oi hr
 refine r_one (Value.slice a1095 v1100.length cap1096) rfl krf ?_
 exact⟨o1097,a1095,cap1096,(by first|rfl|(simp;done)|(simp;omega)),hH2195.kp⟩
noncomputable def kf_ref02_Sorted(fu:Nat):sea.K:=⟨53,⟨[.r' tPQ],[.r' tLQ],fun x=>.one (akm fu x)⟩,⟨Tryz.f53,_,Tryz.func53,rfl,by kernel_rfl⟩,fok_clone (e:=65) (b:=40) (t:=.pr .s' (.pr .s' .b')) (fun x=>x) (fun y=>y) (fun _=>rfl) (fun _ _=>rfl) (fun _ _=>rfl) (fun _ _ _=>rfl) fun w S x y a n cap hG hy hn hR hc=>K_L_ref02_Sorted a n cap hy hG.1 hn hR hc⟩
noncomputable def kf_ref02_reader_list(fu:Nat):sea.K:=kf fu 214 Tryz.f214 Tryz.func214 rfl rfl [kf_ref02_Sorted fu,azg fu,aek fu,adr fu,ani fu,kf_ref02_reader_param fu] [.p' 206 (.pr .s' (.pr (.i' .i64) (.pr (.i' .i64) .c'))),.c',.c',.s',.i' .i64] [.r' tLQ,.o' 0 206 (.pr .s' (.pr (.i' .i64) (.pr (.i' .i64) .c')))] (fun x=>aam fu x.1 x.2.1 x.2.2.1 x.2.2.2.1 x.2.2.2.2) (.s' .n' (.s' .n' (.s' .n' (.j' [.s' 11 tLQ,.o' 0 0 (.s'),.o' 0 1 (.i' .i64),.o' 0 2 (.i' .i64),.o' 0 3 (.c')] [] (.l' [.s' 11 tLQ,.s' 12 (.c'),.o' 0 0 (.s'),.o' 0 1 (.i' .i64),.o' 0 2 (.i' .i64),.o' 0 3 (.c')] (.s' .n' (.s' .n' (.s' .n' (.s' .n' (.s' .n' (.s' .n' (.j' [.o' 0 0 (.s'),.o' 0 1 (.i' .i64),.o' 0 2 (.i' .i64),.o' 0 3 (.c')] [] .n' .n')))))))) .n')))) rfl (fun x=>by kernel_rfl)
noncomputable def aqb(fu:Nat):sea.K:=kf fu 215 Tryz.f215 Tryz.func215 rfl rfl [aqc fu,aek fu,atj fu,adr fu,ani fu] [.p' 206 (.pr .s' (.pr (.i' .i64) (.pr (.i' .i64) .c')))] [.r' (.s'),.o' 0 206 (.pr .s' (.pr (.i' .i64) (.pr (.i' .i64) .c')))] (fun x=>adf fu x) (.s' .n' (.s' .n' (.s' .n' (.s' .n' (.s' .n' (.r' [.s' 6 (.l' 5 1 .c')] [] (.s' .n' (.l' [.s' 6 (.l' 5 1 .c'),.s' 7 (.i' .i64)] (.s' .n' (.s' (.s' .n' (.j' [.s' 54 (.b')] [0,2,14] .n' .n')) .n')))) (.s' .n' (.j' [.s' 9 (.i' .i64)] [] .n' (.j' [.o' 0 0 (.s'),.o' 0 1 (.i' .i64),.o' 0 2 (.i' .i64),.o' 0 3 (.c')] [] .n' (.j' [.o' 0 0 (.s'),.o' 0 1 (.i' .i64),.o' 0 2 (.i' .i64),.o' 0 3 (.c')] [] .n' .n')))))))))) rfl (fun x=>by kernel_rfl)
noncomputable def kf_ref02_Parse(fu:Nat):sea.K:=kf fu 174 Tryz.f174 Tryz.func174 rfl rfl [ahs fu,aek fu,kf_ref02_reader_user fu,kf_ref02_reader_host fu,kf_ref02_reader_port fu,kf_ref02_reader_list fu,aqb fu] [.s'] [.r' (.pr .s' (.pr .s' (.pr .s' (.pr (.i' .i64) (.pr tLQ tLQ))))),.r' (.i' .i64),.r' (.c')] (fun x=>avk fu x) (.s' .n' (.s' .n' (.s' .n' (.s' .n' (.s' .n' (.s' .n' (.s' .n' (.r' [.o' 14 0 (.s'),.o' 14 1 (.i' .i64),.o' 14 2 (.i' .i64),.o' 14 3 (.c'),.o' 7 1 (.s'),.o' 7 2 (.s'),.o' 7 3 (.i' .i64),.o' 7 4 tLQ,.o' 7 5 tLQ] [] (.s' .n' (.j' [.s' 37 (.b')] [] .n' .n')) .n')))))))) rfl (fun x=>by kernel_rfl)
noncomputable def kf_ref01_TokenChar(fu:Nat):sea.K:=kf fu 93 Tryz.f93 Tryz.func93 rfl rfl [] [.c'] [.r' (.b')] (fun x=>apj fu x) (.s' .n' (.s' (.j' [.s' 26 (.b')] [0,1,2,6,14] .n' .n') (.s' .n' (.r' [] [] (.s' .n' (.l' [.s' 4 (.i' .i64)] .n')) .n')))) rfl (fun x=>by kernel_rfl)
noncomputable def aov(fu:Nat):sea.K:=kf fu 39 Tryz.f39 Tryz.func39 rfl rfl [kf_ref01_TokenChar fu] [.s',.i' .i64] [.r' (.i' .i64)] (fun x=>afn fu x.1 x.2) (.s' .n' (.s' .n' (.j' [.s' 5 (.i' .i64)] [] (.l' [.s' 5 (.i' .i64)] (.s' (.j' [.s' 20 (.b')] [0,1,3,4] .n' .n') .n')) .n'))) rfl (fun x=>by kernel_rfl)
noncomputable def kf_ref01_opens(fu:Nat):sea.K:=kf fu 196 Tryz.f196 Tryz.func196 rfl rfl [] [.s',.i' .i64,.c'] [.r' (.i' .i64),.r' (.c')] (fun x=>azv fu x.1 x.2.1 x.2.2) (.s' .n' (.s' (.j' [.s' 15 (.b')] [0,1,2] .n' .n') (.s' (.j' [.s' 26 (.b')] [0,1,3,4] .n' .n') .n'))) rfl (fun x=>by kernel_rfl)
noncomputable def kf_ref01_step(fu:Nat):sea.K:=kf fu 197 Tryz.f197 Tryz.func197 rfl rfl [aup fu] [.s',.i' .i64] [.r' (.i' .i64),.r' (.i' .i64),.r' (.c')] (fun x=>axj fu x.1 x.2) (.s' .n' (.s' .n' (.s' .n' (.s' .n' (.s' .n' (.s' (.j' [.s' 40 (.b')] [0,1,2,3,4,5] .n' .n') .n')))))) rfl (fun x=>by kernel_rfl)
noncomputable def kf_ref01_Unquote(fu:Nat):sea.K:=kf fu 162 Tryz.f162 Tryz.func162 rfl rfl [kf_ref01_opens fu,kf_ref01_step fu] [.s',.i' .i64] [.r' (.s'),.r' (.i' .i64),.r' (.c')] (fun x=>aon fu x.1 x.2) (.s' .n' (.s' .n' (.s' .n' (.s' .n' (.s' .n' (.l' [.s' 9 (.l' 5 1 .c'),.s' 10 (.i' .i64)] (.s' .n' (.s' .n' (.s' (.j' [.s' 44 (.b')] [0,1,2] .n' .n') .n'))))))))) rfl (fun x=>by kernel_rfl)
noncomputable def kf_ref02_value(fu:Nat):sea.K:=kf fu 100 Tryz.f100 Tryz.func100 rfl rfl [aov fu,azh fu,kf_ref01_Unquote fu] [.s',.i' .i64] [.r' (.s'),.r' (.i' .i64),.r' (.c')] (fun x=>avg fu x.1 x.2) (.s' .n' (.s' (.j' [.s' 20 (.b')] [0,1,3,4] .n' .n') (.r' [] [] (.j' [.s' 36 (.b')] [0,1,3,4] .n' (.s' (.s' .n' (.j' [.s' 7 (.i' .i64)] [] (.l' [.s' 7 (.i' .i64)] (.s' (.j' [.s' 47 (.b')] [0,1,3,4] .n' .n') .n')) .n')) .n')) .n'))) rfl (fun x=>by kernel_rfl)
noncomputable def kf_ref02_Params(fu:Nat):sea.K:=kf fu 45 Tryz.f45 Tryz.func45 rfl rfl [aov fu,asa fu,ahs fu,kf_ref02_value fu,azg fu] [.s'] [.r' tLQ,.r' (.i' .i64),.r' (.c')] (fun x=>aql fu x) (.s' .n' (.s' .n' (.s' .n' (.r' [.s' 5 tLQ] [] (.l' [.s' 5 tLQ,.s' 6 (.i' .i64)] (.s' .n' (.s' .n' (.s' .n' (.s' .n' (.s' .n' (.s' .n' (.s' .n' (.r' [.s' 6 (.i' .i64),.o' 9 1 (.s'),.o' 9 2 (.b')] [] (.j' [.s' 54 (.b')] [0,1,3,4] .n' .n') .n'))))))))) .n')))) rfl (fun x=>by kernel_rfl)
noncomputable def kf_ref02_rest(fu:Nat):sea.K:=kf fu 126 Tryz.f126 Tryz.func126 rfl rfl [kf_ref02_Params fu,kf_ref02_Parse fu] [.s',.s',.i' .i64,.i' .i64,.i' .i64] [.r' (.pr .s' (.pr (.pr .s' (.pr .s' (.pr .s' (.pr (.i' .i64) (.pr tLQ tLQ))))) tLQ)),.r' (.i' .i64),.r' (.c')] (fun x=>ars fu x.1 x.2.1 x.2.2.1 x.2.2.2.1 x.2.2.2.2) (.n') rfl (fun x=>by kernel_rfl)
noncomputable def kf_ref02_bare(fu:Nat):sea.K:=kf fu 124 Tryz.f124 Tryz.func124 rfl rfl [axp fu,kf_ref02_rest fu] [.s',.i' .i64] [.r' (.pr .s' (.pr (.pr .s' (.pr .s' (.pr .s' (.pr (.i' .i64) (.pr tLQ tLQ))))) tLQ)),.r' (.i' .i64),.r' (.c')] (fun x=>axh fu x.1 x.2) (.s' .n' (.s' .n' (.j' [.s' 7 (.i' .i64)] [] (.l' [.s' 7 (.i' .i64)] (.s' (.j' [.s' 26 (.b')] [0,1,3,4,10] .n' .n') .n')) (.r' [] [] (.s' .n' (.l' [.s' 8 (.i' .i64)] (.s' .n' (.s' (.j' [.s' 44 (.b')] [0,1,2,3,4] .n' .n') .n')))) .n')))) rfl (fun x=>by kernel_rfl)
noncomputable def kf_ref02_display(fu:Nat):sea.K:=kf fu 125 Tryz.f125 Tryz.func125 rfl rfl [aov fu,asa fu,kf_ref01_Unquote fu] [.s',.i' .i64,.i' .i64] [.r' (.s'),.r' (.i' .i64),.r' (.i' .i64),.r' (.c')] (fun x=>asr fu x.1 x.2.1 x.2.2) (.s' .n' (.s' (.s' .n' (.s' (.s' .n' (.s' .n' (.s' .n' (.s' (.j' [.s' 42 (.b')] [0,1,3,4] .n' .n') .n')))) .n')) (.s' .n' (.r' [.s' 13 (.s')] [] (.l' [.s' 1 (.i' .i64),.s' 13 (.s')] (.s' .n' (.s' .n' (.s' .n' (.j' [.s' 13 (.s')] [] .n' .n'))))) .n')))) rfl (fun x=>by kernel_rfl)
noncomputable def kf_ref02_ParseAddress(fu:Nat):sea.K:=kf fu 61 Tryz.f61 Tryz.func61 rfl rfl [asa fu,kf_ref02_index fu,kf_ref02_bare fu,kf_ref02_display fu,kf_ref02_rest fu] [.s'] [.r' (.pr .s' (.pr (.pr .s' (.pr .s' (.pr .s' (.pr (.i' .i64) (.pr tLQ tLQ))))) tLQ)),.r' (.i' .i64),.r' (.c')] (fun x=>ahc fu x) (.s' .n' (.s' .n' (.s' .n' (.s' .n' (.s' (.j' [.s' 34 (.b')] [0,1,2] .n' .n') .n'))))) rfl (fun x=>by kernel_rfl)
noncomputable def aqq(fu:Nat):sea.K:=kf fu 15 Tryz.f15 Tryz.func15 rfl rfl [kf_ref01_Trim fu,kf_ref02_ParseAddress fu] [.s'] [.r' (.pr .s' (.pr (.pr .s' (.pr .s' (.pr .s' (.pr (.i' .i64) (.pr tLQ tLQ))))) tLQ)),.r' (.c')] (fun x=>aim fu x) (.n') rfl (fun x=>by kernel_rfl)
noncomputable def kf_address_clean(fu:Nat):sea.K:=kf fu 175 Tryz.f175 Tryz.func175 rfl rfl [awy fu] [.s'] [.r' (.b')] (fun x=>aly fu x) (.s' .n' (.r' [] [] (.s' .n' (.l' [.s' 6 (.i' .i64)] .n')) .n')) rfl (fun x=>by kernel_rfl)
noncomputable def kf_address_dialed(fu:Nat):sea.K:=kf fu 176 Tryz.f176 Tryz.func176 rfl rfl [amv fu,kf_strings_CutPrefix] [.s'] [.r' (.b')] (fun x=>aqy fu x) (.s' .n' (.s' .n' (.s' (.j' [.s' 18 (.b')] [0,1,2] .n' .n') (.r' [] [] (.s' .n' (.l' [.s' 21 (.i' .i64)] (.s' .n' (.s' .n' (.s' (.s' .n' (.s' .n' (.j' [.s' 40 (.b')] [0,2,3] .n' .n'))) .n'))))) .n')))) rfl (fun x=>by kernel_rfl)
noncomputable def kf_address_fields(fu:Nat):sea.K:=kf fu 177 Tryz.f177 Tryz.func177 rfl rfl [aeb fu,atk fu,aur fu,kf_address_clean fu] [.r' tPQ,.i' .i64] [.r' tLQ,.r' (.b')] (fun x=>amy fu x.1 x.2) (.s' .n' (.s' .n' (.s' .n' (.r' [.s' 6 tLQ] [] (.s' .n' (.l' [.s' 6 tLQ,.s' 14 (.i' .i64)] (.s' .n' (.s' .n' (.s' (.s' .n' (.s' .n' (.s' (.j' [.s' 42 (.b')] [0,2,3,9,15] .n' .n') (.s' (.j' [.s' 61 (.b')] [0,1,2,7] .n' .n') .n')))) .n'))))) .n')))) rfl (fun x=>by kernel_rfl)
noncomputable def kf_address_Normal(fu:Nat):sea.K:=kf fu 127 Tryz.f127 Tryz.func127 rfl rfl [aoj fu,aeb fu,kf_address_clean fu,kf_address_dialed fu,kf_address_fields fu] [.pr .s' (.pr .s' (.pr .s' (.pr (.i' .i64) (.pr (.r' tPQ) (.r' tPQ)))))] [.r' (.pr .s' (.pr .s' (.pr .s' (.pr (.i' .i64) (.pr tLQ tLQ))))),.r' (.c')] (fun x=>aqz fu x) (.s' .n' (.s' .n' (.s' .n' (.j' [.s' 5 (.b'),.o' 4 2 (.s')] [] (.s' .n' (.j' [.s' 20 (.b')] [] .n' .n')) (.s' .n' (.s' .n' (.s' (.j' [.s' 88 (.b')] [0,1,2,6] .n' .n') .n'))))))) rfl (fun x=>by kernel_rfl)
noncomputable def amf(fu:Nat):sea.K:=kf fu 104 Tryz.f104 Tryz.func104 rfl rfl [kf_copyCheck] [.p' 111 (.pr .z' (.l' 5 1 .c')),.s'] [.r' (.i' .i64),.r' (.o' 2),.o' 0 111 (.pr .z' (.l' 5 1 .c'))] (fun x=>aac fu x.1 x.2) (.n') rfl (fun x=>by kernel_rfl)
noncomputable def kf_address_Escape(fu:Nat):sea.K:=kf fu 128 Tryz.f128 Tryz.func128 rfl rfl [awx fu] [.s',.i' .i64] [.r' (.s')] (fun x=>acx fu x.1 x.2) (.s' .n' (.s' .n' (.j' [.s' 5 (.l' 5 1 .c')] [] (.s' .n' (.l' [.s' 5 (.l' 5 1 .c'),.s' 12 (.i' .i64)] .n')) .n'))) rfl (fun x=>by kernel_rfl)
noncomputable def avd(fu:Nat):sea.K:=kf fu 129 Tryz.f129 Tryz.func129 rfl rfl [kf_copyCheck] [.p' 111 (.pr .z' (.l' 5 1 .c')),.c'] [.r' (.o' 2),.o' 0 111 (.pr .z' (.l' 5 1 .c'))] (fun x=>adh fu x.1 x.2) (.n') rfl (fun x=>by kernel_rfl)
noncomputable def kf_address_Print(fu:Nat):sea.K:=kf fu 62 Tryz.f62 Tryz.func62 rfl rfl [avy,amf fu,kf_builderString,kf_address_Normal fu,kf_address_Escape fu,avd fu] [.pr .s' (.pr .s' (.pr .s' (.pr (.i' .i64) (.pr (.r' tPQ) (.r' tPQ)))))] [.r' (.s'),.r' (.c')] (fun x=>aot fu x) (.s' .n' (.s' .n' (.s' .n' (.s' .n' (.s' .n' (.j' [.o' 6 0 (.z'),.o' 6 1 (.l' 5 1 .c')] [] .n' (.s' .n' (.j' [.o' 6 0 (.z'),.o' 6 1 (.l' 5 1 .c')] [] .n' (.j' [.o' 6 0 (.z'),.o' 6 1 (.l' 5 1 .c')] [] (.s' .n' (.l' [.s' 51 (.i' .i64),.o' 6 0 (.z'),.o' 6 1 (.l' 5 1 .c')] .n')) (.j' [.o' 6 0 (.z'),.o' 6 1 (.l' 5 1 .c')] [] (.s' .n' (.l' [.s' 71 (.i' .i64),.o' 6 0 (.z'),.o' 6 1 (.l' 5 1 .c')] (.s' .n' (.s' .n' (.s' (.s' .n' (.j' [.o' 6 0 (.z'),.o' 6 1 (.l' 5 1 .c')] [] .n' .n')) .n'))))) .n')))))))))) rfl (fun x=>by kernel_rfl)
noncomputable def kf_header_URI(fu:Nat):sea.K:=kf fu 16 Tryz.f16 Tryz.func16 rfl rfl [alm fu,kf_address_Print fu] [.s'] [.r' (.s'),.r' (.c')] (fun x=>axl fu x) (.n') rfl (fun x=>by kernel_rfl)
noncomputable def kf_ref02_plain(fu:Nat):sea.K:=kf fu 111 Tryz.f111 Tryz.func111 rfl rfl [aup fu] [.s'] [.r' (.b')] (fun x=>aoz fu x) (.s' .n' (.r' [] [] (.s' .n' (.l' [.s' 3 (.i' .i64)] .n')) .n')) rfl (fun x=>by kernel_rfl)
noncomputable def kf_ref02_named(fu:Nat):sea.K:=kf fu 179 Tryz.f179 Tryz.func179 rfl rfl [azg fu,kf_ref02_plain fu] [.r' tPQ,.i' .i64] [.r' (.b')] (fun x=>asp fu x.1 x.2) (.s' .n' (.r' [] [] (.s' .n' (.l' [.s' 5 (.i' .i64)] (.s' .n' (.s' (.s' .n' (.j' [.s' 67 (.b')] [] .n' .n')) .n')))) .n')) rfl (fun x=>by kernel_rfl)
noncomputable def kf_ref02_lowered(fu:Nat):sea.K:=kf fu 180 Tryz.f180 Tryz.func180 rfl rfl [kf_ref02_Sorted fu,ahs fu] [.r' tPQ] [.r' tLQ] (fun x=>aol fu x) (.s' .n' (.s' .n' (.j' [.s' 3 tLQ] [] (.s' .n' (.l' [.s' 3 tLQ,.s' 4 (.i' .i64)] .n')) .n'))) rfl (fun x=>by kernel_rfl)
noncomputable def kf_ref02_telephoned(fu:Nat):sea.K:=kf fu 181 Tryz.f181 Tryz.func181 rfl rfl [aqb fu] [.s'] [.r' (.b')] (fun x=>ano fu x) (.s' .n' (.s' .n' (.s' .n' (.j' [.s' 2 (.b')] [0,2,4,5,10] .n' .n')))) rfl (fun x=>by kernel_rfl)
noncomputable def kf_ref02_Normal(fu:Nat):sea.K:=kf fu 130 Tryz.f130 Tryz.func130 rfl rfl [azh fu,ahs fu,kf_ref02_plain fu,kf_ref02_named fu,kf_ref02_lowered fu,kf_ref02_telephoned fu] [.pr .s' (.pr .s' (.pr .s' (.pr (.i' .i64) (.pr (.r' tPQ) (.r' tPQ)))))] [.r' (.pr .s' (.pr .s' (.pr .s' (.pr (.i' .i64) (.pr tLQ tLQ))))),.r' (.c')] (fun x=>atv fu x) (.s' .n' (.s' .n' (.s' (.j' [.s' 25 (.b')] [0,3,4,10] .n' .n') (.s' .n' (.s' .n' (.s' (.s' .n' (.j' [.s' 37 (.b')] [] .n' (.s' (.s' .n' (.s' (.j' [.s' 57 (.b')] [0,1,2,7] .n' .n') .n')) (.s' .n' (.s' (.j' [.s' 82 (.b')] [0,2,3,8,14] .n' .n') .n'))))) .n')))))) rfl (fun x=>by kernel_rfl)
noncomputable def kf_ref02_Escape(fu:Nat):sea.K:=kf fu 132 Tryz.f132 Tryz.func132 rfl rfl [kf_ref02_In fu] [.s',.i' .i64] [.r' (.s')] (fun x=>akn fu x.1 x.2) (.s' .n' (.s' .n' (.j' [.s' 5 (.l' 5 1 .c')] [] (.s' .n' (.l' [.s' 5 (.l' 5 1 .c'),.s' 6 (.i' .i64)] .n')) .n'))) rfl (fun x=>by kernel_rfl)
noncomputable def kf_ref02_write(fu:Nat):sea.K:=kf fu 131 Tryz.f131 Tryz.func131 rfl rfl [kf_ref02_Escape fu] [.r' tPQ,.s',.s',.i' .i64] [.r' (.s')] (fun x=>ajo fu x.1 x.2.1 x.2.2.1 x.2.2.2) (.s' .n' (.s' .n' (.s' .n' (.j' [.s' 9 (.s')] [] (.s' .n' (.l' [.s' 9 (.s'),.s' 10 (.s'),.s' 11 (.i' .i64)] .n')) .n')))) rfl (fun x=>by kernel_rfl)
noncomputable def aus(fu:Nat):Con:=⟨[.i' .i64],[.r' (.s')],fun x=>.one (afd fu x)⟩
theorem en_ref02_decimal:Go.Wk.Enters sea.P 133:=⟨Tryz.f133,_,Tryz.func133,rfl,by kernel_rfl⟩
theorem fk_ref02_decimal(fu:Nat):FOk sea.P sea.GS 133 (aus fu):=by
 induction fu with
 |zero=>intro w S ρ L us x y _ _ _ _ hy;cases hy
 |succ fu ih=>exact(kf fu 133 Tryz.f133 Tryz.func133 rfl rfl [⟨133,aus fu,en_ref02_decimal,ih⟩] [.i' .i64] [.r' (.s')] (fun x=>afd (fu+1) x) (.n') rfl (fun x=>by kernel_rfl)).ok
noncomputable def kf_ref02_decimal(fu:Nat):sea.K:=⟨133,aus fu,en_ref02_decimal,fk_ref02_decimal fu⟩
noncomputable def kf_ref02_Print(fu:Nat):sea.K:=kf fu 63 Tryz.f63 Tryz.func63 rfl rfl [kf_ref02_Normal fu,kf_ref02_write fu,kf_ref02_Escape fu,kf_ref02_decimal fu] [.pr .s' (.pr .s' (.pr .s' (.pr (.i' .i64) (.pr (.r' tPQ) (.r' tPQ)))))] [.r' (.s'),.r' (.c')] (fun x=>avj fu x) (.s' .n' (.s' .n' (.s' .n' (.s' .n' (.s' .n' (.j' [.s' 6 (.s')] [] .n' (.s' .n' (.j' [.s' 6 (.s')] [] .n' .n')))))))) rfl (fun x=>by kernel_rfl)
noncomputable def kf_ref03_URI(fu:Nat):sea.K:=kf fu 17 Tryz.f17 Tryz.func17 rfl rfl [aqq fu,kf_ref02_Print fu] [.s'] [.r' (.s'),.r' (.c')] (fun x=>azs fu x) (.n') rfl (fun x=>by kernel_rfl)
noncomputable def axs(fu:Nat):sea.K:=kf fu 37 Tryz.f37 Tryz.func37 rfl rfl [aeb fu] [.r' tPQ,.s'] [.r' (.s'),.r' (.b')] (fun x=>akh fu x.1 x.2) (.s' .n' (.s' .n' (.r' [] [] (.s' .n' (.l' [.s' 12 (.i' .i64)] .n')) .n'))) rfl (fun x=>by kernel_rfl)
noncomputable def kf_header_Item(fu:Nat):sea.K:=kf fu 64 Tryz.f64 Tryz.func64 rfl rfl [aqd fu,aow fu,atl fu] [.s'] [.r' (.pr .s' tLQ),.r' (.c')] (fun x=>avl fu x) (.s' .n' (.s' .n' (.s' .n' (.s' .n' (.r' [.s' 4 (.i' .i64)] [] (.j' [.s' 25 (.b')] [0,1,3,4] .n' .n') .n'))))) rfl (fun x=>by kernel_rfl)
noncomputable def kf_header_Param(fu:Nat):sea.K:=kf fu 18 Tryz.f18 Tryz.func18 rfl rfl [alm fu,axs fu,kf_header_Item fu] [.s',.s'] [.r' (.s'),.r' (.b')] (fun x=>atx fu x.1 x.2) (.n') rfl (fun x=>by kernel_rfl)
noncomputable def kf_ref02_Get(fu:Nat):sea.K:=kf fu 46 Tryz.f46 Tryz.func46 rfl rfl [kf_ref02_find fu] [.r' tPQ,.s'] [.r' (.s'),.r' (.b')] (fun x=>atq fu x.1 x.2) (.n') rfl (fun x=>by kernel_rfl)
noncomputable def kf_ref03_itemEnd(fu:Nat):sea.K:=kf fu 134 Tryz.f134 Tryz.func134 rfl rfl [aov fu] [.s'] [.r' (.i' .i64)] (fun x=>aso fu x) (.s' .n' (.s' .n' (.s' (.j' [.s' 20 (.b')] [0,1,2,8] .n' .n') .n'))) rfl (fun x=>by kernel_rfl)
noncomputable def kf_ref03_Item(fu:Nat):sea.K:=kf fu 65 Tryz.f65 Tryz.func65 rfl rfl [kf_ref01_Trim fu,kf_ref02_Params fu,kf_ref03_itemEnd fu] [.s'] [.r' (.pr .s' tLQ),.r' (.c')] (fun x=>axe fu x) (.n') rfl (fun x=>by kernel_rfl)
noncomputable def kf_ref03_Param(fu:Nat):sea.K:=kf fu 19 Tryz.f19 Tryz.func19 rfl rfl [aqq fu,kf_ref02_Get fu,kf_ref03_Item fu] [.s',.s'] [.r' (.s'),.r' (.b')] (fun x=>avf fu x.1 x.2) (.n') rfl (fun x=>by kernel_rfl)
theorem K_L_ref02_SameParams{fu:Nat}{a_0:LQ}{b_2:LQ}(a_1:Option Addr)(n_1:Nat)(cap_1:Nat)(a_3:Option Addr)(n_3:Nat)(cap_3:Nat){w:World}{r:Bool}(hr:adt fu a_0 b_2=some r)(hG:Gl w)(hna_1:n_1=a_0.length)(hRa_1:Rd w a_1 (List.flatMap aaf a_0))(hCa_1:n_1≤cap_1)(hna_3:n_3=b_2.length)(hRa_3:Rd w a_3 (List.flatMap aaf b_2))(hCa_3:n_3≤cap_3):CR Tryz.prog 55 [(Value.slice a_1 n_1 cap_1),(Value.slice a_3 n_3 cap_3)] w fun v w'=>v=(Value.bool r)∧Hp w [] [] w':=by
 subst hna_1
 subst hna_3
 have hH:Hp w [] [] w:=Hp.refl w
 refine enter (k:=26) Tryz.func55 rfl rfl (Nat.le_of_ble_eq_true rfl) ?_
 unfold adt at hr
 refine sr (wp 1 (nq (cs (sr (wp 5 (wl ?_))))))
 refine qn (cn hr (fun h1 hr=> ?_) (fun h1 hr=> ?_))
 refine sr (wp 1 (nq (ct (st ?_))))
 obtain rfl:=oi hr
 exact rv hH.kp
 refine ck (qn (bi hr fun j35 hr36 hr=>cut1 hH j35 [4] (fun v37=>[]) ?_ ?_))
 refine sr (wp 1 (nq (ce (lpS (fun fk58 i_47=>adw fu a_0 b_2 fk58 i_47) (0:Int) hH hr36 [0,1,4,5] (fun i_47=>[(5,(Value.int .i64 i_47))]) (fun _=>rfl) ?_))))
 rintro fk58 i_47 w59 G hH60 hr57
 rw [alt,afe]at hr57
 refine cs (sr (wp 4 (nq (cd hr57 (fun h61 hr57=> ?_) (fun h61 hr57=> ?_)))))
 refine ck (qn (cs (ce (cs (gi hr57 fun g62 hr57=>gi hr57 fun g63 hr57=>gi hr57 fun g64 hr57=>gi hr57 fun g65 hr57=>c_drawn 8 (fun j_ w_ w_'=>Keep [3,8] (fun w'=>Rd w' a_1 (List.flatMap aaf a_0)) j_ w_ w_'∧Keep [8] (fun w'=>Rd w' a_1 (List.flatMap aaf a_0)) j_ w_ w_'∧Keep [7,8] (fun w'=>Rd w' a_3 (List.flatMap aaf b_2)) j_ w_ w_'∧Keep [8] (fun w'=>Rd w' a_3 (List.flatMap aaf b_2)) j_ w_ w_'∧True) [false,false,false,false,false,false,false,false,false] (fun _ _=>⟨Keep.same,Keep.same,Keep.same,Keep.same,trivial⟩) krf krf hH60 rfl (np_seq (ahi (np_seq (alk (ahi (alk np_body)))))) fun w66 hH67=> ?_)))))
 refine rp 6 [0,1] (azc [true,true,true,false,false,false,false,false,false] 2 19 (Value.pointer (some (ea a_1 (i_47.toNat*3)))) [3,8] (fun _ _ _ h=>h.1) _ rfl rfl krf krf krf krf krf rfl (y_val rfl (by intro w hS_;exact(x_ixT a_1 a_0.length cap_1 65 3 .i64 i_47 Tryz.underlying22 krf krf krf a_0 rfl g62 hS_ aav (by decide)))) (by exact(hRa_1.hp hH67)) (azc [true,true,true,true,false,false,false,false,false] 3 20 (Value.agg #[(str ((el a_0 i_47).1)),(str ((el a_0 i_47).2.1)),(Value.bool ((el a_0 i_47).2.2))]) [8] (fun _ _ _ h=>h.2.1) _ rfl rfl krf krf krf krf krf rfl (y_val rfl (by intro w hS_;exact(x_ldE a_1 aaf a_0 3 i_47 aav hS_ [(str ((el a_0 i_47).1)),(str ((el a_0 i_47).2.1)),(Value.bool ((el a_0 i_47).2.2))] g63 krf krf krf krf (by decide)))) (by exact(hRa_1.hp hH67)) (rp 2 [4,5] (azc [true,true,true,true,true,true,true,false,false] 6 23 (Value.pointer (some (ea a_3 (i_47.toNat*3)))) [7,8] (fun _ _ _ h=>h.2.2.1) _ rfl rfl krf krf krf krf krf rfl (y_val rfl (by intro w hS_;exact(x_ixT a_3 b_2.length cap_3 65 3 .i64 i_47 Tryz.underlying22 krf krf krf b_2 rfl g64 hS_ aav (by decide)))) (by exact(hRa_3.hp hH67)) (azc [true,true,true,true,true,true,true,true,false] 7 24 (Value.agg #[(str ((el b_2 i_47).1)),(str ((el b_2 i_47).2.1)),(Value.bool ((el b_2 i_47).2.2))]) [8] (fun _ _ _ h=>h.2.2.2.1) _ rfl rfl krf krf krf krf krf rfl (y_val rfl (by intro w hS_;exact(x_ldE a_3 aaf b_2 3 i_47 aav hS_ [(str ((el b_2 i_47).1)),(str ((el b_2 i_47).2.1)),(Value.bool ((el b_2 i_47).2.2))] g65 krf krf krf krf (by decide)))) (by exact(hRa_3.hp hH67)) (r_zero krf (w_aggneq [(str ((el a_0 i_47).1)),(str ((el a_0 i_47).2.1)),(Value.bool ((el a_0 i_47).2.2))] [(str ((el b_2 i_47).1)),(str ((el b_2 i_47).2.1)),(Value.bool ((el b_2 i_47).2.2))] [(decide (((el a_0 i_47).1)=((el b_2 i_47).1))),(decide (((el a_0 i_47).2.1)=((el b_2 i_47).2.1))),(((el a_0 i_47).2.2)==((el b_2 i_47).2.2))] (decide (((el a_0 i_47).1,(el a_0 i_47).2.1,((el a_0 i_47).2.2))=((el b_2 i_47).1,(el b_2 i_47).2.1,((el b_2 i_47).2.2)))) Tryz.underlying65 krf krf krf krf ⟨by decide,⟨_,_,by kernel_rfl,by kernel_rfl,(fun d=>eqi_str d ((el a_0 i_47).1) ((el b_2 i_47).1) Tryz.underlying9)⟩,⟨by decide,⟨_,_,by kernel_rfl,by kernel_rfl,(fun d=>eqi_str d ((el a_0 i_47).2.1) ((el b_2 i_47).2.1) Tryz.underlying9)⟩,⟨by decide,⟨_,_,by kernel_rfl,by kernel_rfl,(fun d=>run_equalIn_bool' _ d _ _ _ Tryz.underlying4)⟩,trivial⟩⟩⟩ (by rw [Bool.eq_iff_iff];simp [Prod.ext_iff,and_assoc]) (nq (cn hr57 (fun h68 hr57=> ?_) (fun h68 hr57=> ?_))))))))))
 refine sr (wp 1 (nq (ct (bt_ (st (q_ret (bt_ ?_)))))))
 refine q_ret ?_
 obtain rfl:=oi hr57
 obtain rfl:=oi hr
 exact rv hH67.kp
 exact ck (bn (qn (cr (wp 1 (gi hr57 fun g69 hr57=>ayv i_47 (1:Int) krf krf g69 (wp 1 (wl (ql (le' (i_47+(1:Int)) hH67.kp hr57)))))))))
 refine c_exit (s_exit (q_exit (b_here (ql ?_))))
 obtain rfl:=oi hr57
 exact je1 rfl hH60.kp
 rintro v37 w71 G hH72 rfl
 refine sr (wp 1 (nq (ct ?_)))
 obtain rfl:=oi hr
 exact rv hH72.kp
noncomputable def avz(fu:Nat):sea.K:=⟨55,⟨[.r' tPQ,.r' tPQ],[.r' (.b')],fun x=>.one (adt fu x.1 x.2)⟩,⟨Tryz.f55,_,Tryz.func55,rfl,by kernel_rfl⟩,fok_read2 (t:=.pr .s' (.pr .s' .b')) (t2:=.pr .s' (.pr .s' .b')) (fun x=>x.1) (fun x=>x.2) (fun y=>.bool y) (fun _=>rfl) (fun _ _=>rfl) (fun _ _=>rfl) (fun _ _ _=>rfl) fun w S x y a n cap a2 n2 cap2 hG hy hn hR hc hn2 hR2 hc2=>K_L_ref02_SameParams a n cap a2 n2 cap2 hy hG.1 hn hR hc hn2 hR2 hc2⟩
noncomputable def kf_ref02_Same(fu:Nat):sea.K:=kf fu 66 Tryz.f66 Tryz.func66 rfl rfl [avz fu] [.pr .s' (.pr .s' (.pr .s' (.pr (.i' .i64) (.pr (.r' tPQ) (.r' tPQ))))),.pr .s' (.pr .s' (.pr .s' (.pr (.i' .i64) (.pr (.r' tPQ) (.r' tPQ)))))] [.r' (.b')] (fun x=>L_ref02_Same fu x.1 x.2) (.s' .n' (.j' [.s' 4 (.b')] [0,2,4,5,12,19,26,33,40] .n' .n')) rfl (fun x=>by kernel_rfl)
noncomputable def kf_ref02_SameAddress(fu:Nat):sea.K:=kf fu 20 Tryz.f20 Tryz.func20 rfl rfl [avz fu,kf_ref02_Same fu] [.pr .s' (.pr (.pr .s' (.pr .s' (.pr .s' (.pr (.i' .i64) (.pr (.r' tPQ) (.r' tPQ)))))) (.r' tPQ)),.pr .s' (.pr (.pr .s' (.pr .s' (.pr .s' (.pr (.i' .i64) (.pr (.r' tPQ) (.r' tPQ)))))) (.r' tPQ))] [.r' (.b')] (fun x=>aml fu x.1 x.2) (.s' .n' (.j' [.s' 4 (.b')] [0,2,4,5,12,19] .n' .n')) rfl (fun x=>by kernel_rfl)
noncomputable def kf_header_Tag(fu:Nat):sea.K:=kf fu 21 Tryz.f21 Tryz.func21 rfl rfl [alm fu,axs fu] [.s'] [.r' (.s')] (fun x=>axm fu x) (.n') rfl (fun x=>by kernel_rfl)
noncomputable def kf_ref03_Tag(fu:Nat):sea.K:=kf fu 22 Tryz.f22 Tryz.func22 rfl rfl [aqq fu,kf_ref02_Get fu] [.s'] [.r' (.s')] (fun x=>azt fu x) (.n') rfl (fun x=>by kernel_rfl)
noncomputable def axq(fu:Nat):sea.K:=kf fu 47 Tryz.f47 Tryz.func47 rfl rfl [aow fu] [.s'] [.r' (.b')] (fun x=>ass fu x) (.s' .n' (.j' [.s' 2 (.b')] [0,1,2,9] .n' .n')) rfl (fun x=>by kernel_rfl)
noncomputable def arh(fu:Nat):sea.K:=kf fu 72 Tryz.f72 Tryz.func72 rfl rfl [] [.c'] [.r' (.c')] (fun x=>anw fu x) (.s' .n' (.s' (.j' [.s' 8 (.b')] [0,1,2] .n' .n') .n')) rfl (fun x=>by kernel_rfl)
noncomputable def kf_header_longName(fu:Nat):sea.K:=kf fu 71 Tryz.f71 Tryz.func71 rfl rfl [] [.c'] [.r' (.s')] (fun x=>ayt fu x) (.s' .n' (.s' (.s' .n' (.s' .n' (.z' (.s' .n' (.z' (.s' .n' (.z' (.s' .n' (.z' (.s' .n' (.z' (.s' .n' (.z' (.s' .n' (.z' (.s' .n' (.y' .n'))))))))))))))))) .n')) rfl (fun x=>by kernel_rfl)
noncomputable def aie(fu:Nat):sea.K:=kf fu 28 Tryz.f28 Tryz.func28 rfl rfl [arh fu] [.s',.f' 72 .u'] [.r' (.s')] (fun x=>aew fu x.1) (.s' .n' (.s' .n' (.j' [.w' 5 (.y')] [] (.s' .n' (.l' [.w' 5 (.y'),.s' 12 (.i' .i64)] .n')) .n'))) rfl (fun x=>by kernel_rfl)
noncomputable def arf(fu:Nat):sea.K:=kf fu 29 Tryz.f29 Tryz.func29 rfl rfl [] [.c'] [.r' (.c')] (fun x=>ast fu x) (.s' .n' (.s' (.j' [.s' 8 (.b')] [0,1,2] .n' .n') .n')) rfl (fun x=>by kernel_rfl)
noncomputable def ayh(fu:Nat):sea.K:=kf fu 73 Tryz.f73 Tryz.func73 rfl rfl [arf fu,arh fu] [.c',.p' 4 .b'] [.r' (.c'),.o' 0 4 .b'] (fun x=>L_header_Canon_1 fu x.1 x.2) (.n') rfl (fun x=>by kernel_rfl)
noncomputable def ajm(fu:Nat):sea.K:=kf fu 28 Tryz.f28 Tryz.func28 rfl rfl [ayh fu] [.s',.f' 73 (.p' 4 .b')] [.r' (.s'),.o' 0 4 .b'] (fun x=>akt fu x.1 x.2) (.s' .n' (.s' .n' (.j' [.w' 5 (.y'),.o' 1 0 (.b')] [] (.s' .n' (.l' [.w' 5 (.y'),.s' 12 (.i' .i64),.o' 1 0 (.b')] .n')) .n'))) rfl (fun x=>by kernel_rfl)
noncomputable def kf_header_Canon(fu:Nat):sea.K:=kf fu 25 Tryz.f25 Tryz.func25 rfl rfl [aie fu,ajm fu,axq fu,kf_header_longName fu,arh fu,ayh fu] [.s'] [.r' (.s'),.r' (.c')] (fun x=>axv fu x) (.s' .n' (.s' (.j' [.s' 16 (.b')] [0,2,3] .n' .n') (.r' [] [] .n' (.s' .n' (.r' [] [] (.s' .n' (.l' [.s' 30 (.i' .i64)] .n')) .n'))))) rfl (fun x=>by kernel_rfl)
noncomputable def kf_header_many(fu:Nat):sea.K:=kf fu 56 Tryz.f56 Tryz.func56 rfl rfl [] [.s'] [.r' (.b')] (fun x=>L_header_many fu x) (.s' .n' (.s' (.s' .n' (.s' (.s' .n' (.y' .n')) (.y' .n'))) .n')) rfl (fun x=>by kernel_rfl)
noncomputable def kf_lexis_piece(fu:Nat):sea.K:=kf fu 171 Tryz.f171 Tryz.func171 rfl rfl [asb fu,kf_strings_TrimRight] [.s',.i' .i64,.i' .i64] [.r' (.pr (.i' .i64) .s')] (fun x=>azw fu x.1 x.2.1 x.2.2) (.n') rfl (fun x=>by kernel_rfl)
noncomputable def kf_lexis_Split(fu:Nat):sea.K:=kf fu 118 Tryz.f118 Tryz.func118 rfl rfl [are fu,aha,auq fu,kf_lexis_piece fu] [.s',.c'] [.r' (.l' 132 24 (.pr (.i' .i64) .s')),.r' (.i' .i64),.r' (.c')] (fun x=>L_lexis_Split fu x.1 x.2) (.s' .n' (.s' (.j' [.s' 27 (.b')] [0,2,6,10] .n' (.z' .n')) (.s' .n' (.s' .n' (.j' [.s' 7 (.l' 132 24 (.pr (.i' .i64) .s')),.s' 8 (.i' .i64)] [] (.s' .n' (.l' [.s' 7 (.l' 132 24 (.pr (.i' .i64) .s')),.s' 8 (.i' .i64),.s' 9 (.i' .i64)] (.s' .n' (.s' .n' (.s' .n' (.z' (.s' .n' (.s' (.s' .n' (.s' (.s' .n' (.z' .n')) .n')) (.s' .n' (.z' .n')))))))))) .n'))))) rfl (fun x=>by kernel_rfl)
noncomputable def kf_header_List(fu:Nat):sea.K:=kf fu 58 Tryz.f58 Tryz.func58 rfl rfl [kf_lexis_Split fu] [.s'] [.r' (.l' 9 16 .s'),.r' (.c')] (fun x=>L_header_List fu x) (.s' .n' (.s' .n' (.s' (.s' .n' (.z' .n')) (.s' .n' (.j' [.s' 7 (.l' 9 16 .s')] [] (.s' .n' (.l' [.s' 7 (.l' 9 16 .s'),.s' 21 (.i' .i64)] (.s' .n' (.s' .n' (.s' (.s' .n' (.s' (.s' .n' (.z' .n')) .n')) .n'))))) .n'))))) rfl (fun x=>by kernel_rfl)
noncomputable def kf_header_kindOf(fu:Nat):sea.K:=kf fu 114 Tryz.f114 Tryz.func114 rfl rfl [] [.s'] [.r' (.i' .i64)] (fun x=>L_header_kindOf fu x) (.s' .n' (.s' (.s' .n' (.l' [.s' 4 (.i' .i64)] (.s' .n' (.s' (.y' .n') .n')))) .n')) rfl (fun x=>by kernel_rfl)
noncomputable def axr(fu:Nat):sea.K:=kf fu 69 Tryz.f69 Tryz.func69 rfl rfl [auc fu] [.s'] [.r' (.s'),.r' (.c')] (fun x=>azx fu x) (.s' .n' (.s' .n' (.s' .n' (.j' [.s' 4 (.l' 5 1 .c')] [] (.s' .n' (.l' [.s' 4 (.l' 5 1 .c'),.s' 16 (.i' .i64)] (.s' .n' (.s' .n' (.s' (.s' .n' (.s' .n' (.s' (.s' .n' (.z' .n')) (.s' (.j' [.s' 29 (.b')] [0,1,2] .n' (.z' .n')) .n')))) .n'))))) .n')))) rfl (fun x=>by kernel_rfl)
noncomputable def kf_address_PrintParams(fu:Nat):sea.K:=kf fu 48 Tryz.f48 Tryz.func48 rfl rfl [aoj fu,axq fu,aeb fu,axr fu,aur fu,amf fu,kf_builderString] [.r' tPQ] [.r' (.s'),.r' (.c')] (fun x=>auk fu x) (.s' .n' (.s' .n' (.s' .n' (.r' [.o' 4 0 (.z'),.o' 4 1 (.l' 5 1 .c')] [] (.s' .n' (.l' [.s' 17 (.i' .i64),.o' 4 0 (.z'),.o' 4 1 (.l' 5 1 .c')] (.s' .n' (.s' .n' (.s' (.s' .n' (.s' (.j' [.s' 41 (.b')] [] .n' .n') (.s' .n' (.s' .n' (.s' .n' (.r' [.s' 7 (.s')] [] (.s' .n' (.j' [.s' 75 (.b')] [0,2,3] .n' .n')) .n')))))) .n'))))) .n')))) rfl (fun x=>by kernel_rfl)
noncomputable def azk(fu:Nat):sea.K:=kf fu 24 Tryz.f24 Tryz.func24 rfl rfl [kf_address_PrintParams fu,kf_address_Print fu,axr fu,atk fu] [.pr .s' (.pr (.pr .s' (.pr .s' (.pr .s' (.pr (.i' .i64) (.pr (.r' tPQ) (.r' tPQ)))))) (.r' tPQ))] [.r' (.s'),.r' (.c')] (fun x=>atd fu x) (.s' .n' (.s' .n' (.s' (.s' .n' (.z' .n')) (.s' .n' (.s' (.s' .n' (.z' .n')) (.s' .n' (.s' (.s' .n' (.z' .n')) .n'))))))) rfl (fun x=>by kernel_rfl)
noncomputable def kf_header_tidy(fu:Nat):sea.K:=kf fu 57 Tryz.f57 Tryz.func57 rfl rfl [alm fu,azk fu,aqd fu,avy,kf_header_Item fu,axr fu,kf_header_kindOf fu] [.s',.s'] [.r' (.s'),.r' (.c')] (fun x=>L_header_tidy fu x.1 x.2) (.s' .n' (.s' (.s' .n' (.s' .n' (.y' (.s' (.j' [.s' 33 (.b')] [0,1,2] .n' (.z' .n')) (.s' .n' (.s' (.s' .n' (.z' .n')) .n')))))) .n')) rfl (fun x=>by kernel_rfl)
noncomputable def kf_header_Tidy(fu:Nat):sea.K:=kf fu 13 Tryz.f13 Tryz.func13 rfl rfl [kf_header_Canon fu,kf_header_many fu,kf_header_tidy fu,kf_header_List fu,avw] [.s',.s'] [.r' (.s'),.r' (.c')] (fun x=>L_header_Tidy fu x.1 x.2) (.s' .n' (.s' .n' (.s' (.s' .n' (.z' .n')) (.s' (.s' .n' (.z' .n')) (.s' .n' (.s' (.s' .n' (.z' .n')) (.j' [.w' 8 (.l' 9 16 .s')] [] (.s' .n' (.l' [.w' 8 (.l' 9 16 .s'),.s' 36 (.i' .i64)] (.s' .n' (.s' .n' (.s' (.s' .n' (.s' .n' (.s' .n' (.z' .n')))) .n'))))) .n'))))))) rfl (fun x=>by kernel_rfl)
noncomputable def ari(fu:Nat):sea.K:=kf fu 28 Tryz.f28 Tryz.func28 rfl rfl [arf fu] [.s',.f' 29 .u'] [.r' (.s')] (fun x=>aev fu x.1) (.s' .n' (.s' .n' (.j' [.w' 5 (.y')] [] (.s' .n' (.l' [.w' 5 (.y'),.s' 12 (.i' .i64)] .n')) .n'))) rfl (fun x=>by kernel_rfl)
noncomputable def kf_header_cutPort(fu:Nat):sea.K:=kf fu 33 Tryz.f33 Tryz.func33 rfl rfl [ayf,avx] [.s'] [.r' (.s'),.r' (.s'),.r' (.b')] (fun x=>L_header_cutPort fu x) (.s' .n' (.s' .n' (.s' (.j' [.s' 21 (.b')] [0,1,2] .n' (.z' .n')) .n'))) rfl (fun x=>by kernel_rfl)
noncomputable def kf_header_Via(fu:Nat):sea.K:=kf fu 8 Tryz.f8 Tryz.func8 rfl rfl [aqd fu,aie fu,ajm fu,ari fu,arf fu,aow fu,asb fu,ard,kf_header_cutPort fu,aoj fu,awb fu,atl fu,axs fu] [.s'] [.r' (.pr .s' (.pr .s' (.pr (.i' .i64) (.pr .s' tLQ)))),.r' (.c')] (fun x=>L_header_Via fu x) (.s' .n' (.s' .n' (.s' (.j' [.s' 30 (.b')] [0,2,3] .n' (.z' .n')) (.s' .n' (.s' .n' (.s' (.j' [.s' 43 (.b')] [0,1,2] .n' (.z' .n')) (.s' .n' (.s' .n' (.s' (.s' .n' (.s' .n' (.y' .n'))) (.s' .n' (.s' .n' (.s' (.s' .n' (.z' .n')) (.s' .n' (.s' (.s' .n' (.y' (.s' .n' (.s' (.j' [.s' 94 (.b')] [0,1,2] .n' (.z' .n')) (.s' (.s' .n' (.z' .n')) .n'))))) (.s' .n' (.s' (.s' .n' (.z' .n')) .n')))))))))))))))) rfl (fun x=>by kernel_rfl)
noncomputable def kf_header_numbered(fu:Nat):sea.K:=kf fu 74 Tryz.f74 Tryz.func74 rfl rfl [asb fu,ard,awb fu] [.s'] [.r' (.i' .i64),.r' (.s'),.r' (.c')] (fun x=>ays fu x) (.s' .n' (.s' .n' (.s' (.s' .n' (.z' .n')) .n'))) rfl (fun x=>by kernel_rfl)
noncomputable def kf_header_CSeq(fu:Nat):sea.K:=kf fu 26 Tryz.f26 Tryz.func26 rfl rfl [aqd fu,axq fu,kf_header_numbered fu] [.s'] [.r' (.i' .i64),.r' (.s'),.r' (.c')] (fun x=>L_header_CSeq fu x) (.s' .n' (.s' .n' (.s' (.s' .n' (.z' .n')) (.s' (.s' .n' (.z' .n')) .n')))) rfl (fun x=>by kernel_rfl)
noncomputable def kf_law03_awake(fu:Nat):sea.K:=kf fu 7 Tryz.f7 Tryz.func7 rfl rfl [kf_header_Via fu,kf_header_Tidy fu,kf_header_Canon fu,kf_header_CSeq fu] [] [.r' (.b')] (fun x=>azy fu) (.s' .n' (.s' .n' (.s' .n' (.s' .n' (.s' .n' (.j' [.s' 0 (.b')] [0,1,2,6,10,14,18,23,28,33,38,42,46,50] .n' .n')))))) rfl (fun x=>by kernel_rfl)
noncomputable def ayg(fu:Nat):sea.K:=kf fu 5 Tryz.f5 Tryz.func5 rfl rfl [kf_law03_awake fu,alm fu,aqq fu,kf_header_URI fu,kf_ref03_URI fu,kf_header_Param fu,kf_ref03_Param fu,kf_ref02_SameAddress fu,kf_header_Tag fu,kf_ref03_Tag fu] [.s',.s'] [.r' (.b')] (fun x=>aho fu x.1 x.2) (.s' .n' (.s' .n' (.s' .n' (.s' .n' (.s' .n' (.s' .n' (.s' .n' (.j' [.s' 4 (.b')] [3,8,13,18,25,30,35,38] .n' .n')))))))) rfl (fun x=>by kernel_rfl)
theorem axx{fu:Nat}{x0:Str}{x1:Str}{r:Bool}(h:aho fu x0 x1=some r){w:World}(hG:Gl w):CR Tryz.prog 5 [str x0,str x1] w fun v w2=>v=.bool r∧Hp w [] [] w2:=
 fok_use (x:=(x0,x1)) (y:=r) (ayg fu).ok (fun x=>[str x.1,str x.2]) (fun y=>.bool y) (fun _=>rfl) (fun _ _=>rfl) (fun _ _ _=>rfl) ⟨hG,fun b hb=>by cases hb⟩ h
end Go.Proofs
set_option maxRecDepth 100000
namespace Go.Proofs.YtpbfkeakaefenaaGreatDoor.headerAddresses
open Go.ChangeShapes Go.WideShapes Go.ChangeAt Go.ChangeMaps Go.RowKit Go.Wk
theorem contract(H:Type)(enc:TypeId×Value→H)(W:World)(base:Nat)(args:Array Value)(ds gs:List (DataW H))(before:List MemPlace)
  (hval:∀(j:Nat) t v,Tryz.f5.params[j]? =some t→args[j]? =some v→Value.okWide Tryz.prog W .any base t v)
  (hW:DataW.Whole enc Tryz.prog Tryz.f5.params.toList Rows.headerAddressesSpec.vars false W args.toList ds gs before) (hL:laidMetH Tryz.prog Rows.headerAddressesRow.laid W) (hsh:W.ShapedOpen Tryz.prog) (hk:Rows.uptoSmall H (ds++gs)=true):
  Calls Tryz.prog 5 args W fun e W'=>∃v,e=.returned v∧Rows.headerAddressesSpec.post enc Tryz.prog Tryz.f5 false true false false W args v W':=by
 have hW':=hW
 obtain⟨p,q,hA0,hV,rfl,hfz,hnd⟩:=hW
 have hA:DataW.TrodAll enc Tryz.prog W 0 (fun _=>true) true Tryz.f5.params.toList args.toList ds p:=hA0
 rw [Tryz.params5]at hA hval
 obtain⟨v0,vs0,d0,ds0,p0,q0,hargs,rfl,rfl,h0,r0⟩:=trodAll_cons hA
 obtain⟨v1,vs1,d1,ds1,p1,q1,rfl,rfl,rfl,h1,r1⟩:=trodAll_cons r0
 obtain⟨rfl,rfl,rfl⟩:=trodAll_nil r1
 obtain rfl:args= #[v0,v1]:=by cases args;simp_all
 obtain⟨rfl,rfl⟩:=trodVars_none hV
 obtain⟨s0,rfl,rfl,rfl,hs0⟩:=open_string Tryz.underlying9 (hval 0 9 v0 rfl rfl) h0
 obtain⟨s1,rfl,rfl,rfl,hs1⟩:=open_string Tryz.underlying9 (hval 1 9 v1 rfl rfl) h1
 clear hA0
 simp only [List.append_nil]at hW'
 have hb:=of_decide_eq_true hk
 simp only [List.append_nil,Rows.uptoBulkAll,Rows.uptoBulk]at hb
 have hr:=plain_HeaderAddresses s0.data.toList s1.data.toList omg
 have hgs:9≤W.heap.size:=heapSize hsh (of_decide_eq_true krf) krf
 have walk:=axx hr (glOf hL hsh hgs)
 refine Calls.mono walk ?_
 rintro e W' ⟨v,rfl,rfl,hH⟩
 exact⟨_,rfl,postOf (pa:=[]) (pv:=[]) hW' (fun _ _ _=>trodAll_cons_mk (shut_bool Tryz.underlying4 _) trodAll_mk0) (fun _ _=>trodAll_cons_mk (shut_string Tryz.underlying9 hs0) (trodAll_cons_mk (shut_string Tryz.underlying9 hs1) (trodAll_mk0))) (fun _ _=>rfl) (hH.toBelow.frame _)⟩
theorem laid_met(os:Os):laidMet Tryz.prog Rows.headerAddressesRow.laid ((laidWorld os).forCall (fun _ _=>0) ⟨#[], #[.string ⟨#[]⟩,.string ⟨#[]⟩],[]⟩).memory:=
 laidMet_of_run' 8 krf krf
theorem reads(os:Os){H:Type}(enc:TypeId×Value→H):∃places,DataW.whole enc Tryz.prog ((laidWorld os).forCall (fun _ _=>0) ⟨#[], #[.string ⟨#[]⟩,.string ⟨#[]⟩],[]⟩).memory Tryz.f5.params.toList Rows.headerAddressesSpec.vars false (#[.string ⟨#[]⟩,.string ⟨#[]⟩]:Array Value).toList 8=some ([.lit (.string []),.lit (.string [])],[],places):=
 ⟨[],by kernel_rfl⟩
theorem lifted(os:Os)(started:os.Started)(H:Type)(enc:TypeId×Value→H)(F:Stop.Interp):
  ReturnsInHanded {} Tryz.checked os 5 .any ((Rows.OpenSpec.upto Rows.headerAddressesSpec).preRow enc Tryz.prog Tryz.f5 Rows.headerAddressesUptoRow.domain false Rows.headerAddressesUptoRow.laid) (((Rows.OpenSpec.upto Rows.headerAddressesSpec).at F).post enc Tryz.prog Tryz.f5 false true false false):=by
 obtain⟨places,hx⟩:=reads os enc
 refine returnsInHanded_of_row (C:=Tryz.checked) (s:=Rows.OpenSpec.upto Rows.headerAddressesSpec) own started krf Tryz.func5
  (witness_row_at (enc:=enc) (C:=Tryz.checked) false (laidWorld os) #[.string ⟨#[]⟩,.string ⟨#[]⟩] rfl krf krf krf
   (OpenSpec.preRow_of_cond 8 hx krf (fun k hk=>by cases hk;kernel_rfl) krf (laid_met os))) ?_
 intro W base args ds gs before hval hW _ hcond _ hL hsh _
 exact contract H enc W base args ds gs before hval hW hL hsh (hcond _ rfl)
theorem fact1:(Rows.headerAddressesUptoRow.inPlace==Tryz.prog.inPlace 5)=true:=by kernel_rfl
theorem fact2:(Rows.headerAddressesUptoRow.unfollowed==Tryz.prog.unfollowed 5)=true:=by kernel_rfl
theorem fact3:(Rows.headerAddressesUptoRow.recurses==Tryz.prog.recurses 5)=true:=by kernel_rfl
theorem fact4:(Rows.headerAddressesUptoRow.named==Tryz.prog.varsNamed 5)=true:=by kernel_rfl
theorem fact5:laidOutB Tryz.prog=true:=by kernel_rfl
theorem fact6:mapsRowed Tryz.prog=true:=by kernel_rfl
theorem facts:joinedFacts Tryz.prog 5 Tryz.f5 (Rows.OpenSpec.upto Rows.headerAddressesSpec).bare Rows.headerAddressesUptoRow=true:=by
 unfold joinedFacts
 rw [fact1,fact2,fact3,fact4,fact5,fact6]
 kernel_rfl
theorem said:Rows.HeaderAddressesUptoSaid:=
 OpenClaim.holds_of_cond 5 Tryz.f5 rfl rfl rfl rfl rfl rfl rfl ⟨rfl,rfl,rfl,rfl,rfl⟩ rfl rfl rfl rfl rfl krf Tryz.func5 facts
  (of_decide_eq_true krf) (by unfold Func.isWrapper;first|(rw [if_pos (by decide+kernel)];kernel_rfl)|(rw [if_neg (by decide+kernel)];exact⟨rfl,rfl⟩))
  (fun os started H enc _ F=>by rw [OpenClaim.pre_eq_preRow];exact lifted os started H enc F)
theorem plain(f : FuncId)(fn : Func)(hf : Tryz.pinned.checked.prog.funcNamed "dialtone/dialtonelaw03.HeaderAddresses" = some f)(hfn : Tryz.pinned.checked.prog.funcs[f]? = some fn) :
  false=Tryz.pinned.checked.prog.looks []∧∀(j:Nat) t,fn.params[j]? =some t→Tryz.pinned.checked.prog.wantsStandIn t=false:=by
 obtain rfl : f = 5 := Option.some.inj ((show Tryz.prog.funcNamed "dialtone/dialtonelaw03.HeaderAddresses" = some 5 by kernel_rfl).symm.trans hf) |>.symm
 obtain rfl:fn=Tryz.f5:=(Option.some.inj (Tryz.func5.symm.trans hfn)).symm
 refine⟨by kernel_rfl,fun j t ht=> ?_⟩
 rw [Tryz.params5]at ht
 have hm:=Array.mem_of_getElem? ht
 simp only [List.mem_toArray,List.mem_cons,List.not_mem_nil,or_false,or_self]at hm
 subst hm
 exact(show Tryz.prog.wantsStandIn 9=false by kernel_rfl)
theorem card:Rows.HeaderAddressesUptoCardSaid:=
 Claim7.holds_tied_plain_at .later [] _ _ _ _ said (fun _ h=>by cases h) krf (fun _ h=>by cases h) headerAddressesUpto_row_tie rfl ⟨rfl,rfl⟩ krf rfl plain krf
end Go.Proofs.YtpbfkeakaefenaaGreatDoor.headerAddresses
