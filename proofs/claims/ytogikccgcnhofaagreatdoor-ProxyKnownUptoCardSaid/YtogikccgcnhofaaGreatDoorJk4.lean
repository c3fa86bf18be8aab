/-
  The law ProxyKnown holds: the card of its second form (part 4 of 23).
-/
import Derived.Test.YtogikccgcnhofaaGreatDoorJk3
import Derived.Test.YtogikccgcnhofaaGreatDoorRows
import Derived.ProofKit
import Derived.OpenShut
import Derived.Deep.DeepHandedRow
import Derived.Lib.LaidTab
import Derived.Shelf.Vars
import Derived.ChangeSame
import Derived.WalkKit
import Derived.SevenTiedAt
import Derived.Shelf.Strings.Builder1
import Derived.Shelf.Strings.Builder2
import Derived.Shelf.Strings.OnBuilder
import Derived.Shelf.Strings.Trim
import Derived.Shelf.Small.Utf8
import Derived.Shelf.Small.Strs
import Derived.Shelf.Small.Wraps
import Derived.Shelf.Strings.BuilderF
import Derived.Shelf.Strings.BuilderK
import Derived.Shelf.Utf8.RuneCount
import Derived.Shelf.Strings.Builder2Cap
import Derived.Shelf.Strconv.Itoa0
import Derived.Shelf.Strconv.Itoa1
import Derived.Shelf.LaysM
import Derived.Shelf.Strconv.Itoa2
import Derived.Shelf.Strconv.Itoa3
import Derived.Shelf.Strings.Search1
import Derived.Shelf.Strings.Search2
import Derived.Shelf.Strings.Search3
import Derived.Shelf.Strings.Cut
import Derived.Shelf.Strings.Count
import Derived.Shelf.Strings.Shaped
import Derived.Shelf.Strings.LastIndex
import Derived.Shelf.Strings.Prefix
import Derived.Shelf.Strings.Split
import Derived.Shelf.Strings.SplitShaped
import Derived.Shelf.Unicode.Decode
import Derived.Shelf.Strings.Runes
import Derived.Shelf.Strings.RuneCount
import Derived.Shelf.Strings.IndexAny
import Derived.Shelf.Strings.AsciiSet
import Derived.Shelf.Strings.IndexAnyAll
import Derived.Shelf.Strings.Explode
import Derived.Shelf.Unicode.DecodeSlow
import Derived.Shelf.Unicode.DecodeAny
import Derived.Shelf.Unicode.DecodeLast
import Derived.Shelf.Strings.BuilderCap
import Derived.Shelf.Bytes.SlSearch0
import Derived.Ground.SlbCloneProg
import Derived.Shelf.Bytes.SlClone
import Derived.Shelf.Bytes.SlEqualAll
import Derived.Ground.PaProg
import Derived.Shelf.Path.Small
import Derived.Shelf.Bytes.Small
import Derived.Test.YtogikccgcnhofaaGreatDoorProg
import Derived.Shelf.Strings.SlTrimAscii
set_option linter.constructorNameAsVariable false
set_option linter.unusedVariables false
set_option linter.unusedSimpArgs false
set_option maxRecDepth 20000
namespace Go.Proofs
open Go.Wk Go.Px Go.RowKit
theorem lenOf{s:ByteArray}(h:s.size<=maxLen):s.data.toList.length<=9223372036854775807:=Nat.le_trans (by rw [Array.length_toList];exact h) (show maxLen<=9223372036854775807 by decide)
theorem laidAt{P:Program}{w:World}:∀{l:List (String×DataW Unit)} {ps:List MemPlace},DataW.LaidVars P w l ps->∀(i:Nat) {n:String} {d:DataW Unit},l[i]? =some (n,d)->
  ∃g t cs fuel p,P.globalNamed n=some g/\(P.globals[g]?).map (·.type)=some t/\w.var? P n=some cs/\DataW.trod (fun _=>()) P w 0 (fun _=>true) false fuel t cs.toList=some (d,p)
 |[],_,_,i,n,d,hi=>by simp at hi
 |(n',d')::l,ps,h,0,n,d,hi=>by
  obtain⟨g,t,cs,fuel,p,q,h1,h2,h3,h4,_,_⟩:=h;simp only [List.getElem?_cons_zero,Option.some.injEq,Prod.mk.injEq]at hi;obtain⟨rfl,rfl⟩:=hi;exact⟨g,t,cs,fuel,p,h1,h2,h3,h4⟩
 |(n',d')::l,ps,h,i+1,n,d,hi=>by
  obtain⟨g,t,cs,fuel,p,q,_,_,_,_,h5,_⟩:=h;exact laidAt h5 i (by simpa using hi)
theorem vrOf{P:Program}{w:World}{n:String}{g:Nat}{cs:Array Value}(hg:P.globalNamed n=some g)(h:w.var? P n=some cs):Vr w g cs.toList:=by
 simp only [World.var?,hg,Option.bind_some]at h;split at h
 ·rename_i cs' t f e;cases h
  exact⟨t,f,by rw [e]⟩
 ·cases h
theorem chunks{α:Type}{f:α->List Value}{sz:Nat}:∀(zs:List α) (cs:List Value),cs.length=zs.length*sz->(∀(i:Nat) (z:α),zs[i]? =some z->(cs.drop (i*sz)).take sz=f z)->cs=zs.flatMap f
 |[],cs,hl,_=>by simpa using hl
 |z::zs,cs,hl,h=>by
  have h0:=h 0 z rfl;simp only [Nat.zero_mul,List.drop_zero]at h0;have h1:=chunks (f:=f) (sz:=sz) zs (cs.drop sz) (by rw [List.length_drop,hl,List.length_cons,Nat.succ_mul];omega) (fun i z' hi=>by
   have:=h (i+1) z' (by simpa using hi)
   rw [List.drop_drop,Nat.add_comm,<-Nat.succ_mul];exact this)
  rw [List.flatMap_cons,<-h0,<-h1,List.take_append_drop]
theorem arrCells{P:Program}{w:World}{fuel n sz:Nat}{t e:TypeId}{cs:List Value}{p:List MemPlace}{α:Type}{dz:α->DataW Unit}{f:α->List Value}(zs:List α)
  (ht:P.underlying t=some (.array n e)) (hce:P.cellsOf e=sz) (hct:P.cellsOf t=n*sz) (hz:zs.length=n)
  (hel:∀fuel cs' z p,DataW.trod (fun _=>()) P w 0 (fun _=>true) false fuel e cs'=some (dz z,p)->cs'=f z)
  (h:DataW.trod (fun _=>()) P w 0 (fun _=>true) false fuel t cs=some (.agg (zs.map dz),p)):cs=zs.flatMap f:=by
 cases fuel with
 |zero=>simp [DataW.trod]at h
 |succ fuel=>
  simp only [DataW.trod,ht,hce,hct]at h;split at h
  ·rename_i hl;obtain⟨xs,hm,hx⟩:=Option.map_eq_some_iff.1 h;have hxs:xs.map (·.1)=zs.map dz:=by
    have:=congrArg Prod.fst hx
    simpa using this
   refine chunks zs cs (by rw [hl,hz]) fun i z hi=> ?_
   have hi':i<n:=by rw [<-hz];exact(List.getElem?_eq_some_iff.1 hi).1
   obtain⟨b,hb,hf⟩:=Lib.mapM_at hm i i (by simp [hi']);have hb1:b.1=dz z:=by
    have e1:(xs.map (·.1))[i]? =some b.1:=by simp [hb]
    rw [hxs]at e1;simp only [List.getElem?_map,hi,Option.map_some,Option.some.injEq]at e1;exact e1.symm
   exact hel fuel _ z b.2 (by rw [hf,<-hb1])
  ·cases h
theorem strCell{P:Program}{w:World}{fuel:Nat}{e:TypeId}{cs:List Value}{p:List MemPlace}(he:P.underlying e=some .string)(z:List UInt8)
  (h:DataW.trod (fun _=>()) P w 0 (fun _=>true) false fuel e cs=some (.lit (.string z),p)):cs=eS z:=by
 obtain⟨s,rfl,hx,_⟩:=DataW.trod_string he h;simp only [Prod.mk.injEq,DataW.lit.injEq,Lit.string.injEq]at hx;obtain⟨rfl,_⟩:=hx;rfl
theorem intCell{P:Program}{w:World}{fuel:Nat}{e:TypeId}{k:IntKind}{cs:List Value}{p:List MemPlace}(he:P.underlying e=some (.int k))(z:Int)
  (h:DataW.trod (fun _=>()) P w 0 (fun _=>true) false fuel e cs=some (.lit (.int k z),p)):cs=[.int k z]:=by
 obtain⟨n,rfl,hx,_⟩:=DataW.trod_int he h;simp only [Prod.mk.injEq,DataW.lit.injEq,Lit.int.injEq]at hx;obtain⟨⟨_,rfl⟩,_⟩:=hx;rfl
theorem pairCell{P:Program}{w:World}{fuel:Nat}{e a b:TypeId}{f0 f1:Field}{k:IntKind}{cs:List Value}{p:List MemPlace}(he:P.underlying e=some (.struct #[f0,f1]))(ha:P.underlying a=some .string)(hb:P.underlying b=some (.int k))
  (h0:(f0.type,f0.offset,f1.type,f1.offset)=(a,0,b,1)) (hca:P.cellsOf a=1) (hcb:P.cellsOf b=1) (hc:P.cellsOf e=2) (z:List UInt8×Int)
  (h:DataW.trod (fun _=>()) P w 0 (fun _=>true) false fuel e cs=some (.agg [.lit (.string z.1),.lit (.int k z.2)],p)):cs=[str z.1,.int k z.2]:=by
 obtain⟨z1,z2⟩:=z;simp only [Prod.mk.injEq]at h0;obtain⟨t0,o0,t1,o1⟩:=h0;cases fuel with
 |zero=>simp [DataW.trod]at h
 |succ fuel=>
  simp only [DataW.trod,he,hc]at h;split at h
  ·rename_i hl;obtain⟨xs,hm,hx⟩:=Option.map_eq_some_iff.1 h;simp only [List.mapM_cons,List.mapM_nil,Option.bind_eq_bind,Option.bind_eq_some_iff,Option.pure_def,Option.some.injEq,t0,t1,o0,o1,hca,hcb,List.drop_zero]at hm;obtain⟨x0,hx0,r0,⟨x1,hx1,r1,rfl,rfl⟩,rfl⟩:=hm;simp only [List.map_cons,List.map_nil,Prod.mk.injEq,DataW.agg.injEq,List.cons.injEq,and_true]at hx;obtain⟨⟨e0,e1⟩,_⟩:=hx;have g0:=strCell ha z1 (p:=x0.2) (by rw [hx0,<-e0]);have g1:=intCell hb z2 (p:=x1.2) (by rw [hx1,<-e1])
   match cs,hl,g0,g1 with
   |[u,v],_,g0,g1=>
    simp only [List.take_succ_cons,List.take_zero,List.drop_succ_cons,List.drop_zero,eS,List.cons.injEq,and_true]at g0 g1;rw [g0,g1]
  ·cases h
theorem intVar{P:Program}{w:World}{g:Nat}{t:TypeId}{zero:Array Value}{k:IntKind}(h:w.ShapedOpen P)(hg:g<P.globals.size)
  (h0:((begin P (fun _ _=>0) default).world.heap[g]?).bind Obj.row? =some (zero,t)) (hz:zero.size=1)
  (hb:P.buildable t=true) (hc:P.cellTypes P.depth t=some [t]) (hu:P.underlying t=some (.int k)):∃m,Vr w g [.int k m]:=by
 obtain⟨m,hm⟩:=cell_of_shapedOpen_int h hg h0 hz hb hc hu;obtain⟨cs,hh,hs,_⟩:=h.1 g zero t hg h0;refine⟨m,t,(0,0), ?_⟩
 rw [hh];have h1:cs.size=1:=by omega
 have h2:cs[0]? =some (.int k m):=by
  have:w.cell? ⟨g,0,none⟩=cs[0]? :=by simp [World.cell?,hh]
  rw [<-this];exact hm
 have e:cs=[Value.int k m].toArray:=by
  apply Array.ext
  ·simp [h1]
  ·intro i hi hi'
   have:i=0:=by omega
   subst this;simpa [hi] using h2
 rw [e]
theorem heapSize{P:Program}{w:World}{g:Nat}(h:w.ShapedOpen P)(hg:g<P.globals.size)(h0:(((begin P (fun _ _=>0) default).world.heap[g]?).bind Obj.row?).isSome=true):g+1<=w.heap.size:=by
 obtain⟨⟨zero,t⟩,h1⟩:=Option.isSome_iff_exists.1 h0;obtain⟨cs,hh,_⟩:=h.1 g zero t hg h1;exact(Array.getElem?_eq_some_iff.1 hh).1
theorem laidOf{P:Program}{l:List (String×DataW Unit)}{w:World}(h:laidMetH P l w)(hn:(l.filter fun x=>x.2.handleName?.isSome)=[]):∃ps,DataW.LaidVars P w l ps:=by
 unfold laidMetH at h;rw [hn]at h;obtain⟨ps,h1,_⟩:=h;exact⟨ps,h1⟩
theorem postOf{H:Type}{enc:TypeId×Value->H}{P:Program}{f:Func}{s:ChangeSpec}{apart fresh handsOn:Bool}{W W':World}{args:Array Value}{v:Value}{ds gs:List (DataW H)}{before pa pv:List MemPlace}
  (hW:DataW.Whole enc P f.params.toList s.vars apart W args.toList ds gs before)
  (hres:∀(b:Nat) (sp:Nat->Bool) (hd:Bool),DataW.TrodAll enc P W' b sp hd f.resultTypes.toList (v.resultList f.resultTypes.size) (s.fn H (ds++gs)).results [])
  (hargs:∀sp:Nat->Bool,(∀p∈before,sp p.block=true)->DataW.TrodAll enc P W' 0 sp true f.params.toList args.toList (s.fn H (ds++gs)).args pa)
  (hvars:∀sp:Nat->Bool,(∀p∈before,sp p.block=true)->DataW.TrodVars enc P W' sp s.vars (s.fn H (ds++gs)).vars pv)
  (hk:W.keptBut W' (fun p=>p∈before/\(p∈([]:List MemPlace)\/p∈pa\/p∈pv))):s.post enc P f apart fresh handsOn false W args v W':=by
 have hold:∀p∈before,(fun b=>decide (b<W.heap.size)) p.block=true:=fun p hp=>by simpa using hW.lt p hp
 exact⟨ds,gs,before,[],pa,pv,hW,hres _ _ _,hargs _ hold,hvars _ hold,hk,fun h=>by cases h⟩
end Go.Proofs
set_option maxRecDepth 100000
namespace Go.Proofs
open Go.Wk Go.Px Go.RowKit
theorem glOf{W:World}(hL:laidMetH Tryz.prog YtogikccgcnhofaaGreatDoor.Rows.proxyKnownRow.laid W)(hsh:W.ShapedOpen Tryz.prog)(hs:12<=W.heap.size):Gl W:=by
 obtain⟨ps,h⟩:=laidOf hL krf;have v1:Vr W 1 (List.flatMap eS gl_specials):=by
  obtain⟨g,t,cs,fuel,p,h1,h2,h3,h4⟩:=laidAt h 8 rfl;obtain rfl := Option.some.inj ((show Tryz.prog.globalNamed "dialtone/header.specials" = some 1 by kernel_rfl).symm.trans h1);obtain rfl:=Option.some.inj ((show(Tryz.prog.globals[1]?).map (·.type)=some 279 by kernel_rfl).symm.trans h2);have e:=arrCells (dz:=fun s=>.lit (.string s)) (f:=eS) gl_specials Tryz.underlying279 (show Tryz.prog.cellsOf 9=1 by kernel_rfl) krf rfl (fun _ _ z _ h=>strCell Tryz.underlying9 z h) h4
  have:=vrOf h1 h3
  rw [e]at this;exact this
 have v6:Vr W 6 (List.flatMap enamekind gl_kinds):=by
  obtain⟨g,t,cs,fuel,p,h1,h2,h3,h4⟩:=laidAt h 9 rfl;obtain rfl := Option.some.inj ((show Tryz.prog.globalNamed "dialtone/header.kinds" = some 6 by kernel_rfl).symm.trans h1);obtain rfl:=Option.some.inj ((show(Tryz.prog.globals[6]?).map (·.type)=some 342 by kernel_rfl).symm.trans h2);have e:=arrCells (dz:=fun z=>.agg [.lit (.string z.1),.lit (.int .i64 z.2)]) (f:=enamekind) gl_kinds Tryz.underlying342 (show Tryz.prog.cellsOf 341=2 by kernel_rfl) krf rfl (fun _ _ z _ h=>pairCell Tryz.underlying341 Tryz.underlying9 Tryz.underlying286 rfl krf krf krf z h) h4
  have:=vrOf h1 h3
  rw [e]at this;exact this
 have v4:Vr W 4 (List.flatMap eS gl_classes):=by
  obtain⟨g,t,cs,fuel,p,h1,h2,h3,h4⟩:=laidAt h 7 rfl;obtain rfl := Option.some.inj ((show Tryz.prog.globalNamed "dialtone/address.classes" = some 4 by kernel_rfl).symm.trans h1);obtain rfl:=Option.some.inj ((show(Tryz.prog.globals[4]?).map (·.type)=some 321 by kernel_rfl).symm.trans h2);have e:=arrCells (dz:=fun s=>.lit (.string s)) (f:=eS) gl_classes Tryz.underlying321 (show Tryz.prog.cellsOf 9=1 by kernel_rfl) krf rfl (fun _ _ z _ h=>strCell Tryz.underlying9 z h) h4
  have:=vrOf h1 h3
  rw [e]at this;exact this
 have v7:Vr W 7 (List.flatMap (eI .u32) gl_rounds):=by
  obtain⟨g,t,cs,fuel,p,h1,h2,h3,h4⟩:=laidAt h 2 rfl;obtain rfl := Option.some.inj ((show Tryz.prog.globalNamed "dialtone/hash.constants" = some 7 by kernel_rfl).symm.trans h1);obtain rfl:=Option.some.inj ((show(Tryz.prog.globals[7]?).map (·.type)=some 367 by kernel_rfl).symm.trans h2);have e:=Lib.cells_of_tab (zs:=gl_rounds) (k:=.u32) Tryz.underlying367 Tryz.underlying327 krf krf h4
  have:=vrOf h1 h3
  rw [e]at this;rw [show List.flatMap (eI .u32) gl_rounds=gl_rounds.map (fun z=>Value.int .u32 z)from List.map_eq_flatMap.symm];exact this
 have v5:Vr W 5 (Lib.pow10Tab.map fun z=>Value.int .u64 z):=by
  obtain⟨g,t,cs,fuel,p,h1,h2,h3,h4⟩:=laidAt h 3 rfl;obtain rfl := Option.some.inj ((show Tryz.prog.globalNamed "internal/strconv.uint64pow10" = some 5 by kernel_rfl).symm.trans h1);obtain rfl:=Option.some.inj ((show(Tryz.prog.globals[5]?).map (·.type)=some 338 by kernel_rfl).symm.trans h2);have e:=Lib.cells_of_tab (zs:=Lib.pow10Tab) (k:=.u64) Tryz.underlying338 Tryz.underlying281 krf krf h4
  have:=vrOf h1 h3
  rw [e]at this;exact this
 have v0:∃m,Vr W 0 [.int .i64 m]:=intVar (zero:= #[.int .i64 0]) (t:=3) hsh (of_decide_eq_true krf) krf rfl krf krf Tryz.underlying3;exact {gs:=hs,specials:=v1,kinds:=v6,classes:=v4,rounds:=v7,pow10:=v5,maxlen:=v0}
noncomputable def low:Nat:=(World.holding Tryz.prog default ⟨#[], #[],[]⟩).heap.size
noncomputable def laidCells(g:Nat)(o:Obj):Obj:=
 match o with
 |.cells c t fz=>.cells (match g with
  |8=> #[.int .u8 0,.int .u8 1,.int .u8 28,.int .u8 2,.int .u8 29,.int .u8 14,.int .u8 24,.int .u8 3,.int .u8 30,.int .u8 22,.int .u8 20,.int .u8 15,.int .u8 25,.int .u8 17,.int .u8 4,.int .u8 8,.int .u8 31,.int .u8 27,.int .u8 13,.int .u8 23,.int .u8 21,.int .u8 19,.int .u8 16,.int .u8 7,.int .u8 26,.int .u8 12,.int .u8 18,.int .u8 6,.int .u8 11,.int .u8 5,.int .u8 10,.int .u8 9]
  |9=> #[.int .u8 0,.int .u8 1,.int .u8 56,.int .u8 2,.int .u8 57,.int .u8 49,.int .u8 28,.int .u8 3,.int .u8 61,.int .u8 58,.int .u8 42,.int .u8 50,.int .u8 38,.int .u8 29,.int .u8 17,.int .u8 4,.int .u8 62,.int .u8 47,.int .u8 59,.int .u8 36,.int .u8 45,.int .u8 43,.int .u8 51,.int .u8 22,.int .u8 53,.int .u8 39,.int .u8 33,.int .u8 30,.int .u8 24,.int .u8 18,.int .u8 12,.int .u8 5,.int .u8 63,.int .u8 55,.int .u8 48,.int .u8 27,.int .u8 60,.int .u8 41,.int .u8 37,.int .u8 16,.int .u8 46,.int .u8 35,.int .u8 44,.int .u8 21,.int .u8 52,.int .u8 32,.int .u8 23,.int .u8 11,.int .u8 54,.int .u8 26,.int .u8 40,.int .u8 15,.int .u8 34,.int .u8 20,.int .u8 31,.int .u8 10,.int .u8 25,.int .u8 14,.int .u8 19,.int .u8 9,.int .u8 13,.int .u8 8,.int .u8 7,.int .u8 6]
  |7=> #[.int .u32 1116352408,.int .u32 1899447441,.int .u32 3049323471,.int .u32 3921009573,.int .u32 961987163,.int .u32 1508970993,.int .u32 2453635748,.int .u32 2870763221,.int .u32 3624381080,.int .u32 310598401,.int .u32 607225278,.int .u32 1426881987,.int .u32 1925078388,.int .u32 2162078206,.int .u32 2614888103,.int .u32 3248222580,.int .u32 3835390401,.int .u32 4022224774,.int .u32 264347078,.int .u32 604807628,.int .u32 770255983,.int .u32 1249150122,.int .u32 1555081692,.int .u32 1996064986,.int .u32 2554220882,.int .u32 2821834349,.int .u32 2952996808,.int .u32 3210313671,.int .u32 3336571891,.int .u32 3584528711,.int .u32 113926993,.int .u32 338241895,.int .u32 666307205,.int .u32 773529912,.int .u32 1294757372,.int .u32 1396182291,.int .u32 1695183700,.int .u32 1986661051,.int .u32 2177026350,.int .u32 2456956037,.int .u32 2730485921,.int .u32 2820302411,.int .u32 3259730800,.int .u32 3345764771,.int .u32 3516065817,.int .u32 3600352804,.int .u32 4094571909,.int .u32 275423344,.int .u32 430227734,.int .u32 506948616,.int .u32 659060556,.int .u32 883997877,.int .u32 958139571,.int .u32 1322822218,.int .u32 1537002063,.int .u32 1747873779,.int .u32 1955562222,.int .u32 2024104815,.int .u32 2227730452,.int .u32 2361852424,.int .u32 2428436474,.int .u32 2756734187,.int .u32 3204031479,.int .u32 3329325298]
  |5=> #[.int .u64 1,.int .u64 10,.int .u64 100,.int .u64 1000,.int .u64 10000,.int .u64 100000,.int .u64 1000000,.int .u64 10000000,.int .u64 100000000,.int .u64 1000000000,.int .u64 10000000000,.int .u64 100000000000,.int .u64 1000000000000,.int .u64 10000000000000,.int .u64 100000000000000,.int .u64 1000000000000000,.int .u64 10000000000000000,.int .u64 100000000000000000,.int .u64 1000000000000000000,.int .u64 10000000000000000000]
  |11=> #[.int .u8 128,.int .u8 191,.int .u8 160,.int .u8 191,.int .u8 128,.int .u8 159,.int .u8 144,.int .u8 191,.int .u8 128,.int .u8 143,.int .u8 0,.int .u8 0,.int .u8 0,.int .u8 0,.int .u8 0,.int .u8 0,.int .u8 0,.int .u8 0,.int .u8 0,.int .u8 0,.int .u8 0,.int .u8 0,.int .u8 0,.int .u8 0,.int .u8 0,.int .u8 0,.int .u8 0,.int .u8 0,.int .u8 0,.int .u8 0,.int .u8 0,.int .u8 0]
  |3=> #[.iface 357 (.pointer (some ⟨low+0,0,none⟩))]
  |2=> #[.iface 357 (.pointer (some ⟨low+1,0,none⟩))]
  |4=> #[str [38,61,43,36,44,59,63,47],str [91,93,47,58,38,43,36],str [91,93,47,63,58,43,36]]
  |1=> #[str [67,97,108,108,45,73,68],str [67,83,101,113],str [77,73,77,69,45,86,101,114,115,105,111,110],str [77,105,110,45,83,69],str [82,65,99,107],str [82,83,101,113],str [87,87,87,45,65,117,116,104,101,110,116,105,99,97,116,101]]
  |6=> #[str [70,114,111,109],.int .i64 1,str [84,111],.int .i64 1,str [67,111,110,116,97,99,116],.int .i64 1,str [82,111,117,116,101],.int .i64 1,str [82,101,99,111,114,100,45,82,111,117,116,101],.int .i64 1,str [80,97,116,104],.int .i64 1,str [83,101,114,118,105,99,101,45,82,111,117,116,101],.int .i64 1,str [82,101,102,101,114,45,84,111],.int .i64 1,str [82,101,102,101,114,114,101,100,45,66,121],.int .i64 1,str [82,101,112,108,121,45,84,111],.int .i64 1,str [86,105,97],.int .i64 2,str [67,83,101,113],.int .i64 3,str [82,65,99,107],.int .i64 4,str [67,111,110,116,101,110,116,45,76,101,110,103,116,104],.int .i64 5,str [69,120,112,105,114,101,115],.int .i64 5,str [77,97,120,45,70,111,114,119,97,114,100,115],.int .i64 5,str [77,105,110,45,69,120,112,105,114,101,115],.int .i64 5,str [82,83,101,113],.int .i64 5,str [67,111,110,116,101,110,116,45,68,105,115,112,111,115,105,116,105,111,110],.int .i64 6,str [67,111,110,116,101,110,116,45,84,121,112,101],.int .i64 6,str [69,118,101,110,116],.int .i64 6,str [77,105,110,45,83,69],.int .i64 6,str [83,101,115,115,105,111,110,45,69,120,112,105,114,101,115],.int .i64 6,str [83,117,98,115,99,114,105,112,116,105,111,110,45,83,116,97,116,101],.int .i64 6,str [65,99,99,101,112,116],.int .i64 7,str [65,108,108,111,119],.int .i64 7,str [65,108,108,111,119,45,69,118,101,110,116,115],.int .i64 7,str [80,114,111,120,121,45,82,101,113,117,105,114,101],.int .i64 7,str [82,101,113,117,105,114,101],.int .i64 7,str [83,117,112,112,111,114,116,101,100],.int .i64 7,str [85,110,115,117,112,112,111,114,116,101,100],.int .i64 7]
  |10=>(Go.Pinned.utf8FirstZ.map fun(z:Nat)=>Value.int .u8 (z:Int)).toArray
  |_=>c) t fz
 |o=>o
noncomputable def laidWorld(os:Os):World:={World.holding Tryz.prog os ⟨#[.cells #[str [118,97,108,117,101,32,111,117,116,32,111,102,32,114,97,110,103,101]] 359,.cells #[str [105,110,118,97,108,105,100,32,115,121,110,116,97,120]] 359], #[],[]⟩with heap:=(World.holding Tryz.prog os ⟨#[.cells #[str [118,97,108,117,101,32,111,117,116,32,111,102,32,114,97,110,103,101]] 359,.cells #[str [105,110,118,97,108,105,100,32,115,121,110,116,97,120]] 359], #[],[]⟩).heap.mapIdx laidCells}
theorem own:ownKnob Tryz.prog.godebug=none:=by kernel_rfl
open Go.Shelf
def Tryz.lays156_ren:Go.Shelf.Ren:=⟨fun|156=>210|165=>296|166=>187|169=>191|240=>272|241=>357|276=>343|277=>389|n=>n,fun|31=>97|9=>9|3=>3|4=>4|0=>0|20=>20|72=>212|76=>139|70=>210|37=>23|75=>138|127=>275|164=>324|5=>5|80=>125|n=>n,fun|n=>n⟩
theorem Tryz.lays156:Go.Proofs.Lays.n156 Tryz.prog Tryz.lays156_ren:={
 mixed:=by kernel_rfl
 f156:=Tryz.func210.trans ksf
 f165:=Tryz.func296.trans ksf
 f166:=Tryz.func187.trans ksf
 f169:=Tryz.func191.trans ksf
 f240:=Tryz.func272.trans ksf
 f241:=Tryz.func357.trans ksf
 f276:=Tryz.func343.trans ksf
 f277:=Tryz.func389.trans ksf
 t0:=Tryz.underlying0
 a0:=Tryz.isAgg0
 z0:=Tryz.sizeOf0
 v0:=Tryz.zeroValue0
 t3:=Tryz.underlying3
 a3:=Tryz.isAgg3
 z3:=Tryz.sizeOf3
 v3:=Tryz.zeroValue3
 t4:=Tryz.underlying4
 a4:=Tryz.isAgg4
 z4:=Tryz.sizeOf4
 v4:=Tryz.zeroValue4
 t9:=Tryz.underlying9
 a9:=Tryz.isAgg9
 z9:=Tryz.sizeOf9
 v9:=Tryz.zeroValue9
 t20:=Tryz.underlying20
 a20:=Tryz.isAgg20
 z20:=Tryz.sizeOf20
 v20:=Tryz.zeroValue20
 t31:=Tryz.underlying97
 a31:=Tryz.isAgg97
 z31:=Tryz.sizeOf97
 v31:=Tryz.zeroValue97
 t37:=Tryz.underlying23
 a37:=Tryz.isAgg23
 z37:=Tryz.sizeOf23
 v37:=Tryz.zeroValue23
 t70:=Tryz.underlying210
 a70:=Tryz.isAgg210
 z70:=Tryz.sizeOf210
 v70:=Tryz.zeroValue210
 t72:=Tryz.underlying212
 a72:=Tryz.isAgg212
 z72:=Tryz.sizeOf212
 v72:=Tryz.zeroValue212
 t75:=Tryz.underlying138
 a75:=Tryz.isAgg138
 z75:=Tryz.sizeOf138
 v75:=Tryz.zeroValue138
 t76:=Tryz.underlying139
 a76:=Tryz.isAgg139
 z76:=Tryz.sizeOf139
 v76:=Tryz.zeroValue139
 t127:=Tryz.underlying275
 a127:=Tryz.isAgg275
 z127:=Tryz.sizeOf275
 v127:=Tryz.zeroValue275
 t164:=Tryz.underlying324
 a164:=Tryz.isAgg324
 z164:=Tryz.sizeOf324
 v164:=Tryz.zeroValue324}
theorem Tryz.Builder_Extra_156:Builder.Extra Tryz.prog Tryz.lays156_ren:={
 sizeBuilder:=by kernel_rfl
 liesBuilder:=by kernel_rfl
 t5:=Tryz.underlying5
 a5:=Tryz.isAgg5
 z5:=Tryz.sizeOf5
 v5:=Tryz.zeroValue5
 infoByte:=by kernel_rfl
 cellsByte:=by kernel_rfl
 sizeByte:=by kernel_rfl
 neB5:=by decide}
open Go.RowKit in
theorem Tryz.strings_Join_none (a : Option Addr) (c : Nat) (sep : ByteArray) (w : World) :
    Calls Tryz.prog 210 #[.slice a 0 c, .string sep] w fun e w' => e = .returned (.string ⟨#[]⟩) /\ w' = w := Any.strings_Join_none Tryz.lays156 Tryz.Builder_Extra_156 a c sep w
open Go.RowKit in
theorem Tryz.strings_Join (bk o c : Nat) (xs : List ByteArray) (sep : ByteArray) (w : World) (hcells : ∀ (j : Nat) x, xs[j]? = some x -> w.cell? ⟨bk, o + j, none⟩ = some (.string x)) (hbk : bk < w.heap.size) (hN : xs.length <= 140737488355328) (hcap : xs.length <= c) (hlen : (Lib.join (xs.map (·.data.toList)) sep.data.toList).length <= 140737488355328) :
    Calls Tryz.prog 210 #[.slice (some ⟨bk, o, none⟩) xs.length c, .string sep] w fun e w' => e = .returned (.string ⟨(Lib.join (xs.map (·.data.toList)) sep.data.toList).toArray⟩) /\ Below w.heap.size w w' := Any.strings_Join Tryz.lays156 Tryz.Builder_Extra_156 bk o c xs sep w hcells hbk hN hcap hlen
def Tryz.lays161_ren:Go.Shelf.Ren:=⟨fun|161=>337|231=>302|227=>226|233=>304|235=>306|228=>227|197=>359|151=>360|260=>393|152=>224|137=>89|119=>308|224=>309|225=>310|217=>177|266=>264|n=>n,fun|9=>9|4=>4|3=>3|5=>5|117=>242|116=>241|0=>0|124=>302|105=>345|21=>21|119=>369|46=>253|139=>372|138=>371|n=>n,fun|3=>10|4=>11|n=>n⟩
theorem Tryz.lays161:Go.Proofs.Lays.n161 Tryz.prog Tryz.lays161_ren:={
 mixed:=by kernel_rfl
 f119:=Tryz.func308.trans ksf
 f137:=Tryz.func89.trans ksf
 f151:=Tryz.func360.trans ksf
 f152:=Tryz.func224.trans ksf
 f161:=Tryz.func337.trans ksf
 f197:=Tryz.func359.trans ksf
 f217:=Tryz.func177.trans ksf
 f224:=Tryz.func309.trans ksf
 f225:=Tryz.func310.trans ksf
 f227:=Tryz.func226.trans ksf
 f228:=Tryz.func227.trans ksf
 f231:=Tryz.func302.trans ksf
 f233:=Tryz.func304.trans ksf
 f235:=Tryz.func306.trans ksf
 f260:=Tryz.func393.trans ksf
 f266:=Tryz.func264.trans ksf
 t0:=Tryz.underlying0
 a0:=Tryz.isAgg0
 z0:=Tryz.sizeOf0
 v0:=Tryz.zeroValue0
 t3:=Tryz.underlying3
 a3:=Tryz.isAgg3
 z3:=Tryz.sizeOf3
 v3:=Tryz.zeroValue3
 t4:=Tryz.underlying4
 a4:=Tryz.isAgg4
 z4:=Tryz.sizeOf4
 v4:=Tryz.zeroValue4
 t5:=Tryz.underlying5
 a5:=Tryz.isAgg5
 z5:=Tryz.sizeOf5
 v5:=Tryz.zeroValue5
 t9:=Tryz.underlying9
 a9:=Tryz.isAgg9
 z9:=Tryz.sizeOf9
 v9:=Tryz.zeroValue9
 t21:=Tryz.underlying21
 a21:=Tryz.isAgg21
 z21:=Tryz.sizeOf21
 v21:=Tryz.zeroValue21
 t46:=Tryz.underlying253
 a46:=Tryz.isAgg253
 z46:=Tryz.sizeOf253
 v46:=Tryz.zeroValue253
 t105:=Tryz.underlying345
 a105:=Tryz.isAgg345
 z105:=Tryz.sizeOf345
 v105:=Tryz.zeroValue345
 t116:=Tryz.underlying241
 a116:=Tryz.isAgg241
 z116:=Tryz.sizeOf241
 t117:=Tryz.underlying242
 a117:=Tryz.isAgg242
 z117:=Tryz.sizeOf242
 v117:=Tryz.zeroValue242
 t119:=Tryz.underlying369
 a119:=Tryz.isAgg369
 z119:=Tryz.sizeOf369
 t124:=Tryz.underlying302
 a124:=Tryz.isAgg302
 z124:=Tryz.sizeOf302
 v124:=Tryz.zeroValue302
 t138:=Tryz.underlying371
 a138:=Tryz.isAgg371
 z138:=Tryz.sizeOf371
 v138:=Tryz.zeroValue371
 t139:=Tryz.underlying372
 a139:=Tryz.isAgg372
 z139:=Tryz.sizeOf372
 v139:=Tryz.zeroValue372
 g3:=by kernel_rfl
 g4:=by kernel_rfl}
def Tryz.lays162_ren:Go.Shelf.Ren:=⟨fun|162=>387|232=>303|227=>226|234=>305|236=>307|228=>227|271=>361|151=>360|120=>394|197=>359|152=>224|260=>393|137=>89|119=>308|224=>309|225=>310|217=>177|266=>264|n=>n,fun|9=>9|4=>4|3=>3|5=>5|117=>242|116=>241|0=>0|124=>302|21=>21|105=>345|46=>253|119=>369|139=>372|138=>371|n=>n,fun|3=>10|4=>11|n=>n⟩
theorem Tryz.lays162:Go.Proofs.Lays.n162 Tryz.prog Tryz.lays162_ren:={
 mixed:=by kernel_rfl
 f119:=Tryz.func308.trans ksf
 f120:=Tryz.func394.trans ksf
 f137:=Tryz.func89.trans ksf
 f151:=Tryz.func360.trans ksf
 f152:=Tryz.func224.trans ksf
 f162:=Tryz.func387.trans ksf
 f197:=Tryz.func359.trans ksf
 f217:=Tryz.func177.trans ksf
 f224:=Tryz.func309.trans ksf
 f225:=Tryz.func310.trans ksf
 f227:=Tryz.func226.trans ksf
 f228:=Tryz.func227.trans ksf
 f232:=Tryz.func303.trans ksf
 f234:=Tryz.func305.trans ksf
 f236:=Tryz.func307.trans ksf
 f260:=Tryz.func393.trans ksf
 f266:=Tryz.func264.trans ksf
 f271:=Tryz.func361.trans ksf
 t0:=Tryz.underlying0
 a0:=Tryz.isAgg0
 z0:=Tryz.sizeOf0
 v0:=Tryz.zeroValue0
 t3:=Tryz.underlying3
 a3:=Tryz.isAgg3
 z3:=Tryz.sizeOf3
 v3:=Tryz.zeroValue3
 t4:=Tryz.underlying4
 a4:=Tryz.isAgg4
 z4:=Tryz.sizeOf4
 v4:=Tryz.zeroValue4
 t5:=Tryz.underlying5
 a5:=Tryz.isAgg5
 z5:=Tryz.sizeOf5
 v5:=Tryz.zeroValue5
 t9:=Tryz.underlying9
 a9:=Tryz.isAgg9
 z9:=Tryz.sizeOf9
 v9:=Tryz.zeroValue9
 t21:=Tryz.underlying21
 a21:=Tryz.isAgg21
 z21:=Tryz.sizeOf21
 v21:=Tryz.zeroValue21
 t46:=Tryz.underlying253
 a46:=Tryz.isAgg253
 z46:=Tryz.sizeOf253
 v46:=Tryz.zeroValue253
 t105:=Tryz.underlying345
 a105:=Tryz.isAgg345
 z105:=Tryz.sizeOf345
 v105:=Tryz.zeroValue345
 t116:=Tryz.underlying241
 a116:=Tryz.isAgg241
 z116:=Tryz.sizeOf241
 t117:=Tryz.underlying242
 a117:=Tryz.isAgg242
 z117:=Tryz.sizeOf242
 v117:=Tryz.zeroValue242
 t119:=Tryz.underlying369
 a119:=Tryz.isAgg369
 z119:=Tryz.sizeOf369
 t124:=Tryz.underlying302
 a124:=Tryz.isAgg302
 z124:=Tryz.sizeOf302
 v124:=Tryz.zeroValue302
 t138:=Tryz.underlying371
 a138:=Tryz.isAgg371
 z138:=Tryz.sizeOf371
 v138:=Tryz.zeroValue371
 t139:=Tryz.underlying372
 a139:=Tryz.isAgg372
 z139:=Tryz.sizeOf372
 v139:=Tryz.zeroValue372
 g3:=by kernel_rfl
 g4:=by kernel_rfl}
def Tryz.lays160_ren:Go.Shelf.Ren:=⟨fun|160=>216|232=>303|231=>302|227=>226|234=>305|233=>304|236=>307|235=>306|228=>227|271=>361|151=>360|197=>359|120=>394|152=>224|260=>393|137=>89|119=>308|224=>309|225=>310|217=>177|266=>264|n=>n,fun|9=>9|4=>4|3=>3|5=>5|117=>242|116=>241|0=>0|124=>302|21=>21|105=>345|46=>253|119=>369|139=>372|138=>371|n=>n,fun|3=>10|4=>11|n=>n⟩
theorem Tryz.lays160:Go.Proofs.Lays.n160 Tryz.prog Tryz.lays160_ren:={
 mixed:=by kernel_rfl
 f119:=Tryz.func308.trans ksf
 f120:=Tryz.func394.trans ksf
 f137:=Tryz.func89.trans ksf
 f151:=Tryz.func360.trans ksf
 f152:=Tryz.func224.trans ksf
 f160:=Tryz.func216.trans ksf
 f197:=Tryz.func359.trans ksf
 f217:=Tryz.func177.trans ksf
 f224:=Tryz.func309.trans ksf
 f225:=Tryz.func310.trans ksf
 f227:=Tryz.func226.trans ksf
 f228:=Tryz.func227.trans ksf
 f231:=Tryz.func302.trans ksf
 f232:=Tryz.func303.trans ksf
 f233:=Tryz.func304.trans ksf
 f234:=Tryz.func305.trans ksf
 f235:=Tryz.func306.trans ksf
 f236:=Tryz.func307.trans ksf
 f260:=Tryz.func393.trans ksf
 f266:=Tryz.func264.trans ksf
 f271:=Tryz.func361.trans ksf
 t0:=Tryz.underlying0
 a0:=Tryz.isAgg0
 z0:=Tryz.sizeOf0
 v0:=Tryz.zeroValue0
 t3:=Tryz.underlying3
 a3:=Tryz.isAgg3
 z3:=Tryz.sizeOf3
 v3:=Tryz.zeroValue3
 t4:=Tryz.underlying4
 a4:=Tryz.isAgg4
 z4:=Tryz.sizeOf4
 v4:=Tryz.zeroValue4
 t5:=Tryz.underlying5
 a5:=Tryz.isAgg5
 z5:=Tryz.sizeOf5
 v5:=Tryz.zeroValue5
 t9:=Tryz.underlying9
 a9:=Tryz.isAgg9
 z9:=Tryz.sizeOf9
 v9:=Tryz.zeroValue9
 t21:=Tryz.underlying21
 a21:=Tryz.isAgg21
 z21:=Tryz.sizeOf21
 v21:=Tryz.zeroValue21
 t46:=Tryz.underlying253
 a46:=Tryz.isAgg253
 z46:=Tryz.sizeOf253
 v46:=Tryz.zeroValue253
 t105:=Tryz.underlying345
 a105:=Tryz.isAgg345
 z105:=Tryz.sizeOf345
 v105:=Tryz.zeroValue345
 t116:=Tryz.underlying241
 a116:=Tryz.isAgg241
 z116:=Tryz.sizeOf241
 t117:=Tryz.underlying242
 a117:=Tryz.isAgg242
 z117:=Tryz.sizeOf242
 v117:=Tryz.zeroValue242
 t119:=Tryz.underlying369
 a119:=Tryz.isAgg369
 z119:=Tryz.sizeOf369
 t124:=Tryz.underlying302
 a124:=Tryz.isAgg302
 z124:=Tryz.sizeOf302
 v124:=Tryz.zeroValue302
 t138:=Tryz.underlying371
 a138:=Tryz.isAgg371
 z138:=Tryz.sizeOf371
 v138:=Tryz.zeroValue371
 t139:=Tryz.underlying372
 a139:=Tryz.isAgg372
 z139:=Tryz.sizeOf372
 v139:=Tryz.zeroValue372
 g3:=by kernel_rfl
 g4:=by kernel_rfl}
def Tryz.lays137_ren:Go.Shelf.Ren:=⟨fun|137=>89|217=>177|266=>264|n=>n,fun|9=>9|5=>5|3=>3|n=>n,fun|n=>n⟩
theorem Tryz.lays137:Go.Proofs.Lays.n137 Tryz.prog Tryz.lays137_ren:={
 mixed:=by kernel_rfl
 f137:=Tryz.func89.trans ksf
 f217:=Tryz.func177.trans ksf
 f266:=Tryz.func264.trans ksf
 t3:=Tryz.underlying3
 a3:=Tryz.isAgg3
 z3:=Tryz.sizeOf3
 v3:=Tryz.zeroValue3
 t5:=Tryz.underlying5
 a5:=Tryz.isAgg5
 z5:=Tryz.sizeOf5
 v5:=Tryz.zeroValue5
 t9:=Tryz.underlying9
 a9:=Tryz.isAgg9
 z9:=Tryz.sizeOf9
 v9:=Tryz.zeroValue9}
open Go.RowKit in
theorem Tryz.strings_IndexByte (s : ByteArray) (c : Int) (w : World) :
    Calls Tryz.prog 89 #[.string s, .int .u8 c] w fun e w' => e = .returned (.int .i64 (Lib.indexByte s.data.toList c.toNat.toUInt8)) /\ w' = w := Any.strings_IndexByte Tryz.lays137 s c w
def Tryz.lays103_ren:Go.Shelf.Ren:=⟨fun|103=>356|210=>388|206=>340|n=>n,fun|9=>9|4=>4|24=>42|3=>3|n=>n,fun|n=>n⟩
theorem Tryz.lays103:Go.Proofs.Lays.n103 Tryz.prog Tryz.lays103_ren:={
 mixed:=by kernel_rfl
 f103:=Tryz.func356.trans ksf
 f206:=Tryz.func340.trans ksf
 f210:=Tryz.func388.trans ksf
 t3:=Tryz.underlying3
 a3:=Tryz.isAgg3
 z3:=Tryz.sizeOf3
 v3:=Tryz.zeroValue3
 t4:=Tryz.underlying4
 a4:=Tryz.isAgg4
 z4:=Tryz.sizeOf4
 v4:=Tryz.zeroValue4
 t9:=Tryz.underlying9
 a9:=Tryz.isAgg9
 z9:=Tryz.sizeOf9
 v9:=Tryz.zeroValue9
 t24:=Tryz.underlying42
 a24:=Tryz.isAgg42
 z24:=Tryz.sizeOf42
 v24:=Tryz.zeroValue42}
open Go.RowKit in
theorem Tryz.strings_CutPrefix (s p : ByteArray) (w : World) :
    Calls Tryz.prog 356 #[.string s, .string p] w fun e w' => e = .returned (.tuple #[.string ⟨(Lib.trimPrefix s.data.toList p.data.toList).toArray⟩, .bool (Lib.hasPrefix s.data.toList p.data.toList)]) /\ w' = w := Any.strings_CutPrefix Tryz.lays103 s p w
def Tryz.laysM171_ren:Go.Shelf.Ren:=⟨fun|171=>38|243=>112|246=>203|283=>284|284=>285|285=>286|286=>287|129=>351|317=>350|318=>352|319=>353|320=>354|337=>385|338=>386|n=>n,fun|3=>3|9=>9|2=>2|4=>4|171=>280|0=>0|53=>281|37=>23|5=>5|173=>284|212=>338|51=>327|20=>20|213=>339|46=>253|232=>272|233=>329|n=>n,fun|17=>5|18=>8|19=>9|n=>n⟩
theorem Tryz.laysM171:Go.Proofs.LaysM.n171 Tryz.prog Tryz.laysM171_ren:={
 mixed:=by kernel_rfl
 f129:=Tryz.func351.trans ksf
 f171:=Tryz.func38.trans ksf
 f243:=Tryz.func112.trans ksf
 f246:=Tryz.func203.trans ksf
 f283:=Tryz.func284.trans ksf
 f284:=Tryz.func285.trans ksf
 f285:=Tryz.func286.trans ksf
 f286:=Tryz.func287.trans ksf
 f317:=Tryz.func350.trans ksf
 f318:=Tryz.func352.trans ksf
 f319:=Tryz.func353.trans ksf
 f320:=Tryz.func354.trans ksf
 f337:=Tryz.func385.trans ksf
 f338:=Tryz.func386.trans ksf
 t0:=Tryz.underlying0
 a0:=Tryz.isAgg0
 z0:=Tryz.sizeOf0
 v0:=Tryz.zeroValue0
 t2:=Tryz.underlying2
 a2:=Tryz.isAgg2
 z2:=Tryz.sizeOf2
 v2:=Tryz.zeroValue2
 t3:=Tryz.underlying3
 a3:=Tryz.isAgg3
 z3:=Tryz.sizeOf3
 v3:=Tryz.zeroValue3
 t4:=Tryz.underlying4
 a4:=Tryz.isAgg4
 z4:=Tryz.sizeOf4
 v4:=Tryz.zeroValue4
 t5:=Tryz.underlying5
 a5:=Tryz.isAgg5
 z5:=Tryz.sizeOf5
 v5:=Tryz.zeroValue5
 t9:=Tryz.underlying9
 a9:=Tryz.isAgg9
 z9:=Tryz.sizeOf9
 v9:=Tryz.zeroValue9
 t20:=Tryz.underlying20
 a20:=Tryz.isAgg20
 z20:=Tryz.sizeOf20
 v20:=Tryz.zeroValue20
 t37:=Tryz.underlying23
 a37:=Tryz.isAgg23
 z37:=Tryz.sizeOf23
 v37:=Tryz.zeroValue23
 t46:=Tryz.underlying253
 a46:=Tryz.isAgg253
 z46:=Tryz.sizeOf253
 v46:=Tryz.zeroValue253
 t51:=Tryz.underlying327
 a51:=Tryz.isAgg327
 z51:=Tryz.sizeOf327
 v51:=Tryz.zeroValue327
 t53:=Tryz.underlying281
 a53:=Tryz.isAgg281
 z53:=Tryz.sizeOf281
 v53:=Tryz.zeroValue281
 t171:=Tryz.underlying280
 a171:=Tryz.isAgg280
 z171:=Tryz.sizeOf280
 v171:=Tryz.zeroValue280
 t173:=Tryz.underlying284
 a173:=Tryz.isAgg284
 z173:=Tryz.sizeOf284
 v173:=Tryz.zeroValue284
 t212:=Tryz.underlying338
 a212:=Tryz.isAgg338
 z212:=Tryz.sizeOf338
 v212:=Tryz.zeroValue338
 t213:=Tryz.underlying339
 a213:=Tryz.isAgg339
 z213:=Tryz.sizeOf339
 t232:=Tryz.underlying272
 a232:=Tryz.isAgg272
 z232:=Tryz.sizeOf272
 v232:=Tryz.zeroValue272
 t233:=Tryz.underlying329
 a233:=Tryz.isAgg329
 z233:=Tryz.sizeOf329
 v233:=Tryz.zeroValue329
 g17:=by kernel_rfl
 g18:=by kernel_rfl
 g19:=by kernel_rfl
 i0:=by kernel_rfl
 i2:=by kernel_rfl
 i3:=by kernel_rfl
 i4:=by kernel_rfl
 i5:=by kernel_rfl
 i9:=by kernel_rfl
 i20:=by kernel_rfl
 i37:=by kernel_rfl
 i46:=by kernel_rfl
 i51:=by kernel_rfl
 i53:=by kernel_rfl
 i171:=by kernel_rfl
 i173:=by kernel_rfl
 i212:=by kernel_rfl
 i232:=by kernel_rfl
 i233:=by kernel_rfl
 m17:=by kernel_rfl
 m18:=by kernel_rfl
 m19:=by kernel_rfl}
open Go.RowKit Go.Sort Go.Lib in
theorem Tryz.strconv_Itoa (n : Int) (h0 : -9223372036854775808 <= n) (h1 : n <= 9223372036854775807) (w : World) (htab : Lib.TabIs Tryz.prog w "internal/strconv.uint64pow10" .u64 Lib.pow10Tab) :
    Calls Tryz.prog 38 #[.int .i64 n] w fun e w' => e = .returned (.string ⟨(Lib.itoa n).toArray⟩) /\ ∃ k os, w' = grow (w.drewN k) os := Any.strconv_Itoa Tryz.laysM171 n h0 h1 w htab
def Tryz.lays143_ren:Go.Shelf.Ren:=⟨fun|143=>311|219=>362|217=>177|225=>310|224=>309|267=>395|266=>264|314=>408|n=>n,fun|9=>9|3=>3|4=>4|5=>5|46=>253|146=>373|51=>327|n=>n,fun|1=>0|n=>n⟩
theorem Tryz.lays143:Go.Proofs.Lays.n143 Tryz.prog Tryz.lays143_ren:={
 mixed:=by kernel_rfl
 f143:=Tryz.func311.trans ksf
 f217:=Tryz.func177.trans ksf
 f219:=Tryz.func362.trans ksf
 f224:=Tryz.func309.trans ksf
 f225:=Tryz.func310.trans ksf
 f266:=Tryz.func264.trans ksf
 f267:=Tryz.func395.trans ksf
 f314:=Tryz.func408.trans ksf
 t3:=Tryz.underlying3
 a3:=Tryz.isAgg3
 z3:=Tryz.sizeOf3
 v3:=Tryz.zeroValue3
 t4:=Tryz.underlying4
 a4:=Tryz.isAgg4
 z4:=Tryz.sizeOf4
 v4:=Tryz.zeroValue4
 t5:=Tryz.underlying5
 a5:=Tryz.isAgg5
 z5:=Tryz.sizeOf5
 v5:=Tryz.zeroValue5
 t9:=Tryz.underlying9
 a9:=Tryz.isAgg9
 z9:=Tryz.sizeOf9
 v9:=Tryz.zeroValue9
 t46:=Tryz.underlying253
 a46:=Tryz.isAgg253
 z46:=Tryz.sizeOf253
 v46:=Tryz.zeroValue253
 t51:=Tryz.underlying327
 a51:=Tryz.isAgg327
 z51:=Tryz.sizeOf327
 v51:=Tryz.zeroValue327
 t146:=Tryz.underlying373
 a146:=Tryz.isAgg373
 z146:=Tryz.sizeOf373
 v146:=Tryz.zeroValue373
 g1:=by kernel_rfl}
open Go.RowKit Go.Lib in
theorem Tryz.strings_Index (s sub : ByteArray) (m : Int) (w : World) (hs : s.size < 4294967281) (hm : w.cell? ⟨0, 0, none⟩ = some (.int .i64 m)) :
    Calls Tryz.prog 311 #[.string s, .string sub] w fun e w' => e = .returned (.int .i64 (Lib.index s.data.toList sub.data.toList)) /\ w' = w := Any.strings_Index Tryz.lays143 s sub m w hs hm
def Tryz.lays144_ren:Go.Shelf.Ren:=⟨fun|144=>228|143=>311|219=>362|217=>177|225=>310|224=>309|267=>395|266=>264|314=>408|n=>n,fun|9=>9|4=>4|3=>3|5=>5|46=>253|146=>373|51=>327|n=>n,fun|1=>0|n=>n⟩
theorem Tryz.lays144:Go.Proofs.Lays.n144 Tryz.prog Tryz.lays144_ren:={
 mixed:=by kernel_rfl
 f143:=Tryz.func311.trans ksf
 f144:=Tryz.func228.trans ksf
 f217:=Tryz.func177.trans ksf
 f219:=Tryz.func362.trans ksf
 f224:=Tryz.func309.trans ksf
 f225:=Tryz.func310.trans ksf
 f266:=Tryz.func264.trans ksf
 f267:=Tryz.func395.trans ksf
 f314:=Tryz.func408.trans ksf
 t3:=Tryz.underlying3
 a3:=Tryz.isAgg3
 z3:=Tryz.sizeOf3
 v3:=Tryz.zeroValue3
 t4:=Tryz.underlying4
 a4:=Tryz.isAgg4
 z4:=Tryz.sizeOf4
 v4:=Tryz.zeroValue4
 t5:=Tryz.underlying5
 a5:=Tryz.isAgg5
 z5:=Tryz.sizeOf5
 v5:=Tryz.zeroValue5
 t9:=Tryz.underlying9
 a9:=Tryz.isAgg9
 z9:=Tryz.sizeOf9
 v9:=Tryz.zeroValue9
 t46:=Tryz.underlying253
 a46:=Tryz.isAgg253
 z46:=Tryz.sizeOf253
 v46:=Tryz.zeroValue253
 t51:=Tryz.underlying327
 a51:=Tryz.isAgg327
 z51:=Tryz.sizeOf327
 v51:=Tryz.zeroValue327
 t146:=Tryz.underlying373
 a146:=Tryz.isAgg373
 z146:=Tryz.sizeOf373
 v146:=Tryz.zeroValue373
 g1:=by kernel_rfl}
open Go.RowKit Go.Lib in
theorem Tryz.strings_Contains (s sub : ByteArray) (m : Int) (w : World) (hs : s.size < 4294967281) (hm : w.cell? ⟨0, 0, none⟩ = some (.int .i64 m)) :
    Calls Tryz.prog 228 #[.string s, .string sub] w fun e w' => e = .returned (.bool (Lib.contains s.data.toList sub.data.toList)) /\ w' = w := Any.strings_Contains Tryz.lays144 s sub m w hs hm
def Tryz.lays145_ren:Go.Shelf.Ren:=⟨fun|145=>258|220=>335|219=>362|217=>177|225=>310|224=>309|267=>395|266=>264|314=>408|n=>n,fun|9=>9|4=>4|59=>186|3=>3|5=>5|46=>253|146=>373|51=>327|n=>n,fun|1=>0|n=>n⟩
theorem Tryz.lays145:Go.Proofs.Lays.n145 Tryz.prog Tryz.lays145_ren:={
 mixed:=by kernel_rfl
 f145:=Tryz.func258.trans ksf
 f217:=Tryz.func177.trans ksf
 f219:=Tryz.func362.trans ksf
 f220:=Tryz.func335.trans ksf
 f224:=Tryz.func309.trans ksf
 f225:=Tryz.func310.trans ksf
 f266:=Tryz.func264.trans ksf
 f267:=Tryz.func395.trans ksf
 f314:=Tryz.func408.trans ksf
 t3:=Tryz.underlying3
 a3:=Tryz.isAgg3
 z3:=Tryz.sizeOf3
 v3:=Tryz.zeroValue3
 t4:=Tryz.underlying4
 a4:=Tryz.isAgg4
 z4:=Tryz.sizeOf4
 v4:=Tryz.zeroValue4
 t5:=Tryz.underlying5
 a5:=Tryz.isAgg5
 z5:=Tryz.sizeOf5
 v5:=Tryz.zeroValue5
 t9:=Tryz.underlying9
 a9:=Tryz.isAgg9
 z9:=Tryz.sizeOf9
 v9:=Tryz.zeroValue9
 t46:=Tryz.underlying253
 a46:=Tryz.isAgg253
 z46:=Tryz.sizeOf253
 v46:=Tryz.zeroValue253
 t51:=Tryz.underlying327
 a51:=Tryz.isAgg327
 z51:=Tryz.sizeOf327
 v51:=Tryz.zeroValue327
 t59:=Tryz.underlying186
 a59:=Tryz.isAgg186
 z59:=Tryz.sizeOf186
 v59:=Tryz.zeroValue186
 t146:=Tryz.underlying373
 a146:=Tryz.isAgg373
 z146:=Tryz.sizeOf373
 v146:=Tryz.zeroValue373
 g1:=by kernel_rfl}
open Go.RowKit Go.Lib in
theorem Tryz.strings_Cut (s sep : ByteArray) (m : Int) (w : World) (hs : s.size < 4294967281) (hm : w.cell? ⟨0, 0, none⟩ = some (.int .i64 m)) :
    Calls Tryz.prog 258 #[.string s, .string sep] w fun e w' => e = .returned (.tuple #[.string ⟨(Lib.cut s.data.toList sep.data.toList).1.toArray⟩, .string ⟨(Lib.cut s.data.toList sep.data.toList).2.1.toArray⟩, .bool (Lib.cut s.data.toList sep.data.toList).2.2]) /\ ∃ n, w' = w.drewN n := Any.strings_Cut Tryz.lays145 s sep m w hs hm
def Tryz.lays149_ren:Go.Shelf.Ren:=⟨fun|149=>86|222=>171|n=>n,fun|9=>9|5=>5|3=>3|4=>4|n=>n,fun|n=>n⟩
theorem Tryz.lays149:Go.Proofs.Lays.n149 Tryz.prog Tryz.lays149_ren:={
 mixed:=by kernel_rfl
 f149:=Tryz.func86.trans ksf
 f222:=Tryz.func171.trans ksf
 t3:=Tryz.underlying3
 a3:=Tryz.isAgg3
 z3:=Tryz.sizeOf3
 v3:=Tryz.zeroValue3
 t4:=Tryz.underlying4
 a4:=Tryz.isAgg4
 z4:=Tryz.sizeOf4
 v4:=Tryz.zeroValue4
 t5:=Tryz.underlying5
 a5:=Tryz.isAgg5
 z5:=Tryz.sizeOf5
 v5:=Tryz.zeroValue5
 t9:=Tryz.underlying9
 a9:=Tryz.isAgg9
 z9:=Tryz.sizeOf9
 v9:=Tryz.zeroValue9}
open Go.RowKit Go.Lib in
theorem Tryz.strings_LastIndexByte (s : ByteArray) (c : Int) (hs : s.size < 4611686018427387904) (w : World) :
    Calls Tryz.prog 86 #[.string s, .int .u8 c] w fun e w' => e = .returned (.int .i64 (Lib.lastIndexByte s c)) /\ w' = w := Any.strings_LastIndexByte Tryz.lays149 s c hs w
def Tryz.lays101_ren:Go.Shelf.Ren:=⟨fun|101=>180|208=>269|206=>340|n=>n,fun|9=>9|4=>4|3=>3|n=>n,fun|n=>n⟩
theorem Tryz.lays101:Go.Proofs.Lays.n101 Tryz.prog Tryz.lays101_ren:={
 mixed:=by kernel_rfl
 f101:=Tryz.func180.trans ksf
 f206:=Tryz.func340.trans ksf
 f208:=Tryz.func269.trans ksf
 t3:=Tryz.underlying3
 a3:=Tryz.isAgg3
 z3:=Tryz.sizeOf3
 v3:=Tryz.zeroValue3
 t4:=Tryz.underlying4
 a4:=Tryz.isAgg4
 z4:=Tryz.sizeOf4
 v4:=Tryz.zeroValue4
 t9:=Tryz.underlying9
 a9:=Tryz.isAgg9
 z9:=Tryz.sizeOf9
 v9:=Tryz.zeroValue9}
open Go.RowKit Go.Lib in
theorem Tryz.strings_TrimPrefix (s p : ByteArray) (w : World) :
    Calls Tryz.prog 180 #[.string s, .string p] w fun e w' => e = .returned (.string ⟨(Lib.trimPrefix s.data.toList p.data.toList).toArray⟩) /\ w' = w := Any.strings_TrimPrefix Tryz.lays101 s p w
def Tryz.lays146_ren:Go.Shelf.Ren:=⟨fun|146=>260|221=>338|268=>380|138=>381|143=>311|195=>404|197=>359|218=>405|219=>362|260=>393|217=>177|225=>310|224=>309|267=>395|266=>264|314=>408|n=>n,fun|9=>9|31=>97|3=>3|4=>4|0=>0|105=>345|21=>21|5=>5|46=>253|119=>369|139=>372|138=>371|146=>373|51=>327|n=>n,fun|1=>0|3=>10|4=>11|n=>n⟩
theorem Tryz.lays146:Go.Proofs.Lays.n146 Tryz.prog Tryz.lays146_ren:={
 mixed:=by kernel_rfl
 f138:=Tryz.func381.trans ksf
 f143:=Tryz.func311.trans ksf
 f146:=Tryz.func260.trans ksf
 f195:=Tryz.func404.trans ksf
 f197:=Tryz.func359.trans ksf
 f217:=Tryz.func177.trans ksf
 f218:=Tryz.func405.trans ksf
 f219:=Tryz.func362.trans ksf
 f221:=Tryz.func338.trans ksf
 f224:=Tryz.func309.trans ksf
 f225:=Tryz.func310.trans ksf
 f260:=Tryz.func393.trans ksf
 f266:=Tryz.func264.trans ksf
 f267:=Tryz.func395.trans ksf
 f268:=Tryz.func380.trans ksf
 f314:=Tryz.func408.trans ksf
 t0:=Tryz.underlying0
 a0:=Tryz.isAgg0
 z0:=Tryz.sizeOf0
 v0:=Tryz.zeroValue0
 t3:=Tryz.underlying3
 a3:=Tryz.isAgg3
 z3:=Tryz.sizeOf3
 v3:=Tryz.zeroValue3
 t4:=Tryz.underlying4
 a4:=Tryz.isAgg4
 z4:=Tryz.sizeOf4
 v4:=Tryz.zeroValue4
 t5:=Tryz.underlying5
 a5:=Tryz.isAgg5
 z5:=Tryz.sizeOf5
 v5:=Tryz.zeroValue5
 t9:=Tryz.underlying9
 a9:=Tryz.isAgg9
 z9:=Tryz.sizeOf9
 v9:=Tryz.zeroValue9
 t21:=Tryz.underlying21
 a21:=Tryz.isAgg21
 z21:=Tryz.sizeOf21
 v21:=Tryz.zeroValue21
 t31:=Tryz.underlying97
 a31:=Tryz.isAgg97
 z31:=Tryz.sizeOf97
 v31:=Tryz.zeroValue97
 t46:=Tryz.underlying253
 a46:=Tryz.isAgg253
 z46:=Tryz.sizeOf253
 v46:=Tryz.zeroValue253
 t51:=Tryz.underlying327
 a51:=Tryz.isAgg327
 z51:=Tryz.sizeOf327
 v51:=Tryz.zeroValue327
 t105:=Tryz.underlying345
 a105:=Tryz.isAgg345
 z105:=Tryz.sizeOf345
 v105:=Tryz.zeroValue345
 t119:=Tryz.underlying369
 a119:=Tryz.isAgg369
 z119:=Tryz.sizeOf369
 t138:=Tryz.underlying371
 a138:=Tryz.isAgg371
 z138:=Tryz.sizeOf371
 v138:=Tryz.zeroValue371
 t139:=Tryz.underlying372
 a139:=Tryz.isAgg372
 z139:=Tryz.sizeOf372
 v139:=Tryz.zeroValue372
 t146:=Tryz.underlying373
 a146:=Tryz.isAgg373
 z146:=Tryz.sizeOf373
 v146:=Tryz.zeroValue373
 g1:=by kernel_rfl
 g3:=by kernel_rfl
 g4:=by kernel_rfl}
open Go.RowKit Go.Lib in
theorem Tryz.strings_Split (s sep : ByteArray) (m : Int) (w : World) (hs : s.size < 4294967281) (hm : w.cell? ⟨0, 0, none⟩ = some (.int .i64 m)) (h1 : 1 <= sep.size) :
    Calls Tryz.prog 260 #[.string s, .string sep] w fun e w' =>
      e = .returned (.slice (some ⟨w.heap.size, 0, none⟩) (Lib.countB s sep + 1) (Lib.countB s sep + 1)) /\ w' = w.alloc (.cells ((Lib.splitB sep 0 (Lib.countB s sep) s).map Value.string).toArray 9) := Any.strings_Split Tryz.lays146 krf s sep m w hs hm h1
def Tryz.lays153_ren:Go.Shelf.Ren:=⟨fun|153=>138|152=>224|226=>225|227=>226|228=>227|137=>89|119=>308|224=>309|225=>310|217=>177|266=>264|n=>n,fun|9=>9|3=>3|4=>4|5=>5|21=>21|117=>242|116=>241|0=>0|46=>253|124=>302|n=>n,fun|n=>n⟩
theorem Tryz.lays153:Go.Proofs.Lays.n153 Tryz.prog Tryz.lays153_ren:={
 mixed:=by kernel_rfl
 f119:=Tryz.func308.trans ksf
 f137:=Tryz.func89.trans ksf
 f152:=Tryz.func224.trans ksf
 f153:=Tryz.func138.trans ksf
 f217:=Tryz.func177.trans ksf
 f224:=Tryz.func309.trans ksf
 f225:=Tryz.func310.trans ksf
 f226:=Tryz.func225.trans ksf
 f227:=Tryz.func226.trans ksf
 f228:=Tryz.func227.trans ksf
 f266:=Tryz.func264.trans ksf
 t0:=Tryz.underlying0
 a0:=Tryz.isAgg0
 z0:=Tryz.sizeOf0
 v0:=Tryz.zeroValue0
 t3:=Tryz.underlying3
 a3:=Tryz.isAgg3
 z3:=Tryz.sizeOf3
 v3:=Tryz.zeroValue3
 t4:=Tryz.underlying4
 a4:=Tryz.isAgg4
 z4:=Tryz.sizeOf4
 v4:=Tryz.zeroValue4
 t5:=Tryz.underlying5
 a5:=Tryz.isAgg5
 z5:=Tryz.sizeOf5
 v5:=Tryz.zeroValue5
 t9:=Tryz.underlying9
 a9:=Tryz.isAgg9
 z9:=Tryz.sizeOf9
 v9:=Tryz.zeroValue9
 t21:=Tryz.underlying21
 a21:=Tryz.isAgg21
 z21:=Tryz.sizeOf21
 v21:=Tryz.zeroValue21
 t46:=Tryz.underlying253
 a46:=Tryz.isAgg253
 z46:=Tryz.sizeOf253
 v46:=Tryz.zeroValue253
 t116:=Tryz.underlying241
 a116:=Tryz.isAgg241
 z116:=Tryz.sizeOf241
 t117:=Tryz.underlying242
 a117:=Tryz.isAgg242
 z117:=Tryz.sizeOf242
 v117:=Tryz.zeroValue242
 t124:=Tryz.underlying302
 a124:=Tryz.isAgg302
 z124:=Tryz.sizeOf302
 v124:=Tryz.zeroValue302}
open Go.RowKit Go.Lib in
theorem Tryz.strings_IndexAny_none (s chars : ByteArray) (w : World) (h0 : chars.size = 0) :
    Calls Tryz.prog 138 #[.string s, .string chars] w fun e w' => e = .returned (.int .i64 (Lib.indexAny s.data.toList chars.data.toList)) /\ w' = w := Any.strings_IndexAny_none Tryz.lays153 s chars w h0
open Go.RowKit Go.Lib in
theorem Tryz.strings_IndexAny_one (s chars : ByteArray) (w : World) (h1 : chars.size = 1) (hascii : ∀ (j : Nat) b, chars.data.toList[j]? = some b -> b.toNat < 128) :
    Calls Tryz.prog 138 #[.string s, .string chars] w fun e w' => e = .returned (.int .i64 (Lib.indexAny s.data.toList chars.data.toList)) /\ w' = w := Any.strings_IndexAny_one Tryz.lays153 s chars w h1 hascii
open Go.RowKit Go.Lib in
theorem Tryz.strings_IndexAny_long (hv116 : ∀ w, (zeroValue 241).run Tryz.prog w = .ok (.agg (Array.replicate 256 (.bool false))) w) (s chars : ByteArray) (w : World) (h2 : 2 <= chars.size) (h8 : 8 < s.size) (hs : s.size < 4294967281) (hcs : chars.size < 4294967281) (hascii : ∀ (j : Nat) b, chars.data.toList[j]? = some b -> b.toNat < 128) :
    Calls Tryz.prog 138 #[.string s, .string chars] w fun e w' => e = .returned (.int .i64 (Lib.indexAny s.data.toList chars.data.toList)) /\ w' = ((w.alloc (.cells (Lib.setCells chars.data.toList) 241)).alloc (.cells (Lib.setCells chars.data.toList) 241)) := Any.strings_IndexAny_long Tryz.lays153 hv116 krf s chars w h2 h8 hs hcs hascii
open Go.RowKit Go.Lib in
theorem Tryz.strings_IndexAny_laid (s chars : ByteArray) (w : World) (hs : s.size < 4294967281) (hcs : chars.size < 4294967281) (has : ∀ (j : Nat) b, s.data.toList[j]? = some b -> b.toNat < 128) (hac : ∀ (j : Nat) b, chars.data.toList[j]? = some b -> b.toNat < 128) :
    Calls Tryz.prog 138 #[.string s, .string chars] w fun e w' => e = .returned (.int .i64 (Lib.indexAny s.data.toList chars.data.toList)) /\ Below w.heap.size w w' := Any.strings_IndexAny_laid Tryz.lays153 krf s chars w hs hcs has hac
end Go.Proofs
set_option maxRecDepth 20000
namespace Go.Proofs
open Go.Wk Go.Px
open Go.Value renaming slice -> Vs, int -> Vi, bool -> Vb, pointer -> Vp
open List renaming length_map -> zaf
open Nat renaming lt_of_lt_of_le -> zao, lt_succ_self -> zas
theorem sh_IndexByte(s:List UInt8)(c:UInt8)(w:World):CR Tryz.prog 89 [str s,bt c] w fun v w'=>v=.int .i64 (ixb (·==c) s)/\Hp w [] [] w':=by
 have h:=Tryz.strings_IndexByte ⟨s.toArray⟩ (c.toNat:Int) w;rw [show((c.toNat:Int).toNat.toUInt8)=c by simp]at h;rw [<-indexByte_ixb];exact abz h
theorem sh_LastIndexByte(s:List UInt8)(c:UInt8)(w:World)(hs:s.length<=1000000000):CR Tryz.prog 86 [str s,bt c] w fun v w'=>v=.int .i64 (lixb (·==c) s)/\Hp w [] [] w':=by
 have h:=Tryz.strings_LastIndexByte ⟨s.toArray⟩ (c.toNat:Int) (by show s.length<_;omega) w;rw [lastIndexByte_lixb]at h;exact abz h
theorem sh_Contains(s t:List UInt8)(w:World)(hs:s.length<=1000000000)(hG:Gl w):CR Tryz.prog 228 [str s,str t] w fun v w'=>v=.bool (Lib.contains s t)/\Hp w [] [] w':=by
 obtain⟨m,hm⟩:=hG.cell;exact abz (Tryz.strings_Contains ⟨s.toArray⟩ ⟨t.toArray⟩ m w (by show s.length<_;omega) hm)
theorem sh_Index(s t:List UInt8)(w:World)(hs:s.length<=1000000000)(hG:Gl w):CR Tryz.prog 311 [str s,str t] w fun v w'=>v=.int .i64 (Lib.index s t)/\Hp w [] [] w':=by
 obtain⟨m,hm⟩:=hG.cell;exact abz (Tryz.strings_Index ⟨s.toArray⟩ ⟨t.toArray⟩ m w (by show s.length<_;omega) hm)
theorem sh_Cut(s t:List UInt8)(w:World)(hs:s.length<=1000000000)(hG:Gl w):CR Tryz.prog 258 [str s,str t] w fun v w'=>v=.tuple #[str (Lib.cut s t).1,str (Lib.cut s t).2.1,.bool (Lib.cut s t).2.2]/\Hp w [] [] w':=by
 obtain⟨m,hm⟩:=hG.cell;exact cr_drew (Tryz.strings_Cut ⟨s.toArray⟩ ⟨t.toArray⟩ m w (by show s.length<_;omega) hm)
theorem sh_CutPrefix(s t:List UInt8)(w:World):CR Tryz.prog 356 [str s,str t] w fun v w'=>v=.tuple #[str (Lib.trimPrefix s t),.bool (Lib.hasPrefix s t)]/\Hp w [] [] w':=by
 exact abz (Tryz.strings_CutPrefix ⟨s.toArray⟩ ⟨t.toArray⟩ w)
theorem sh_TrimPrefix(s t:List UInt8)(w:World):CR Tryz.prog 180 [str s,str t] w fun v w'=>v=str (Lib.trimPrefix s t)/\Hp w [] [] w':=by
 exact abz (Tryz.strings_TrimPrefix ⟨s.toArray⟩ ⟨t.toArray⟩ w)
theorem sh_Trim(s t:List UInt8)(w:World)(hs:s.length<=1000000000)(ht:t.length<=1000/\t.all (fun b=>decide (b.toNat<128))=true):CR Tryz.prog 216 [str s,str t] w fun v w'=>v=str (Lib.trimS s t)/\Hp w [] [] w':=by
 exact cr_below (Any.strings_Trim_laid Tryz.lays160 krf ⟨s.toArray⟩ ⟨t.toArray⟩ w (by show s.length<=_;omega) (by show t.length<_;omega) (ascii_of_all ht.2))
theorem sh_TrimLeft(s t:List UInt8)(w:World)(hs:s.length<=1000000000)(ht:t.length<=1000/\t.all (fun b=>decide (b.toNat<128))=true):CR Tryz.prog 337 [str s,str t] w fun v w'=>v=str (Lib.trimLeftS s t)/\Hp w [] [] w':=by
 exact cr_below (Any.strings_TrimLeft_laid Tryz.lays161 krf ⟨s.toArray⟩ ⟨t.toArray⟩ w (by show t.length<_;omega) (ascii_of_all ht.2))
theorem sh_TrimRight(s t:List UInt8)(w:World)(hs:s.length<=1000000000)(ht:t.length<=1000/\t.all (fun b=>decide (b.toNat<128))=true):CR Tryz.prog 387 [str s,str t] w fun v w'=>v=str (Lib.trimRightS s t)/\Hp w [] [] w':=by
 exact cr_below (Any.strings_TrimRight_laid Tryz.lays162 krf ⟨s.toArray⟩ ⟨t.toArray⟩ w (by show s.length<=_;omega) (by show t.length<_;omega) (ascii_of_all ht.2))
theorem sh_Itoa(i:Int)(w:World)(hi:ok64 i)(hG:Gl w):CR Tryz.prog 38 [.int .i64 i] w fun v w'=>v=str (Lib.itoa i)/\Hp w [] [] w':=by
 obtain⟨t,f,e⟩:=hG.pow10;have hT : Lib.TabIs Tryz.prog w "internal/strconv.uint64pow10" .u64 Lib.pow10Tab := by
  unfold Lib.TabIs World.var?;rw [show Tryz.prog.globalNamed "internal/strconv.uint64pow10" = some 5 by kernel_rfl];simp [e]
 have h:=Tryz.strconv_Itoa i hi.1 hi.2 w hT;exact Calls.mono h fun _ _ ⟨e,k,os,hb⟩=>⟨_,e,rfl,hb▸hp_grow k os⟩
theorem sh_Split(s:List UInt8)(c:UInt8)(w:World)(hs:s.length<=1000000000)(hG:Gl w):CR Tryz.prog 260 [str s,str [c]] w fun v w'=>∃o a cap,v=.slice a (spl c s).length cap/\Hp w [] [rwt eS 9 1 o a cap (spl c s)] w':=by
 obtain⟨m,hm⟩:=hG.cell;have h:=Tryz.strings_Split ⟨s.toArray⟩ ⟨#[c]⟩ m w (by show s.length<_;omega) hm (by show 1<=1;omega);rw [split_spl,split_spl_len]at h;refine Calls.mono h ?_;rintro _ _ ⟨rfl,rfl⟩
 have h1:=(Hp.refl w).alloc ((spl c s).map str) 9
 have:=(spl_sum c s).1
 have e:(spl c s).flatMap eS=(spl c s).map str:=by
  generalize spl c s=l;induction l with
  |nil=>rfl
  |cons x l ih=>rw [List.flatMap_cons,ih];rfl
 exact⟨_,rfl,some w.heap.size,_,_,rfl,h1.blkrw 0 1 (spl c s).length (spl c s) rfl enc_S e rfl (by simp [maxLen];omega)⟩
theorem flatS(l:List (List UInt8)):l.flatMap eS=l.map str:=by
 induction l with
 |nil=>rfl
 |cons x l ih=>rw [List.flatMap_cons,ih];rfl
theorem sh_Join(t:List UInt8)(w:World)(a:Option Addr)(n cap:Nat)(xs:List (List UInt8))(hn:n=xs.length)(hRe:Rd w a (xs.flatMap eS))(hCa:n<=cap)(hN:xs.length<=1000000000/\(Lib.join xs t).length<=100000000000):CR Tryz.prog 210 [.slice a n cap,str t] w fun v w'=>v=str (Lib.join xs t)/\Hp w [] [] w':=by
 subst hn;rw [flatS]at hRe;cases xs with
 |nil=>exact abz (Tryz.strings_Join_none a cap ⟨t.toArray⟩ w)
 |cons x r=>
  obtain⟨p,rfl,hp⟩:=hRe 0 (str x) (by simp);have hbk:=cell_lt hp;rw [add_block]at hbk;have hsp:p.spot=none:=by
   have:=rd_spot hp
   simpa [Addr.add] using this
  obtain⟨bk,o,sp⟩:=p;simp only at hsp hbk;subst hsp;have e:((x::r).map fun l=>(⟨l.toArray⟩:ByteArray)).map (·.data.toList)=x::r:=by rw [List.map_map];exact List.map_id _
  have h:=Tryz.strings_Join bk o cap ((x::r).map fun l=>(⟨l.toArray⟩:ByteArray)) ⟨t.toArray⟩ w (fun j y hy=>by
   have:=row_strs ⟨bk,o,none⟩ (x::r) hRe j y hy
   cases j<;>simpa [Addr.add] using this) hbk (by rw [zaf];omega) (by rw [zaf];exact hCa) (by rw [e];show(Lib.join (x::r) t).length<=_;omega)
  rw [e,zaf]at h;exact cr_below h
theorem sh_IndexAny(s t:List UInt8)(w:World)(h:s.length<=1000000000/\t.length<=1000/\t.all (fun b=>decide (b.toNat<128))=true/\(8<s.length\/t.length<=1\/s.all (fun b=>decide (b.toNat<128))=true)):CR Tryz.prog 138 [str s,str t] w fun v w'=>v=.int .i64 (Lib.indexAny s t)/\Hp w [] [] w':=by
 obtain⟨h1,h2,h3,h4⟩:=h;by_cases h0:t.length=0
 ·exact abz (Tryz.strings_IndexAny_none ⟨s.toArray⟩ ⟨t.toArray⟩ w h0)
 by_cases h1':t.length=1
 ·exact abz (Tryz.strings_IndexAny_one ⟨s.toArray⟩ ⟨t.toArray⟩ w h1' (ascii_of_all h3))
 rcases h4 with h4|h4|h4
 ·have hz:∀w,(zeroValue 241).run Tryz.prog w=.ok (.agg (Array.replicate 256 (.bool false))) w:=(zero_of_info (n:=256) krf).1;have h:=Tryz.strings_IndexAny_long hz ⟨s.toArray⟩ ⟨t.toArray⟩ w (by show 2<=t.length;omega) (by show 8<s.length;omega) (by show s.length<_;omega) (by show t.length<_;omega) (ascii_of_all h3);refine Calls.mono h ?_;rintro _ _ ⟨rfl,rfl⟩
  exact⟨_,rfl,rfl,Hp.ofBelow ⟨rfl,rfl,rfl,by simp;omega,fun k hk=>by rw [RowKit.Below.heap_alloc _ _ k (by simp;omega),RowKit.Below.heap_alloc _ _ k hk]⟩⟩
 ·omega
 ·exact cr_below (Tryz.strings_IndexAny_laid ⟨s.toArray⟩ ⟨t.toArray⟩ w (by show s.length<_;omega) (by show t.length<_;omega) (ascii_of_all h4) (ascii_of_all h3))
theorem sh_copyCheck(b:Nat)(z:Bool)(s:Value)(w:World)(hM:Hp w (owns [blk b [Vp (bif z then some ⟨b,0,none⟩else none),s] 212]) [blk b [Vp (bif z then some ⟨b,0,none⟩else none),s] 212] w):CR Tryz.prog 272 [Vp (some ⟨b,0,none⟩)] w fun v w'=>v=.tuple #[]/\Hp w (owns [blk b [Vp (bif z then some ⟨b,0,none⟩else none),s] 212]) [blk b [Vp (some ⟨b,0,none⟩),s] 212] w':=by
 cases z with
 |false=>
  have hH:Hp w (owns [blk b [(Vp none),s] 212]) [blk b [(Vp none),s] 212] w:=hM;refine enter (k:=20) Tryz.func272 rfl rfl (Nat.le_of_ble_eq_true rfl) ?_;refine c_seq ?_;refine c_region ?_;refine w_move (Vp (some ⟨b,0,none⟩)) krf ?_;refine abt (v:=(Vp (some ⟨b,0,none⟩))) (w':=w) rfl rfl krf ?_;refine abt (v:=(Vp (some ⟨b,0,none⟩))) (w':=w) rfl rfl krf ?_;refine w_ld1 hH 0 b 0 [(Vp none),s] 212 (Vp none) rfl rfl krf krf ?_;refine w_pnil none Tryz.underlying210 krf krf ?_;refine w_nil ?_;refine q_next ?_;refine c_true krf ?_;refine c_region ?_;refine w_move (Vp (some ⟨b,0,none⟩)) krf ?_;refine w_move (Vp (some ⟨b,0,none⟩)) krf ?_;refine w_toUns hH 0 b 0 212 [(Vp none),s] rfl Tryz.underlying210 Tryz.underlying324 krf (by simp) krf ?_;refine w_noEsc hH 343 (Vp (some ⟨b,0,none⟩)) krf krf Tryz.func343 krf krf krf krf ?_;intro w1 a0;refine w_ofUns a0 0 b 0 212 [(Vp none),s] rfl Tryz.underlying324 Tryz.underlying210 krf krf krf ?_;refine abt (v:=(Vp (some ⟨b,0,none⟩))) (w':=w1) rfl rfl krf ?_;refine abt (v:=(Vp (some ⟨b,0,none⟩))) (w':=w1) rfl rfl krf ?_;refine w_st1 a0 0 b 0 [(Vp none),s] 212 (Vp (some ⟨b,0,none⟩)) [blk b [(Vp (some ⟨b,0,none⟩)),s] 212] rfl (zao (zas _) (Nat.le_of_ble_eq_true rfl)) krf krf rfl krf rfl ?_;intro w3 a1;refine w_nil ?_;refine r_none' rfl ?_;exact⟨rfl,a1.kp⟩
 |true=>
  have hH:Hp w (owns [blk b [(Vp (some ⟨b,0,none⟩)),s] 212]) [blk b [(Vp (some ⟨b,0,none⟩)),s] 212] w:=hM;refine enter (k:=20) Tryz.func272 rfl rfl (Nat.le_of_ble_eq_true rfl) ?_;refine c_seq ?_;refine c_region ?_;refine w_move (Vp (some ⟨b,0,none⟩)) krf ?_;refine abt (v:=(Vp (some ⟨b,0,none⟩))) (w':=w) rfl rfl krf ?_;refine abt (v:=(Vp (some ⟨b,0,none⟩))) (w':=w) rfl rfl krf ?_;refine w_ld1 hH 0 b 0 [(Vp (some ⟨b,0,none⟩)),s] 212 (Vp (some ⟨b,0,none⟩)) rfl rfl krf krf ?_;refine w_pnil (some ⟨b,0,none⟩) Tryz.underlying210 krf krf ?_;refine w_nil ?_;refine q_next ?_;refine c_false krf ?_;refine c_seq ?_;refine c_region ?_;refine w_move (Vp (some ⟨b,0,none⟩)) krf ?_;refine abt (v:=(Vp (some ⟨b,0,none⟩))) (w':=w) rfl rfl krf ?_;refine abt (v:=(Vp (some ⟨b,0,none⟩))) (w':=w) rfl rfl krf ?_;refine w_ld1 hH 0 b 0 [(Vp (some ⟨b,0,none⟩)),s] 212 (Vp (some ⟨b,0,none⟩)) rfl rfl krf krf ?_;refine w_move (Vp (some ⟨b,0,none⟩)) krf ?_;refine w_pself ⟨b,0,none⟩ Tryz.underlying210 krf krf krf ?_;refine w_nil ?_;refine q_next ?_;refine c_false krf ?_;refine c_skip ?_;refine r_none' rfl ?_;exact⟨rfl,hH.kp⟩
open Go.Wk Go.Px Go.Ce
theorem beqn(c:UInt8):(fun d:UInt8=>Nat.beq d.toNat c.toNat)=(·==c):=by
 funext d
 rw [Bool.eq_iff_iff];simp [Nat.beq_eq,UInt8.toNat_inj]
def cg1:List SC:=[.s 7 19220757857722691,.s 4 1902465859,.s 12 34178039824424540632871946573,.s 6 76223546812749,.s 4 1801666898,.s 4 1902465874,.s 16 134856309279822869049672161412773271383]
def cg4:List SC:=[.s 8 3404504904086797606,.s 7 10180542346517851,.s 7 10180628329749851]
def cg6:List SC:=[.s 4 1836020294,.i .i64 1,.s 2 28500,.i .i64 1,.s 7 32760367514808131,.i .i64 1,.s 5 435745550162,.i .i64 1,.s 12 31398775957419736383438939474,.i .i64 1,.s 4 1752457552,.i .i64 1,.s 13 8038086645099452779117220619603,.i .i64 1,.s 8 8022086805604427090,.i .i64 1,.s 11 146592537699037055746991442,.i .i64 1,.s 8 8022086835787294034,.i .i64 1,.s 3 6383958,.i .i64 2,.s 4 1902465859,.i .i64 3,.s 4 1801666898,.i .i64 4,.s 14 2118593076047644386086300223958851,.i .i64 5,.s 7 32481164391381061,.i .i64 5,.s 12 35712208859136432295261004109,.i .i64 5,.s 11 139505538796981402030991693,.i .i64 5,.s 4 1902465874,.i .i64 5,.s 19 2462787319963300618914069775828421739474218819,.i .i64 6,.s 12 31393958642898984038472511299,.i .i64 6,.s 5 500068349509,.i .i64 6,.s 6 76223546812749,.i .i64 6,.s 15 599171726743894305243344019148465491,.i .i64 6,.s 18 8837943172779679942406515151746074144830803,.i .i64 6,.s 6 128026086171457,.i .i64 7,.s 5 512970484801,.i .i64 7,.s 12 35731532856486514854116224065,.i .i64 7,.s 13 8037453196880052494869233365584,.i .i64 7,.s 7 28554769915274578,.i .i64 7,.s 9 1851985001289037673811,.i .i64 7,.s 11 121371689044478372993003093,.i .i64 7]
def cg7:List SC:=[.i .u32 1116352408,.i .u32 1899447441,.i .u32 3049323471,.i .u32 3921009573,.i .u32 961987163,.i .u32 1508970993,.i .u32 2453635748,.i .u32 2870763221,.i .u32 3624381080,.i .u32 310598401,.i .u32 607225278,.i .u32 1426881987,.i .u32 1925078388,.i .u32 2162078206,.i .u32 2614888103,.i .u32 3248222580,.i .u32 3835390401,.i .u32 4022224774,.i .u32 264347078,.i .u32 604807628,.i .u32 770255983,.i .u32 1249150122,.i .u32 1555081692,.i .u32 1996064986,.i .u32 2554220882,.i .u32 2821834349,.i .u32 2952996808,.i .u32 3210313671,.i .u32 3336571891,.i .u32 3584528711,.i .u32 113926993,.i .u32 338241895,.i .u32 666307205,.i .u32 773529912,.i .u32 1294757372,.i .u32 1396182291,.i .u32 1695183700,.i .u32 1986661051,.i .u32 2177026350,.i .u32 2456956037,.i .u32 2730485921,.i .u32 2820302411,.i .u32 3259730800,.i .u32 3345764771,.i .u32 3516065817,.i .u32 3600352804,.i .u32 4094571909,.i .u32 275423344,.i .u32 430227734,.i .u32 506948616,.i .u32 659060556,.i .u32 883997877,.i .u32 958139571,.i .u32 1322822218,.i .u32 1537002063,.i .u32 1747873779,.i .u32 1955562222,.i .u32 2024104815,.i .u32 2227730452,.i .u32 2361852424,.i .u32 2428436474,.i .u32 2756734187,.i .u32 3204031479,.i .u32 3329325298]
noncomputable def cxG(k:Nat):Option (List SC):=bi (Nat.beq k (nat_lit 1)) (some cg1) (bi (Nat.beq k (nat_lit 4)) (some cg4) (bi (Nat.beq k (nat_lit 6)) (some cg6) (bi (Nat.beq k (nat_lit 7)) (some cg7) (none))))
noncomputable def cx38:List SV->Hs->Option (SV×Hs):=xi fun a=>cv (str (Lib.itoa a))
noncomputable def cx86:List SV->Hs->Option (SV×Hs):=xsb fun a b=>bi (Nat.ble (abd a) (nat_lit 1000000000)) (cv (.int .i64 (lixb (fun d=>Nat.beq d.toNat b.toNat) a))) none
noncomputable def cx89:List SV->Hs->Option (SV×Hs):=xsb fun a b=>cv (.int .i64 (ixb (fun d=>Nat.beq d.toNat b.toNat) a))
noncomputable def cx138:List SV->Hs->Option (SV×Hs):=xs2 fun a b=>bi (Nat.ble (abd a) (nat_lit 1000000000)) (bi (Nat.ble (abd b) (nat_lit 1000)) (bi (b.all (fun b=>decide (b.toNat<128))) (bi (or (Nat.ble (nat_lit 9) (abd a)) (or (Nat.ble (abd b) (nat_lit 1)) (a.all (fun b=>decide (b.toNat<128))))) (cv (.int .i64 (Lib.indexAny a b))) none) none) none) none
noncomputable def cx180:List SV->Hs->Option (SV×Hs):=xs2 fun a b=>cv (str (Lib.trimPrefix a b))
noncomputable def cx210:List SV->Hs->Option (SV×Hs):=xjoin
noncomputable def cx216:List SV->Hs->Option (SV×Hs):=xs2 fun a b=>bi (Nat.ble (abd a) (nat_lit 1000000000)) (bi (Nat.ble (abd b) (nat_lit 1000)) (bi (b.all (fun b=>decide (b.toNat<128))) (cv (str (Lib.trimS a b))) none) none) none
noncomputable def cx228:List SV->Hs->Option (SV×Hs):=xs2 fun a b=>bi (Nat.ble (abd a) (nat_lit 1000000000)) (cv (.bool (Lib.contains a b))) none
noncomputable def cx258:List SV->Hs->Option (SV×Hs):=xs2 fun a b=>bi (Nat.ble (abd a) (nat_lit 1000000000)) (cvT [str (Lib.cut a b).1,str (Lib.cut a b).2.1,.bool (Lib.cut a b).2.2]) none
noncomputable def cx260:List SV->Hs->Option (SV×Hs):=xsplit 9
noncomputable def cx272:List SV->Hs->Option (SV×Hs):=xcc 212
noncomputable def cx311:List SV->Hs->Option (SV×Hs):=xs2 fun a b=>bi (Nat.ble (abd a) (nat_lit 1000000000)) (cv (.int .i64 (Lib.index a b))) none
noncomputable def cx337:List SV->Hs->Option (SV×Hs):=xs2 fun a b=>bi (Nat.ble (abd a) (nat_lit 1000000000)) (bi (Nat.ble (abd b) (nat_lit 1000)) (bi (b.all (fun b=>decide (b.toNat<128))) (cv (str (Lib.trimLeftS a b))) none) none) none
noncomputable def cx356:List SV->Hs->Option (SV×Hs):=xs2 fun a b=>cvT [str (Lib.trimPrefix a b),.bool (Lib.hasPrefix a b)]
noncomputable def cx387:List SV->Hs->Option (SV×Hs):=xs2 fun a b=>bi (Nat.ble (abd a) (nat_lit 1000000000)) (bi (Nat.ble (abd b) (nat_lit 1000)) (bi (b.all (fun b=>decide (b.toNat<128))) (cv (str (Lib.trimRightS a b))) none) none) none
noncomputable def cxX(k:Nat):Option (List SV->Hs->Option (SV×Hs)):=bi (Nat.blt k (nat_lit 228)) (bi (Nat.blt k (nat_lit 138)) (bi (Nat.blt k (nat_lit 86)) (bi (Nat.beq k (nat_lit 38)) (some cx38) (none)) (bi (Nat.blt k (nat_lit 89)) (bi (Nat.beq k (nat_lit 86)) (some cx86) (none)) (bi (Nat.beq k (nat_lit 89)) (some cx89) (none)))) (bi (Nat.blt k (nat_lit 210)) (bi (Nat.blt k (nat_lit 180)) (bi (Nat.beq k (nat_lit 138)) (some cx138) (none)) (bi (Nat.beq k (nat_lit 180)) (some cx180) (none))) (bi (Nat.blt k (nat_lit 216)) (bi (Nat.beq k (nat_lit 210)) (some cx210) (none)) (bi (Nat.beq k (nat_lit 216)) (some cx216) (none))))) (bi (Nat.blt k (nat_lit 311)) (bi (Nat.blt k (nat_lit 260)) (bi (Nat.blt k (nat_lit 258)) (bi (Nat.beq k (nat_lit 228)) (some cx228) (none)) (bi (Nat.beq k (nat_lit 258)) (some cx258) (none))) (bi (Nat.blt k (nat_lit 272)) (bi (Nat.beq k (nat_lit 260)) (some cx260) (none)) (bi (Nat.beq k (nat_lit 272)) (some cx272) (none)))) (bi (Nat.blt k (nat_lit 356)) (bi (Nat.blt k (nat_lit 337)) (bi (Nat.beq k (nat_lit 311)) (some cx311) (none)) (bi (Nat.beq k (nat_lit 337)) (some cx337) (none))) (bi (Nat.blt k (nat_lit 387)) (bi (Nat.beq k (nat_lit 356)) (some cx356) (none)) (bi (Nat.beq k (nat_lit 387)) (some cx387) (none)))))
noncomputable def cxP(k:Nat):Bool:=bi (Nat.blt k (nat_lit 269)) (bi (Nat.blt k (nat_lit 154)) (bi (Nat.blt k (nat_lit 88)) (bi (Nat.blt k (nat_lit 45)) (bi (Nat.blt k (nat_lit 15)) (bi (Nat.blt k (nat_lit 3)) (bi (Nat.blt k (nat_lit 1)) (bi (Nat.beq k (nat_lit 0)) (true) (false)) (bi (Nat.blt k (nat_lit 2)) (bi (Nat.beq k (nat_lit 1)) (true) (false)) (bi (Nat.beq k (nat_lit 2)) (true) (false)))) (bi (Nat.blt k (nat_lit 10)) (bi (Nat.beq k (nat_lit 3)) (true) (false)) (bi (Nat.blt k (nat_lit 11)) (bi (Nat.beq k (nat_lit 10)) (true) (false)) (bi (Nat.beq k (nat_lit 11)) (true) (false))))) (bi (Nat.blt k (nat_lit 28)) (bi (Nat.blt k (nat_lit 24)) (bi (Nat.beq k (nat_lit 15)) (true) (false)) (bi (Nat.blt k (nat_lit 26)) (bi (Nat.beq k (nat_lit 24)) (true) (false)) (bi (Nat.beq k (nat_lit 26)) (true) (false)))) (bi (Nat.blt k (nat_lit 38)) (bi (Nat.blt k (nat_lit 31)) (bi (Nat.beq k (nat_lit 28)) (true) (false)) (bi (Nat.beq k (nat_lit 31)) (true) (false))) (bi (Nat.blt k (nat_lit 42)) (bi (Nat.beq k (nat_lit 38)) (true) (false)) (bi (Nat.beq k (nat_lit 42)) (true) (false)))))) (bi (Nat.blt k (nat_lit 67)) (bi (Nat.blt k (nat_lit 54)) (bi (Nat.blt k (nat_lit 46)) (bi (Nat.beq k (nat_lit 45)) (true) (false)) (bi (Nat.blt k (nat_lit 53)) (bi (Nat.beq k (nat_lit 46)) (true) (false)) (bi (Nat.beq k (nat_lit 53)) (true) (false)))) (bi (Nat.blt k (nat_lit 60)) (bi (Nat.beq k (nat_lit 54)) (true) (false)) (bi (Nat.blt k (nat_lit 66)) (bi (Nat.beq k (nat_lit 60)) (true) (false)) (bi (Nat.beq k (nat_lit 66)) (true) (false))))) (bi (Nat.blt k (nat_lit 78)) (bi (Nat.blt k (nat_lit 69)) (bi (Nat.beq k (nat_lit 67)) (true) (false)) (bi (Nat.blt k (nat_lit 75)) (bi (Nat.beq k (nat_lit 69)) (true) (false)) (bi (Nat.beq k (nat_lit 75)) (true) (false)))) (bi (Nat.blt k (nat_lit 81)) (bi (Nat.blt k (nat_lit 79)) (bi (Nat.beq k (nat_lit 78)) (true) (false)) (bi (Nat.beq k (nat_lit 79)) (true) (false))) (bi (Nat.blt k (nat_lit 86)) (bi (Nat.beq k (nat_lit 81)) (true) (false)) (bi (Nat.beq k (nat_lit 86)) (true) (false))))))) (bi (Nat.blt k (nat_lit 123)) (bi (Nat.blt k (nat_lit 101)) (bi (Nat.blt k (nat_lit 95)) (bi (Nat.blt k (nat_lit 89)) (bi (Nat.beq k (nat_lit 88)) (true) (false)) (bi (Nat.blt k (nat_lit 90)) (bi (Nat.beq k (nat_lit 89)) (true) (false)) (bi (Nat.beq k (nat_lit 90)) (true) (false)))) (bi (Nat.blt k (nat_lit 98)) (bi (Nat.beq k (nat_lit 95)) (true) (false)) (bi (Nat.blt k (nat_lit 100)) (bi (Nat.beq k (nat_lit 98)) (true) (false)) (bi (Nat.beq k (nat_lit 100)) (true) (false))))) (bi (Nat.blt k (nat_lit 111)) (bi (Nat.blt k (nat_lit 102)) (bi (Nat.beq k (nat_lit 101)) (true) (false)) (bi (Nat.blt k (nat_lit 106)) (bi (Nat.beq k (nat_lit 102)) (true) (false)) (bi (Nat.beq k (nat_lit 106)) (true) (false)))) (bi (Nat.blt k (nat_lit 115)) (bi (Nat.blt k (nat_lit 112)) (bi (Nat.beq k (nat_lit 111)) (true) (false)) (bi (Nat.beq k (nat_lit 112)) (true) (false))) (bi (Nat.blt k (nat_lit 122)) (bi (Nat.beq k (nat_lit 115)) (true) (false)) (bi (Nat.beq k (nat_lit 122)) (true) (false)))))) (bi (Nat.blt k (nat_lit 137)) (bi (Nat.blt k (nat_lit 126)) (bi (Nat.blt k (nat_lit 124)) (bi (Nat.beq k (nat_lit 123)) (true) (false)) (bi (Nat.blt k (nat_lit 125)) (bi (Nat.beq k (nat_lit 124)) (true) (false)) (bi (Nat.beq k (nat_lit 125)) (true) (false)))) (bi (Nat.blt k (nat_lit 135)) (bi (Nat.blt k (nat_lit 128)) (bi (Nat.beq k (nat_lit 126)) (true) (false)) (bi (Nat.beq k (nat_lit 128)) (true) (false))) (bi (Nat.blt k (nat_lit 136)) (bi (Nat.beq k (nat_lit 135)) (true) (false)) (bi (Nat.beq k (nat_lit 136)) (true) (false))))) (bi (Nat.blt k (nat_lit 140)) (bi (Nat.blt k (nat_lit 138)) (bi (Nat.beq k (nat_lit 137)) (true) (false)) (bi (Nat.blt k (nat_lit 139)) (bi (Nat.beq k (nat_lit 138)) (true) (false)) (bi (Nat.beq k (nat_lit 139)) (true) (false)))) (bi (Nat.blt k (nat_lit 149)) (bi (Nat.blt k (nat_lit 142)) (bi (Nat.beq k (nat_lit 140)) (true) (false)) (bi (Nat.beq k (nat_lit 142)) (true) (false))) (bi (Nat.blt k (nat_lit 150)) (bi (Nat.beq k (nat_lit 149)) (true) (false)) (bi (Nat.beq k (nat_lit 150)) (true) (false)))))))) (bi (Nat.blt k (nat_lit 222)) (bi (Nat.blt k (nat_lit 184)) (bi (Nat.blt k (nat_lit 171)) (bi (Nat.blt k (nat_lit 163)) (bi (Nat.blt k (nat_lit 158)) (bi (Nat.beq k (nat_lit 154)) (true) (false)) (bi (Nat.blt k (nat_lit 162)) (bi (Nat.beq k (nat_lit 158)) (true) (false)) (bi (Nat.beq k (nat_lit 162)) (true) (false)))) (bi (Nat.blt k (nat_lit 167)) (bi (Nat.beq k (nat_lit 163)) (true) (false)) (bi (Nat.blt k (nat_lit 170)) (bi (Nat.beq k (nat_lit 167)) (true) (false)) (bi (Nat.beq k (nat_lit 170)) (true) (false))))) (bi (Nat.blt k (nat_lit 176)) (bi (Nat.blt k (nat_lit 174)) (bi (Nat.beq k (nat_lit 171)) (true) (false)) (bi (Nat.blt k (nat_lit 175)) (bi (Nat.beq k (nat_lit 174)) (true) (false)) (bi (Nat.beq k (nat_lit 175)) (true) (false)))) (bi (Nat.blt k (nat_lit 179)) (bi (Nat.blt k (nat_lit 177)) (bi (Nat.beq k (nat_lit 176)) (true) (false)) (bi (Nat.beq k (nat_lit 177)) (true) (false))) (bi (Nat.blt k (nat_lit 180)) (bi (Nat.beq k (nat_lit 179)) (true) (false)) (bi (Nat.beq k (nat_lit 180)) (true) (false)))))) (bi (Nat.blt k (nat_lit 198)) (bi (Nat.blt k (nat_lit 192)) (bi (Nat.blt k (nat_lit 185)) (bi (Nat.beq k (nat_lit 184)) (true) (false)) (bi (Nat.blt k (nat_lit 190)) (bi (Nat.beq k (nat_lit 185)) (true) (false)) (bi (Nat.beq k (nat_lit 190)) (true) (false)))) (bi (Nat.blt k (nat_lit 194)) (bi (Nat.beq k (nat_lit 192)) (true) (false)) (bi (Nat.blt k (nat_lit 197)) (bi (Nat.beq k (nat_lit 194)) (true) (false)) (bi (Nat.beq k (nat_lit 197)) (true) (false))))) (bi (Nat.blt k (nat_lit 209)) (bi (Nat.blt k (nat_lit 203)) (bi (Nat.beq k (nat_lit 198)) (true) (false)) (bi (Nat.blt k (nat_lit 205)) (bi (Nat.beq k (nat_lit 203)) (true) (false)) (bi (Nat.beq k (nat_lit 205)) (true) (false)))) (bi (Nat.blt k (nat_lit 219)) (bi (Nat.blt k (nat_lit 216)) (bi (Nat.beq k (nat_lit 209)) (true) (false)) (bi (Nat.beq k (nat_lit 216)) (true) (false))) (bi (Nat.blt k (nat_lit 220)) (bi (Nat.beq k (nat_lit 219)) (true) (false)) (bi (Nat.beq k (nat_lit 220)) (true) (false))))))) (bi (Nat.blt k (nat_lit 245)) (bi (Nat.blt k (nat_lit 233)) (bi (Nat.blt k (nat_lit 225)) (bi (Nat.blt k (nat_lit 223)) (bi (Nat.beq k (nat_lit 222)) (true) (false)) (bi (Nat.blt k (nat_lit 224)) (bi (Nat.beq k (nat_lit 223)) (true) (false)) (bi (Nat.beq k (nat_lit 224)) (true) (false)))) (bi (Nat.blt k (nat_lit 226)) (bi (Nat.beq k (nat_lit 225)) (true) (false)) (bi (Nat.blt k (nat_lit 228)) (bi (Nat.beq k (nat_lit 226)) (true) (false)) (bi (Nat.beq k (nat_lit 228)) (true) (false))))) (bi (Nat.blt k (nat_lit 236)) (bi (Nat.blt k (nat_lit 234)) (bi (Nat.beq k (nat_lit 233)) (true) (false)) (bi (Nat.blt k (nat_lit 235)) (bi (Nat.beq k (nat_lit 234)) (true) (false)) (bi (Nat.beq k (nat_lit 235)) (true) (false)))) (bi (Nat.blt k (nat_lit 238)) (bi (Nat.blt k (nat_lit 237)) (bi (Nat.beq k (nat_lit 236)) (true) (false)) (bi (Nat.beq k (nat_lit 237)) (true) (false))) (bi (Nat.blt k (nat_lit 239)) (bi (Nat.beq k (nat_lit 238)) (true) (false)) (bi (Nat.beq k (nat_lit 239)) (true) (false)))))) (bi (Nat.blt k (nat_lit 261)) (bi (Nat.blt k (nat_lit 248)) (bi (Nat.blt k (nat_lit 246)) (bi (Nat.beq k (nat_lit 245)) (true) (false)) (bi (Nat.blt k (nat_lit 247)) (bi (Nat.beq k (nat_lit 246)) (true) (false)) (bi (Nat.beq k (nat_lit 247)) (true) (false)))) (bi (Nat.blt k (nat_lit 251)) (bi (Nat.blt k (nat_lit 250)) (bi (Nat.beq k (nat_lit 248)) (true) (false)) (bi (Nat.beq k (nat_lit 250)) (true) (false))) (bi (Nat.blt k (nat_lit 258)) (bi (Nat.beq k (nat_lit 251)) (true) (false)) (bi (Nat.beq k (nat_lit 258)) (true) (false))))) (bi (Nat.blt k (nat_lit 265)) (bi (Nat.blt k (nat_lit 263)) (bi (Nat.beq k (nat_lit 261)) (true) (false)) (bi (Nat.blt k (nat_lit 264)) (bi (Nat.beq k (nat_lit 263)) (true) (false)) (bi (Nat.beq k (nat_lit 264)) (true) (false)))) (bi (Nat.blt k (nat_lit 267)) (bi (Nat.blt k (nat_lit 266)) (bi (Nat.beq k (nat_lit 265)) (true) (false)) (bi (Nat.beq k (nat_lit 266)) (true) (false))) (bi (Nat.blt k (nat_lit 268)) (bi (Nat.beq k (nat_lit 267)) (true) (false)) (bi (Nat.beq k (nat_lit 268)) (true) (false))))))))) (bi (Nat.blt k (nat_lit 368)) (bi (Nat.blt k (nat_lit 323)) (bi (Nat.blt k (nat_lit 303)) (bi (Nat.blt k (nat_lit 285)) (bi (Nat.blt k (nat_lit 280)) (bi (Nat.blt k (nat_lit 271)) (bi (Nat.beq k (nat_lit 269)) (true) (false)) (bi (Nat.blt k (nat_lit 277)) (bi (Nat.beq k (nat_lit 271)) (true) (false)) (bi (Nat.beq k (nat_lit 277)) (true) (false)))) (bi (Nat.blt k (nat_lit 281)) (bi (Nat.beq k (nat_lit 280)) (true) (false)) (bi (Nat.blt k (nat_lit 284)) (bi (Nat.beq k (nat_lit 281)) (true) (false)) (bi (Nat.beq k (nat_lit 284)) (true) (false))))) (bi (Nat.blt k (nat_lit 294)) (bi (Nat.blt k (nat_lit 288)) (bi (Nat.beq k (nat_lit 285)) (true) (false)) (bi (Nat.blt k (nat_lit 293)) (bi (Nat.beq k (nat_lit 288)) (true) (false)) (bi (Nat.beq k (nat_lit 293)) (true) (false)))) (bi (Nat.blt k (nat_lit 298)) (bi (Nat.blt k (nat_lit 297)) (bi (Nat.beq k (nat_lit 294)) (true) (false)) (bi (Nat.beq k (nat_lit 297)) (true) (false))) (bi (Nat.blt k (nat_lit 302)) (bi (Nat.beq k (nat_lit 298)) (true) (false)) (bi (Nat.beq k (nat_lit 302)) (true) (false)))))) (bi (Nat.blt k (nat_lit 311)) (bi (Nat.blt k (nat_lit 308)) (bi (Nat.blt k (nat_lit 306)) (bi (Nat.beq k (nat_lit 303)) (true) (false)) (bi (Nat.blt k (nat_lit 307)) (bi (Nat.beq k (nat_lit 306)) (true) (false)) (bi (Nat.beq k (nat_lit 307)) (true) (false)))) (bi (Nat.blt k (nat_lit 309)) (bi (Nat.beq k (nat_lit 308)) (true) (false)) (bi (Nat.blt k (nat_lit 310)) (bi (Nat.beq k (nat_lit 309)) (true) (false)) (bi (Nat.beq k (nat_lit 310)) (true) (false))))) (bi (Nat.blt k (nat_lit 317)) (bi (Nat.blt k (nat_lit 313)) (bi (Nat.beq k (nat_lit 311)) (true) (false)) (bi (Nat.blt k (nat_lit 315)) (bi (Nat.beq k (nat_lit 313)) (true) (false)) (bi (Nat.beq k (nat_lit 315)) (true) (false)))) (bi (Nat.blt k (nat_lit 319)) (bi (Nat.blt k (nat_lit 318)) (bi (Nat.beq k (nat_lit 317)) (true) (false)) (bi (Nat.beq k (nat_lit 318)) (true) (false))) (bi (Nat.blt k (nat_lit 320)) (bi (Nat.beq k (nat_lit 319)) (true) (false)) (bi (Nat.beq k (nat_lit 320)) (true) (false))))))) (bi (Nat.blt k (nat_lit 350)) (bi (Nat.blt k (nat_lit 333)) (bi (Nat.blt k (nat_lit 328)) (bi (Nat.blt k (nat_lit 325)) (bi (Nat.beq k (nat_lit 323)) (true) (false)) (bi (Nat.blt k (nat_lit 327)) (bi (Nat.beq k (nat_lit 325)) (true) (false)) (bi (Nat.beq k (nat_lit 327)) (true) (false)))) (bi (Nat.blt k (nat_lit 329)) (bi (Nat.beq k (nat_lit 328)) (true) (false)) (bi (Nat.blt k (nat_lit 330)) (bi (Nat.beq k (nat_lit 329)) (true) (false)) (bi (Nat.beq k (nat_lit 330)) (true) (false))))) (bi (Nat.blt k (nat_lit 337)) (bi (Nat.blt k (nat_lit 335)) (bi (Nat.beq k (nat_lit 333)) (true) (false)) (bi (Nat.blt k (nat_lit 336)) (bi (Nat.beq k (nat_lit 335)) (true) (false)) (bi (Nat.beq k (nat_lit 336)) (true) (false)))) (bi (Nat.blt k (nat_lit 344)) (bi (Nat.blt k (nat_lit 340)) (bi (Nat.beq k (nat_lit 337)) (true) (false)) (bi (Nat.beq k (nat_lit 340)) (true) (false))) (bi (Nat.blt k (nat_lit 346)) (bi (Nat.beq k (nat_lit 344)) (true) (false)) (bi (Nat.beq k (nat_lit 346)) (true) (false)))))) (bi (Nat.blt k (nat_lit 358)) (bi (Nat.blt k (nat_lit 353)) (bi (Nat.blt k (nat_lit 351)) (bi (Nat.beq k (nat_lit 350)) (true) (false)) (bi (Nat.blt k (nat_lit 352)) (bi (Nat.beq k (nat_lit 351)) (true) (false)) (bi (Nat.beq k (nat_lit 352)) (true) (false)))) (bi (Nat.blt k (nat_lit 355)) (bi (Nat.blt k (nat_lit 354)) (bi (Nat.beq k (nat_lit 353)) (true) (false)) (bi (Nat.beq k (nat_lit 354)) (true) (false))) (bi (Nat.blt k (nat_lit 356)) (bi (Nat.beq k (nat_lit 355)) (true) (false)) (bi (Nat.beq k (nat_lit 356)) (true) (false))))) (bi (Nat.blt k (nat_lit 361)) (bi (Nat.blt k (nat_lit 359)) (bi (Nat.beq k (nat_lit 358)) (true) (false)) (bi (Nat.blt k (nat_lit 360)) (bi (Nat.beq k (nat_lit 359)) (true) (false)) (bi (Nat.beq k (nat_lit 360)) (true) (false)))) (bi (Nat.blt k (nat_lit 363)) (bi (Nat.blt k (nat_lit 362)) (bi (Nat.beq k (nat_lit 361)) (true) (false)) (bi (Nat.beq k (nat_lit 362)) (true) (false))) (bi (Nat.blt k (nat_lit 364)) (bi (Nat.beq k (nat_lit 363)) (true) (false)) (bi (Nat.beq k (nat_lit 364)) (true) (false)))))))) (bi (Nat.blt k (nat_lit 407)) (bi (Nat.blt k (nat_lit 390)) (bi (Nat.blt k (nat_lit 379)) (bi (Nat.blt k (nat_lit 375)) (bi (Nat.blt k (nat_lit 369)) (bi (Nat.beq k (nat_lit 368)) (true) (false)) (bi (Nat.blt k (nat_lit 370)) (bi (Nat.beq k (nat_lit 369)) (true) (false)) (bi (Nat.beq k (nat_lit 370)) (true) (false)))) (bi (Nat.blt k (nat_lit 377)) (bi (Nat.beq k (nat_lit 375)) (true) (false)) (bi (Nat.blt k (nat_lit 378)) (bi (Nat.beq k (nat_lit 377)) (true) (false)) (bi (Nat.beq k (nat_lit 378)) (true) (false))))) (bi (Nat.blt k (nat_lit 385)) (bi (Nat.blt k (nat_lit 381)) (bi (Nat.beq k (nat_lit 379)) (true) (false)) (bi (Nat.blt k (nat_lit 384)) (bi (Nat.beq k (nat_lit 381)) (true) (false)) (bi (Nat.beq k (nat_lit 384)) (true) (false)))) (bi (Nat.blt k (nat_lit 387)) (bi (Nat.blt k (nat_lit 386)) (bi (Nat.beq k (nat_lit 385)) (true) (false)) (bi (Nat.beq k (nat_lit 386)) (true) (false))) (bi (Nat.blt k (nat_lit 388)) (bi (Nat.beq k (nat_lit 387)) (true) (false)) (bi (Nat.beq k (nat_lit 388)) (true) (false)))))) (bi (Nat.blt k (nat_lit 399)) (bi (Nat.blt k (nat_lit 395)) (bi (Nat.blt k (nat_lit 393)) (bi (Nat.beq k (nat_lit 390)) (true) (false)) (bi (Nat.blt k (nat_lit 394)) (bi (Nat.beq k (nat_lit 393)) (true) (false)) (bi (Nat.beq k (nat_lit 394)) (true) (false)))) (bi (Nat.blt k (nat_lit 397)) (bi (Nat.blt k (nat_lit 396)) (bi (Nat.beq k (nat_lit 395)) (true) (false)) (bi (Nat.beq k (nat_lit 396)) (true) (false))) (bi (Nat.blt k (nat_lit 398)) (bi (Nat.beq k (nat_lit 397)) (true) (false)) (bi (Nat.beq k (nat_lit 398)) (true) (false))))) (bi (Nat.blt k (nat_lit 402)) (bi (Nat.blt k (nat_lit 400)) (bi (Nat.beq k (nat_lit 399)) (true) (false)) (bi (Nat.blt k (nat_lit 401)) (bi (Nat.beq k (nat_lit 400)) (true) (false)) (bi (Nat.beq k (nat_lit 401)) (true) (false)))) (bi (Nat.blt k (nat_lit 404)) (bi (Nat.blt k (nat_lit 403)) (bi (Nat.beq k (nat_lit 402)) (true) (false)) (bi (Nat.beq k (nat_lit 403)) (true) (false))) (bi (Nat.blt k (nat_lit 405)) (bi (Nat.beq k (nat_lit 404)) (true) (false)) (bi (Nat.beq k (nat_lit 405)) (true) (false))))))) (bi (Nat.blt k (nat_lit 430)) (bi (Nat.blt k (nat_lit 413)) (bi (Nat.blt k (nat_lit 410)) (bi (Nat.blt k (nat_lit 408)) (bi (Nat.beq k (nat_lit 407)) (true) (false)) (bi (Nat.blt k (nat_lit 409)) (bi (Nat.beq k (nat_lit 408)) (true) (false)) (bi (Nat.beq k (nat_lit 409)) (true) (false)))) (bi (Nat.blt k (nat_lit 411)) (bi (Nat.beq k (nat_lit 410)) (true) (false)) (bi (Nat.blt k (nat_lit 412)) (bi (Nat.beq k (nat_lit 411)) (true) (false)) (bi (Nat.beq k (nat_lit 412)) (true) (false))))) (bi (Nat.blt k (nat_lit 416)) (bi (Nat.blt k (nat_lit 414)) (bi (Nat.beq k (nat_lit 413)) (true) (false)) (bi (Nat.blt k (nat_lit 415)) (bi (Nat.beq k (nat_lit 414)) (true) (false)) (bi (Nat.beq k (nat_lit 415)) (true) (false)))) (bi (Nat.blt k (nat_lit 426)) (bi (Nat.blt k (nat_lit 417)) (bi (Nat.beq k (nat_lit 416)) (true) (false)) (bi (Nat.beq k (nat_lit 417)) (true) (false))) (bi (Nat.blt k (nat_lit 429)) (bi (Nat.beq k (nat_lit 426)) (true) (false)) (bi (Nat.beq k (nat_lit 429)) (true) (false)))))) (bi (Nat.blt k (nat_lit 437)) (bi (Nat.blt k (nat_lit 433)) (bi (Nat.blt k (nat_lit 431)) (bi (Nat.beq k (nat_lit 430)) (true) (false)) (bi (Nat.blt k (nat_lit 432)) (bi (Nat.beq k (nat_lit 431)) (true) (false)) (bi (Nat.beq k (nat_lit 432)) (true) (false)))) (bi (Nat.blt k (nat_lit 435)) (bi (Nat.blt k (nat_lit 434)) (bi (Nat.beq k (nat_lit 433)) (true) (false)) (bi (Nat.beq k (nat_lit 434)) (true) (false))) (bi (Nat.blt k (nat_lit 436)) (bi (Nat.beq k (nat_lit 435)) (true) (false)) (bi (Nat.beq k (nat_lit 436)) (true) (false))))) (bi (Nat.blt k (nat_lit 440)) (bi (Nat.blt k (nat_lit 438)) (bi (Nat.beq k (nat_lit 437)) (true) (false)) (bi (Nat.blt k (nat_lit 439)) (bi (Nat.beq k (nat_lit 438)) (true) (false)) (bi (Nat.beq k (nat_lit 439)) (true) (false)))) (bi (Nat.blt k (nat_lit 442)) (bi (Nat.blt k (nat_lit 441)) (bi (Nat.beq k (nat_lit 440)) (true) (false)) (bi (Nat.beq k (nat_lit 441)) (true) (false))) (bi (Nat.blt k (nat_lit 443)) (bi (Nat.beq k (nat_lit 442)) (true) (false)) (bi (Nat.beq k (nat_lit 443)) (true) (false)))))))))
noncomputable def cxV(k:Nat):Bool:=bi (Nat.beq k (nat_lit 201)) (true) (false)
noncomputable def cx:Cx:=⟨Tryz.prog,cxG,cxX,cxP,cxV⟩
theorem cx_g{w:World}(hG:Gl w):Gok cxG w:=by
 intro g cs h;unfold cxG at h;rw [aaf]at h;split at h
 ·rename_i hk;rw [aad]at hk;have hk:g=1:=hk;subst hk;cases h
  obtain⟨t,f,e⟩:=hG.specials;exact⟨okL_ok (show okL 0 cg1=true by kernel_rfl),t,f,fun E=>by rw [e];kernel_rfl⟩
 rw [aaf]at h;split at h
 ·rename_i hk;rw [aad]at hk;have hk:g=4:=hk;subst hk;cases h
  obtain⟨t,f,e⟩:=hG.classes;exact⟨okL_ok (show okL 0 cg4=true by kernel_rfl),t,f,fun E=>by rw [e];kernel_rfl⟩
 rw [aaf]at h;split at h
 ·rename_i hk;rw [aad]at hk;have hk:g=6:=hk;subst hk;cases h
  obtain⟨t,f,e⟩:=hG.kinds;exact⟨okL_ok (show okL 0 cg6=true by kernel_rfl),t,f,fun E=>by rw [e];kernel_rfl⟩
 rw [aaf]at h;split at h
 ·rename_i hk;rw [aad]at hk;have hk:g=7:=hk;subst hk;cases h
  obtain⟨t,f,e⟩:=hG.rounds;exact⟨okL_ok (show okL 0 cg7=true by kernel_rfl),t,f,fun E=>by rw [e];kernel_rfl⟩
 cases h
theorem cx_names : (Tryz.prog.funcs.all fun fn => !(fn.name == "runtime.NumGoroutine")) = true := by kernel_rfl
theorem cx_ok:Cok cx Gl where
 gp:=fun h hp=>h.hp0 hp
 g:=cx_g
 ng:=fun f fn h=>by
  have h1:=Array.all_eq_true'.1 cx_names fn (Array.mem_of_getElem? h);simpa using h1
 mo:=by kernel_rfl
 ov:=fun k h=>by
  have h:cxV k=true:=h;unfold cxV at h;rw [aaf]at h;split at h
  ·rename_i hk;rw [aad]at hk;have hk:k=201:=hk;subst hk;exact⟨Tryz.f201,22,4,61,2,Tryz.func201,by kernel_rfl,by kernel_rfl,by kernel_rfl,Tryz.underlying22,by kernel_rfl⟩
  cases h
theorem ent_38:Go.Wk.Enters cx.P 38:=⟨Tryz.f38,_,Tryz.func38,rfl,by kernel_rfl⟩
theorem cx38_ok(hC:Cok cx Gl):aao cx Gl cx38 38:=xi_ok hC ent_38 fun a v h=>by
 exact⟨cv_pl h,fun E w hG hb=>CR.mono (sh_Itoa a w ⟨hb.1,hb.2⟩ hG) fun V w' hv=>⟨hv.1.trans (cv_ok h E 0).1.symm,hv.2⟩⟩
theorem ent_86:Go.Wk.Enters cx.P 86:=⟨Tryz.f86,_,Tryz.func86,rfl,by kernel_rfl⟩
theorem cx86_ok(hC:Cok cx Gl):aao cx Gl cx86 86:=xsb_ok hC ent_86 fun a b v h=>by
 obtain⟨h1,h⟩:=aab h;rw [aac,aag]at h1;exact⟨cv_pl h,fun E w hG=>CR.mono (sh_LastIndexByte a b w h1) fun V w' hv=>⟨hv.1.trans (by rw [(cv_ok h E 0).1,beqn]),hv.2⟩⟩
theorem ent_89:Go.Wk.Enters cx.P 89:=⟨Tryz.f89,_,Tryz.func89,rfl,by kernel_rfl⟩
theorem cx89_ok(hC:Cok cx Gl):aao cx Gl cx89 89:=xsb_ok hC ent_89 fun a b v h=>by
 exact⟨cv_pl h,fun E w hG=>CR.mono (sh_IndexByte a b w) fun V w' hv=>⟨hv.1.trans (by rw [(cv_ok h E 0).1,beqn]),hv.2⟩⟩
theorem ent_138:Go.Wk.Enters cx.P 138:=⟨Tryz.f138,_,Tryz.func138,rfl,by kernel_rfl⟩
theorem cx138_ok(hC:Cok cx Gl):aao cx Gl cx138 138:=xs2_ok hC ent_138 fun a b v h=>by
 obtain⟨h1,h⟩:=aab h;rw [aac,aag]at h1;obtain⟨h2,h⟩:=aab h;rw [aac,aag]at h2;obtain⟨h3,h⟩:=aab h;obtain⟨h4,h⟩:=aab h;simp only [Bool.or_eq_true,aac,aag]at h4;exact⟨cv_pl h,fun E w hG=>CR.mono (sh_IndexAny a b w ⟨h1,h2,h3,h4⟩) fun V w' hv=>⟨hv.1.trans (cv_ok h E 0).1.symm,hv.2⟩⟩
theorem ent_180:Go.Wk.Enters cx.P 180:=⟨Tryz.f180,_,Tryz.func180,rfl,by kernel_rfl⟩
theorem cx180_ok(hC:Cok cx Gl):aao cx Gl cx180 180:=xs2_ok hC ent_180 fun a b v h=>by
 exact⟨cv_pl h,fun E w hG=>CR.mono (sh_TrimPrefix a b w) fun V w' hv=>⟨hv.1.trans (cv_ok h E 0).1.symm,hv.2⟩⟩
theorem ent_210:Go.Wk.Enters cx.P 210:=⟨Tryz.f210,_,Tryz.func210,rfl,by kernel_rfl⟩
theorem cx210_ok(hC:Cok cx Gl):aao cx Gl cx210 210:=xjoin_ok hC ent_210 fun t w a n cap xs h1 h2 h3 h4=>sh_Join t w a n cap xs h1 h2 h3 h4
theorem ent_216:Go.Wk.Enters cx.P 216:=⟨Tryz.f216,_,Tryz.func216,rfl,by kernel_rfl⟩
theorem cx216_ok(hC:Cok cx Gl):aao cx Gl cx216 216:=xs2_ok hC ent_216 fun a b v h=>by
 obtain⟨h1,h⟩:=aab h;rw [aac,aag]at h1;obtain⟨h2,h⟩:=aab h;rw [aac,aag]at h2;obtain⟨h3,h⟩:=aab h;exact⟨cv_pl h,fun E w hG=>CR.mono (sh_Trim a b w h1 ⟨h2,h3⟩) fun V w' hv=>⟨hv.1.trans (cv_ok h E 0).1.symm,hv.2⟩⟩
theorem ent_228:Go.Wk.Enters cx.P 228:=⟨Tryz.f228,_,Tryz.func228,rfl,by kernel_rfl⟩
theorem cx228_ok(hC:Cok cx Gl):aao cx Gl cx228 228:=xs2_ok hC ent_228 fun a b v h=>by
 obtain⟨h1,h⟩:=aab h;rw [aac,aag]at h1;exact⟨cv_pl h,fun E w hG=>CR.mono (sh_Contains a b w h1 hG) fun V w' hv=>⟨hv.1.trans (cv_ok h E 0).1.symm,hv.2⟩⟩
theorem ent_258:Go.Wk.Enters cx.P 258:=⟨Tryz.f258,_,Tryz.func258,rfl,by kernel_rfl⟩
theorem cx258_ok(hC:Cok cx Gl):aao cx Gl cx258 258:=xs2_ok hC ent_258 fun a b v h=>by
 obtain⟨h1,h⟩:=aab h;rw [aac,aag]at h1;exact⟨(cvT_ok h (fun _=>(0,0))).2,fun E w hG=>CR.mono (sh_Cut a b w h1 hG) fun V w' hv=>⟨hv.1.trans (cvT_ok h E).1.symm,hv.2⟩⟩
theorem ent_260:Go.Wk.Enters cx.P 260:=⟨Tryz.f260,_,Tryz.func260,rfl,by kernel_rfl⟩
theorem cx260_ok(hC:Cok cx Gl):aao cx Gl cx260 260:=xsplit_ok hC ent_260 fun s c w hG h=>sh_Split s c w h hG
theorem ent_272:Go.Wk.Enters cx.P 272:=⟨Tryz.f272,_,Tryz.func272,rfl,by kernel_rfl⟩
theorem cx272_ok(hC:Cok cx Gl):aao cx Gl cx272 272:=xcc_ok hC ent_272 fun b z s w h=>sh_copyCheck b z s w h
theorem ent_311:Go.Wk.Enters cx.P 311:=⟨Tryz.f311,_,Tryz.func311,rfl,by kernel_rfl⟩
theorem cx311_ok(hC:Cok cx Gl):aao cx Gl cx311 311:=xs2_ok hC ent_311 fun a b v h=>by
 obtain⟨h1,h⟩:=aab h;rw [aac,aag]at h1;exact⟨cv_pl h,fun E w hG=>CR.mono (sh_Index a b w h1 hG) fun V w' hv=>⟨hv.1.trans (cv_ok h E 0).1.symm,hv.2⟩⟩
theorem ent_337:Go.Wk.Enters cx.P 337:=⟨Tryz.f337,_,Tryz.func337,rfl,by kernel_rfl⟩
theorem cx337_ok(hC:Cok cx Gl):aao cx Gl cx337 337:=xs2_ok hC ent_337 fun a b v h=>by
 obtain⟨h1,h⟩:=aab h;rw [aac,aag]at h1;obtain⟨h2,h⟩:=aab h;rw [aac,aag]at h2;obtain⟨h3,h⟩:=aab h;exact⟨cv_pl h,fun E w hG=>CR.mono (sh_TrimLeft a b w h1 ⟨h2,h3⟩) fun V w' hv=>⟨hv.1.trans (cv_ok h E 0).1.symm,hv.2⟩⟩
theorem ent_356:Go.Wk.Enters cx.P 356:=⟨Tryz.f356,_,Tryz.func356,rfl,by kernel_rfl⟩
theorem cx356_ok(hC:Cok cx Gl):aao cx Gl cx356 356:=xs2_ok hC ent_356 fun a b v h=>by
 exact⟨(cvT_ok h (fun _=>(0,0))).2,fun E w hG=>CR.mono (sh_CutPrefix a b w) fun V w' hv=>⟨hv.1.trans (cvT_ok h E).1.symm,hv.2⟩⟩
theorem ent_387:Go.Wk.Enters cx.P 387:=⟨Tryz.f387,_,Tryz.func387,rfl,by kernel_rfl⟩
theorem cx387_ok(hC:Cok cx Gl):aao cx Gl cx387 387:=xs2_ok hC ent_387 fun a b v h=>by
 obtain⟨h1,h⟩:=aab h;rw [aac,aag]at h1;obtain⟨h2,h⟩:=aab h;rw [aac,aag]at h2;obtain⟨h3,h⟩:=aab h;exact⟨cv_pl h,fun E w hG=>CR.mono (sh_TrimRight a b w h1 ⟨h2,h3⟩) fun V w' hv=>⟨hv.1.trans (cv_ok h E 0).1.symm,hv.2⟩⟩
theorem cx_x:Xok cx Gl:=by
 intro k f h;have h:cxX k=some f:=h;unfold cxX at h;rw [aaf]at h;split at h
 ·rw [aaf]at h;split at h
  ·rw [aaf]at h;split at h
   ·rw [aaf]at h;split at h
    ·rename_i hk;rw [aad]at hk;have hk:k=38:=hk;subst hk;cases h
     exact cx38_ok cx_ok
    ·cases h
   ·rw [aaf]at h;split at h
    ·rw [aaf]at h;split at h
     ·rename_i hk;rw [aad]at hk;have hk:k=86:=hk;subst hk;cases h
      exact cx86_ok cx_ok
     ·cases h
    ·rw [aaf]at h;split at h
     ·rename_i hk;rw [aad]at hk;have hk:k=89:=hk;subst hk;cases h
      exact cx89_ok cx_ok
     ·cases h
  ·rw [aaf]at h;split at h
   ·rw [aaf]at h;split at h
    ·rw [aaf]at h;split at h
     ·rename_i hk;rw [aad]at hk;have hk:k=138:=hk;subst hk;cases h
      exact cx138_ok cx_ok
     ·cases h
    ·rw [aaf]at h;split at h
     ·rename_i hk;rw [aad]at hk;have hk:k=180:=hk;subst hk;cases h
      exact cx180_ok cx_ok
     ·cases h
   ·rw [aaf]at h;split at h
    ·rw [aaf]at h;split at h
     ·rename_i hk;rw [aad]at hk;have hk:k=210:=hk;subst hk;cases h
      exact cx210_ok cx_ok
     ·cases h
    ·rw [aaf]at h;split at h
     ·rename_i hk;rw [aad]at hk;have hk:k=216:=hk;subst hk;cases h
      exact cx216_ok cx_ok
     ·cases h
 ·rw [aaf]at h;split at h
  ·rw [aaf]at h;split at h
   ·rw [aaf]at h;split at h
    ·rw [aaf]at h;split at h
     ·rename_i hk;rw [aad]at hk;have hk:k=228:=hk;subst hk;cases h
      exact cx228_ok cx_ok
     ·cases h
    ·rw [aaf]at h;split at h
     ·rename_i hk;rw [aad]at hk;have hk:k=258:=hk;subst hk;cases h
      exact cx258_ok cx_ok
     ·cases h
   ·rw [aaf]at h;split at h
    ·rw [aaf]at h;split at h
     ·rename_i hk;rw [aad]at hk;have hk:k=260:=hk;subst hk;cases h
      exact cx260_ok cx_ok
     ·cases h
    ·rw [aaf]at h;split at h
     ·rename_i hk;rw [aad]at hk;have hk:k=272:=hk;subst hk;cases h
      exact cx272_ok cx_ok
     ·cases h
  ·rw [aaf]at h;split at h
   ·rw [aaf]at h;split at h
    ·rw [aaf]at h;split at h
     ·rename_i hk;rw [aad]at hk;have hk:k=311:=hk;subst hk;cases h
      exact cx311_ok cx_ok
     ·cases h
    ·rw [aaf]at h;split at h
     ·rename_i hk;rw [aad]at hk;have hk:k=337:=hk;subst hk;cases h
      exact cx337_ok cx_ok
     ·cases h
   ·rw [aaf]at h;split at h
    ·rw [aaf]at h;split at h
     ·rename_i hk;rw [aad]at hk;have hk:k=356:=hk;subst hk;cases h
      exact cx356_ok cx_ok
     ·cases h
    ·rw [aaf]at h;split at h
     ·rename_i hk;rw [aad]at hk;have hk:k=387:=hk;subst hk;cases h
      exact cx387_ok cx_ok
     ·cases h
theorem cxx:Cok cx Gl/\Xok cx Gl:=⟨cx_ok,cx_x⟩
theorem closed{n k:Nat}(h:isT ((lev cx n).call k [] H0)=true){w:World}(hG:Gl w):Go.Wk.Enters Tryz.prog k/\CR Tryz.prog k [] w fun V w'=>V=.bool true/\Hp w [] [] w':=
 let ⟨H',h⟩:=isT_ok h
 run_says cx_ok cx_x h rfl rfl hG (fun _=>(0,0))
end Go.Proofs
