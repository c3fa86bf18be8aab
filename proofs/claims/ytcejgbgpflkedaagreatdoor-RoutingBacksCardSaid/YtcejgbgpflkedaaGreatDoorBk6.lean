/-
  The law RoutingBacks holds (part 6 of 8).
-/
import Derived.Test.YtcejgbgpflkedaaGreatDoorBk5
import Derived.Test.YtcejgbgpflkedaaGreatDoorRows
import Derived.ProofKit
import Derived.OpenShut
import Derived.Deep.DeepHandedRow
import Derived.Lib.LaidTab
import Derived.Shelf.Vars
import Derived.ChangeSame
import Derived.WalkKit
import Derived.SevenTiedAt
import Derived.Deep.Slices
import Derived.ReadAgain
import Derived.Shelf.Strings.Builder1
import Derived.Shelf.Strings.Builder2
import Derived.Shelf.Strings.OnBuilder
import Derived.Shelf.Strings.Trim
import Derived.Shelf.Small.Utf8
import Derived.Shelf.Small.Strs
import Derived.Shelf.Small.Wraps
import Derived.Shelf.Strings.BuilderF
import Derived.Shelf.Strings.BuilderK
import Derived.Shelf.Utf8.RuneCount
import Derived.Shelf.Strings.Builder2Cap
import Derived.Shelf.Strconv.Itoa0
import Derived.Shelf.Strconv.Itoa1
import Derived.Shelf.LaysM
import Derived.Shelf.Strconv.Itoa2
import Derived.Shelf.Strconv.Itoa3
import Derived.Shelf.Strings.Search1
import Derived.Shelf.Strings.Search2
import Derived.Shelf.Strings.Search3
import Derived.Shelf.Strings.Cut
import Derived.Shelf.Strings.Count
import Derived.Shelf.Strings.Shaped
import Derived.Shelf.Strings.LastIndex
import Derived.Shelf.Strings.Prefix
import Derived.Shelf.Strings.Split
import Derived.Shelf.Strings.SplitShaped
import Derived.Shelf.Unicode.Decode
import Derived.Shelf.Strings.Runes
import Derived.Shelf.Strings.RuneCount
import Derived.Shelf.Strings.IndexAny
import Derived.Shelf.Strings.AsciiSet
import Derived.Shelf.Strings.IndexAnyAll
import Derived.Shelf.Strings.Explode
import Derived.Shelf.Unicode.DecodeSlow
import Derived.Shelf.Unicode.DecodeAny
import Derived.Shelf.Unicode.DecodeLast
import Derived.Shelf.Strings.BuilderCap
import Derived.Ground.SlbCloneProg
import Derived.Shelf.Bytes.SlClone
import Derived.Ground.PaProg
import Derived.Shelf.Path.Small
import Derived.Test.YtcejgbgpflkedaaGreatDoorProg
import Derived.Shelf.Strings.SlTrimAscii
set_option linter.constructorNameAsVariable false
set_option linter.unusedVariables false
set_option linter.unusedSimpArgs false
set_option maxRecDepth 20000
namespace Go.Proofs
open Go.Wk Go.Px Go.RowKit
theorem lenOf{s:ByteArray}(h:s.size<=maxLen):s.data.toList.length<=9223372036854775807:=Nat.le_trans (by rw [Array.length_toList];exact h) (show maxLen<=9223372036854775807 by decide)
theorem laidAt{P:Program}{w:World}:∀{l:List (String×DataW Unit)} {ps:List MemPlace},DataW.LaidVars P w l ps->∀(i:Nat) {n:String} {d:DataW Unit},l[i]? =some (n,d)->
  ∃g t cs fuel p,P.globalNamed n=some g/\(P.globals[g]?).map (·.type)=some t/\w.var? P n=some cs/\DataW.trod (fun _=>()) P w 0 (fun _=>true) false fuel t cs.toList=some (d,p)
 |[],_,_,i,n,d,hi=>by simp at hi
 |(n',d')::l,ps,h,0,n,d,hi=>by
  obtain⟨g,t,cs,fuel,p,q,h1,h2,h3,h4,_,_⟩:=h;simp only [List.getElem?_cons_zero,Option.some.injEq,Prod.mk.injEq]at hi;obtain⟨rfl,rfl⟩:=hi;exact⟨g,t,cs,fuel,p,h1,h2,h3,h4⟩
 |(n',d')::l,ps,h,i+1,n,d,hi=>by
  obtain⟨g,t,cs,fuel,p,q,_,_,_,_,h5,_⟩:=h;exact laidAt h5 i (by simpa using hi)
theorem vrOf{P:Program}{w:World}{n:String}{g:Nat}{cs:Array Value}(hg:P.globalNamed n=some g)(h:w.var? P n=some cs):Vr w g cs.toList:=by
 simp only [World.var?,hg,Option.bind_some]at h;split at h
 ·rename_i cs' t f e;cases h
  exact⟨t,f,by rw [e]⟩
 ·cases h
theorem chunks{α:Type}{f:α->List Value}{sz:Nat}:∀(zs:List α) (cs:List Value),cs.length=zs.length*sz->(∀(i:Nat) (z:α),zs[i]? =some z->(cs.drop (i*sz)).take sz=f z)->cs=zs.flatMap f
 |[],cs,hl,_=>by simpa using hl
 |z::zs,cs,hl,h=>by
  have h0:=h 0 z rfl;simp only [Nat.zero_mul,List.drop_zero]at h0;have h1:=chunks (f:=f) (sz:=sz) zs (cs.drop sz) (by rw [List.length_drop,hl,List.length_cons,Nat.succ_mul];omega) (fun i z' hi=>by
   have:=h (i+1) z' (by simpa using hi)
   rw [List.drop_drop,Nat.add_comm,<-Nat.succ_mul];exact this)
  rw [List.flatMap_cons,<-h0,<-h1,List.take_append_drop]
theorem arrCells{P:Program}{w:World}{fuel n sz:Nat}{t e:TypeId}{cs:List Value}{p:List MemPlace}{α:Type}{dz:α->DataW Unit}{f:α->List Value}(zs:List α)
  (ht:P.underlying t=some (.array n e)) (hce:P.cellsOf e=sz) (hct:P.cellsOf t=n*sz) (hz:zs.length=n)
  (hel:∀fuel cs' z p,DataW.trod (fun _=>()) P w 0 (fun _=>true) false fuel e cs'=some (dz z,p)->cs'=f z)
  (h:DataW.trod (fun _=>()) P w 0 (fun _=>true) false fuel t cs=some (.agg (zs.map dz),p)):cs=zs.flatMap f:=by
 cases fuel with
 |zero=>simp [DataW.trod]at h
 |succ fuel=>
  simp only [DataW.trod,ht,hce,hct]at h;split at h
  ·rename_i hl;obtain⟨xs,hm,hx⟩:=Option.map_eq_some_iff.1 h;have hxs:xs.map (·.1)=zs.map dz:=by
    have:=congrArg Prod.fst hx
    simpa using this
   refine chunks zs cs (by rw [hl,hz]) fun i z hi=> ?_
   have hi':i<n:=by rw [<-hz];exact(List.getElem?_eq_some_iff.1 hi).1
   obtain⟨b,hb,hf⟩:=Lib.mapM_at hm i i (by simp [hi']);have hb1:b.1=dz z:=by
    have e1:(xs.map (·.1))[i]? =some b.1:=by simp [hb]
    rw [hxs]at e1;simp only [List.getElem?_map,hi,Option.map_some,Option.some.injEq]at e1;exact e1.symm
   exact hel fuel _ z b.2 (by rw [hf,<-hb1])
  ·cases h
theorem strCell{P:Program}{w:World}{fuel:Nat}{e:TypeId}{cs:List Value}{p:List MemPlace}(he:P.underlying e=some .string)(z:List UInt8)
  (h:DataW.trod (fun _=>()) P w 0 (fun _=>true) false fuel e cs=some (.lit (.string z),p)):cs=eS z:=by
 obtain⟨s,rfl,hx,_⟩:=DataW.trod_string he h;simp only [Prod.mk.injEq,DataW.lit.injEq,Lit.string.injEq]at hx;obtain⟨rfl,_⟩:=hx;rfl
theorem intCell{P:Program}{w:World}{fuel:Nat}{e:TypeId}{k:IntKind}{cs:List Value}{p:List MemPlace}(he:P.underlying e=some (.int k))(z:Int)
  (h:DataW.trod (fun _=>()) P w 0 (fun _=>true) false fuel e cs=some (.lit (.int k z),p)):cs=[.int k z]:=by
 obtain⟨n,rfl,hx,_⟩:=DataW.trod_int he h;simp only [Prod.mk.injEq,DataW.lit.injEq,Lit.int.injEq]at hx;obtain⟨⟨_,rfl⟩,_⟩:=hx;rfl
theorem pairCell{P:Program}{w:World}{fuel:Nat}{e a b:TypeId}{f0 f1:Field}{k:IntKind}{cs:List Value}{p:List MemPlace}(he:P.underlying e=some (.struct #[f0,f1]))(ha:P.underlying a=some .string)(hb:P.underlying b=some (.int k))
  (h0:(f0.type,f0.offset,f1.type,f1.offset)=(a,0,b,1)) (hca:P.cellsOf a=1) (hcb:P.cellsOf b=1) (hc:P.cellsOf e=2) (z:List UInt8×Int)
  (h:DataW.trod (fun _=>()) P w 0 (fun _=>true) false fuel e cs=some (.agg [.lit (.string z.1),.lit (.int k z.2)],p)):cs=[str z.1,.int k z.2]:=by
 obtain⟨z1,z2⟩:=z;simp only [Prod.mk.injEq]at h0;obtain⟨t0,o0,t1,o1⟩:=h0;cases fuel with
 |zero=>simp [DataW.trod]at h
 |succ fuel=>
  simp only [DataW.trod,he,hc]at h;split at h
  ·rename_i hl;obtain⟨xs,hm,hx⟩:=Option.map_eq_some_iff.1 h;simp only [List.mapM_cons,List.mapM_nil,Option.bind_eq_bind,Option.bind_eq_some_iff,Option.pure_def,Option.some.injEq,t0,t1,o0,o1,hca,hcb,List.drop_zero]at hm;obtain⟨x0,hx0,r0,⟨x1,hx1,r1,rfl,rfl⟩,rfl⟩:=hm;simp only [List.map_cons,List.map_nil,Prod.mk.injEq,DataW.agg.injEq,List.cons.injEq,and_true]at hx;obtain⟨⟨e0,e1⟩,_⟩:=hx;have g0:=strCell ha z1 (p:=x0.2) (by rw [hx0,<-e0]);have g1:=intCell hb z2 (p:=x1.2) (by rw [hx1,<-e1])
   match cs,hl,g0,g1 with
   |[u,v],_,g0,g1=>
    simp only [List.take_succ_cons,List.take_zero,List.drop_succ_cons,List.drop_zero,eS,List.cons.injEq,and_true]at g0 g1;rw [g0,g1]
  ·cases h
theorem intVar{P:Program}{w:World}{g:Nat}{t:TypeId}{zero:Array Value}{k:IntKind}(h:w.ShapedOpen P)(hg:g<P.globals.size)
  (h0:((begin P (fun _ _=>0) default).world.heap[g]?).bind Obj.row? =some (zero,t)) (hz:zero.size=1)
  (hb:P.buildable t=true) (hc:P.cellTypes P.depth t=some [t]) (hu:P.underlying t=some (.int k)):∃m,Vr w g [.int k m]:=by
 obtain⟨m,hm⟩:=cell_of_shapedOpen_int h hg h0 hz hb hc hu;obtain⟨cs,hh,hs,_⟩:=h.1 g zero t hg h0;refine⟨m,t,(0,0), ?_⟩
 rw [hh];have h1:cs.size=1:=by omega
 have h2:cs[0]? =some (.int k m):=by
  have:w.cell? ⟨g,0,none⟩=cs[0]? :=by simp [World.cell?,hh]
  rw [<-this];exact hm
 have e:cs=[Value.int k m].toArray:=by
  apply Array.ext
  ·simp [h1]
  ·intro i hi hi'
   have:i=0:=by omega
   subst this;simpa [hi] using h2
 rw [e]
theorem heapSize{P:Program}{w:World}{g:Nat}(h:w.ShapedOpen P)(hg:g<P.globals.size)(h0:(((begin P (fun _ _=>0) default).world.heap[g]?).bind Obj.row?).isSome=true):g+1<=w.heap.size:=by
 obtain⟨⟨zero,t⟩,h1⟩:=Option.isSome_iff_exists.1 h0;obtain⟨cs,hh,_⟩:=h.1 g zero t hg h1;exact(Array.getElem?_eq_some_iff.1 hh).1
theorem laidOf{P:Program}{l:List (String×DataW Unit)}{w:World}(h:laidMetH P l w)(hn:(l.filter fun x=>x.2.handleName?.isSome)=[]):∃ps,DataW.LaidVars P w l ps:=by
 unfold laidMetH at h;rw [hn]at h;obtain⟨ps,h1,_⟩:=h;exact⟨ps,h1⟩
theorem postOf{H:Type}{enc:TypeId×Value->H}{P:Program}{f:Func}{s:ChangeSpec}{apart fresh handsOn:Bool}{W W':World}{args:Array Value}{v:Value}{ds gs:List (DataW H)}{before pa pv:List MemPlace}
  (hW:DataW.Whole enc P f.params.toList s.vars apart W args.toList ds gs before)
  (hres:∀(b:Nat) (sp:Nat->Bool) (hd:Bool),DataW.TrodAll enc P W' b sp hd f.resultTypes.toList (v.resultList f.resultTypes.size) (s.fn H (ds++gs)).results [])
  (hargs:∀sp:Nat->Bool,(∀p∈before,sp p.block=true)->DataW.TrodAll enc P W' 0 sp true f.params.toList args.toList (s.fn H (ds++gs)).args pa)
  (hvars:∀sp:Nat->Bool,(∀p∈before,sp p.block=true)->DataW.TrodVars enc P W' sp s.vars (s.fn H (ds++gs)).vars pv)
  (hk:W.keptBut W' (fun p=>p∈before/\(p∈([]:List MemPlace)\/p∈pa\/p∈pv))):s.post enc P f apart fresh handsOn false W args v W':=by
 have hold:∀p∈before,(fun b=>decide (b<W.heap.size)) p.block=true:=fun p hp=>by simpa using hW.lt p hp
 exact⟨ds,gs,before,[],pa,pv,hW,hres _ _ _,hargs _ hold,hvars _ hold,hk,fun h=>by cases h⟩
end Go.Proofs
set_option maxRecDepth 100000
namespace Go.Proofs
open Go.Wk Go.Px Go.RowKit
theorem glOf{W:World}(hL:laidMetH Tryz.prog YtcejgbgpflkedaaGreatDoor.Rows.routingBacksRow.laid W)(hsh:W.ShapedOpen Tryz.prog)(hs:12<=W.heap.size):Gl W:=by
 obtain⟨ps,h⟩:=laidOf hL krf;have v0:Vr W 0 (List.flatMap eS ajf):=by
  obtain⟨g,t,cs,fuel,p,h1,h2,h3,h4⟩:=laidAt h 8 rfl;obtain rfl := Option.some.inj ((show Tryz.prog.globalNamed "dialtone/header.specials" = some 0 by kernel_rfl).symm.trans h1);obtain rfl:=Option.some.inj ((show(Tryz.prog.globals[0]?).map (·.type)=some 173 by kernel_rfl).symm.trans h2);have e:=arrCells (dz:=fun s=>.lit (.string s)) (f:=eS) ajf Tryz.underlying173 (show Tryz.prog.cellsOf 9=1 by kernel_rfl) krf rfl (fun _ _ z _ h=>strCell Tryz.underlying9 z h) h4
  have:=vrOf h1 h3
  rw [e]at this;exact this
 have v2:Vr W 2 (List.flatMap asf acy):=by
  obtain⟨g,t,cs,fuel,p,h1,h2,h3,h4⟩:=laidAt h 9 rfl;obtain rfl := Option.some.inj ((show Tryz.prog.globalNamed "dialtone/header.kinds" = some 2 by kernel_rfl).symm.trans h1);obtain rfl:=Option.some.inj ((show(Tryz.prog.globals[2]?).map (·.type)=some 225 by kernel_rfl).symm.trans h2);have e:=arrCells (dz:=fun z=>.agg [.lit (.string z.1),.lit (.int .i64 z.2)]) (f:=asf) acy Tryz.underlying225 (show Tryz.prog.cellsOf 224=2 by kernel_rfl) krf rfl (fun _ _ z _ h=>pairCell Tryz.underlying224 Tryz.underlying9 Tryz.underlying174 rfl krf krf krf z h) h4
  have:=vrOf h1 h3
  rw [e]at this;exact this
 have v5:Vr W 5 (List.flatMap eS gl_classes):=by
  obtain⟨g,t,cs,fuel,p,h1,h2,h3,h4⟩:=laidAt h 7 rfl;obtain rfl := Option.some.inj ((show Tryz.prog.globalNamed "dialtone/address.classes" = some 5 by kernel_rfl).symm.trans h1);obtain rfl:=Option.some.inj ((show(Tryz.prog.globals[5]?).map (·.type)=some 241 by kernel_rfl).symm.trans h2);have e:=arrCells (dz:=fun s=>.lit (.string s)) (f:=eS) gl_classes Tryz.underlying241 (show Tryz.prog.cellsOf 9=1 by kernel_rfl) krf rfl (fun _ _ z _ h=>strCell Tryz.underlying9 z h) h4
  have:=vrOf h1 h3
  rw [e]at this;exact this
 have v7:Vr W 7 (List.flatMap (eI .u32) gl_rounds):=by
  obtain⟨g,t,cs,fuel,p,h1,h2,h3,h4⟩:=laidAt h 2 rfl;obtain rfl := Option.some.inj ((show Tryz.prog.globalNamed "dialtone/hash.constants" = some 7 by kernel_rfl).symm.trans h1);obtain rfl:=Option.some.inj ((show(Tryz.prog.globals[7]?).map (·.type)=some 263 by kernel_rfl).symm.trans h2);have e:=Lib.cells_of_tab (zs:=gl_rounds) (k:=.u32) Tryz.underlying263 Tryz.underlying217 krf krf h4
  have:=vrOf h1 h3
  rw [e]at this;rw [show List.flatMap (eI .u32) gl_rounds=gl_rounds.map (fun z=>Value.int .u32 z)from List.map_eq_flatMap.symm];exact this
 have v6:Vr W 6 (Lib.pow10Tab.map fun z=>Value.int .u64 z):=by
  obtain⟨g,t,cs,fuel,p,h1,h2,h3,h4⟩:=laidAt h 3 rfl;obtain rfl := Option.some.inj ((show Tryz.prog.globalNamed "internal/strconv.uint64pow10" = some 6 by kernel_rfl).symm.trans h1);obtain rfl:=Option.some.inj ((show(Tryz.prog.globals[6]?).map (·.type)=some 248 by kernel_rfl).symm.trans h2);have e:=Lib.cells_of_tab (zs:=Lib.pow10Tab) (k:=.u64) Tryz.underlying248 Tryz.underlying204 krf krf h4
  have:=vrOf h1 h3
  rw [e]at this;exact this
 have v1:∃m,Vr W 1 [.int .i64 m]:=intVar (zero:= #[.int .i64 0]) (t:=3) hsh (of_decide_eq_true krf) krf rfl krf krf Tryz.underlying3;exact {gs:=hs,specials:=v0,kinds:=v2,classes:=v5,rounds:=v7,pow10:=v6,maxlen:=v1}
noncomputable def low:Nat:=(World.holding Tryz.prog default ⟨#[], #[],[]⟩).heap.size
noncomputable def laidCells(g:Nat)(o:Obj):Obj:=
 match o with
 |.cells c t fz=>.cells (match g with
  |10=> #[.int .u8 0,.int .u8 1,.int .u8 28,.int .u8 2,.int .u8 29,.int .u8 14,.int .u8 24,.int .u8 3,.int .u8 30,.int .u8 22,.int .u8 20,.int .u8 15,.int .u8 25,.int .u8 17,.int .u8 4,.int .u8 8,.int .u8 31,.int .u8 27,.int .u8 13,.int .u8 23,.int .u8 21,.int .u8 19,.int .u8 16,.int .u8 7,.int .u8 26,.int .u8 12,.int .u8 18,.int .u8 6,.int .u8 11,.int .u8 5,.int .u8 10,.int .u8 9]
  |11=> #[.int .u8 0,.int .u8 1,.int .u8 56,.int .u8 2,.int .u8 57,.int .u8 49,.int .u8 28,.int .u8 3,.int .u8 61,.int .u8 58,.int .u8 42,.int .u8 50,.int .u8 38,.int .u8 29,.int .u8 17,.int .u8 4,.int .u8 62,.int .u8 47,.int .u8 59,.int .u8 36,.int .u8 45,.int .u8 43,.int .u8 51,.int .u8 22,.int .u8 53,.int .u8 39,.int .u8 33,.int .u8 30,.int .u8 24,.int .u8 18,.int .u8 12,.int .u8 5,.int .u8 63,.int .u8 55,.int .u8 48,.int .u8 27,.int .u8 60,.int .u8 41,.int .u8 37,.int .u8 16,.int .u8 46,.int .u8 35,.int .u8 44,.int .u8 21,.int .u8 52,.int .u8 32,.int .u8 23,.int .u8 11,.int .u8 54,.int .u8 26,.int .u8 40,.int .u8 15,.int .u8 34,.int .u8 20,.int .u8 31,.int .u8 10,.int .u8 25,.int .u8 14,.int .u8 19,.int .u8 9,.int .u8 13,.int .u8 8,.int .u8 7,.int .u8 6]
  |7=> #[.int .u32 1116352408,.int .u32 1899447441,.int .u32 3049323471,.int .u32 3921009573,.int .u32 961987163,.int .u32 1508970993,.int .u32 2453635748,.int .u32 2870763221,.int .u32 3624381080,.int .u32 310598401,.int .u32 607225278,.int .u32 1426881987,.int .u32 1925078388,.int .u32 2162078206,.int .u32 2614888103,.int .u32 3248222580,.int .u32 3835390401,.int .u32 4022224774,.int .u32 264347078,.int .u32 604807628,.int .u32 770255983,.int .u32 1249150122,.int .u32 1555081692,.int .u32 1996064986,.int .u32 2554220882,.int .u32 2821834349,.int .u32 2952996808,.int .u32 3210313671,.int .u32 3336571891,.int .u32 3584528711,.int .u32 113926993,.int .u32 338241895,.int .u32 666307205,.int .u32 773529912,.int .u32 1294757372,.int .u32 1396182291,.int .u32 1695183700,.int .u32 1986661051,.int .u32 2177026350,.int .u32 2456956037,.int .u32 2730485921,.int .u32 2820302411,.int .u32 3259730800,.int .u32 3345764771,.int .u32 3516065817,.int .u32 3600352804,.int .u32 4094571909,.int .u32 275423344,.int .u32 430227734,.int .u32 506948616,.int .u32 659060556,.int .u32 883997877,.int .u32 958139571,.int .u32 1322822218,.int .u32 1537002063,.int .u32 1747873779,.int .u32 1955562222,.int .u32 2024104815,.int .u32 2227730452,.int .u32 2361852424,.int .u32 2428436474,.int .u32 2756734187,.int .u32 3204031479,.int .u32 3329325298]
  |6=> #[.int .u64 1,.int .u64 10,.int .u64 100,.int .u64 1000,.int .u64 10000,.int .u64 100000,.int .u64 1000000,.int .u64 10000000,.int .u64 100000000,.int .u64 1000000000,.int .u64 10000000000,.int .u64 100000000000,.int .u64 1000000000000,.int .u64 10000000000000,.int .u64 100000000000000,.int .u64 1000000000000000,.int .u64 10000000000000000,.int .u64 100000000000000000,.int .u64 1000000000000000000,.int .u64 10000000000000000000]
  |9=> #[.int .u8 128,.int .u8 191,.int .u8 160,.int .u8 191,.int .u8 128,.int .u8 159,.int .u8 144,.int .u8 191,.int .u8 128,.int .u8 143,.int .u8 0,.int .u8 0,.int .u8 0,.int .u8 0,.int .u8 0,.int .u8 0,.int .u8 0,.int .u8 0,.int .u8 0,.int .u8 0,.int .u8 0,.int .u8 0,.int .u8 0,.int .u8 0,.int .u8 0,.int .u8 0,.int .u8 0,.int .u8 0,.int .u8 0,.int .u8 0,.int .u8 0,.int .u8 0]
  |4=> #[.iface 258 (.pointer (some ⟨low+0,0,none⟩))]
  |3=> #[.iface 258 (.pointer (some ⟨low+1,0,none⟩))]
  |5=> #[str [38,61,43,36,44,59,63,47],str [91,93,47,58,38,43,36],str [91,93,47,63,58,43,36]]
  |0=> #[str [67,97,108,108,45,73,68],str [67,83,101,113],str [77,73,77,69,45,86,101,114,115,105,111,110],str [77,105,110,45,83,69],str [82,65,99,107],str [82,83,101,113],str [87,87,87,45,65,117,116,104,101,110,116,105,99,97,116,101]]
  |2=> #[str [70,114,111,109],.int .i64 1,str [84,111],.int .i64 1,str [67,111,110,116,97,99,116],.int .i64 1,str [82,111,117,116,101],.int .i64 1,str [82,101,99,111,114,100,45,82,111,117,116,101],.int .i64 1,str [80,97,116,104],.int .i64 1,str [83,101,114,118,105,99,101,45,82,111,117,116,101],.int .i64 1,str [82,101,102,101,114,45,84,111],.int .i64 1,str [82,101,102,101,114,114,101,100,45,66,121],.int .i64 1,str [82,101,112,108,121,45,84,111],.int .i64 1,str [86,105,97],.int .i64 2,str [67,83,101,113],.int .i64 3,str [82,65,99,107],.int .i64 4,str [67,111,110,116,101,110,116,45,76,101,110,103,116,104],.int .i64 5,str [69,120,112,105,114,101,115],.int .i64 5,str [77,97,120,45,70,111,114,119,97,114,100,115],.int .i64 5,str [77,105,110,45,69,120,112,105,114,101,115],.int .i64 5,str [82,83,101,113],.int .i64 5,str [67,111,110,116,101,110,116,45,68,105,115,112,111,115,105,116,105,111,110],.int .i64 6,str [67,111,110,116,101,110,116,45,84,121,112,101],.int .i64 6,str [69,118,101,110,116],.int .i64 6,str [77,105,110,45,83,69],.int .i64 6,str [83,101,115,115,105,111,110,45,69,120,112,105,114,101,115],.int .i64 6,str [83,117,98,115,99,114,105,112,116,105,111,110,45,83,116,97,116,101],.int .i64 6,str [65,99,99,101,112,116],.int .i64 7,str [65,108,108,111,119],.int .i64 7,str [65,108,108,111,119,45,69,118,101,110,116,115],.int .i64 7,str [80,114,111,120,121,45,82,101,113,117,105,114,101],.int .i64 7,str [82,101,113,117,105,114,101],.int .i64 7,str [83,117,112,112,111,114,116,101,100],.int .i64 7,str [85,110,115,117,112,112,111,114,116,101,100],.int .i64 7]
  |8=>(Go.Pinned.utf8FirstZ.map fun(z:Nat)=>Value.int .u8 (z:Int)).toArray
  |_=>c) t fz
 |o=>o
noncomputable def laidWorld(os:Os):World:={World.holding Tryz.prog os ⟨#[.cells #[str [118,97,108,117,101,32,111,117,116,32,111,102,32,114,97,110,103,101]] 260,.cells #[str [105,110,118,97,108,105,100,32,115,121,110,116,97,120]] 260], #[],[]⟩with heap:=(World.holding Tryz.prog os ⟨#[.cells #[str [118,97,108,117,101,32,111,117,116,32,111,102,32,114,97,110,103,101]] 260,.cells #[str [105,110,118,97,108,105,100,32,115,121,110,116,97,120]] 260], #[],[]⟩).heap.mapIdx laidCells}
theorem own:ownKnob Tryz.prog.godebug=none:=by kernel_rfl
open YtcejgbgpflkedaaGreatDoor.Rows (uptoBulk uptoBulkAll)
theorem same_below{W W':World}(h:Below W.heap.size W W'){p:MemPlace}(hp:p.block<W.heap.size):W.sameAt W' p:=by
 cases p with
 |cell b off=>
  show W'.cell? _=W.cell? _;unfold World.cell?;rw [h.block b hp]
 |map b=>exact h.block b hp
theorem carryAll{H:Type}{enc:TypeId×Value->H}{P:Program}{W W':World}{sp:Nat->Bool}:∀{ts:List TypeId} {vs:List Value} {ds:List (DataW H)} {ps:List MemPlace},DataW.TrodAll enc P W 0 sp true ts vs ds ps->(∀p∈ps,W.sameAt W' p)->DataW.TrodAll enc P W' 0 sp true ts vs ds ps
 |[],[],[],_,h,_=>h
 |_::_,_::_,_::_,_,⟨p,q,⟨n,h1⟩,h2,e⟩,hs=>⟨p,q,⟨n,DataW.trod_carry n _ _ _ h1 fun x hx=>hs x (by rw [e];exact List.mem_append_left _ hx)⟩,carryAll h2 fun x hx=>hs x (by rw [e];exact List.mem_append_right _ hx),e⟩
theorem again{H:Type}{enc:TypeId×Value->H}{P:Program}{W W':World}{ts:List TypeId}{vs:List Value}{ds:List (DataW H)}{ps:List MemPlace}(hl:laidOutB P=true)(hm:mapsRowed P=true)
  (hf:((List.range P.types.size).all fun t=>match P.underlying t with|some (.slice e)=>decide (0<P.cellsOf e)|_=>true)=true) (hts:(ts.all fun t=>decide (t<P.types.size))=true)
  (h:DataW.TrodAll enc P W 0 (fun _=>true) true ts vs ds ps) (hb:Below W.heap.size W W') (hlt:∀p∈ps,p.block<W.heap.size) (sp:Nat->Bool) (hsp:∀p∈ps,sp p.block=true):DataW.TrodAll enc P W' 0 sp true ts vs ds ps:=by
 refine carryAll (DataW.TrodAll.respare (kids_rows hl hm) (slices_full_of P hf) (fun t ht=> ?_) h hsp) fun p hp=>same_below hb (hlt p hp)
 have:=List.all_eq_true.1 hts t ht
 simpa using this
def Dec(P:Program)(w:World){H:Type}(enc:TypeId×Value->H){α:Type}(t:TypeId)(f:α->List Value)(good:α->Prop)(sz:α->Nat):Prop:=
 ∀(base:Nat) (sp:Nat->Bool) (hd:Bool) (fuel:Nat) (cs:List Value) (x:DataW H×List MemPlace),DataW.trod enc P w base sp hd fuel t cs=some x->∃z,cs=f z/\good z/\sz z<=uptoBulk x.1
section
variable {P : Program} {w : World} {H : Type} {enc : TypeId × Value -> H} {t : TypeId}
theorem arz(ht:P.underlying t=some .string):Dec P w enc t eS (fun s=>s.length<=9223372036854775807) (fun s=>s.length):=by
 intro base sp hd fuel cs x h;obtain⟨s,rfl,hx,hs⟩:=DataW.trod_string ht h;refine⟨s.data.toList,rfl,lenOf hs, ?_⟩
 rw [hx];simp [uptoBulk]
theorem dec_int{k:IntKind}(ht:P.underlying t=some (.int k)):Dec P w enc t (eI k) (fun n=>(Lit.int k n).wf=true) (fun _=>0):=by
 intro base sp hd fuel cs x h;obtain⟨n,rfl,hx,hs⟩:=DataW.trod_int ht h;exact⟨n,rfl,hs,Nat.zero_le _⟩
theorem bulk_range{n:Nat}{D:Nat->DataW H}{α:Type}{sz:α->Nat}:∀(zs:List α),zs.length=n->(∀i (h:i<zs.length),sz zs[i]<=uptoBulk (D i))->(zs.map sz).sum<=uptoBulkAll ((List.range n).map D):=by
 intro zs;induction zs generalizing n D with
 |nil=>intro hn _;subst hn;simp
 |cons z zs ih=>
  intro hn h;subst hn;have h0:=h 0 (by simp)
  have:=ih (n:=zs.length) (D:=fun i=>D (i+1)) rfl (fun i hi=>by have:=h (i+1) (by simp;omega);simpa using this)
  rw [List.length_cons,List.range_succ_eq_map,List.map_cons,List.map_cons,List.sum_cons,uptoBulkAll,List.map_map];simp only [List.getElem_cons_zero]at h0;exact Nat.add_le_add h0 this
theorem cells_app{base:Nat}{a:Addr}{n:Nat}{cs:List Value}(h:w.cells? base a n=some cs):cs.length=n/\∀j v,cs[j]? =some v->w.cell? (a.add j)=some v:=by
 obtain⟨h1,h2,h3⟩:=World.cells?_some h;exact⟨h2,fun j v hj=>(h3 j (by have:=(List.getElem?_eq_some_iff.1 hj).1;omega)).trans hj⟩
theorem dec_slice{e:TypeId}{α:Type}{f:α->List Value}{good:α->Prop}{sz:α->Nat}(ht:P.underlying t=some (.slice e))(he:Dec P w enc e f good sz){base:Nat}{sp:Nat->Bool}{hd:Bool}{fuel:Nat}{cs:List Value}{x:DataW H×List MemPlace}
  (h:DataW.trod enc P w base sp hd fuel t cs=some x):∃a n cap,∃zs:List α,cs=[.slice a n cap]/\n=zs.length/\n<=cap/\Rd w a (zs.flatMap f)/\(∀z∈zs,good z)/\(zs.map sz).sum<=uptoBulk x.1:=by
 rcases Deep.open_slice ht h with⟨rfl,rfl⟩|⟨a,len,cap,m,n,D,Pl,rfl,hb,hl,hm,hmm,rfl,hx⟩
 ·exact⟨none,0,0,[],rfl,rfl,Nat.le_refl _,fun j v hj=>by simp at hj,fun z hz=>by simp at hz,Nat.zero_le _⟩
 ·have hlm:len<=m:=by rw [hmm];split<;>omega
  have key:∀k,k<=len->∃zs:List α,zs.length=k/\(∀z∈zs,good z)/\(∀i (hi:i<zs.length),sz zs[i]<=uptoBulk (D i))/\(zs.flatMap f).length=k*P.cellsOf e/\∀j v,(zs.flatMap f)[j]? =some v->w.cell? (a.add j)=some v:=by
   intro k;induction k with
   |zero=>intro _;exact⟨[],rfl,fun z hz=>by simp at hz,fun i hi=>by simp at hi,by simp,fun j v hj=>by simp at hj⟩
   |succ k ih=>
    intro hk;obtain⟨zs,h1,h2,h3,h4,h5⟩:=ih (by omega);obtain⟨cs',hc,ht'⟩:=hx k (by omega);obtain⟨z,rfl,hg,hs⟩:=he _ _ _ _ _ _ ht';obtain⟨hcl,hcc⟩:=cells_app hc;refine⟨zs++[z],by simp [h1],fun y hy=> ?_,fun i hi=> ?_, ?_,fun j v hj=> ?_⟩
    ·rcases List.mem_append.1 hy with hy|hy
     ·exact h2 y hy
     ·rw [List.mem_singleton.1 hy];exact hg
    ·by_cases hik:i<zs.length
     ·rw [List.getElem_append_left hik];exact h3 i hik
     ·have:i=k:=by simp at hi;omega
      subst this;simp only [h1.symm,List.getElem_concat_length];rw [h1];exact hs
    ·simp [h4,hcl,Nat.succ_mul]
    ·rw [List.flatMap_append,List.flatMap_singleton]at hj;by_cases hjl:j<(zs.flatMap f).length
     ·rw [List.getElem?_append_left hjl]at hj;exact h5 j v hj
     ·rw [List.getElem?_append_right (by omega),h4]at hj
      have:=hcc _ _ hj
      rw [h4]at hjl;have e:(a.add (k*P.cellsOf e)).add (j-k*P.cellsOf e)=a.add j:=by
       rw [Go.Wk.add_add];congr 1
       omega
      rw [e]at this;exact this
  obtain⟨zs,h1,h2,h3,h4,h5⟩:=key len (Nat.le_refl _);refine⟨some a,len,cap,zs,rfl,h1.symm,hl,fun j v hj=>⟨a,rfl,h5 j v hj⟩,h2, ?_⟩
  have:=bulk_range (sz:=sz) zs h1 h3
  simp only [uptoBulk];omega
theorem dec_u8n(ht:P.underlying t=some (.int .u8)):Dec P w enc t eB (fun _=>True) (fun _=>1):=by
 intro base sp hd fuel cs x h;obtain⟨n,rfl,hx,hs⟩:=DataW.trod_int ht h;have h1:0<=n/\n<=255:=by simpa [Lit.wf,show IntKind.u8.min=0 by decide,show IntKind.u8.max=255 by decide] using hs
 refine⟨UInt8.ofNat n.toNat, ?_,trivial, ?_⟩
 ·have:((UInt8.ofNat n.toNat).toNat:Int)=n:=by rw [UInt8.toNat_ofNat'];omega
  simp only [eB,bt,this]
 ·rw [hx];simp [uptoBulk]
theorem sum_one{α:Type}:∀l:List α,(l.map fun _=>1).sum=l.length
 |[]=>rfl
 |a::l=>by rw [List.map_cons,List.sum_cons,sum_one l,List.length_cons];omega
theorem dec_bytes{e:TypeId}(ht:P.underlying t=some (.slice e))(he:P.underlying e=some (.int .u8)){base:Nat}{sp:Nat->Bool}{hd:Bool}{fuel:Nat}{cs:List Value}{x:DataW H×List MemPlace}
  (h:DataW.trod enc P w base sp hd fuel t cs=some x):∃a n cap,∃zs:List UInt8,cs=[.slice a n cap]/\n=zs.length/\n<=cap/\Rd w a (zs.flatMap eB)/\(∀z∈zs,True)/\zs.length<=uptoBulk x.1:=by
 obtain⟨a,n,cap,zs,h1,h2,h3,h4,h5,h6⟩:=dec_slice ht (dec_u8n he) h;rw [sum_one]at h6;exact⟨a,n,cap,zs,h1,h2,h3,h4,h5,h6⟩
def flatT:TypeDesc->Bool
 |.struct _=>false
 |.array _ _=>false
 |_=>true
theorem oneCellOf{base:Nat}{v x:Value}{ty:TypeDesc}(ht:P.underlying t=some ty)(hval:Value.okWide P w .any base t v)(hf:flatT ty=true)(e:v.cells.toList=[x]):v=x:=by
 cases v with
 |agg cs=>
  exfalso;unfold Value.okWide Cell.okWide Cell.ok at hval;rw [ht]at hval;cases ty<;>first|(simp [flatT]at hf;done)|simp at hval
 |_=>simpa [Value.cells] using e
end
open Go.Shelf
open Go.Lib renaming cut -> zbm, index -> zar, indexAny -> zaR, join -> zax
def Tryz.lays156_ren:Go.Shelf.Ren:=⟨fun|156=>56|165=>125|166=>98|169=>104|240=>164|241=>191|276=>223|277=>238|n=>n,fun|31=>37|9=>9|3=>3|4=>4|0=>0|20=>20|72=>116|76=>93|70=>114|37=>23|75=>92|127=>172|164=>214|5=>5|80=>121|n=>n,fun|n=>n⟩
theorem Tryz.lays156:Go.Proofs.Lays.n156 Tryz.prog Tryz.lays156_ren:={
 mixed:=by kernel_rfl
 f156:=Tryz.func56.trans ksf
 f165:=Tryz.func125.trans ksf
 f166:=Tryz.func98.trans ksf
 f169:=Tryz.func104.trans ksf
 f240:=Tryz.func164.trans ksf
 f241:=Tryz.func191.trans ksf
 f276:=Tryz.func223.trans ksf
 f277:=Tryz.func238.trans ksf
 t0:=Tryz.underlying0
 a0:=Tryz.isAgg0
 z0:=Tryz.sizeOf0
 v0:=Tryz.zeroValue0
 t3:=Tryz.underlying3
 a3:=Tryz.isAgg3
 z3:=Tryz.sizeOf3
 v3:=Tryz.zeroValue3
 t4:=Tryz.underlying4
 a4:=Tryz.isAgg4
 z4:=Tryz.sizeOf4
 v4:=Tryz.zeroValue4
 t9:=Tryz.underlying9
 a9:=Tryz.isAgg9
 z9:=Tryz.sizeOf9
 v9:=Tryz.zeroValue9
 t20:=Tryz.underlying20
 a20:=Tryz.isAgg20
 z20:=Tryz.sizeOf20
 v20:=Tryz.zeroValue20
 t31:=Tryz.underlying37
 a31:=Tryz.isAgg37
 z31:=Tryz.sizeOf37
 v31:=Tryz.zeroValue37
 t37:=Tryz.underlying23
 a37:=Tryz.isAgg23
 z37:=Tryz.sizeOf23
 v37:=Tryz.zeroValue23
 t70:=Tryz.underlying114
 a70:=Tryz.isAgg114
 z70:=Tryz.sizeOf114
 v70:=Tryz.zeroValue114
 t72:=Tryz.underlying116
 a72:=Tryz.isAgg116
 z72:=Tryz.sizeOf116
 v72:=Tryz.zeroValue116
 t75:=Tryz.underlying92
 a75:=Tryz.isAgg92
 z75:=Tryz.sizeOf92
 v75:=Tryz.zeroValue92
 t76:=Tryz.underlying93
 a76:=Tryz.isAgg93
 z76:=Tryz.sizeOf93
 v76:=Tryz.zeroValue93
 t127:=Tryz.underlying172
 a127:=Tryz.isAgg172
 z127:=Tryz.sizeOf172
 v127:=Tryz.zeroValue172
 t164:=Tryz.underlying214
 a164:=Tryz.isAgg214
 z164:=Tryz.sizeOf214
 v164:=Tryz.zeroValue214}
theorem Tryz.Builder_Extra_156:Builder.Extra Tryz.prog Tryz.lays156_ren:={
 sizeBuilder:=by kernel_rfl
 liesBuilder:=by kernel_rfl
 t5:=Tryz.underlying5
 a5:=Tryz.isAgg5
 z5:=Tryz.sizeOf5
 v5:=Tryz.zeroValue5
 infoByte:=by kernel_rfl
 cellsByte:=by kernel_rfl
 sizeByte:=by kernel_rfl
 neB5:=by decide}
open Go.RowKit in
theorem Tryz.strings_Join_none (a : Option Addr) (c : Nat) (sep : ByteArray) (w : World) :
    Calls Tryz.prog 56 #[.slice a 0 c, .string sep] w fun e w' => e = .returned (.string ⟨#[]⟩) /\ w' = w := Any.strings_Join_none Tryz.lays156 Tryz.Builder_Extra_156 a c sep w
open Go.RowKit in
theorem Tryz.strings_Join (bk o c : Nat) (xs : List ByteArray) (sep : ByteArray) (w : World) (hcells : ∀ (j : Nat) x, xs[j]? = some x -> w.cell? ⟨bk, o + j, none⟩ = some (.string x)) (hbk : bk < w.heap.size) (hN : xs.length <= 140737488355328) (hcap : xs.length <= c) (hlen : (zax (xs.map (·.data.toList)) sep.data.toList).length <= 140737488355328) :
    Calls Tryz.prog 56 #[.slice (some ⟨bk, o, none⟩) xs.length c, .string sep] w fun e w' => e = .returned (.string ⟨(zax (xs.map (·.data.toList)) sep.data.toList).toArray⟩) /\ Below w.heap.size w w' := Any.strings_Join Tryz.lays156 Tryz.Builder_Extra_156 bk o c xs sep w hcells hbk hN hcap hlen
def Tryz.lays161_ren:Go.Shelf.Ren:=⟨fun|161=>234|231=>173|227=>115|233=>175|235=>177|228=>116|197=>228|151=>229|260=>264|152=>113|137=>72|119=>179|224=>180|225=>181|217=>139|266=>201|n=>n,fun|9=>9|4=>4|3=>3|5=>5|117=>130|116=>129|0=>0|124=>178|105=>226|21=>21|119=>265|46=>181|139=>268|138=>267|n=>n,fun|3=>8|4=>9|n=>n⟩
theorem Tryz.lays161:Go.Proofs.Lays.n161 Tryz.prog Tryz.lays161_ren:={
 mixed:=by kernel_rfl
 f119:=Tryz.func179.trans ksf
 f137:=Tryz.func72.trans ksf
 f151:=Tryz.func229.trans ksf
 f152:=Tryz.func113.trans ksf
 f161:=Tryz.func234.trans ksf
 f197:=Tryz.func228.trans ksf
 f217:=Tryz.func139.trans ksf
 f224:=Tryz.func180.trans ksf
 f225:=Tryz.func181.trans ksf
 f227:=Tryz.func115.trans ksf
 f228:=Tryz.func116.trans ksf
 f231:=Tryz.func173.trans ksf
 f233:=Tryz.func175.trans ksf
 f235:=Tryz.func177.trans ksf
 f260:=Tryz.func264.trans ksf
 f266:=Tryz.func201.trans ksf
 t0:=Tryz.underlying0
 a0:=Tryz.isAgg0
 z0:=Tryz.sizeOf0
 v0:=Tryz.zeroValue0
 t3:=Tryz.underlying3
 a3:=Tryz.isAgg3
 z3:=Tryz.sizeOf3
 v3:=Tryz.zeroValue3
 t4:=Tryz.underlying4
 a4:=Tryz.isAgg4
 z4:=Tryz.sizeOf4
 v4:=Tryz.zeroValue4
 t5:=Tryz.underlying5
 a5:=Tryz.isAgg5
 z5:=Tryz.sizeOf5
 v5:=Tryz.zeroValue5
 t9:=Tryz.underlying9
 a9:=Tryz.isAgg9
 z9:=Tryz.sizeOf9
 v9:=Tryz.zeroValue9
 t21:=Tryz.underlying21
 a21:=Tryz.isAgg21
 z21:=Tryz.sizeOf21
 v21:=Tryz.zeroValue21
 t46:=Tryz.underlying181
 a46:=Tryz.isAgg181
 z46:=Tryz.sizeOf181
 v46:=Tryz.zeroValue181
 t105:=Tryz.underlying226
 a105:=Tryz.isAgg226
 z105:=Tryz.sizeOf226
 v105:=Tryz.zeroValue226
 t116:=Tryz.underlying129
 a116:=Tryz.isAgg129
 z116:=Tryz.sizeOf129
 t117:=Tryz.underlying130
 a117:=Tryz.isAgg130
 z117:=Tryz.sizeOf130
 v117:=Tryz.zeroValue130
 t119:=Tryz.underlying265
 a119:=Tryz.isAgg265
 z119:=Tryz.sizeOf265
 t124:=Tryz.underlying178
 a124:=Tryz.isAgg178
 z124:=Tryz.sizeOf178
 v124:=Tryz.zeroValue178
 t138:=Tryz.underlying267
 a138:=Tryz.isAgg267
 z138:=Tryz.sizeOf267
 v138:=Tryz.zeroValue267
 t139:=Tryz.underlying268
 a139:=Tryz.isAgg268
 z139:=Tryz.sizeOf268
 v139:=Tryz.zeroValue268
 g3:=by kernel_rfl
 g4:=by kernel_rfl}
def Tryz.lays162_ren:Go.Shelf.Ren:=⟨fun|162=>263|232=>174|227=>115|234=>176|236=>178|228=>116|271=>230|151=>229|120=>265|197=>228|152=>113|260=>264|137=>72|119=>179|224=>180|225=>181|217=>139|266=>201|n=>n,fun|9=>9|4=>4|3=>3|5=>5|117=>130|116=>129|0=>0|124=>178|21=>21|105=>226|46=>181|119=>265|139=>268|138=>267|n=>n,fun|3=>8|4=>9|n=>n⟩
theorem Tryz.lays162:Go.Proofs.Lays.n162 Tryz.prog Tryz.lays162_ren:={
 mixed:=by kernel_rfl
 f119:=Tryz.func179.trans ksf
 f120:=Tryz.func265.trans ksf
 f137:=Tryz.func72.trans ksf
 f151:=Tryz.func229.trans ksf
 f152:=Tryz.func113.trans ksf
 f162:=Tryz.func263.trans ksf
 f197:=Tryz.func228.trans ksf
 f217:=Tryz.func139.trans ksf
 f224:=Tryz.func180.trans ksf
 f225:=Tryz.func181.trans ksf
 f227:=Tryz.func115.trans ksf
 f228:=Tryz.func116.trans ksf
 f232:=Tryz.func174.trans ksf
 f234:=Tryz.func176.trans ksf
 f236:=Tryz.func178.trans ksf
 f260:=Tryz.func264.trans ksf
 f266:=Tryz.func201.trans ksf
 f271:=Tryz.func230.trans ksf
 t0:=Tryz.underlying0
 a0:=Tryz.isAgg0
 z0:=Tryz.sizeOf0
 v0:=Tryz.zeroValue0
 t3:=Tryz.underlying3
 a3:=Tryz.isAgg3
 z3:=Tryz.sizeOf3
 v3:=Tryz.zeroValue3
 t4:=Tryz.underlying4
 a4:=Tryz.isAgg4
 z4:=Tryz.sizeOf4
 v4:=Tryz.zeroValue4
 t5:=Tryz.underlying5
 a5:=Tryz.isAgg5
 z5:=Tryz.sizeOf5
 v5:=Tryz.zeroValue5
 t9:=Tryz.underlying9
 a9:=Tryz.isAgg9
 z9:=Tryz.sizeOf9
 v9:=Tryz.zeroValue9
 t21:=Tryz.underlying21
 a21:=Tryz.isAgg21
 z21:=Tryz.sizeOf21
 v21:=Tryz.zeroValue21
 t46:=Tryz.underlying181
 a46:=Tryz.isAgg181
 z46:=Tryz.sizeOf181
 v46:=Tryz.zeroValue181
 t105:=Tryz.underlying226
 a105:=Tryz.isAgg226
 z105:=Tryz.sizeOf226
 v105:=Tryz.zeroValue226
 t116:=Tryz.underlying129
 a116:=Tryz.isAgg129
 z116:=Tryz.sizeOf129
 t117:=Tryz.underlying130
 a117:=Tryz.isAgg130
 z117:=Tryz.sizeOf130
 v117:=Tryz.zeroValue130
 t119:=Tryz.underlying265
 a119:=Tryz.isAgg265
 z119:=Tryz.sizeOf265
 t124:=Tryz.underlying178
 a124:=Tryz.isAgg178
 z124:=Tryz.sizeOf178
 v124:=Tryz.zeroValue178
 t138:=Tryz.underlying267
 a138:=Tryz.isAgg267
 z138:=Tryz.sizeOf267
 v138:=Tryz.zeroValue267
 t139:=Tryz.underlying268
 a139:=Tryz.isAgg268
 z139:=Tryz.sizeOf268
 v139:=Tryz.zeroValue268
 g3:=by kernel_rfl
 g4:=by kernel_rfl}
def Tryz.lays160_ren:Go.Shelf.Ren:=⟨fun|160=>109|232=>174|231=>173|227=>115|234=>176|233=>175|236=>178|235=>177|228=>116|271=>230|151=>229|197=>228|120=>265|152=>113|260=>264|137=>72|119=>179|224=>180|225=>181|217=>139|266=>201|n=>n,fun|9=>9|4=>4|3=>3|5=>5|117=>130|116=>129|0=>0|124=>178|21=>21|105=>226|46=>181|119=>265|139=>268|138=>267|n=>n,fun|3=>8|4=>9|n=>n⟩
theorem Tryz.lays160:Go.Proofs.Lays.n160 Tryz.prog Tryz.lays160_ren:={
 mixed:=by kernel_rfl
 f119:=Tryz.func179.trans ksf
 f120:=Tryz.func265.trans ksf
 f137:=Tryz.func72.trans ksf
 f151:=Tryz.func229.trans ksf
 f152:=Tryz.func113.trans ksf
 f160:=Tryz.func109.trans ksf
 f197:=Tryz.func228.trans ksf
 f217:=Tryz.func139.trans ksf
 f224:=Tryz.func180.trans ksf
 f225:=Tryz.func181.trans ksf
 f227:=Tryz.func115.trans ksf
 f228:=Tryz.func116.trans ksf
 f231:=Tryz.func173.trans ksf
 f232:=Tryz.func174.trans ksf
 f233:=Tryz.func175.trans ksf
 f234:=Tryz.func176.trans ksf
 f235:=Tryz.func177.trans ksf
 f236:=Tryz.func178.trans ksf
 f260:=Tryz.func264.trans ksf
 f266:=Tryz.func201.trans ksf
 f271:=Tryz.func230.trans ksf
 t0:=Tryz.underlying0
 a0:=Tryz.isAgg0
 z0:=Tryz.sizeOf0
 v0:=Tryz.zeroValue0
 t3:=Tryz.underlying3
 a3:=Tryz.isAgg3
 z3:=Tryz.sizeOf3
 v3:=Tryz.zeroValue3
 t4:=Tryz.underlying4
 a4:=Tryz.isAgg4
 z4:=Tryz.sizeOf4
 v4:=Tryz.zeroValue4
 t5:=Tryz.underlying5
 a5:=Tryz.isAgg5
 z5:=Tryz.sizeOf5
 v5:=Tryz.zeroValue5
 t9:=Tryz.underlying9
 a9:=Tryz.isAgg9
 z9:=Tryz.sizeOf9
 v9:=Tryz.zeroValue9
 t21:=Tryz.underlying21
 a21:=Tryz.isAgg21
 z21:=Tryz.sizeOf21
 v21:=Tryz.zeroValue21
 t46:=Tryz.underlying181
 a46:=Tryz.isAgg181
 z46:=Tryz.sizeOf181
 v46:=Tryz.zeroValue181
 t105:=Tryz.underlying226
 a105:=Tryz.isAgg226
 z105:=Tryz.sizeOf226
 v105:=Tryz.zeroValue226
 t116:=Tryz.underlying129
 a116:=Tryz.isAgg129
 z116:=Tryz.sizeOf129
 t117:=Tryz.underlying130
 a117:=Tryz.isAgg130
 z117:=Tryz.sizeOf130
 v117:=Tryz.zeroValue130
 t119:=Tryz.underlying265
 a119:=Tryz.isAgg265
 z119:=Tryz.sizeOf265
 t124:=Tryz.underlying178
 a124:=Tryz.isAgg178
 z124:=Tryz.sizeOf178
 v124:=Tryz.zeroValue178
 t138:=Tryz.underlying267
 a138:=Tryz.isAgg267
 z138:=Tryz.sizeOf267
 v138:=Tryz.zeroValue267
 t139:=Tryz.underlying268
 a139:=Tryz.isAgg268
 z139:=Tryz.sizeOf268
 v139:=Tryz.zeroValue268
 g3:=by kernel_rfl
 g4:=by kernel_rfl}
def Tryz.lays137_ren:Go.Shelf.Ren:=⟨fun|137=>72|217=>139|266=>201|n=>n,fun|9=>9|5=>5|3=>3|n=>n,fun|n=>n⟩
theorem Tryz.lays137:Go.Proofs.Lays.n137 Tryz.prog Tryz.lays137_ren:={
 mixed:=by kernel_rfl
 f137:=Tryz.func72.trans ksf
 f217:=Tryz.func139.trans ksf
 f266:=Tryz.func201.trans ksf
 t3:=Tryz.underlying3
 a3:=Tryz.isAgg3
 z3:=Tryz.sizeOf3
 v3:=Tryz.zeroValue3
 t5:=Tryz.underlying5
 a5:=Tryz.isAgg5
 z5:=Tryz.sizeOf5
 v5:=Tryz.zeroValue5
 t9:=Tryz.underlying9
 a9:=Tryz.isAgg9
 z9:=Tryz.sizeOf9
 v9:=Tryz.zeroValue9}
open Go.RowKit in
theorem Tryz.strings_IndexByte (s : ByteArray) (c : Int) (w : World) :
    Calls Tryz.prog 72 #[.string s, .int .u8 c] w fun e w' => e = .returned (.int .i64 (Lib.indexByte s.data.toList c.toNat.toUInt8)) /\ w' = w := Any.strings_IndexByte Tryz.lays137 s c w
def Tryz.lays103_ren:Go.Shelf.Ren:=⟨fun|103=>277|210=>283|206=>245|n=>n,fun|9=>9|4=>4|24=>39|3=>3|n=>n,fun|n=>n⟩
theorem Tryz.lays103:Go.Proofs.Lays.n103 Tryz.prog Tryz.lays103_ren:={
 mixed:=by kernel_rfl
 f103:=Tryz.func277.trans ksf
 f206:=Tryz.func245.trans ksf
 f210:=Tryz.func283.trans ksf
 t3:=Tryz.underlying3
 a3:=Tryz.isAgg3
 z3:=Tryz.sizeOf3
 v3:=Tryz.zeroValue3
 t4:=Tryz.underlying4
 a4:=Tryz.isAgg4
 z4:=Tryz.sizeOf4
 v4:=Tryz.zeroValue4
 t9:=Tryz.underlying9
 a9:=Tryz.isAgg9
 z9:=Tryz.sizeOf9
 v9:=Tryz.zeroValue9
 t24:=Tryz.underlying39
 a24:=Tryz.isAgg39
 z24:=Tryz.sizeOf39
 v24:=Tryz.zeroValue39}
open Go.RowKit in
theorem Tryz.strings_CutPrefix (s p : ByteArray) (w : World) :
    Calls Tryz.prog 277 #[.string s, .string p] w fun e w' => e = .returned (.tuple #[.string ⟨(Lib.trimPrefix s.data.toList p.data.toList).toArray⟩, .bool (Lib.hasPrefix s.data.toList p.data.toList)]) /\ w' = w := Any.strings_CutPrefix Tryz.lays103 s p w
def Tryz.laysM171_ren:Go.Shelf.Ren:=⟨fun|171=>30|243=>92|246=>156|283=>215|284=>216|285=>217|286=>218|129=>252|317=>251|318=>253|319=>254|320=>255|337=>275|338=>276|n=>n,fun|3=>3|9=>9|2=>2|4=>4|171=>203|0=>0|53=>204|37=>23|5=>5|173=>207|212=>248|51=>217|20=>20|213=>249|46=>181|232=>169|233=>219|n=>n,fun|17=>6|18=>10|19=>11|n=>n⟩
theorem Tryz.laysM171:Go.Proofs.LaysM.n171 Tryz.prog Tryz.laysM171_ren:={
 mixed:=by kernel_rfl
 f129:=Tryz.func252.trans ksf
 f171:=Tryz.func30.trans ksf
 f243:=Tryz.func92.trans ksf
 f246:=Tryz.func156.trans ksf
 f283:=Tryz.func215.trans ksf
 f284:=Tryz.func216.trans ksf
 f285:=Tryz.func217.trans ksf
 f286:=Tryz.func218.trans ksf
 f317:=Tryz.func251.trans ksf
 f318:=Tryz.func253.trans ksf
 f319:=Tryz.func254.trans ksf
 f320:=Tryz.func255.trans ksf
 f337:=Tryz.func275.trans ksf
 f338:=Tryz.func276.trans ksf
 t0:=Tryz.underlying0
 a0:=Tryz.isAgg0
 z0:=Tryz.sizeOf0
 v0:=Tryz.zeroValue0
 t2:=Tryz.underlying2
 a2:=Tryz.isAgg2
 z2:=Tryz.sizeOf2
 v2:=Tryz.zeroValue2
 t3:=Tryz.underlying3
 a3:=Tryz.isAgg3
 z3:=Tryz.sizeOf3
 v3:=Tryz.zeroValue3
 t4:=Tryz.underlying4
 a4:=Tryz.isAgg4
 z4:=Tryz.sizeOf4
 v4:=Tryz.zeroValue4
 t5:=Tryz.underlying5
 a5:=Tryz.isAgg5
 z5:=Tryz.sizeOf5
 v5:=Tryz.zeroValue5
 t9:=Tryz.underlying9
 a9:=Tryz.isAgg9
 z9:=Tryz.sizeOf9
 v9:=Tryz.zeroValue9
 t20:=Tryz.underlying20
 a20:=Tryz.isAgg20
 z20:=Tryz.sizeOf20
 v20:=Tryz.zeroValue20
 t37:=Tryz.underlying23
 a37:=Tryz.isAgg23
 z37:=Tryz.sizeOf23
 v37:=Tryz.zeroValue23
 t46:=Tryz.underlying181
 a46:=Tryz.isAgg181
 z46:=Tryz.sizeOf181
 v46:=Tryz.zeroValue181
 t51:=Tryz.underlying217
 a51:=Tryz.isAgg217
 z51:=Tryz.sizeOf217
 v51:=Tryz.zeroValue217
 t53:=Tryz.underlying204
 a53:=Tryz.isAgg204
 z53:=Tryz.sizeOf204
 v53:=Tryz.zeroValue204
 t171:=Tryz.underlying203
 a171:=Tryz.isAgg203
 z171:=Tryz.sizeOf203
 v171:=Tryz.zeroValue203
 t173:=Tryz.underlying207
 a173:=Tryz.isAgg207
 z173:=Tryz.sizeOf207
 v173:=Tryz.zeroValue207
 t212:=Tryz.underlying248
 a212:=Tryz.isAgg248
 z212:=Tryz.sizeOf248
 v212:=Tryz.zeroValue248
 t213:=Tryz.underlying249
 a213:=Tryz.isAgg249
 z213:=Tryz.sizeOf249
 t232:=Tryz.underlying169
 a232:=Tryz.isAgg169
 z232:=Tryz.sizeOf169
 v232:=Tryz.zeroValue169
 t233:=Tryz.underlying219
 a233:=Tryz.isAgg219
 z233:=Tryz.sizeOf219
 v233:=Tryz.zeroValue219
 g17:=by kernel_rfl
 g18:=by kernel_rfl
 g19:=by kernel_rfl
 i0:=by kernel_rfl
 i2:=by kernel_rfl
 i3:=by kernel_rfl
 i4:=by kernel_rfl
 i5:=by kernel_rfl
 i9:=by kernel_rfl
 i20:=by kernel_rfl
 i37:=by kernel_rfl
 i46:=by kernel_rfl
 i51:=by kernel_rfl
 i53:=by kernel_rfl
 i171:=by kernel_rfl
 i173:=by kernel_rfl
 i212:=by kernel_rfl
 i232:=by kernel_rfl
 i233:=by kernel_rfl
 m17:=by kernel_rfl
 m18:=by kernel_rfl
 m19:=by kernel_rfl}
open Go.RowKit Go.Sort Go.Lib in
theorem Tryz.strconv_Itoa (n : Int) (h0 : -9223372036854775808 <= n) (h1 : n <= 9223372036854775807) (w : World) (htab : Lib.TabIs Tryz.prog w "internal/strconv.uint64pow10" .u64 Lib.pow10Tab) :
    Calls Tryz.prog 30 #[.int .i64 n] w fun e w' => e = .returned (.string ⟨(Lib.itoa n).toArray⟩) /\ ∃ k os, w' = grow (w.drewN k) os := Any.strconv_Itoa Tryz.laysM171 n h0 h1 w htab
def Tryz.lays143_ren:Go.Shelf.Ren:=⟨fun|143=>182|219=>231|217=>139|225=>181|224=>180|267=>266|266=>201|314=>279|n=>n,fun|9=>9|3=>3|4=>4|5=>5|46=>181|146=>269|51=>217|n=>n,fun|1=>1|n=>n⟩
theorem Tryz.lays143:Go.Proofs.Lays.n143 Tryz.prog Tryz.lays143_ren:={
 mixed:=by kernel_rfl
 f143:=Tryz.func182.trans ksf
 f217:=Tryz.func139.trans ksf
 f219:=Tryz.func231.trans ksf
 f224:=Tryz.func180.trans ksf
 f225:=Tryz.func181.trans ksf
 f266:=Tryz.func201.trans ksf
 f267:=Tryz.func266.trans ksf
 f314:=Tryz.func279.trans ksf
 t3:=Tryz.underlying3
 a3:=Tryz.isAgg3
 z3:=Tryz.sizeOf3
 v3:=Tryz.zeroValue3
 t4:=Tryz.underlying4
 a4:=Tryz.isAgg4
 z4:=Tryz.sizeOf4
 v4:=Tryz.zeroValue4
 t5:=Tryz.underlying5
 a5:=Tryz.isAgg5
 z5:=Tryz.sizeOf5
 v5:=Tryz.zeroValue5
 t9:=Tryz.underlying9
 a9:=Tryz.isAgg9
 z9:=Tryz.sizeOf9
 v9:=Tryz.zeroValue9
 t46:=Tryz.underlying181
 a46:=Tryz.isAgg181
 z46:=Tryz.sizeOf181
 v46:=Tryz.zeroValue181
 t51:=Tryz.underlying217
 a51:=Tryz.isAgg217
 z51:=Tryz.sizeOf217
 v51:=Tryz.zeroValue217
 t146:=Tryz.underlying269
 a146:=Tryz.isAgg269
 z146:=Tryz.sizeOf269
 v146:=Tryz.zeroValue269
 g1:=by kernel_rfl}
open Go.RowKit Go.Lib in
theorem Tryz.strings_Index (s sub : ByteArray) (m : Int) (w : World) (hs : s.size < 4294967281) (hm : w.cell? ⟨1, 0, none⟩ = some (.int .i64 m)) :
    Calls Tryz.prog 182 #[.string s, .string sub] w fun e w' => e = .returned (.int .i64 (zar s.data.toList sub.data.toList)) /\ w' = w := Any.strings_Index Tryz.lays143 s sub m w hs hm
def Tryz.lays144_ren:Go.Shelf.Ren:=⟨fun|144=>117|143=>182|219=>231|217=>139|225=>181|224=>180|267=>266|266=>201|314=>279|n=>n,fun|9=>9|4=>4|3=>3|5=>5|46=>181|146=>269|51=>217|n=>n,fun|1=>1|n=>n⟩
theorem Tryz.lays144:Go.Proofs.Lays.n144 Tryz.prog Tryz.lays144_ren:={
 mixed:=by kernel_rfl
 f143:=Tryz.func182.trans ksf
 f144:=Tryz.func117.trans ksf
 f217:=Tryz.func139.trans ksf
 f219:=Tryz.func231.trans ksf
 f224:=Tryz.func180.trans ksf
 f225:=Tryz.func181.trans ksf
 f266:=Tryz.func201.trans ksf
 f267:=Tryz.func266.trans ksf
 f314:=Tryz.func279.trans ksf
 t3:=Tryz.underlying3
 a3:=Tryz.isAgg3
 z3:=Tryz.sizeOf3
 v3:=Tryz.zeroValue3
 t4:=Tryz.underlying4
 a4:=Tryz.isAgg4
 z4:=Tryz.sizeOf4
 v4:=Tryz.zeroValue4
 t5:=Tryz.underlying5
 a5:=Tryz.isAgg5
 z5:=Tryz.sizeOf5
 v5:=Tryz.zeroValue5
 t9:=Tryz.underlying9
 a9:=Tryz.isAgg9
 z9:=Tryz.sizeOf9
 v9:=Tryz.zeroValue9
 t46:=Tryz.underlying181
 a46:=Tryz.isAgg181
 z46:=Tryz.sizeOf181
 v46:=Tryz.zeroValue181
 t51:=Tryz.underlying217
 a51:=Tryz.isAgg217
 z51:=Tryz.sizeOf217
 v51:=Tryz.zeroValue217
 t146:=Tryz.underlying269
 a146:=Tryz.isAgg269
 z146:=Tryz.sizeOf269
 v146:=Tryz.zeroValue269
 g1:=by kernel_rfl}
open Go.RowKit Go.Lib in
theorem Tryz.strings_Contains (s sub : ByteArray) (m : Int) (w : World) (hs : s.size < 4294967281) (hm : w.cell? ⟨1, 0, none⟩ = some (.int .i64 m)) :
    Calls Tryz.prog 117 #[.string s, .string sub] w fun e w' => e = .returned (.bool (Lib.contains s.data.toList sub.data.toList)) /\ w' = w := Any.strings_Contains Tryz.lays144 s sub m w hs hm
def Tryz.lays145_ren:Go.Shelf.Ren:=⟨fun|145=>183|220=>232|219=>231|217=>139|225=>181|224=>180|267=>266|266=>201|314=>279|n=>n,fun|9=>9|4=>4|59=>77|3=>3|5=>5|46=>181|146=>269|51=>217|n=>n,fun|1=>1|n=>n⟩
theorem Tryz.lays145:Go.Proofs.Lays.n145 Tryz.prog Tryz.lays145_ren:={
 mixed:=by kernel_rfl
 f145:=Tryz.func183.trans ksf
 f217:=Tryz.func139.trans ksf
 f219:=Tryz.func231.trans ksf
 f220:=Tryz.func232.trans ksf
 f224:=Tryz.func180.trans ksf
 f225:=Tryz.func181.trans ksf
 f266:=Tryz.func201.trans ksf
 f267:=Tryz.func266.trans ksf
 f314:=Tryz.func279.trans ksf
 t3:=Tryz.underlying3
 a3:=Tryz.isAgg3
 z3:=Tryz.sizeOf3
 v3:=Tryz.zeroValue3
 t4:=Tryz.underlying4
 a4:=Tryz.isAgg4
 z4:=Tryz.sizeOf4
 v4:=Tryz.zeroValue4
 t5:=Tryz.underlying5
 a5:=Tryz.isAgg5
 z5:=Tryz.sizeOf5
 v5:=Tryz.zeroValue5
 t9:=Tryz.underlying9
 a9:=Tryz.isAgg9
 z9:=Tryz.sizeOf9
 v9:=Tryz.zeroValue9
 t46:=Tryz.underlying181
 a46:=Tryz.isAgg181
 z46:=Tryz.sizeOf181
 v46:=Tryz.zeroValue181
 t51:=Tryz.underlying217
 a51:=Tryz.isAgg217
 z51:=Tryz.sizeOf217
 v51:=Tryz.zeroValue217
 t59:=Tryz.underlying77
 a59:=Tryz.isAgg77
 z59:=Tryz.sizeOf77
 v59:=Tryz.zeroValue77
 t146:=Tryz.underlying269
 a146:=Tryz.isAgg269
 z146:=Tryz.sizeOf269
 v146:=Tryz.zeroValue269
 g1:=by kernel_rfl}
open Go.RowKit Go.Lib in
theorem Tryz.strings_Cut (s sep : ByteArray) (m : Int) (w : World) (hs : s.size < 4294967281) (hm : w.cell? ⟨1, 0, none⟩ = some (.int .i64 m)) :
    Calls Tryz.prog 183 #[.string s, .string sep] w fun e w' => e = .returned (.tuple #[.string ⟨(zbm s.data.toList sep.data.toList).1.toArray⟩, .string ⟨(zbm s.data.toList sep.data.toList).2.1.toArray⟩, .bool (zbm s.data.toList sep.data.toList).2.2]) /\ ∃ n, w' = w.drewN n := Any.strings_Cut Tryz.lays145 s sep m w hs hm
def Tryz.lays149_ren:Go.Shelf.Ren:=⟨fun|149=>70|222=>136|n=>n,fun|9=>9|5=>5|3=>3|4=>4|n=>n,fun|n=>n⟩
theorem Tryz.lays149:Go.Proofs.Lays.n149 Tryz.prog Tryz.lays149_ren:={
 mixed:=by kernel_rfl
 f149:=Tryz.func70.trans ksf
 f222:=Tryz.func136.trans ksf
 t3:=Tryz.underlying3
 a3:=Tryz.isAgg3
 z3:=Tryz.sizeOf3
 v3:=Tryz.zeroValue3
 t4:=Tryz.underlying4
 a4:=Tryz.isAgg4
 z4:=Tryz.sizeOf4
 v4:=Tryz.zeroValue4
 t5:=Tryz.underlying5
 a5:=Tryz.isAgg5
 z5:=Tryz.sizeOf5
 v5:=Tryz.zeroValue5
 t9:=Tryz.underlying9
 a9:=Tryz.isAgg9
 z9:=Tryz.sizeOf9
 v9:=Tryz.zeroValue9}
open Go.RowKit Go.Lib in
theorem Tryz.strings_LastIndexByte (s : ByteArray) (c : Int) (hs : s.size < 4611686018427387904) (w : World) :
    Calls Tryz.prog 70 #[.string s, .int .u8 c] w fun e w' => e = .returned (.int .i64 (Lib.lastIndexByte s c)) /\ w' = w := Any.strings_LastIndexByte Tryz.lays149 s c hs w
def Tryz.lays101_ren:Go.Shelf.Ren:=⟨fun|101=>142|208=>206|206=>245|n=>n,fun|9=>9|4=>4|3=>3|n=>n,fun|n=>n⟩
theorem Tryz.lays101:Go.Proofs.Lays.n101 Tryz.prog Tryz.lays101_ren:={
 mixed:=by kernel_rfl
 f101:=Tryz.func142.trans ksf
 f206:=Tryz.func245.trans ksf
 f208:=Tryz.func206.trans ksf
 t3:=Tryz.underlying3
 a3:=Tryz.isAgg3
 z3:=Tryz.sizeOf3
 v3:=Tryz.zeroValue3
 t4:=Tryz.underlying4
 a4:=Tryz.isAgg4
 z4:=Tryz.sizeOf4
 v4:=Tryz.zeroValue4
 t9:=Tryz.underlying9
 a9:=Tryz.isAgg9
 z9:=Tryz.sizeOf9
 v9:=Tryz.zeroValue9}
open Go.RowKit Go.Lib in
theorem Tryz.strings_TrimPrefix (s p : ByteArray) (w : World) :
    Calls Tryz.prog 142 #[.string s, .string p] w fun e w' => e = .returned (.string ⟨(Lib.trimPrefix s.data.toList p.data.toList).toArray⟩) /\ w' = w := Any.strings_TrimPrefix Tryz.lays101 s p w
def Tryz.lays146_ren:Go.Shelf.Ren:=⟨fun|146=>185|221=>235|268=>267|138=>268|143=>182|195=>280|197=>228|218=>281|219=>231|260=>264|217=>139|225=>181|224=>180|267=>266|266=>201|314=>279|n=>n,fun|9=>9|31=>37|3=>3|4=>4|0=>0|105=>226|21=>21|5=>5|46=>181|119=>265|139=>268|138=>267|146=>269|51=>217|n=>n,fun|1=>1|3=>8|4=>9|n=>n⟩
theorem Tryz.lays146:Go.Proofs.Lays.n146 Tryz.prog Tryz.lays146_ren:={
 mixed:=by kernel_rfl
 f138:=Tryz.func268.trans ksf
 f143:=Tryz.func182.trans ksf
 f146:=Tryz.func185.trans ksf
 f195:=Tryz.func280.trans ksf
 f197:=Tryz.func228.trans ksf
 f217:=Tryz.func139.trans ksf
 f218:=Tryz.func281.trans ksf
 f219:=Tryz.func231.trans ksf
 f221:=Tryz.func235.trans ksf
 f224:=Tryz.func180.trans ksf
 f225:=Tryz.func181.trans ksf
 f260:=Tryz.func264.trans ksf
 f266:=Tryz.func201.trans ksf
 f267:=Tryz.func266.trans ksf
 f268:=Tryz.func267.trans ksf
 f314:=Tryz.func279.trans ksf
 t0:=Tryz.underlying0
 a0:=Tryz.isAgg0
 z0:=Tryz.sizeOf0
 v0:=Tryz.zeroValue0
 t3:=Tryz.underlying3
 a3:=Tryz.isAgg3
 z3:=Tryz.sizeOf3
 v3:=Tryz.zeroValue3
 t4:=Tryz.underlying4
 a4:=Tryz.isAgg4
 z4:=Tryz.sizeOf4
 v4:=Tryz.zeroValue4
 t5:=Tryz.underlying5
 a5:=Tryz.isAgg5
 z5:=Tryz.sizeOf5
 v5:=Tryz.zeroValue5
 t9:=Tryz.underlying9
 a9:=Tryz.isAgg9
 z9:=Tryz.sizeOf9
 v9:=Tryz.zeroValue9
 t21:=Tryz.underlying21
 a21:=Tryz.isAgg21
 z21:=Tryz.sizeOf21
 v21:=Tryz.zeroValue21
 t31:=Tryz.underlying37
 a31:=Tryz.isAgg37
 z31:=Tryz.sizeOf37
 v31:=Tryz.zeroValue37
 t46:=Tryz.underlying181
 a46:=Tryz.isAgg181
 z46:=Tryz.sizeOf181
 v46:=Tryz.zeroValue181
 t51:=Tryz.underlying217
 a51:=Tryz.isAgg217
 z51:=Tryz.sizeOf217
 v51:=Tryz.zeroValue217
 t105:=Tryz.underlying226
 a105:=Tryz.isAgg226
 z105:=Tryz.sizeOf226
 v105:=Tryz.zeroValue226
 t119:=Tryz.underlying265
 a119:=Tryz.isAgg265
 z119:=Tryz.sizeOf265
 t138:=Tryz.underlying267
 a138:=Tryz.isAgg267
 z138:=Tryz.sizeOf267
 v138:=Tryz.zeroValue267
 t139:=Tryz.underlying268
 a139:=Tryz.isAgg268
 z139:=Tryz.sizeOf268
 v139:=Tryz.zeroValue268
 t146:=Tryz.underlying269
 a146:=Tryz.isAgg269
 z146:=Tryz.sizeOf269
 v146:=Tryz.zeroValue269
 g1:=by kernel_rfl
 g3:=by kernel_rfl
 g4:=by kernel_rfl}
open Go.RowKit Go.Lib in
theorem Tryz.strings_Split (s sep : ByteArray) (m : Int) (w : World) (hs : s.size < 4294967281) (hm : w.cell? ⟨1, 0, none⟩ = some (.int .i64 m)) (h1 : 1 <= sep.size) :
    Calls Tryz.prog 185 #[.string s, .string sep] w fun e w' =>
      e = .returned (.slice (some ⟨w.heap.size, 0, none⟩) (Lib.countB s sep + 1) (Lib.countB s sep + 1)) /\ w' = w.alloc (.cells ((Lib.splitB sep 0 (Lib.countB s sep) s).map Value.string).toArray 9) := Any.strings_Split Tryz.lays146 krf s sep m w hs hm h1
def Tryz.lays153_ren:Go.Shelf.Ren:=⟨fun|153=>48|152=>113|226=>114|227=>115|228=>116|137=>72|119=>179|224=>180|225=>181|217=>139|266=>201|n=>n,fun|9=>9|3=>3|4=>4|5=>5|21=>21|117=>130|116=>129|0=>0|46=>181|124=>178|n=>n,fun|n=>n⟩
theorem Tryz.lays153:Go.Proofs.Lays.n153 Tryz.prog Tryz.lays153_ren:={
 mixed:=by kernel_rfl
 f119:=Tryz.func179.trans ksf
 f137:=Tryz.func72.trans ksf
 f152:=Tryz.func113.trans ksf
 f153:=Tryz.func48.trans ksf
 f217:=Tryz.func139.trans ksf
 f224:=Tryz.func180.trans ksf
 f225:=Tryz.func181.trans ksf
 f226:=Tryz.func114.trans ksf
 f227:=Tryz.func115.trans ksf
 f228:=Tryz.func116.trans ksf
 f266:=Tryz.func201.trans ksf
 t0:=Tryz.underlying0
 a0:=Tryz.isAgg0
 z0:=Tryz.sizeOf0
 v0:=Tryz.zeroValue0
 t3:=Tryz.underlying3
 a3:=Tryz.isAgg3
 z3:=Tryz.sizeOf3
 v3:=Tryz.zeroValue3
 t4:=Tryz.underlying4
 a4:=Tryz.isAgg4
 z4:=Tryz.sizeOf4
 v4:=Tryz.zeroValue4
 t5:=Tryz.underlying5
 a5:=Tryz.isAgg5
 z5:=Tryz.sizeOf5
 v5:=Tryz.zeroValue5
 t9:=Tryz.underlying9
 a9:=Tryz.isAgg9
 z9:=Tryz.sizeOf9
 v9:=Tryz.zeroValue9
 t21:=Tryz.underlying21
 a21:=Tryz.isAgg21
 z21:=Tryz.sizeOf21
 v21:=Tryz.zeroValue21
 t46:=Tryz.underlying181
 a46:=Tryz.isAgg181
 z46:=Tryz.sizeOf181
 v46:=Tryz.zeroValue181
 t116:=Tryz.underlying129
 a116:=Tryz.isAgg129
 z116:=Tryz.sizeOf129
 t117:=Tryz.underlying130
 a117:=Tryz.isAgg130
 z117:=Tryz.sizeOf130
 v117:=Tryz.zeroValue130
 t124:=Tryz.underlying178
 a124:=Tryz.isAgg178
 z124:=Tryz.sizeOf178
 v124:=Tryz.zeroValue178}
open Go.RowKit Go.Lib in
theorem Tryz.strings_IndexAny_none (s chars : ByteArray) (w : World) (h0 : chars.size = 0) :
    Calls Tryz.prog 48 #[.string s, .string chars] w fun e w' => e = .returned (.int .i64 (zaR s.data.toList chars.data.toList)) /\ w' = w := Any.strings_IndexAny_none Tryz.lays153 s chars w h0
open Go.RowKit Go.Lib in
theorem Tryz.strings_IndexAny_one (s chars : ByteArray) (w : World) (h1 : chars.size = 1) (hascii : ∀ (j : Nat) b, chars.data.toList[j]? = some b -> b.toNat < 128) :
    Calls Tryz.prog 48 #[.string s, .string chars] w fun e w' => e = .returned (.int .i64 (zaR s.data.toList chars.data.toList)) /\ w' = w := Any.strings_IndexAny_one Tryz.lays153 s chars w h1 hascii
open Go.RowKit Go.Lib in
theorem Tryz.strings_IndexAny_long (hv116 : ∀ w, (zeroValue 129).run Tryz.prog w = .ok (.agg (Array.replicate 256 (.bool false))) w) (s chars : ByteArray) (w : World) (h2 : 2 <= chars.size) (h8 : 8 < s.size) (hs : s.size < 4294967281) (hcs : chars.size < 4294967281) (hascii : ∀ (j : Nat) b, chars.data.toList[j]? = some b -> b.toNat < 128) :
    Calls Tryz.prog 48 #[.string s, .string chars] w fun e w' => e = .returned (.int .i64 (zaR s.data.toList chars.data.toList)) /\ w' = ((w.alloc (.cells (Lib.setCells chars.data.toList) 129)).alloc (.cells (Lib.setCells chars.data.toList) 129)) := Any.strings_IndexAny_long Tryz.lays153 hv116 krf s chars w h2 h8 hs hcs hascii
open Go.RowKit Go.Lib in
theorem Tryz.strings_IndexAny_laid (s chars : ByteArray) (w : World) (hs : s.size < 4294967281) (hcs : chars.size < 4294967281) (has : ∀ (j : Nat) b, s.data.toList[j]? = some b -> b.toNat < 128) (hac : ∀ (j : Nat) b, chars.data.toList[j]? = some b -> b.toNat < 128) :
    Calls Tryz.prog 48 #[.string s, .string chars] w fun e w' => e = .returned (.int .i64 (zaR s.data.toList chars.data.toList)) /\ Below w.heap.size w w' := Any.strings_IndexAny_laid Tryz.lays153 krf s chars w hs hcs has hac
end Go.Proofs
set_option maxRecDepth 20000
namespace Go.Proofs
open Go.Wk Go.Px
theorem sh_Delete57{w:World}(l:List (Str×Str))(i j:Int)(o:Option Nat)(a:Option Addr)(cap:Nat)(hM:Hp w (afe [rwt aad 34 2 o a cap l]) [rwt aad 34 2 o a cap l] w)(hg:0<=i/\i<=j/\j<=(l.length:Int)):CR Tryz.prog 57 [.slice a l.length cap,.int .i64 i,.int .i64 j] w fun v w'=>∃o' a' cap',v=.slice a' (delL l i j).length cap'/\Hp w (afe [rwt aad 34 2 o a cap l]) [rwt aad 34 2 o' a' cap' (delL l i j)] w':=by
 obtain⟨hi0,hij,hj1⟩:=hg;have hcap:l.length<=cap:=hM.rwcap 0 rfl;have hcM2:cap<=9223372036854775807:=hM.rwcapM 0 rfl;refine enter (k:=33) Tryz.func57 rfl rfl (Nat.le_of_ble_eq_true rfl) ?_;refine atf ?_;refine aie ?_;refine ass (Value.slice none 0 0) krf ?_;refine aso ?_;refine aow ?_;refine atf ?_;refine aie ?_;refine anr (Value.slice a l.length cap) krf ?_;refine anr (Value.int .i64 i) krf ?_;refine anr (Value.int .i64 j) krf ?_;refine anr (Value.slice a l.length cap) krf ?_;refine w_lenS a l.length cap 34 Tryz.underlying22 krf ?_;refine acn rfl rfl (x_slLHM a l.length cap 34 2 .i64 .i64 .i64 i j (l.length:Int) Tryz.underlying22 krf krf krf krf krf ⟨hi0,hij,hj1,by omega⟩) ?_;refine aso ?_;refine aow ?_;refine atf ?_;refine atf ?_;refine aie ?_;refine anr (Value.int .i64 i) krf ?_;refine anr (Value.int .i64 j) krf ?_;refine w_eql .i64 i j krf krf ?_;refine aso ?_;refine aow ?_;refine c_dec (p:=i=j) krf (fun he=> ?_) (fun hne=> ?_)
 ·skip
  refine atf ?_;refine aie ?_;refine anr (Value.slice a l.length cap) krf ?_;refine ass (Value.slice a l.length cap) krf ?_;refine aso ?_;refine aow ?_;refine c_ret ?_;refine s_ret ?_;refine aqj (Value.slice a l.length cap) rfl krf ?_;have e:delL l i j=l:=by subst he;simp [delL]
  rw [e];exact⟨o,a,cap,rfl,hM⟩
 ·skip
  refine c_skip ?_;refine aow ?_;cases o with
  |none=>
   obtain⟨rfl,rfl,_⟩:=hM.nonerw 0 rfl;simp at hj1
   omega
  |some g=>
   obtain⟨cs,rfl,hcl,htk,_,hcm,hH1⟩:=hM.openrw 0 rfl;have hcs:l.length*2<=cs.length:=by rw [hcl];exact Nat.mul_le_mul_right _ hcap
   obtain⟨hf1,hf2,hf3,hf4⟩:=del_cells aai l i.toNat j.toNat (by omega) (by omega) cs ((List.replicate (j.toNat-i.toNat) (([]:Str),([]:Str))).flatMap aad) hcs (by rw [aai.flat];simp) htk;refine atf ?_;refine aie ?_;refine anr (Value.slice (some ⟨g,0,none⟩) l.length cap) krf ?_;refine w_lenS (some ⟨g,0,none⟩) l.length cap 34 Tryz.underlying22 krf ?_;refine ass (Value.int .i64 (l.length:Int)) krf ?_;refine aso ?_;refine aow ?_;have hR0:∀w3,Rd w3 (some ⟨g,0,none⟩) cs->Rd w3 (some ⟨g,0,none⟩) (l.flatMap aad):=fun w3 h=>htk▸h.take (l.length*2)
   refine atf ?_;refine cdr 6 hH1 (afl aff) ?_;intro w1 hH1;refine rp 4 [0,1] ?_;refine rt 2 (Value.slice (some ⟨g,0,none⟩) i.toNat cap) rfl rfl (adr rfl (by intro w hS_;exact x_slToC (some ⟨g,0,none⟩) l.length cap 34 2 .i64 i Tryz.underlying22 krf krf krf ⟨hi0,by omega⟩)) ?_;refine rp 1 [3,4] ?_;refine rt 5 (Value.slice (slF (some ⟨g,0,none⟩) cap j.toNat 2) (l.length-j.toNat) (cap-j.toNat)) rfl rfl (adr rfl (by intro w hS_;exact x_slFromC (some ⟨g,0,none⟩) l.length cap 34 2 .i64 j Tryz.underlying22 krf krf krf ⟨by omega,hj1⟩)) ?_;refine ajs krf ?_;refine w_appRoomB hH1 0 g i.toNat cap (slF (some ⟨g,0,none⟩) cap j.toNat 2) (l.length-j.toNat) (cap-j.toNat) 34 2 32 cs ((l.drop j.toNat).flatMap aad) rfl Tryz.underlying22 (by unfold TI;kernel_rfl) krf krf (Rd.dropT aai cap j.toNat hcap (hR0 _ (hH1.rdblk 0 rfl))) (by rw [aai.flat,List.length_drop]) (by omega) hf1 (aai.cells _) ?_;intro w2 hH2;refine ass (Value.slice (some ⟨g,0,none⟩) (i.toNat+(l.length-j.toNat)) cap) krf ?_;refine aso ?_;refine aow ?_;refine atf ?_;refine aie ?_;refine anr (Value.slice (some ⟨g,0,none⟩) (i.toNat+(l.length-j.toNat)) cap) krf ?_;refine anr (Value.slice (some ⟨g,0,none⟩) (i.toNat+(l.length-j.toNat)) cap) krf ?_;refine w_lenS (some ⟨g,0,none⟩) (i.toNat+(l.length-j.toNat)) cap 34 Tryz.underlying22 krf ?_;refine anr (Value.int .i64 (l.length:Int)) krf ?_;refine acn rfl rfl (x_slLH (some ⟨g,0,none⟩) (i.toNat+(l.length-j.toNat)) cap 34 2 .i64 .i64 (((i.toNat+(l.length-j.toNat)):Nat):Int) (l.length:Int) Tryz.underlying22 krf krf krf krf ⟨by omega,by omega,by omega⟩) ?_;have hm1:((l.length:Int)).toNat-(((i.toNat+(l.length-j.toNat)):Nat):Int).toNat=j.toNat-i.toNat:=by omega
   refine w_clearB0 hH2 0 g ((i.toNat+(l.length-j.toNat))*2) (j.toNat-i.toNat) (cap-(((i.toNat+(l.length-j.toNat)):Nat):Int).toNat) 34 2 (slF (some ⟨g,0,none⟩) cap (((i.toNat+(l.length-j.toNat)):Nat):Int).toNat 2) _ (([]:Str),([]:Str)) aai rfl Tryz.underlying22 (by decide) krf (Eq.trans (b:=Value.slice (slF (some ⟨g,0,none⟩) cap (((i.toNat+(l.length-j.toNat)):Nat):Int).toNat 2) (((l.length:Int)).toNat-(((i.toNat+(l.length-j.toNat)):Nat):Int).toNat) (cap-(((i.toNat+(l.length-j.toNat)):Nat):Int).toNat)) krf (aae hm1)) (by rw [Int.toNat_natCast];exact slF_at (by omega)) (by omega) (by have:=hf2;rw [aai.flat,List.length_replicate]at this;exact this) ?_;intro w3 hH3;refine aso ?_;refine aow ?_;refine atf ?_;refine aie ?_;refine anr (Value.slice (some ⟨g,0,none⟩) (i.toNat+(l.length-j.toNat)) cap) krf ?_;refine ass (Value.slice (some ⟨g,0,none⟩) (i.toNat+(l.length-j.toNat)) cap) krf ?_;refine aso ?_;refine aow ?_;refine c_ret ?_;refine aqj (Value.slice (some ⟨g,0,none⟩) (i.toNat+(l.length-j.toNat)) cap) rfl krf ?_;have hdl:(delL l i j).length=(i.toNat+(l.length-j.toNat)):=by unfold delL;simp;omega
   have h5:=hH3.closerw (f:=aad) 0 2 cap (delL l i j) rfl (by rw [hf3];exact hcl) (by rw [hdl];omega) hcm (by rw [hdl];exact hf4);exact⟨some g,(some ⟨g,0,none⟩),cap,aae hdl.symm,h5⟩
open Go.Value renaming slice -> Vs, int -> Vi, bool -> Vb, pointer -> Vp
open Go.Lib renaming cut -> zbm, index -> zar, indexAny -> zaR, join -> zax, trimLeftS -> zaY
open List renaming flatMap -> zap, flatMap_cons -> zaJ, length_map -> zaA
open Nat renaming le_of_ble_eq_true -> zba, lt_of_lt_of_le -> zaj, lt_succ_self -> zad
theorem ast(s:List UInt8)(c:UInt8)(w:World):CR Tryz.prog 72 [str s,bt c] w fun v w'=>v=.int .i64 (ixb (·==c) s)/\Hp w [] [] w':=by
 have h:=Tryz.strings_IndexByte ⟨s.toArray⟩ (c.toNat:Int) w;rw [show((c.toNat:Int).toNat.toUInt8)=c by simp]at h;rw [<-indexByte_ixb];exact aup h
theorem sh_LastIndexByte(s:List UInt8)(c:UInt8)(w:World)(hs:s.length<=1000000000):CR Tryz.prog 70 [str s,bt c] w fun v w'=>v=.int .i64 (api (·==c) s)/\Hp w [] [] w':=by
 have h:=Tryz.strings_LastIndexByte ⟨s.toArray⟩ (c.toNat:Int) (by show s.length<_;omega) w;rw [lastIndexByte_lixb]at h;exact aup h
theorem sh_Contains(s t:List UInt8)(w:World)(hs:s.length<=1000000000)(hG:Gl w):CR Tryz.prog 117 [str s,str t] w fun v w'=>v=.bool (Lib.contains s t)/\Hp w [] [] w':=by
 obtain⟨m,hm⟩:=hG.cell;exact aup (Tryz.strings_Contains ⟨s.toArray⟩ ⟨t.toArray⟩ m w (by show s.length<_;omega) hm)
theorem sh_Index(s t:List UInt8)(w:World)(hs:s.length<=1000000000)(hG:Gl w):CR Tryz.prog 182 [str s,str t] w fun v w'=>v=.int .i64 (zar s t)/\Hp w [] [] w':=by
 obtain⟨m,hm⟩:=hG.cell;exact aup (Tryz.strings_Index ⟨s.toArray⟩ ⟨t.toArray⟩ m w (by show s.length<_;omega) hm)
theorem sh_Cut(s t:List UInt8)(w:World)(hs:s.length<=1000000000)(hG:Gl w):CR Tryz.prog 183 [str s,str t] w fun v w'=>v=.tuple #[str (zbm s t).1,str (zbm s t).2.1,.bool (zbm s t).2.2]/\Hp w [] [] w':=by
 obtain⟨m,hm⟩:=hG.cell;exact cr_drew (Tryz.strings_Cut ⟨s.toArray⟩ ⟨t.toArray⟩ m w (by show s.length<_;omega) hm)
theorem sh_CutPrefix(s t:List UInt8)(w:World):CR Tryz.prog 277 [str s,str t] w fun v w'=>v=.tuple #[str (Lib.trimPrefix s t),.bool (Lib.hasPrefix s t)]/\Hp w [] [] w':=by
 exact aup (Tryz.strings_CutPrefix ⟨s.toArray⟩ ⟨t.toArray⟩ w)
theorem sh_TrimPrefix(s t:List UInt8)(w:World):CR Tryz.prog 142 [str s,str t] w fun v w'=>v=str (Lib.trimPrefix s t)/\Hp w [] [] w':=by
 exact aup (Tryz.strings_TrimPrefix ⟨s.toArray⟩ ⟨t.toArray⟩ w)
theorem sh_Trim(s t:List UInt8)(w:World)(hs:s.length<=1000000000)(ht:t.length<=1000/\t.all (fun b=>decide (b.toNat<128))=true):CR Tryz.prog 109 [str s,str t] w fun v w'=>v=str (Lib.trimS s t)/\Hp w [] [] w':=by
 exact cr_below (Any.strings_Trim_laid Tryz.lays160 krf ⟨s.toArray⟩ ⟨t.toArray⟩ w (by show s.length<=_;omega) (by show t.length<_;omega) (ascii_of_all ht.2))
theorem sh_TrimLeft(s t:List UInt8)(w:World)(hs:s.length<=1000000000)(ht:t.length<=1000/\t.all (fun b=>decide (b.toNat<128))=true):CR Tryz.prog 234 [str s,str t] w fun v w'=>v=str (zaY s t)/\Hp w [] [] w':=by
 exact cr_below (Any.strings_TrimLeft_laid Tryz.lays161 krf ⟨s.toArray⟩ ⟨t.toArray⟩ w (by show t.length<_;omega) (ascii_of_all ht.2))
theorem sh_TrimRight(s t:List UInt8)(w:World)(hs:s.length<=1000000000)(ht:t.length<=1000/\t.all (fun b=>decide (b.toNat<128))=true):CR Tryz.prog 263 [str s,str t] w fun v w'=>v=str (Lib.trimRightS s t)/\Hp w [] [] w':=by
 exact cr_below (Any.strings_TrimRight_laid Tryz.lays162 krf ⟨s.toArray⟩ ⟨t.toArray⟩ w (by show s.length<=_;omega) (by show t.length<_;omega) (ascii_of_all ht.2))
theorem sh_Itoa(i:Int)(w:World)(hi:acd i)(hG:Gl w):CR Tryz.prog 30 [.int .i64 i] w fun v w'=>v=str (Lib.itoa i)/\Hp w [] [] w':=by
 obtain⟨t,f,e⟩:=hG.pow10;have hT : Lib.TabIs Tryz.prog w "internal/strconv.uint64pow10" .u64 Lib.pow10Tab := by
  unfold Lib.TabIs World.var?;rw [show Tryz.prog.globalNamed "internal/strconv.uint64pow10" = some 6 by kernel_rfl];simp [e]
 have h:=Tryz.strconv_Itoa i hi.1 hi.2 w hT;exact Calls.mono h fun _ _ ⟨e,k,os,hb⟩=>⟨_,e,rfl,hb▸hp_grow k os⟩
theorem sh_Split(s:List UInt8)(c:UInt8)(w:World)(hs:s.length<=1000000000)(hG:Gl w):CR Tryz.prog 185 [str s,str [c]] w fun v w'=>∃o a cap,v=.slice a (spl c s).length cap/\Hp w [] [rwt eS 9 1 o a cap (spl c s)] w':=by
 obtain⟨m,hm⟩:=hG.cell;have h:=Tryz.strings_Split ⟨s.toArray⟩ ⟨#[c]⟩ m w (by show s.length<_;omega) hm (by show 1<=1;omega);rw [split_spl,split_spl_len]at h;refine Calls.mono h ?_;rintro _ _ ⟨rfl,rfl⟩
 have h1:=(Hp.refl w).alloc ((spl c s).map str) 9
 have:=(aug c s).1
 have e:(spl c s).flatMap eS=(spl c s).map str:=by
  generalize spl c s=l;induction l with
  |nil=>rfl
  |cons x l ih=>rw [zaJ,ih];rfl
 exact⟨_,rfl,some w.heap.size,_,_,rfl,h1.blkrw 0 1 (spl c s).length (spl c s) rfl ahr e rfl (by simp [maxLen];omega)⟩
theorem flatS(l:List (List UInt8)):l.flatMap eS=l.map str:=by
 induction l with
 |nil=>rfl
 |cons x l ih=>rw [zaJ,ih];rfl
theorem sh_Join(t:List UInt8)(w:World)(a:Option Addr)(n cap:Nat)(xs:List (List UInt8))(hn:n=xs.length)(hRe:Rd w a (xs.flatMap eS))(hCa:n<=cap)(hN:xs.length<=1000000000/\(zax xs t).length<=100000000000):CR Tryz.prog 56 [.slice a n cap,str t] w fun v w'=>v=str (zax xs t)/\Hp w [] [] w':=by
 subst hn;rw [flatS]at hRe;cases xs with
 |nil=>exact aup (Tryz.strings_Join_none a cap ⟨t.toArray⟩ w)
 |cons x r=>
  obtain⟨p,rfl,hp⟩:=hRe 0 (str x) (by simp);have hbk:=cell_lt hp;rw [add_block]at hbk;have hsp:p.spot=none:=by
   have:=rd_spot hp
   simpa [Addr.add] using this
  obtain⟨bk,o,sp⟩:=p;simp only at hsp hbk;subst hsp;have e:((x::r).map fun l=>(⟨l.toArray⟩:ByteArray)).map (·.data.toList)=x::r:=by rw [List.map_map];exact List.map_id _
  have h:=Tryz.strings_Join bk o cap ((x::r).map fun l=>(⟨l.toArray⟩:ByteArray)) ⟨t.toArray⟩ w (fun j y hy=>by
   have:=row_strs ⟨bk,o,none⟩ (x::r) hRe j y hy
   cases j<;>simpa [Addr.add] using this) hbk (by rw [zaA];omega) (by rw [zaA];exact hCa) (by rw [e];show(zax (x::r) t).length<=_;omega)
  rw [e,zaA]at h;exact cr_below h
theorem sh_IndexAny(s t:List UInt8)(w:World)(h:s.length<=1000000000/\t.length<=1000/\t.all (fun b=>decide (b.toNat<128))=true/\(8<s.length\/t.length<=1\/s.all (fun b=>decide (b.toNat<128))=true)):CR Tryz.prog 48 [str s,str t] w fun v w'=>v=.int .i64 (zaR s t)/\Hp w [] [] w':=by
 obtain⟨h1,h2,h3,h4⟩:=h;by_cases h0:t.length=0
 ·exact aup (Tryz.strings_IndexAny_none ⟨s.toArray⟩ ⟨t.toArray⟩ w h0)
 by_cases h1':t.length=1
 ·exact aup (Tryz.strings_IndexAny_one ⟨s.toArray⟩ ⟨t.toArray⟩ w h1' (ascii_of_all h3))
 rcases h4 with h4|h4|h4
 ·have hz:∀w,(zeroValue 129).run Tryz.prog w=.ok (.agg (Array.replicate 256 (.bool false))) w:=(zero_of_info (n:=256) krf).1;have h:=Tryz.strings_IndexAny_long hz ⟨s.toArray⟩ ⟨t.toArray⟩ w (by show 2<=t.length;omega) (by show 8<s.length;omega) (by show s.length<_;omega) (by show t.length<_;omega) (ascii_of_all h3);refine Calls.mono h ?_;rintro _ _ ⟨rfl,rfl⟩
  exact⟨_,rfl,rfl,Hp.ofBelow ⟨rfl,rfl,rfl,by simp;omega,fun k hk=>by rw [RowKit.Below.heap_alloc _ _ k (by simp;omega),RowKit.Below.heap_alloc _ _ k hk]⟩⟩
 ·omega
 ·exact cr_below (Tryz.strings_IndexAny_laid ⟨s.toArray⟩ ⟨t.toArray⟩ w (by show s.length<_;omega) (by show t.length<_;omega) (ascii_of_all h4) (ascii_of_all h3))
theorem sh_Clone124(l:List UInt8)(w:World)(a:Option Addr)(n cap:Nat)(hn:n=l.length)(hR:Rd w a (l.flatMap eB))(hb:(0+l.length)*1<=140737488355328):CR Tryz.prog 124 [.slice a n cap] w fun v w'=>∃o a' cap',v=.slice a' l.length cap'/\Hp w [] [rwt eB 5 1 o a' cap' l] w':=by
 subst hn;have hH:Hp w [] [] w:=Hp.refl w;refine enter (k:=8) Tryz.func124 rfl rfl (zba rfl) ?_;refine atf ?_;refine aie ?_;refine ass (Vs none 0 0) krf ?_;refine aso ?_;refine aow ?_;refine atf ?_;refine atf ?_;refine aie ?_;refine anr (Vs a l.length cap) krf ?_;refine w_snil a l.length cap 5 Tryz.underlying23 krf krf ?_;refine aso ?_;refine aow ?_;refine c_bool (b:=a.isNone) krf (fun h=> ?_) (fun h=> ?_)
 ·have ha:a=none:=by cases a with|none=>rfl|some p=>cases h
  subst ha;have hl:l=[]:=by
   cases l with
   |nil=>rfl
   |cons x l=>
    exfalso;have h1:=Enc.flat aih (x::l);have h2:(zap eB (x::l)).length=0:=by
     cases hq:zap eB (x::l)with
     |nil=>rfl
     |cons u us=>obtain⟨p,hp,_⟩:=hR 0 u (by rw [hq];rfl);cases hp
    rw [h2]at h1;simp at h1
  subst hl;refine atf ?_;refine aie ?_;refine ass (Vs none 0 0) krf ?_;refine aso ?_;refine aow ?_;refine c_ret ?_;refine s_ret ?_;refine aqj (Vs none 0 0) rfl krf ?_;exact⟨none,none,0,rfl,Hp.nilrw hH eB 5 1 none⟩
 ·refine c_skip ?_;refine aow ?_;refine atf ?_;refine aie ?_;refine aco hH [] 5 (fun b=>(Vs (some ⟨b,0,none⟩) 0 0)) rfl rfl krf ?_;intro b1 w2 a0;have a1:Hp w [] [rwt eB 5 1 (some b1) (some ⟨b1,0,none⟩) 0 ([]:List UInt8)] w2:=a0.blkrw 0 1 0 ([]:List UInt8) rfl aih rfl rfl (by decide);refine anr (Vs a l.length cap) krf ?_;refine aeh a1 0 (some b1) (some ⟨b1,0,none⟩) a 0 cap 5 1 1 ([]:List UInt8) l aih rfl Tryz.underlying23 (by unfold TI;kernel_rfl) (by decide) (by decide) krf krf (hR.hp a0) hb ?_;intro o5 a6 cap7 w8 a2;refine ass (Vs a6 l.length cap7) krf ?_;refine aso ?_;refine aow ?_;refine c_ret ?_;refine aqj (Vs a6 l.length cap7) rfl krf ?_;exact⟨o5,a6,cap7,rfl,a2⟩
theorem sh_copyCheck(b:Nat)(z:Bool)(s:Value)(w:World)(hM:Hp w (afe [blk b [Vp (bif z then some ⟨b,0,none⟩else none),s] 116]) [blk b [Vp (bif z then some ⟨b,0,none⟩else none),s] 116] w):CR Tryz.prog 164 [Vp (some ⟨b,0,none⟩)] w fun v w'=>v=.tuple #[]/\Hp w (afe [blk b [Vp (bif z then some ⟨b,0,none⟩else none),s] 116]) [blk b [Vp (some ⟨b,0,none⟩),s] 116] w':=by
 cases z with
 |false=>
  have hH:Hp w (afe [blk b [(Vp none),s] 116]) [blk b [(Vp none),s] 116] w:=hM;refine enter (k:=20) Tryz.func164 rfl rfl (zba rfl) ?_;refine atf ?_;refine aie ?_;refine anr (Vp (some ⟨b,0,none⟩)) krf ?_;refine acn (v:=(Vp (some ⟨b,0,none⟩))) (w':=w) rfl rfl krf ?_;refine acn (v:=(Vp (some ⟨b,0,none⟩))) (w':=w) rfl rfl krf ?_;refine acw hH 0 b 0 [(Vp none),s] 116 (Vp none) rfl rfl krf krf ?_;refine w_pnil none Tryz.underlying114 krf krf ?_;refine aso ?_;refine aow ?_;refine c_true krf ?_;refine aie ?_;refine anr (Vp (some ⟨b,0,none⟩)) krf ?_;refine anr (Vp (some ⟨b,0,none⟩)) krf ?_;refine w_toUns hH 0 b 0 116 [(Vp none),s] rfl Tryz.underlying114 Tryz.underlying214 krf (by simp) krf ?_;refine w_noEsc hH 223 (Vp (some ⟨b,0,none⟩)) krf krf Tryz.func223 krf krf krf krf ?_;intro w1 a0;refine w_ofUns a0 0 b 0 116 [(Vp none),s] rfl Tryz.underlying214 Tryz.underlying114 krf krf krf ?_;refine acn (v:=(Vp (some ⟨b,0,none⟩))) (w':=w1) rfl rfl krf ?_;refine acn (v:=(Vp (some ⟨b,0,none⟩))) (w':=w1) rfl rfl krf ?_;refine alq a0 0 b 0 [(Vp none),s] 116 (Vp (some ⟨b,0,none⟩)) [blk b [(Vp (some ⟨b,0,none⟩)),s] 116] rfl (zaj (zad _) (zba rfl)) krf krf rfl krf rfl ?_;intro w3 a1;refine aso ?_;refine r_none' rfl ?_;exact⟨rfl,a1.kp⟩
 |true=>
  have hH:Hp w (afe [blk b [(Vp (some ⟨b,0,none⟩)),s] 116]) [blk b [(Vp (some ⟨b,0,none⟩)),s] 116] w:=hM;refine enter (k:=20) Tryz.func164 rfl rfl (zba rfl) ?_;refine atf ?_;refine aie ?_;refine anr (Vp (some ⟨b,0,none⟩)) krf ?_;refine acn (v:=(Vp (some ⟨b,0,none⟩))) (w':=w) rfl rfl krf ?_;refine acn (v:=(Vp (some ⟨b,0,none⟩))) (w':=w) rfl rfl krf ?_;refine acw hH 0 b 0 [(Vp (some ⟨b,0,none⟩)),s] 116 (Vp (some ⟨b,0,none⟩)) rfl rfl krf krf ?_;refine w_pnil (some ⟨b,0,none⟩) Tryz.underlying114 krf krf ?_;refine aso ?_;refine aow ?_;refine c_false krf ?_;refine atf ?_;refine aie ?_;refine anr (Vp (some ⟨b,0,none⟩)) krf ?_;refine acn (v:=(Vp (some ⟨b,0,none⟩))) (w':=w) rfl rfl krf ?_;refine acn (v:=(Vp (some ⟨b,0,none⟩))) (w':=w) rfl rfl krf ?_;refine acw hH 0 b 0 [(Vp (some ⟨b,0,none⟩)),s] 116 (Vp (some ⟨b,0,none⟩)) rfl rfl krf krf ?_;refine anr (Vp (some ⟨b,0,none⟩)) krf ?_;refine w_pself ⟨b,0,none⟩ Tryz.underlying114 krf krf krf ?_;refine aso ?_;refine aow ?_;refine c_false krf ?_;refine c_skip ?_;refine r_none' rfl ?_;exact⟨rfl,hH.kp⟩
end Go.Proofs
set_option maxHeartbeats 1000000
namespace Go.Proofs
open Go.Wk Go.Px
open Go.Value renaming slice -> Vs, int -> Vi, bool -> Vb, pointer -> Vp
open Int renaming toNat -> zaf
open List renaming drop -> zak, replicate -> zat
open Nat renaming lt_succ_self -> zad
open Tryz
abbrev Zz0:=[(str ([]:Str)),(str ([]:Str)),(Vi .i64 (0:Int)),(str ([]:Str)),(Vs none 0 0),(Vs none 0 0)]
abbrev Zz1 v0 v1 v2 v3 v4 v5 v6 v7 v8 v9:=[(str v0),(str v1),(Vi .i64 v2),(str v3),(Vs v4 v5 v6),(Vs v7 v8 v9)]
abbrev Zz2:=[(str ([]:Str)),(str ([]:Str)),(Vi .i64 (0:Int)),(str ([]:Str)),(Vs none 0 0)]
abbrev Zz3:=[(str ([]:Str)),(str ([]:Str)),(Vb false)]
abbrev Zz4 v0 v1 v2 v3 v4 v5 v6:=[(str v0),(str v1),(Vi .i64 v2),(str v3),(Vs v4 v5 v6)]
abbrev Zz5 v0 v1:=[(str v0),(Vi .i64 v1)]
abbrev Zz6 v0 v1 v2 v3 v4 v5 v6 v7 v8 v9:=[(str v0),(str v1),(Vi .i64 v2),(str v3),(Vs v4 ((zat (zaf (v5:Int)) (([]:Str),([]:Str))).length) v6),(Vs v7 v8 v9)]
abbrev Zz7 v0:=[(str v0),(str ([]:Str)),(Vb false)]
abbrev Zz8:=[(str ([67,97,108,108,45,73,68]:Str)),(str ([67,83,101,113]:Str)),(str ([77,73,77,69,45,86,101,114,115,105,111,110]:Str)),(str ([77,105,110,45,83,69]:Str)),(str ([82,65,99,107]:Str)),(str ([82,83,101,113]:Str)),(str ([87,87,87,45,65,117,116,104,101,110,116,105,99,97,116,101]:Str))]
abbrev Zz9:Str:=[101,67,111,110,116,101,110,116,45,69,110,99,111,100,105,110,103]
abbrev Zz10:Str:=[120,83,101,115,115,105,111,110,45,69,120,112,105,114,101,115]
abbrev Zz11:Str:=[108,67,111,110,116,101,110,116,45,76,101,110,103,116,104]
abbrev Zz12 v0 v1 v2:=[(str v0),(str v1),(Vi .i64 v2),(str ([]:Str)),(Vs none 0 0)]
abbrev Zz13:Str:=[117,65,108,108,111,119,45,69,118,101,110,116,115]
abbrev Zz14:Str:=[99,67,111,110,116,101,110,116,45,84,121,112,101]
abbrev Zz15 v0 v1:=[(str v0),(str v1),(Vb true)]
abbrev Zz16:Str:=[98,82,101,102,101,114,114,101,100,45,66,121]
abbrev Zz17 v0:=[(str v0),(str ([]:Str)),(Vb true)]
abbrev Zz18:Str:=[107,83,117,112,112,111,114,116,101,100]
abbrev Zz19 v0 v1 v2 v3:=[blk v0 [(bt v1)] 28,blk v2 [(str v3)] 9]
abbrev Zz20 v0 v1:=[(str v0),(str v1),(Vi .i64 (0:Int)),(str ([]:Str)),(Vs none 0 0)]
abbrev Zz21:Str:=[114,82,101,102,101,114,45,84,111]
abbrev Zz22:Str:=[109,67,111,110,116,97,99,116]
abbrev Zz23:Str:=[115,83,117,98,106,101,99,116]
abbrev Zz24(v0:LQ) v1:=[(str ((el v0 v1).1)),(str ((el v0 v1).2.1)),(Vb ((el v0 v1).2.2))]
abbrev Zz25:Str:=[105,67,97,108,108,45,73,68]
abbrev Zz26 v0:=[(str v0),(str ([]:Str)),(Vi .i64 (0:Int)),(str ([]:Str)),(Vs none 0 0)]
abbrev Zz27:Str:=[111,69,118,101,110,116]
abbrev Zz28 v0 v1 v2:=[(str v0),(str v1),(Vb v2)]
abbrev Zz29 v0:=[(Vp (some ⟨v0,0,none⟩))]
abbrev Zz30 v0 v1:=[(str v0),(Vi .i64 (v1+(1:Int)))]
abbrev Zz31:=[(Vi .i64 (0:Int)),(str ([]:Str))]
abbrev Zz32:Str:=[102,70,114,111,109]
abbrev Zz33 v0 v1 v2 v3 v4 v5:=[blk v0 [(str v1)] 9,blk v2 [(str v3)] 9,blk v4 [(Vi .i64 v5)] 3]
abbrev Zz34 v0 v1 v2:=[(Vi .i64 (min v0 v1)),(str (Lib.trimRightS (sub v2 (min v0 v1) v1) ([32,9]:Str)))]
abbrev Zz35:=[false,false,false,false,false,false,false,false,false,false,false,false,false,false,false,false,false,false]
abbrev Zz36 v0 v1 v2 v3 v4 v5 v6 v7 v8 v9 v10:=[(str v0),(str v1),(Vi .i64 v2),(str v3),(Vs v4 v5 v6),(Vs (bA v7 v8) v9 (bN v7 v10))]
abbrev Zz37 v0 v1 v2 v3 v4 v5:=[(str v0),(str v1),(Vi .i64 v2),(str ([]:Str)),(Vs v3 v4 v5)]
abbrev Zz38:Str:=[48,49,50,51,52,53,54,55,56,57]
abbrev Zz39:=[false,false,false,false,false,false,false,false]
abbrev Zz40:Str:=[87,87,87,45,65,117,116,104,101,110,116,105,99,97,116,101]
abbrev Zz41 v0 v1 v2:=[blk v0 (Zz5 v1 v2) 99]
abbrev Zz42:Str:=[77,73,77,69,45,86,101,114,115,105,111,110]
abbrev Zz43 v0 v1 v2 v3 v4 v5:=[blk v0 (Zz5 v1 v2) 99,blk v3 (Zz17 v4) 106,blk v5 (Zz3) 106]
abbrev Zz44 v0 v1 v2 v3 v4 v5 v6:=[blk v0 (Zz5 v1 v2) 99,blk v3 (Zz15 v4 v5) 106,blk v6 (Zz3) 106]
abbrev Zz45:Str:=[67,97,108,108,45,73,68]
abbrev Zz46:Str:=[77,105,110,45,83,69]
abbrev Zz47 v0 v1 v2:=[blk v0 (Zz17 v1) 106,blk v2 (Zz3) 106]
abbrev Zz48 v0 v1 v2:=[blk v0 (Zz7 v1) 106,blk v2 (Zz3) 106]
abbrev Zz49 v0 v1 v2 v3 v4:=[blk v0 (Zz12 v1 v2 v3) 44,blk v4 (Zz2) 44]
abbrev Zz50:=[true,true,true,true,true,false,false,false]
abbrev Zz51:=[(str ([]:Str)),(str ([]:Str))]
abbrev Zz52 v0 v1 v2 v3 v4 v5:=[blk v0 (Zz5 v1 v2) 99,blk v3 (Zz7 v4) 106,blk v5 (Zz3) 106]
theorem wrap_u8_i32 (c : UInt8) : IntKind.wrap .i32 ((c.toNat : Nat) : Int) = (c.toNat : Int) := by
 revert c; exact acq _ (by decide +kernel)
theorem ent72:Wk.Enters prog 72:=⟨f72,_,func72,rfl,krf⟩
theorem ent113:Wk.Enters prog 113:=⟨f113,_,func113,rfl,krf⟩
theorem ent114:Wk.Enters prog 114:=⟨f114,_,func114,rfl,krf⟩
theorem ent179:Wk.Enters prog 179:=⟨f179,_,func179,rfl,krf⟩
theorem asq {fu : Nat} {a3 : Int} {w : World} {r : Bool} (hr : ady fu a3 = some r) (hG : Gl w) : CR prog 179 [(Vi .i32 a3)] w fun v w' => v = (Vb r) /\ Hp w [] [] w' := by
 have hH := Hp.refl w;refine enter (k := 17) func179 rfl rfl nbe ?_;unfold ady at hr;refine sr (wp 1 (nq (cs (ce (bi hr fun v5 a0 hr => afp hH [0, 2, 3] [(3, (Vb v5))] ?_ ?_)))));refine cr (wp 2 (wd a0 (fun h6 a0 => ?_) (fun h6 a0 => ?_)));refine wp 4 (wl (ql ?_));obtain rfl := oi a0;exact je hH.kp
 refine wp 4 (wl (ql ?_));obtain rfl := oi a0;exact je hH.kp
 intro w7 G a2;refine cb hr (fun h9 hr => ?_) (fun h9 hr => ?_);refine sr (wp 1 (nq (ct (bt_ (st ?_)))));obtain rfl := oi hr;exact rv a2.kp
 refine bi hr fun a5 a1 hr => afp a2 [2, 10] [(10, (Vb a5))] ?_ ?_
 refine cr (wp 2 (wd a1 (fun a6 a1 => ?_) (fun a6 a1 => ?_)));refine wp 4 (wl (ql ?_));obtain rfl := oi a1;exact je a2.kp
 refine wp 4 (wl (ql ?_));obtain rfl := oi a1;exact je a2.kp
 intro a8 G a4;refine cb hr (fun a7 hr => ?_) (fun a7 hr => ?_);refine sr (wp 1 (nq (ct (bt_ (st ?_)))));obtain rfl := oi hr;exact rv a4.kp
 refine ck (bn (qn (sr (wp 1 (nq (ct ?_))))));obtain rfl := oi hr;exact rv a4.kp
theorem ark {fu : Nat} {a1 : Str} {a0 : Int} {w : World} {r : Int} (hr : adh fu a1 a0 = some r) (hG : Gl w) : CR prog 113 [(str a1), (Vi .i32 a0)] w fun v w' => v = (Vi .i64 r) /\ Hp w [] [] w' := by
 have hH := Hp.refl w;refine enter (k := 187) func113 rfl rfl nbe ?_;unfold adh at hr;refine sr (wp 1 (nq (ce (bi hr fun v5 b0 hr => afp hH [0, 1, 4, 160] [(160, (Vb v5))] ?_ ?_))));refine cr (wp 2 (wd b0 (fun h6 b0 => ?_) (fun h6 b0 => ?_)));refine wp 4 (wl (ql ?_));obtain rfl := oi b0;exact je hH.kp
 refine wp 4 (wl (ql ?_));obtain rfl := oi b0;exact je hH.kp
 intro w7 G b1;refine cb hr (fun h9 hr => ?_) (fun h9 hr => ?_);refine sr (wp 2 (w_toU8 .i32 a0 underlying21 underlying5 krf (aat 72 #[] [(str a1), (bt (u8i a0))] _ ent72 krf krf (ast a1 (u8i a0) w7) ?_)));rintro _ g1 ⟨rfl, b8⟩
 have c7 := b1.call b8; clear b8;refine wp 1 (nq (ct (bt_ ?_)));obtain rfl := oi hr;exact rv c7.kp
 refine sr (wp 3 (nq (cd hr (fun c8 hr => ?_) (fun c8 hr => ?_))));refine bi hr fun b9 c9 hr => cut1 b1 b9 [4] (fun d0 => []) ?_ ?_
 refine sr (wp 1 (w_range b1 a1 underlying9 krf fun b2 g2 d1 => nq (ce (lpG (σ := Nat × Nat) [4, 175] (fun ⟨a9, a5⟩ => []) (fun ⟨a9, a5⟩ w' => Hp w [] [sit b2 a1 a5] w' /\ aek fu a1 a9 a5 = some b9) (fun ⟨a9, a5⟩ => a9) (fu, 0) (by exact ⟨d1.kp, c9⟩) ?_))));rintro ⟨_ | a9, a5⟩ g3 G ⟨b5, a6⟩
 · exact nzz a6
 rw [aji, adz] at a6;refine sr ?_;by_cases b3 : a5 < a1.length
 replace a6 := ift b3 a6;refine w_next b5 0 b2 a1 a5 rfl krf (fun _ d2 b4 => ?_) (fun b6 => absurd b3 b6);replace b4 : Hp w [] [sit b2 a1 (a5 + (Utf8.decode ⟨List.toArray a1⟩ a5).2)] d2 := b4;refine wp 1 (nq (cs (c_true krf (ck (qn (ce (sr ?_)))))));refine wp 4 (nq (sr (wp 2 (nq (cd a6 (fun d3 a6 => ?_) (fun d3 a6 => ?_))))));refine sr (wp 2 (nq (ct (bt_ (aau (bt_ (aau ?_)))))));obtain rfl := oi a6;refine bt_ ?_;obtain rfl := oi hr;exact rv b4.kp
 refine ck (bn (ql ?_));exact ⟨(a9, a5 + (Utf8.decode ⟨List.toArray a1⟩ a5).2), _, rfl, by kernel_rfl, ⟨b4.kp, a6⟩, zad _⟩
 replace a6 := ifn b3 a6;refine w_next b5 0 b2 a1 a5 rfl krf (fun b6 => absurd b6 b3) (fun _ => ?_);refine wp 1 (nq (cs (c_false krf (abp (abo (abv (abr (ql ?_))))))));obtain rfl := oi a6;exact je1 rfl b5.kp
 rintro d0 g4 G d4 rfl
 refine sr (wp 1 (nq (ct (bt_ ?_))));obtain rfl := oi hr;exact rv d4.kp
 refine sr (wp 1 (bi hr fun g5 d5 hr => wc ent179 b1 (asq d5 (hG.hp0 b1)) fun g6 c0 => wp 2 (nq (cb hr (fun d6 hr => ?_) (fun d6 hr => ?_)))));refine sr (wp 1 (nq (ct (bt_ ?_))));obtain rfl := oi hr;exact rv c0.kp
 refine c_scope (sr (wp 1 (w_runestr .i32 .i32 a0 underlying21 underlying9 krf (wp 1 (nq (sr ?_))))));refine wp 2 (gi hr fun d7 hr => arm (((Utf8.encode a0).data.toList).length : Int) (1 : Int) krf krf d7 (wp 1 (nq (sr (wp 2 (wl ?_))))));refine qn (sr (wp 1 (nq (cs (ce (lpS (fun c1 (_ : Unit) => aej fu a1 a0 c1) () c0 hr [0, 4, 7, 8, 9] (fun (_ : Unit) => []) (fun _ => rfl) ?_))))));rintro c1 _ g7 G b7 a7
 rw [aob, afx] at a7;refine cs (sr (wp 4 (nq (cd a7 (fun d8 a7 => ?_) (fun d8 a7 => ?_)))));refine ck (qn (ce (c_scope (bi a7 fun d9 a2 a7 => cut1 b7 d9 [0, 4, 7, 8, 9] (fun a8 => [(9, (Vi .i64 a8))]) ?_ ?_))));refine cs (gi a2 fun e0 a2 => gi a2 fun e1 a2 => cdr 6 b7 (afl (ans (aul (afm (ans (afm (afl (aul (afm aff))))))))) fun g8 c2 => rp 4 [0, 1] (rt 2 (bt (at_ a1 ((((Utf8.encode a0).data.toList).length : Int) - (1 : Int)))) rfl rfl (adr rfl (by intro w hS_; exact (x_index a1 .i64 ((((Utf8.encode a0).data.toList).length : Int) - (1 : Int)) underlying9 krf krf e0))) (rp 1 [3, 4] (rt 5 (bt (at_ ((Utf8.encode a0).data.toList) ((((Utf8.encode a0).data.toList).length : Int) - (1 : Int)))) rfl rfl (adr rfl (by intro w hS_; exact (x_index ((Utf8.encode a0).data.toList) .i64 ((((Utf8.encode a0).data.toList).length : Int) - (1 : Int)) underlying9 krf krf e1))) (ajs krf (ahe (at_ a1 ((((Utf8.encode a0).data.toList).length : Int) - (1 : Int))) (at_ ((Utf8.encode a0).data.toList) ((((Utf8.encode a0).data.toList).length : Int) - (1 : Int))) krf krf ?_))))));refine nq (cn a2 (fun e2 a2 => ?_) (fun e2 a2 => ?_));refine cs (gi a2 fun e3 a2 => gi a2 fun e4 a2 => gi a2 fun e5 a2 => cdr 7 c2 (afl (ans (aul (afm (ans (afm (afl (aul (afm aff))))))))) fun e6 e7 => rp 5 [0, 1] (rt 2 (Vi .i64 (((((Utf8.encode a0).data.toList).length : Int) - (1 : Int)) + (1 : Int))) rfl rfl (adr rfl (by intro w hS_; exact (x_add64 ((((Utf8.encode a0).data.toList).length : Int) - (1 : Int)) (1 : Int) krf krf e3))) (rt 3 (str (zak (zaf (((((Utf8.encode a0).data.toList).length : Int) - (1 : Int)) + (1 : Int))) a1)) rfl rfl (adr rfl (by intro w hS_; exact (asr a1 .i64 (((((Utf8.encode a0).data.toList).length : Int) - (1 : Int)) + (1 : Int)) underlying9 krf krf e4))) (rp 1 [4, 5] (rt 6 (bt (at_ ((Utf8.encode a0).data.toList) ((((Utf8.encode a0).data.toList).length : Int) - (1 : Int)))) rfl rfl (adr rfl (by intro w hS_; exact (x_index ((Utf8.encode a0).data.toList) .i64 ((((Utf8.encode a0).data.toList).length : Int) - (1 : Int)) underlying9 krf krf e5))) ?_)))));refine ajs krf (aat 72 #[] [(str (zak (zaf (((((Utf8.encode a0).data.toList).length : Int) - (1 : Int)) + (1 : Int))) a1)), (bt (at_ ((Utf8.encode a0).data.toList) ((((Utf8.encode a0).data.toList).length : Int) - (1 : Int))))] _ ent72 krf krf (ast (zak (zaf (((((Utf8.encode a0).data.toList).length : Int) - (1 : Int)) + (1 : Int))) a1) (at_ ((Utf8.encode a0).data.toList) ((((Utf8.encode a0).data.toList).length : Int) - (1 : Int))) e6) ?_);rintro _ g9 ⟨rfl, c3⟩
 have c4 := e7.call c3; clear c3;refine wp 1 (nq (cs (sr (wp 2 (nq (cd a2 (fun e8 a2 => ?_) (fun e8 a2 => ?_)))))));refine sr (wp 1 (nq (ct (st (aau ?_)))));obtain rfl := oi a2;refine n_ret (bt_ (aau (bt_ (st (n_ret (bt_ ?_))))));obtain rfl := oi a7;exact rv c4.kp
 refine ck (qn (cr (wp 2 (gi a2 fun e9 a2 => aah (ixb (· == (at_ ((Utf8.encode a0).data.toList) ((((Utf8.encode a0).data.toList).length : Int) - (1 : Int)))) (zak (zaf (((((Utf8.encode a0).data.toList).length : Int) - (1 : Int)) + (1 : Int))) a1)) (1 : Int) krf krf e9 (gi a2 fun f0 a2 => aah ((((Utf8.encode a0).data.toList).length : Int) - (1 : Int)) ((ixb (· == (at_ ((Utf8.encode a0).data.toList) ((((Utf8.encode a0).data.toList).length : Int) - (1 : Int)))) (zak (zaf (((((Utf8.encode a0).data.toList).length : Int) - (1 : Int)) + (1 : Int))) a1)) + (1 : Int)) krf krf f0 (wp 1 (wl ?_)))))));refine ql ?_;obtain rfl := oi a2;exact je1 rfl c4.kp
 refine ck (ql ?_);obtain rfl := oi a2;exact je1 rfl c2.kp
 rintro a8 h0 G f1 rfl
 refine cs (sr (wp 1 (nq (ce (lpS (fun c5 a4 => aha fu a1 a0 a8 c5 a4) (1 : Int) f1 a7 [0, 4, 7, 8, 9, 12] (fun a4 => [(12, (Vi .i64 a4))]) (fun _ => rfl) ?_)))));rintro c5 a4 h1 G c6 a3
 rw [atg, ajx] at a3;refine cs (sr (wp 4 (nq (cd a3 (fun f2 a3 => ?_) (fun f2 a3 => ?_)))));refine ck (qn (cs (ce (cs (gi a3 fun f3 a3 => gi a3 fun f4 a3 => gi a3 fun f5 a3 => gi a3 fun f6 a3 => cdr 10 c6 (afl (afm (afl (ans (afm (afl (aul (afm (ans (afm (afl (aul (afm aff))))))))))))) fun h2 f7 => ?_)))));refine rp 7 [0, 1, 2] (rt 3 (Vi .i64 (a8 - a4)) rfl rfl (adr rfl (by intro w hS_; exact (x_sub64 a8 a4 krf krf f3))) (rt 4 (bt (at_ a1 (a8 - a4))) rfl rfl (adr rfl (by intro w hS_; exact (x_index a1 .i64 (a8 - a4) underlying9 krf krf f4))) (rp 2 [5, 6, 7] (rt 8 (Vi .i64 (((((Utf8.encode a0).data.toList).length : Int) - (1 : Int)) - a4)) rfl rfl (adr rfl (by intro w hS_; exact (x_sub64 ((((Utf8.encode a0).data.toList).length : Int) - (1 : Int)) a4 krf krf f5))) (rt 9 (bt (at_ ((Utf8.encode a0).data.toList) (((((Utf8.encode a0).data.toList).length : Int) - (1 : Int)) - a4))) rfl rfl (adr rfl (by intro w hS_; exact (x_index ((Utf8.encode a0).data.toList) .i64 (((((Utf8.encode a0).data.toList).length : Int) - (1 : Int)) - a4) underlying9 krf krf f6))) (ajs krf (ahe (at_ a1 (a8 - a4)) (at_ ((Utf8.encode a0).data.toList) (((((Utf8.encode a0).data.toList).length : Int) - (1 : Int)) - a4)) krf krf (nq (cn a3 (fun f8 a3 => ?_) (fun f8 a3 => ?_))))))))));exact nzz a3
 exact ck (bn (qn (cr (wp 1 (gi a3 fun f9 a3 => aah a4 (1 : Int) krf krf f9 (wp 1 (wl (ql (le' (a4 + (1 : Int)) f7.kp a3)))))))))
 refine abp (abo (abv (abr (qn (cs (sr (wp 2 (gi a3 fun g0 a3 => ?_))))))));refine arm a8 ((((Utf8.encode a0).data.toList).length : Int) - (1 : Int)) krf krf g0 (wp 1 (nq (ct (st (n_ret (bt_ (aau (bt_ ?_))))))));refine st (n_ret (bt_ ?_));obtain rfl := oi a3;exact rv c6.kp
 refine abp (abo (abv (abr (qn (cs (sr (wp 1 (wl ?_))))))));refine qn (ct (st (n_ret (bt_ ?_))));obtain rfl := oi a7;exact rv b7.kp
theorem aro {fu : Nat} {a0 : Int} {w : World} {r : Bool} (hr : aei fu a0 = some r) (hG : Gl w) : CR prog 114 [(Vi .i64 a0)] w fun v w' => v = (Vb r) /\ Hp w [] [] w' := by
 have hH := Hp.refl w;refine enter (k := 5) func114 rfl rfl nbe ?_;unfold aei at hr;refine sr (wp 1 (nq (sr (wp 3 (nq ?_)))));refine ct ?_;obtain rfl := oi hr;exact rv hH.kp
theorem K_L_strings_IndexAny {fu : Nat} {a2 : Str} {a5 : Str} {w : World} {r : Int} (hr : amo fu a2 a5 = some r) (hG : Gl w) : CR prog 48 [(str a2), (str a5)] w fun v w' => v = (Vi .i64 r) /\ Hp w [] [] w' := by
 have hH := Hp.refl w;refine enter (k := 55) func48 rfl rfl nbe ?_;unfold amo at hr;refine sr (wp 1 (nq (cs (sr (wp 2 (wl ?_))))));refine qn (cd hr (fun h1 hr => ?_) (fun h1 hr => ?_));refine sr (wp 1 (nq (ct (st ?_))));obtain rfl := oi hr;exact rv hH.kp
 refine ck (qn (cs (sr (wp 3 (nq (cd hr (fun h2 hr => ?_) (fun h2 hr => ?_)))))));refine sr (wp 1 (gi hr fun g3 hr => aaq a5 .i64 (0 : Int) underlying9 krf krf g3 (w_convx .i32 .u8 ((at_ a5 (0 : Int)).toNat : Int) underlying5 underlying21 krf (wrap_u8_i32 _) (wp 1 (nq (bi hr fun v8 a6 hr => afp hH [0, 1, 4, 5] [(5, (Vi .i32 v8))] ?_ ?_))))));refine sr (wp 2 (nq (cd a6 (fun h9 a6 => ?_) (fun h9 a6 => ?_))));refine cr (wp 1 (wl (ql ?_)));obtain rfl := oi a6;exact je hH.kp
 refine ck (ql ?_);obtain rfl := oi a6;exact je hH.kp
 intro c8 G b2;refine sr (wp 2 (bi hr fun c9 b6 hr => wc ent113 b2 (ark b6 (hG.hp0 b2)) fun d0 b7 => wp 1 (nq (ct (st ?_)))));obtain rfl := oi hr;exact rv b7.kp
 refine ck (qn (bi hr fun d1 a3 hr => afp hH [0, 1, 4] [] ?_ ?_));refine sr (wp 2 (bi a3 fun d2 b8 a3 => wc ent114 hH (aro b8 (hG.hp0 hH)) fun d3 b9 => nq (cb a3 (fun c0 a3 => ?_) (fun c0 a3 => ?_))));exact nzz a3
 refine ck (ql ?_);obtain rfl := oi a3;exact je b9.kp
 intro d4 G b3;refine bi hr fun b4 c1 hr => cut1 b3 b4 [4] (fun c2 => []) ?_ ?_
 refine sr (wp 1 (w_range b3 a2 underlying9 krf fun a7 d5 c3 => nq (ce (lpG (σ := Nat × Nat) [1, 4, 45] (fun ⟨a4, a1⟩ => []) (fun ⟨a4, a1⟩ w' => Hp w [] [sit a7 a2 a1] w' /\ aez fu a2 a5 a4 a1 = some b4) (fun ⟨a4, a1⟩ => a4) (fu, 0) (by exact ⟨c3.kp, c1⟩) ?_))));rintro ⟨_ | a4, a1⟩ d6 G ⟨b0, a0⟩
 · exact nzz a0
 rw [afy, adk] at a0;refine sr ?_;by_cases a8 : a1 < a2.length
 replace a0 := ift a8 a0;refine w_next b0 0 a7 a2 a1 rfl krf (fun _ c4 a9 => ?_) (fun b1 => absurd a8 b1);replace a9 : Hp w [] [sit a7 a2 (a1 + (Utf8.decode ⟨List.toArray a2⟩ a1).2)] c4 := a9;refine wp 1 (nq (cs (c_true krf (ck (qn (ce (sr ?_)))))));refine wp 4 (nq (sr (wp 2 (bi a0 fun d7 c5 a0 => wc ent113 a9 (ark c5 (hG.hp0 a9)) fun d8 b5 => wp 1 (wl ?_)))));refine qn (cd a0 (fun c6 a0 => ?_) (fun c6 a0 => ?_));refine sr (wp 2 (nq (ct (bt_ (aau (bt_ (aau ?_)))))));obtain rfl := oi a0;obtain rfl := oi hr;exact rv b5.kp
 refine ck (bn (ql ?_));exact ⟨(a4, a1 + (Utf8.decode ⟨List.toArray a2⟩ a1).2), _, rfl, by kernel_rfl, ⟨b5.kp, a0⟩, zad _⟩
 replace a0 := ifn a8 a0;refine w_next b0 0 a7 a2 a1 rfl krf (fun b1 => absurd b1 a8) (fun _ => ?_);refine wp 1 (nq (cs (c_false krf (abp (abo (abv (abr (ql ?_))))))));obtain rfl := oi a0;exact je1 rfl b0.kp
 rintro c2 d9 G c7 rfl
 refine sr (wp 1 (nq (ct ?_)));obtain rfl := oi hr;exact rv c7.kp
end Go.Proofs
namespace Go.Wk
open Go.Px
theorem asc_at{t:Str}(h:t.all (fun b=>decide (b.toNat<128))=true)(k:Nat)(hk:k<t.length):(at_ t (k:Int)).toNat<128:=by
 have hm:at_ t (k:Int)∈t:=by simp only [at_,Int.toNat_natCast,List.getD_eq_getElem?_getD,List.getElem?_eq_getElem hk,Option.getD_some];exact List.getElem_mem hk
 exact of_decide_eq_true (List.all_eq_true.1 h _ hm)
theorem ia_ok(a:Int)(h0: -1000000<=a)(h:a<=1000000):acd a:=⟨by omega,by omega⟩
theorem ia_err(t:Str)(ha:t.all (fun b=>decide (b.toNat<128))=true)(n:Nat):∀(k fk:Nat),k+n=t.length->n<fk->aek 2000 t fk k=some (.inl ()):=by
 induction n with
 |zero=>
  intro k fk hk hf;obtain⟨fk,rfl⟩:=fkx fk;rw [aji,adz,if_neg (by omega)]
 |succ n ih=>
  intro k fk hk hf;obtain⟨fk,rfl⟩:=fkx fk;have h1:=asc_at ha k (by omega);have hd:=dec_ascii t k (by omega) h1;have hd':Utf8.decode ⟨List.toArray t⟩ k=((at_ t (k:Int)).toNat,1):=hd;rw [aji,adz,if_pos (by omega),hd',if_neg (by simp only;omega)];exact ih (k+1) fk (by omega) (by omega)
theorem ixb_no(p:UInt8->Bool):∀l:Str,(∀c∈l,p c=false)->ixb p l= -1
 |[],_=>rfl
 |c::l,h=>by
  unfold ixb;rw [h c (by simp),if_neg (by decide),ixb_no p l (fun x hx=>h x (List.mem_cons_of_mem _ hx)),if_pos rfl]
theorem ia_high(t:Str)(ht:t.length<=1000)(ha:t.all (fun b=>decide (b.toNat<128))=true)(r:Int)(hr:128<=r):adh 2000 t r=some (-1):=by
 have hn:decide (r<128)=false:=decide_eq_false (by omega);unfold adh;rw [if_pos (by omega),hn,Option.bind_some,cond_false];by_cases he:r=65533
 ·rw [if_pos he,ia_err t ha t.length 0 2000 (by omega) (by omega)];rfl
 rw [if_neg he];have hv:∃b,ady 2000 r=some b:=by
  unfold ady;rw [if_pos (by omega),Option.bind_some];cases decide (r<55296)with
  |true=>exact⟨_,rfl⟩
  |false=>
   rw [cond_false];by_cases h:57343<r
   ·rw [if_pos h,Option.bind_some];cases decide (r<=1114111)<;>exact⟨_,rfl⟩
   ·rw [if_neg h];exact⟨_,rfl⟩
 obtain⟨b,hb⟩:=hv;rw [hb,Option.bind_some];cases b with
 |false=>rfl
 |true=>
  obtain⟨e1,e2,e3⟩:=encL_high r hr;have hE:(Utf8.encode r).data.toList=encL r:=rfl;rw [Bool.not_true,cond_false,hE];have hok:acd (((encL r).length:Int)-1):=ia_ok _ (by omega) (by omega);rw [aac hok];show aej 2000 t r (1999+1)=_;rw [aob,afx,hE];generalize hlast:at_ (encL r) (((encL r).length:Int)-1)=last at e3;generalize hm:((encL r).length:Int)-1=m at hlast e3⊢;by_cases hlt:m<(t.length:Int)
  ·obtain⟨k,rfl⟩:∃k:Nat,m=(k:Int):=⟨m.toNat,by omega⟩
   have h1:=asc_at ha k (by omega);have hne:¬at_ t (k:Int)=last:=fun e=>by rw [e]at h1;omega
   have hall:∀l:Str,(∀c∈l,c∈t)->ixb (·==last) l= -1:=fun l hl=>ixb_no _ l fun c hc=>by
    have hc':=of_decide_eq_true (List.all_eq_true.1 ha c (hl c hc))
    have:¬c=last:=fun e=>by rw [e]at hc';omega
    simpa using this
   rw [if_pos hlt,aac (by omega),aac (by omega),if_neg hne,aac (ia_ok _ (by omega) (by omega)),aac (by omega),aac (by omega),hall _ (fun c hc=>List.mem_of_mem_drop hc),if_pos (by decide),Option.bind_some,Sum.elim_inr]
  ·rw [if_neg hlt]
theorem u8i_back:∀c:UInt8,u8i (c.toNat:Int)=c:=acq _ (by decide+kernel)
theorem ia_low(t:Str)(c:UInt8)(hc:c.toNat<128):adh 2000 t (c.toNat:Int)=some (ixb (·==c) t):=by
 have hn:decide ((c.toNat:Int)<128)=true:=decide_eq_true (by omega);unfold adh;rw [if_pos (by omega),hn,Option.bind_some,cond_true,u8i_back]
theorem ixb_mem(c:UInt8):∀t:Str,(0<=ixb (·==c) t)↔t.contains c=true
 |[]=>by simp [ixb]
 |b::t=>by
  have ih:=ixb_mem c t;have hg:=ixb_ge (·==c) t;unfold ixb;by_cases h:b=c
  ·rw [if_pos (by simpa using h)];simp [h]
  ·have h':¬c=b:=fun e=>h e.symm
   rw [if_neg (by simpa using h),List.contains_cons];have hb:(c==b)=false:=by simpa using h'
   rw [hb,Bool.false_or,<-ih];split
   ·rename_i h1;rw [h1]
   ·omega
theorem ixb_skip(p:UInt8->Bool):∀a l:Str,(∀c∈a,p c=false)->ixb p (a++l)=if ixb p l= -1 then-1 else ixb p l+(a.length:Int)
 |[],l,_=>by
  rw [List.nil_append,List.length_nil];split
  ·assumption
  ·omega
 |c::a,l,h=>by
  have ih:=ixb_skip p a l (fun x hx=>h x (List.mem_cons_of_mem _ hx));have hg:=ixb_ge p l;rw [List.cons_append,ixb,h c (by simp),if_neg (by decide),ih];by_cases h1:ixb p l= -1
  ·rw [if_pos h1,if_pos h1,if_pos rfl]
  ·rw [if_neg h1,if_neg h1,if_neg (by omega),List.length_cons];omega
theorem ia_lp(s t:Str)(ht:t.length<=1000)(ha:t.all (fun b=>decide (b.toNat<128))=true)(n:Nat):∀(k fk:Nat),s.length-k<=n->n<fk->k<=s.length->
  aez 2000 s t fk k=some (if ixb (t.contains ·) (s.drop k)= -1 then .inl ()else .inr ((k:Int)+ixb (t.contains ·) (s.drop k))):=by
 induction n with
 |zero=>
  intro k fk hk hf hl;obtain⟨fk,rfl⟩:=fkx fk;rw [afy,adk,if_neg (by omega),List.drop_eq_nil_of_le (by omega)];rfl
 |succ n ih=>
  intro k fk hk hf hl;obtain⟨fk,rfl⟩:=fkx fk;by_cases hlt:k<s.length
  ·rw [afy,adk,if_pos hlt];have hg:=ixb_ge (t.contains ·) (s.drop (k+1));by_cases h128:(at_ s (k:Int)).toNat<128
   ·have hd':Utf8.decode ⟨List.toArray s⟩ k=((at_ s (k:Int)).toNat,1):=dec_ascii s k hlt h128;rw [hd'];simp only;rw [ia_low t _ h128,Option.bind_some,aok s k hlt,ixb];have hmem:=ixb_mem (at_ s (k:Int)) t;by_cases hc:t.contains (at_ s (k:Int))=true
    ·rw [if_pos (hmem.2 hc),if_pos hc,if_neg (by decide)];simp
    ·rw [if_neg (fun h=>hc (hmem.1 h)),if_neg hc,ih (k+1) fk (by omega) (by omega) (by omega)];by_cases h1:ixb (t.contains ·) (s.drop (k+1))= -1
     ·rw [if_pos h1,if_pos h1,if_pos rfl]
     ·rw [if_neg h1,if_neg h1,if_neg (by omega)];congr 2
      omega
   ·obtain⟨d1,d2,d3,d4⟩:=dec_high s k hlt h128;have e:(⟨s.toArray⟩:ByteArray)=⟨List.toArray s⟩:=rfl;rw [ia_high t ht ha _ (by omega),Option.bind_some,if_neg (by decide)]
    generalize(Utf8.decode ⟨s.toArray⟩ k).2=wd at d2 d3 d4⊢
    rw [ih (k+wd) fk (by omega) (by omega) (by omega)];have hsplit:s.drop k=(s.drop k).take wd++s.drop (k+wd):=by
     have hdd:s.drop (k+wd)=(s.drop k).drop wd:=by rw [List.drop_drop]
     rw [hdd,List.take_append_drop]
    have hno:∀c∈(s.drop k).take wd,t.contains c=false:=by
     intro c hc;obtain⟨j,hj,rfl⟩:=List.getElem_of_mem hc;rw [List.length_take,List.length_drop]at hj;have hb:=d4 (k+j) (by omega) (by omega);rw [List.getElem_take,List.getElem_drop];have e2:at_ s ((k+j:Nat):Int)=s[k+j]'(by omega):=by
      unfold at_;rw [Int.toNat_natCast];simp [show k+j<s.length by omega]
     rw [e2]at hb;cases hcc:t.contains (s[k+j]'(by omega))with
     |false=>rfl
     |true=>
      have:=of_decide_eq_true (List.all_eq_true.1 ha _ (List.contains_iff_mem.1 hcc))
      omega
    have hsk:ixb (t.contains ·) (s.drop k)=if ixb (t.contains ·) (s.drop (k+wd))= -1 then-1 else ixb (t.contains ·) (s.drop (k+wd))+(((s.drop k).take wd).length:Int):=by
     conv=>lhs;rw [hsplit]
     exact ixb_skip _ _ _ hno
    rw [hsk];have hlen:((s.drop k).take wd).length=wd:=by rw [List.length_take,List.length_drop];omega
    have hg2:=ixb_ge (t.contains ·) (s.drop (k+wd));rw [hlen];by_cases h1:ixb (t.contains ·) (s.drop (k+wd))= -1
    ·rw [if_pos h1,if_pos h1,if_pos rfl]
    ·rw [if_neg h1,if_neg h1,if_neg (by omega)];congr 2
     omega
  ·rw [afy,adk,if_neg hlt,List.drop_eq_nil_of_le (by omega)];rfl
theorem ia_short(s t:Str)(h8:s.length<=8)(h2:2<=t.length)(ht:t.length<=1000)(ha:t.all (fun b=>decide (b.toNat<128))=true):amo 2000 s t=some (Lib.indexAny s t):=by
 have hne:¬t=[]:=fun e=>by rw [e]at h2;simp at h2
 have hg:=ixb_ge (t.contains ·) s;unfold amo aei;rw [if_neg hne,if_neg (by omega),Option.bind_some,decide_eq_false (by omega),cond_false,Option.bind_some,ia_lp s t ht ha s.length 0 2000 (by omega) (by omega) (by omega),List.drop_zero,asw,Option.bind_some];by_cases h1:ixb (t.contains ·) s= -1
 ·rw [if_pos h1,h1];rfl
 ·rw [if_neg h1,Sum.elim_inr];congr 1
  omega
end Go.Wk
namespace Go.Proofs
open Go.Wk Go.Px
theorem sh_IndexAnyW(s t:List UInt8)(w:World)(h:s.length<=1000000000/\t.length<=1000/\t.all (fun b=>decide (b.toNat<128))=true)(hG:Gl w):CR Tryz.prog 48 [str s,str t] w fun v w'=>v=.int .i64 (Lib.indexAny s t)/\Hp w [] [] w':=by
 obtain⟨h1,h2,h3⟩:=h;by_cases h8:8<s.length
 ·exact sh_IndexAny s t w ⟨h1,h2,h3,.inl h8⟩
 by_cases ht:t.length<=1
 ·exact sh_IndexAny s t w ⟨h1,h2,h3,.inr (.inl ht)⟩
 exact K_L_strings_IndexAny (ia_short s t (by omega) (by omega) h2 h3) hG
open Go.Wk Go.Px Go.Ce
theorem beqn(c:UInt8):(fun d:UInt8=>Nat.beq d.toNat c.toNat)=(·==c):=by
 funext d
 rw [Bool.eq_iff_iff];simp [Nat.beq_eq,UInt8.toNat_inj]
def cg0:List SC:=[.s 7 19220757857722691,.s 4 1902465859,.s 12 34178039824424540632871946573,.s 6 76223546812749,.s 4 1801666898,.s 4 1902465874,.s 16 134856309279822869049672161412773271383]
def cg2:List SC:=[.s 4 1836020294,.i .i64 1,.s 2 28500,.i .i64 1,.s 7 32760367514808131,.i .i64 1,.s 5 435745550162,.i .i64 1,.s 12 31398775957419736383438939474,.i .i64 1,.s 4 1752457552,.i .i64 1,.s 13 8038086645099452779117220619603,.i .i64 1,.s 8 8022086805604427090,.i .i64 1,.s 11 146592537699037055746991442,.i .i64 1,.s 8 8022086835787294034,.i .i64 1,.s 3 6383958,.i .i64 2,.s 4 1902465859,.i .i64 3,.s 4 1801666898,.i .i64 4,.s 14 2118593076047644386086300223958851,.i .i64 5,.s 7 32481164391381061,.i .i64 5,.s 12 35712208859136432295261004109,.i .i64 5,.s 11 139505538796981402030991693,.i .i64 5,.s 4 1902465874,.i .i64 5,.s 19 2462787319963300618914069775828421739474218819,.i .i64 6,.s 12 31393958642898984038472511299,.i .i64 6,.s 5 500068349509,.i .i64 6,.s 6 76223546812749,.i .i64 6,.s 15 599171726743894305243344019148465491,.i .i64 6,.s 18 8837943172779679942406515151746074144830803,.i .i64 6,.s 6 128026086171457,.i .i64 7,.s 5 512970484801,.i .i64 7,.s 12 35731532856486514854116224065,.i .i64 7,.s 13 8037453196880052494869233365584,.i .i64 7,.s 7 28554769915274578,.i .i64 7,.s 9 1851985001289037673811,.i .i64 7,.s 11 121371689044478372993003093,.i .i64 7]
def cg5:List SC:=[.s 8 3404504904086797606,.s 7 10180542346517851,.s 7 10180628329749851]
def cg7:List SC:=[.i .u32 1116352408,.i .u32 1899447441,.i .u32 3049323471,.i .u32 3921009573,.i .u32 961987163,.i .u32 1508970993,.i .u32 2453635748,.i .u32 2870763221,.i .u32 3624381080,.i .u32 310598401,.i .u32 607225278,.i .u32 1426881987,.i .u32 1925078388,.i .u32 2162078206,.i .u32 2614888103,.i .u32 3248222580,.i .u32 3835390401,.i .u32 4022224774,.i .u32 264347078,.i .u32 604807628,.i .u32 770255983,.i .u32 1249150122,.i .u32 1555081692,.i .u32 1996064986,.i .u32 2554220882,.i .u32 2821834349,.i .u32 2952996808,.i .u32 3210313671,.i .u32 3336571891,.i .u32 3584528711,.i .u32 113926993,.i .u32 338241895,.i .u32 666307205,.i .u32 773529912,.i .u32 1294757372,.i .u32 1396182291,.i .u32 1695183700,.i .u32 1986661051,.i .u32 2177026350,.i .u32 2456956037,.i .u32 2730485921,.i .u32 2820302411,.i .u32 3259730800,.i .u32 3345764771,.i .u32 3516065817,.i .u32 3600352804,.i .u32 4094571909,.i .u32 275423344,.i .u32 430227734,.i .u32 506948616,.i .u32 659060556,.i .u32 883997877,.i .u32 958139571,.i .u32 1322822218,.i .u32 1537002063,.i .u32 1747873779,.i .u32 1955562222,.i .u32 2024104815,.i .u32 2227730452,.i .u32 2361852424,.i .u32 2428436474,.i .u32 2756734187,.i .u32 3204031479,.i .u32 3329325298]
noncomputable def cxG(k:Nat):Option (List SC):=bi (Nat.beq k (nat_lit 0)) (some cg0) (bi (Nat.beq k (nat_lit 2)) (some cg2) (bi (Nat.beq k (nat_lit 5)) (some cg5) (bi (Nat.beq k (nat_lit 7)) (some cg7) (none))))
noncomputable def cx30:List SV->Hs->Option (SV×Hs):=xi fun a=>cv (str (Lib.itoa a))
noncomputable def cx48:List SV->Hs->Option (SV×Hs):=xs2 fun a b=>bi (Nat.ble (arb a) (nat_lit 1000000000)) (bi (Nat.ble (arb b) (nat_lit 1000)) (bi (b.all (fun b=>decide (b.toNat<128))) (bi (or (Nat.ble (nat_lit 9) (arb a)) (or (Nat.ble (arb b) (nat_lit 1)) (a.all (fun b=>decide (b.toNat<128))))) (cv (.int .i64 (Lib.indexAny a b))) none) none) none) none
noncomputable def cx56:List SV->Hs->Option (SV×Hs):=xjoin
noncomputable def cx70:List SV->Hs->Option (SV×Hs):=xsb fun a b=>bi (Nat.ble (arb a) (nat_lit 1000000000)) (cv (.int .i64 (api (fun d=>Nat.beq d.toNat b.toNat) a))) none
noncomputable def cx72:List SV->Hs->Option (SV×Hs):=xsb fun a b=>cv (.int .i64 (ixb (fun d=>Nat.beq d.toNat b.toNat) a))
noncomputable def cx109:List SV->Hs->Option (SV×Hs):=xs2 fun a b=>bi (Nat.ble (arb a) (nat_lit 1000000000)) (bi (Nat.ble (arb b) (nat_lit 1000)) (bi (b.all (fun b=>decide (b.toNat<128))) (cv (str (Lib.trimS a b))) none) none) none
noncomputable def cx117:List SV->Hs->Option (SV×Hs):=xs2 fun a b=>bi (Nat.ble (arb a) (nat_lit 1000000000)) (cv (.bool (Lib.contains a b))) none
noncomputable def cx142:List SV->Hs->Option (SV×Hs):=xs2 fun a b=>cv (str (Lib.trimPrefix a b))
noncomputable def cx164:List SV->Hs->Option (SV×Hs):=xcc 116
noncomputable def cx182:List SV->Hs->Option (SV×Hs):=xs2 fun a b=>bi (Nat.ble (arb a) (nat_lit 1000000000)) (cv (.int .i64 (Lib.index a b))) none
noncomputable def cx183:List SV->Hs->Option (SV×Hs):=xs2 fun a b=>bi (Nat.ble (arb a) (nat_lit 1000000000)) (cvT [str (Lib.cut a b).1,str (Lib.cut a b).2.1,.bool (Lib.cut a b).2.2]) none
noncomputable def cx185:List SV->Hs->Option (SV×Hs):=xsplit 9
noncomputable def cx234:List SV->Hs->Option (SV×Hs):=xs2 fun a b=>bi (Nat.ble (arb a) (nat_lit 1000000000)) (bi (Nat.ble (arb b) (nat_lit 1000)) (bi (b.all (fun b=>decide (b.toNat<128))) (cv (str (Lib.trimLeftS a b))) none) none) none
noncomputable def cx263:List SV->Hs->Option (SV×Hs):=xs2 fun a b=>bi (Nat.ble (arb a) (nat_lit 1000000000)) (bi (Nat.ble (arb b) (nat_lit 1000)) (bi (b.all (fun b=>decide (b.toNat<128))) (cv (str (Lib.trimRightS a b))) none) none) none
noncomputable def cx277:List SV->Hs->Option (SV×Hs):=xs2 fun a b=>cvT [str (Lib.trimPrefix a b),.bool (Lib.hasPrefix a b)]
noncomputable def cxX(k:Nat):Option (List SV->Hs->Option (SV×Hs)):=bi (Nat.blt k (nat_lit 142)) (bi (Nat.blt k (nat_lit 70)) (bi (Nat.blt k (nat_lit 48)) (bi (Nat.beq k (nat_lit 30)) (some cx30) (none)) (bi (Nat.blt k (nat_lit 56)) (bi (Nat.beq k (nat_lit 48)) (some cx48) (none)) (bi (Nat.beq k (nat_lit 56)) (some cx56) (none)))) (bi (Nat.blt k (nat_lit 109)) (bi (Nat.blt k (nat_lit 72)) (bi (Nat.beq k (nat_lit 70)) (some cx70) (none)) (bi (Nat.beq k (nat_lit 72)) (some cx72) (none))) (bi (Nat.blt k (nat_lit 117)) (bi (Nat.beq k (nat_lit 109)) (some cx109) (none)) (bi (Nat.beq k (nat_lit 117)) (some cx117) (none))))) (bi (Nat.blt k (nat_lit 185)) (bi (Nat.blt k (nat_lit 182)) (bi (Nat.blt k (nat_lit 164)) (bi (Nat.beq k (nat_lit 142)) (some cx142) (none)) (bi (Nat.beq k (nat_lit 164)) (some cx164) (none))) (bi (Nat.blt k (nat_lit 183)) (bi (Nat.beq k (nat_lit 182)) (some cx182) (none)) (bi (Nat.beq k (nat_lit 183)) (some cx183) (none)))) (bi (Nat.blt k (nat_lit 263)) (bi (Nat.blt k (nat_lit 234)) (bi (Nat.beq k (nat_lit 185)) (some cx185) (none)) (bi (Nat.beq k (nat_lit 234)) (some cx234) (none))) (bi (Nat.blt k (nat_lit 277)) (bi (Nat.beq k (nat_lit 263)) (some cx263) (none)) (bi (Nat.beq k (nat_lit 277)) (some cx277) (none)))))
noncomputable def cxP(k:Nat):Bool:=bi (Nat.blt k (nat_lit 182)) (bi (Nat.blt k (nat_lit 105)) (bi (Nat.blt k (nat_lit 59)) (bi (Nat.blt k (nat_lit 36)) (bi (Nat.blt k (nat_lit 19)) (bi (Nat.blt k (nat_lit 2)) (bi (Nat.blt k (nat_lit 1)) (bi (Nat.beq k (nat_lit 0)) (true) (false)) (bi (Nat.beq k (nat_lit 1)) (true) (false))) (bi (Nat.blt k (nat_lit 5)) (bi (Nat.beq k (nat_lit 2)) (true) (false)) (bi (Nat.blt k (nat_lit 16)) (bi (Nat.beq k (nat_lit 5)) (true) (false)) (bi (Nat.beq k (nat_lit 16)) (true) (false))))) (bi (Nat.blt k (nat_lit 24)) (bi (Nat.blt k (nat_lit 21)) (bi (Nat.beq k (nat_lit 19)) (true) (false)) (bi (Nat.beq k (nat_lit 21)) (true) (false))) (bi (Nat.blt k (nat_lit 30)) (bi (Nat.beq k (nat_lit 24)) (true) (false)) (bi (Nat.blt k (nat_lit 34)) (bi (Nat.beq k (nat_lit 30)) (true) (false)) (bi (Nat.beq k (nat_lit 34)) (true) (false)))))) (bi (Nat.blt k (nat_lit 47)) (bi (Nat.blt k (nat_lit 43)) (bi (Nat.blt k (nat_lit 41)) (bi (Nat.beq k (nat_lit 36)) (true) (false)) (bi (Nat.beq k (nat_lit 41)) (true) (false))) (bi (Nat.blt k (nat_lit 45)) (bi (Nat.beq k (nat_lit 43)) (true) (false)) (bi (Nat.blt k (nat_lit 46)) (bi (Nat.beq k (nat_lit 45)) (true) (false)) (bi (Nat.beq k (nat_lit 46)) (true) (false))))) (bi (Nat.blt k (nat_lit 50)) (bi (Nat.blt k (nat_lit 48)) (bi (Nat.beq k (nat_lit 47)) (true) (false)) (bi (Nat.blt k (nat_lit 49)) (bi (Nat.beq k (nat_lit 48)) (true) (false)) (bi (Nat.beq k (nat_lit 49)) (true) (false)))) (bi (Nat.blt k (nat_lit 51)) (bi (Nat.beq k (nat_lit 50)) (true) (false)) (bi (Nat.blt k (nat_lit 58)) (bi (Nat.beq k (nat_lit 51)) (true) (false)) (bi (Nat.beq k (nat_lit 58)) (true) (false))))))) (bi (Nat.blt k (nat_lit 82)) (bi (Nat.blt k (nat_lit 64)) (bi (Nat.blt k (nat_lit 61)) (bi (Nat.blt k (nat_lit 60)) (bi (Nat.beq k (nat_lit 59)) (true) (false)) (bi (Nat.beq k (nat_lit 60)) (true) (false))) (bi (Nat.blt k (nat_lit 62)) (bi (Nat.beq k (nat_lit 61)) (true) (false)) (bi (Nat.blt k (nat_lit 63)) (bi (Nat.beq k (nat_lit 62)) (true) (false)) (bi (Nat.beq k (nat_lit 63)) (true) (false))))) (bi (Nat.blt k (nat_lit 72)) (bi (Nat.blt k (nat_lit 67)) (bi (Nat.beq k (nat_lit 64)) (true) (false)) (bi (Nat.blt k (nat_lit 70)) (bi (Nat.beq k (nat_lit 67)) (true) (false)) (bi (Nat.beq k (nat_lit 70)) (true) (false)))) (bi (Nat.blt k (nat_lit 73)) (bi (Nat.beq k (nat_lit 72)) (true) (false)) (bi (Nat.blt k (nat_lit 78)) (bi (Nat.beq k (nat_lit 73)) (true) (false)) (bi (Nat.beq k (nat_lit 78)) (true) (false)))))) (bi (Nat.blt k (nat_lit 93)) (bi (Nat.blt k (nat_lit 84)) (bi (Nat.blt k (nat_lit 83)) (bi (Nat.beq k (nat_lit 82)) (true) (false)) (bi (Nat.beq k (nat_lit 83)) (true) (false))) (bi (Nat.blt k (nat_lit 91)) (bi (Nat.beq k (nat_lit 84)) (true) (false)) (bi (Nat.blt k (nat_lit 92)) (bi (Nat.beq k (nat_lit 91)) (true) (false)) (bi (Nat.beq k (nat_lit 92)) (true) (false))))) (bi (Nat.blt k (nat_lit 101)) (bi (Nat.blt k (nat_lit 94)) (bi (Nat.beq k (nat_lit 93)) (true) (false)) (bi (Nat.blt k (nat_lit 95)) (bi (Nat.beq k (nat_lit 94)) (true) (false)) (bi (Nat.beq k (nat_lit 95)) (true) (false)))) (bi (Nat.blt k (nat_lit 102)) (bi (Nat.beq k (nat_lit 101)) (true) (false)) (bi (Nat.blt k (nat_lit 103)) (bi (Nat.beq k (nat_lit 102)) (true) (false)) (bi (Nat.beq k (nat_lit 103)) (true) (false)))))))) (bi (Nat.blt k (nat_lit 141)) (bi (Nat.blt k (nat_lit 119)) (bi (Nat.blt k (nat_lit 113)) (bi (Nat.blt k (nat_lit 109)) (bi (Nat.blt k (nat_lit 107)) (bi (Nat.beq k (nat_lit 105)) (true) (false)) (bi (Nat.beq k (nat_lit 107)) (true) (false))) (bi (Nat.blt k (nat_lit 111)) (bi (Nat.beq k (nat_lit 109)) (true) (false)) (bi (Nat.blt k (nat_lit 112)) (bi (Nat.beq k (nat_lit 111)) (true) (false)) (bi (Nat.beq k (nat_lit 112)) (true) (false))))) (bi (Nat.blt k (nat_lit 115)) (bi (Nat.blt k (nat_lit 114)) (bi (Nat.beq k (nat_lit 113)) (true) (false)) (bi (Nat.beq k (nat_lit 114)) (true) (false))) (bi (Nat.blt k (nat_lit 117)) (bi (Nat.beq k (nat_lit 115)) (true) (false)) (bi (Nat.blt k (nat_lit 118)) (bi (Nat.beq k (nat_lit 117)) (true) (false)) (bi (Nat.beq k (nat_lit 118)) (true) (false)))))) (bi (Nat.blt k (nat_lit 130)) (bi (Nat.blt k (nat_lit 126)) (bi (Nat.blt k (nat_lit 120)) (bi (Nat.beq k (nat_lit 119)) (true) (false)) (bi (Nat.beq k (nat_lit 120)) (true) (false))) (bi (Nat.blt k (nat_lit 127)) (bi (Nat.beq k (nat_lit 126)) (true) (false)) (bi (Nat.blt k (nat_lit 129)) (bi (Nat.beq k (nat_lit 127)) (true) (false)) (bi (Nat.beq k (nat_lit 129)) (true) (false))))) (bi (Nat.blt k (nat_lit 133)) (bi (Nat.blt k (nat_lit 131)) (bi (Nat.beq k (nat_lit 130)) (true) (false)) (bi (Nat.blt k (nat_lit 132)) (bi (Nat.beq k (nat_lit 131)) (true) (false)) (bi (Nat.beq k (nat_lit 132)) (true) (false)))) (bi (Nat.blt k (nat_lit 136)) (bi (Nat.beq k (nat_lit 133)) (true) (false)) (bi (Nat.blt k (nat_lit 139)) (bi (Nat.beq k (nat_lit 136)) (true) (false)) (bi (Nat.beq k (nat_lit 139)) (true) (false))))))) (bi (Nat.blt k (nat_lit 165)) (bi (Nat.blt k (nat_lit 149)) (bi (Nat.blt k (nat_lit 145)) (bi (Nat.blt k (nat_lit 142)) (bi (Nat.beq k (nat_lit 141)) (true) (false)) (bi (Nat.beq k (nat_lit 142)) (true) (false))) (bi (Nat.blt k (nat_lit 146)) (bi (Nat.beq k (nat_lit 145)) (true) (false)) (bi (Nat.blt k (nat_lit 147)) (bi (Nat.beq k (nat_lit 146)) (true) (false)) (bi (Nat.beq k (nat_lit 147)) (true) (false))))) (bi (Nat.blt k (nat_lit 159)) (bi (Nat.blt k (nat_lit 152)) (bi (Nat.beq k (nat_lit 149)) (true) (false)) (bi (Nat.blt k (nat_lit 156)) (bi (Nat.beq k (nat_lit 152)) (true) (false)) (bi (Nat.beq k (nat_lit 156)) (true) (false)))) (bi (Nat.blt k (nat_lit 160)) (bi (Nat.beq k (nat_lit 159)) (true) (false)) (bi (Nat.blt k (nat_lit 161)) (bi (Nat.beq k (nat_lit 160)) (true) (false)) (bi (Nat.beq k (nat_lit 161)) (true) (false)))))) (bi (Nat.blt k (nat_lit 174)) (bi (Nat.blt k (nat_lit 169)) (bi (Nat.blt k (nat_lit 168)) (bi (Nat.beq k (nat_lit 165)) (true) (false)) (bi (Nat.beq k (nat_lit 168)) (true) (false))) (bi (Nat.blt k (nat_lit 171)) (bi (Nat.beq k (nat_lit 169)) (true) (false)) (bi (Nat.blt k (nat_lit 173)) (bi (Nat.beq k (nat_lit 171)) (true) (false)) (bi (Nat.beq k (nat_lit 173)) (true) (false))))) (bi (Nat.blt k (nat_lit 179)) (bi (Nat.blt k (nat_lit 177)) (bi (Nat.beq k (nat_lit 174)) (true) (false)) (bi (Nat.blt k (nat_lit 178)) (bi (Nat.beq k (nat_lit 177)) (true) (false)) (bi (Nat.beq k (nat_lit 178)) (true) (false)))) (bi (Nat.blt k (nat_lit 180)) (bi (Nat.beq k (nat_lit 179)) (true) (false)) (bi (Nat.blt k (nat_lit 181)) (bi (Nat.beq k (nat_lit 180)) (true) (false)) (bi (Nat.beq k (nat_lit 181)) (true) (false))))))))) (bi (Nat.blt k (nat_lit 260)) (bi (Nat.blt k (nat_lit 224)) (bi (Nat.blt k (nat_lit 202)) (bi (Nat.blt k (nat_lit 192)) (bi (Nat.blt k (nat_lit 186)) (bi (Nat.blt k (nat_lit 183)) (bi (Nat.beq k (nat_lit 182)) (true) (false)) (bi (Nat.beq k (nat_lit 183)) (true) (false))) (bi (Nat.blt k (nat_lit 188)) (bi (Nat.beq k (nat_lit 186)) (true) (false)) (bi (Nat.blt k (nat_lit 190)) (bi (Nat.beq k (nat_lit 188)) (true) (false)) (bi (Nat.beq k (nat_lit 190)) (true) (false))))) (bi (Nat.blt k (nat_lit 194)) (bi (Nat.blt k (nat_lit 193)) (bi (Nat.beq k (nat_lit 192)) (true) (false)) (bi (Nat.beq k (nat_lit 193)) (true) (false))) (bi (Nat.blt k (nat_lit 195)) (bi (Nat.beq k (nat_lit 194)) (true) (false)) (bi (Nat.blt k (nat_lit 201)) (bi (Nat.beq k (nat_lit 195)) (true) (false)) (bi (Nat.beq k (nat_lit 201)) (true) (false)))))) (bi (Nat.blt k (nat_lit 208)) (bi (Nat.blt k (nat_lit 204)) (bi (Nat.blt k (nat_lit 203)) (bi (Nat.beq k (nat_lit 202)) (true) (false)) (bi (Nat.beq k (nat_lit 203)) (true) (false))) (bi (Nat.blt k (nat_lit 205)) (bi (Nat.beq k (nat_lit 204)) (true) (false)) (bi (Nat.blt k (nat_lit 206)) (bi (Nat.beq k (nat_lit 205)) (true) (false)) (bi (Nat.beq k (nat_lit 206)) (true) (false))))) (bi (Nat.blt k (nat_lit 216)) (bi (Nat.blt k (nat_lit 211)) (bi (Nat.beq k (nat_lit 208)) (true) (false)) (bi (Nat.blt k (nat_lit 215)) (bi (Nat.beq k (nat_lit 211)) (true) (false)) (bi (Nat.beq k (nat_lit 215)) (true) (false)))) (bi (Nat.blt k (nat_lit 221)) (bi (Nat.beq k (nat_lit 216)) (true) (false)) (bi (Nat.blt k (nat_lit 222)) (bi (Nat.beq k (nat_lit 221)) (true) (false)) (bi (Nat.beq k (nat_lit 222)) (true) (false))))))) (bi (Nat.blt k (nat_lit 239)) (bi (Nat.blt k (nat_lit 230)) (bi (Nat.blt k (nat_lit 227)) (bi (Nat.blt k (nat_lit 226)) (bi (Nat.beq k (nat_lit 224)) (true) (false)) (bi (Nat.beq k (nat_lit 226)) (true) (false))) (bi (Nat.blt k (nat_lit 228)) (bi (Nat.beq k (nat_lit 227)) (true) (false)) (bi (Nat.blt k (nat_lit 229)) (bi (Nat.beq k (nat_lit 228)) (true) (false)) (bi (Nat.beq k (nat_lit 229)) (true) (false))))) (bi (Nat.blt k (nat_lit 233)) (bi (Nat.blt k (nat_lit 231)) (bi (Nat.beq k (nat_lit 230)) (true) (false)) (bi (Nat.blt k (nat_lit 232)) (bi (Nat.beq k (nat_lit 231)) (true) (false)) (bi (Nat.beq k (nat_lit 232)) (true) (false)))) (bi (Nat.blt k (nat_lit 234)) (bi (Nat.beq k (nat_lit 233)) (true) (false)) (bi (Nat.blt k (nat_lit 237)) (bi (Nat.beq k (nat_lit 234)) (true) (false)) (bi (Nat.beq k (nat_lit 237)) (true) (false)))))) (bi (Nat.blt k (nat_lit 251)) (bi (Nat.blt k (nat_lit 241)) (bi (Nat.blt k (nat_lit 240)) (bi (Nat.beq k (nat_lit 239)) (true) (false)) (bi (Nat.beq k (nat_lit 240)) (true) (false))) (bi (Nat.blt k (nat_lit 243)) (bi (Nat.beq k (nat_lit 241)) (true) (false)) (bi (Nat.blt k (nat_lit 245)) (bi (Nat.beq k (nat_lit 243)) (true) (false)) (bi (Nat.beq k (nat_lit 245)) (true) (false))))) (bi (Nat.blt k (nat_lit 254)) (bi (Nat.blt k (nat_lit 252)) (bi (Nat.beq k (nat_lit 251)) (true) (false)) (bi (Nat.blt k (nat_lit 253)) (bi (Nat.beq k (nat_lit 252)) (true) (false)) (bi (Nat.beq k (nat_lit 253)) (true) (false)))) (bi (Nat.blt k (nat_lit 255)) (bi (Nat.beq k (nat_lit 254)) (true) (false)) (bi (Nat.blt k (nat_lit 259)) (bi (Nat.beq k (nat_lit 255)) (true) (false)) (bi (Nat.beq k (nat_lit 259)) (true) (false)))))))) (bi (Nat.blt k (nat_lit 287)) (bi (Nat.blt k (nat_lit 275)) (bi (Nat.blt k (nat_lit 266)) (bi (Nat.blt k (nat_lit 263)) (bi (Nat.blt k (nat_lit 262)) (bi (Nat.beq k (nat_lit 260)) (true) (false)) (bi (Nat.beq k (nat_lit 262)) (true) (false))) (bi (Nat.blt k (nat_lit 264)) (bi (Nat.beq k (nat_lit 263)) (true) (false)) (bi (Nat.blt k (nat_lit 265)) (bi (Nat.beq k (nat_lit 264)) (true) (false)) (bi (Nat.beq k (nat_lit 265)) (true) (false))))) (bi (Nat.blt k (nat_lit 271)) (bi (Nat.blt k (nat_lit 268)) (bi (Nat.beq k (nat_lit 266)) (true) (false)) (bi (Nat.blt k (nat_lit 270)) (bi (Nat.beq k (nat_lit 268)) (true) (false)) (bi (Nat.beq k (nat_lit 270)) (true) (false)))) (bi (Nat.blt k (nat_lit 272)) (bi (Nat.beq k (nat_lit 271)) (true) (false)) (bi (Nat.blt k (nat_lit 273)) (bi (Nat.beq k (nat_lit 272)) (true) (false)) (bi (Nat.beq k (nat_lit 273)) (true) (false)))))) (bi (Nat.blt k (nat_lit 280)) (bi (Nat.blt k (nat_lit 277)) (bi (Nat.blt k (nat_lit 276)) (bi (Nat.beq k (nat_lit 275)) (true) (false)) (bi (Nat.beq k (nat_lit 276)) (true) (false))) (bi (Nat.blt k (nat_lit 278)) (bi (Nat.beq k (nat_lit 277)) (true) (false)) (bi (Nat.blt k (nat_lit 279)) (bi (Nat.beq k (nat_lit 278)) (true) (false)) (bi (Nat.beq k (nat_lit 279)) (true) (false))))) (bi (Nat.blt k (nat_lit 284)) (bi (Nat.blt k (nat_lit 281)) (bi (Nat.beq k (nat_lit 280)) (true) (false)) (bi (Nat.blt k (nat_lit 283)) (bi (Nat.beq k (nat_lit 281)) (true) (false)) (bi (Nat.beq k (nat_lit 283)) (true) (false)))) (bi (Nat.blt k (nat_lit 285)) (bi (Nat.beq k (nat_lit 284)) (true) (false)) (bi (Nat.blt k (nat_lit 286)) (bi (Nat.beq k (nat_lit 285)) (true) (false)) (bi (Nat.beq k (nat_lit 286)) (true) (false))))))) (bi (Nat.blt k (nat_lit 308)) (bi (Nat.blt k (nat_lit 292)) (bi (Nat.blt k (nat_lit 289)) (bi (Nat.blt k (nat_lit 288)) (bi (Nat.beq k (nat_lit 287)) (true) (false)) (bi (Nat.beq k (nat_lit 288)) (true) (false))) (bi (Nat.blt k (nat_lit 290)) (bi (Nat.beq k (nat_lit 289)) (true) (false)) (bi (Nat.blt k (nat_lit 291)) (bi (Nat.beq k (nat_lit 290)) (true) (false)) (bi (Nat.beq k (nat_lit 291)) (true) (false))))) (bi (Nat.blt k (nat_lit 305)) (bi (Nat.blt k (nat_lit 301)) (bi (Nat.beq k (nat_lit 292)) (true) (false)) (bi (Nat.blt k (nat_lit 304)) (bi (Nat.beq k (nat_lit 301)) (true) (false)) (bi (Nat.beq k (nat_lit 304)) (true) (false)))) (bi (Nat.blt k (nat_lit 306)) (bi (Nat.beq k (nat_lit 305)) (true) (false)) (bi (Nat.blt k (nat_lit 307)) (bi (Nat.beq k (nat_lit 306)) (true) (false)) (bi (Nat.beq k (nat_lit 307)) (true) (false)))))) (bi (Nat.blt k (nat_lit 313)) (bi (Nat.blt k (nat_lit 310)) (bi (Nat.blt k (nat_lit 309)) (bi (Nat.beq k (nat_lit 308)) (true) (false)) (bi (Nat.beq k (nat_lit 309)) (true) (false))) (bi (Nat.blt k (nat_lit 311)) (bi (Nat.beq k (nat_lit 310)) (true) (false)) (bi (Nat.blt k (nat_lit 312)) (bi (Nat.beq k (nat_lit 311)) (true) (false)) (bi (Nat.beq k (nat_lit 312)) (true) (false))))) (bi (Nat.blt k (nat_lit 316)) (bi (Nat.blt k (nat_lit 314)) (bi (Nat.beq k (nat_lit 313)) (true) (false)) (bi (Nat.blt k (nat_lit 315)) (bi (Nat.beq k (nat_lit 314)) (true) (false)) (bi (Nat.beq k (nat_lit 315)) (true) (false)))) (bi (Nat.blt k (nat_lit 317)) (bi (Nat.beq k (nat_lit 316)) (true) (false)) (bi (Nat.blt k (nat_lit 318)) (bi (Nat.beq k (nat_lit 317)) (true) (false)) (bi (Nat.beq k (nat_lit 318)) (true) (false)))))))))
noncomputable def cxV(k:Nat):Bool:=bi (Nat.beq k (nat_lit 154)) (true) (false)
noncomputable def cx:Cx:=⟨Tryz.prog,cxG,cxX,cxP,cxV⟩
theorem cx_g{w:World}(hG:Gl w):Gok cxG w:=by
 intro g cs h;unfold cxG at h;rw [abu]at h;split at h
 ·rename_i hk;rw [aao]at hk;have hk:g=0:=hk;subst hk;cases h
  obtain⟨t,f,e⟩:=hG.specials;exact⟨okL_ok (show okL 0 cg0=true by kernel_rfl),t,f,fun E=>by rw [e];kernel_rfl⟩
 rw [abu]at h;split at h
 ·rename_i hk;rw [aao]at hk;have hk:g=2:=hk;subst hk;cases h
  obtain⟨t,f,e⟩:=hG.kinds;exact⟨okL_ok (show okL 0 cg2=true by kernel_rfl),t,f,fun E=>by rw [e];kernel_rfl⟩
 rw [abu]at h;split at h
 ·rename_i hk;rw [aao]at hk;have hk:g=5:=hk;subst hk;cases h
  obtain⟨t,f,e⟩:=hG.classes;exact⟨okL_ok (show okL 0 cg5=true by kernel_rfl),t,f,fun E=>by rw [e];kernel_rfl⟩
 rw [abu]at h;split at h
 ·rename_i hk;rw [aao]at hk;have hk:g=7:=hk;subst hk;cases h
  obtain⟨t,f,e⟩:=hG.rounds;exact⟨okL_ok (show okL 0 cg7=true by kernel_rfl),t,f,fun E=>by rw [e];kernel_rfl⟩
 cases h
theorem cx_names : (Tryz.prog.funcs.all fun fn => !(fn.name == "runtime.NumGoroutine")) = true := by kernel_rfl
theorem cx_ok:Cok cx Gl where
 gp:=fun h hp=>h.hp0 hp
 g:=cx_g
 ng:=fun f fn h=>by
  have h1:=Array.all_eq_true'.1 cx_names fn (Array.mem_of_getElem? h);simpa using h1
 mo:=by kernel_rfl
 ov:=fun k h=>by
  have h:cxV k=true:=h;unfold cxV at h;rw [abu]at h;split at h
  ·rename_i hk;rw [aao]at hk;have hk:k=154:=hk;subst hk;exact⟨Tryz.f154,22,4,34,2,Tryz.func154,by kernel_rfl,by kernel_rfl,by kernel_rfl,Tryz.underlying22,by kernel_rfl⟩
  cases h
theorem ent_30:Go.Wk.Enters cx.P 30:=⟨Tryz.f30,_,Tryz.func30,rfl,by kernel_rfl⟩
theorem cx30_ok(hC:Cok cx Gl):ala cx Gl cx30 30:=xi_ok hC ent_30 fun a v h=>by
 exact⟨cv_pl h,fun E w hG hb=>CR.mono (sh_Itoa a w ⟨hb.1,hb.2⟩ hG) fun V w' hv=>⟨hv.1.trans (cv_ok h E 0).1.symm,hv.2⟩⟩
theorem ent_48:Go.Wk.Enters cx.P 48:=⟨Tryz.f48,_,Tryz.func48,rfl,by kernel_rfl⟩
theorem cx48_ok(hC:Cok cx Gl):ala cx Gl cx48 48:=xs2_ok hC ent_48 fun a b v h=>by
 obtain⟨h1,h⟩:=aaf h;rw [aam,acj]at h1;obtain⟨h2,h⟩:=aaf h;rw [aam,acj]at h2;obtain⟨h3,h⟩:=aaf h;obtain⟨h4,h⟩:=aaf h;simp only [Bool.or_eq_true,aam,acj]at h4;exact⟨cv_pl h,fun E w hG=>CR.mono (sh_IndexAny a b w ⟨h1,h2,h3,h4⟩) fun V w' hv=>⟨hv.1.trans (cv_ok h E 0).1.symm,hv.2⟩⟩
theorem ent_56:Go.Wk.Enters cx.P 56:=⟨Tryz.f56,_,Tryz.func56,rfl,by kernel_rfl⟩
theorem cx56_ok(hC:Cok cx Gl):ala cx Gl cx56 56:=xjoin_ok hC ent_56 fun t w a n cap xs h1 h2 h3 h4=>sh_Join t w a n cap xs h1 h2 h3 h4
theorem ent_70:Go.Wk.Enters cx.P 70:=⟨Tryz.f70,_,Tryz.func70,rfl,by kernel_rfl⟩
theorem cx70_ok(hC:Cok cx Gl):ala cx Gl cx70 70:=xsb_ok hC ent_70 fun a b v h=>by
 obtain⟨h1,h⟩:=aaf h;rw [aam,acj]at h1;exact⟨cv_pl h,fun E w hG=>CR.mono (sh_LastIndexByte a b w h1) fun V w' hv=>⟨hv.1.trans (by rw [(cv_ok h E 0).1,beqn]),hv.2⟩⟩
theorem ent_72:Go.Wk.Enters cx.P 72:=⟨Tryz.f72,_,Tryz.func72,rfl,by kernel_rfl⟩
theorem cx72_ok(hC:Cok cx Gl):ala cx Gl cx72 72:=xsb_ok hC ent_72 fun a b v h=>by
 exact⟨cv_pl h,fun E w hG=>CR.mono (ast a b w) fun V w' hv=>⟨hv.1.trans (by rw [(cv_ok h E 0).1,beqn]),hv.2⟩⟩
theorem ent_109:Go.Wk.Enters cx.P 109:=⟨Tryz.f109,_,Tryz.func109,rfl,by kernel_rfl⟩
theorem cx109_ok(hC:Cok cx Gl):ala cx Gl cx109 109:=xs2_ok hC ent_109 fun a b v h=>by
 obtain⟨h1,h⟩:=aaf h;rw [aam,acj]at h1;obtain⟨h2,h⟩:=aaf h;rw [aam,acj]at h2;obtain⟨h3,h⟩:=aaf h;exact⟨cv_pl h,fun E w hG=>CR.mono (sh_Trim a b w h1 ⟨h2,h3⟩) fun V w' hv=>⟨hv.1.trans (cv_ok h E 0).1.symm,hv.2⟩⟩
theorem ent_117:Go.Wk.Enters cx.P 117:=⟨Tryz.f117,_,Tryz.func117,rfl,by kernel_rfl⟩
theorem cx117_ok(hC:Cok cx Gl):ala cx Gl cx117 117:=xs2_ok hC ent_117 fun a b v h=>by
 obtain⟨h1,h⟩:=aaf h;rw [aam,acj]at h1;exact⟨cv_pl h,fun E w hG=>CR.mono (sh_Contains a b w h1 hG) fun V w' hv=>⟨hv.1.trans (cv_ok h E 0).1.symm,hv.2⟩⟩
theorem ent_142:Go.Wk.Enters cx.P 142:=⟨Tryz.f142,_,Tryz.func142,rfl,by kernel_rfl⟩
theorem cx142_ok(hC:Cok cx Gl):ala cx Gl cx142 142:=xs2_ok hC ent_142 fun a b v h=>by
 exact⟨cv_pl h,fun E w hG=>CR.mono (sh_TrimPrefix a b w) fun V w' hv=>⟨hv.1.trans (cv_ok h E 0).1.symm,hv.2⟩⟩
theorem ent_164:Go.Wk.Enters cx.P 164:=⟨Tryz.f164,_,Tryz.func164,rfl,by kernel_rfl⟩
theorem cx164_ok(hC:Cok cx Gl):ala cx Gl cx164 164:=xcc_ok hC ent_164 fun b z s w h=>sh_copyCheck b z s w h
theorem ent_182:Go.Wk.Enters cx.P 182:=⟨Tryz.f182,_,Tryz.func182,rfl,by kernel_rfl⟩
theorem cx182_ok(hC:Cok cx Gl):ala cx Gl cx182 182:=xs2_ok hC ent_182 fun a b v h=>by
 obtain⟨h1,h⟩:=aaf h;rw [aam,acj]at h1;exact⟨cv_pl h,fun E w hG=>CR.mono (sh_Index a b w h1 hG) fun V w' hv=>⟨hv.1.trans (cv_ok h E 0).1.symm,hv.2⟩⟩
theorem ent_183:Go.Wk.Enters cx.P 183:=⟨Tryz.f183,_,Tryz.func183,rfl,by kernel_rfl⟩
theorem cx183_ok(hC:Cok cx Gl):ala cx Gl cx183 183:=xs2_ok hC ent_183 fun a b v h=>by
 obtain⟨h1,h⟩:=aaf h;rw [aam,acj]at h1;exact⟨(cvT_ok h (fun _=>(0,0))).2,fun E w hG=>CR.mono (sh_Cut a b w h1 hG) fun V w' hv=>⟨hv.1.trans (cvT_ok h E).1.symm,hv.2⟩⟩
theorem ent_185:Go.Wk.Enters cx.P 185:=⟨Tryz.f185,_,Tryz.func185,rfl,by kernel_rfl⟩
theorem cx185_ok(hC:Cok cx Gl):ala cx Gl cx185 185:=xsplit_ok hC ent_185 fun s c w hG h=>sh_Split s c w h hG
theorem ent_234:Go.Wk.Enters cx.P 234:=⟨Tryz.f234,_,Tryz.func234,rfl,by kernel_rfl⟩
theorem cx234_ok(hC:Cok cx Gl):ala cx Gl cx234 234:=xs2_ok hC ent_234 fun a b v h=>by
 obtain⟨h1,h⟩:=aaf h;rw [aam,acj]at h1;obtain⟨h2,h⟩:=aaf h;rw [aam,acj]at h2;obtain⟨h3,h⟩:=aaf h;exact⟨cv_pl h,fun E w hG=>CR.mono (sh_TrimLeft a b w h1 ⟨h2,h3⟩) fun V w' hv=>⟨hv.1.trans (cv_ok h E 0).1.symm,hv.2⟩⟩
theorem ent_263:Go.Wk.Enters cx.P 263:=⟨Tryz.f263,_,Tryz.func263,rfl,by kernel_rfl⟩
theorem cx263_ok(hC:Cok cx Gl):ala cx Gl cx263 263:=xs2_ok hC ent_263 fun a b v h=>by
 obtain⟨h1,h⟩:=aaf h;rw [aam,acj]at h1;obtain⟨h2,h⟩:=aaf h;rw [aam,acj]at h2;obtain⟨h3,h⟩:=aaf h;exact⟨cv_pl h,fun E w hG=>CR.mono (sh_TrimRight a b w h1 ⟨h2,h3⟩) fun V w' hv=>⟨hv.1.trans (cv_ok h E 0).1.symm,hv.2⟩⟩
theorem ent_277:Go.Wk.Enters cx.P 277:=⟨Tryz.f277,_,Tryz.func277,rfl,by kernel_rfl⟩
theorem cx277_ok(hC:Cok cx Gl):ala cx Gl cx277 277:=xs2_ok hC ent_277 fun a b v h=>by
 exact⟨(cvT_ok h (fun _=>(0,0))).2,fun E w hG=>CR.mono (sh_CutPrefix a b w) fun V w' hv=>⟨hv.1.trans (cvT_ok h E).1.symm,hv.2⟩⟩
theorem cx_x:Xok cx Gl:=by
 intro k f h;have h:cxX k=some f:=h;unfold cxX at h;rw [abu]at h;split at h
 ·rw [abu]at h;split at h
  ·rw [abu]at h;split at h
   ·rw [abu]at h;split at h
    ·rename_i hk;rw [aao]at hk;have hk:k=30:=hk;subst hk;cases h
     exact cx30_ok cx_ok
    ·cases h
   ·rw [abu]at h;split at h
    ·rw [abu]at h;split at h
     ·rename_i hk;rw [aao]at hk;have hk:k=48:=hk;subst hk;cases h
      exact cx48_ok cx_ok
     ·cases h
    ·rw [abu]at h;split at h
     ·rename_i hk;rw [aao]at hk;have hk:k=56:=hk;subst hk;cases h
      exact cx56_ok cx_ok
     ·cases h
  ·rw [abu]at h;split at h
   ·rw [abu]at h;split at h
    ·rw [abu]at h;split at h
     ·rename_i hk;rw [aao]at hk;have hk:k=70:=hk;subst hk;cases h
      exact cx70_ok cx_ok
     ·cases h
    ·rw [abu]at h;split at h
     ·rename_i hk;rw [aao]at hk;have hk:k=72:=hk;subst hk;cases h
      exact cx72_ok cx_ok
     ·cases h
   ·rw [abu]at h;split at h
    ·rw [abu]at h;split at h
     ·rename_i hk;rw [aao]at hk;have hk:k=109:=hk;subst hk;cases h
      exact cx109_ok cx_ok
     ·cases h
    ·rw [abu]at h;split at h
     ·rename_i hk;rw [aao]at hk;have hk:k=117:=hk;subst hk;cases h
      exact cx117_ok cx_ok
     ·cases h
 ·rw [abu]at h;split at h
  ·rw [abu]at h;split at h
   ·rw [abu]at h;split at h
    ·rw [abu]at h;split at h
     ·rename_i hk;rw [aao]at hk;have hk:k=142:=hk;subst hk;cases h
      exact cx142_ok cx_ok
     ·cases h
    ·rw [abu]at h;split at h
     ·rename_i hk;rw [aao]at hk;have hk:k=164:=hk;subst hk;cases h
      exact cx164_ok cx_ok
     ·cases h
   ·rw [abu]at h;split at h
    ·rw [abu]at h;split at h
     ·rename_i hk;rw [aao]at hk;have hk:k=182:=hk;subst hk;cases h
      exact cx182_ok cx_ok
     ·cases h
    ·rw [abu]at h;split at h
     ·rename_i hk;rw [aao]at hk;have hk:k=183:=hk;subst hk;cases h
      exact cx183_ok cx_ok
     ·cases h
  ·rw [abu]at h;split at h
   ·rw [abu]at h;split at h
    ·rw [abu]at h;split at h
     ·rename_i hk;rw [aao]at hk;have hk:k=185:=hk;subst hk;cases h
      exact cx185_ok cx_ok
     ·cases h
    ·rw [abu]at h;split at h
     ·rename_i hk;rw [aao]at hk;have hk:k=234:=hk;subst hk;cases h
      exact cx234_ok cx_ok
     ·cases h
   ·rw [abu]at h;split at h
    ·rw [abu]at h;split at h
     ·rename_i hk;rw [aao]at hk;have hk:k=263:=hk;subst hk;cases h
      exact cx263_ok cx_ok
     ·cases h
    ·rw [abu]at h;split at h
     ·rename_i hk;rw [aao]at hk;have hk:k=277:=hk;subst hk;cases h
      exact cx277_ok cx_ok
     ·cases h
theorem cxx:Cok cx Gl/\Xok cx Gl:=⟨cx_ok,cx_x⟩
theorem closedM{C:Cx}(hC:Cok C Gl/\Xok C Gl)(hP:C.P=Tryz.prog){n k:Nat}(h:isT ((lev C n).call k [] H0)=true){w:World}(hG:Gl w):Go.Wk.Enters Tryz.prog k/\CR Tryz.prog k [] w fun V w'=>V=.bool true/\Hp w [] [] w':=
 let ⟨H',h⟩:=isT_ok h
 hP▸run_says hC.1 hC.2 h rfl rfl hG (fun _=>(0,0))
theorem closed{n k:Nat}(h:isT ((lev cx n).call k [] H0)=true){w:World}(hG:Gl w):Go.Wk.Enters Tryz.prog k/\CR Tryz.prog k [] w fun V w'=>V=.bool true/\Hp w [] [] w':=
 let ⟨H',h⟩:=isT_ok h
 run_says cx_ok cx_x h rfl rfl hG (fun _=>(0,0))
end Go.Proofs
set_option maxRecDepth 100000
set_option maxHeartbeats 0
namespace Go.Proofs
open Go.Ce
def q0_0:List SV×SV:=([.c (.s 12 31398775957419736383438939474)],.t [.c (.s 12 31398775957419736383438939474),.c (.i .u8 0)])
theorem r0_0:aur cx 60 94 q0_0=true:=by kernel_rfl
def q0_1:List SV×SV:=([.c (.s 3 6383958)],.t [.c (.s 3 6383958),.c (.i .u8 0)])
theorem r0_1:aur cx 60 94 q0_1=true:=by kernel_rfl
def q0_2:List SV×SV:=([.c (.s 4 1836020294)],.t [.c (.s 4 1836020294),.c (.i .u8 0)])
theorem r0_2:aur cx 60 94 q0_2=true:=by kernel_rfl
def q0_3:List SV×SV:=([.c (.s 2 28500)],.t [.c (.s 2 28500),.c (.i .u8 0)])
theorem r0_3:aur cx 60 94 q0_3=true:=by kernel_rfl
def q0_4:List SV×SV:=([.c (.s 7 19220757857722691)],.t [.c (.s 7 19220757857722691),.c (.i .u8 0)])
theorem r0_4:aur cx 60 94 q0_4=true:=by kernel_rfl
def q0_5:List SV×SV:=([.c (.s 4 1902465859)],.t [.c (.s 4 1902465859),.c (.i .u8 0)])
theorem r0_5:aur cx 60 94 q0_5=true:=by kernel_rfl
def q0_6:List SV×SV:=([.c (.s 12 35712208859136432295261004109)],.t [.c (.s 12 35712208859136432295261004109),.c (.i .u8 0)])
theorem r0_6:aur cx 60 94 q0_6=true:=by kernel_rfl
noncomputable def cy0:Cx:=cx.memo 94 [q0_0,q0_1,q0_2,q0_3,q0_4,q0_5,q0_6]
theorem cy0_ok:Cok cy0 Gl/\Xok cy0 Gl:=aum cxx ⟨⟨60,r0_0⟩,⟨⟨60,r0_1⟩,⟨⟨60,r0_2⟩,⟨⟨60,r0_3⟩,⟨⟨60,r0_4⟩,⟨⟨60,r0_5⟩,⟨⟨60,r0_6⟩,trivial⟩⟩⟩⟩⟩⟩⟩
def q1_0:List SV×SV:=([.c (.s 12 35712208859136432295261004109)],.t [.c (.s 12 35712208859136432295261004109),.c (.i .u8 0)])
theorem r1_0:aur cy0 60 105 q1_0=true:=by kernel_rfl
def q1_1:List SV×SV:=([.c (.s 3 6383958)],.t [.c (.s 3 6383958),.c (.i .u8 0)])
theorem r1_1:aur cy0 60 105 q1_1=true:=by kernel_rfl
def q1_2:List SV×SV:=([.c (.s 4 1836020294)],.t [.c (.s 4 1836020294),.c (.i .u8 0)])
theorem r1_2:aur cy0 60 105 q1_2=true:=by kernel_rfl
def q1_3:List SV×SV:=([.c (.s 2 28500)],.t [.c (.s 2 28500),.c (.i .u8 0)])
theorem r1_3:aur cy0 60 105 q1_3=true:=by kernel_rfl
def q1_4:List SV×SV:=([.c (.s 7 19220757857722691)],.t [.c (.s 7 19220757857722691),.c (.i .u8 0)])
theorem r1_4:aur cy0 60 105 q1_4=true:=by kernel_rfl
def q1_5:List SV×SV:=([.c (.s 4 1902465859)],.t [.c (.s 4 1902465859),.c (.i .u8 0)])
theorem r1_5:aur cy0 60 105 q1_5=true:=by kernel_rfl
def q1_6:List SV×SV:=([.c (.s 5 435745550162)],.t [.c (.s 5 435745550162),.c (.i .u8 0)])
theorem r1_6:aur cy0 60 105 q1_6=true:=by kernel_rfl
def q1_7:List SV×SV:=([.c (.s 12 31398775957419736383438939474)],.t [.c (.s 12 31398775957419736383438939474),.c (.i .u8 0)])
theorem r1_7:aur cy0 60 105 q1_7=true:=by kernel_rfl
noncomputable def cy1:Cx:=cy0.memo 105 [q1_0,q1_1,q1_2,q1_3,q1_4,q1_5,q1_6,q1_7]
theorem cy1_ok:Cok cy1 Gl/\Xok cy1 Gl:=aum cy0_ok ⟨⟨60,r1_0⟩,⟨⟨60,r1_1⟩,⟨⟨60,r1_2⟩,⟨⟨60,r1_3⟩,⟨⟨60,r1_4⟩,⟨⟨60,r1_5⟩,⟨⟨60,r1_6⟩,⟨⟨60,r1_7⟩,trivial⟩⟩⟩⟩⟩⟩⟩⟩
def q2_0:List SV×SV:=([.c (.s 5 435745550162)],.c (.b true))
theorem r2_0:aur cy1 60 41 q2_0=true:=by kernel_rfl
def q2_1:List SV×SV:=([.c (.s 3 6383958)],.c (.b true))
theorem r2_1:aur cy1 60 41 q2_1=true:=by kernel_rfl
noncomputable def cy2:Cx:=cy1.memo 41 [q2_0,q2_1]
theorem cy2_ok:Cok cy2 Gl/\Xok cy2 Gl:=aum cy1_ok ⟨⟨60,r2_0⟩,⟨⟨60,r2_1⟩,trivial⟩⟩
def q3_0:List SV×SV:=([.c (.s 3 6383958)],.c (.b true))
theorem r3_0:aur cy2 60 95 q3_0=true:=by kernel_rfl
noncomputable def cy3:Cx:=cy2.memo 95 [q3_0]
theorem cy3_ok:Cok cy3 Gl/\Xok cy3 Gl:=aum cy2_ok ⟨⟨60,r3_0⟩,trivial⟩
def q4_0:List SV×SV:=([.c (.s 15 255667963715329393499128849192547132)],.c (.s 1 49))
theorem r4_0:aur cy3 60 102 q4_0=true:=by kernel_rfl
def q4_1:List SV×SV:=([.c (.s 9 1151210244751579771708)],.c (.s 0 0))
theorem r4_1:aur cy3 60 102 q4_1=true:=by kernel_rfl
noncomputable def cy4:Cx:=cy3.memo 102 [q4_0,q4_1]
theorem cy4_ok:Cok cy4 Gl/\Xok cy4 Gl:=aum cy3_ok ⟨⟨60,r4_0⟩,⟨⟨60,r4_1⟩,trivial⟩⟩
noncomputable def cy5:Cx:=cy4.memo 93 []
theorem cy5_ok:Cok cy5 Gl/\Xok cy5 Gl:=aum cy4_ok trivial
def q6_0:List SV×SV:=([.c (.s 1 112)],.t [.c (.s 1 112),.c (.b true)])
theorem r6_0:aur cy5 60 50 q6_0=true:=by kernel_rfl
def q6_1:List SV×SV:=([.c (.s 1 99)],.t [.c (.s 1 99),.c (.b true)])
theorem r6_1:aur cy5 60 50 q6_1=true:=by kernel_rfl
def q6_2:List SV×SV:=([.c (.s 1 104)],.t [.c (.s 1 104),.c (.b true)])
theorem r6_2:aur cy5 60 50 q6_2=true:=by kernel_rfl
def q6_3:List SV×SV:=([.c (.s 1 97)],.t [.c (.s 1 97),.c (.b true)])
theorem r6_3:aur cy5 60 50 q6_3=true:=by kernel_rfl
def q6_4:List SV×SV:=([.c (.s 25 321535321445542904767091490043379571396591648253923006364026)],.t [.c (.s 25 321535321445542904767091490043379571396591657261122797975930),.c (.b true)])
theorem r6_4:aur cy5 60 50 q6_4=true:=by kernel_rfl
noncomputable def cy6:Cx:=cy5.memo 50 [q6_0,q6_1,q6_2,q6_3,q6_4]
theorem cy6_ok:Cok cy6 Gl/\Xok cy6 Gl:=aum cy5_ok ⟨⟨60,r6_0⟩,⟨⟨60,r6_1⟩,⟨⟨60,r6_2⟩,⟨⟨60,r6_3⟩,⟨⟨60,r6_4⟩,trivial⟩⟩⟩⟩⟩
def q7_0:List SV×SV:=([.c (.s 12 35712208859136432295261004109)],.c (.b true))
theorem r7_0:aur cy6 60 84 q7_0=true:=by kernel_rfl
def q7_1:List SV×SV:=([.c (.s 3 6383958)],.c (.b true))
theorem r7_1:aur cy6 60 84 q7_1=true:=by kernel_rfl
def q7_2:List SV×SV:=([.c (.s 4 1836020294)],.c (.b true))
theorem r7_2:aur cy6 60 84 q7_2=true:=by kernel_rfl
def q7_3:List SV×SV:=([.c (.s 2 28500)],.c (.b true))
theorem r7_3:aur cy6 60 84 q7_3=true:=by kernel_rfl
def q7_4:List SV×SV:=([.c (.s 7 19220757857722691)],.c (.b true))
theorem r7_4:aur cy6 60 84 q7_4=true:=by kernel_rfl
def q7_5:List SV×SV:=([.c (.s 4 1902465859)],.c (.b true))
theorem r7_5:aur cy6 60 84 q7_5=true:=by kernel_rfl
def q7_6:List SV×SV:=([.c (.s 6 76228309962313)],.c (.b true))
theorem r7_6:aur cy6 60 84 q7_6=true:=by kernel_rfl
def q7_7:List SV×SV:=([.c (.s 5 435745550162)],.c (.b true))
theorem r7_7:aur cy6 60 84 q7_7=true:=by kernel_rfl
def q7_8:List SV×SV:=([.c (.s 3 5260373)],.c (.b true))
theorem r7_8:aur cy6 60 84 q7_8=true:=by kernel_rfl
def q7_9:List SV×SV:=([.c (.s 6 114776262931042)],.c (.b true))
theorem r7_9:aur cy6 60 84 q7_9=true:=by kernel_rfl
def q7_10:List SV×SV:=([.c (.s 25 321535321445542904767091490043379571396591648253923006364026)],.c (.b true))
theorem r7_10:aur cy6 60 84 q7_10=true:=by kernel_rfl
def q7_11:List SV×SV:=([.c (.s 12 31398775957419736383438939474)],.c (.b true))
theorem r7_11:aur cy6 60 84 q7_11=true:=by kernel_rfl
noncomputable def cy7:Cx:=cy6.memo 84 [q7_0,q7_1,q7_2,q7_3,q7_4,q7_5,q7_6,q7_7,q7_8,q7_9,q7_10,q7_11]
theorem cy7_ok:Cok cy7 Gl/\Xok cy7 Gl:=aum cy6_ok ⟨⟨60,r7_0⟩,⟨⟨60,r7_1⟩,⟨⟨60,r7_2⟩,⟨⟨60,r7_3⟩,⟨⟨60,r7_4⟩,⟨⟨60,r7_5⟩,⟨⟨60,r7_6⟩,⟨⟨60,r7_7⟩,⟨⟨60,r7_8⟩,⟨⟨60,r7_9⟩,⟨⟨60,r7_10⟩,⟨⟨60,r7_11⟩,trivial⟩⟩⟩⟩⟩⟩⟩⟩⟩⟩⟩⟩
def q8_0:List SV×SV:=([.c (.s 15 52917602091688864796433953139485043)],.c (.s 64 5352243160213610737889153729842453507821890504977222825814301598885140658624071741004708371036159343940525099157353825692069888390554141083229220466997090))
theorem r8_0:aur cy7 60 103 q8_0=true:=by kernel_rfl
noncomputable def cy8:Cx:=cy7.memo 103 [q8_0]
theorem cy8_ok:Cok cy8 Gl/\Xok cy8 Gl:=aum cy7_ok ⟨⟨60,r8_0⟩,trivial⟩
theorem law_runs:isT ((lev cy8 60).call 5 [] H0)=true:=by kernel_rfl
theorem law_says{w:World}(hG:Gl w):Go.Wk.Enters Tryz.prog 5/\Go.Wk.CR Tryz.prog 5 [] w fun V w'=>V=.bool true/\Go.Wk.Hp w [] [] w':=closedM cy8_ok rfl law_runs hG
open Go.Wk Go.Px Go.Ce
theorem sh_awake(w:World)(hG:Gl w):CR Tryz.prog 5 [] w fun v w'=>v=.bool true/\Hp w [] [] w':=(law_says hG).2
end Go.Proofs
set_option maxRecDepth 20000
set_option maxHeartbeats 1000000
namespace Go.Proofs
open Go.Wk Go.Px
open Go.Value renaming slice -> Vs, int -> Vi, bool -> Vb, pointer -> Vp
open Go.Value renaming agg -> zai, func -> zaW
open Int renaming toNat -> zaf
open List renaming flatMap -> zap, set -> zbd
open Nat renaming lt_succ_self -> zad
open Tryz
theorem ent46:Wk.Enters prog 46:=⟨f46,_,func46,rfl,krf⟩
theorem ent110:Wk.Enters prog 110:=⟨f110,_,func110,rfl,krf⟩
theorem ent111:Wk.Enters prog 111:=⟨f111,_,func111,rfl,krf⟩
theorem ent169:Wk.Enters prog 169:=⟨f169,_,func169,rfl,krf⟩
theorem K_L_law21_small {fu : Nat} {m_0 : (Str × Str × Int × Str × (List (Str × Str)) × (List UInt8))} (a0 : Option Addr) (b2 : Nat) (a1 : Nat) (a6 : Option Addr) (b3 : Nat) (a7 : Nat) {w : World} {r : Bool} (hr : ann fu m_0 = some r) (hG : Gl w) (b8 : b2 = m_0.2.2.2.2.1.length) (b0 : Rd w a0 (zap aad m_0.2.2.2.2.1)) (d5 : b2 <= a1) (b9 : b3 = m_0.2.2.2.2.2.length) (d6 : Rd w a6 (zap eB m_0.2.2.2.2.2)) (d7 : b3 <= a7) : CR prog 4 [(zai #[(str m_0.1), (str m_0.2.1), (Vi .i64 m_0.2.2.1), (str m_0.2.2.2.1), (Vs a0 b2 a1), (Vs a6 b3 a7)])] w fun v w' => v = (Vb r) /\ Hp w [] [] w' := by
 subst b8;subst b9;have hH := Hp.refl w;refine enter (k := 45) func4 rfl rfl nbe ?_;unfold ann at hr;refine sr (aco hH (Zz1 m_0.1 m_0.2.1 m_0.2.2.1 m_0.2.2.2.1 a0 m_0.2.2.2.2.1.length a1 a6 m_0.2.2.2.2.2.length a7) 25 (fun b => (Vp (some ⟨b, 0, none⟩))) rfl rfl krf fun b1 w2 a9 => wp 1 (nq (cs (bi hr fun v9 a8 hr => afp a9 [1, 2, 19] [(19, (Vb v9))] ?_ ?_))));refine cr (wp 1 (acw a9 0 b1 4 (Zz1 m_0.1 m_0.2.1 m_0.2.2.1 m_0.2.2.2.1 a0 m_0.2.2.2.2.1.length a1 a6 m_0.2.2.2.2.2.length a7) 25 (Vs a0 m_0.2.2.2.2.1.length a1) rfl rfl krf krf (wp 2 (wd a8 (fun c0 a8 => ?_) (fun c0 a8 => ?_)))));refine wp 11 (wl (ql ?_));obtain rfl := oi a8;exact je a9.kp
 refine wp 1 (gy 8 (acw a9 0 b1 1 (Zz1 m_0.1 m_0.2.1 m_0.2.2.1 m_0.2.2.2.1 a0 m_0.2.2.2.2.1.length a1 a6 m_0.2.2.2.2.2.length a7) 25 (str m_0.2.1) rfl rfl krf krf (wp 3 (wd a8 (fun c1 a8 => ?_) (fun c1 a8 => ?_)))));refine wp 5 (wl (ql ?_));obtain rfl := oi a8;exact je a9.kp
 refine wp 1 (gy 14 (acw a9 0 b1 5 (Zz1 m_0.1 m_0.2.1 m_0.2.2.1 m_0.2.2.2.1 a0 m_0.2.2.2.2.1.length a1 a6 m_0.2.2.2.2.2.length a7) 25 (Vs a6 m_0.2.2.2.2.2.length a7) rfl rfl krf krf (wp 3 (wl (ql ?_)))));obtain rfl := oi a8;exact je a9.kp
 intro d8 G b5;refine cb hr (fun c2 hr => ?_) (fun c2 hr => ?_);refine sr (wp 1 (nq (ct (st ?_))));obtain rfl := oi hr;exact rv b5.kp
 refine ck (qn (bi hr fun c3 c4 hr => cut (σ := Unit) [2] (fun b4 => []) (fun b4 w' => Hp w [] [] w' /\ .inl b4 = c3) ?_ ?_));refine sr (wp 1 (nq (ce (lpS (fun b6 a2 => aeb fu m_0 b6 a2) (0 : Int) b5 c4 [1, 2, 3] (fun a2 => [(3, (Vi .i64 a2))]) (fun _ => rfl) ?_))));rintro b6 a2 d9 G a5 a3
 rw [aos, aja] at a3;refine cs (sr (wp 2 (acw a5 0 b1 4 (Zz1 m_0.1 m_0.2.1 m_0.2.2.1 m_0.2.2.2.1 a0 m_0.2.2.2.2.1.length a1 a6 m_0.2.2.2.2.2.length a7) 25 (Vs a0 m_0.2.2.2.2.1.length a1) rfl rfl krf krf (wp 2 (nq (cd a3 (fun c5 a3 => ?_) (fun c5 a3 => ?_)))))));refine ck (qn (cs (ce (bi a3 fun c6 a4 a3 => afp a5 [1, 2, 3, 44] [(44, (Vb c6))] ?_ ?_))));refine cr (wp 1 (acw a5 0 b1 4 (Zz1 m_0.1 m_0.2.1 m_0.2.2.1 m_0.2.2.2.1 a0 m_0.2.2.2.2.1.length a1 a6 m_0.2.2.2.2.2.length a7) 25 (Vs a0 m_0.2.2.2.2.1.length a1) rfl rfl krf krf (wp 1 (gi a4 fun c7 a4 => aey a0 m_0.2.2.2.2.1.length a1 34 2 .i64 a2 underlying22 krf krf krf m_0.2.2.2.2.1 rfl c7 (b0.hp a5) aai (by decide) (w_fldE a0 ((a2).toNat * 2) 0 krf krf (gi a4 fun c8 a4 => w_ldF a0 aad m_0.2.2.2.2.1 2 a2 0 aai (b0.hp a5) (str ((el m_0.2.2.2.2.1 a2).1)) c8 (by decide) krf krf krf (wp 2 (wd a4 (fun c9 a4 => ?_) (fun c9 a4 => ?_)))))))));refine wp 9 (wl (ql ?_));obtain rfl := oi a4;exact je a5.kp
 refine wp 1 (gy 35 (acw a5 0 b1 4 (Zz1 m_0.1 m_0.2.1 m_0.2.2.1 m_0.2.2.2.1 a0 m_0.2.2.2.2.1.length a1 a6 m_0.2.2.2.2.2.length a7) 25 (Vs a0 m_0.2.2.2.2.1.length a1) rfl rfl krf krf (wp 1 (gy 35 (gi a4 fun d0 a4 => aey a0 m_0.2.2.2.2.1.length a1 34 2 .i64 a2 underlying22 krf krf krf m_0.2.2.2.2.1 rfl d0 (b0.hp a5) aai (by decide) (gy 35 (w_fldE a0 ((a2).toNat * 2) 1 krf krf (gy 35 ?_))))))));refine gi a4 fun d1 a4 => w_ldF a0 aad m_0.2.2.2.2.1 2 a2 1 aai (b0.hp a5) (str ((el m_0.2.2.2.2.1 a2).2)) d1 (by decide) krf krf krf (wp 3 (wl (ql ?_)))
 obtain rfl := oi a4;exact je a5.kp
 intro e0 G b7;refine cb a3 (fun d2 a3 => ?_) (fun d2 a3 => ?_);refine sr (wp 1 (nq (ct (bt_ (st (aau (bt_ ?_)))))));refine aau ?_;obtain rfl := oi a3;obtain rfl := oi hr;exact rv b7.kp
 exact ck (bn (qn (cr (wp 1 (gi a3 fun d3 a3 => aah a2 (1 : Int) krf krf d3 (wp 1 (wl (ql (le' (a2 + (1 : Int)) b7.kp a3)))))))))
 refine abp (abo (abv (abr (ql ?_))));obtain rfl := oi a3;exact ⟨(), _, rfl, by kernel_rfl, a5.kp, rfl⟩
 rintro b4 e1 G ⟨d4, rfl⟩
 refine sr (wp 1 (nq (ct ?_)));obtain rfl := oi hr;exact rv d4.kp
theorem K_L_lexis_char_token {fu : Nat} {a2 : UInt8} {w : World} {r : Bool} (hr : aiy fu a2 = some r) (hG : Gl w) : CR prog 111 [(bt a2)] w fun v w' => v = (Vb r) /\ Hp w [] [] w' := by
 have hH := Hp.refl w;refine enter (k := 34) func111 rfl rfl nbe ?_;unfold aiy at hr;refine sr (wp 1 (nq (bi hr fun a7 a0 hr => cut1 hH a7 [0, 2] (fun a8 => []) ?_ ?_)));refine ce (cs (bi a0 fun a9 a3 a0 => afp hH [0, 2, 3] [(3, (Vb a9))] ?_ ?_));refine cr (wp 1 (aig a2 (97 : UInt8) krf krf (wd a3 (fun b0 a3 => ?_) (fun b0 a3 => ?_))));refine wp 1 (gy 6 (aif a2 (122 : UInt8) krf krf (wp 2 (wl (ql ?_)))));obtain rfl := oi a3;exact je hH.kp
 refine wp 4 (wl (ql ?_));obtain rfl := oi a3;exact je hH.kp
 intro d8 G a4;refine cb a0 (fun b1 a0 => ?_) (fun b1 a0 => ?_);refine ck (qn (cb a0 (fun b2 a0 => ?_) (fun b2 a0 => ?_)));refine sr (wp 1 (nq (ct (bt_ (aau ?_)))));obtain rfl := oi a0;obtain rfl := oi hr;exact rv a4.kp
 refine ck (bn (ql ?_));obtain rfl := oi a0;exact je1 rfl a4.kp
 refine bi a0 fun b3 a5 a0 => afp a4 [0, 2, 3] [(3, (Vb b3))] ?_ ?_
 refine cr (wp 1 (aig a2 (65 : UInt8) krf krf (wd a5 (fun b4 a5 => ?_) (fun b4 a5 => ?_))));refine wp 1 (gy 12 (aif a2 (90 : UInt8) krf krf (wp 2 (wl (ql ?_)))));obtain rfl := oi a5;exact je a4.kp
 refine wp 4 (wl (ql ?_));obtain rfl := oi a5;exact je a4.kp
 intro d9 G a6;refine cb a0 (fun b5 a0 => ?_) (fun b5 a0 => ?_);refine ck (qn (cb a0 (fun b6 a0 => ?_) (fun b6 a0 => ?_)));refine sr (wp 1 (nq (ct (bt_ (aau ?_)))));obtain rfl := oi a0;obtain rfl := oi hr;exact rv a6.kp
 refine ck (bn (ql ?_));obtain rfl := oi a0;exact je1 rfl a6.kp
 refine cr (wp 1 (aig a2 (48 : UInt8) krf krf (wd a0 (fun b7 a0 => ?_) (fun b7 a0 => ?_))));refine wp 1 (gy 18 (aif a2 (57 : UInt8) krf krf (wp 2 (nq (cd a0 (fun b8 a0 => ?_) (fun b8 a0 => ?_))))));refine sr (wp 1 (nq (ct (bt_ (aau ?_)))));obtain rfl := oi a0;obtain rfl := oi hr;exact rv a6.kp
 refine ck (bn (ql ?_));obtain rfl := oi a0;exact je1 rfl a6.kp
 refine wp 4 (nq (c_false krf (ck (bn (ql ?_)))));obtain rfl := oi a0;exact je1 rfl a6.kp
 rintro a8 e0 G a1 rfl
 refine cs (sr (wp 1 (nq (ce (cs (sr ?_))))));refine aar a2 (45 : UInt8) krf krf (wp 1 (nq (cd hr (fun b9 hr => ?_) (fun b9 hr => ?_))));refine ck (qn (cd hr (fun c0 hr => ?_) (fun c0 hr => ?_)));refine sr (wp 1 (nq (ct (bt_ (st ?_)))));obtain rfl := oi hr;exact rv a1.kp
 refine ck (bn (qn (sr (wp 1 (nq (ct ?_))))));obtain rfl := oi hr;exact rv a1.kp
 refine sr (aar a2 (46 : UInt8) krf krf (wp 1 (nq (cd hr (fun c1 hr => ?_) (fun c1 hr => ?_)))));refine ck (qn (cd hr (fun c2 hr => ?_) (fun c2 hr => ?_)));refine sr (wp 1 (nq (ct (bt_ (st ?_)))));obtain rfl := oi hr;exact rv a1.kp
 refine ck (bn (qn (sr (wp 1 (nq (ct ?_))))));obtain rfl := oi hr;exact rv a1.kp
 refine sr (aar a2 (33 : UInt8) krf krf (wp 1 (nq (cd hr (fun c3 hr => ?_) (fun c3 hr => ?_)))));refine ck (qn (cd hr (fun c4 hr => ?_) (fun c4 hr => ?_)));refine sr (wp 1 (nq (ct (bt_ (st ?_)))));obtain rfl := oi hr;exact rv a1.kp
 refine ck (bn (qn (sr (wp 1 (nq (ct ?_))))));obtain rfl := oi hr;exact rv a1.kp
 refine sr (aar a2 (37 : UInt8) krf krf (wp 1 (nq (cd hr (fun c5 hr => ?_) (fun c5 hr => ?_)))));refine ck (qn (cd hr (fun c6 hr => ?_) (fun c6 hr => ?_)));refine sr (wp 1 (nq (ct (bt_ (st ?_)))));obtain rfl := oi hr;exact rv a1.kp
 refine ck (bn (qn (sr (wp 1 (nq (ct ?_))))));obtain rfl := oi hr;exact rv a1.kp
 refine sr (aar a2 (42 : UInt8) krf krf (wp 1 (nq (cd hr (fun c7 hr => ?_) (fun c7 hr => ?_)))));refine ck (qn (cd hr (fun c8 hr => ?_) (fun c8 hr => ?_)));refine sr (wp 1 (nq (ct (bt_ (st ?_)))));obtain rfl := oi hr;exact rv a1.kp
 refine ck (bn (qn (sr (wp 1 (nq (ct ?_))))));obtain rfl := oi hr;exact rv a1.kp
 refine sr (aar a2 (95 : UInt8) krf krf (wp 1 (nq (cd hr (fun c9 hr => ?_) (fun c9 hr => ?_)))));refine ck (qn (cd hr (fun d0 hr => ?_) (fun d0 hr => ?_)));refine sr (wp 1 (nq (ct (bt_ (st ?_)))));obtain rfl := oi hr;exact rv a1.kp
 refine ck (bn (qn (sr (wp 1 (nq (ct ?_))))));obtain rfl := oi hr;exact rv a1.kp
 refine sr (aar a2 (43 : UInt8) krf krf (wp 1 (nq (cd hr (fun d1 hr => ?_) (fun d1 hr => ?_)))));refine ck (qn (cd hr (fun d2 hr => ?_) (fun d2 hr => ?_)));refine sr (wp 1 (nq (ct (bt_ (st ?_)))));obtain rfl := oi hr;exact rv a1.kp
 refine ck (bn (qn (sr (wp 1 (nq (ct ?_))))));obtain rfl := oi hr;exact rv a1.kp
 refine sr (aar a2 (39 : UInt8) krf krf (wp 1 (nq (cd hr (fun d3 hr => ?_) (fun d3 hr => ?_)))));refine ck (qn (cd hr (fun d4 hr => ?_) (fun d4 hr => ?_)));refine sr (wp 1 (nq (ct (bt_ (st ?_)))));obtain rfl := oi hr;exact rv a1.kp
 refine ck (bn (qn (sr (wp 1 (nq (ct ?_))))));obtain rfl := oi hr;exact rv a1.kp
 refine sr (aar a2 (126 : UInt8) krf krf (wp 1 (nq (cd hr (fun d5 hr => ?_) (fun d5 hr => ?_)))));refine ck (qn (cd hr (fun d6 hr => ?_) (fun d6 hr => ?_)));refine sr (wp 1 (nq (ct (bt_ (st ?_)))));obtain rfl := oi hr;exact rv a1.kp
 refine ck (bn (qn (sr (wp 1 (nq (ct ?_))))));obtain rfl := oi hr;exact rv a1.kp
 refine cr (aar a2 (96 : UInt8) krf krf (wp 1 (nq (cd hr (fun d7 hr => ?_) (fun d7 hr => ?_)))));refine sr (wp 1 (nq (ct (bt_ (st ?_)))));obtain rfl := oi hr;exact rv a1.kp
 refine ck (bn (qn (sr (wp 1 (nq (ct ?_))))));obtain rfl := oi hr;exact rv a1.kp
theorem aqw {fu : Nat} {a3 : Str} {a4 : Int} {w : World} {r : Int} (hr : acx fu a3 a4 = some r) (hG : Gl w) : CR prog 110 [(str a3), (Vi .i64 a4), (zaW (.func 111) #[] #[])] w fun v w' => v = (Vi .i64 r) /\ Hp w [] [] w' := by
 have hH := Hp.refl w;refine enter (k := 26) func110 rfl rfl nbe ?_;unfold acx at hr;refine sr (wp 1 (nq (sr (wp 1 (w_max .i64 a4 (0 : Int) krf krf (wp 2 ?_))))));refine w_min .i64 (max a4 (0 : Int)) (a3.length : Int) krf krf (wp 1 (nq (bi hr fun a8 a9 hr => afp hH [1, 6] [(1, (Vi .i64 a8))] ?_ ?_)));refine ce (lpS (fun a6 a2 => abz fu a3 a6 a2) (min (max a4 (0 : Int)) (a3.length : Int)) hH a9 [0, 1, 2, 6] (fun a2 => [(1, (Vi .i64 a2))]) (fun _ => rfl) ?_);rintro a6 a2 b8 G a5 a0
 rw [adw, abw] at a0;refine cs (bi a0 fun b0 a1 a0 => afp a5 [0, 1, 2, 6, 22] [(22, (Vb b0))] ?_ ?_);refine cr (wp 4 (wd a1 (fun b1 a1 => ?_) (fun b1 a1 => ?_)));refine wp 3 (gy 16 (gi a1 fun b2 a1 => aaq a3 .i64 a2 underlying9 krf krf b2 (gy 16 (bi a1 fun b9 b3 a1 => wc ent111 a5 (K_L_lexis_char_token b3 (hG.hp0 a5)) fun c0 b4 => wp 1 (wl (ql ?_))))));obtain rfl := oi a1;exact je b4.kp
 refine wp 6 (wl (ql ?_));obtain rfl := oi a1;exact je a5.kp
 intro c1 G a7;refine cb a0 (fun b5 a0 => ?_) (fun b5 a0 => ?_);refine ck (qn (ce (cr (wp 1 (gi a0 fun b6 a0 => aah a2 (1 : Int) krf krf b6 (wp 1 (wl (bn ?_))))))));exact ql (le' (a2 + (1 : Int)) a7.kp a0)
 refine abp (abo (abv (abr (ql ?_))));obtain rfl := oi a0;exact je a7.kp
 intro c2 G b7;refine sr (wp 2 (nq (ct ?_)));obtain rfl := oi hr;exact rv b7.kp
theorem aqh {fu : Nat} {a0 : Str} {a1 : Int} {w : World} {r : Int} (hr : aew fu a0 a1 = some r) (hG : Gl w) : CR prog 46 [(str a0), (Vi .i64 a1)] w fun v w' => v = (Vi .i64 r) /\ Hp w [] [] w' := by
 have hH := Hp.refl w;refine enter (k := 8) func46 rfl rfl nbe ?_;unfold aew at hr;refine sr (wp 1 (nq (sr (wp 2 (bi hr fun y1 a2 hr => wc ent110 hH (aqw a2 (hG.hp0 hH)) fun w3 a3 => ?_)))));refine wp 1 (nq (ct ?_));obtain rfl := oi hr;exact rv a3.kp
theorem K_L_lexis_Token {fu : Nat} {a1 : Str} {w : World} {r : Bool} (hr : aqb fu a1 = some r) (hG : Gl w) : CR prog 84 [(str a1)] w fun v w' => v = (Vb r) /\ Hp w [] [] w' := by
 have hH := Hp.refl w;refine enter (k := 12) func84 rfl rfl nbe ?_;unfold aqb at hr;refine sr (wp 1 (nq (bi hr fun a2 a0 hr => afp hH [2] [(2, (Vb a2))] ?_ ?_)));refine cr (wp 2 (wn a0 (fun a3 a0 => ?_) (fun a3 a0 => ?_)));refine wp 1 (gy 5 (bi a0 fun a7 a4 a0 => wc ent46 hH (aqh a4 (hG.hp0 hH)) fun a8 a5 => wp 5 (wl (ql ?_))));obtain rfl := oi a0;exact je a5.kp
 refine wp 7 (wl (ql ?_));obtain rfl := oi a0;exact je hH.kp
 intro a9 G a6;refine ct ?_;obtain rfl := oi hr;exact rv a6.kp
theorem anz {fu : Nat} {a0 : UInt8} {w : World} {r : UInt8} (hr : aep fu a0 = some r) (hG : Gl w) : CR prog 169 [(bt a0)] w fun v w' => v = (bt r) /\ Hp w [] [] w' := by
 have hH := Hp.refl w;refine enter (k := 12) func169 rfl rfl nbe ?_;unfold aep at hr;refine sr (wp 1 (nq (cs (bi hr fun v5 a1 hr => afp hH [0, 2, 8] [(8, (Vb v5))] ?_ ?_))));refine cr (wp 1 (aig a0 (65 : UInt8) krf krf (wd a1 (fun h6 a1 => ?_) (fun h6 a1 => ?_))));refine wp 1 (gy 5 (aif a0 (90 : UInt8) krf krf (wp 1 (wl (ql ?_)))));obtain rfl := oi a1;exact je hH.kp
 refine wp 3 (wl (ql ?_));obtain rfl := oi a1;exact je hH.kp
 intro w7 G a2;refine cb hr (fun h9 hr => ?_) (fun h9 hr => ?_);refine cr (wp 1 (w8_add a0 (32 : UInt8) krf krf (wp 1 (nq (sr (wp 2 (wl ?_)))))));refine qn (ct ?_);obtain rfl := oi hr;exact rv a2.kp
 refine ck (qn (sr (wp 2 (nq (ct ?_)))));obtain rfl := oi hr;exact rv a2.kp
theorem K_L_header_longName {fu : Nat} {a0 : UInt8} {w : World} {r : Str} (hr : akr fu a0 = some r) (hG : Gl w) : CR prog 168 [(bt a0)] w fun v w' => v = (str r) /\ Hp w [] [] w' := by
 have hH := Hp.refl w;refine enter (k := 34) func168 rfl rfl nbe ?_;unfold akr at hr;refine sr (wp 1 (nq (cs (sr (wp 1 (wl ?_))))));refine qn (ce (sr (aar a0 (98 : UInt8) krf krf (wp 1 (nq (cd hr (fun h1 hr => ?_) (fun h1 hr => ?_)))))));refine sr (wp 1 (nq (ct (bt_ (st ?_)))));obtain rfl := oi hr;exact rv hH.kp
 refine sr (aar a0 (99 : UInt8) krf krf (wp 1 (nq (cd hr (fun h2 hr => ?_) (fun h2 hr => ?_)))));refine sr (wp 1 (nq (ct (bt_ (st ?_)))));obtain rfl := oi hr;exact rv hH.kp
 refine sr (aar a0 (101 : UInt8) krf krf (wp 1 (nq (cd hr (fun h3 hr => ?_) (fun h3 hr => ?_)))));refine sr (wp 1 (nq (ct (bt_ (st ?_)))));obtain rfl := oi hr;exact rv hH.kp
 refine sr (aar a0 (102 : UInt8) krf krf (wp 1 (nq (cd hr (fun h4 hr => ?_) (fun h4 hr => ?_)))));refine sr (wp 1 (nq (ct (bt_ (st ?_)))));obtain rfl := oi hr;exact rv hH.kp
 refine sr (aar a0 (105 : UInt8) krf krf (wp 1 (nq (cd hr (fun h5 hr => ?_) (fun h5 hr => ?_)))));refine sr (wp 1 (nq (ct (bt_ (st ?_)))));obtain rfl := oi hr;exact rv hH.kp
 refine sr (aar a0 (107 : UInt8) krf krf (wp 1 (nq (cd hr (fun h6 hr => ?_) (fun h6 hr => ?_)))));refine sr (wp 1 (nq (ct (bt_ (st ?_)))));obtain rfl := oi hr;exact rv hH.kp
 refine sr (aar a0 (108 : UInt8) krf krf (wp 1 (nq (cd hr (fun h7 hr => ?_) (fun h7 hr => ?_)))));refine sr (wp 1 (nq (ct (bt_ (st ?_)))));obtain rfl := oi hr;exact rv hH.kp
 refine sr (aar a0 (109 : UInt8) krf krf (wp 1 (nq (cd hr (fun h8 hr => ?_) (fun h8 hr => ?_)))));refine sr (wp 1 (nq (ct (bt_ (st ?_)))));obtain rfl := oi hr;exact rv hH.kp
 refine sr (aar a0 (111 : UInt8) krf krf (wp 1 (nq (cd hr (fun h9 hr => ?_) (fun h9 hr => ?_)))));refine sr (wp 1 (nq (ct (bt_ (st ?_)))));obtain rfl := oi hr;exact rv hH.kp
 refine sr (aar a0 (114 : UInt8) krf krf (wp 1 (nq (cd hr (fun a1 hr => ?_) (fun a1 hr => ?_)))));refine sr (wp 1 (nq (ct (bt_ (st ?_)))));obtain rfl := oi hr;exact rv hH.kp
 refine sr (aar a0 (115 : UInt8) krf krf (wp 1 (nq (cd hr (fun a2 hr => ?_) (fun a2 hr => ?_)))));refine sr (wp 1 (nq (ct (bt_ (st ?_)))));obtain rfl := oi hr;exact rv hH.kp
 refine sr (aar a0 (116 : UInt8) krf krf (wp 1 (nq (cd hr (fun a3 hr => ?_) (fun a3 hr => ?_)))));refine sr (wp 1 (nq (ct (bt_ (st ?_)))));obtain rfl := oi hr;exact rv hH.kp
 refine sr (aar a0 (117 : UInt8) krf krf (wp 1 (nq (cd hr (fun a4 hr => ?_) (fun a4 hr => ?_)))));refine sr (wp 1 (nq (ct (bt_ (st ?_)))));obtain rfl := oi hr;exact rv hH.kp
 refine sr (aar a0 (118 : UInt8) krf krf (wp 1 (nq (cd hr (fun a5 hr => ?_) (fun a5 hr => ?_)))));refine sr (wp 1 (nq (ct (bt_ (st ?_)))));obtain rfl := oi hr;exact rv hH.kp
 refine sr (aar a0 (120 : UInt8) krf krf (wp 1 (nq (cd hr (fun a6 hr => ?_) (fun a6 hr => ?_)))));refine sr (wp 1 (nq (ct (bt_ (st ?_)))));obtain rfl := oi hr;exact rv hH.kp
 refine ck (bn (qn (sr (wp 1 (nq (ct ?_))))));obtain rfl := oi hr;exact rv hH.kp
theorem ahh {fu : Nat} {a2 : Str} {w : World} {r : Str} (hr : abc fu a2 = some r) (hG : Gl w) : CR prog 44 [(str a2), (zaW (.func 169) #[] #[])] w fun v w' => v = (str r) /\ Hp w [] [] w' := by
 have hH := Hp.refl w;refine enter (k := 26) func44 rfl rfl nbe ?_;unfold abc at hr;refine sr (wp 1 (nq (sr (wp 1 (asc hH a2 5 underlying9 underlying23 underlying5 krf fun a1 cap2 w3 b3 => wp 1 ?_)))));refine nq (bi hr fun b2 b4 hr => cut (σ := Str) [4, 5] (fun a5 => []) (fun a5 w' => Hp w [] [aua (Vs a1 a2.length cap2) a2.length a5] w' /\ a5 = b2) ?_ ?_);refine sr (wp 3 (nq (ce (lpG (σ := Nat × Str × Int) [1, 4, 5, 10, 11, 12] (fun ⟨a6, a4, a3⟩ => [(12, (Vi .i64 a3))]) (fun ⟨a6, a4, a3⟩ w' => Hp w [] [aua (Vs a1 a2.length cap2) a2.length a4] w' /\ abi fu a2 a6 a4 a3 = some b2) (fun ⟨a6, a4, a3⟩ => a6) (fu, a2, (0 : Int)) (by exact ⟨b3.kp, b4⟩) ?_))));rintro ⟨_ | a6, a4, a3⟩ c4 G ⟨a7, a0⟩
 · exact nzz a0
 rw [ade, abe] at a0;refine sr (wp 1 (nq (cs (cd a0 (fun b5 a0 => ?_) (fun b5 a0 => ?_)))));refine ck (qn (cs (ce (sr (wp 1 (gi a0 fun b6 a0 => aey a1 a2.length cap2 5 1 .i64 a3 underlying23 krf krf krf a4 (a7.browlen 0 rfl).symm b6 (Rd.ofbytes (a7.rdbrow 0 rfl)) aih (by decide) (gi a0 fun b7 a0 => ?_)))))));refine ahq a1 eB a4 1 a3 aih (Rd.ofbytes (a7.rdbrow 0 rfl)) (bt (at_ a4 a3)) b7 (by decide) krf krf krf (wp 2 (nq (cr (wp 4 (bi a0 fun a8 b8 a0 => wc ent169 a7 (anz b8 (hG.hp0 a7)) fun c5 a9 => gi a0 fun b9 a0 => aey a1 a2.length cap2 5 1 .i64 a3 underlying23 krf krf krf a4 (a9.browlen 0 rfl).symm b9 (Rd.ofbytes (a9.rdbrow 0 rfl)) aih (by decide) ?_)))));refine gi a0 fun c0 a0 => w_stB a9 0 a1 a2.length cap2 a3 a4 a8 rfl c0 krf krf krf fun c1 b0 => ?_
 replace b0 : Hp w [] [aua (Vs a1 a2.length cap2) a2.length (zbd a4 (zaf a3) a8)] c1 := b0;refine wl (bn (qn (cr (gi a0 fun c2 a0 => aah a3 (1 : Int) krf krf c2 (wp 1 (wl (ql ?_)))))));exact ⟨(a6, zbd a4 (zaf a3) a8, a3 + (1 : Int)), _, rfl, by kernel_rfl, ⟨b0.kp, a0⟩, zad _⟩
 refine abp (abo (abv (abr (ql ?_))));obtain rfl := oi a0;exact ⟨a4, _, rfl, by kernel_rfl, a7.kp, rfl⟩
 rintro a5 c3 G ⟨b1, rfl⟩
 refine sr (wp 1 (acn (v := (str a5)) (w' := c3) rfl rfl (aqn a5 a1 a2.length cap2 5 (Rd.bytes (Rd.ofbytes (b1.rdbrow 0 rfl))) (b1.browlen 0 rfl) underlying23 underlying9 underlying5 krf) (wp 1 (nq (ct ?_)))));obtain rfl := oi hr;exact rv b1.kp
open Go.Value renaming func -> zaW, tuple -> zal
open List renaming flatMap -> zap, length_take -> zab, set -> zbd
open Nat renaming lt_of_lt_of_le -> zaj, lt_succ_self -> zad
theorem ent44:Wk.Enters prog 44:=⟨f44,_,func44,rfl,krf⟩
theorem ent45:Wk.Enters prog 45:=⟨f45,_,func45,rfl,krf⟩
theorem ent84:Wk.Enters prog 84:=⟨f84,_,func84,rfl,krf⟩
theorem ent105:Wk.Enters prog 105:=⟨f105,_,func105,rfl,krf⟩
theorem ent107:Wk.Enters prog 107:=⟨f107,_,func107,rfl,krf⟩
theorem ent168:Wk.Enters prog 168:=⟨f168,_,func168,rfl,krf⟩
theorem ent170:Wk.Enters prog 170:=⟨f170,_,func170,rfl,krf⟩
theorem ent171:Wk.Enters prog 171:=⟨f171,_,func171,rfl,krf⟩
theorem arv {fu : Nat} {a0 : UInt8} {w : World} {r : UInt8} (hr : agn fu a0 = some r) (hG : Gl w) : CR prog 45 [(bt a0)] w fun v w' => v = (bt r) /\ Hp w [] [] w' := by
 have hH := Hp.refl w;refine enter (k := 12) func45 rfl rfl nbe ?_;unfold agn at hr;refine sr (wp 1 (nq (cs (bi hr fun v5 a1 hr => afp hH [0, 2, 8] [(8, (Vb v5))] ?_ ?_))));refine cr (wp 1 (aig a0 (97 : UInt8) krf krf (wd a1 (fun h6 a1 => ?_) (fun h6 a1 => ?_))));refine wp 1 (gy 5 (aif a0 (122 : UInt8) krf krf (wp 1 (wl (ql ?_)))));obtain rfl := oi a1;exact je hH.kp
 refine wp 3 (wl (ql ?_));obtain rfl := oi a1;exact je hH.kp
 intro w7 G a2;refine cb hr (fun h9 hr => ?_) (fun h9 hr => ?_);refine cr (wp 1 (atl a0 (32 : UInt8) krf krf (wp 1 (nq (sr (wp 2 (wl ?_)))))));refine qn (ct ?_);obtain rfl := oi hr;exact rv a2.kp
 refine ck (qn (sr (wp 2 (nq (ct ?_)))));obtain rfl := oi hr;exact rv a2.kp
theorem K_L_header_Canon_1 {fu : Nat} {a2 : UInt8} {a1 : Bool} (a0 : Nat) {w : World} {r : (UInt8 × Bool)} (hr : alz fu a2 a1 = some r) (hG : Gl w) (hM : Hp w (afe [blk a0 [(Vb a1)] 4]) [blk a0 [(Vb a1)] 4] w) (hS : ∀ b ∈ afe [blk a0 [(Vb a1)] 4], 12 <= b) : CR prog 170 [(bt a2), (Vp (some ⟨a0, 0, none⟩))] w fun v w' => v = (bt r.1) /\ Hp w (afe [blk a0 [(Vb a1)] 4]) [blk a0 [(Vb r.2)] 4] w' := by
 have hH : Hp w (afe [blk a0 [(Vb a1)] 4]) [blk a0 [(Vb a1)] 4] w := hM;refine enter (k := 12) func170 rfl rfl nbe ?_;unfold alz at hr;refine sr (wp 1 (nq (cs (sr (acw hH 0 a0 0 [(Vb a1)] 4 (Vb a1) rfl rfl krf krf (wl ?_))))));refine qn (cb hr (fun h1 hr => ?_) (fun h1 hr => ?_));refine cr (wp 1 (bi hr fun y2 a3 hr => wc ent45 hH (arv a3 (hG.hp hH hS)) fun w4 a4 => wp 1 (nq (sr (wp 1 ?_)))));refine aar y2 (45 : UInt8) krf krf (alq a4 0 a0 0 [(Vb a1)] 4 (Vb (decide (y2 = (45 : UInt8)))) [blk a0 [(Vb (decide (y2 = (45 : UInt8))))] 4] rfl (zaj (zad _) nbe) krf krf rfl krf rfl fun w7 a5 => nq (sr (wp 2 (nq (ct ?_)))));obtain rfl := oi hr;refine aqj (bt y2) rfl krf ?_;exact ⟨(by first | rfl | (simp; done) | (simp; omega) | exact aae (by rw [zab]; omega)), a5.kp⟩
 refine cr (wp 1 (bi hr fun y9 a6 hr => wc ent169 hH (anz a6 (hG.hp hH hS)) fun a9 a7 => wp 1 (nq (sr (wp 1 ?_)))));refine aar y9 (45 : UInt8) krf krf (alq a7 0 a0 0 [(Vb a1)] 4 (Vb (decide (y9 = (45 : UInt8)))) [blk a0 [(Vb (decide (y9 = (45 : UInt8))))] 4] rfl (zaj (zad _) nbe) krf krf rfl krf rfl fun b0 a8 => nq (sr (wp 2 (nq (ct ?_)))));obtain rfl := oi hr;refine aqj (bt y9) rfl krf ?_;exact ⟨(by first | rfl | (simp; done) | (simp; omega) | exact aae (by rw [zab]; omega)), a8.kp⟩
theorem apf {fu : Nat} {a0 : Str} {a6 : Bool} (a2 : Nat) {w : World} {r : (Str × Bool)} (hr : abl fu a0 a6 = some r) (hG : Gl w) (hM : Hp w (afe [blk a2 [(Vb a6)] 4]) [blk a2 [(Vb a6)] 4] w) (hS : ∀ b ∈ afe [blk a2 [(Vb a6)] 4], 12 <= b) : CR prog 44 [(str a0), (zaW (.func 170) #[] #[(Vp (some ⟨a2, 0, none⟩))])] w fun v w' => v = (str r.1) /\ Hp w (afe [blk a2 [(Vb a6)] 4]) [blk a2 [(Vb r.2)] 4] w' := by
 have hH : Hp w (afe [blk a2 [(Vb a6)] 4]) [blk a2 [(Vb a6)] 4] w := hM;refine enter (k := 26) func44 rfl rfl nbe ?_;unfold abl at hr;refine sr (wp 1 (nq (sr (wp 1 (asc hH a0 5 underlying9 underlying23 underlying5 krf fun a1 cap2 w3 b7 => wp 1 ?_)))));refine nq (bi hr fun b5 b8 hr => cut (σ := (Str × Bool)) [4, 5] (fun a7 => []) (fun a7 w' => Hp w (afe [blk a2 [(Vb a6)] 4]) [blk a2 [(Vb a7.2)] 4, aua (Vs a1 a0.length cap2) a0.length a7.1] w' /\ a7 = b5) ?_ ?_);refine sr (wp 3 (nq (ce (lpG (σ := Nat × Str × Int × Bool) [1, 4, 5, 10, 11, 12] (fun ⟨b0, a4, a5, a8⟩ => [(12, (Vi .i64 a5))]) (fun ⟨b0, a4, a5, a8⟩ w' => Hp w (afe [blk a2 [(Vb a6)] 4]) [blk a2 [(Vb a8)] 4, aua (Vs a1 a0.length cap2) a0.length a4] w' /\ abq fu a0 b0 a4 a5 a8 = some b5) (fun ⟨b0, a4, a5, a8⟩ => b0) (fu, a0, (0 : Int), a6) (by exact ⟨(Hp.front b7 1 _ rfl).kp, b8⟩) ?_))));rintro ⟨_ | b0, a4, a5, a8⟩ c9 G ⟨a9, a3⟩
 · exact nzz a3
 rw [adm, abk] at a3;refine sr (wp 1 (nq (cs (cd a3 (fun b9 a3 => ?_) (fun b9 a3 => ?_)))));refine ck (qn (cs (ce (sr (wp 1 (gi a3 fun c0 a3 => aey a1 a0.length cap2 5 1 .i64 a5 underlying23 krf krf krf a4 (a9.browlen 1 rfl).symm c0 (Rd.ofbytes (a9.rdbrow 1 rfl)) aih (by decide) (gi a3 fun c1 a3 => ?_)))))));refine ahq a1 eB a4 1 a5 aih (Rd.ofbytes (a9.rdbrow 1 rfl)) (bt (at_ a4 a5)) c1 (by decide) krf krf krf (wp 2 (nq (cr (wp 4 (bi a3 fun b1 c2 a3 => aat 170 #[(Vp (some ⟨a2, 0, none⟩))] [(bt (at_ a4 a5)), (Vp (some ⟨a2, 0, none⟩))] _ ent170 krf krf (K_L_header_Canon_1 a2 c2 (hG.hp a9 hS) (a9.hand (L1 := [blk a2 [(Vb a8)] 4]) (L2 := [aua (Vs a1 a0.length cap2) a0.length a4])) (a9.highs hG hS 1 rfl)) ?_)))));rintro _ c3 ⟨rfl, b6⟩
 have b2 : Hp w (afe [blk a2 [(Vb a6)] 4]) [blk a2 [(Vb b1.2)] 4, aua (Vs a1 a0.length cap2) a0.length a4] c3 := Hp.callK (L1 := [blk a2 [(Vb a8)] 4]) (L2 := [aua (Vs a1 a0.length cap2) a0.length a4]) a9 b6; clear b6;refine gi a3 fun c4 a3 => aey a1 a0.length cap2 5 1 .i64 a5 underlying23 krf krf krf a4 (b2.browlen 1 rfl).symm c4 (Rd.ofbytes (b2.rdbrow 1 rfl)) aih (by decide) (gi a3 fun c5 a3 => w_stB b2 1 a1 a0.length cap2 a5 a4 b1.1 rfl c5 krf krf krf fun c6 b3 => ?_)
 replace b3 : Hp w (afe [blk a2 [(Vb a6)] 4]) [blk a2 [(Vb b1.2)] 4, aua (Vs a1 a0.length cap2) a0.length (zbd a4 (zaf a5) b1.1)] c6 := b3;refine wl (bn (qn (cr (gi a3 fun c7 a3 => aah a5 (1 : Int) krf krf c7 (wp 1 (wl (ql ?_)))))));exact ⟨(b0, zbd a4 (zaf a5) b1.1, a5 + (1 : Int), b1.2), _, rfl, by kernel_rfl, ⟨(Hp.front (Hp.front b3 1 _ rfl) 1 _ rfl).kp, a3⟩, zad _⟩
 refine abp (abo (abv (abr (ql ?_))));obtain rfl := oi a3;exact ⟨(a4, a8), _, rfl, by kernel_rfl, (Hp.front (Hp.front a9 1 _ rfl) 1 _ rfl).kp, rfl⟩
 rintro a7 c8 G ⟨b4, rfl⟩
 refine sr (wp 1 (acn (v := (str a7.1)) (w' := c8) rfl rfl (aqn a7.1 a1 a0.length cap2 5 (Rd.bytes (Rd.ofbytes (b4.rdbrow 1 rfl))) (b4.browlen 1 rfl) underlying23 underlying9 underlying5 krf) (wp 1 (nq (ct ?_)))));obtain rfl := oi hr;refine aqj (str a7.1) rfl krf ?_;exact ⟨(by first | rfl | (simp; done) | (simp; omega) | exact aae (by rw [zab]; omega)), b4.kp⟩
theorem ars {fu : Nat} {a6 : Str} {w : World} {r : (Str × UInt8)} (hr : ajl fu a6 = some r) (hG : Gl w) : CR prog 105 [(str a6)] w fun v w' => v = (zal #[(str r.1), (bt r.2)]) /\ Hp w [] [] w' := by
 have hH := Hp.refl w;refine enter (k := 42) func105 rfl rfl nbe ?_;unfold ajl at hr;refine sr (wp 2 (nq (cs (bi hr fun b7 a3 hr => afp hH [0, 2, 3, 16] [(16, (Vb b7))] ?_ ?_))));refine cr (wp 1 (bi a3 fun e4 b8 a3 => wc ent84 hH (K_L_lexis_Token b8 (hG.hp0 hH)) fun e5 b0 => wp 1 (wb a3 (fun b9 a3 => ?_) (fun b9 a3 => ?_))));refine wp 4 (wl (ql ?_));obtain rfl := oi a3;exact je b0.kp
 refine wp 4 (wl (ql ?_));obtain rfl := oi a3;exact je b0.kp
 intro e6 G a5;refine cb hr (fun c0 hr => ?_) (fun c0 hr => ?_);refine sr (wp 2 (nq (ct (st ?_))));obtain rfl := oi hr;exact rv a5.kp
 refine ck (qn (bi hr fun c1 a1 hr => cut1 a5 c1 [0, 2, 3] (fun c2 => []) ?_ ?_));refine sr (wp 3 (nq (cd a1 (fun c3 a1 => ?_) (fun c3 a1 => ?_))));refine sr (wp 1 (gi a1 fun c4 a1 => aaq a6 .i64 (0 : Int) underlying9 krf krf c4 (bi a1 fun e7 c5 a1 => wc ent169 a5 (anz c5 (hG.hp0 a5)) fun e8 b1 => bi a1 fun e9 c6 a1 => wc ent168 b1 (K_L_header_longName c6 (hG.hp0 b1)) fun f0 b2 => wp 1 ?_)));refine nq (sr (wp 2 (nq (cn a1 (fun c7 a1 => ?_) (fun c7 a1 => ?_)))));refine sr (wp 3 (nq (ct (aau ?_))));obtain rfl := oi a1;obtain rfl := oi hr;exact rv b2.kp
 refine ck (ql ?_);obtain rfl := oi a1;exact je1 rfl b2.kp
 refine ck (ql ?_);obtain rfl := oi a1;exact je1 rfl a5.kp
 rintro c2 f1 G b3 rfl
 refine sr (wp 1 (bi hr fun c8 c9 hr => wc ent44 b3 (ahh c9 (hG.hp0 b3)) fun f2 a8 => wp 1 (nq (bi hr fun d0 d1 hr => cut1 a8 d0 [0, 2, 3] (fun d2 => []) ?_ ?_))));refine sr (w_rdN (some ⟨0, 0, none⟩) (zap eS ajf) (Zz8) 0 7 (hG.specials.rd.hp a8) rfl rfl (by decide) krf krf krf (wp 1 (nq (ce (lpS (fun b4 a2 => adp fu c8 b4 a2) (0 : Int) a8 d1 [0, 2, 3, 5, 30, 29] (fun a2 => [(30, (Vi .i64 a2))]) (fun _ => rfl) ?_)))));rintro b4 a2 f3 G a9 a0
 rw [L_header_Canon_lp0_s, aou] at a0;refine sr (wp 1 (nq (cs (cd a0 (fun d3 a0 => ?_) (fun d3 a0 => ?_)))));refine ck (qn (cs (ce (sr (gi a0 fun d4 a0 => w_ixA eS ajf 7 .i64 a2 (Zz8) (str (el ajf a2)) rfl underlying173 rfl krf krf krf krf krf d4 (wp 1 (wl ?_)))))));refine qn (sr (wp 1 (bi a0 fun f4 d5 a0 => wc ent44 a9 (ahh d5 (hG.hp0 a9)) fun f5 b5 => wp 2 (nq (cd a0 (fun d6 a0 => ?_) (fun d6 a0 => ?_))))));refine sr (wp 3 (nq (ct (bt_ (st (aau (bt_ ?_)))))));refine aau ?_;obtain rfl := oi a0;obtain rfl := oi hr;exact rv b5.kp
 exact ck (bn (qn (cr (gi a0 fun d7 a0 => aah a2 (1 : Int) krf krf d7 (wp 1 (wl (ql (le' (a2 + (1 : Int)) b5.kp a0))))))))
 refine abp (abo (abv (abr (ql ?_))));obtain rfl := oi a0;exact je1 rfl a9.kp
 rintro d2 f6 G d8 rfl
 refine sr (aco d8 [(Vb false)] 4 (fun b => (Vp (some ⟨b, 0, none⟩))) rfl rfl krf fun a4 f7 d9 => alq d9 0 a4 0 [(Vb false)] 4 (Vb true) [blk a4 [(Vb true)] 4] rfl (zaj (zad _) nbe) krf krf rfl krf rfl fun f8 a7 => nq (sr (wp 2 (bi hr fun e0 e1 hr => ?_))));refine aat 44 #[] [(str a6), (zaW (.func 170) #[] #[(Vp (some ⟨a4, 0, none⟩))])] _ ent44 krf krf (apf a4 e1 (hG.hp0 a7) (a7.hand (L1 := [blk a4 [(Vb true)] 4]) (L2 := [])) (a7.highs hG (fun _ h => absurd h (by simp)) 1 rfl)) ?_;rintro _ e2 ⟨rfl, b6⟩
 have e3 : Hp w [] [blk a4 [(Vb e0.2)] 4] e2 := Hp.callK (L1 := [blk a4 [(Vb true)] 4]) (L2 := []) a7 b6; clear b6;refine wp 2 (nq (ct ?_));obtain rfl := oi hr;exact rv e3.kp
theorem aty {fu : Nat} {a0 : Str} {w : World} {r : (UInt8 × Str)} (hr : akp fu a0 = some r) (hG : Gl w) : CR prog 40 [(str a0)] w fun v w' => ∃ (b0 : Nat), ∃ (b1 : Nat), v = (zaW (.func 106) #[] #[(Vp (some ⟨b0, 0, none⟩)), (Vp (some ⟨b1, 0, none⟩))]) /\ Hp w [] [blk b0 [(bt r.1)] 28, blk b1 [(str r.2)] 9] w' := by
 have hH := Hp.refl w;refine enter (k := 11) func40 rfl rfl nbe ?_;unfold akp at hr;refine sr (wp 1 (nq (sr (wp 1 (bi hr fun y1 a1 hr => wc ent105 hH (ars a1 (hG.hp0 hH)) fun w3 a2 => ?_)))));refine wp 3 (aco a2 [(str ([] : Str))] 9 (fun b => (Vp (some ⟨b, 0, none⟩))) rfl rfl krf fun b6 w7 a3 => aco a3 [(bt (0 : UInt8))] 28 (fun b => (Vp (some ⟨b, 0, none⟩))) rfl rfl krf fun b9 a7 a4 => alq a4 1 b6 0 [(str ([] : Str))] 9 (str y1.1) [blk b9 [(bt (0 : UInt8))] 28, blk b6 [(str y1.1)] 9] rfl (zaj (zad _) nbe) krf krf rfl krf rfl fun a8 a5 => alq a5 0 b9 0 [(bt (0 : UInt8))] 28 (bt y1.2) (Zz19 b9 y1.2 b6 y1.1) rfl (zaj (zad _) nbe) krf krf rfl krf rfl fun a9 a6 => nq (sr (wp 2 ?_)));refine nq (ct ?_);obtain rfl := oi hr;refine aqj (zaW (.func 106) #[] #[(Vp (some ⟨b9, 0, none⟩)), (Vp (some ⟨b6, 0, none⟩))]) rfl krf ?_;exact ⟨b9, b6, (by first | rfl | (simp; done) | (simp; omega) | exact aae (by rw [zab]; omega)), (Hp.front (Hp.front a6 1 _ rfl) 1 _ rfl).kp⟩
theorem K_L_header_kindOf {fu : Nat} {a3 : Str} {w : World} {r : Int} (hr : amz fu a3 = some r) (hG : Gl w) : CR prog 171 [(str a3)] w fun v w' => v = (Vi .i64 r) /\ Hp w [] [] w' := by
 have hH := Hp.refl w;refine enter (k := 18) func171 rfl rfl nbe ?_;unfold amz at hr;refine sr (wp 1 (nq (bi hr fun a5 a6 hr => cut1 hH a5 [2] (fun a7 => []) ?_ ?_)));refine sr (wp 1 (nq (ce (lpS (fun a4 a1 => aib fu a3 a4 a1) (0 : Int) hH a6 [0, 2, 4] (fun a1 => [(4, (Vi .i64 a1))]) (fun _ => rfl) ?_))));rintro a4 a1 b6 G a2 a0
 rw [amy, agu] at a0;refine sr (wp 1 (nq (cs (cd a0 (fun a8 a0 => ?_) (fun a8 a0 => ?_)))));refine ck (qn (cs (ce (sr (wp 2 (nq (cs ?_)))))));refine cr (wp 1 (gi a0 fun a9 a0 => w_ixaA ⟨2, 0, none⟩ 31 224 2 .i64 a1 underlying225 krf krf krf a9 (by decide) (w_fldE (some ⟨2, 0, none⟩) ((a1).toNat * 2) 0 krf krf (gi a0 fun b0 a0 => w_ldF (some ⟨2, 0, none⟩) asf acy 2 a1 0 enc_enamekind (hG.kinds.rd.hp a2) (str ((el acy a1).1)) b0 (by decide) krf krf krf (wp 2 (nq (cd a0 (fun b1 a0 => ?_) (fun b1 a0 => ?_))))))));refine sr (wp 1 (gi a0 fun b2 a0 => w_ixaA ⟨2, 0, none⟩ 31 224 2 .i64 a1 underlying225 krf krf krf b2 (by decide) (w_fldE (some ⟨2, 0, none⟩) ((a1).toNat * 2) 1 krf krf (gi a0 fun b3 a0 => w_ldF (some ⟨2, 0, none⟩) asf acy 2 a1 1 enc_enamekind (hG.kinds.rd.hp a2) (Vi .i64 ((el acy a1).2)) b3 (by decide) krf krf krf (wp 1 (wl ?_))))));refine qn (ct (bt_ (st (aau (bt_ (aau ?_))))));obtain rfl := oi a0;obtain rfl := oi hr;exact rv a2.kp
 exact ck (bn (qn (cr (gi a0 fun b4 a0 => aah a1 (1 : Int) krf krf b4 (wp 1 (wl (ql (le' (a1 + (1 : Int)) a2.kp a0))))))))
 refine abp (abo (abv (abr (ql ?_))));obtain rfl := oi a0;exact je1 rfl a2.kp
 rintro a7 b7 G b5 rfl
 refine sr (wp 1 (nq (ct ?_)));obtain rfl := oi hr;exact rv b5.kp
theorem K_L_header_many {fu : Nat} {a3 : Str} {w : World} {r : Bool} (hr : ajb fu a3 = some r) (hG : Gl w) : CR prog 107 [(str a3)] w fun v w' => v = (Vb r) /\ Hp w [] [] w' := by
 have hH := Hp.refl w;refine enter (k := 19) func107 rfl rfl nbe ?_;unfold ajb at hr;refine sr (wp 1 (nq (bi hr fun a5 a0 hr => cut1 hH a5 [0, 2] (fun a6 => []) ?_ ?_)));refine sr (wp 1 (nq (ce (cs (sr (wp 2 ?_))))));refine nq (cd a0 (fun a7 a0 => ?_) (fun a7 a0 => ?_));refine ck (qn (cd a0 (fun a8 a0 => ?_) (fun a8 a0 => ?_)));refine sr (wp 1 (nq (ct (bt_ (aau ?_)))));obtain rfl := oi a0;obtain rfl := oi hr;exact rv hH.kp
 refine ck (bn (ql ?_));obtain rfl := oi a0;exact je1 rfl hH.kp
 refine sr (wp 2 (nq (cd a0 (fun a9 a0 => ?_) (fun a9 a0 => ?_))));refine ck (qn (cd a0 (fun b0 a0 => ?_) (fun b0 a0 => ?_)));refine sr (wp 1 (nq (ct (bt_ (aau ?_)))));obtain rfl := oi a0;obtain rfl := oi hr;exact rv hH.kp
 refine ck (bn (ql ?_));obtain rfl := oi a0;exact je1 rfl hH.kp
 refine sr (wp 2 (nq (cd a0 (fun b1 a0 => ?_) (fun b1 a0 => ?_))));refine ck (qn (cd a0 (fun b2 a0 => ?_) (fun b2 a0 => ?_)));refine sr (wp 1 (nq (ct (bt_ (aau ?_)))));obtain rfl := oi a0;obtain rfl := oi hr;exact rv hH.kp
 refine ck (bn (ql ?_));obtain rfl := oi a0;exact je1 rfl hH.kp
 refine sr (wp 2 (nq (cd a0 (fun b3 a0 => ?_) (fun b3 a0 => ?_))));refine ck (qn (cd a0 (fun b4 a0 => ?_) (fun b4 a0 => ?_)));refine sr (wp 1 (nq (ct (bt_ (aau ?_)))));obtain rfl := oi a0;obtain rfl := oi hr;exact rv hH.kp
 refine ck (bn (ql ?_));obtain rfl := oi a0;exact je1 rfl hH.kp
 refine cr (wp 2 (nq (cd a0 (fun b5 a0 => ?_) (fun b5 a0 => ?_))));refine sr (wp 1 (nq (ct (bt_ (aau ?_)))));obtain rfl := oi a0;obtain rfl := oi hr;exact rv hH.kp
 refine ck (bn (ql ?_));obtain rfl := oi a0;exact je1 rfl hH.kp
 rintro a6 c0 G a4 rfl
 refine sr (wp 1 (bi hr fun c1 b6 hr => wc ent171 a4 (K_L_header_kindOf b6 (hG.hp0 a4)) fun c2 a2 => wp 1 (nq (bi hr fun b7 a1 hr => afp a2 [2] [(2, (Vb b7))] ?_ ?_))));refine cr (wp 2 (wd a1 (fun b8 a1 => ?_) (fun b8 a1 => ?_)));refine wp 4 (wl (ql ?_));obtain rfl := oi a1;exact je a2.kp
 refine wp 4 (wl (ql ?_));obtain rfl := oi a1;exact je a2.kp
 intro c3 G b9;refine ct ?_;obtain rfl := oi hr;exact rv b9.kp
theorem K_L_header_Many {fu : Nat} {a2 : Str} {w : World} {r : Bool} (hr : ano fu a2 = some r) (hG : Gl w) : CR prog 41 [(str a2)] w fun v w' => v = (Vb r) /\ Hp w [] [] w' := by
 have hH := Hp.refl w;refine enter (k := 16) func41 rfl rfl nbe ?_;unfold ano at hr;refine sr (wp 1 (nq (sr (wp 1 (bi hr fun y1 a3 hr => wc ent105 hH (ars a3 (hG.hp0 hH)) fun w3 a1 => ?_)))));refine wp 5 (nq (bi hr fun a4 a0 hr => afp a1 [2] [(2, (Vb a4))] ?_ ?_));refine cr (wp 1 (aar y1.2 (0 : UInt8) krf krf (wd a0 (fun a5 a0 => ?_) (fun a5 a0 => ?_))));refine wp 1 (gy 12 (bi a0 fun a9 a6 a0 => wc ent107 a1 (K_L_header_many a6 (hG.hp0 a1)) fun b0 a7 => wp 2 (wl (ql ?_))));obtain rfl := oi a0;exact je a7.kp
 refine wp 4 (wl (ql ?_));obtain rfl := oi a0;exact je a1.kp
 intro b1 G a8;refine ct ?_;obtain rfl := oi hr;exact rv a8.kp
open Go.Value renaming agg -> zai, func -> zaW, tuple -> zal
open List renaming length_take -> zab
theorem ent47:Wk.Enters prog 47:=⟨f47,_,func47,rfl,krf⟩
theorem ent112:Wk.Enters prog 112:=⟨f112,_,func112,rfl,krf⟩
theorem ent211:Wk.Enters prog 211:=⟨f211,_,func211,rfl,krf⟩
theorem ent237:Wk.Enters prog 237:=⟨f237,_,func237,rfl,krf⟩
theorem ent263:Wk.Enters prog 263:=⟨f263,_,func263,rfl,krf⟩
theorem asm {fu : Nat} {a5 : (Str × Str)} {a0 : UInt8} {a1 : Str} (a2 : Nat) (a3 : Nat) {w : World} {r : Bool} (hr : ahm fu a5 a0 a1 = some r) (hG : Gl w) (hM : Hp w (afe [blk a2 [(bt a0)] 28, blk a3 [(str a1)] 9]) [blk a2 [(bt a0)] 28, blk a3 [(str a1)] 9] w) (hS : ∀ b ∈ afe [blk a2 [(bt a0)] 28, blk a3 [(str a1)] 9], 12 <= b) : CR prog 106 [(zai #[(str a5.1), (str a5.2)]), (Vp (some ⟨a2, 0, none⟩)), (Vp (some ⟨a3, 0, none⟩))] w fun v w' => v = (Vb r) /\ Hp w (afe [blk a2 [(bt a0)] 28, blk a3 [(str a1)] 9]) [blk a2 [(bt a0)] 28, blk a3 [(str a1)] 9] w' := by
 have hH : Hp w (afe (Zz19 a2 a0 a3 a1)) (Zz19 a2 a0 a3 a1) w := hM;refine enter (k := 24) func106 rfl rfl nbe ?_;unfold ahm at hr;refine sr (aco hH [(str a5.1), (str a5.2)] 34 (fun b => (Vp (some ⟨b, 0, none⟩))) rfl rfl krf fun b1 w2 a8 => wp 1 (nq (sr (wp 1 (acw a8 0 b1 0 [(str a5.1), (str a5.2)] 34 (str a5.1) rfl rfl krf krf ?_)))));refine bi hr fun y4 a9 hr => wc ent105 a8 (ars a9 (hG.hp a8 hS)) fun w6 a6 => wp 5 (nq (bi hr fun b0 a4 hr => cut (σ := Bool) [4] (fun a7 => [(4, (Vb a7))]) (fun a7 w' => Hp w (afe (Zz19 a2 a0 a3 a1)) (Zz19 a2 a0 a3 a1) w' /\ a7 = b0) ?_ ?_))
 refine cr (acw a6 1 a2 0 [(bt a0)] 28 (bt a0) rfl rfl krf krf (aar a0 (0 : UInt8) krf krf (wd a4 (fun b2 a4 => ?_) (fun b2 a4 => ?_))));refine wp 1 (gy 15 (aar y4.2 (0 : UInt8) krf krf (wp 1 (wd a4 (fun b3 a4 => ?_) (fun b3 a4 => ?_)))));refine wp 1 (gy 19 (acw a6 2 a3 0 [(str a1)] 9 (str a1) rfl rfl krf krf (wp 3 (wl (ql ?_)))));obtain rfl := oi a4;exact ⟨(decide (y4.1 = a1)), _, rfl, by kernel_rfl, (Hp.front (Hp.front a6 2 _ rfl) 2 _ rfl).kp, rfl⟩
 refine wp 5 (wl (ql ?_));obtain rfl := oi a4;exact ⟨false, _, rfl, by kernel_rfl, (Hp.front (Hp.front a6 2 _ rfl) 2 _ rfl).kp, rfl⟩
 refine wp 9 (wl (ql ?_));obtain rfl := oi a4;exact ⟨false, _, rfl, by kernel_rfl, (Hp.front (Hp.front a6 2 _ rfl) 2 _ rfl).kp, rfl⟩
 rintro a7 b5 G ⟨b4, rfl⟩
 refine ct ?_;obtain rfl := oi hr;refine aqj (Vb a7) rfl krf ?_;exact ⟨(by first | rfl | (simp; done) | (simp; omega) | exact aae (by rw [zab]; omega)), (Hp.front (Hp.front b4 1 _ rfl) 1 _ rfl).kp⟩
theorem aru {fu : Nat} {a1 : UInt8} {w : World} {r : Bool} (hr : agk fu a1 = some r) (hG : Gl w) : CR prog 112 [(bt a1)] w fun v w' => v = (Vb r) /\ Hp w [] [] w' := by
 have hH := Hp.refl w;refine enter (k := 9) func112 rfl rfl nbe ?_;unfold agk at hr;refine sr (wp 1 (nq (bi hr fun v5 a0 hr => afp hH [2] [(2, (Vb v5))] ?_ ?_)));refine cr (wp 1 (aar a1 (32 : UInt8) krf krf (wd a0 (fun h6 a0 => ?_) (fun h6 a0 => ?_))));refine wp 4 (wl (ql ?_));obtain rfl := oi a0;exact je hH.kp
 refine wp 1 (gy 5 (aar a1 (9 : UInt8) krf krf (wp 2 (wl (ql ?_)))));obtain rfl := oi a0;exact je hH.kp
 intro w7 G a2;refine ct ?_;obtain rfl := oi hr;exact rv a2.kp
theorem K_L_lexis_char_escaped {fu : Nat} {a1 : UInt8} {w : World} {r : Bool} (hr : ags fu a1 = some r) (hG : Gl w) : CR prog 237 [(bt a1)] w fun v w' => v = (Vb r) /\ Hp w [] [] w' := by
 have hH := Hp.refl w;refine enter (k := 9) func237 rfl rfl nbe ?_;unfold ags at hr;refine sr (wp 1 (nq (bi hr fun v5 a0 hr => afp hH [2] [(2, (Vb v5))] ?_ ?_)));refine cr (wp 1 (aig a1 (32 : UInt8) krf krf (wd a0 (fun h6 a0 => ?_) (fun h6 a0 => ?_))));refine wp 1 (gy 5 (aif a1 (126 : UInt8) krf krf (wp 2 (wl (ql ?_)))));obtain rfl := oi a0;exact je hH.kp
 refine wp 4 (wl (ql ?_));obtain rfl := oi a0;exact je hH.kp
 intro w7 G a2;refine ct ?_;obtain rfl := oi hr;exact rv a2.kp
theorem K_L_lexis_char_control {fu : Nat} {a1 : UInt8} {w : World} {r : Bool} (hr : agt fu a1 = some r) (hG : Gl w) : CR prog 211 [(bt a1)] w fun v w' => v = (Vb r) /\ Hp w [] [] w' := by
 have hH := Hp.refl w;refine enter (k := 13) func211 rfl rfl nbe ?_;unfold agt at hr;refine sr (wp 1 (nq (bi hr fun v6 a0 hr => afp hH [2] [(2, (Vb v6))] ?_ ?_)));refine cr (wp 1 (w8_lss a1 (32 : UInt8) krf krf (wd a0 (fun h7 a0 => ?_) (fun h7 a0 => ?_))));refine wp 1 (gy 5 (ahe a1 (9 : UInt8) krf krf (wp 1 (wn a0 (fun h8 a0 => ?_) (fun h8 a0 => ?_)))));refine wp 4 (wl (ql ?_));obtain rfl := oi a0;exact je hH.kp
 refine wp 1 (gy 9 (aar a1 (127 : UInt8) krf krf (wp 2 (wl (ql ?_)))));obtain rfl := oi a0;exact je hH.kp
 refine wp 5 (gy 9 (aar a1 (127 : UInt8) krf krf (wp 2 (wl (ql ?_)))));obtain rfl := oi a0;exact je hH.kp
 intro w9 G a2;refine ct ?_;obtain rfl := oi hr;exact rv a2.kp
theorem atz {fu : Nat} {a2 : Str} {b1 : Int} {w : World} {r : (Str × Int × UInt8)} (hr : akq fu a2 b1 = some r) (hG : Gl w) : CR prog 190 [(str a2), (Vi .i64 b1)] w fun v w' => v = (zal #[(str r.1), (Vi .i64 r.2.1), (bt r.2.2)]) /\ Hp w [] [] w' := by
 have hH := Hp.refl w;refine enter (k := 82) func190 rfl rfl nbe ?_;unfold akq at hr;refine sr (wp 3 (nq (c_scope (cs (bi hr fun v5 b2 hr => afp hH [0, 1, 4, 5, 6, 17] [(17, (Vb v5))] ?_ ?_)))));refine cr (wp 2 (wd b2 (fun h6 b2 => ?_) (fun h6 b2 => ?_)));refine wp 5 (wl (ql ?_));obtain rfl := oi b2;exact je hH.kp
 refine wp 5 (wl (ql ?_));obtain rfl := oi b2;exact je hH.kp
 intro w7 G b5;refine cb hr (fun h9 hr => ?_) (fun h9 hr => ?_);refine sr (wp 3 (nq (ct (st (n_ret ?_)))));obtain rfl := oi hr;exact rv b5.kp
 refine ck (qn (cs (bi hr fun d4 a8 hr => afp b5 [0, 1, 4, 5, 6, 27] [(27, (Vb d4))] ?_ ?_)));refine cr (wp 4 (wd a8 (fun d5 a8 => ?_) (fun d5 a8 => ?_)));refine wp 5 (wl (ql ?_));obtain rfl := oi a8;exact je b5.kp
 refine wp 2 (gy 22 (gi a8 fun d6 a8 => aaq a2 .i64 b1 underlying9 krf krf d6 (gy 22 (ahe (at_ a2 b1) (34 : UInt8) krf krf (wp 1 (wl (ql ?_)))))));obtain rfl := oi a8;exact je b5.kp
 intro g4 G c2;refine cb hr (fun d7 hr => ?_) (fun d7 hr => ?_);refine sr (wp 4 (nq (ct (st (n_ret ?_)))));obtain rfl := oi hr;exact rv c2.kp
 refine ck (qn (sr (wp 1 (nq (sr (wp 1 ?_))))));refine gi hr fun d8 hr => aah b1 (1 : Int) krf krf d8 (wp 1 (nq (cs (c_label (qn (bi hr fun c3 d9 hr => cut (σ := ((List UInt8) × Int) × (Option Nat) × (Option Addr) × Nat) [0, 4, 5, 6, 7, 8] (fun ⟨a4, b6, b3, b4⟩ => [(7, (Vs b3 a4.1.length b4)), (8, (Vi .i64 a4.2))]) (fun ⟨a4, b6, b3, b4⟩ w' => Hp w [] [rwt eB 5 1 b6 b3 b4 a4.1] w' /\ .inl a4 = c3) ?_ ?_))))))
 refine ce (lpG (σ := Nat × (List UInt8) × Int × (Option Nat) × (Option Addr) × Nat) [0, 4, 5, 6, 7, 8] (fun ⟨a9, a3, a1, a7, a5, a6⟩ => [(7, (Vs a5 a3.length a6)), (8, (Vi .i64 a1))]) (fun ⟨a9, a3, a1, a7, a5, a6⟩ w' => Hp w [] [rwt eB 5 1 a7 a5 a6 a3] w' /\ aia fu a2 a9 a3 a1 = some c3) (fun ⟨a9, a3, a1, a7, a5, a6⟩ => a9) (fu, ([] : List UInt8), b1 + (1 : Int), none, none, 0) (by exact ⟨(Hp.nilrw c2 eB 5 1 none).kp, d9⟩) ?_ (mc krf (mc krf (mc krf (mc krf (mc (Eq.trans (b := (Vs none 0 0)) krf (aae lsy)) (mc krf rfl)))))));rintro ⟨_ | a9, a3, a1, a7, a5, a6⟩ g5 G ⟨b0, a0⟩
 · exact nzz a0
 rw [aiz, aet] at a0;refine cs (sr (wp 4 (nq (cd a0 (fun e0 a0 => ?_) (fun e0 a0 => ?_)))));refine ck (qn (ce (sr (wp 2 (gi a0 fun e1 a0 => aaq a2 .i64 a1 underlying9 krf krf e1 (wp 1 (wl ?_)))))));refine qn (cs (ce (sr (wp 1 (aar (at_ a2 a1) (34 : UInt8) krf krf (wp 1 (nq (cd a0 (fun e2 a0 => ?_) (fun e2 a0 => ?_)))))))));refine abp (b_past krf (abo (b_past krf (abv (abr (ql ?_))))));obtain rfl := oi a0;exact ⟨((a3, a1), a7, a5, a6), _, rfl, by kernel_rfl, b0.kp, rfl⟩
 refine sr (wp 1 (aar (at_ a2 a1) (92 : UInt8) krf krf (wp 1 (nq (cd a0 (fun e3 a0 => ?_) (fun e3 a0 => ?_))))));refine cs (sr (wp 1 (gi a0 fun e4 a0 => aah a1 (1 : Int) krf krf e4 (wp 3 (nq (cd a0 (fun e5 a0 => ?_) (fun e5 a0 => ?_)))))));refine sr (wp 5 (nq (ct (st (bt_ (st (bt_ ?_)))))));refine aau (bt_ (aau ?_));obtain rfl := oi a0;refine n_ret ?_;obtain rfl := oi hr;exact rv b0.kp
 refine ck (qn (cs (sr (wp 2 (gi a0 fun e6 a0 => aah a1 (1 : Int) krf krf e6 (gi a0 fun e7 a0 => aaq a2 .i64 (a1 + (1 : Int)) underlying9 krf krf e7 ?_))))));refine bi a0 fun g6 e8 a0 => wc ent237 b0 (K_L_lexis_char_escaped e8 (hG.hp0 b0)) fun g7 c4 => wp 1 (nq (cb a0 (fun e9 a0 => ?_) (fun e9 a0 => ?_)))
 refine sr (wp 4 (nq (ct (st (bt_ (st (bt_ ?_)))))));refine aau (bt_ (aau ?_));obtain rfl := oi a0;refine n_ret ?_;obtain rfl := oi hr;exact rv c4.kp
 refine ck (qn (cr (wp 1 (gi a0 fun f0 a0 => aah a1 (1 : Int) krf krf f0 (wp 1 (wl (bn (qn ?_))))))));refine sr (wp 3 (gi a0 fun f1 a0 => aaq a2 .i64 (a1 + (1 : Int)) underlying9 krf krf f1 (aco c4 [(bt (at_ a2 (a1 + (1 : Int))))] 5 (fun b => (Vs (some ⟨b, 0, none⟩) 1 1)) rfl rfl krf fun b7 g8 c5 => gi a0 fun f2 a0 => aeh c5 1 a7 a5 (some ⟨b7, 0, none⟩) a6 1 5 1 1 a3 ([at_ a2 (a1 + (1 : Int))] : List UInt8) aih rfl underlying23 (by unfold TI; kernel_rfl) (by decide) (by decide) krf (Eq.trans (b := (Vs (some ⟨b7, 0, none⟩) 1 1)) krf (aae (by first | rfl | (simp; done) | omega | (simp; omega) | (rw [zab]; omega)))) (c5.rdblk 0 rfl) f2 fun c6 c7 c8 f3 b8 => ?_)));replace b8 : Hp w [] [blk b7 [(bt (at_ a2 (a1 + (1 : Int))))] 5, rwt eB 5 1 c6 c7 c8 (a3 ++ ([at_ a2 (a1 + (1 : Int))] : List UInt8))] f3 := b8;refine wp 1 (nq (cr (wp 1 (gi a0 fun f4 a0 => aah (a1 + (1 : Int)) (1 : Int) krf krf f4 (wp 1 (wl (bn ?_)))))));refine ql ?_;exact ⟨(a9, a3 ++ ([at_ a2 (a1 + (1 : Int))] : List UInt8), (a1 + (1 : Int)) + (1 : Int), c6, c7, c8), _, rfl, by kernel_rfl, ⟨(Hp.front b8 1 _ rfl).kp, a0⟩, zad _⟩
 refine sr (wp 1 (bi a0 fun g9 f5 a0 => wc ent211 b0 (K_L_lexis_char_control f5 (hG.hp0 b0)) fun h0 c9 => wp 1 (nq (cb a0 (fun f6 a0 => ?_) (fun f6 a0 => ?_)))));refine sr (wp 4 (nq (ct (bt_ (st (bt_ (aau ?_)))))));refine bt_ (aau ?_);obtain rfl := oi a0;refine n_ret ?_;obtain rfl := oi hr;exact rv c9.kp
 refine ck (bn (qn (sr (wp 3 (gi a0 fun f7 a0 => aaq a2 .i64 a1 underlying9 krf krf f7 (aco c9 [(bt (at_ a2 a1))] 5 (fun b => (Vs (some ⟨b, 0, none⟩) 1 1)) rfl rfl krf fun b9 h1 d0 => gi a0 fun f8 a0 => ?_))))));refine aeh d0 1 a7 a5 (some ⟨b9, 0, none⟩) a6 1 5 1 1 a3 ([at_ a2 a1] : List UInt8) aih rfl underlying23 (by unfold TI; kernel_rfl) (by decide) (by decide) krf (Eq.trans (b := (Vs (some ⟨b9, 0, none⟩) 1 1)) krf (aae (by first | rfl | (simp; done) | omega | (simp; omega) | (rw [zab]; omega)))) (d0.rdblk 0 rfl) f8 fun d1 d2 d3 f9 c0 => ?_
 replace c0 : Hp w [] [blk b9 [(bt (at_ a2 a1))] 5, rwt eB 5 1 d1 d2 d3 (a3 ++ ([at_ a2 a1] : List UInt8))] f9 := c0;refine wp 1 (nq (cr (wp 1 (gi a0 fun g0 a0 => aah a1 (1 : Int) krf krf g0 (wp 1 (wl (bn ?_)))))));refine ql ?_;exact ⟨(a9, a3 ++ ([at_ a2 a1] : List UInt8), a1 + (1 : Int), d1, d2, d3), _, rfl, by kernel_rfl, ⟨(Hp.front c0 1 _ rfl).kp, a0⟩, zad _⟩
 refine abp (abo (abv (abr (ql ?_))));obtain rfl := oi a0;exact ⟨((a3, a1), a7, a5, a6), _, rfl, by kernel_rfl, b0.kp, rfl⟩
 rintro ⟨a4, b6, b3, b4⟩ g1 G ⟨c1, rfl⟩
 refine cs (sr (wp 4 (nq (cd hr (fun g2 hr => ?_) (fun g2 hr => ?_)))));refine sr (wp 5 (nq (ct (st (n_ret ?_)))));obtain rfl := oi hr;exact rv c1.kp
 refine ck (qn (sr (wp 1 (acn (v := (str a4.1)) (w' := g1) rfl rfl (aqn a4.1 b3 a4.1.length b4 5 (Rd.bytes (c1.rdrw 0 rfl)) (by first | rfl | (simp; done) | omega | (simp; omega) | (rw [zab]; omega)) underlying23 underlying9 underlying5 krf) (wp 1 (gi hr fun g3 hr => aah a4.2 (1 : Int) krf krf g3 (wp 3 ?_)))))));refine nq (ct (n_ret ?_));obtain rfl := oi hr;exact rv c1.kp
theorem aqx {fu : Nat} {a3 : Str} {a4 : Int} {w : World} {r : Int} (hr : adu fu a3 a4 = some r) (hG : Gl w) : CR prog 110 [(str a3), (Vi .i64 a4), (zaW (.func 112) #[] #[])] w fun v w' => v = (Vi .i64 r) /\ Hp w [] [] w' := by
 have hH := Hp.refl w;refine enter (k := 26) func110 rfl rfl nbe ?_;unfold adu at hr;refine sr (wp 1 (nq (sr (wp 1 (w_max .i64 a4 (0 : Int) krf krf (wp 2 ?_))))));refine w_min .i64 (max a4 (0 : Int)) (a3.length : Int) krf krf (wp 1 (nq (bi hr fun a8 a9 hr => afp hH [1, 6] [(1, (Vi .i64 a8))] ?_ ?_)));refine ce (lpS (fun a6 a2 => aca fu a3 a6 a2) (min (max a4 (0 : Int)) (a3.length : Int)) hH a9 [0, 1, 2, 6] (fun a2 => [(1, (Vi .i64 a2))]) (fun _ => rfl) ?_);rintro a6 a2 b8 G a5 a0
 rw [acs, aba] at a0;refine cs (bi a0 fun b0 a1 a0 => afp a5 [0, 1, 2, 6, 22] [(22, (Vb b0))] ?_ ?_);refine cr (wp 4 (wd a1 (fun b1 a1 => ?_) (fun b1 a1 => ?_)));refine wp 3 (gy 16 (gi a1 fun b2 a1 => aaq a3 .i64 a2 underlying9 krf krf b2 (gy 16 (bi a1 fun b9 b3 a1 => wc ent112 a5 (aru b3 (hG.hp0 a5)) fun c0 b4 => wp 1 (wl (ql ?_))))));obtain rfl := oi a1;exact je b4.kp
 refine wp 6 (wl (ql ?_));obtain rfl := oi a1;exact je a5.kp
 intro c1 G a7;refine cb a0 (fun b5 a0 => ?_) (fun b5 a0 => ?_);refine ck (qn (ce (cr (wp 1 (gi a0 fun b6 a0 => aah a2 (1 : Int) krf krf b6 (wp 1 (wl (bn ?_))))))));exact ql (le' (a2 + (1 : Int)) a7.kp a0)
 refine abp (abo (abv (abr (ql ?_))));obtain rfl := oi a0;exact je a7.kp
 intro c2 G b7;refine sr (wp 2 (nq (ct ?_)));obtain rfl := oi hr;exact rv b7.kp
theorem arq {fu : Nat} {a0 : Str} {a1 : Int} {w : World} {r : Int} (hr : ajk fu a0 a1 = some r) (hG : Gl w) : CR prog 47 [(str a0), (Vi .i64 a1)] w fun v w' => v = (Vi .i64 r) /\ Hp w [] [] w' := by
 have hH := Hp.refl w;refine enter (k := 8) func47 rfl rfl nbe ?_;unfold ajk at hr;refine sr (wp 1 (nq (sr (wp 2 (bi hr fun y1 a2 hr => wc ent110 hH (aqx a2 (hG.hp0 hH)) fun w3 a3 => ?_)))));refine wp 1 (nq (ct ?_));obtain rfl := oi hr;exact rv a3.kp
theorem K_L_lexis_piece {fu : Nat} {a1 : Str} {a2 : Int} {a0 : Int} {w : World} {r : (Int × Str)} (hr : anm fu a1 a2 a0 = some r) (hG : Gl w) : CR prog 227 [(str a1), (Vi .i64 a2), (Vi .i64 a0)] w fun v w' => v = (zai #[(Vi .i64 r.1), (str r.2)]) /\ Hp w [] [] w' := by
 have hH := Hp.refl w;refine enter (k := 20) func227 rfl rfl nbe ?_;unfold anm at hr;refine sr (aco hH (Zz31) 168 (fun b => (Vp (some ⟨b, 0, none⟩))) rfl rfl krf fun b1 w2 a3 => nq (sr (wp 2 (bi hr fun y4 a6 hr => wc ent47 a3 (arq a6 (hG.hp0 a3)) fun w6 a7 => ?_))));refine wp 1 (w_min .i64 y4 a0 krf krf (wp 1 (nq (sr (wp 4 (gi hr fun g9 hr => apg a1 .i64 .i64 (min y4 a0) a0 underlying9 krf krf krf g9 ?_))))));refine gi hr fun a8 hr => gi hr fun a9 hr => aat 263 #[] [(str (sub a1 (min y4 a0) a0)), (str ([32, 9] : Str))] _ ent263 krf krf (sh_TrimRight (sub a1 (min y4 a0) a0) ([32, 9] : Str) w6 a8 a9) ?_
 rintro _ b2 ⟨rfl, a4⟩
 have b0 := a7.call a4; clear a4;refine wp 1 (aeu b0 0 b1 0 (Zz31) (Zz34 y4 a0 a1) 168 [blk b1 (Zz34 y4 a0 a1) 168] rfl nbe krf krf rfl krf rfl fun b3 a5 => nq (ct ?_));obtain rfl := oi hr;refine ald _ [(zai #[(Vi .i64 (min y4 a0)), (str (Lib.trimRightS (sub a1 (min y4 a0) a0) ([32, 9] : Str)))])] (zai #[(Vi .i64 (min y4 a0)), (str (Lib.trimRightS (sub a1 (min y4 a0) a0) ([32, 9] : Str)))]) rfl rfl (aag (acp a5 0 b1 168 (Zz34 y4 a0 a1) rfl krf krf krf) ach) rfl ?_;exact ⟨(by first | rfl | (simp; done) | (simp; omega) | exact aae (by rw [zab]; omega)), a5.kp⟩
open List renaming drop -> zak, flatMap -> zap, length_take -> zab, set -> zbd, take -> zaS
theorem ent40:Wk.Enters prog 40:=⟨f40,_,func40,rfl,krf⟩
theorem ent41:Wk.Enters prog 41:=⟨f41,_,func41,rfl,krf⟩
theorem ent42:Wk.Enters prog 42:=⟨f42,_,func42,rfl,krf⟩
theorem ent70:Wk.Enters prog 70:=⟨f70,_,func70,rfl,krf⟩
theorem ent106:Wk.Enters prog 106:=⟨f106,_,func106,rfl,krf⟩
theorem ent108:Wk.Enters prog 108:=⟨f108,_,func108,rfl,krf⟩
theorem ent109:Wk.Enters prog 109:=⟨f109,_,func109,rfl,krf⟩
theorem ent117:Wk.Enters prog 117:=⟨f117,_,func117,rfl,krf⟩
theorem ent172:Wk.Enters prog 172:=⟨f172,_,func172,rfl,krf⟩
theorem ent190:Wk.Enters prog 190:=⟨f190,_,func190,rfl,krf⟩
theorem ent227:Wk.Enters prog 227:=⟨f227,_,func227,rfl,krf⟩
theorem K_L_lexis_Split {fu : Nat} {a3 : Str} {b3 : UInt8} {w : World} {r : ((List (Int × Str)) × Int × UInt8)} (hr : aqc fu a3 b3 = some r) (hG : Gl w) : CR prog 172 [(str a3), (bt b3)] w fun v w' => ∃ (o0 : Option Nat), ∃ (a0 : Option Addr), ∃ (cap0 : Nat), v = (zal #[(Vs a0 r.1.length cap0), (Vi .i64 r.2.1), (bt r.2.2)]) /\ Hp w [] [rwt ads 168 2 o0 a0 cap0 r.1] w' := by
 have hH := Hp.refl w;refine enter (k := 89) func172 rfl rfl nbe ?_;unfold aqc at hr;refine sr (wp 3 (nq (cs (bi hr fun d9 a4 hr => afp hH [0, 1, 4, 5, 6, 27] [(27, (Vb d9))] ?_ ?_))));refine cr (wp 1 (bi a4 fun g9 e0 a4 => wc ent112 hH (aru e0 (hG.hp0 hH)) fun h0 b8 => wb a4 (fun e1 a4 => ?_) (fun e1 a4 => ?_)));refine wp 11 (wl (ql ?_));obtain rfl := oi a4;exact je b8.kp
 refine wp 1 (gy 16 (aar b3 (34 : UInt8) krf krf (wp 1 (wd a4 (fun e2 a4 => ?_) (fun e2 a4 => ?_)))));refine wp 7 (wl (ql ?_));obtain rfl := oi a4;exact je b8.kp
 refine wp 1 (gy 20 (aar b3 (60 : UInt8) krf krf (wp 1 (wd a4 (fun e3 a4 => ?_) (fun e3 a4 => ?_)))));refine wp 3 (wl (ql ?_));obtain rfl := oi a4;exact je b8.kp
 refine wp 1 (gy 24 (aar b3 (62 : UInt8) krf krf (wp 1 (wl (ql ?_)))));obtain rfl := oi a4;exact je b8.kp
 intro h1 G c7;refine cb hr (fun e4 hr => ?_) (fun e4 hr => ?_);refine sr (wp 3 (nq (ct (st ?_))));obtain rfl := oi hr;refine amh (Vs none 0 0) (Vi .i64 (0 : Int)) (bt (2 : UInt8)) rfl krf krf krf ?_;exact ⟨none, none, 0, (by first | rfl | (simp; done) | (simp; omega) | exact aae (by rw [zab]; omega)), (Hp.nilrw c7 ads 168 2 none).kp⟩
 refine ck (qn (sr (wp 1 (nq (sr (wp 1 ?_))))));refine nq (bi hr fun c8 e5 hr => cut (σ := ((List (Int × Str)) × Int) × (Option Nat) × (Option Addr) × Nat) [0, 4, 5, 6, 7, 8] (fun ⟨a8, b9, b6, b7⟩ => [(7, (Vs b6 a8.1.length b7)), (8, (Vi .i64 a8.2))]) (fun ⟨a8, b9, b6, b7⟩ w' => Hp w [] [rwt ads 168 2 b9 b6 b7 a8.1] w' /\ .inl a8 = c8) ?_ ?_);refine sr (wp 1 (nq (ce (lpG (σ := Nat × (List (Int × Str)) × Int × Int × (Option Nat) × (Option Addr) × Nat) [0, 1, 4, 5, 6, 7, 8, 9] (fun ⟨a9, a5, b0, a2, b1, a6, a7⟩ => [(7, (Vs a6 a5.length a7)), (8, (Vi .i64 b0)), (9, (Vi .i64 a2))]) (fun ⟨a9, a5, b0, a2, b1, a6, a7⟩ w' => Hp w [] [rwt ads 168 2 b1 a6 a7 a5] w' /\ ahn fu a3 b3 a9 a5 b0 a2 = some c8) (fun ⟨a9, a5, b0, a2, b1, a6, a7⟩ => a9) (fu, ([] : List (Int × Str)), (0 : Int), (0 : Int), none, none, 0) (by exact ⟨(Hp.nilrw c7 ads 168 2 none).kp, e5⟩) ?_ (mc krf (mc krf (mc krf (mc krf (mc krf (mc (Eq.trans (b := (Vs none 0 0)) krf (aae lsy)) (mc krf (mc krf rfl))))))))))));rintro ⟨_ | a9, a5, b0, a2, b1, a6, a7⟩ e6 G ⟨b2, a1⟩
 · exact nzz a1
 rw [alm, agl] at a1;refine cs (sr (wp 4 (nq (cd a1 (fun e7 a1 => ?_) (fun e7 a1 => ?_)))));refine ck (qn (ce (sr (wp 2 (gi a1 fun e8 a1 => aaq a3 .i64 a2 underlying9 krf krf e8 (nq ?_))))));refine ce (sr (aar (at_ a3 a2) (34 : UInt8) krf krf (wp 1 (nq (cd a1 (fun e9 a1 => ?_) (fun e9 a1 => ?_))))));refine sr (wp 2 (bi a1 fun c0 f0 a1 => wc ent190 b2 (atz f0 (hG.hp0 b2)) fun h2 c9 => wp 7 (nq (cs (cs ?_)))));refine cr (wp 1 (ahe c0.2.2 (0 : UInt8) krf krf (nq (cn a1 (fun f1 a1 => ?_) (fun f1 a1 => ?_)))));refine sr (wp 5 (nq (ct (st (bt_ (bt_ (aau ?_)))))));refine bt_ (aau ?_);obtain rfl := oi a1;obtain rfl := oi hr;refine amh (Vs none 0 0) (Vi .i64 c0.2.1) (bt c0.2.2) rfl krf krf krf ?_;exact ⟨none, none, 0, (by first | rfl | (simp; done) | (simp; omega) | exact aae (by rw [zab]; omega)), (Hp.nilrw c9 ads 168 2 none).kp⟩
 refine ck (qn (cr (wp 2 (wl (bn (bn (ql ?_)))))));exact ⟨(a9, a5, b0, c0.2.1, b1, a6, a7), _, rfl, by kernel_rfl, ⟨c9.kp, a1⟩, zad _⟩
 refine sr (aar (at_ a3 a2) (60 : UInt8) krf krf (wp 1 (nq (cd a1 (fun f2 a1 => ?_) (fun f2 a1 => ?_)))));refine sr (wp 2 (gi a1 fun f3 a1 => afq a3 .i64 a2 underlying9 krf krf f3 (aat 72 #[] [(str (zak (zaf a2) a3)), (bt (62 : UInt8))] _ ent72 krf krf (ast (zak (zaf a2) a3) (62 : UInt8) e6) ?_)));rintro _ h3 ⟨rfl, d0⟩
 have d1 := b2.call d0; clear d0;refine wp 1 (nq (cs (sr (wp 2 (nq (cd a1 (fun f4 a1 => ?_) (fun f4 a1 => ?_)))))));refine sr (wp 5 (nq (ct (st (bt_ (bt_ (aau ?_)))))));refine bt_ (aau ?_);obtain rfl := oi a1;obtain rfl := oi hr;refine amh (Vs none 0 0) (Vi .i64 (a3.length : Int)) (bt (6 : UInt8)) rfl krf krf krf ?_;exact ⟨none, none, 0, (by first | rfl | (simp; done) | (simp; omega) | exact aae (by rw [zab]; omega)), (Hp.nilrw d1 ads 168 2 none).kp⟩
 refine ck (qn (cr (wp 2 (gi a1 fun f5 a1 => aah (ixb (· == (62 : UInt8)) (zak (zaf a2) a3)) (1 : Int) krf krf f5 (gi a1 fun f6 a1 => aah a2 ((ixb (· == (62 : UInt8)) (zak (zaf a2) a3)) + (1 : Int)) krf krf f6 (wp 1 (wl ?_)))))));refine bn (bn (ql ?_));exact ⟨(a9, a5, b0, a2 + ((ixb (· == (62 : UInt8)) (zak (zaf a2) a3)) + (1 : Int)), b1, a6, a7), _, rfl, by kernel_rfl, ⟨d1.kp, a1⟩, zad _⟩
 refine sr (aar (at_ a3 a2) (62 : UInt8) krf krf (wp 1 (nq (cd a1 (fun f7 a1 => ?_) (fun f7 a1 => ?_)))));refine sr (wp 4 (nq (ct (bt_ (bt_ (aau (bt_ ?_)))))));refine aau ?_;obtain rfl := oi a1;obtain rfl := oi hr;refine amh (Vs none 0 0) (Vi .i64 a2) (bt (5 : UInt8)) rfl krf krf krf ?_;exact ⟨none, none, 0, (by first | rfl | (simp; done) | (simp; omega) | exact aae (by rw [zab]; omega)), (Hp.nilrw b2 ads 168 2 none).kp⟩
 refine sr (wp 1 (aar (at_ a3 a2) b3 krf krf (wp 1 (nq (cd a1 (fun f8 a1 => ?_) (fun f8 a1 => ?_))))));refine sr (wp 4 (bi a1 fun b4 f9 a1 => wc ent227 b2 (K_L_lexis_piece f9 (hG.hp0 b2)) fun h4 g0 => aco g0 [(Vi .i64 b4.1), (str b4.2)] 168 (fun b => (Vs (some ⟨b, 0, none⟩) 1 1)) rfl rfl krf fun c1 h5 d2 => gi a1 fun g1 a1 => aeh d2 1 b1 a6 (some ⟨c1, 0, none⟩) a7 1 168 2 24 a5 ([b4] : List (Int × Str)) ajg rfl underlying164 (by unfold TI; kernel_rfl) (by decide) (by decide) krf (Eq.trans (b := (Vs (some ⟨c1, 0, none⟩) 1 1)) krf (aae (by first | rfl | (simp; done) | omega | (simp; omega) | (rw [zab]; omega)))) (d2.rdblk 0 rfl) g1 fun d3 d4 d5 g2 c2 => ?_));replace c2 : Hp w [] [blk c1 [(Vi .i64 b4.1), (str b4.2)] 168, rwt ads 168 2 d3 d4 d5 (a5 ++ ([b4] : List (Int × Str)))] g2 := c2;refine wp 1 (nq (sr (wp 1 (gi a1 fun g3 a1 => aah a2 (1 : Int) krf krf g3 (wp 1 (wl ?_))))));refine qn (cr (wp 2 (wl (bn (bn (ql ?_))))));exact ⟨(a9, a5 ++ ([b4] : List (Int × Str)), a2 + (1 : Int), a2 + (1 : Int), d3, d4, d5), _, rfl, by kernel_rfl, ⟨(Hp.front c2 1 _ rfl).kp, a1⟩, zad _⟩
 refine cr (wp 1 (gi a1 fun g4 a1 => aah a2 (1 : Int) krf krf g4 (wp 1 (wl (bn (bn (ql ?_)))))));exact ⟨(a9, a5, b0, a2 + (1 : Int), b1, a6, a7), _, rfl, by kernel_rfl, ⟨b2.kp, a1⟩, zad _⟩
 refine abp (abo (abv (abr (ql ?_))));obtain rfl := oi a1;exact ⟨((a5, b0), b1, a6, a7), _, rfl, by kernel_rfl, b2.kp, rfl⟩
 rintro ⟨a8, b9, b6, b7⟩ h6 G ⟨d6, rfl⟩
 refine sr (wp 5 (bi hr fun b5 g5 hr => wc ent227 d6 (K_L_lexis_piece g5 (hG.hp0 d6)) fun h7 g6 => aco g6 [(Vi .i64 b5.1), (str b5.2)] 168 (fun b => (Vs (some ⟨b, 0, none⟩) 1 1)) rfl rfl krf fun c3 h8 d7 => gi hr fun g7 hr => aeh d7 1 b9 b6 (some ⟨c3, 0, none⟩) b7 1 168 2 24 a8.1 ([b5] : List (Int × Str)) ajg rfl underlying164 (by unfold TI; kernel_rfl) (by decide) (by decide) krf (Eq.trans (b := (Vs (some ⟨c3, 0, none⟩) 1 1)) krf (aae (by first | rfl | (simp; done) | omega | (simp; omega) | (rw [zab]; omega)))) (d7.rdblk 0 rfl) g7 fun d8 c4 c5 g8 c6 => ?_));replace c6 : Hp w [] [blk c3 [(Vi .i64 b5.1), (str b5.2)] 168, rwt ads 168 2 d8 c4 c5 (a8.1 ++ ([b5] : List (Int × Str)))] g8 := c6;refine wp 3 (nq (ct ?_));obtain rfl := oi hr;refine amh (Vs c4 ((a8.1 ++ ([b5] : List (Int × Str))).length) c5) (Vi .i64 (0 : Int)) (bt (0 : UInt8)) rfl krf krf krf ?_;exact ⟨d8, c4, c5, (by first | rfl | (simp; done) | (simp; omega) | exact aae (by rw [zab]; omega)), (Hp.front c6 1 _ rfl).kp⟩
theorem K_L_header_List {fu : Nat} {b6 : Str} {w : World} {r : ((List Str) × UInt8)} (hr : aqe fu b6 = some r) (hG : Gl w) : CR prog 108 [(str b6)] w fun v w' => ∃ (o0 : Option Nat), ∃ (a0 : Option Addr), ∃ (cap0 : Nat), v = (zal #[(Vs a0 r.1.length cap0), (bt r.2)]) /\ Hp w [] [rwt eS 9 1 o0 a0 cap0 r.1] w' := by
 have hH := Hp.refl w;refine enter (k := 35) func108 rfl rfl nbe ?_;unfold aqe at hr;refine sr (wp 2 (nq (sr (wp 1 (bi hr fun y1 c6 hr => aat 172 #[] [(str b6), (bt (44 : UInt8))] _ ent172 krf krf (K_L_lexis_Split c6 (hG.hp0 hH)) ?_)))));rintro _ w3 ⟨o6, a7, cap8, rfl, b9⟩
 have c0 : Hp w [] [rwt ads 168 2 o6 a7 cap8 y1.1] w3 := Hp.callK (L1 := []) (L2 := []) hH b9; clear b9;refine wp 7 (nq (cs (sr (wp 1 (ahe y1.2.2 (0 : UInt8) krf krf (nq (cn hr (fun h9 hr => ?_) (fun h9 hr => ?_))))))));refine sr (wp 3 (nq (ct (st ?_))));obtain rfl := oi hr;refine r_two (Vs none 0 0) (bt y1.2.2) rfl krf krf ?_;exact ⟨none, none, 0, (by first | rfl | (simp; done) | (simp; omega) | exact aae (by rw [zab]; omega)), (Hp.nilrw c0 eS 9 1 none).kp⟩
 refine ck (qn (sr (wp 1 (nq (bi hr fun c1 c7 hr => cut (σ := (List Str) × (Option Nat) × (Option Addr) × Nat) [2, 3, 7] (fun ⟨a8, b3, a9, b0⟩ => [(7, (Vs a9 a8.length b0))]) (fun ⟨a8, b3, a9, b0⟩ w' => Hp w [] [rwt eS 9 1 b3 a9 b0 a8] w' /\ .inl a8 = c1) ?_ ?_)))));refine sr (wp 3 (nq (ce (lpG (σ := Nat × (List Str) × Int × (Option Nat) × (Option Addr) × Nat) [2, 3, 7, 19, 20, 21] (fun ⟨b1, a3, a1, a6, a4, a5⟩ => [(7, (Vs a4 a3.length a5)), (21, (Vi .i64 a1))]) (fun ⟨b1, a3, a1, a6, a4, a5⟩ w' => Hp w [] [rwt ads 168 2 o6 a7 cap8 y1.1, rwt eS 9 1 a6 a4 a5 a3] w' /\ aho fu y1 b1 a3 a1 = some c1) (fun ⟨b1, a3, a1, a6, a4, a5⟩ => b1) (fu, ([] : List Str), (0 : Int), none, none, 0) (by exact ⟨(Hp.front (Hp.nilrw c0 eS 9 1 none) 1 _ rfl).kp, c7⟩) ?_ (mc krf (mc krf (mc (Eq.trans (b := (Vs none 0 0)) krf (aae lsy)) (mc krf (mc krf (mc krf rfl))))))))));rintro ⟨_ | b1, a3, a1, a6, a4, a5⟩ d7 G ⟨b4, a2⟩
 · exact nzz a2
 rw [aot, ajc] at a2;refine sr (wp 1 (nq (cs (cd a2 (fun c8 a2 => ?_) (fun c8 a2 => ?_)))));refine ck (qn (cs (ce (sr (gi a2 fun c9 a2 => aey a7 y1.1.length cap8 168 2 .i64 a1 underlying164 krf krf krf y1.1 rfl c9 (b4.rdrw 0 rfl) ajg (by decide) (gi a2 fun d0 a2 => w_ldE a7 ads y1.1 2 a1 ajg (b4.rdrw 0 rfl) [(Vi .i64 ((el y1.1 a1).1)), (str ((el y1.1 a1).2))] d0 krf krf krf krf (by decide) ?_))))));refine aco b4 (Zz31) 168 (fun b => (Vp (some ⟨b, 0, none⟩))) rfl rfl krf fun b2 d8 d1 => aeu d1 0 b2 0 (Zz31) [(Vi .i64 ((el y1.1 a1).1)), (str ((el y1.1 a1).2))] 168 [blk b2 [(Vi .i64 ((el y1.1 a1).1)), (str ((el y1.1 a1).2))] 168, rwt ads 168 2 o6 a7 cap8 y1.1, rwt eS 9 1 a6 a4 a5 a3] rfl nbe krf krf rfl krf rfl fun d9 b5 => nq (cs (sr (wp 1 (acw b5 0 b2 1 [(Vi .i64 ((el y1.1 a1).1)), (str ((el y1.1 a1).2))] 168 (str ((el y1.1 a1).2)) rfl rfl krf krf (wp 1 ?_)))))
 refine nq (cd a2 (fun d2 a2 => ?_) (fun d2 a2 => ?_));refine sr (wp 2 (nq (ct (st (bt_ (st (aau ?_)))))));refine bt_ (aau ?_);obtain rfl := oi a2;obtain rfl := oi hr;refine r_two (Vs none 0 0) (bt (5 : UInt8)) rfl krf krf ?_;exact ⟨none, none, 0, (by first | rfl | (simp; done) | (simp; omega) | exact aae (by rw [zab]; omega)), (Hp.nilrw b5 eS 9 1 none).kp⟩
 refine ck (qn (cr (wp 2 (acw b5 0 b2 1 [(Vi .i64 ((el y1.1 a1).1)), (str ((el y1.1 a1).2))] 168 (str ((el y1.1 a1).2)) rfl rfl krf krf (aco b5 [(str ((el y1.1 a1).2))] 9 (fun b => (Vs (some ⟨b, 0, none⟩) 1 1)) rfl rfl krf fun b7 e0 c2 => gi a2 fun d3 a2 => aeh c2 3 a6 a4 (some ⟨b7, 0, none⟩) a5 1 9 1 16 a3 ([(el y1.1 a1).2] : List Str) ahr rfl underlying37 (by unfold TI; kernel_rfl) (by decide) (by decide) krf (Eq.trans (b := (Vs (some ⟨b7, 0, none⟩) 1 1)) krf (aae (by first | rfl | (simp; done) | omega | (simp; omega) | (rw [zab]; omega)))) (c2.rdblk 0 rfl) d3 fun c3 c4 c5 d4 b8 => ?_)))));replace b8 : Hp w [] [blk b7 [(str ((el y1.1 a1).2))] 9, blk b2 [(Vi .i64 ((el y1.1 a1).1)), (str ((el y1.1 a1).2))] 168, rwt ads 168 2 o6 a7 cap8 y1.1, rwt eS 9 1 c3 c4 c5 (a3 ++ ([(el y1.1 a1).2] : List Str))] d4 := b8;refine wp 1 (wl (bn (qn (cr (gi a2 fun d5 a2 => aah a1 (1 : Int) krf krf d5 (wp 1 (wl (ql ?_))))))));exact ⟨(b1, a3 ++ ([(el y1.1 a1).2] : List Str), a1 + (1 : Int), c3, c4, c5), _, rfl, by kernel_rfl, ⟨(Hp.front (Hp.front b8 3 _ rfl) 3 _ rfl).kp, a2⟩, zad _⟩
 refine abp (abo (abv (abr (ql ?_))));obtain rfl := oi a2;exact ⟨(a3, a6, a4, a5), _, rfl, by kernel_rfl, (Hp.front b4 1 _ rfl).kp, rfl⟩
 rintro ⟨a8, b3, a9, b0⟩ e1 G ⟨d6, rfl⟩
 refine sr (wp 3 (nq (ct ?_)));obtain rfl := oi hr;refine r_two (Vs a9 a8.length b0) (bt (0 : UInt8)) rfl krf krf ?_;exact ⟨b3, a9, b0, (by first | rfl | (simp; done) | (simp; omega) | exact aae (by rw [zab]; omega)), d6.kp⟩
theorem art {fu : Nat} {a1 : Str} {w : World} {r : List Str} (hr : agj fu a1 = some r) (hG : Gl w) : CR prog 42 [(str a1)] w fun v w' => ∃ (o0 : Option Nat), ∃ (a0 : Option Addr), ∃ (cap0 : Nat), v = (Vs a0 r.length cap0) /\ Hp w [] [rwt eS 9 1 o0 a0 cap0 r] w' := by
 have hH := Hp.refl w;refine enter (k := 15) func42 rfl rfl nbe ?_;unfold agj at hr;refine sr (wp 1 (nq (cs (sr (wp 1 (bi hr fun y1 a5 hr => ?_))))));refine aat 108 #[] [(str a1)] _ ent108 krf krf (K_L_header_List a5 (hG.hp0 hH)) ?_;rintro _ w3 ⟨o6, a7, cap8, rfl, a3⟩
 have a4 : Hp w [] [rwt eS 9 1 o6 a7 cap8 y1.1] w3 := Hp.callK (L1 := []) (L2 := []) hH a3; clear a3;refine wp 5 (nq (sr (wp 1 (aar y1.2 (0 : UInt8) krf krf (nq (cd hr (fun h9 hr => ?_) (fun h9 hr => ?_)))))));refine sr (wp 2 (nq (ct (st ?_))));obtain rfl := oi hr;refine aqj (Vs a7 y1.1.length cap8) rfl krf ?_;exact ⟨o6, a7, cap8, (by first | rfl | (simp; done) | (simp; omega) | exact aae (by rw [zab]; omega)), a4.kp⟩
 refine ck (qn (sr (wp 1 (aco a4 [(str a1)] 9 (fun b => (Vs (some ⟨b, 0, none⟩) 1 1)) rfl rfl krf fun a2 a8 a6 => wp 1 (nq (ct ?_))))));obtain rfl := oi hr;refine aqj (Vs (some ⟨a2, 0, none⟩) 1 1) rfl krf ?_;exact ⟨(some a2), (some ⟨a2, 0, none⟩), 1, (by first | rfl | (simp; done) | (simp; omega) | exact aae (by rw [zab]; omega)), (Hp.blkrw a6 0 1 1 ([a1] : List Str) rfl ahr rfl rfl (by decide)).kp⟩
theorem K_L_message_All {fu : Nat} {m_0 : (Str × Str × Int × Str × (List (Str × Str)) × (List UInt8))} {c4 : Str} (a9 : Option Addr) (c5 : Nat) (b0 : Nat) (b3 : Option Addr) (c6 : Nat) (b4 : Nat) {w : World} {r : List Str} (hr : anl fu m_0 c4 = some r) (hG : Gl w) (f1 : c5 = m_0.2.2.2.2.1.length) (d2 : Rd w a9 (zap aad m_0.2.2.2.2.1)) (h6 : c5 <= b0) (f2 : c6 = m_0.2.2.2.2.2.length) (h7 : Rd w b3 (zap eB m_0.2.2.2.2.2)) (h8 : c6 <= b4) : CR prog 14 [(zai #[(str m_0.1), (str m_0.2.1), (Vi .i64 m_0.2.2.1), (str m_0.2.2.2.1), (Vs a9 c5 b0), (Vs b3 c6 b4)]), (str c4)] w fun v w' => ∃ (o0 : Option Nat), ∃ (a0 : Option Addr), ∃ (cap0 : Nat), v = (Vs a0 r.length cap0) /\ Hp w [] [rwt eS 9 1 o0 a0 cap0 r] w' := by
 subst f1;subst f2;have hH := Hp.refl w;refine enter (k := 40) func14 rfl rfl nbe ?_;unfold anl at hr;refine sr (aco hH (Zz1 m_0.1 m_0.2.1 m_0.2.2.1 m_0.2.2.2.1 a9 m_0.2.2.2.2.1.length b0 b3 m_0.2.2.2.2.2.length b4) 25 (fun b => (Vp (some ⟨b, 0, none⟩))) rfl rfl krf fun b1 w2 d3 => wp 1 (nq (sr (wp 1 (bi hr fun y4 f3 hr => ?_)))));refine aat 40 #[] [(str c4)] _ ent40 krf krf (aty f3 (hG.hp0 d3)) ?_;rintro _ w6 ⟨b9, a7, rfl, d4⟩
 have d5 : Hp w [] [blk b9 [(bt y4.1)] 28, blk a7 [(str y4.2)] 9, blk b1 (Zz1 m_0.1 m_0.2.1 m_0.2.2.1 m_0.2.2.2.1 a9 m_0.2.2.2.2.1.length b0 b3 m_0.2.2.2.2.2.length b4) 25] w6 := Hp.callK (L1 := []) (L2 := [blk b1 (Zz1 m_0.1 m_0.2.1 m_0.2.2.1 m_0.2.2.2.1 a9 m_0.2.2.2.2.1.length b0 b3 m_0.2.2.2.2.2.length b4) 25]) d3 d4; clear d4;refine wp 1 (bi hr fun f4 f5 hr => wc ent41 d5 (K_L_header_Many f5 (hG.hp0 d5)) fun h9 d6 => wp 2 (nq (sr (wp 1 (wl ?_)))));refine qn (bi hr fun d7 f6 hr => cut (σ := (List Str) × (Option Nat) × (Option Addr) × Nat) [4, 7] (fun ⟨b5, c1, b6, b7⟩ => [(7, (Vs b6 b5.length b7))]) (fun ⟨b5, c1, b6, b7⟩ w' => Hp w [] [rwt eS 9 1 c1 b6 b7 b5] w' /\ b5 = d7) ?_ ?_);refine sr (wp 1 (acw d6 2 b1 4 (Zz1 m_0.1 m_0.2.1 m_0.2.2.1 m_0.2.2.2.1 a9 m_0.2.2.2.2.1.length b0 b3 m_0.2.2.2.2.2.length b4) 25 (Vs a9 m_0.2.2.2.2.1.length b0) rfl rfl krf krf (wp 2 (nq (ce (lpG (σ := Nat × (List Str) × Int × (Option Nat) × (Option Addr) × Nat) [4, 5, 6, 7, 15, 16, 17] (fun ⟨b2, a3, a1, a6, a4, a5⟩ => [(7, (Vs a4 a3.length a5)), (17, (Vi .i64 a1))]) (fun ⟨b2, a3, a1, a6, a4, a5⟩ w' => Hp w [] [blk b9 [(bt y4.1)] 28, blk a7 [(str y4.2)] 9, rwt eS 9 1 a6 a4 a5 a3] w' /\ afj fu m_0 y4 f4 b2 a3 a1 = some d7) (fun ⟨b2, a3, a1, a6, a4, a5⟩ => b2) (fu, ([] : List Str), (0 : Int), none, none, 0) (by exact ⟨(Hp.front (Hp.front (Hp.nilrw d6 eS 9 1 none) 2 _ rfl) 2 _ rfl).kp, f6⟩) ?_ (mc krf (mc krf (mc krf (mc (Eq.trans (b := (Vs none 0 0)) krf (aae lsy)) (mc krf (mc krf (mc krf rfl)))))))))))));rintro ⟨_ | b2, a3, a1, a6, a4, a5⟩ i0 G ⟨c2, a2⟩
 · exact nzz a2
 rw [aor, aix] at a2;refine sr (wp 1 (nq (cs (cd a2 (fun f7 a2 => ?_) (fun f7 a2 => ?_)))));refine ck (qn (cs (ce (sr (gi a2 fun f8 a2 => aey a9 m_0.2.2.2.2.1.length b0 34 2 .i64 a1 underlying22 krf krf krf m_0.2.2.2.2.1 rfl f8 (d2.hp c2) aai (by decide) (gi a2 fun f9 a2 => w_ldE a9 aad m_0.2.2.2.2.1 2 a1 aai (d2.hp c2) [(str ((el m_0.2.2.2.2.1 a1).1)), (str ((el m_0.2.2.2.2.1 a1).2))] f9 krf krf krf krf (by decide) ?_))))));refine aco c2 (Zz51) 34 (fun b => (Vp (some ⟨b, 0, none⟩))) rfl rfl krf fun a8 i1 g0 => aeu g0 0 a8 0 (Zz51) [(str ((el m_0.2.2.2.2.1 a1).1)), (str ((el m_0.2.2.2.2.1 a1).2))] 34 [blk a8 [(str ((el m_0.2.2.2.2.1 a1).1)), (str ((el m_0.2.2.2.2.1 a1).2))] 34, blk b9 [(bt y4.1)] 28, blk a7 [(str y4.2)] 9, rwt eS 9 1 a6 a4 a5 a3] rfl nbe krf krf rfl krf rfl fun d8 d9 => nq (ce (sr (wp 1 (ang d9 0 a8 0 2 [(str ((el m_0.2.2.2.2.1 a1).1)), (str ((el m_0.2.2.2.2.1 a1).2))] [(str ((el m_0.2.2.2.2.1 a1).1)), (str ((el m_0.2.2.2.2.1 a1).2))] 34 rfl rfl rfl krf krf krf (bi a2 fun i2 g1 a2 => ?_)))))
 have g2 : Hp w [] [blk a7 [(str y4.2)] 9, blk a8 [(str ((el m_0.2.2.2.2.1 a1).1)), (str ((el m_0.2.2.2.2.1 a1).2))] 34, blk b9 [(bt y4.1)] 28, rwt eS 9 1 a6 a4 a5 a3] d8 := d9.front 2 _ rfl;have c3 : Hp w [] [blk b9 [(bt y4.1)] 28, blk a7 [(str y4.2)] 9, blk a8 [(str ((el m_0.2.2.2.2.1 a1).1)), (str ((el m_0.2.2.2.2.1 a1).2))] 34, rwt eS 9 1 a6 a4 a5 a3] d8 := g2.front 2 _ rfl;refine aat 106 #[(Vp (some ⟨b9, 0, none⟩)), (Vp (some ⟨a7, 0, none⟩))] [(zai #[(str ((el m_0.2.2.2.2.1 a1).1)), (str ((el m_0.2.2.2.2.1 a1).2))]), (Vp (some ⟨b9, 0, none⟩)), (Vp (some ⟨a7, 0, none⟩))] _ ent106 krf krf (asm b9 a7 g1 (hG.hp0 c3) (c3.hand (L1 := (Zz19 b9 y4.1 a7 y4.2)) (L2 := [blk a8 [(str ((el m_0.2.2.2.2.1 a1).1)), (str ((el m_0.2.2.2.2.1 a1).2))] 34, rwt eS 9 1 a6 a4 a5 a3])) (c3.highs hG (fun _ h => absurd h (by simp)) 2 rfl)) ?_;rintro _ g3 ⟨rfl, e0⟩
 have b8 : Hp w [] [blk b9 [(bt y4.1)] 28, blk a7 [(str y4.2)] 9, blk a8 [(str ((el m_0.2.2.2.2.1 a1).1)), (str ((el m_0.2.2.2.2.1 a1).2))] 34, rwt eS 9 1 a6 a4 a5 a3] g3 := Hp.callK (L1 := (Zz19 b9 y4.1 a7 y4.2)) (L2 := [blk a8 [(str ((el m_0.2.2.2.2.1 a1).1)), (str ((el m_0.2.2.2.2.1 a1).2))] 34, rwt eS 9 1 a6 a4 a5 a3]) c3 e0; clear e0;refine wp 2 (nq (cb a2 (fun g4 a2 => ?_) (fun g4 a2 => ?_)));refine ck (bn (bn (qn (cr (gi a2 fun g5 a2 => aah a1 (1 : Int) krf krf g5 (wp 1 (wl (ql ?_))))))));exact ⟨(b2, a3, a1 + (1 : Int), a6, a4, a5), _, rfl, by kernel_rfl, ⟨(Hp.front (Hp.front (Hp.front b8 3 _ rfl) 2 _ rfl) 2 _ rfl).kp, a2⟩, zad _⟩
 refine sr (wp 2 (nq (cb a2 (fun g6 a2 => ?_) (fun g6 a2 => ?_))));refine cr (wp 2 (acw b8 2 a8 1 [(str ((el m_0.2.2.2.2.1 a1).1)), (str ((el m_0.2.2.2.2.1 a1).2))] 34 (str ((el m_0.2.2.2.2.1 a1).2)) rfl rfl krf krf (bi a2 fun c0 g7 a2 => aat 42 #[] [(str ((el m_0.2.2.2.2.1 a1).2))] _ ent42 krf krf (art g7 (hG.hp0 b8)) ?_)));rintro _ g8 ⟨e1, c7, c8, rfl, e2⟩
 have e3 : Hp w [] [rwt eS 9 1 e1 c7 c8 c0, blk b9 [(bt y4.1)] 28, blk a7 [(str y4.2)] 9, blk a8 [(str ((el m_0.2.2.2.2.1 a1).1)), (str ((el m_0.2.2.2.2.1 a1).2))] 34, rwt eS 9 1 a6 a4 a5 a3] g8 := Hp.callK (L1 := []) (L2 := [blk b9 [(bt y4.1)] 28, blk a7 [(str y4.2)] 9, blk a8 [(str ((el m_0.2.2.2.2.1 a1).1)), (str ((el m_0.2.2.2.2.1 a1).2))] 34, rwt eS 9 1 a6 a4 a5 a3]) b8 e2; clear e2;refine gi a2 fun g9 a2 => aeh e3 4 a6 a4 c7 a5 c8 9 1 16 a3 c0 ahr rfl underlying37 (by unfold TI; kernel_rfl) (by decide) (by decide) krf krf (e3.rdrw 0 rfl) g9 fun e4 e5 e6 h0 c9 => ?_
 replace c9 : Hp w [] [rwt eS 9 1 e1 c7 c8 c0, blk b9 [(bt y4.1)] 28, blk a7 [(str y4.2)] 9, blk a8 [(str ((el m_0.2.2.2.2.1 a1).1)), (str ((el m_0.2.2.2.2.1 a1).2))] 34, rwt eS 9 1 e4 e5 e6 (a3 ++ c0)] h0 := c9;refine wp 1 (wl (bn (bn (qn (cr (gi a2 fun h1 a2 => aah a1 (1 : Int) krf krf h1 (wp 1 (wl ?_))))))));refine ql ?_;exact ⟨(b2, a3 ++ c0, a1 + (1 : Int), e4, e5, e6), _, rfl, by kernel_rfl, ⟨(Hp.front (Hp.front (Hp.front c9 4 _ rfl) 3 _ rfl) 3 _ rfl).kp, a2⟩, zad _⟩
 refine cr (wp 2 (acw b8 2 a8 1 [(str ((el m_0.2.2.2.2.1 a1).1)), (str ((el m_0.2.2.2.2.1 a1).2))] 34 (str ((el m_0.2.2.2.2.1 a1).2)) rfl rfl krf krf (aco b8 [(str ((el m_0.2.2.2.2.1 a1).2))] 9 (fun b => (Vs (some ⟨b, 0, none⟩) 1 1)) rfl rfl krf fun d0 i3 e7 => gi a2 fun h2 a2 => aeh e7 4 a6 a4 (some ⟨d0, 0, none⟩) a5 1 9 1 16 a3 ([(el m_0.2.2.2.2.1 a1).2] : List Str) ahr rfl underlying37 (by unfold TI; kernel_rfl) (by decide) (by decide) krf (Eq.trans (b := (Vs (some ⟨d0, 0, none⟩) 1 1)) krf (aae (by first | rfl | (simp; done) | omega | (simp; omega) | (rw [zab]; omega)))) (e7.rdblk 0 rfl) h2 fun e8 e9 f0 h3 d1 => ?_)));replace d1 : Hp w [] [blk d0 [(str ((el m_0.2.2.2.2.1 a1).2))] 9, blk b9 [(bt y4.1)] 28, blk a7 [(str y4.2)] 9, blk a8 [(str ((el m_0.2.2.2.2.1 a1).1)), (str ((el m_0.2.2.2.2.1 a1).2))] 34, rwt eS 9 1 e8 e9 f0 (a3 ++ ([(el m_0.2.2.2.2.1 a1).2] : List Str))] h3 := d1;refine wp 1 (wl (bn (bn (qn (cr (gi a2 fun h4 a2 => aah a1 (1 : Int) krf krf h4 (wp 1 (wl ?_))))))));refine ql ?_;exact ⟨(b2, a3 ++ ([(el m_0.2.2.2.2.1 a1).2] : List Str), a1 + (1 : Int), e8, e9, f0), _, rfl, by kernel_rfl, ⟨(Hp.front (Hp.front (Hp.front d1 4 _ rfl) 3 _ rfl) 3 _ rfl).kp, a2⟩, zad _⟩
 refine abp (abo (abv (abr (ql ?_))));obtain rfl := oi a2;exact ⟨(a3, a6, a4, a5), _, rfl, by kernel_rfl, (Hp.front c2 2 _ rfl).kp, rfl⟩
 rintro ⟨b5, c1, b6, b7⟩ i4 G ⟨h5, rfl⟩
 refine sr (wp 2 (nq (ct ?_)));obtain rfl := oi hr;refine aqj (Vs b6 b5.length b7) rfl krf ?_;exact ⟨c1, b6, b7, (by first | rfl | (simp; done) | (simp; omega) | exact aae (by rw [zab]; omega)), h5.kp⟩
theorem K_L_header_trim {fu : Nat} {a0 : Str} {w : World} {r : Str} (hr : aqd fu a0 = some r) (hG : Gl w) : CR prog 43 [(str a0)] w fun v w' => v = (str r) /\ Hp w [] [] w' := by
 have hH := Hp.refl w;refine enter (k := 5) func43 rfl rfl nbe ?_;unfold aqd at hr;refine sr (wp 1 (nq (sr (wp 1 (gi hr fun g4 hr => gi hr fun g5 hr => ?_)))));refine aat 109 #[] [(str a0), (str ([32, 9] : Str))] _ ent109 krf krf (sh_Trim a0 ([32, 9] : Str) w g4 g5) ?_;rintro _ w1 ⟨rfl, a1⟩
 have a2 := hH.call a1; clear a1;refine wp 1 (nq (ct ?_));obtain rfl := oi hr;exact rv a2.kp
theorem ahg {fu : Nat} {a2 : Str} {w : World} {r : Str} (hr : abb fu a2 = some r) (hG : Gl w) : CR prog 44 [(str a2), (zaW (.func 45) #[] #[])] w fun v w' => v = (str r) /\ Hp w [] [] w' := by
 have hH := Hp.refl w;refine enter (k := 26) func44 rfl rfl nbe ?_;unfold abb at hr;refine sr (wp 1 (nq (sr (wp 1 (asc hH a2 5 underlying9 underlying23 underlying5 krf fun a1 cap2 w3 b3 => wp 1 ?_)))));refine nq (bi hr fun b2 b4 hr => cut (σ := Str) [4, 5] (fun a5 => []) (fun a5 w' => Hp w [] [aua (Vs a1 a2.length cap2) a2.length a5] w' /\ a5 = b2) ?_ ?_);refine sr (wp 3 (nq (ce (lpG (σ := Nat × Str × Int) [1, 4, 5, 10, 11, 12] (fun ⟨a6, a4, a3⟩ => [(12, (Vi .i64 a3))]) (fun ⟨a6, a4, a3⟩ w' => Hp w [] [aua (Vs a1 a2.length cap2) a2.length a4] w' /\ abh fu a2 a6 a4 a3 = some b2) (fun ⟨a6, a4, a3⟩ => a6) (fu, a2, (0 : Int)) (by exact ⟨b3.kp, b4⟩) ?_))));rintro ⟨_ | a6, a4, a3⟩ c4 G ⟨a7, a0⟩
 · exact nzz a0
 rw [adc, abd] at a0;refine sr (wp 1 (nq (cs (cd a0 (fun b5 a0 => ?_) (fun b5 a0 => ?_)))));refine ck (qn (cs (ce (sr (wp 1 (gi a0 fun b6 a0 => aey a1 a2.length cap2 5 1 .i64 a3 underlying23 krf krf krf a4 (a7.browlen 0 rfl).symm b6 (Rd.ofbytes (a7.rdbrow 0 rfl)) aih (by decide) (gi a0 fun b7 a0 => ?_)))))));refine ahq a1 eB a4 1 a3 aih (Rd.ofbytes (a7.rdbrow 0 rfl)) (bt (at_ a4 a3)) b7 (by decide) krf krf krf (wp 2 (nq (cr (wp 4 (bi a0 fun a8 b8 a0 => wc ent45 a7 (arv b8 (hG.hp0 a7)) fun c5 a9 => gi a0 fun b9 a0 => aey a1 a2.length cap2 5 1 .i64 a3 underlying23 krf krf krf a4 (a9.browlen 0 rfl).symm b9 (Rd.ofbytes (a9.rdbrow 0 rfl)) aih (by decide) ?_)))));refine gi a0 fun c0 a0 => w_stB a9 0 a1 a2.length cap2 a3 a4 a8 rfl c0 krf krf krf fun c1 b0 => ?_
 replace b0 : Hp w [] [aua (Vs a1 a2.length cap2) a2.length (zbd a4 (zaf a3) a8)] c1 := b0;refine wl (bn (qn (cr (gi a0 fun c2 a0 => aah a3 (1 : Int) krf krf c2 (wp 1 (wl (ql ?_)))))));exact ⟨(a6, zbd a4 (zaf a3) a8, a3 + (1 : Int)), _, rfl, by kernel_rfl, ⟨b0.kp, a0⟩, zad _⟩
 refine abp (abo (abv (abr (ql ?_))));obtain rfl := oi a0;exact ⟨a4, _, rfl, by kernel_rfl, a7.kp, rfl⟩
 rintro a5 c3 G ⟨b1, rfl⟩
 refine sr (wp 1 (acn (v := (str a5)) (w' := c3) rfl rfl (aqn a5 a1 a2.length cap2 5 (Rd.bytes (Rd.ofbytes (b1.rdbrow 0 rfl))) (b1.browlen 0 rfl) underlying23 underlying9 underlying5 krf) (wp 1 (nq (ct ?_)))));obtain rfl := oi hr;exact rv b1.kp
theorem K_L_header_cutPort {fu : Nat} {a0 : Str} {w : World} {r : PQ} (hr : aly fu a0 = some r) (hG : Gl w) : CR prog 49 [(str a0)] w fun v w' => v = (zal #[(str r.1), (str r.2.1), (Vb r.2.2)]) /\ Hp w [] [] w' := by
 have hH := Hp.refl w;refine enter (k := 30) func49 rfl rfl nbe ?_;unfold aly at hr;refine sr (wp 3 (nq (sr (wp 1 (gi hr fun g4 hr => aat 70 #[] [(str a0), (bt (58 : UInt8))] _ ent70 krf krf (sh_LastIndexByte a0 (58 : UInt8) w g4) ?_)))));rintro _ w1 ⟨rfl, a4⟩
 have a2 := hH.call a4; clear a4;refine wp 1 (nq (cs (bi hr fun a8 a1 hr => afp a2 [0, 2, 3, 4, 5, 21] [(21, (Vb a8))] ?_ ?_)));refine cr (wp 2 (wd a1 (fun a9 a1 => ?_) (fun a9 a1 => ?_)));refine wp 11 (wl (ql ?_));obtain rfl := oi a1;exact je a2.kp
 refine wp 2 (gy 10 (gi a1 fun b0 a1 => arx a0 .i64 (api (· == (58 : UInt8)) a0) underlying9 krf krf b0 (gy 10 (gi a1 fun b1 a1 => aat 117 #[] [(str (zaS (zaf (api (· == (58 : UInt8)) a0)) a0)), (str ([91] : Str))] _ ent117 krf krf (sh_Contains (zaS (zaf (api (· == (58 : UInt8)) a0)) a0) ([91] : Str) w1 b1 (hG.hp0 a2)) ?_))));rintro _ b2 ⟨rfl, a5⟩
 have a3 := a2.call a5; clear a5;refine gy 10 (wb a1 (fun b3 a1 => ?_) (fun b3 a1 => ?_));refine wp 2 (gy 15 (gi a1 fun b4 a1 => afq a0 .i64 (api (· == (58 : UInt8)) a0) underlying9 krf krf b4 (gy 15 (gi a1 fun b5 a1 => aat 117 #[] [(str (zak (zaf (api (· == (58 : UInt8)) a0)) a0)), (str ([93] : Str))] _ ent117 krf krf (sh_Contains (zak (zaf (api (· == (58 : UInt8)) a0)) a0) ([93] : Str) b2 b5 (hG.hp0 a3)) ?_))));rintro _ c2 ⟨rfl, a6⟩
 have b6 := a3.call a6; clear a6;refine wp 2 (wl (ql ?_));obtain rfl := oi a1;exact je b6.kp
 refine wp 6 (wl (ql ?_));obtain rfl := oi a1;exact je a3.kp
 intro c3 G a7;refine cb hr (fun b7 hr => ?_) (fun b7 hr => ?_);refine sr (wp 4 (nq (ct (st ?_))));obtain rfl := oi hr;exact rv a7.kp
 refine ck (qn (cs (gi hr fun b8 hr => gi hr fun b9 hr => gi hr fun c0 hr => cdr 8 a7 (afl aff) fun c4 c1 => rp 6 [0, 1] (rt 2 (str (zaS (zaf (api (· == (58 : UInt8)) a0)) a0)) rfl rfl (adr rfl (by intro w hS_; exact (x_slice_to a0 .i64 (api (· == (58 : UInt8)) a0) underlying9 krf krf b8))) (rp 3 [3, 4] ?_)))));refine rt 5 (Vi .i64 ((api (· == (58 : UInt8)) a0) + (1 : Int))) rfl rfl (adr rfl (by intro w hS_; exact (x_add64 (api (· == (58 : UInt8)) a0) (1 : Int) krf krf b9))) (rt 6 (str (zak (zaf ((api (· == (58 : UInt8)) a0) + (1 : Int))) a0)) rfl rfl (adr rfl (by intro w hS_; exact (asr a0 .i64 ((api (· == (58 : UInt8)) a0) + (1 : Int)) underlying9 krf krf c0))) (rp 0 [7] (ajs krf (wp 2 (nq (ct ?_))))));obtain rfl := oi hr;exact rv c1.kp
theorem anq {fu : Nat} {a1 : UInt8} {w : World} {r : Bool} (hr : aer fu a1 = some r) (hG : Gl w) : CR prog 186 [(bt a1)] w fun v w' => v = (Vb r) /\ Hp w [] [] w' := by
 have hH := Hp.refl w;refine enter (k := 9) func186 rfl rfl nbe ?_;unfold aer at hr;refine sr (wp 1 (nq (bi hr fun v5 a0 hr => afp hH [2] [(2, (Vb v5))] ?_ ?_)));refine cr (wp 1 (aig a1 (48 : UInt8) krf krf (wd a0 (fun h6 a0 => ?_) (fun h6 a0 => ?_))));refine wp 1 (gy 5 (aif a1 (57 : UInt8) krf krf (wp 2 (wl (ql ?_)))));obtain rfl := oi a0;exact je hH.kp
 refine wp 4 (wl (ql ?_));obtain rfl := oi a0;exact je hH.kp
 intro w7 G a2;refine ct ?_;obtain rfl := oi hr;exact rv a2.kp
open Go.Lib renaming cut -> zbm, join -> zax, trimLeftS -> zaY
open List renaming length_take -> zab, set -> zbd
theorem ent30:Wk.Enters prog 30:=⟨f30,_,func30,rfl,krf⟩
theorem ent56:Wk.Enters prog 56:=⟨f56,_,func56,rfl,krf⟩
theorem ent73:Wk.Enters prog 73:=⟨f73,_,func73,rfl,krf⟩
theorem ent183:Wk.Enters prog 183:=⟨f183,_,func183,rfl,krf⟩
theorem ent184:Wk.Enters prog 184:=⟨f184,_,func184,rfl,krf⟩
theorem ent185:Wk.Enters prog 185:=⟨f185,_,func185,rfl,krf⟩
theorem ent186:Wk.Enters prog 186:=⟨f186,_,func186,rfl,krf⟩
theorem ent233:Wk.Enters prog 233:=⟨f233,_,func233,rfl,krf⟩
theorem ent234:Wk.Enters prog 234:=⟨f234,_,func234,rfl,krf⟩
theorem ent236:Wk.Enters prog 236:=⟨f236,_,func236,rfl,krf⟩
theorem K_L_address_hexDigit {fu : Nat} {a0 : UInt8} {w : World} {r : (UInt8 × Bool)} (hr : ajd fu a0 = some r) (hG : Gl w) : CR prog 233 [(bt a0)] w fun v w' => v = (zal #[(bt r.1), (Vb r.2)]) /\ Hp w [] [] w' := by
 have hH := Hp.refl w;refine enter (k := 29) func233 rfl rfl nbe ?_;unfold ajd at hr;refine sr (wp 2 (nq (cs (ce (sr (wp 1 ?_))))));refine bi hr fun y1 a6 hr => wc ent186 hH (anq a6 (hG.hp0 hH)) fun w3 a3 => wp 1 (nq (cb hr (fun h6 hr => ?_) (fun h6 hr => ?_)))
 refine sr (wp 1 (atl a0 (48 : UInt8) krf krf (wp 2 (nq (ct (bt_ (st ?_)))))));obtain rfl := oi hr;exact rv a3.kp
 refine bi hr fun a7 a1 hr => afp a3 [0, 2, 3, 9] [(9, (Vb a7))] ?_ ?_
 refine cr (wp 1 (aig a0 (97 : UInt8) krf krf (wd a1 (fun a8 a1 => ?_) (fun a8 a1 => ?_))));refine wp 1 (gy 12 (aif a0 (102 : UInt8) krf krf (wp 2 (wl (ql ?_)))));obtain rfl := oi a1;exact je a3.kp
 refine wp 4 (wl (ql ?_));obtain rfl := oi a1;exact je a3.kp
 intro b3 G a4;refine cb hr (fun a9 hr => ?_) (fun a9 hr => ?_);refine sr (wp 1 (atl a0 (97 : UInt8) krf krf (w8_add (a0 - (97 : UInt8)) (10 : UInt8) krf krf (wp 2 (nq (ct (bt_ ?_)))))));refine st ?_;obtain rfl := oi hr;exact rv a4.kp
 refine bi hr fun b0 a2 hr => afp a4 [0, 2, 3, 19] [(19, (Vb b0))] ?_ ?_
 refine cr (wp 1 (aig a0 (65 : UInt8) krf krf (wd a2 (fun b1 a2 => ?_) (fun b1 a2 => ?_))));refine wp 1 (gy 22 (aif a0 (70 : UInt8) krf krf (wp 2 (wl (ql ?_)))));obtain rfl := oi a2;exact je a4.kp
 refine wp 4 (wl (ql ?_));obtain rfl := oi a2;exact je a4.kp
 intro b4 G a5;refine cb hr (fun b2 hr => ?_) (fun b2 hr => ?_);refine sr (wp 1 (atl a0 (65 : UInt8) krf krf (w8_add (a0 - (65 : UInt8)) (10 : UInt8) krf krf (wp 2 (nq (ct (bt_ ?_)))))));refine st ?_;obtain rfl := oi hr;exact rv a5.kp
 refine ck (bn (qn (sr (wp 2 (nq (ct ?_))))));obtain rfl := oi hr;exact rv a5.kp
theorem akv {fu : Nat} {a4 : Str} {w : World} {r : Str} (hr : aeq fu a4 = some r) (hG : Gl w) : CR prog 73 [(str a4)] w fun v w' => v = (str r) /\ Hp w [] [] w' := by
 have hH := Hp.refl w;refine enter (k := 29) func73 rfl rfl nbe ?_;unfold aeq at hr;refine sr (wp 1 (nq (sr (wp 1 (asc hH a4 5 underlying9 underlying23 underlying5 krf fun a1 cap2 w3 b3 => wp 1 ?_)))));refine nq (bi hr fun b2 b4 hr => cut (σ := Str) [2, 3] (fun a7 => []) (fun a7 w' => Hp w [] [aua (Vs a1 a4.length cap2) a4.length a7] w' /\ a7 = b2) ?_ ?_);refine sr (wp 3 (nq (ce (lpG (σ := Nat × Str × Int) [2, 3, 8, 9, 10] (fun ⟨a5, a3, a2⟩ => [(10, (Vi .i64 a2))]) (fun ⟨a5, a3, a2⟩ w' => Hp w [] [aua (Vs a1 a4.length cap2) a4.length a3] w' /\ aic fu a4 a5 a3 a2 = some b2) (fun ⟨a5, a3, a2⟩ => a5) (fu, a4, (0 : Int)) (by exact ⟨b3.kp, b4⟩) ?_))));rintro ⟨_ | a5, a3, a2⟩ c7 G ⟨a6, a0⟩
 · exact nzz a0
 rw [anb, agw] at a0;refine sr (wp 1 (nq (cs (cd a0 (fun b5 a0 => ?_) (fun b5 a0 => ?_)))));refine ck (qn (cs (ce (sr (wp 1 (gi a0 fun b6 a0 => aey a1 a4.length cap2 5 1 .i64 a2 underlying23 krf krf krf a3 (a6.browlen 0 rfl).symm b6 (Rd.ofbytes (a6.rdbrow 0 rfl)) aih (by decide) (gi a0 fun b7 a0 => ?_)))))));refine ahq a1 eB a3 1 a2 aih (Rd.ofbytes (a6.rdbrow 0 rfl)) (bt (at_ a3 a2)) b7 (by decide) krf krf krf (wp 2 (nq (bi a0 fun b8 a8 a0 => afp a6 [2, 3, 4, 5, 8, 9, 10, 20] [(20, (Vb b8))] ?_ ?_)));refine cr (wp 1 (aig (at_ a3 a2) (65 : UInt8) krf krf (wd a8 (fun b9 a8 => ?_) (fun b9 a8 => ?_))));refine wp 1 (gy 17 (aif (at_ a3 a2) (90 : UInt8) krf krf (wp 1 (wl (ql ?_)))));obtain rfl := oi a8;exact je a6.kp
 refine wp 3 (wl (ql ?_));obtain rfl := oi a8;exact je a6.kp
 intro c8 G a9;refine cb a0 (fun c0 a0 => ?_) (fun c0 a0 => ?_);refine cr (wp 3 (w8_add (at_ a3 a2) (32 : UInt8) krf krf (gi a0 fun c1 a0 => aey a1 a4.length cap2 5 1 .i64 a2 underlying23 krf krf krf a3 (a9.browlen 0 rfl).symm c1 (Rd.ofbytes (a9.rdbrow 0 rfl)) aih (by decide) (gi a0 fun c2 a0 => w_stB a9 0 a1 a4.length cap2 a2 a3 ((at_ a3 a2) + (32 : UInt8)) rfl c2 krf krf krf fun c3 b0 => ?_))));replace b0 : Hp w [] [aua (Vs a1 a4.length cap2) a4.length (zbd a3 (zaf a2) ((at_ a3 a2) + (32 : UInt8)))] c3 := b0;refine wl (bn (qn (cr (gi a0 fun c4 a0 => aah a2 (1 : Int) krf krf c4 (wp 1 (wl (ql ?_)))))));exact ⟨(a5, zbd a3 (zaf a2) ((at_ a3 a2) + (32 : UInt8)), a2 + (1 : Int)), _, rfl, by kernel_rfl, ⟨b0.kp, a0⟩, zad _⟩
 refine ck (bn (qn (cr (gi a0 fun c5 a0 => aah a2 (1 : Int) krf krf c5 (wp 1 (wl (ql ?_)))))));exact ⟨(a5, a3, a2 + (1 : Int)), _, rfl, by kernel_rfl, ⟨a9.kp, a0⟩, zad _⟩
 refine abp (abo (abv (abr (ql ?_))));obtain rfl := oi a0;exact ⟨a3, _, rfl, by kernel_rfl, a6.kp, rfl⟩
 rintro a7 c6 G ⟨b1, rfl⟩
 refine sr (wp 1 (acn (v := (str a7)) (w' := c6) rfl rfl (aqn a7 a1 a4.length cap2 5 (Rd.bytes (Rd.ofbytes (b1.rdbrow 0 rfl))) (b1.browlen 0 rfl) underlying23 underlying9 underlying5 krf) (wp 1 (nq (ct ?_)))));obtain rfl := oi hr;exact rv b1.kp
theorem anf {fu : Nat} {a7 : Str} {w : World} {r : ((List Str) × Bool)} (hr : adi fu a7 = some r) (hG : Gl w) : CR prog 184 [(str a7)] w fun v w' => ∃ (o0 : Option Nat), ∃ (a0 : Option Addr), ∃ (cap0 : Nat), v = (zal #[(Vs a0 r.1.length cap0), (Vb r.2)]) /\ Hp w [] [rwt eS 9 1 o0 a0 cap0 r.1] w' := by
 have hH := Hp.refl w;refine enter (k := 53) func184 rfl rfl nbe ?_;unfold adi at hr;refine sr (wp 2 (nq (sr (wp 1 (gi hr fun g4 hr => aat 185 #[] [(str a7), (str ([58] : Str))] _ ent185 krf krf (sh_Split a7 58 w g4 (hG.hp0 hH)) ?_)))));rintro _ w1 ⟨o5, a6, cap7, rfl, c0⟩
 have c6 : Hp w [] [rwt eS 9 1 o5 a6 cap7 (spl 58 a7)] w1 := Hp.callK (L1 := []) (L2 := []) hH c0; clear c0;refine wp 1 (nq (bi hr fun c1 c7 hr => cut (σ := (List Str)) [2, 3, 4] (fun a9 => [(4, (Vs a6 a9.length cap7))]) (fun a9 w' => Hp w [] [rwt eS 9 1 o5 a6 cap7 a9] w' /\ a9.length = (spl 58 a7).length /\ .inl a9 = c1) ?_ ?_));refine sr (wp 3 (nq (ce (lpG (σ := Nat × (List Str) × Int) [2, 3, 4, 12, 13, 14] (fun ⟨b1, a2, a3⟩ => [(4, (Vs a6 a2.length cap7)), (12, (Vs a6 a2.length cap7)), (14, (Vi .i64 a3))]) (fun ⟨b1, a2, a3⟩ w' => Hp w [] [rwt eS 9 1 o5 a6 cap7 a2] w' /\ a2.length = (spl 58 a7).length /\ acv fu a7 b1 a2 a3 = some c1) (fun ⟨b1, a2, a3⟩ => b1) (fu, spl 58 a7, (0 : Int)) (by exact ⟨c6.kp, lsz, c7⟩) ?_))));rintro ⟨_ | b1, a2, a3⟩ f8 G ⟨b2, f9, a5⟩
 · exact nzz a5
 rw [ajn, aef] at a5;refine sr (wp 1 (nq (cs (cd a5 (fun c8 a5 => ?_) (fun c8 a5 => ?_)))));refine ck (qn (bi a5 fun c9 a1 a5 => cut (σ := (List Str)) [2, 3, 4, 12, 13, 14] (fun a8 => [(4, (Vs a6 a8.length cap7)), (12, (Vs a6 a8.length cap7))]) (fun a8 w' => Hp w [] [rwt eS 9 1 o5 a6 cap7 a8] w' /\ a8.length = a2.length /\ .inl a8 = c9) ?_ ?_));refine ce (sr (wp 1 (gi a1 fun d0 a1 => aey a6 a2.length cap7 9 1 .i64 a3 underlying37 krf krf krf a2 rfl d0 (b2.rdrw 0 rfl) ahr (by decide) (gi a1 fun d1 a1 => ahq a6 eS a2 1 a3 ahr (b2.rdrw 0 rfl) (str (el a2 a3)) d1 (by decide) krf krf krf (wp 2 (wl ?_))))));refine qn (cs (bi a1 fun d2 b4 a1 => afp b2 [2, 3, 4, 5, 6, 12, 13, 14, 26] [(26, (Vb d2))] ?_ ?_));refine cr (wp 3 (wd b4 (fun d3 b4 => ?_) (fun d3 b4 => ?_)));refine wp 4 (wl (ql ?_));obtain rfl := oi b4;exact je b2.kp
 refine wp 4 (wl (ql ?_));obtain rfl := oi b4;exact je b2.kp
 intro g0 G b6;refine cb a1 (fun d4 a1 => ?_) (fun d4 a1 => ?_);refine sr (wp 2 (nq (ct (st (bt_ (aau ?_))))));obtain rfl := oi a1;refine aau (bt_ (aau ?_));obtain rfl := oi a5;obtain rfl := oi hr;refine r_two (Vs none 0 0) (Vb false) rfl krf krf ?_;exact ⟨none, none, 0, (by first | rfl | (simp; done) | (simp; omega) | exact aae (by rw [zab]; omega)), (Hp.nilrw b6 eS 9 1 none).kp⟩
 refine ck (qn (bi a1 fun d5 d6 a1 => cut1 b6 d5 [2, 3, 4, 5, 6, 12, 13, 14] (fun d7 => []) ?_ ?_));refine sr (wp 3 (nq (ce (lpS (fun c2 b0 => adn fu a2 a3 c2 b0) (0 : Int) b6 d6 [2, 3, 4, 5, 6, 12, 13, 14, 28, 29] (fun b0 => [(29, (Vi .i64 b0))]) (fun _ => rfl) ?_))));rintro c2 b0 g1 G b7 a4
 rw [afn, adf] at a4;refine sr (wp 1 (nq (cs (cd a4 (fun d8 a4 => ?_) (fun d8 a4 => ?_)))));refine ck (qn (cs (ce (sr (wp 2 (nq (cs ?_)))))));refine cr (wp 2 (gi a4 fun d9 a4 => aaq (el a2 a3) .i64 b0 underlying9 krf krf d9 (bi a4 fun g2 e0 a4 => wc ent233 b7 (K_L_address_hexDigit e0 (hG.hp0 b7)) fun g3 c3 => wp 5 (nq (cs ?_)))));refine cr (wp 2 (nq (cb a4 (fun e1 a4 => ?_) (fun e1 a4 => ?_))));refine sr (wp 2 (nq (ct (bt_ (st (aau (bt_ ?_)))))));refine aau ?_;obtain rfl := oi a4;refine bt_ (aau ?_);obtain rfl := oi a1;refine aau (bt_ (aau ?_));obtain rfl := oi a5;obtain rfl := oi hr;refine r_two (Vs none 0 0) (Vb false) rfl krf krf ?_;exact ⟨none, none, 0, (by first | rfl | (simp; done) | (simp; omega) | exact aae (by rw [zab]; omega)), (Hp.nilrw c3 eS 9 1 none).kp⟩
 exact ck (bn (qn (cr (gi a4 fun e2 a4 => aah b0 (1 : Int) krf krf e2 (wp 1 (wl (ql (le' (b0 + (1 : Int)) c3.kp a4))))))))
 refine abp (abo (abv (abr (ql ?_))));obtain rfl := oi a4;exact je1 rfl b7.kp
 rintro d7 g5 G c4 rfl
 refine sr (wp 1 (bi a1 fun b3 e3 a1 => wc ent73 c4 (akv e3 (hG.hp0 c4)) fun e4 e5 => gi a1 fun e6 a1 => gi a1 fun e7 a1 => aat 234 #[] [(str b3), (str ([48] : Str))] _ ent234 krf krf (sh_TrimLeft b3 ([48] : Str) e4 e6 e7) ?_));rintro _ g6 ⟨rfl, c5⟩
 have b5 := e5.call c5; clear c5;refine wp 1 (nq (cs (sr (wp 2 (nq (cd a1 (fun e8 a1 => ?_) (fun e8 a1 => ?_)))))));refine cr (wp 1 (nq (cr (wp 3 (gi a1 fun e9 a1 => aey a6 a2.length cap7 9 1 .i64 a3 underlying37 krf krf krf a2 rfl e9 (b5.rdrw 0 rfl) ahr (by decide) (gi a1 fun f0 a1 => w_stE1 b5 0 o5 a6 cap7 9 a3 a2 ([48] : Str) rfl ahr (str ([48] : Str)) f0 krf krf krf krf fun f1 b8 => ?_))))));replace b8 : Hp w [] [rwt eS 9 1 o5 a6 cap7 (zbd a2 (zaf a3) ([48] : Str))] f1 := b8;refine wl (bn (ql ?_));obtain rfl := oi a1;exact ⟨zbd a2 (zaf a3) ([48] : Str), _, rfl, (mc krf (mc krf (mc (Eq.trans (b := (Vs a6 a2.length cap7)) krf (aae lsy)) (mc (Eq.trans (b := (Vs a6 a2.length cap7)) krf (aae lsy)) (mc krf (mc krf rfl)))))), b8.kp, lsz, rfl⟩
 refine ck (qn (cr (wp 3 (gi a1 fun f2 a1 => aey a6 a2.length cap7 9 1 .i64 a3 underlying37 krf krf krf a2 rfl f2 (b5.rdrw 0 rfl) ahr (by decide) (gi a1 fun f3 a1 => w_stE1 b5 0 o5 a6 cap7 9 a3 a2 (zaY b3 ([48] : Str)) rfl ahr (str (zaY b3 ([48] : Str))) f3 krf krf krf krf fun f4 b9 => ?_)))));replace b9 : Hp w [] [rwt eS 9 1 o5 a6 cap7 (zbd a2 (zaf a3) (zaY b3 ([48] : Str)))] f4 := b9;refine wl (bn (ql ?_));obtain rfl := oi a1;exact ⟨zbd a2 (zaf a3) (zaY b3 ([48] : Str)), _, rfl, (mc krf (mc krf (mc (Eq.trans (b := (Vs a6 a2.length cap7)) krf (aae lsy)) (mc (Eq.trans (b := (Vs a6 a2.length cap7)) krf (aae lsy)) (mc krf (mc krf rfl)))))), b9.kp, lsz, rfl⟩
 rintro a8 g7 G ⟨f5, g8, rfl⟩
 refine cr (gi a5 fun f6 a5 => aah a3 (1 : Int) krf krf f6 (wp 1 (wl (ql ?_))));exact ⟨(b1, a8, a3 + (1 : Int)), _, rfl, by kernel_rfl, ⟨f5.kp, lsz, a5⟩, zad _⟩
 refine abp (abo (abv (abr (ql ?_))));obtain rfl := oi a5;exact ⟨a2, _, rfl, by kernel_rfl, b2.kp, lsz, rfl⟩
 rintro a9 g9 G ⟨f7, h0, rfl⟩
 refine sr (wp 3 (nq (ct ?_)));obtain rfl := oi hr;refine r_two (Vs a6 a9.length cap7) (Vb true) rfl krf krf ?_;exact ⟨o5, a6, cap7, (by first | rfl | (simp; done) | (simp; omega) | exact aae (by rw [zab]; omega)), f7.kp⟩
theorem K_L_address_groups {fu : Nat} {a5 : Str} {w : World} {r : (Str × Bool)} (hr : amb fu a5 = some r) (hG : Gl w) : CR prog 118 [(str a5)] w fun v w' => v = (zal #[(str r.1), (Vb r.2)]) /\ Hp w [] [] w' := by
 have hH := Hp.refl w;refine enter (k := 71) func118 rfl rfl nbe ?_;unfold amb at hr;refine sr (wp 2 (nq (cs (sr (wp 3 (wl ?_))))));refine qn (cd hr (fun h1 hr => ?_) (fun h1 hr => ?_));refine sr (wp 2 (nq (ct (st ?_))));obtain rfl := oi hr;exact rv hH.kp
 refine ck (qn (sr (wp 1 (gi hr fun g5 hr => aat 183 #[] [(str a5), (str ([58, 58] : Str))] _ ent183 krf krf (sh_Cut a5 ([58, 58] : Str) w g5 (hG.hp0 hH)) ?_))));rintro _ w2 ⟨rfl, c4⟩
 have b2 := hH.call c4; clear c4;refine wp 7 (nq (cs (sr (wp 2 (nq (cb hr (fun h6 hr => ?_) (fun h6 hr => ?_)))))));refine sr (wp 1 (bi hr fun y7 d8 hr => aat 184 #[] [(str a5)] _ ent184 krf krf (anf d8 (hG.hp0 b2)) ?_));rintro _ w9 ⟨d9, b6, b7, rfl, c5⟩
 have b8 : Hp w [] [rwt eS 9 1 d9 b6 b7 y7.1] w9 := Hp.callK (L1 := []) (L2 := []) b2 c5; clear c5;refine wp 5 (nq (bi hr fun e0 a6 hr => cut (σ := (Str × Bool)) [2, 3, 4, 5] (fun b3 => [(2, (str b3.1)), (3, (Vb b3.2))]) (fun b3 w' => Hp w [] [] w' /\ b3 = e0) ?_ ?_));refine cr (wp 1 (gi a6 fun e1 a6 => aat 56 #[] [(Vs b6 y7.1.length b7), (str ([58] : Str))] _ ent56 krf krf (sh_Join ([58] : Str) w9 b6 y7.1.length b7 y7.1 rfl (b8.rdrw 0 rfl) (b8.rwcap 0 rfl) e1) ?_));rintro _ g7 ⟨rfl, c6⟩
 have c7 := b8.call c6; clear c6;refine wp 1 (wb a6 (fun e2 a6 => ?_) (fun e2 a6 => ?_));refine wp 6 (wl (ql ?_));obtain rfl := oi a6;exact ⟨(zax y7.1 ([58] : Str), (decide ((y7.1.length : Int) = (8 : Int)))), _, rfl, by kernel_rfl, c7.kp, rfl⟩
 refine wp 6 (wl (ql ?_));obtain rfl := oi a6;exact ⟨(zax y7.1 ([58] : Str), false), _, rfl, by kernel_rfl, c7.kp, rfl⟩
 rintro b3 g8 G ⟨e3, rfl⟩
 refine ct (st ?_);obtain rfl := oi hr;exact rv e3.kp
 refine ck (qn (sr (wp 2 (nq (sr (wp 2 ?_))))));refine nq (bi hr fun e4 a7 hr => cut (σ := ((List Str) × Bool) × (Option Nat) × (Option Addr) × Nat) [2, 3, 5, 9, 10, 11, 12] (fun ⟨a0, a9, a3, a4⟩ => [(9, (Vs a3 a0.1.length a4)), (11, (Vb a0.2))]) (fun ⟨a0, a9, a3, a4⟩ w' => Hp w [] [rwt eS 9 1 a9 a3 a4 a0.1] w' /\ a0 = e4) ?_ ?_);refine sr (wp 2 (nq (cn a7 (fun e5 a7 => ?_) (fun e5 a7 => ?_))));refine cr (wp 1 (bi a7 fun b9 e6 a7 => aat 184 #[] [(str ((zbm a5 ([58, 58] : Str)).1))] _ ent184 krf krf (anf e6 (hG.hp0 b2)) ?_));rintro _ e7 ⟨c8, c9, d0, rfl, d1⟩
 have e8 : Hp w [] [rwt eS 9 1 c8 c9 d0 b9.1] e7 := Hp.callK (L1 := []) (L2 := []) b2 d1; clear d1;refine wp 5 (wl (ql ?_));obtain rfl := oi a7;exact ⟨((b9.1, b9.2), c8, c9, d0), _, rfl, by kernel_rfl, e8.kp, rfl⟩
 refine ck (ql ?_);obtain rfl := oi a7;exact ⟨((([] : List Str), true), none, none, 0), _, rfl, (mc krf (mc krf (mc krf (mc (Eq.trans (b := (Vs none 0 0)) krf (aae lsy)) (mc krf (mc krf (mc krf rfl))))))), (Hp.nilrw b2 eS 9 1 none).kp, rfl⟩
 rintro ⟨a0, a9, a3, a4⟩ g9 G ⟨c0, rfl⟩
 refine bi hr fun e9 a8 hr => cut (σ := ((List Str) × Bool) × (Option Nat) × (Option Addr) × Nat) [2, 3, 9, 10, 11, 12] (fun ⟨a1, c1, b0, b1⟩ => [(10, (Vs b0 a1.1.length b1)), (12, (Vb a1.2))]) (fun ⟨a1, c1, b0, b1⟩ w' => Hp w [] [rwt eS 9 1 a9 a3 a4 a0.1, rwt eS 9 1 c1 b0 b1 a1.1] w' /\ a1 = e9) ?_ ?_
 refine sr (wp 2 (nq (cn a8 (fun f0 a8 => ?_) (fun f0 a8 => ?_))));refine cr (wp 1 (bi a8 fun c2 f1 a8 => aat 184 #[] [(str ((zbm a5 ([58, 58] : Str)).2.1))] _ ent184 krf krf (anf f1 (hG.hp0 c0)) ?_));rintro _ f2 ⟨d2, d3, d4, rfl, d5⟩
 have f3 : Hp w [] [rwt eS 9 1 d2 d3 d4 c2.1, rwt eS 9 1 a9 a3 a4 a0.1] f2 := Hp.callK (L1 := []) (L2 := [rwt eS 9 1 a9 a3 a4 a0.1]) c0 d5; clear d5;refine wp 5 (wl (ql ?_));obtain rfl := oi a8;exact ⟨((c2.1, c2.2), d2, d3, d4), _, rfl, by kernel_rfl, (Hp.front f3 1 _ rfl).kp, rfl⟩
 refine ck (ql ?_);obtain rfl := oi a8;exact ⟨((([] : List Str), true), none, none, 0), _, rfl, (mc krf (mc krf (mc krf (mc (Eq.trans (b := (Vs none 0 0)) krf (aae lsy)) (mc krf (mc krf rfl)))))), (Hp.front (Hp.nilrw c0 eS 9 1 none) 1 _ rfl).kp, rfl⟩
 rintro ⟨a1, c1, b0, b1⟩ h0 G ⟨b4, rfl⟩
 refine cs (bi hr fun f4 a2 hr => afp b4 [2, 3, 9, 10, 64] [(64, (Vb f4))] ?_ ?_);refine cr (wp 2 (wb a2 (fun f5 a2 => ?_) (fun f5 a2 => ?_)));refine wp 11 (wl (ql ?_));obtain rfl := oi a2;exact je (Hp.front (Hp.front b4 1 _ rfl) 1 _ rfl).kp
 refine wp 3 (wb a2 (fun f6 a2 => ?_) (fun f6 a2 => ?_));refine wp 7 (wl (ql ?_));obtain rfl := oi a2;exact je (Hp.front (Hp.front b4 1 _ rfl) 1 _ rfl).kp
 refine wp 4 (gy 57 (gi a2 fun f7 a2 => aah (a0.1.length : Int) (a1.1.length : Int) krf krf f7 (wp 2 (wl (ql ?_)))));obtain rfl := oi a2;exact je (Hp.front (Hp.front b4 1 _ rfl) 1 _ rfl).kp
 intro f8 G b5;refine cb hr (fun f9 hr => ?_) (fun f9 hr => ?_);refine sr (wp 2 (nq (ct (st ?_))));obtain rfl := oi hr;exact rv b5.kp
 refine ck (qn (sr (wp 1 (gi hr fun g0 hr => aat 56 #[] [(Vs a3 a0.1.length a4), (str ([58] : Str))] _ ent56 krf krf (sh_Join ([58] : Str) f8 a3 a0.1.length a4 a0.1 rfl (b5.rdrw 0 rfl) (b5.rwcap 0 rfl) g0) ?_))));rintro _ g1 ⟨rfl, d6⟩
 have c3 := b5.call d6; clear d6;refine gi hr fun g2 hr => alb (zax a0.1 ([58] : Str)) ([58, 58] : Str) krf krf g2 (wp 1 (gi hr fun g3 hr => aat 56 #[] [(Vs b0 a1.1.length b1), (str ([58] : Str))] _ ent56 krf krf (sh_Join ([58] : Str) g1 b0 a1.1.length b1 a1.1 rfl (c3.rdrw 1 rfl) (c3.rwcap 1 rfl) g3) ?_))
 rintro _ h2 ⟨rfl, d7⟩
 have g4 := c3.call d7; clear d7;refine gi hr fun g6 hr => alb ((zax a0.1 ([58] : Str)) ++ ([58, 58] : Str)) (zax a1.1 ([58] : Str)) krf krf g6 (wp 2 (nq (ct ?_)))
 obtain rfl := oi hr;exact rv g4.kp
theorem K_L_address_numbers {fu : Nat} {a1 : Str} {w : World} {r : Bool} (hr : aks fu a1 = some r) (hG : Gl w) : CR prog 119 [(str a1)] w fun v w' => v = (Vb r) /\ Hp w [] [] w' := by
 have hH := Hp.refl w;refine enter (k := 54) func119 rfl rfl nbe ?_;unfold aks at hr;refine sr (wp 1 (nq (cs (sr (wp 3 (wl ?_))))));refine qn (cd hr (fun h1 hr => ?_) (fun h1 hr => ?_));refine sr (wp 1 (nq (ct (st ?_))));obtain rfl := oi hr;exact rv hH.kp
 refine ck (qn (sr (wp 1 (gi hr fun g5 hr => aat 185 #[] [(str a1), (str ([46] : Str))] _ ent185 krf krf (sh_Split a1 46 w g5 (hG.hp0 hH)) ?_))));rintro _ w2 ⟨o6, a7, cap8, rfl, b3⟩
 have b4 : Hp w [] [rwt eS 9 1 o6 a7 cap8 (spl 46 a1)] w2 := Hp.callK (L1 := []) (L2 := []) hH b3; clear b3;refine wp 1 (nq (bi hr fun c0 c1 hr => cut1 b4 c0 [2, 3] (fun c2 => []) ?_ ?_));refine sr (wp 3 (nq (ce (lpS (fun b5 a2 => aed fu a1 b5 a2) (0 : Int) b4 c1 [2, 3, 13, 14, 15] (fun a2 => [(15, (Vi .i64 a2))]) (fun _ => rfl) ?_))));rintro b5 a2 e8 G a9 a4
 rw [alo, afc] at a4;refine sr (wp 1 (nq (cs (cd a4 (fun c3 a4 => ?_) (fun c3 a4 => ?_)))));refine ck (qn (bi a4 fun c4 a3 a4 => cut1 a9 c4 [2, 3, 13, 14, 15] (fun c5 => []) ?_ ?_));refine ce (sr (gi a3 fun c6 a3 => aey a7 ((spl 46 a1).length) cap8 9 1 .i64 a2 underlying37 krf krf krf (spl 46 a1) rfl c6 (a9.rdrw 0 rfl) ahr (by decide) (gi a3 fun c7 a3 => ahq a7 eS (spl 46 a1) 1 a2 ahr (a9.rdrw 0 rfl) (str (el (spl 46 a1) a2)) c7 (by decide) krf krf krf (wp 1 (nq ?_)))));refine sr (wp 1 (nq (bi a3 fun c8 c9 a3 => cut1 a9 c8 [2, 3, 5, 6, 13, 14, 15] (fun b1 => [(6, (Vi .i64 b1))]) ?_ ?_)));refine sr (wp 3 (nq (ce (lpS (fun b6 ⟨a8, a5⟩ => aec fu a1 a2 b6 a8 a5) ((0 : Int), (0 : Int)) a9 c9 [2, 3, 5, 6, 13, 14, 15, 20, 21] (fun ⟨a8, a5⟩ => [(6, (Vi .i64 a8)), (21, (Vi .i64 a5))]) (fun _ => rfl) ?_))));rintro b6 ⟨a8, a5⟩ e9 G b2 a0
 dsimp only at a0;rw [aln, afb] at a0;refine sr (wp 1 (nq (cs (cd a0 (fun d0 a0 => ?_) (fun d0 a0 => ?_)))));refine ck (qn (cs (ce (sr (wp 2 (nq (cs ?_)))))));refine sr (wp 2 (gi a0 fun d1 a0 => aaq (el (spl 46 a1) a2) .i64 a5 underlying9 krf krf d1 (bi a0 fun f0 d2 a0 => wc ent186 b2 (anq d2 (hG.hp0 b2)) fun f1 b7 => wp 1 (nq (cb a0 (fun d3 a0 => ?_) (fun d3 a0 => ?_))))));refine sr (wp 1 (nq (ct (st (bt_ (st (aau ?_)))))));refine bt_ (aau ?_);obtain rfl := oi a0;refine bt_ (aau ?_);obtain rfl := oi a3;refine aau (bt_ (aau ?_));obtain rfl := oi a4;obtain rfl := oi hr;exact rv b7.kp
 refine ck (qn (cr (wp 1 (gi a0 fun d4 a0 => w_mul64 (10 : Int) a8 krf krf d4 (wp 2 (gi a0 fun d5 a0 => aaq (el (spl 46 a1) a2) .i64 a5 underlying9 krf krf d5 (atl (at_ (el (spl 46 a1) a2) a5) (48 : UInt8) krf krf ?_)))))));refine w_convx .i64 .u8 (((at_ (el (spl 46 a1) a2) a5) - (48 : UInt8)).toNat : Int) underlying5 underlying3 krf (aoi _) (gi a0 fun d6 a0 => aah ((10 : Int) * a8) (((at_ (el (spl 46 a1) a2) a5) - (48 : UInt8)).toNat : Int) krf krf d6 (wp 1 (wl (bn (qn (cr (gi a0 fun d7 a0 => aah a5 (1 : Int) krf krf d7 ?_)))))));exact wp 1 (wl (ql (le' (((10 : Int) * a8) + (((at_ (el (spl 46 a1) a2) a5) - (48 : UInt8)).toNat : Int), a5 + (1 : Int)) b7.kp a0)))
 refine abp (abo (abv (abr (ql ?_))));obtain rfl := oi a0;exact je1 rfl b2.kp
 rintro b1 d8 G b0 rfl
 refine bi a3 fun d9 a6 a3 => afp b0 [2, 3, 13, 14, 15, 49] [(49, (Vb d9))] ?_ ?_
 refine cr (wp 2 (wd a6 (fun e0 a6 => ?_) (fun e0 a6 => ?_)));refine wp 9 (wl (ql ?_));obtain rfl := oi a6;exact je b0.kp
 refine wp 3 (wd a6 (fun e1 a6 => ?_) (fun e1 a6 => ?_));refine wp 5 (wl (ql ?_));obtain rfl := oi a6;exact je b0.kp
 refine wp 2 (gy 44 (gi a6 fun e2 a6 => aat 30 #[] [(Vi .i64 b1)] _ ent30 krf krf (sh_Itoa b1 d8 e2 (hG.hp0 b0)) ?_));rintro _ f2 ⟨rfl, b8⟩
 have e3 := b0.call b8; clear b8;refine wp 2 (wl (ql ?_));obtain rfl := oi a6;exact je e3.kp
 intro f3 G b9;refine cb a3 (fun e4 a3 => ?_) (fun e4 a3 => ?_);refine sr (wp 1 (nq (ct (bt_ (aau ?_)))));obtain rfl := oi a3;refine aau (bt_ (aau ?_));obtain rfl := oi a4;obtain rfl := oi hr;exact rv b9.kp
 refine ck (bn (ql ?_));obtain rfl := oi a3;exact je1 rfl b9.kp
 rintro c5 f4 G e5 rfl
 exact cr (gi a4 fun e6 a4 => aah a2 (1 : Int) krf krf e6 (wp 1 (wl (ql (le' (a2 + (1 : Int)) e5.kp a4)))))
 refine abp (abo (abv (abr (ql ?_))));obtain rfl := oi a4;exact je1 rfl a9.kp
 rintro c2 f5 G e7 rfl
 refine sr (wp 4 (nq (ct ?_)));obtain rfl := oi hr;exact rv e7.kp
theorem K_L_strings_splitSeq {fu : Nat} {a0 : Str} {a1 : Str} {a2 : Int} {w : World} {r : (Str × Str × Int)} (hr : amm fu a0 a1 a2 = some r) (hG : Gl w) : CR prog 236 [(str a0), (str a1), (Vi .i64 a2)] w fun v w' => ∃ (b0 : Nat), ∃ (b1 : Nat), ∃ (b2 : Nat), v = (zaW (.func 269) #[] #[(Vp (some ⟨b0, 0, none⟩)), (Vp (some ⟨b1, 0, none⟩)), (Vp (some ⟨b2, 0, none⟩))]) /\ Hp w [] [blk b0 [(str r.1)] 9, blk b1 [(str r.2.1)] 9, blk b2 [(Vi .i64 r.2.2)] 3] w' := by
 have hH := Hp.refl w;refine enter (k := 8) func236 rfl rfl nbe ?_;unfold amm at hr;refine sr (aco hH [(str a0)] 9 (fun b => (Vp (some ⟨b, 0, none⟩))) rfl rfl krf fun b1 w2 a3 => aco a3 [(str a1)] 9 (fun b => (Vp (some ⟨b, 0, none⟩))) rfl rfl krf fun b4 w5 a4 => aco a4 [(Vi .i64 a2)] 3 (fun b => (Vp (some ⟨b, 0, none⟩))) rfl rfl krf fun b7 w8 a5 => wp 1 (nq (sr ?_)));refine wp 2 (nq (ct ?_));obtain rfl := oi hr;refine aqj (zaW (.func 269) #[] #[(Vp (some ⟨b4, 0, none⟩)), (Vp (some ⟨b1, 0, none⟩)), (Vp (some ⟨b7, 0, none⟩))]) rfl krf ?_;exact ⟨b4, b1, b7, (by first | rfl | (simp; done) | (simp; omega) | exact aae (by rw [zab]; omega)), (Hp.front (Hp.front a5 2 _ rfl) 2 _ rfl).kp⟩
theorem K_L_strings_SplitSeq {fu : Nat} {a0 : Str} {a1 : Str} {w : World} {r : (Str × Str × Int)} (hr : amn fu a0 a1 = some r) (hG : Gl w) : CR prog 187 [(str a0), (str a1)] w fun v w' => ∃ (b0 : Nat), ∃ (b1 : Nat), ∃ (b2 : Nat), v = (zaW (.func 269) #[] #[(Vp (some ⟨b0, 0, none⟩)), (Vp (some ⟨b1, 0, none⟩)), (Vp (some ⟨b2, 0, none⟩))]) /\ Hp w [] [blk b0 [(str r.1)] 9, blk b1 [(str r.2.1)] 9, blk b2 [(Vi .i64 r.2.2)] 3] w' := by
 have hH := Hp.refl w;refine enter (k := 8) func187 rfl rfl nbe ?_;unfold amn at hr;refine sr (wp 1 (nq (sr (wp 2 (bi hr fun y1 a3 hr => aat 236 #[] [(str a0), (str a1), (Vi .i64 (0 : Int))] _ ent236 krf krf (K_L_strings_splitSeq a3 (hG.hp0 hH)) ?_)))));rintro _ w3 ⟨b6, b7, b8, rfl, a2⟩
 have a4 : Hp w [] (Zz33 b6 y1.1 b7 y1.2.1 b8 y1.2.2) w3 := Hp.callK (L1 := []) (L2 := []) hH a2; clear a2;refine wp 1 (nq (ct ?_));obtain rfl := oi hr;refine aqj (zaW (.func 269) #[] #[(Vp (some ⟨b6, 0, none⟩)), (Vp (some ⟨b7, 0, none⟩)), (Vp (some ⟨b8, 0, none⟩))]) rfl krf ?_;exact ⟨b6, b7, b8, (by first | rfl | (simp; done) | (simp; omega) | exact aae (by rw [zab]; omega)), (Hp.front (Hp.front (Hp.front a4 2 _ rfl) 2 _ rfl) 2 _ rfl).kp⟩
theorem K_L_address_letter {fu : Nat} {a1 : UInt8} {w : World} {r : Bool} (hr : ama fu a1 = some r) (hG : Gl w) : CR prog 188 [(bt a1)] w fun v w' => v = (Vb r) /\ Hp w [] [] w' := by
 have hH := Hp.refl w;refine enter (k := 17) func188 rfl rfl nbe ?_;unfold ama at hr;refine sr (wp 1 (nq (bi hr fun v8 a0 hr => afp hH [2] [(2, (Vb v8))] ?_ ?_)));refine cr (wp 1 (aig a1 (97 : UInt8) krf krf (wd a0 (fun h9 a0 => ?_) (fun h9 a0 => ?_))));refine wp 1 (gy 5 (aif a1 (122 : UInt8) krf krf (wp 1 (wd a0 (fun a2 a0 => ?_) (fun a2 a0 => ?_)))));refine wp 8 (wl (ql ?_));obtain rfl := oi a0;exact je hH.kp
 refine wp 1 (gy 9 (aig a1 (65 : UInt8) krf krf (gy 9 (wd a0 (fun a3 a0 => ?_) (fun a3 a0 => ?_)))));refine wp 1 (gy 12 (aif a1 (90 : UInt8) krf krf (wp 3 (wl (ql ?_)))));obtain rfl := oi a0;exact je hH.kp
 refine wp 5 (wl (ql ?_));obtain rfl := oi a0;exact je hH.kp
 refine wp 5 (gy 9 (aig a1 (65 : UInt8) krf krf (gy 9 (wd a0 (fun a4 a0 => ?_) (fun a4 a0 => ?_)))));refine wp 1 (gy 12 (aif a1 (90 : UInt8) krf krf (wp 3 (wl (ql ?_)))));obtain rfl := oi a0;exact je hH.kp
 refine wp 5 (wl (ql ?_));obtain rfl := oi a0;exact je hH.kp
 intro a6 G a5;refine ct ?_;obtain rfl := oi hr;exact rv a5.kp
end Go.Proofs
