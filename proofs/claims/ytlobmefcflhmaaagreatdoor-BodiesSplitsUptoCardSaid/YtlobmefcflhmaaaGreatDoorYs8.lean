/-
  The law BodiesSplits holds (part 8 of 9).
-/
import Derived.Test.YtlobmefcflhmaaaGreatDoorYs7
import Derived.Test.YtlobmefcflhmaaaGreatDoorRows
import Derived.ProofKit
import Derived.OpenShut
import Derived.Deep.DeepHandedRow
import Derived.Lib.LaidTab
import Derived.Shelf.Vars
import Derived.ChangeSame
import Derived.WalkKit
import Derived.SevenTiedAt
import Derived.Deep.Slices
import Derived.ReadAgain
import Derived.Shelf.Strings.Builder1
import Derived.Shelf.Strings.Builder2
import Derived.Shelf.Strings.OnBuilder
import Derived.Shelf.Strings.Trim
import Derived.Shelf.Small.Utf8
import Derived.Shelf.Small.Strs
import Derived.Shelf.Small.Wraps
import Derived.Shelf.Strings.BuilderF
import Derived.Shelf.Strings.BuilderK
import Derived.Shelf.Utf8.RuneCount
import Derived.Shelf.Strings.Builder2Cap
import Derived.Shelf.Strconv.Itoa0
import Derived.Shelf.Strconv.Itoa1
import Derived.Shelf.LaysM
import Derived.Shelf.Strconv.Itoa2
import Derived.Shelf.Strconv.Itoa3
import Derived.Shelf.Strings.Search1
import Derived.Shelf.Strings.Search2
import Derived.Shelf.Strings.Search3
import Derived.Shelf.Strings.Cut
import Derived.Shelf.Strings.Count
import Derived.Shelf.Strings.Shaped
import Derived.Shelf.Strings.LastIndex
import Derived.Shelf.Strings.Prefix
import Derived.Shelf.Strings.Split
import Derived.Shelf.Strings.SplitShaped
import Derived.Shelf.Unicode.Decode
import Derived.Shelf.Strings.Runes
import Derived.Shelf.Strings.RuneCount
import Derived.Shelf.Strings.IndexAny
import Derived.Shelf.Strings.AsciiSet
import Derived.Shelf.Strings.IndexAnyAll
import Derived.Shelf.Strings.Explode
import Derived.Shelf.Unicode.DecodeSlow
import Derived.Shelf.Unicode.DecodeAny
import Derived.Shelf.Unicode.DecodeLast
import Derived.Shelf.Strings.BuilderCap
import Derived.Shelf.Bytes.SlIndexSmall
import Derived.Shelf.Bytes.SlIndexAt
import Derived.Shelf.Bytes.SlSearch0
import Derived.Shelf.Bytes.SlSearch1
import Derived.Shelf.Bytes.SlSearch2
import Derived.Shelf.Bytes.SlIndexWhole
import Derived.Ground.SlbCloneProg
import Derived.Shelf.Bytes.SlClone
import Derived.Shelf.Bytes.SlSmallAll
import Derived.Shelf.Bytes.SlEqualAll
import Derived.Ground.SlbtProg
import Derived.Shelf.Bytes.SlCut
import Derived.Ground.PaProg
import Derived.Shelf.Path.Small
import Derived.Shelf.Bytes.Small
import Derived.Shelf.Bytes.IndexByte
import Derived.Test.YtlobmefcflhmaaaGreatDoorProg
import Derived.Shelf.Strings.SlTrimAscii
open Go.Proofs.Tryz
open Bool renaming false → ν, true → μ
open Go renaming Addr → Γ, IntKind → Ε, Program → Β, TypeId → ω, Value → ξ, World → ο
open Go.Shelf renaming Ren → Ι
open Go.Utf8 renaming encode → ψ
open Go.Value renaming bool → υ, func → Θ, int → Δ, pointer → φ, slice → π
open List renaming flatMap → Η, length → γ
open Option renaming none → ι, some → θ
set_option linter.unusedVariables false
set_option linter.unusedSimpArgs false
set_option maxRecDepth 20000
namespace Go.Proofs
open Go.Wk Go.Px Go.RowKit
theorem lenOf{s:ByteArray}(h:s.size<=maxLen):γ s.data.toList<=9223372036854775807:=tN (by rw[Array.length_toList];exact h) (show maxLen<=9223372036854775807 by decide)
theorem Ni{P:Β}{w:ο}:∀{l:δ (String×DataW Unit)}{c:δ MemPlace},DataW.LaidVars P w l c->∀(i:Nat){n:String}{d:DataW Unit},l[i]? =θ (n,d)->
  ∃g t cs a p,P.globalNamed n=θ g/\(P.globals[g]?).map (·.type)=θ t/\w.var? P n=θ cs/\DataW.trod (λ_=>()) P w 0 (λ_=>μ) ν a t cs.toList=θ (d,p)
 |[],_,_,i,n,d,b=>by simp at b
 |(n',d')::l,c,h,0,n,d,b=>by obtain⟨g,t,cs,a,p,q,m,k,j,f,_,_⟩:=h;simp only[List.getElem?_cons_zero,bG,cR]at b;obtain⟨rfl,rfl⟩:=b;exact⟨g,t,cs,a,p,m,k,j,f⟩
 |(n',d')::l,c,h,i+1,n,d,b=>by obtain⟨g,t,cs,a,p,q,_,_,_,_,e,_⟩:=h;exact Ni e i aC2
variable{P:Β}{w:ο}{g:Nat}{a:Array ξ}
theorem fs{n:String}(c:P.globalNamed n=θ g)(h:w.var? P n=θ a):Vr w g a.toList:=by
 simp only[World.var?,c,cP]at h;split at h
 ·rename_i b t f e;cases h;exact⟨t,f,by rw[e]⟩
 ·cases h
theorem chunks{a:Type}{f:a->δ ξ}{sz:Nat}:∀(zs:δ a) (cs:δ ξ),γ cs=γ zs*sz->(∀(i:Nat) (z:a),zs[i]? =θ z->(cs.drop (i*sz)).take sz=f z)->cs=zs.flatMap f
 |[],cs,b,_=>by simpa using b
 |z::zs,cs,b,h=>by have c:=h 0 z Τ;simp only[Nat.zero_mul,Rl]at c;have e:=chunks (f:=f) (sz:=sz) zs (cs.drop sz) (by rw[JC,b,dH,dB];omega) (λi z' d=>by have:=h (i+1) z' aD5;rw[List.drop_drop,Nat.add_comm,<-dB];exact this);rw[List.flatMap_cons,<-c,<-e,YL]
variable{e:ω}{cs:δ ξ}{p:δ MemPlace}{d:Type}
theorem Qp{n sz:Nat}{t:ω}{dz:d->DataW Unit}{f:d->δ ξ}(zs:δ d)
  (v:P.underlying e=θ (.array n t)) (m:P.cellsOf t=sz) (l:P.cellsOf e=n*sz) (s:γ zs=n)
  (k:∀g c z p,DataW.trod (λ_=>()) P w 0 (λ_=>μ) ν g t c=θ (dz z,p)->c=f z)
  (h:DataW.trod (λ_=>()) P w 0 (λ_=>μ) ν g e cs=θ (.agg (zs.map dz),p)):cs=zs.flatMap f:=by
 cases g with
 |zero=>simp[DataW.trod]at h
 |succ g=>
  simp only[DataW.trod,v,m,l]at h;split at h
  ·rename_i y;obtain⟨r,x,hx⟩:=bU.1 h;have a:r.map (·.1)=zs.map dz:=by have:=bA Prod.fst hx;simpa using this
   refine chunks zs cs (by rw[y,s]) λi z u=> ?_;have j:i<n:=by rw[<-s];exact(aF.1 u).1
   obtain⟨b,B,A⟩:=Lib.mapM_at x i i (by simp[j]);have o:b.1=dz z:=by
    have q:(r.map (·.1))[i]? =θ b.1:=by simp[B]
    rw[a]at q;simp only[bD,u,Option.map_some,bG]at q;exact q.symm
   exact k g _ z b.2 (by rw[A,<-o])
  ·cases h
theorem Yi{p:δ MemPlace}(b:P.underlying e=θ .string)(z:δ ζ)
  (h:DataW.trod (λ_=>()) P w 0 (λ_=>μ) ν g e cs=θ (.lit (.string z),p)):cs=eS z:=by
 obtain⟨s,rfl,hx,_⟩:=DataW.trod_string b h;simp only[cR,DataW.lit.injEq,Lit.string.injEq]at hx;obtain⟨rfl,_⟩:=hx;rfl
variable{k:Ε}
theorem mw{p:δ MemPlace}(b:P.underlying e=θ (.int k))(z:Int)
  (h:DataW.trod (λ_=>()) P w 0 (λ_=>μ) ν g e cs=θ (.lit (.int k z),p)):cs=[.int k z]:=by
 obtain⟨n,rfl,hx,_⟩:=DataW.trod_int b h;simp only[cR,DataW.lit.injEq,Lit.int.injEq]at hx;obtain⟨⟨_,rfl⟩,_⟩:=hx;rfl
theorem N9{a b:ω}{f0 f1:Field}{p:δ MemPlace}(A:P.underlying e=θ (.struct #[f0,f1]))(D:P.underlying a=θ .string)(C:P.underlying b=θ (.int k))
  (n:(f0.type,f0.offset,f1.type,f1.offset)=(a,0,b,1)) (l:P.cellsOf a=1) (j:P.cellsOf b=1) (B:P.cellsOf e=2) (z:δ ζ×Int)
  (h:DataW.trod (λ_=>()) P w 0 (λ_=>μ) ν g e cs=θ (.agg [.lit (.string z.1),.lit (.int k z.2)],p)):cs=[str z.1,.int k z.2]:=by
 obtain⟨q,o⟩:=z;simp only[cR]at n;obtain⟨t0,x,t1,t⟩:=n;cases g with
 |zero=>simp[DataW.trod]at h
 |succ g=>
  simp only[DataW.trod,A,B]at h;split at h
  ·rename_i y;obtain⟨G,m,hx⟩:=bU.1 h;simp only[List.mapM_cons,List.mapM_nil,Option.bind_eq_bind,Option.bind_eq_some_iff,Option.pure_def,bG,t0,t1,x,t,l,j,Rl]at m;obtain⟨s,i,I,⟨r,c,H,rfl,rfl⟩,rfl⟩:=m;simp only[oA,iS,cR,DataW.agg.injEq,TG,and_true]at hx;obtain⟨⟨F,E⟩,_⟩:=hx;have f:=Yi D q (p:=s.2) (by rw[i,<-F]);have d:=mw C o (p:=r.2) (by rw[c,<-E])
   match cs,y,f,d with
   |[u,v],_,f,d=>simp only[List.take_succ_cons,List.take_zero,Hy,Rl,eS,TG,and_true]at f d;rw[f,d]
  ·cases h
theorem intVar{t:ω}{zero:Array ξ}(h:w.ShapedOpen P)(b:g<P.globals.size)
  (c:((begin P (λ_ _=>0) default).world.heap[g]?).bind Obj.row? =θ (zero,t)) (d:zero.size=1)
  (p:P.buildable t=μ) (o:P.cellTypes P.depth t=θ [t]) (f:P.underlying t=θ (.int k)):∃m,Vr w g [.int k m]:=by
 obtain⟨m,j⟩:=cell_of_shapedOpen_int h b c d p o f;obtain⟨cs,a,s,_⟩:=h.1 g zero t b c;refine⟨m,t,(0,0),?_⟩;rw[a];have r:cs.size=1:=aA0
 have q:cs[0]? =θ (.int k m):=by
  have:w.cell? ⟨g,0,ι⟩=cs[0]? :=by simp[World.cell?,a]
  rw[<-this];exact j
 have e:cs=[Δ k m].toArray:=by
  apply ep
  ·simp[r]
  ·intro i n l;have:i=0:=aA0;subst this;simpa [n] using q
 rw[e]
theorem T8(h:w.ShapedOpen P)(b:g<P.globals.size)(d:(((begin P (λ_ _=>0) default).world.heap[g]?).bind Obj.row?).isSome=μ):g+1<=w.heap.size:=by obtain⟨⟨zero,t⟩,c⟩:=CD.1 d;obtain⟨cs,a,_⟩:=h.1 g zero t b c;exact(cG.1 a).1
theorem laidOf{l:δ (String×DataW Unit)}(h:laidMetH P l w)(b:(l.filter λx=>x.2.handleName?.isSome)=[]):∃a,DataW.LaidVars P w l a:=by unfold laidMetH at h;rw[b]at h;obtain⟨a,c,_⟩:=h;exact⟨a,c⟩
theorem postOf{enc:ω×ξ->d}{f:Func}{s:ChangeSpec}{H fresh c:η}{m:ο}{v:ξ}{l gs:δ (DataW d)}{pa pv:δ MemPlace}
  (n:DataW.Whole enc P f.params.toList s.vars H w a.toList l gs p)
  (k:∀(b:Nat) (g:Nat->η) (r:η),DataW.TrodAll enc P m b g r f.resultTypes.toList (v.resultList f.resultTypes.size) (s.fn d (l++gs)).results [])
  (j:∀g:Nat->η,(∀W∈p,g W.block=μ)->DataW.TrodAll enc P m 0 g μ f.params.toList a.toList (s.fn d (l++gs)).args pa)
  (i:∀g:Nat->η,(∀W∈p,g W.block=μ)->DataW.TrodVars enc P m g s.vars (s.fn d (l++gs)).vars pv)
  (q:w.keptBut m (λW=>W∈p/\(W∈([]:δ MemPlace)\/W∈pa\/W∈pv))):s.post enc P f H fresh c ν w a v m:=by
 have e:∀W∈p,(λb=>decide (b<w.heap.size)) W.block=μ:=λW o=>by simpa using n.lt W o
 exact⟨l,gs,p,[],pa,pv,n,k _ _ _,j _ e,i _ e,q,λh=>by cases h⟩
end Go.Proofs
set_option maxRecDepth 100000
namespace Go.Proofs
open Go.Wk Go.Px Go.RowKit
variable{W:ο}
theorem glOf(r:laidMetH prog YtlobmefcflhmaaaGreatDoor.Rows.bodiesSplitsRow.laid W)(j:W.ShapedOpen prog)(q:9<=W.heap.size):Gl W:=by
 obtain⟨u,h⟩:=laidOf r aK;have v0:Vr W 0 (Η eS bo):=by obtain⟨g,t,cs,b,p,a,i,d,c⟩:=Ni h 5 rfl;obtain rfl := aP ((show Tryz.prog.globalNamed "dialtone/header.specials" = θ 0 by kernel_rfl).symm.trans a);obtain rfl:=aP ((show(Tryz.prog.globals[0]?).map (·.type)=θ 102 by kernel_rfl).symm.trans i);have e:=Qp (dz:=λs=>.lit (.string s)) (f:=eS) bo underlying102 (show Tryz.prog.cellsOf 9=1 by kernel_rfl) aK rfl (λ_ _ z _ h=>Yi underlying9 z h) c;have:=fs a d;rw[e]at this;exact this
 have n:Vr W 3 (Η Fi vD):=by obtain⟨g,t,cs,b,p,a,i,d,c⟩:=Ni h 6 rfl;obtain rfl := aP ((show Tryz.prog.globalNamed "dialtone/header.kinds" = θ 3 by kernel_rfl).symm.trans a);obtain rfl:=aP ((show(Tryz.prog.globals[3]?).map (·.type)=θ 181 by kernel_rfl).symm.trans i);have e:=Qp (dz:=λz=>.agg [.lit (.string z.1),.lit (.int .i64 z.2)]) (f:=Fi) vD underlying181 (show Tryz.prog.cellsOf 180=2 by kernel_rfl) aK rfl (λ_ _ z _ h=>N9 underlying180 underlying9 underlying142 rfl aK aK aK z h) c;have:=fs a d;rw[e]at this;exact this
 have l:Vr W 8 (Η eS dv):=by obtain⟨g,t,cs,b,p,a,i,d,c⟩:=Ni h 4 rfl;obtain rfl := aP ((show Tryz.prog.globalNamed "dialtone/address.classes" = θ 8 by kernel_rfl).symm.trans a);obtain rfl:=aP ((show(Tryz.prog.globals[8]?).map (·.type)=θ 259 by kernel_rfl).symm.trans i);have e:=Qp (dz:=λs=>.lit (.string s)) (f:=eS) dv underlying259 (show Tryz.prog.cellsOf 9=1 by kernel_rfl) aK rfl (λ_ _ z _ h=>Yi underlying9 z h) c;have:=fs a d;rw[e]at this;exact this
 have o:Vr W 2 (Lib.pow10Tab.map λz=>Δ .u64 z):=by obtain⟨g,t,cs,b,p,a,i,d,c⟩:=Ni h 2 rfl;obtain rfl := aP ((show Tryz.prog.globalNamed "internal/strconv.uint64pow10" = θ 2 by kernel_rfl).symm.trans a);obtain rfl:=aP ((show(Tryz.prog.globals[2]?).map (·.type)=θ 172 by kernel_rfl).symm.trans i);have e:=Lib.cells_of_tab (zs:=Lib.pow10Tab) (k:=.u64) underlying172 underlying132 aK aK c;have:=fs a d;rw[e]at this;exact this
 have v1:∃m,Vr W 1 [.int .i64 m]:=intVar (zero:= #[.int .i64 0]) (t:=3) j (bX aK) aK Τ aK aK underlying3;exact {gs:=q,specials:=v0,kinds:=n,classes:=l,pow10:=o,maxlen:=v1}
def WD(g:Nat)(o:Obj):Obj:=
 match o with
 |.cells c t a=>.cells (match g with
  |6=>(([0,1,28,2,29,14,24,3,30,22,20,15,25,17,4,8,31,27,13,23,21,19,16,7,26,12,18,6,11,5,10,9]:δ Int).map (Δ .u8)).toArray
  |7=>(([0,1,56,2,57,49,28,3,61,58,42,50,38,29,17,4,62,47,59,36,45,43,51,22,53,39,33,30,24,18,12,5,63,55,48,27,60,41,37,16,46,35,44,21,52,32,23,11,54,26,40,15,34,20,31,10,25,14,19,9,13,8,7,6]:δ Int).map (Δ .u8)).toArray
  |2=>(([1,10,100,1000,10000,100000,1000000,10000000,100000000,1000000000,10000000000,100000000000,1000000000000,10000000000000,100000000000000,1000000000000000,10000000000000000,100000000000000000,1000000000000000000,10000000000000000000]:δ Int).map (Δ .u64)).toArray
  |5=>(([128,191,160,191,128,159,144,191,128,143,0,0,0,0,0,0,0,0,0,0,0,0,0,0,0,0,0,0,0,0,0,0]:δ Int).map (Δ .u8)).toArray
  |8=> #[str [38,61,43,36,44,59,63,47],str [91,93,47,58,38,43,36],str [91,93,47,63,58,43,36]]
  |0=> #[str [67,97,108,108,45,73,68],str [67,83,101,113],str [77,73,77,69,45,86,101,114,115,105,111,110],str [77,105,110,45,83,69],str [82,65,99,107],str [82,83,101,113],str [87,87,87,45,65,117,116,104,101,110,116,105,99,97,116,101]]
  |3=> #[str [70,114,111,109],.int .i64 1,str [84,111],.int .i64 1,str [67,111,110,116,97,99,116],.int .i64 1,str [82,111,117,116,101],.int .i64 1,str [82,101,99,111,114,100,45,82,111,117,116,101],.int .i64 1,str [80,97,116,104],.int .i64 1,str [83,101,114,118,105,99,101,45,82,111,117,116,101],.int .i64 1,str [82,101,102,101,114,45,84,111],.int .i64 1,str [82,101,102,101,114,114,101,100,45,66,121],.int .i64 1,str [82,101,112,108,121,45,84,111],.int .i64 1,str [86,105,97],.int .i64 2,str [67,83,101,113],.int .i64 3,str [82,65,99,107],.int .i64 4,str [67,111,110,116,101,110,116,45,76,101,110,103,116,104],.int .i64 5,str [69,120,112,105,114,101,115],.int .i64 5,str [77,97,120,45,70,111,114,119,97,114,100,115],.int .i64 5,str [77,105,110,45,69,120,112,105,114,101,115],.int .i64 5,str [82,83,101,113],.int .i64 5,str [67,111,110,116,101,110,116,45,68,105,115,112,111,115,105,116,105,111,110],.int .i64 6,str [67,111,110,116,101,110,116,45,84,121,112,101],.int .i64 6,str [69,118,101,110,116],.int .i64 6,str [77,105,110,45,83,69],.int .i64 6,str [83,101,115,115,105,111,110,45,69,120,112,105,114,101,115],.int .i64 6,str [83,117,98,115,99,114,105,112,116,105,111,110,45,83,116,97,116,101],.int .i64 6,str [65,99,99,101,112,116],.int .i64 7,str [65,108,108,111,119],.int .i64 7,str [65,108,108,111,119,45,69,118,101,110,116,115],.int .i64 7,str [80,114,111,120,121,45,82,101,113,117,105,114,101],.int .i64 7,str [82,101,113,117,105,114,101],.int .i64 7,str [83,117,112,112,111,114,116,101,100],.int .i64 7,str [85,110,115,117,112,112,111,114,116,101,100],.int .i64 7]
  |4=>(Go.Pinned.utf8FirstZ.map λ(z:Nat)=>Δ .u8 (z:Int)).toArray
  |_=>c) t a
 |o=>o
noncomputable def Ee(a:Os):ο:={World.holding prog a ⟨#[],#[],[]⟩with heap:=(World.holding prog a ⟨#[],#[],[]⟩).heap.mapIdx WD}
theorem own:ownKnob Tryz.prog.godebug=ι:=by kernel_rfl
open YtlobmefcflhmaaaGreatDoor.Rows (uptoBulk uptoBulkAll)
theorem KQ{a:ο}(h:Below W.heap.size W a){p:MemPlace}(c:p.block<W.heap.size):W.sameAt a p:=by
 cases p with
 |cell b off=>show a.cell? _=W.cell? _;unfold World.cell?;rw[h.block b c]
 |map b=>exact h.block b c
theorem IE{H:Type}{enc:ω×ξ->H}{P:Β}{W g:ο}{c:Nat->η}:∀{b:δ ω}{vs:δ ξ}{f:δ (DataW H)}{a:δ MemPlace},DataW.TrodAll enc P W 0 c μ b vs f a->(∀p∈a,W.sameAt g p)->DataW.TrodAll enc P g 0 c μ b vs f a
 |[],[],[],_,h,_=>h
 |_::_,_::_,_::_,_,⟨p,q,⟨n,j⟩,i,e⟩,d=>⟨p,q,⟨n,DataW.trod_carry n _ _ _ j λx hx=>d x (by rw[e];exact List.mem_append_left _ hx)⟩,IE i λx hx=>d x (by rw[e];exact List.mem_append_right _ hx),e⟩
theorem Xa{H:Type}{enc:ω×ξ->H}{P:Β}{W j:ο}{b:δ ω}{vs:δ ξ}{i:δ (DataW H)}{a:δ MemPlace}(n:laidOutB P=μ)(m:mapsRowed P=μ)
  (o:((List.range P.types.size).all λt=>match P.underlying t with|some (.slice e)=>decide (0<P.cellsOf e)|_=>μ)=μ) (c:(b.all λt=>decide (t<P.types.size))=μ)
  (h:DataW.TrodAll enc P W 0 (λ_=>μ) μ b vs i a) (q:Below W.heap.size W j) (f:∀p∈a,p.block<W.heap.size) (g:Nat->η) (d:∀p∈a,g p.block=μ):DataW.TrodAll enc P j 0 g μ b vs i a:=by
 refine IE (DataW.TrodAll.respare (kids_rows n m) (slices_full_of P o) (λt k=> ?_) h d) λp l=>KQ q (f p l);have:=aT.1 c t k;simpa using this
def Dec(P:Β)(w:ο){H:Type}(enc:ω×ξ->H){c:Type}(t:ω)(f:c->δ ξ)(a:c->Prop)(sz:c->Nat):Prop:=
 ∀base d e b cs x,DataW.trod enc P w base d e b t cs=θ x->∃z,cs=f z/\a z/\sz z<=uptoBulk x.1
section
variable{P:Β}{w:ο}{H:Type}{enc:ω×ξ->H}{t:ω}
theorem MP(b:P.underlying t=θ .string):Dec P w enc t eS (λs=>γ s<=9223372036854775807) (λs=>γ s):=by intro base d e a cs x h;obtain⟨s,rfl,hx,c⟩:=DataW.trod_string b h;refine⟨s.data.toList,Τ,lenOf c,?_⟩;rw[hx];simp[uptoBulk]
variable{b:Type}
theorem MV{n:Nat}{D:Nat->DataW H}{sz:b->Nat}:∀(zs:δ b),γ zs=n->(∀i (h:i<γ zs),sz zs[i]<=uptoBulk (D i))->(zs.map sz).sum<=uptoBulkAll ((List.range n).map D):=by
 intro zs;induction zs generalizing n D with
 |nil=>intro a _;subst a;simp
 |cons z zs d=>intro a h;subst a;have c:=h 0 aA2;have:=d (n:=γ zs) (D:=λi=>D (i+1)) Τ (λi e=>by have:=h (i+1) aA3;simpa using this);rw[dH,List.range_succ_eq_map,oA,oA,CE,uptoBulkAll,lK];simp only[List.getElem_cons_zero]at c;exact Nat.add_le_add c this
variable{a n:Nat}{cs:δ ξ}
theorem XR{f:Γ}(h:w.cells? a f n=θ cs):γ cs=n/\∀j v,cs[j]? =θ v->w.cell? (f.add j)=θ v:=by obtain⟨e,d,c⟩:=World.cells?_some h;exact⟨d,λj v b=>(c j (by have:=(aF.1 b).1;omega)).trans b⟩
variable{e:ω}{J:Nat->η}{S:η}{x:DataW H×δ MemPlace}
theorem XO{f:b->δ ξ}{c:b->Prop}{sz:b->Nat}(L:P.underlying t=θ (.slice e))(R:Dec P w enc e f c sz)
  (h:DataW.trod enc P w a J S n t cs=θ x):∃g q cap,∃zs:δ b,cs=[.slice g q cap]/\q=γ zs/\q<=cap/\Rd w g (zs.flatMap f)/\(∀z∈zs,c z)/\(zs.map sz).sum<=uptoBulk x.1:=by
 rcases Deep.open_slice L h with⟨rfl,rfl⟩|⟨g,len,cap,m,q,D,Y,rfl,X,O,V,B,rfl,hx⟩
 ·exact⟨ι,0,0,[],Τ,Τ,qB _,λj v Z=>by simp at Z,λz u=>by simp at u,Nat.zero_le _⟩
 ·have N:len<=m:=by rw[B];split<;>omega
  have key:∀k,k<=len->∃zs:δ b,γ zs=k/\(∀z∈zs,c z)/\(∀i (r:i<γ zs),sz zs[i]<=uptoBulk (D i))/\γ (zs.flatMap f)=k*P.cellsOf e/\∀j v,(zs.flatMap f)[j]? =θ v->w.cell? (g.add j)=θ v:=by
   intro k;induction k with
   |zero=>intro _;exact⟨[],Τ,λz u=>by simp at u,λi r=>by simp at r,aA2,λj v Z=>by simp at Z⟩
   |succ k K=>
    intro W;obtain⟨zs,d,I,G,s,F⟩:=K aA0;obtain⟨U,T,A⟩:=hx k aA0;obtain⟨z,rfl,Q,M⟩:=R _ _ _ _ _ _ A;obtain⟨C,E⟩:=XR T;refine⟨zs++[z],by simp[d],λy l=> ?_,λi r=> ?_,?_,λj v Z=> ?_⟩
    ·rcases aV.1 l with l|l
     ·exact I y l
     ·rw[aH.1 l];exact Q
    ·by_cases p:i<γ zs
     ·rw[List.getElem_append_left p];exact G i p
     ·have:i=k:=by simp at r;omega
      subst this;simp only[d.symm,List.getElem_concat_length];rw[d];exact M
    ·simp[s,C,dB]
    ·rw[List.flatMap_append,iT]at Z;by_cases o:j<γ (zs.flatMap f)
     ·rw[aJ o]at Z;exact F j v Z
     ·rw[aO aA0,s]at Z;have:=E _ _ Z;rw[s]at o;have e:(g.add (k*P.cellsOf e)).add (j-k*P.cellsOf e)=g.add j:=by rw[Go.Wk.add_add];congr 1;omega
      rw[e]at this;exact this
  obtain⟨zs,d,I,G,s,F⟩:=key len (qB _);refine⟨θ g,len,cap,zs,Τ,d.symm,O,λj v Z=>⟨g,Τ,F j v Z⟩,I,?_⟩;have:=MV (sz:=sz) zs d G;simp only[uptoBulk];omega
theorem oy(b:P.underlying t=θ (.int .u8)):Dec P w enc t eB (λ_=>True) (λ_=>1):=by
 intro base d e a cs x h;obtain⟨n,rfl,hx,c⟩:=DataW.trod_int b h;have f:0<=n/\n<=255:=by simpa [Lit.wf,show IntKind.u8.min=0 by decide,show IntKind.u8.max=255 by decide] using c
 refine⟨UInt8.ofNat n.toNat,?_,trivial,?_⟩
 ·have:((UInt8.ofNat n.toNat).toNat)=n:=by rw[iN];omega
  simp only[eB,bt,this]
 ·rw[hx];simp[uptoBulk]
theorem OQ{b:Type}:∀l:δ b,(l.map λ_=>1).sum=γ l
 |[]=>rfl
 |a::l=>by rw[oA,CE,OQ l,dH];omega
theorem XP(f:P.underlying t=θ (.slice e))(g:P.underlying e=θ (.int .u8))
  (h:DataW.trod enc P w a J S n t cs=θ x):∃d b cap,∃zs:δ ζ,cs=[.slice d b cap]/\b=γ zs/\b<=cap/\Rd w d (zs.flatMap eB)/\(∀z∈zs,True)/\γ zs<=uptoBulk x.1:=by
 obtain⟨d,b,cap,zs,o,m,l,k,j,c⟩:=XO f (oy g) h;rw[OQ]at c;exact⟨d,b,cap,zs,o,m,l,k,j,c⟩
def uj:TypeDesc->η
 |.struct _=>ν
 |.array _ _=>ν
 |_=>μ
theorem Vh{v x:ξ}{ty:TypeDesc}(b:P.underlying t=θ ty)(d:Value.okWide P w .any a t v)(c:uj ty=μ)(e:v.cells.toList=[x]):v=x:=by
 cases v with
 |agg cs=>unfold Value.okWide Cell.okWide Cell.ok at d;rw[b]at d;cases ty<;>first|(simp[uj]at c;done)|simp at d
 |_=>simpa [Value.cells] using e
end
open Go.Shelf
open Go.Lib renaming cut → eF, hasPrefix → jF, index → cO, indexAny → Cz, itoa → gK, join → cK, trimPrefix → eH
open _root_.Array renaming replicate → JE
def Tryz.Hf:Ι:=⟨λ|169=>91|n=>n,λ|70=>110|9=>9|0=>0|72=>112|37=>22|127=>138|3=>3|5=>5|n=>n,λ|n=>n⟩
theorem Tryz.lf:Go.Proofs.Lays.n169 prog Tryz.Hf:=CM
theorem Tryz.Cr:Builder.Extra prog Tryz.Hf:=CM
def Tryz.Hg:Ι:=⟨λ|156=>62|165=>89|166=>90|169=>91|240=>117|241=>118|276=>153|277=>154|n=>n,λ|31=>89|9=>9|3=>3|4=>4|0=>0|20=>20|72=>112|76=>116|70=>110|37=>22|75=>115|127=>138|164=>176|5=>5|80=>118|n=>n,λ|n=>n⟩
theorem Tryz.QV:Go.Proofs.Lays.n156 prog Tryz.Hg:=CM
theorem Tryz.lW:Builder.Extra prog Tryz.Hg:=CM
open Go.RowKit in
theorem Tryz.strings_Join_none (a : ε Γ) (c : Nat) (sep : ByteArray) (w : ο) :
    Calls prog 62 #[.slice a 0 c,.string sep] w λe w' => e = .returned (.string ⟨#[]⟩) /\ w' = w := Any.strings_Join_none Tryz.QV Tryz.lW a c sep w
open Go.RowKit in
theorem Tryz.strings_Join (g o c : Nat) (b : δ ByteArray) (sep : ByteArray) (w : ο) (a : ∀ (j : Nat) x,b[j]? = θ x -> w.cell? ⟨g,o + j,ι⟩ = θ (.string x)) (h : g < w.heap.size) (i : γ b <= 140737488355328) (f : γ b <= c) (d : γ (cK (b.map (·.data.toList)) sep.data.toList) <= 140737488355328) :
    Calls prog 62 #[.slice (θ ⟨g,o,ι⟩) (γ b) c,.string sep] w λe w' => e = .returned (.string ⟨(cK (b.map (·.data.toList)) sep.data.toList).toArray⟩) /\ Below w.heap.size w w' := Any.strings_Join Tryz.QV Tryz.lW g o c b sep w a h i f d
def Tryz.FR:Ι:=⟨λ|161=>272|231=>92|227=>94|233=>95|235=>97|228=>119|197=>120|151=>121|260=>155|152=>156|137=>171|119=>190|224=>78|225=>85|217=>84|266=>115|n=>n,λ|9=>9|4=>4|3=>3|5=>5|117=>122|116=>121|0=>0|124=>125|105=>139|21=>21|119=>198|46=>106|139=>201|138=>200|n=>n,λ|3=>4|4=>5|n=>n⟩
theorem Tryz.lj:Go.Proofs.Lays.n161 prog Tryz.FR:=CM
def Tryz.FQ:Ι:=⟨λ|162=>64|232=>93|227=>94|234=>96|236=>98|228=>119|271=>122|151=>121|120=>157|197=>120|152=>156|260=>155|137=>171|119=>190|224=>78|225=>85|217=>84|266=>115|n=>n,λ|9=>9|4=>4|3=>3|5=>5|117=>122|116=>121|0=>0|124=>125|21=>21|105=>139|46=>106|119=>198|139=>201|138=>200|n=>n,λ|3=>4|4=>5|n=>n⟩
theorem Tryz.lh:Go.Proofs.Lays.n162 prog Tryz.FQ:=CM
def Tryz.FT:Ι:=⟨λ|160=>63|232=>93|231=>92|227=>94|234=>96|233=>95|236=>98|235=>97|228=>119|271=>122|151=>121|197=>120|120=>157|152=>156|260=>155|137=>171|119=>190|224=>78|225=>85|217=>84|266=>115|n=>n,λ|9=>9|4=>4|3=>3|5=>5|117=>122|116=>121|0=>0|124=>125|21=>21|105=>139|46=>106|119=>198|139=>201|138=>200|n=>n,λ|3=>4|4=>5|n=>n⟩
theorem Tryz.ll:Go.Proofs.Lays.n160 prog Tryz.FT:=CM
def Tryz.GB:Ι:=⟨λ|137=>171|217=>84|266=>115|n=>n,λ|9=>9|5=>5|3=>3|n=>n,λ|n=>n⟩
theorem Tryz.lx:Go.Proofs.Lays.n137 prog Tryz.GB:=CM
open Go.RowKit in
theorem Tryz.strings_IndexByte (s : ByteArray) (c : Int) (w : ο) :
    Calls prog 171 #[.string s,.int .u8 c] w λe w' => e = .returned (.int .i64 (Lib.indexByte s.data.toList c.toNat.toUInt8)) /\ w' = w := Any.strings_IndexByte Tryz.lx s c w
def Tryz.GC:Ι:=⟨λ|103=>33|210=>55|206=>58|n=>n,λ|9=>9|4=>4|24=>59|3=>3|n=>n,λ|n=>n⟩
theorem Tryz.ly:Go.Proofs.Lays.n103 prog Tryz.GC:=CM
open Go.RowKit in
theorem Tryz.strings_CutPrefix (s p : ByteArray) (w : ο) :
    Calls prog 33 #[.string s,.string p] w λe w' => e = .returned (.tuple #[.string ⟨(eH s.data.toList p.data.toList).toArray⟩,.bool (jF s.data.toList p.data.toList)]) /\ w' = w := Any.strings_CutPrefix Tryz.ly s p w
def Tryz.AF:Ι:=⟨λ|171=>27|243=>51|246=>82|283=>111|284=>112|285=>113|286=>114|129=>149|317=>148|318=>150|319=>151|320=>152|337=>188|338=>189|n=>n,λ|3=>3|9=>9|2=>2|4=>4|171=>131|0=>0|53=>132|37=>22|5=>5|173=>135|212=>172|51=>128|20=>20|213=>173|46=>106|232=>235|233=>236|n=>n,λ|17=>2|18=>6|19=>7|n=>n⟩
theorem Tryz.Q4:Go.Proofs.LaysM.n171 prog Tryz.AF:=CM
open Go.RowKit Go.Sort Go.Lib in
theorem Tryz.strconv_Itoa (n : Int) (d : -9223372036854775808 <= n) (c : n <= 9223372036854775807) (w : ο) (a : Lib.TabIs prog w "internal/strconv.uint64pow10" .u64 Lib.pow10Tab) :
    Calls prog 27 #[.int .i64 n] w λe w' => e = .returned (.string ⟨(gK n).toArray⟩) /\ ∃ k b,w' = grow (w.drewN k) b := Any.strconv_Itoa Tryz.Q4 n d c w a
def Tryz.GA:Ι:=⟨λ|143=>31|219=>53|217=>84|225=>85|224=>78|267=>86|266=>115|314=>116|n=>n,λ|9=>9|3=>3|4=>4|5=>5|46=>106|146=>129|51=>128|n=>n,λ|1=>1|n=>n⟩
theorem Tryz.lv:Go.Proofs.Lays.n143 prog Tryz.GA:=CM
open Go.RowKit Go.Lib in
theorem Tryz.strings_Index (s sub : ByteArray) (m : Int) (w : ο) (a : s.size < 4294967281) (b : w.cell? ⟨1,0,ι⟩ = θ (.int .i64 m)) :
    Calls prog 31 #[.string s,.string sub] w λe w' => e = .returned (.int .i64 (cO s.data.toList sub.data.toList)) /\ w' = w := Any.strings_Index Tryz.lv s sub m w a b
def Tryz.FZ:Ι:=⟨λ|144=>194|143=>31|219=>53|217=>84|225=>85|224=>78|267=>86|266=>115|314=>116|n=>n,λ|9=>9|4=>4|3=>3|5=>5|46=>106|146=>129|51=>128|n=>n,λ|1=>1|n=>n⟩
theorem Tryz.lu:Go.Proofs.Lays.n144 prog Tryz.FZ:=CM
open Go.RowKit Go.Lib in
theorem Tryz.strings_Contains (s sub : ByteArray) (m : Int) (w : ο) (a : s.size < 4294967281) (b : w.cell? ⟨1,0,ι⟩ = θ (.int .i64 m)) :
    Calls prog 194 #[.string s,.string sub] w λe w' => e = .returned (.bool (Lib.contains s.data.toList sub.data.toList)) /\ w' = w := Any.strings_Contains Tryz.lu s sub m w a b
def Tryz.FY:Ι:=⟨λ|145=>36|220=>59|219=>53|217=>84|225=>85|224=>78|267=>86|266=>115|314=>116|n=>n,λ|9=>9|4=>4|59=>62|3=>3|5=>5|46=>106|146=>129|51=>128|n=>n,λ|1=>1|n=>n⟩
theorem Tryz.ls:Go.Proofs.Lays.n145 prog Tryz.FY:=CM
open Go.RowKit Go.Lib in
theorem Tryz.strings_Cut (s sep : ByteArray) (m : Int) (w : ο) (a : s.size < 4294967281) (b : w.cell? ⟨1,0,ι⟩ = θ (.int .i64 m)) :
    Calls prog 36 #[.string s,.string sep] w λe w' => e = .returned (.tuple #[.string ⟨(eF s.data.toList sep.data.toList).1.toArray⟩,.string ⟨(eF s.data.toList sep.data.toList).2.1.toArray⟩,.bool (eF s.data.toList sep.data.toList).2.2]) /\ ∃ n,w' = w.drewN n := Any.strings_Cut Tryz.ls s sep m w a b
def Tryz.FW:Ι:=⟨λ|149=>207|222=>248|n=>n,λ|9=>9|5=>5|3=>3|4=>4|n=>n,λ|n=>n⟩
theorem Tryz.lq:Go.Proofs.Lays.n149 prog Tryz.FW:=CM
open Go.RowKit Go.Lib in
theorem Tryz.strings_LastIndexByte (s : ByteArray) (c : Int) (a : s.size < 4611686018427387904) (w : ο) :
    Calls prog 207 #[.string s,.int .u8 c] w λe w' => e = .returned (.int .i64 (Lib.lastIndexByte s c)) /\ w' = w := Any.strings_LastIndexByte Tryz.lq s c a w
def Tryz.GD:Ι:=⟨λ|101=>286|208=>298|206=>58|n=>n,λ|9=>9|4=>4|3=>3|n=>n,λ|n=>n⟩
theorem Tryz.lz:Go.Proofs.Lays.n101 prog Tryz.GD:=CM
open Go.RowKit Go.Lib in
theorem Tryz.strings_TrimPrefix (s p : ByteArray) (w : ο) :
    Calls prog 286 #[.string s,.string p] w λe w' => e = .returned (.string ⟨(eH s.data.toList p.data.toList).toArray⟩) /\ w' = w := Any.strings_TrimPrefix Tryz.lz s p w
def Tryz.FX:Ι:=⟨λ|146=>250|221=>273|268=>288|138=>289|143=>31|195=>300|197=>120|218=>301|219=>53|260=>155|217=>84|225=>85|224=>78|267=>86|266=>115|314=>116|n=>n,λ|9=>9|31=>89|3=>3|4=>4|0=>0|105=>139|21=>21|5=>5|46=>106|119=>198|139=>201|138=>200|146=>129|51=>128|n=>n,λ|1=>1|3=>4|4=>5|n=>n⟩
theorem Tryz.lr:Go.Proofs.Lays.n146 prog Tryz.FX:=CM
open Go.RowKit Go.Lib in
theorem Tryz.strings_Split (s sep : ByteArray) (m : Int) (w : ο) (a : s.size < 4294967281) (b : w.cell? ⟨1,0,ι⟩ = θ (.int .i64 m)) (c : 1 <= sep.size) :
    Calls prog 250 #[.string s,.string sep] w λe w' =>
      e = .returned (.slice (θ ⟨w.heap.size,0,ι⟩) (Lib.countB s sep + 1) (Lib.countB s sep + 1)) /\ w' = w.alloc (.cells ((Lib.splitB sep 0 (Lib.countB s sep) s).map Value.string).toArray 9) := Any.strings_Split Tryz.lr aK s sep m w a b c
def Tryz.FV:Ι:=⟨λ|153=>162|152=>156|226=>206|227=>94|228=>119|137=>171|119=>190|224=>78|225=>85|217=>84|266=>115|n=>n,λ|9=>9|3=>3|4=>4|5=>5|21=>21|117=>122|116=>121|0=>0|46=>106|124=>125|n=>n,λ|n=>n⟩
theorem Tryz.Jt:Go.Proofs.Lays.n153 prog Tryz.FV:=CM
open Go.RowKit Go.Lib in
theorem Tryz.strings_IndexAny_none (s a : ByteArray) (w : ο) (b : a.size = 0) :
    Calls prog 162 #[.string s,.string a] w λe w' => e = .returned (.int .i64 (Cz s.data.toList a.data.toList)) /\ w' = w := Any.strings_IndexAny_none Tryz.Jt s a w b
open Go.RowKit Go.Lib in
theorem Tryz.strings_IndexAny_one (s a : ByteArray) (w : ο) (d : a.size = 1) (c : ∀ (j : Nat) b,a.data.toList[j]? = θ b -> b.toNat < 128) :
    Calls prog 162 #[.string s,.string a] w λe w' => e = .returned (.int .i64 (Cz s.data.toList a.data.toList)) /\ w' = w := Any.strings_IndexAny_one Tryz.Jt s a w d c
open Go.RowKit Go.Lib in
theorem Tryz.strings_IndexAny_long (d : ∀ w,(zeroValue 121).run prog w = .ok (.agg (JE 256 (.bool ν))) w) (s a : ByteArray) (w : ο) (i : 2 <= a.size) (h : 8 < s.size) (g : s.size < 4294967281) (f : a.size < 4294967281) (c : ∀ (j : Nat) b,a.data.toList[j]? = θ b -> b.toNat < 128) :
    Calls prog 162 #[.string s,.string a] w λe w' => e = .returned (.int .i64 (Cz s.data.toList a.data.toList)) /\ w' = ((w.alloc (.cells (Lib.setCells a.data.toList) 121)).alloc (.cells (Lib.setCells a.data.toList) 121)) := Any.strings_IndexAny_long Tryz.Jt d aK s a w i h g f c
open Go.RowKit Go.Lib in
theorem Tryz.strings_IndexAny_laid (s a : ByteArray) (w : ο) (g : s.size < 4294967281) (c : a.size < 4294967281) (d : ∀ (j : Nat) b,s.data.toList[j]? = θ b -> b.toNat < 128) (f : ∀ (j : Nat) b,a.data.toList[j]? = θ b -> b.toNat < 128) :
    Calls prog 162 #[.string s,.string a] w λe w' => e = .returned (.int .i64 (Cz s.data.toList a.data.toList)) /\ Below w.heap.size w w' := Any.strings_IndexAny_laid Tryz.Jt aK s a w g c d f
def Tryz.FP:Ι:=⟨λ|185=>48|187=>76|115=>47|253=>77|224=>78|254=>79|255=>104|291=>105|n=>n,λ|37=>22|3=>3|4=>4|0=>0|5=>5|46=>106|9=>9|146=>129|51=>128|n=>n,λ|1=>1|n=>n⟩
theorem Tryz.QU:Go.Proofs.Lays.n185 prog Tryz.FP:=CM
open Go.Proofs Go.RowKit Go.Lib in
theorem Tryz.bytes_Index_at (o l : Γ) (n j k p : Nat) (b a : δ Int) (m : Int) (w : ο) (hx : γ b = n) (r : γ a = k) (f : ∀ x ∈ b,0 <= x /\ x < 256) (d : ∀ y ∈ a,0 <= y /\ y < 256) (h : ∀ i,i < n -> w.cell? (o.add i) = θ (.int .u8 (b.getD i 0))) (g : ∀ i,i < k -> w.cell? (l.add i) = θ (.int .u8 (a.getD i 0))) (c : n <= j) (s : n < 4294967281) (u : k <= 9223372036854775807) (t : w.cell? ⟨1,0,ι⟩ = θ (.int .i64 m)) :
    Calls prog 48 #[.slice (θ o) n j,.slice (θ l) k p] w λe w' => e = .returned (.int .i64 (cO (Lib.bytesOf b) (Lib.bytesOf a))) /\ ∃ q,w' = w.drewN q := Any.bytes_Index_at Tryz.QU o l n j k p b a m w hx r f d h g c s u t
open Go.Proofs Go.RowKit Go.Lib in
theorem Tryz.bytes_Index_nil (a : ε Γ) (k c : Nat) (w : ο) (f : k <= 9223372036854775807) (g : k = 1 -> ∃ d b cv,a = θ ⟨d,b,ι⟩ /\ w.cell? ⟨d,b,ι⟩ = θ (.int .u8 cv)) :
    Calls prog 48 #[.slice ι 0 0,.slice a k c] w λe w' => e = .returned (.int .i64 (if k = 0 then 0 else -1)) /\ w' = w := Any.bytes_Index_nil Tryz.QU a k c w f g
end Go.Proofs
set_option maxRecDepth 20000
namespace Go.Proofs
open Go.Wk Go.Px
open Go.Value renaming slice → Vs, int → Vi, bool → Vb, pointer → Vp
open Go.Lib renaming cut → eF, hasPrefix → jF, index → cO, indexAny → Cz, itoa → gK, join → cK, trimLeftS → Gh, trimPrefix → eH
open List renaming flatMap → oD
open _root_.Array renaming replicate → JE
theorem oQ(s:δ ζ)(c:ζ)(w:ο):CR prog 171 [str s,bt c] w λv w'=>v=.int .i64 (dM (·==c) s)/\Hp w [] [] w':=by have h:=Tryz.strings_IndexByte ⟨s.toArray⟩ c.toNat w;rw[show((c.toNat:Int).toNat.toUInt8)=c by simp]at h;rw[<-wB];exact dm h
theorem Dj(s:δ ζ)(c:ζ)(w:ο)(a:γ s<=1000000000):CR prog 207 [str s,bt c] w λv w'=>v=.int .i64 (kR (·==c) s)/\Hp w [] [] w':=by have h:=Tryz.strings_LastIndexByte ⟨s.toArray⟩ (c.toNat:Int) aC7 w;rw[xM]at h;exact dm h
theorem DH(s t:δ ζ)(w:ο)(c:γ s<=1000000000)(b:Gl w):CR prog 194 [str s,str t] w λv w'=>v=.bool (Lib.contains s t)/\Hp w [] [] w':=by obtain⟨m,a⟩:=b.cell;exact dm (Tryz.strings_Contains _ _ m w aC7 a)
theorem Lp(s t:δ ζ)(w:ο)(c:γ s<=1000000000)(b:Gl w):CR prog 31 [str s,str t] w λv w'=>v=.int .i64 (cO s t)/\Hp w [] [] w':=by obtain⟨m,a⟩:=b.cell;exact dm (Tryz.strings_Index _ _ m w aC7 a)
theorem G4(s t:δ ζ)(w:ο)(c:γ s<=1000000000)(b:Gl w):CR prog 36 [str s,str t] w λv w'=>v=.tuple #[str (eF s t).1,str (eF s t).2.1,.bool (eF s t).2.2]/\Hp w [] [] w':=by obtain⟨m,a⟩:=b.cell;exact SE (Tryz.strings_Cut _ _ m w aC7 a)
theorem zQ(s t:δ ζ)(w:ο):CR prog 33 [str s,str t] w λv w'=>v=.tuple #[str (eH s t),.bool (jF s t)]/\Hp w [] [] w':=by exact dm (Tryz.strings_CutPrefix _ _ w)
theorem Sf(s t:δ ζ)(w:ο):CR prog 286 [str s,str t] w λv w'=>v=str (eH s t)/\Hp w [] [] w':=by exact dm (Tryz.strings_TrimPrefix _ _ w)
theorem OW(s t:δ ζ)(w:ο)(c:γ s<=1000000000)(a:γ t<=1000/\t.all (λb=>decide (b.toNat<128))=μ):CR prog 63 [str s,str t] w λv w'=>v=str (Lib.trimS s t)/\Hp w [] [] w':=by exact sV (Any.strings_Trim_laid Tryz.ll aK _ _ w (by show γ s<=_;omega) aD6 (ascii_of_all a.2))
theorem DG(s t:δ ζ)(w:ο)(c:γ s<=1000000000)(a:γ t<=1000/\t.all (λb=>decide (b.toNat<128))=μ):CR prog 272 [str s,str t] w λv w'=>v=str (Gh s t)/\Hp w [] [] w':=by exact sV (Any.strings_TrimLeft_laid Tryz.lj aK _ _ w aD6 (ascii_of_all a.2))
theorem Yo(s t:δ ζ)(w:ο)(c:γ s<=1000000000)(a:γ t<=1000/\t.all (λb=>decide (b.toNat<128))=μ):CR prog 64 [str s,str t] w λv w'=>v=str (Lib.trimRightS s t)/\Hp w [] [] w':=by exact sV (Any.strings_TrimRight_laid Tryz.lh aK _ _ w (by show γ s<=_;omega) aD6 (ascii_of_all a.2))
theorem OX(i:Int)(w:ο)(a:bJ i)(g:Gl w):CR prog 27 [.int .i64 i] w λv w'=>v=str (gK i)/\Hp w [] [] w':=by
 obtain⟨t,f,e⟩:=g.pow10;have d : Lib.TabIs prog w "internal/strconv.uint64pow10" .u64 Lib.pow10Tab := by unfold Lib.TabIs World.var?;rw[show Tryz.prog.globalNamed "internal/strconv.uint64pow10" = θ 2 by kernel_rfl];simp[e]
 have h:=Tryz.strconv_Itoa i a.1 a.2 w d;exact Calls.mono h λ_ _ ⟨e,k,b,c⟩=>⟨_,e,Τ,c▸na k b⟩
theorem G3(s:δ ζ)(c:ζ)(w:ο)(i:γ s<=1000000000)(f:Gl w):CR prog 250 [str s,str [c]] w λv w'=>∃o a cap,v=.slice a (γ (cJ c s)) cap/\Hp w [] [bM eS 9 1 o a cap (cJ c s)] w':=by
 obtain⟨m,d⟩:=f.cell;have h:=Tryz.strings_Split ⟨s.toArray⟩ ⟨#[c]⟩ m w aC7 d (by show 1<=1;omega);rw[UA,Sd]at h;refine Calls.mono h ?_;rintro _ _ ⟨rfl,rfl⟩;have g:=(Hp.refl w).alloc ((cJ c s).map str) 9;have:=(pz c s).1
 have e:(cJ c s).flatMap eS=(cJ c s).map str:=by
  generalize cJ c s=l;induction l with
  |nil=>rfl
  |cons x l b=>rw[Rw,b];rfl
 exact⟨_,Τ,θ w.heap.size,_,_,Τ,g.IJ 0 1 (γ (cJ c s)) (cJ c s) Τ sS e Τ (by simp[maxLen];omega)⟩
theorem flatS(l:δ (δ ζ)):l.flatMap eS=l.map str:=by
 induction l with
 |nil=>rfl
 |cons x l a=>rw[Rw,a];rfl
theorem Yp(t:δ ζ)(w:ο)(a:ε Γ)(n cap:Nat)(d:δ (δ ζ))(q:n=γ d)(c:Rd w a (d.flatMap eS))(g:n<=cap)(u:γ d<=1000000000/\γ (cK d t)<=100000000000):CR prog 62 [.slice a n cap,str t] w λv w'=>v=str (cK d t)/\Hp w [] [] w':=by
 subst q;rw[flatS]at c;cases d with
 |nil=>exact dm (Tryz.strings_Join_none a cap ⟨t.toArray⟩ w)
 |cons x r=>
  obtain⟨p,rfl,i⟩:=c 0 (str x) aA2;have b:=Cb i;rw[bkd]at b;have f:p.spot=ι:=by have:=jk i;simpa [Addr.add] using this
  obtain⟨k,o,s⟩:=p;simp only at f b;subst f;have e:((x::r).map λl=>(⟨l.toArray⟩:ByteArray)).map (·.data.toList)=x::r:=by rw[lK];exact List.map_id _
  have h:=Tryz.strings_Join k o cap ((x::r).map λl=>(⟨l.toArray⟩:ByteArray)) ⟨t.toArray⟩ w (λj y m=>by have:=H4 ⟨k,o,ι⟩ (x::r) c j y m;cases j<;>simpa [Addr.add] using this) b (by rw[Gk];omega) (by rw[Gk];exact g) (by rw[e];show(cK (x::r) t).length<=_;omega);rw[e,Gk]at h;exact sV h
theorem UJ(f d:Γ)(n g k u:Nat)(s t:δ ζ)(w:ο)(j:γ s=n)(o:γ t=k)(F:Rd w (θ f) (s.map bt))(E:Rd w (θ d) (t.map bt))(B:n<=g)(H:n<=1000000000)(G:k<=1000000000)(D:Gl w):CR prog 48 [.slice (θ f) n g,.slice (θ d) k u] w λv w'=>v=.int .i64 (cO s t)/\Hp w [] [] w':=by
 obtain⟨m,A⟩:=D.cell;have cell:∀a (l:δ ζ) (N:Nat),γ l=N->Rd w (θ a) (l.map bt)->∀i,i<N->w.cell? (a.add i)=θ (.int .u8 ((l.map λb=>b.toNat).getD i 0)):=by intro a l N r C i q;obtain⟨p,z,e⟩:=C i (bt (l[i]' aA0)) (by simp[r,q]);cases z;rw[e];simp[bt,r,q]
 have c:∀(l:δ ζ),∀x∈(l.map λb=>(b.toNat:Int)),0<=x/\x<256:=by intro l x hx;obtain⟨b,_,rfl⟩:=dW.1 hx;exact⟨aA0,by have:=b.toNat_lt;omega⟩
 have y:∀(l:δ ζ),Lib.bytesOf (l.map λb=>(b.toNat:Int))=l:=by
  intro l;unfold Lib.bytesOf;rw[lK]
  conv=>rhs;rw[<-List.map_id l]
  refine er λb _=> ?_;simp
 have h:=Tryz.bytes_Index_at f d n g k u (s.map λb=>(b.toNat:Int)) (t.map λb=>(b.toNat:Int)) m w (by simp[j]) (by simp[o]) (c s) (c t) (cell f s n j F) (cell d t k o E) B aA0 aA0 A;rw[y,y]at h;exact SE h
theorem KN(a:ε Γ)(k c:Nat)(w:ο)(d:2<=k)(b:k<=1000000000):CR prog 48 [.slice ι 0 0,.slice a k c] w λv w'=>v=.int .i64 (-1)/\Hp w [] [] w':=by have h:=Tryz.bytes_Index_nil a k c w aA0 (λe=>by omega);rw[aA aA0]at h;exact dm h
theorem ix_nil(t:δ ζ)(h:2<=γ t):cO [] t= -1:=by
 match t,h with
 |a::b::t,_=>rfl
theorem OV(a h:ε Γ)(n d k g:Nat)(s t:δ ζ)(w:ο)(i:n=γ s)(e:k=γ t)(j:Rd w a (s.flatMap eB))(c:Rd w h (t.flatMap eB))(q:n<=d)(m:a=ι->d=0)(o:γ s<=1000000000/\2<=γ t/\γ t<=1000000000)(r:Gl w):CR prog 48 [.slice a n d,.slice h k g] w λv w'=>v=.int .i64 (cO s t)/\Hp w [] [] w':=by
 rw[oZ]at j c;obtain⟨u,f,l⟩:=o;cases a with
 |none=>obtain rfl:=m Τ;obtain rfl:n=0:=aA0;obtain rfl:s=[]:=qR i.symm;rw[ix_nil t f];exact KN h k g w aA0 aA0
 |some a=>
  match t,f,c,e,l with
  |b::t,f,c,e,l=>obtain⟨p,rfl,_⟩:=c 0 _ Τ;exact UJ a p n d k g s _ w i.symm e.symm j c q aA0 aA0 r
theorem Gx(s t:δ ζ)(w:ο)(h:γ s<=1000000000/\γ t<=1000/\t.all (λb=>decide (b.toNat<128))=μ/\(8<γ s\/γ t<=1\/s.all (λb=>decide (b.toNat<128))=μ)):CR prog 162 [str s,str t] w λv w'=>v=.int .i64 (Cz s t)/\Hp w [] [] w':=by
 obtain⟨j,i,c,a⟩:=h;by_cases g:γ t=0
 ·exact dm (Tryz.strings_IndexAny_none _ _ w g)
 by_cases d:γ t=1
 ·exact dm (Tryz.strings_IndexAny_one _ _ w d (ascii_of_all c))
 rcases a with a|a|a
 ·have e:∀w,(zeroValue 121).run prog w=.ok (.agg (JE 256 (.bool ν))) w:=(zero_of_info (n:=256) aK).1;have h:=Tryz.strings_IndexAny_long e ⟨s.toArray⟩ ⟨t.toArray⟩ w (by show 2<=γ t;omega) (by show 8<γ s;omega) aC7 aD6 (ascii_of_all c);refine Calls.mono h ?_;rintro _ _ ⟨rfl,rfl⟩;exact⟨_,Τ,Τ,Hp.Ak ⟨Τ,Τ,Τ,by simp;omega,λk f=>by rw[RowKit.Below.heap_alloc _ _ k aA3,RowKit.Below.heap_alloc _ _ k f]⟩⟩
 ·omega
 ·exact sV (Tryz.strings_IndexAny_laid _ _ w aC7 aD6 (ascii_of_all a) (ascii_of_all c))
theorem KO(l:δ ζ)(w:ο)(a:ε Γ)(n cap:Nat)(q:n=γ l)(e:Rd w a (l.flatMap eB))(s:(0+γ l)*1<=140737488355328):CR prog 44 [.slice a n cap] w λv w'=>∃o a' cap',v=.slice a' (γ l) cap'/\Hp w [] [bM eB 5 1 o a' cap' l] w':=by
 subst q;have f:=Hp.refl w;refine enter func44 Τ Τ (CP Τ) ?_;refine BR ?_;refine MZ ?_;refine mN (Vs ι 0 0) aK ?_;refine jO ?_;refine JM ?_;refine BR ?_;refine BR ?_;refine MZ ?_;refine jJ (Vs a (γ l) cap) aK ?_;refine B5 a (γ l) cap 5 underlying22 aK aK ?_;refine jO ?_;refine JM ?_;refine tD (b:=a.isNone) aK (λh=> ?_) (λh=> ?_)
 ·have t:a=ι:=by cases a with|none=>rfl|some p=>cases h
  subst t;have r:l=[]:=by
   cases l with
   |nil=>rfl
   |cons x l=>
    have g:=qQ.flat Xb (x::l);have y:γ (oD eB (x::l))=0:=by
     cases k:oD eB _ with
     |nil=>rfl
     |cons u D=>obtain⟨p,m,_⟩:=e 0 u (by rw[k];rfl);cases m
    rw[y]at g;simp at g
  subst r;refine BR ?_;refine MZ ?_;refine mN (Vs ι 0 0) aK ?_;refine jO ?_;refine JM ?_;refine Wy ?_;refine DL ?_;refine pT (Vs ι 0 0) Τ aK ?_;exact⟨ι,ι,0,Τ,Hp.cX f eB 5 1 ι⟩
 ·refine Qg ?_;refine JM ?_;refine BR ?_;refine MZ ?_;refine jS f [] 5 (λb=>(Vs (θ ⟨b,0,ι⟩) 0 0)) Τ Τ aK ?_;intro E C i;have A:=i.IJ 0 1 0 [] Τ Xb Τ Τ aA1;refine jJ (Vs a (γ l) cap) aK ?_;refine NK A 0 _ _ a 0 cap 5 1 1 _ l Xb Τ underlying22 aB0 aA1 aA1 aK aK (e.hp i) s ?_;intro j d c B z;refine mN (Vs d (γ l) c) aK ?_;refine jO ?_;refine JM ?_;refine Wy ?_;refine pT (Vs d (γ l) c) Τ aK ?_;exact⟨j,d,c,Τ,z⟩
theorem DI(l:LQ)(w:ο)(a:ε Γ)(n cap:Nat)(q:n=γ l)(e:Rd w a (l.flatMap eD))(s:(0+γ l)*40<=140737488355328):CR prog 202 [.slice a n cap] w λv w'=>∃o a' cap',v=.slice a' (γ l) cap'/\Hp w [] [bM eD 193 3 o a' cap' l] w':=by
 subst q;have f:=Hp.refl w;refine enter func202 Τ Τ (CP Τ) ?_;refine BR ?_;refine MZ ?_;refine mN (Vs ι 0 0) aK ?_;refine jO ?_;refine JM ?_;refine BR ?_;refine BR ?_;refine MZ ?_;refine jJ (Vs a (γ l) cap) aK ?_;refine B5 a (γ l) cap 193 underlying144 aK aK ?_;refine jO ?_;refine JM ?_;refine tD (b:=a.isNone) aK (λh=> ?_) (λh=> ?_)
 ·have t:a=ι:=by cases a with|none=>rfl|some p=>cases h
  subst t;have r:l=[]:=by
   cases l with
   |nil=>rfl
   |cons x l=>
    have g:=qQ.flat IW (x::l);have y:γ (oD eD (x::l))=0:=by
     cases k:oD eD _ with
     |nil=>rfl
     |cons u D=>obtain⟨p,m,_⟩:=e 0 u (by rw[k];rfl);cases m
    rw[y]at g;simp at g
  subst r;refine BR ?_;refine MZ ?_;refine mN (Vs ι 0 0) aK ?_;refine jO ?_;refine JM ?_;refine Wy ?_;refine DL ?_;refine pT (Vs ι 0 0) Τ aK ?_;exact⟨ι,ι,0,Τ,Hp.cX f eD 193 3 ι⟩
 ·refine Qg ?_;refine JM ?_;refine BR ?_;refine MZ ?_;refine jS f [] 193 (λb=>(Vs (θ ⟨b,0,ι⟩) 0 0)) Τ Τ aK ?_;intro E C i;have A:=i.IJ 0 3 0 [] Τ IW Τ Τ aA1;refine jJ (Vs a (γ l) cap) aK ?_;refine NK A 0 _ _ a 0 cap 193 3 40 _ l IW Τ underlying144 aB0 aA1 aA1 aK aK (e.hp i) s ?_;intro j d c B z;refine mN (Vs d (γ l) c) aK ?_;refine jO ?_;refine JM ?_;refine Wy ?_;refine pT (Vs d (γ l) c) Τ aK ?_;exact⟨j,d,c,Τ,z⟩
theorem Yn(b:Nat)(z:η)(s:ξ)(w:ο)(d:Hp w (eP [aY b [Vp (bif z then θ ⟨b,0,ι⟩else ι),s] 112]) [aY b [Vp (bif z then θ ⟨b,0,ι⟩else ι),s] 112] w):CR prog 117 [Vp (θ ⟨b,0,ι⟩)] w λv w'=>v=.tuple #[]/\Hp w (eP [aY b [Vp (bif z then θ ⟨b,0,ι⟩else ι),s] 112]) [aY b [Vp (θ ⟨b,0,ι⟩),s] 112] w':=by
 cases z with
 |false=>have a:=d;refine enter func117 Τ Τ (CP Τ) ?_;refine BR ?_;refine MZ ?_;refine jJ (Vp (θ ⟨b,0,ι⟩)) aK ?_;refine gC (v:=(Vp (θ ⟨b,0,ι⟩))) (w':=w) Τ Τ aK ?_;refine gC (v:=(Vp (θ ⟨b,0,ι⟩))) (w':=w) Τ Τ aK ?_;refine nV a 0 b 0 _ 112 _ Τ Τ aK aK ?_;refine B8 ι underlying110 aK aK ?_;refine jO ?_;refine JM ?_;refine tB aK ?_;refine MZ ?_;refine jJ (Vp (θ ⟨b,0,ι⟩)) aK ?_;refine jJ (Vp (θ ⟨b,0,ι⟩)) aK ?_;refine ey a 0 b 0 112 _ Τ underlying110 underlying176 aK aA2 aK ?_;refine fc a 153 (Vp (θ ⟨b,0,ι⟩)) aK aK func153 aK aK aK aK ?_;intro c e;refine fa e 0 b 0 112 _ Τ underlying176 underlying110 aK aK aK ?_;refine gC (v:=(Vp (θ ⟨b,0,ι⟩))) (w':=c) Τ Τ aK ?_;refine gC (v:=(Vp (θ ⟨b,0,ι⟩))) (w':=c) Τ Τ aK ?_;refine kA e 0 b 0 _ 112 (Vp (θ _)) [aY b [(Vp (θ ⟨b,0,ι⟩)),s] 112] Τ (NV (Cu _) (CP Τ)) aK aK Τ aK Τ ?_;intro g f;refine jO ?_;refine uA Τ ?_;exact⟨Τ,f.kp⟩
 |true=>have a:=d;refine enter func117 Τ Τ (CP Τ) ?_;refine BR ?_;refine MZ ?_;refine jJ (Vp (θ ⟨b,0,ι⟩)) aK ?_;refine gC (v:=(Vp (θ ⟨b,0,ι⟩))) (w':=w) Τ Τ aK ?_;refine gC (v:=(Vp (θ ⟨b,0,ι⟩))) (w':=w) Τ Τ aK ?_;refine nV a 0 b 0 _ 112 _ Τ Τ aK aK ?_;refine B8 (θ ⟨b,0,ι⟩) underlying110 aK aK ?_;refine jO ?_;refine JM ?_;refine lV aK ?_;refine BR ?_;refine MZ ?_;refine jJ (Vp (θ ⟨b,0,ι⟩)) aK ?_;refine gC (v:=(Vp (θ ⟨b,0,ι⟩))) (w':=w) Τ Τ aK ?_;refine gC (v:=(Vp (θ ⟨b,0,ι⟩))) (w':=w) Τ Τ aK ?_;refine nV a 0 b 0 _ 112 _ Τ Τ aK aK ?_;refine jJ (Vp (θ ⟨b,0,ι⟩)) aK ?_;refine ez ⟨b,0,ι⟩ underlying110 aK aK aK ?_;refine jO ?_;refine JM ?_;refine lV aK ?_;refine Qg ?_;refine uA Τ ?_;exact⟨Τ,a.kp⟩
open Go.Shelf Go.RowKit Go.Wk
variable{P:Β}{ρ:Ren}
set_option maxHeartbeats 1000000 in
set_option maxRecDepth 100000 in
theorem po(L:Lays.n169 P ρ)(X:Builder.Extra P ρ)(b g cap:Nat)(p:ξ)(a:Array ξ)(l:δ ζ)(w:ο)(k:w.heap[b]? =θ (.cells #[p,.slice (θ ⟨g,0,ι⟩) (γ l) cap] (ρ.t 72) (0,0)))
  (G:w.heap[g]? =θ (.cells a (ρ.t 5) (0,0))) (E:γ l<=cap) (i:cap<=maxLen) (H:a.size=cap) (c:∀j x,l[j]? =θ x->w.cell? ((⟨g,0,ι⟩:Γ).add j)=θ (.int .u8 x.toNat)) (q:l≠[]):
  Calls P (ρ.f 169) #[.pointer (θ ⟨b,0,ι⟩)] w λe w'=>e=.returned (.string ⟨l.toArray⟩)/\w'=w.drew.freeze ⟨g,0,ι⟩ (γ l):=by
 have F:γ l≠0:=aE7;have Z:w.drew.cell? ⟨b,1,ι⟩=θ (.slice (θ ⟨g,0,ι⟩) (γ l) cap):=by have:w.drew.heap[b]? =θ (.cells #[p,.slice (θ ⟨g,0,ι⟩) (γ l) cap] (ρ.t 72) (0,0)):=k;rw[Lib.cell_of_heap this];rfl
 have J:(Builtin.unsafeSliceData_ #[(ρ.t 37)] (ρ.t 127) #[.slice (θ ⟨g,0,ι⟩) (γ l) cap]).run P w.drew=.ok (.pointer (θ ⟨g,0,ι⟩)) w.drew:=
  Lib.run_unsafeSliceData_row _ _ _ _ _ _ aA0
 have I:(Builtin.unsafeString_ #[(ρ.t 127),(ρ.t 3)] (ρ.t 9) #[.pointer (θ ⟨g,0,ι⟩),.int .i64 (γ l)]).run P w.drew=.ok (.string ⟨l.toArray⟩) (w.drew.freeze ⟨g,0,ι⟩ (γ l)):=by refine Lib.run_unsafeString_row w.drew (ρ.t 127) (ρ.t 3) (ρ.t 9) (ρ.t 5) L.t127 X.cellsByte g a.size (by have h:w.drew.heap[g]? =θ (.cells a (ρ.t 5) (0,0)):=G;simp[World.shape?,h]) l q aA0 (by unfold maxLen at i;omega) ?_;intro j x hx;exact c j x hx
 have d:=L.mixed;have t72:=L.t72;have K:=L.a72;have s:=L.z72;have y:=L.v72;have B:=run_underlying L.t72;have t70:=L.t70;have M:=L.a70;have u:=L.z70;have z:=L.v70;have C:=run_underlying L.t70;have t37:=L.t37;have N:=L.a37;have v:=L.z37;have A:=L.v37;have D:=run_underlying L.t37;have t127:=L.t127;have r:=L.a127;have m:=L.z127;have n:=L.v127;have o:=run_underlying L.t127;have t3:=L.t3;have a3:=L.a3;have R:=L.z3;have U:=L.v3;have Y:=run_underlying L.t3;have t9:=L.t9;have a9:=L.a9;have O:=L.z9;have S:=L.v9;have V:=run_underlying L.t9;have t5:=X.t5;have a5:=X.a5;have Q:=X.z5;have T:=X.v5;have W:=run_underlying X.t5
 go_enter L.f169,Body.n169_ntmps ρ
 go_wp2
 go_region_o
 all_goals (go_wp2;go_ret;exact⟨Τ,Τ⟩)
theorem bs_any(z:Lays.n169 P ρ)(X:Builder.Extra P ρ){w:ο}{S:δ Nat}{L:δ cF}(F:Hp w S L w)(b:Nat)(p:ξ)(o:ε Nat)(a:ε Γ)(cap:Nat)(l:aC)(m:Nat)(i:w.heap[b]? =θ (.cells #[p,.slice a (γ l) cap] (ρ.t 72) (0,0)))(B:L[m]? =θ (bM eB (ρ.t 5) 1 o a cap l)):
  CR P (ρ.f 169) [φ (θ ⟨b,0,ι⟩)] w λv w'=>v=str l/\Hp w S (L.set m Go.Oe.dL) w':=by
 have d:∀w',Below w.heap.size w w'->Hp w S (L.set m Go.Oe.dL) w':=by intro w' J;have G:=F.call (Hp.Ak J);exact G.change m _ Go.Oe.dL B Τ Τ Τ (dK _) (λ_ _ _=>rfl) trivial (λ_ i=>by cases i)
 obtain⟨G,N⟩:=F.res _ (aI B);rcases G with⟨rfl,rfl,rfl,rfl⟩|⟨g,h,C,rfl,q,E,D,I,A⟩
 ·refine Calls.mono (Any.Builder_String_nil z X w.heap.size b p w i) ?_;rintro _ w' ⟨rfl,n⟩;exact⟨_,Τ,Τ,d w' n⟩
 ·have C:o=θ g:=C;subst C;have c:w.heap[g]? =θ (.cells h (ρ.t 5) (0,0)):=q;clear q;cases l with
  |nil=>
   by_cases s:cap=0
   ·subst s;refine Calls.mono (Any.Builder_String_noroom z X w.heap.size b g p h w (dK _) i c) ?_;rintro _ w' ⟨rfl,n⟩;exact⟨_,Τ,Τ,d w' n⟩
   ·refine Calls.mono (Any.Builder_String_room z X w.heap.size b g cap p w s i) ?_;rintro _ w' ⟨rfl,n⟩;exact⟨_,Τ,Τ,d w' n⟩
  |cons x r=>
   refine Calls.mono (po z X b g cap p h (x::r) w i c E D aA0 (λj y H=> ?_) aA2) ?_
   ·have u:(h.toList.take (γ (x::r)*1))[j]? =θ (bt y):=by rw[A,oZ,bD,H];rfl
    rw[bQ]at u;split at u
    ·have K:h[j]? =θ (bt y):=by simpa using u
     cases j<;>simp[World.cell?,Addr.add,c,K,bt]
    ·cases u
   ·rintro _ w' ⟨rfl,rfl⟩;refine⟨_,Τ,Τ,?_⟩;refine F.RW.change m _ Go.Oe.dL B ?_ ?_ ?_ ?_ (λj M k=> ?_) trivial (λ_ i=>by cases i);all_goals (try(unfold World.freeze;rw[aA aA2];rfl))
    ·unfold World.freeze;rw[aA aA2];simp
    ·unfold World.freeze;rw[aA aA2];simp only[wQ];have k:g≠j:=λe=>k (by show θ j=θ g;rw[e]);rw[aA k];rfl
open Go.Oe in
theorem W6 (O : Lays.n169 P ρ) (X : Builder.Extra P ρ){Q : Cy}{H : Nat} (g : Unit × aC -> δ PD) : Tq P Q (ρ.f 169) ⟨[.p' (ρ.t 72) (.pr .z' (.l' (ρ.t 5) H .c'))],[.r' .s'],λx => .gs (g x) x.2⟩ := by
  intro w S i L C x y V s d p J;obtain ⟨_,rfl⟩ := J;have d : Mt w S i [.bl (ρ.t 72) [.z' 0 1,.l' 2],.dd 0,.rw (ρ.t 5) H .c' x.2] L := d;have p : [θ (iM (i 0).b 0)] = C.map θ := p;obtain rfl : C = [iM (i 0).b 0] := by
    match C,p with
    | [u],h => simp at h; rw[h]
  obtain ⟨_,U,F,B,rfl,j⟩ := d.2 0 _ Τ;obtain ⟨_,T,M,_⟩ := d.2 1 _ Τ;obtain ⟨l,I,E,q⟩ := d.2 2 _ Τ;have q : I = bM (Ty.c').enc (ρ.t 5) (Ty.c').sz (i 2).o (i 2).a (i 2).cap x.2 := q;subst q;have l : γ x.2 = (i 2).ln := l;have G := s.dO 0 F;have D : B = [.pointer (bif (i 1).z then θ ⟨(i 0).b,0,ι⟩ else ι),.slice (i 2).a (γ x.2) (i 2).cap] := by
    have n := j.2 0 _ Τ Τ;have m := j.2 1 _ Τ Τ;have A : γ B = 2 := j.1;rw[l]
    match B,A,n,m with
    | [a,c],_,n,m =>have n : a = _ := aP n;have m : c = _ := aP m;rw[n,m]; rfl
  rw[D] at G;refine Calls.mono (bs_any O X s (i 0).b _ (i 2).o (i 2).a (i 2).cap x.2 2 G E) ?_;rintro e R ⟨v,N,rfl,K⟩;refine ⟨_,N,i,_,λ_ _ => rfl,K,?_,Τ⟩;show Mt w S i [.bl (ρ.t 72) [.z' 0 1,.l' 2],.dd 0,.dd (γ x.2)] (L.set 2 dL);refine ⟨by rw[gD]; exact d.1,λid o k => ?_⟩
  match id,k with
  | 0,k =>obtain ⟨n,r,m,A⟩ := d.2 0 o k;exact ⟨n,r,by rw[Ct aA1]; exact m,A⟩
  | 1,k =>obtain ⟨n,r,m,A⟩ := d.2 1 o k;exact ⟨n,r,by rw[Ct aA1]; exact m,A⟩
  | 2,k =>cases k;exact ⟨l,dL,by rw[bF (by rw[d.1]; exact Cu 2)],trivial⟩
  | id + 3,k => simp at k
open Go.Oe in
theorem oe {W : Cy}{k T e D : Nat} (h : ∀ (b : Nat) (z : η) (s : ξ) (w : ο),Hp w (eP [aY b [φ (bif z then θ ⟨b,0,ι⟩ else ι),s] T]) [aY b [φ (bif z then θ ⟨b,0,ι⟩ else ι),s] T] w ->
    CR P k [φ (θ ⟨b,0,ι⟩)] w λv w' => v = .tuple #[] /\ Hp w (eP [aY b [φ (bif z then θ ⟨b,0,ι⟩ else ι),s] T]) [aY b [φ (θ ⟨b,0,ι⟩),s] T] w') :
    Tq P W k ⟨[.p' T (.pr .z' (.l' e D .c'))],[.o' 0 T (.pr .z' (.l' e D .c'))],λx => .gs [] x⟩ := by
  intro w S d L F x y hG C f m Q;obtain ⟨_,rfl⟩ := Q;have f : Mt w S d [.bl T [.z' 0 1,.l' 2],.dd 0,.rw e D .c' x.2] L := f;have m : [θ (iM (d 0).b 0)] = F.map θ := m;obtain rfl : F = [iM (d 0).b 0] := by
    match F,m with
    | [u],h => simp at h; rw[h]
  obtain ⟨_,Y,A,E,rfl,l⟩ := f.2 0 _ Τ;obtain ⟨B,O,K,p⟩ := f.2 2 _ Τ;have p : O = bM (Ty.c').enc e (Ty.c').sz (d 2).o (d 2).a (d 2).cap x.2 := p;subst p;have J : E = [.pointer (bif (d 1).z then θ ⟨(d 0).b,0,ι⟩ else ι),.slice (d 2).a (d 2).ln (d 2).cap] := by
    have r := l.2 0 _ Τ Τ;have q := l.2 1 _ Τ Τ;have N : γ E = 2 := l.1
    match E,N,r,q with
    | [a,c],_,r,q =>have r : a = _ := aP r;have q : c = _ := aP q;rw[r,q]; rfl
  rw[J] at A;obtain ⟨t,L',rfl⟩ : ∃ t,L = [aY (d 0).b [.pointer (bif (d 1).z then θ ⟨(d 0).b,0,ι⟩ else ι),.slice (d 2).a (d 2).ln (d 2).cap] T,t,bM (Ty.c').enc e (Ty.c').sz (d 2).o (d 2).a (d 2).cap x.2] := by
    have N : γ L = 3 := f.1
    match L,N,A,K with
    | [a,b,c],_,r,q =>cases r; cases q;exact ⟨b,Τ⟩
  have U := Hp.hand (L1 := [aY (d 0).b [.pointer (bif (d 1).z then θ ⟨(d 0).b,0,ι⟩ else ι),.slice (d 2).a (d 2).ln (d 2).cap] T]) (L2 := [t,bM (Ty.c').enc e (Ty.c').sz (d 2).o (d 2).a (d 2).cap x.2]) C;refine Calls.mono (h (d 0).b (d 1).z (.slice (d 2).a (d 2).ln (d 2).cap) w U) ?_;rintro e2 X ⟨v,V,rfl,R⟩;have I := Hp.dV (L1 := [aY (d 0).b [.pointer (bif (d 1).z then θ ⟨(d 0).b,0,ι⟩ else ι),.slice (d 2).a (d 2).ln (d 2).cap] T]) (L2 := [t,bM (Ty.c').enc e (Ty.c').sz (d 2).o (d 2).a (d 2).cap x.2]) C R;let G : Nat -> Ad := λid => if id < 3 then d id else if id = 3 then ⟨ι,ι,0,μ,0⟩ else d 2;have H := (uJ (uJ I)).perm ((cw (l₁ := [dL,dL]) (l₂ := [aY (d 0).b [φ (θ ⟨(d 0).b,0,ι⟩),.slice (d 2).a (d 2).ln (d 2).cap] T,t])).append_right [bM (Ty.c').enc e (Ty.c').sz (d 2).o (d 2).a (d 2).cap x.2]);refine ⟨_,V,G,_,λi M => (by have M : i < 3 := M; simp only[G]; rw[aB M]),H,?_,Τ⟩;show Mt w S G [.bl T [.z' 0 3,.l' 4],.dd 0,.dd (γ x.2),.dd 0,.rw e D .c' x.2] [_,_,_,_,_];refine ⟨Τ,λid o g => ?_⟩
  match id,g with
  | 0,g =>
    cases g;refine ⟨(f.2 0 _ Τ).1,_,Τ,_,Τ,Τ,λj c n Z => ?_⟩
    match j,n with
    | 0,n => cases n; rfl
    | 1,n => cases n; rfl
    | j + 2,n => simp at n
  | 1,g =>cases g;exact ⟨(f.2 1 _ Τ).1,_,Τ,trivial⟩
  | 2,g =>cases g;exact ⟨B,_,Τ,trivial⟩
  | 3,g =>cases g;exact ⟨Τ,_,Τ,trivial⟩
  | 4,g =>cases g;exact ⟨B,_,Τ,Τ⟩
  | id + 5,g => simp at g
end Go.Proofs
set_option maxHeartbeats 1000000
namespace Go.Proofs
open Go.Wk Go.Px
open Go.Value renaming slice → Vs, int → Vi, bool → Vb, pointer → Vp
open Int renaming toNat → bL
open List renaming drop → cC
open Tryz
abbrev Zz0:=[(45:ζ),(45:ζ),(98:ζ),(13:ζ),(10:ζ),(99:ζ),(58:ζ),(32:ζ),(116:ζ),(101:ζ),(120:ζ),(116:ζ),(47:ζ),(112:ζ),(108:ζ),(97:ζ),(105:ζ),(110:ζ),(13:ζ),(10:ζ),(13:ζ),(10:ζ),(104:ζ),(105:ζ),(13:ζ),(10:ζ),(45:ζ),(45:ζ),(98:ζ),(45:ζ),(45:ζ)]
abbrev yJ:=[(Vs ι 0 0),(Vs ι 0 0)]
abbrev Zz2:aC:=[45,45,98,13,10,99,58,32,116,101,120,116,47,112,108,97,105,110,13,10,13,10,104,105,13,10,45,45,98,45,45]
abbrev wu(v0:LQ) v1:=[(str ((el v0 v1).1)),(str ((el v0 v1).2.1)),(υ ((el v0 v1).2.2))]
abbrev JR v0 v1 a:=[(Vi .i64 v0),(Vi .i64 v1),(Vb a)]
abbrev Zz5 v0 v1 c b v4 (a:aC) v6:=[(Vs v0 v1 c),(Vs b (γ (cC (bL (v4+(4:Int))) a)) v6)]
abbrev ZG:=[(13:ζ),(10:ζ)]
abbrev Zz7:aC:=[101,67,111,110,116,101,110,116,45,69,110,99,111,100,105,110,103]
abbrev Zz8:aC:=[120,83,101,115,115,105,111,110,45,69,120,112,105,114,101,115]
abbrev Zz9:aC:=[108,67,111,110,116,101,110,116,45,76,101,110,103,116,104]
abbrev cf v0 v1 c b v4 a:=[aY v0 [(str v1)] 9,aY c [(str b)] 9,aY v4 [(Δ .i64 a)] 3]
abbrev Zz11:aC:=[117,65,108,108,111,119,45,69,118,101,110,116,115]
abbrev Qx v0 v1 b a:=[aY v0 [(π v1 b a)] 144]
abbrev Zz13:aC:=[99,67,111,110,116,101,110,116,45,84,121,112,101]
abbrev Zz14:aC:=[98,82,101,102,101,114,114,101,100,45,66,121]
abbrev Zz15:aC:=[87,87,87,45,65,117,116,104,101,110,116,105,99,97,116,101]
abbrev Zz16:aC:=[107,83,117,112,112,111,114,116,101,100]
abbrev Zz17:aC:=[114,82,101,102,101,114,45,84,111]
abbrev Zz18:=[ν,ν,ν,ν,ν,ν,ν,ν,ν,ν,ν,ν,ν,ν,ν,ν]
abbrev Zz19:aC:=[77,73,77,69,45,86,101,114,115,105,111,110]
abbrev Zz20:aC:=[109,67,111,110,116,97,99,116]
abbrev Zz21:aC:=[115,83,117,98,106,101,99,116]
abbrev Zz22:δ aC:=[(Zz14),(Zz13),(Zz7),[102,70,114,111,109],[105,67,97,108,108,45,73,68],(Zz16),(Zz9),(Zz20),[111,69,118,101,110,116],(Zz17),(Zz21),[116,84,111],(Zz11),[118,86,105,97],(Zz8)]
theorem CV(c:ζ):IntKind.wrap .i32 ((c.toNat:Nat):Int)=(c.toNat:Int):=by revert c;exact fP _ aA5
theorem Y0:Wk.Enters prog 156:=⟨f156,_,func156,Τ,aK⟩
theorem X9:Wk.Enters prog 171:=⟨f171,_,func171,Τ,aK⟩
theorem ent190:Wk.Enters prog 190:=⟨f190,_,func190,Τ,aK⟩
theorem ent206:Wk.Enters prog 206:=⟨f206,_,func206,Τ,aK⟩
variable{fu:Nat}{g:Int}{w:ο}{r:η}
theorem bhk(a:agt fu g=θ r)(o:Gl w):CR prog 190 [(Vi .i32 g)] w λv w'=>v=(Vb r)/\Hp w [] [] w':=by have e:=Hp.refl w;refine enter func190 Τ Τ iJ ?_;unfold agt at a;refine sr (wp 1 (nq (cs (ce (bi a λh c a=>nS e [0,2,3] [(3,(Vb h))] ?_ ?_)))));refine cr (wp 2 (wd c (λj c=> ?_) (λj c=> ?_)));refine wp 4 (wl (ql ?_));obtain rfl:=oi c;exact je e.kp;refine wp 4 (wl (ql ?_));obtain rfl:=oi c;exact je e.kp;intro n G d;refine cb a (λi a=> ?_) (λi a=> ?_);refine sr (wp 1 (nq (ct (iD (st ?_)))));obtain rfl:=oi a;exact rv d.kp;refine bi a λm b a=>nS d [2,10] [(10,(Vb m))] ?_ ?_;refine cr (wp 2 (wd b (λl b=> ?_) (λl b=> ?_)));refine wp 4 (wl (ql ?_));obtain rfl:=oi b;exact je d.kp;refine wp 4 (wl (ql ?_));obtain rfl:=oi b;exact je d.kp;intro p G f;refine cb a (λk a=> ?_) (λk a=> ?_);refine sr (wp 1 (nq (ct (iD (st ?_)))));obtain rfl:=oi a;exact rv f.kp;refine ck (bn (qn (sr (wp 1 (nq (ct ?_))))));obtain rfl:=oi a;exact rv f.kp
variable{a:aC}
theorem bdw{r:Int}(a0:wi fu a g=θ r)(J:Gl w):CR prog 156 [(str a),(Vi .i32 g)] w λv w'=>v=(Vi .i64 r)/\Hp w [] [] w':=by
 have q:=Hp.refl w;refine enter func156 Τ Τ iJ ?_;unfold wi at a0;refine sr (wp 1 (nq (ce (bi a0 λI m a0=>nS q [0,1,4,160] [(160,(Vb I))] ?_ ?_))));refine cr (wp 2 (wd m (λL m=> ?_) (λL m=> ?_)));refine wp 4 (wl (ql ?_));obtain rfl:=oi m;exact je q.kp;refine wp 4 (wl (ql ?_));obtain rfl:=oi m;exact je q.kp;intro H G l;refine cb a0 (λK a0=> ?_) (λK a0=> ?_);refine sr (wp 2 (xn .i32 g underlying21 underlying5 aK (vC 171 #[] [(str a),(bt (YP g))] _ X9 aK aK (oQ a _ H) ?_)));rintro _ g0 ⟨rfl,F⟩;have Z:=l.call F;clear F;refine wp 1 (nq (ct (iD ?_)));obtain rfl:=oi a0;exact rv Z.kp;refine sr (wp 3 (nq (cd a0 (λY a0=> ?_) (λY a0=> ?_))));refine bi a0 λE X a0=>Z9 l E [4] (λW=>[]) ?_ ?_;refine sr (wp 1 (OH l a underlying9 aK λp g1 d0=>nq (ce (FK (σ:=Nat×Nat) [4,175] (λ⟨k,e⟩=>[]) (λ⟨k,e⟩ w'=>Hp w [] [UH p a e] w'/\ahl fu a k e=θ E) (λ⟨k,e⟩=>k) (fu,0) (by exact⟨d0.kp,X⟩) ?_))));rintro⟨_|k,e⟩ g2 G ⟨u,f⟩
 ·exact Sm f
 rw[aoc,agu]at f;refine sr ?_;by_cases o:e<γ a;replace f:=LX o f;refine Xv u 0 p a e Τ aK (λ_ d1 n=> ?_) (λt=>absurd o t);replace n:Hp w [] [UH p a _] d1:=n;refine wp 1 (nq (cs (tB aK (ck (qn (ce (sr ?_)))))));refine wp 4 (nq (sr (wp 2 (nq (cd f (λd2 f=> ?_) (λd2 f=> ?_))))));refine sr (wp 2 (nq (ct (iD (pJ (iD (pJ ?_)))))));obtain rfl:=oi f;refine iD ?_;obtain rfl:=oi a0;exact rv n.kp;refine ck (bn (ql ?_));exact⟨(k,e+(Utf8.decode ⟨List.toArray a⟩ e).2),_,Τ,by kernel_rfl,⟨n.kp,f⟩,Cu _⟩;replace f:=LY o f;refine Xv u 0 p a e Τ aK (λt=>absurd t o) (λ_=> ?_);refine wp 1 (nq (cs (lV aK (Fu (Fx (Fw (Ft (ql ?_))))))));obtain rfl:=oi f;exact je1 Τ u.kp;rintro W g3 G d3 rfl;refine sr (wp 1 (nq (ct (iD ?_))));obtain rfl:=oi a0;exact rv d3.kp;refine sr (wp 1 (bi a0 λg4 d4 a0=>wc ent190 l (bhk d4 (J.iY l)) λg5 D=>wp 2 (nq (cb a0 (λd5 a0=> ?_) (λd5 a0=> ?_)))));refine sr (wp 1 (nq (ct (iD ?_))));obtain rfl:=oi a0;exact rv D.kp;refine BP (sr (wp 1 (TM .i32 .i32 g underlying21 underlying9 aK (wp 1 (nq (sr ?_))))));refine wp 2 (gi a0 λd6 a0=>oL _ _ aK aK d6 (wp 1 (nq (sr (wp 2 (wl ?_))))));refine qn (sr (wp 1 (nq (cs (ce (P3 (λC _=>ahk fu a g C) () D a0 [0,4,7,8,9] (λ(_:Unit)=>[]) (λ_=>rfl) ?_))))));rintro C _ g6 G s i;rw[axt,ajl]at i;refine cs (sr (wp 4 (nq (cd i (λd7 i=> ?_) (λd7 i=> ?_)))));refine ck (qn (ce (BP (bi i λd8 b i=>Z9 s d8 [0,4,7,8,9] (λj=>[(9,(Vi .i64 j))]) ?_ ?_))));refine cs (gi b λd9 b=>gi b λV b=>cdr 6 s (Hr (uT (mY (yG (uT (yG (Hr (mY (yG XX))))))))) λg7 B=>rp 4 [0,1] (rt 2 (bt _) Τ Τ (qU Τ (by intro w d;exact(oJ a .i64 _ underlying9 aK aK d9))) (rp 1 [3,4] (rt 5 (bt _) Τ Τ (qU Τ (by intro w d;exact(oJ _ .i64 _ underlying9 aK aK V))) (SL aK (oM (Κ a ((γ ((ψ g).data.toList):Int)-1)) (Κ ((ψ g).data.toList) ((γ ((ψ g).data.toList):Int)-1)) aK aK ?_))))));refine nq (cn b (λU b=> ?_) (λU b=> ?_));refine cs (gi b λT b=>gi b λS b=>gi b λR b=>cdr 7 B (Hr (uT (mY (yG (uT (yG (Hr (mY (yG XX))))))))) λQ P=>rp 5 [0,1] (rt 2 (Vi .i64 _) Τ Τ (qU Τ (by intro w d;exact(Jh _ _ aK aK T))) (rt 3 (str _) Τ Τ (qU Τ (by intro w d;exact(oI a .i64 _ underlying9 aK aK S))) (rp 1 [4,5] (rt 6 (bt _) Τ Τ (qU Τ (by intro w d;exact(oJ _ .i64 _ underlying9 aK aK R))) ?_)))));refine SL aK (vC 171 #[] [(str (cC (bL (((γ ((ψ g).data.toList):Int)-1)+1)) a)),(bt (Κ ((ψ g).data.toList) ((γ ((ψ g).data.toList):Int)-1)))] _ X9 aK aK (oQ _ (Κ ((ψ g).data.toList) _) Q) ?_);rintro _ g8 ⟨rfl,A⟩;have z:=P.call A;clear A;refine wp 1 (nq (cs (sr (wp 2 (nq (cd b (λO b=> ?_) (λO b=> ?_)))))));refine sr (wp 1 (nq (ct (st (pJ ?_)))));obtain rfl:=oi b;refine Vm (iD (pJ (iD (st (Vm (iD ?_))))));obtain rfl:=oi i;exact rv z.kp;refine ck (qn (cr (wp 2 (gi b λN b=>Cw _ _ aK aK N (gi b λM b=>Cw _ _ aK aK M (wp 1 (wl ?_)))))));refine ql ?_;obtain rfl:=oi b;exact je1 Τ z.kp;refine ck (ql ?_);obtain rfl:=oi b;exact je1 Τ B.kp;rintro j g9 G f0 rfl;refine cs (sr (wp 1 (nq (ce (P3 (λy h=>ako fu a g j y h) 1 f0 i [0,4,7,8,9,12] (λh=>[(12,(Vi .i64 h))]) (λ_=>rfl) ?_)))));rintro y h h0 G x c;rw[bjd,apq]at c;refine cs (sr (wp 4 (nq (cd c (λf1 c=> ?_) (λf1 c=> ?_)))));refine ck (qn (cs (ce (cs (gi c λf2 c=>gi c λf3 c=>gi c λf4 c=>gi c λf5 c=>cdr 10 x (Hr (yG (Hr (uT (yG (Hr (mY (yG (uT (yG (Hr (mY (yG XX))))))))))))) λh1 f6=> ?_)))));refine rp 7 [0,1,2] (rt 3 (Vi .i64 _) Τ Τ (qU Τ (by intro w d;exact(oH j h aK aK f2))) (rt 4 (bt _) Τ Τ (qU Τ (by intro w d;exact(oJ a .i64 _ underlying9 aK aK f3))) (rp 2 [5,6,7] (rt 8 (Vi .i64 _) Τ Τ (qU Τ (by intro w d;exact(oH _ h aK aK f4))) (rt 9 (bt _) Τ Τ (qU Τ (by intro w d;exact(oJ _ .i64 _ underlying9 aK aK f5))) (SL aK (oM (Κ a (j-h)) (Κ ((ψ g).data.toList) (((γ ((ψ g).data.toList):Int)-1)-h)) aK aK (nq (cn c (λf7 c=> ?_) (λf7 c=> ?_))))))))));exact Sm c;exact ck (bn (qn (cr (wp 1 (gi c λf8 c=>Cw h _ aK aK f8 (wp 1 (wl (ql (le' _ f6.kp c)))))))));refine Fu (Fx (Fw (Ft (qn (cs (sr (wp 2 (gi c λf9 c=> ?_))))))));refine oL j _ aK aK f9 (wp 1 (nq (ct (st (Vm (iD (pJ (iD ?_))))))));refine st (Vm (iD ?_));obtain rfl:=oi c;exact rv x.kp;refine Fu (Fx (Fw (Ft (qn (cs (sr (wp 1 (wl ?_))))))));refine qn (ct (st (Vm (iD ?_))));obtain rfl:=oi i;exact rv s.kp
theorem beh(a:ahj fu g=θ r)(d:Gl w):CR prog 206 [(Vi .i64 g)] w λv w'=>v=(Vb r)/\Hp w [] [] w':=by have c:=Hp.refl w;refine enter func206 Τ Τ iJ ?_;unfold ahj at a;refine sr (wp 1 (nq (sr (wp 3 (nq ?_)))));refine ct ?_;obtain rfl:=oi a;exact rv c.kp
theorem tI{h:aC}(Q:atm fu a h=θ g)(l:Gl w):CR prog 162 [(str a),(str h)] w λv w'=>v=(Vi .i64 g)/\Hp w [] [] w':=by
 have d:=Hp.refl w;refine enter func162 Τ Τ iJ ?_;unfold atm at Q;refine sr (wp 1 (nq (cs (sr (wp 2 (wl ?_))))));refine qn (cd Q (λy Q=> ?_) (λy Q=> ?_));refine sr (wp 1 (nq (ct (st ?_))));obtain rfl:=oi Q;exact rv d.kp;refine ck (qn (cs (sr (wp 3 (nq (cd Q (λx Q=> ?_) (λx Q=> ?_)))))));refine sr (wp 1 (gi Q λz Q=>qb h .i64 0 underlying9 aK aK z (fk .i32 .u8 ((Κ h 0).toNat:Int) underlying5 underlying21 aK (CV _) (wp 1 (nq (bi Q λt r Q=>nS d [0,1,4,5] [(5,(Vi .i32 t))] ?_ ?_))))));refine sr (wp 2 (nq (cd r (λu r=> ?_) (λu r=> ?_))));refine cr (wp 1 (wl (ql ?_)));obtain rfl:=oi r;exact je d.kp;refine ck (ql ?_);obtain rfl:=oi r;exact je d.kp;intro P G s;refine sr (wp 2 (bi Q λO M Q=>wc Y0 s (bdw M (l.iY s)) λN L=>wp 1 (nq (ct (st ?_)))));obtain rfl:=oi Q;exact rv L.kp;refine ck (qn (bi Q λd0 e Q=>nS d [0,1,4] [] ?_ ?_));refine sr (wp 2 (bi e λd1 K e=>wc ent206 d (beh K (l.iY d)) λd2 J=>nq (cb e (λI e=> ?_) (λI e=> ?_))));exact Sm e;refine ck (ql ?_);obtain rfl:=oi e;exact je J.kp;intro d3 G q;refine bi Q λp H Q=>Z9 q p [4] (λF=>[]) ?_ ?_;refine sr (wp 1 (OH q a underlying9 aK λk d4 E=>nq (ce (FK (σ:=Nat×Nat) [1,4,45] (λ⟨f,c⟩=>[]) (λ⟨f,c⟩ w'=>Hp w [] [UH k a c] w'/\aig fu a h f c=θ p) (λ⟨f,c⟩=>f) (fu,0) (by exact⟨E.kp,H⟩) ?_))));rintro⟨_|f,c⟩ d5 G ⟨n,b⟩
 ·exact Sm b
 rw[ajm,afk]at b;refine sr ?_;by_cases j:c<γ a;replace b:=LX j b;refine Xv n 0 k a c Τ aK (λ_ D i=> ?_) (λm=>absurd j m);replace i:Hp w [] [UH k a _] D:=i;refine wp 1 (nq (cs (tB aK (ck (qn (ce (sr ?_)))))));refine wp 4 (nq (sr (wp 2 (bi b λd6 C b=>wc Y0 i (bdw C (l.iY i)) λd7 o=>wp 1 (wl ?_)))));refine qn (cd b (λB b=> ?_) (λB b=> ?_));refine sr (wp 2 (nq (ct (iD (pJ (iD (pJ ?_)))))));obtain rfl:=oi b;obtain rfl:=oi Q;exact rv o.kp;refine ck (bn (ql ?_));exact⟨(f,c+(Utf8.decode ⟨List.toArray a⟩ c).2),_,Τ,by kernel_rfl,⟨o.kp,b⟩,Cu _⟩;replace b:=LY j b;refine Xv n 0 k a c Τ aK (λm=>absurd m j) (λ_=> ?_);refine wp 1 (nq (cs (lV aK (Fu (Fx (Fw (Ft (ql ?_))))))));obtain rfl:=oi b;exact je1 Τ n.kp;rintro F d8 G A rfl;refine sr (wp 1 (nq (ct ?_)));obtain rfl:=oi Q;exact rv A.kp
end Go.Proofs
namespace Go.Wk
open Go.Px
theorem bg{t:aC}(h:t.all (λb=>decide (b.toNat<128))=μ)(k:Nat)(a:k<γ t):(Κ t (k:Int)).toNat<128:=by
 have c:Κ t (k:Int)∈t:=by simp only[Κ,tQ,bH,aN a,IY];exact yP a
 exact bX (aT.1 h _ c)
theorem uh(a:Int)(b: -1000000<=a)(h:a<=1000000):bJ a:=⟨aA0,aA0⟩
theorem ia_err(t:aC)(h:t.all (λb=>decide (b.toNat<128))=μ)(n:Nat):∀(k a:Nat),k+n=γ t->n<a->ahl 2000 t a k=θ (.inl ()):=by
 induction n with
 |zero=>intro k a e f;obtain⟨a,rfl⟩:=cB a;rw[aoc,agu,aA aA0]
 |succ n d=>intro k a e f;obtain⟨a,rfl⟩:=cB a;have i:=bg h k aA0;have g:=Wt t k aA0 i;have c:Utf8.decode ⟨List.toArray t⟩ k=((Κ t (k:Int)).toNat,1):=g;rw[aoc,agu,aB aA0,c,aA (by simp only;omega)];exact d (k+1) a aA0 aA0
theorem R4(p:ζ->η):∀l:aC,(∀c∈l,p c=ν)->dM p l= -1
 |[],_=>rfl
 |c::l,h=>by unfold dM;rw[h c aA2,aA aA1,R4 p l (λx hx=>h x (kX _ hx)),aB rfl]
theorem mz(t:aC)(A:γ t<=1000)(o:t.all (λb=>decide (b.toNat<128))=μ)(r:Int)(v:128<=r):wi 2000 t r=θ (-1):=by
 have w:decide (r<128)=ν:=aD aA0;unfold wi;rw[aB aA0,w,cP,aG];by_cases p:r=65533
 ·rw[aB p,ia_err t o (γ t) 0 2000 aA0 aA0];rfl
 rw[aA p];have u:∃b,agt 2000 r=θ b:=by
  unfold agt;rw[aB aA0,cP];cases decide (r<55296)with
  |true=>exact⟨_,Τ⟩
  |false=>
   rw[aG];by_cases h:57343<r
   ·rw[aB h,cP];cases decide (r<=1114111)<;>exact⟨_,Τ⟩
   ·rw[aA h];exact⟨_,Τ⟩
 obtain⟨b,y⟩:=u;rw[y,cP];cases b with
 |false=>rfl
 |true=>
  obtain⟨D,C,s⟩:=XG r v;have q:(ψ r).data.toList=Tj r:=Τ;rw[Bool.not_true,aG,q];have g:bJ ((γ (Tj r):Int)-1):=uh _ aA0 aA0;rw[aS g];show ahk 2000 t r (1999+1)=_;rw[axt,ajl,q];generalize a:Κ (Tj r) ((γ (Tj r):Int)-1)=last at s;generalize B:(γ (Tj r):Int)-1=m at a s⊢;by_cases d:m<(γ t:Int)
  ·obtain⟨k,rfl⟩:∃k:Nat,m=(k:Int):=⟨m.toNat,aA0⟩;have z:=bg o k aA0;have i:¬Κ t (k:Int)=last:=λe=>by rw[e]at z;omega
   have f:∀l:aC,(∀c∈l,c∈t)->dM (·==last) l= -1:=λl x=>R4 _ l λc n=>by
    have j:=bX (aT.1 o c (x c n));have:¬c=last:=λe=>by rw[e]at j;omega
    simpa using this
   rw[aB d,aS aA0,aS aA0,aA i,aS (uh _ aA0 aA0),aS aA0,aS aA0,f _ (λc n=>List.mem_of_mem_drop n),aB aA1,cP,Sum.elim_inr]
  ·rw[aA d]
theorem D2:∀c:ζ,YP (c.toNat:Int)=c:=fP _ aA5
theorem ia_low(t:aC)(c:ζ)(b:c.toNat<128):wi 2000 t (c.toNat:Int)=θ (dM (·==c) t):=by have a:decide ((c.toNat:Int)<128)=μ:=aE aA0;unfold wi;rw[aB aA0,a,cP,aM,D2]
theorem RB(c:ζ):∀t:aC,(0<=dM (·==c) t)↔t.contains c=μ
 |[]=>by simp[dM]
 |b::t=>by
  have a:=RB c t;have i:=sL (·==c) t;unfold dM;by_cases h:b=c
  ·rw[aB aA7];simp[h]
  ·have g:¬c=b:=λe=>h e.symm;rw[aA aA7,List.contains_cons];have d:(c==b)=ν:=aE2;rw[d,Bool.false_or,<-a];split
   ·rename_i f;rw[f]
   ·omega
theorem GI(p:ζ->η):∀a l:aC,(∀c∈a,p c=ν)->dM p (a++l)=if dM p l= -1 then-1 else dM p l+(γ a:Int)
 |[],l,_=>by
  rw[List.nil_append,List.length_nil];split
  ·assumption
  ·omega
 |c::a,l,h=>by
  have d:=GI p a l (λx hx=>h x (kX _ hx));have e:=sL p l;rw[JD,dM,h c aA2,aA aA1,d];by_cases b:dM p l= -1
  ·rw[aB b,aB b,aB rfl]
  ·rw[aA b,aA b,aA aA0,dH];omega
theorem ia_lp(s t:aC)(y:γ t<=1000)(x:t.all (λb=>decide (b.toNat<128))=μ)(n:Nat):∀(k f:Nat),γ s-k<=n->n<f->k<=γ s->
  aig 2000 s t f k=θ (if dM (t.contains ·) (s.drop k)= -1 then .inl ()else .inr ((k:Int)+dM (t.contains ·) (s.drop k))):=by
 induction n with
 |zero=>intro k f A D z;obtain⟨f,rfl⟩:=cB f;rw[ajm,afk,aA aA0,NR aA0];rfl
 |succ n w=>
  intro k f A D z;obtain⟨f,rfl⟩:=cB f;by_cases a:k<γ s
  ·rw[ajm,afk,aB a];have G:=sL (t.contains ·) (s.drop (k+1));by_cases d:(Κ s (k:Int)).toNat<128
   ·have u:Utf8.decode ⟨List.toArray s⟩ k=((Κ s (k:Int)).toNat,1):=Wt s k a d;rw[u];simp only;rw[ia_low t _ d,cP,yZ s k a,dM];have l:=RB (Κ s (k:Int)) t;by_cases m:t.contains (Κ s (k:Int))=μ
    ·rw[aB (l.2 m),aB m,aA aA1];simp
    ·rw[aA (λh=>m (l.1 h)),aA m,w (k+1) f aA0 aA0 aA0];by_cases i:dM (t.contains ·) (s.drop (k+1))= -1
     ·rw[aB i,aB i,aB rfl]
     ·rw[aA i,aA i,aA aA0];congr 2;omega
   ·obtain⟨d1,d2,d3,d4⟩:=Z3 s k a d;have e:(⟨s.toArray⟩:ByteArray)=⟨List.toArray s⟩:=Τ;rw[mz t y x _ aA0,cP,aA aA1];generalize(Utf8.decode ⟨s.toArray⟩ k).2=wd at d2 d3 d4⊢
    rw[w (k+wd) f aA0 aA0 aA0];have g:s.drop k=(s.drop k).take wd++s.drop (k+wd):=by
     have r:s.drop (k+wd)=(s.drop k).drop wd:=by rw[List.drop_drop]
     rw[r,YL]
    have q:∀c∈(s.drop k).take wd,t.contains c=ν:=by
     intro c m;obtain⟨j,B,rfl⟩:=List.getElem_of_mem m;rw[cQ,JC]at B;have E:=d4 (k+j) aA0 aA0;rw[List.getElem_take,List.getElem_drop];have F:Κ s ((k+j:Nat):Int)=s[k+j]' aA0:=by unfold Κ;rw[tQ];simp[show k+j<γ s by omega]
     rw[F]at E;cases v:t.contains (s[k+j]' aA0)with
     |false=>rfl
     |true=>have:=bX (aT.1 x _ (List.contains_iff_mem.1 v));omega
    have p:dM (t.contains ·) (s.drop k)=if dM (t.contains ·) (s.drop (k+wd))= -1 then-1 else dM (t.contains ·) (s.drop (k+wd))+(γ ((s.drop k).take wd):Int):=by
     conv=>lhs;rw[g]
     exact GI _ _ _ q
    rw[p];have o:γ ((s.drop k).take wd)=wd:=by rw[cQ,JC];omega
    have C:=sL (t.contains ·) (s.drop (k+wd));rw[o];by_cases i:dM (t.contains ·) (s.drop (k+wd))= -1
    ·rw[aB i,aB i,aB rfl]
    ·rw[aA i,aA i,aA aA0];congr 2;omega
  ·rw[ajm,afk,aA a,NR aA0];rfl
theorem T2(s t:aC)(i:γ s<=8)(d:2<=γ t)(f:γ t<=1000)(g:t.all (λb=>decide (b.toNat<128))=μ):atm 2000 s t=θ (Lib.indexAny s t):=by
 have a:¬t=[]:=λe=>by rw[e]at d;simp at d
 have h:=sL (t.contains ·) s;unfold atm ahj;rw[aA a,aA aA0,cP,aD aA0,aG,cP,ia_lp s t f g (γ s) 0 2000 aA0 aA0 aA0,Rl,azl,cP];by_cases c:dM (t.contains ·) s= -1
 ·rw[aB c,c];rfl
 ·rw[aA c,Sum.elim_inr];congr 1;omega
end Go.Wk
namespace Go.Proofs
open Go.Wk Go.Px
theorem Yq(s t:δ ζ)(w:ο)(h:γ s<=1000000000/\γ t<=1000/\t.all (λb=>decide (b.toNat<128))=μ)(f:Gl w):CR prog 162 [str s,str t] w λv w'=>v=.int .i64 (Lib.indexAny s t)/\Hp w [] [] w':=by
 obtain⟨d,c,a⟩:=h;by_cases g:8<γ s
 ·exact Gx s t w ⟨d,c,a,.inl g⟩
 by_cases e:γ t<=1
 ·exact Gx s t w ⟨d,c,a,.inr (.inl e)⟩
 exact tI (T2 s t aA0 aA0 c a) f
open Go.Wk Go.Px Go.Oe
abbrev kZ:Ty:=.pr .s' (.pr .s' .b')
abbrev dI:Ty:=.l' 193 40 kZ
noncomputable section
noncomputable def gT:δ (Nat×Ob):=[(0,.ro .s' bo),(3,.ro (.pr .s' (.i' .i64)) vD),(8,.ro .s' dv)]
noncomputable def glo:Cy where
 gs:=gT
 p w S:=Gl w/\∀b∈S,9<=b
 st h a j:=⟨a.1.hp h a.2,λb i=>(j b i).elim (λk=>tN a.1.gs k) (a.2 b)⟩
 rd:=by
  intro w S g t l a c;have d:∀g,g<9->g∉S:=λg f e=>Nat.lt_irrefl _ (cU f (a.2 g e));unfold gT at c;cases c with
  |head=>exact⟨a.1.specials.rd,d _ aA1⟩
  |tail _ c=>
  cases c with
  |head=>exact⟨a.1.kinds.rd,d _ aA1⟩
  |tail _ c=>
  cases c with
  |head=>exact⟨a.1.classes.rd,d _ aA1⟩
  |tail _ c=>
  cases c
noncomputable def oE(t:Nat):ε (Nat×Nat×Ty):=bif Nat.beq t 22 then θ (5,1,.c')else bif Nat.beq t 40 then θ (49,32,.pr .s' .s')else bif Nat.beq t 64 then θ (68,24,.pr (.i' .i64) .s')else bif Nat.beq t 89 then θ (9,16,.s')else bif Nat.beq t 144 then θ (193,40,.pr .s' (.pr .s' .b'))else ι
theorem oEh:∀t e b τ,oE t=θ (e,b,τ)->Tryz.prog.underlying t=θ (.slice e)/\TI prog e τ.sz b/\τ.flat=μ/\0<b:=by
 intro t e b τ h;unfold oE at h;cases g:Nat.beq t 22 with
 |true=>rw[g]at h;cases h;rw[fJ g];exact⟨underlying22,by unfold TI;kernel_rfl,Τ,aA1⟩
 |false=>
 rw[g]at h;simp only[aG]at h;cases f:Nat.beq t 40 with
 |true=>rw[f]at h;cases h;rw[fJ f];exact⟨underlying40,by unfold TI;kernel_rfl,Τ,aA1⟩
 |false=>
 rw[f]at h;simp only[aG]at h;cases d:Nat.beq t 64 with
 |true=>rw[d]at h;cases h;rw[fJ d];exact⟨underlying64,by unfold TI;kernel_rfl,Τ,aA1⟩
 |false=>
 rw[d]at h;simp only[aG]at h;cases c:Nat.beq t 89 with
 |true=>rw[c]at h;cases h;rw[fJ c];exact⟨underlying89,by unfold TI;kernel_rfl,Τ,aA1⟩
 |false=>
 rw[c]at h;simp only[aG]at h;cases a:Nat.beq t 144 with
 |true=>rw[a]at h;cases h;rw[fJ a];exact⟨underlying144,by unfold TI;kernel_rfl,Τ,aA1⟩
 |false=>
 rw[a]at h;simp only[aG]at h;cases h
theorem gTt:∀q∈glo.gs,∃t l,q.2=.ro t l:=by
 intro q a;have a:q∈gT:=a;unfold gT at a;cases a with
 |head=>exact⟨_,_,Τ⟩
 |tail _ a=>
 cases a with
 |head=>exact⟨_,_,Τ⟩
 |tail _ a=>
 cases a with
 |head=>exact⟨_,_,Τ⟩
 |tail _ a=>
 cases a
noncomputable def CK:Sea:=⟨prog,glo,oE,oEh,gTt⟩
variable{k:Nat}{fn:Func}
noncomputable def kl(a : CK.P.funcs[k]? = θ fn)(c : yO)(ok : Tq CK.P CK.GS k c)(b : fn.body = θ (fn.body.getD .skip) := by rfl)(nm : (fn.name == "runtime.NumGoroutine") = ν := by kernel_rfl) : CK.K := ⟨k, c, ⟨fn, _, a, b, nm⟩, ok⟩
noncomputable def kf(fu : Nat)(d : CK.P.funcs[k]? = θ fn)(l : δ CK.K)(a : δ Ty)(r : δ Rk)(g : (fU a).T -> ε (gU r).T)(sc : Sc)(e : fn.body = θ (fn.body.getD .skip) := by rfl)(nm : (fn.name == "runtime.NumGoroutine") = ν := by rfl)(c : Nat.ble a.length fn.ntmps = μ := by rfl)(b : ∀ x, denF (CK.cx fu fn.ntmps l a) (CK.GS.gs.map (·.2)) (fn.body.getD .skip) fn.results.toList sc a r x = g x := by intro x; kernel_rfl) : CK.K := CK.fn fu k d e nm l a r g sc c b
noncomputable def baa:=kl func27 ⟨[.i' .i64],[.r' (.s')],λx=>.gs [⟨bJ x,inferInstance⟩] (Lib.itoa x)⟩ (SQ (λx=>[.int .i64 x]) (λy=>str y) λw S x y b a=>by obtain⟨⟨c,_⟩,rfl⟩:=a;exact OX x w c b.1)
noncomputable def Ef:=kl func31 ⟨[.s',.s'],[.r' (.i' .i64)],λx=>.gs [⟨γ x.1<=1000000000,inferInstance⟩] (Lib.index x.1 x.2)⟩ (SQ (λx=>[str x.1,str x.2]) (λy=>.int .i64 y) λw S x y b a=>by obtain⟨⟨c,_⟩,rfl⟩:=a;exact Lp x.1 x.2 w c b.1)
noncomputable def bem:=kl func33 ⟨[.s',.s'],[.r' (.s'),.r' (.b')],λx=>.gs [] (Lib.trimPrefix x.1 x.2,Lib.hasPrefix x.1 x.2)⟩ (SQ (λx=>[str x.1,str x.2]) (λy=>.tuple #[str y.1,.bool y.2]) λw S x y b a=>by obtain⟨_,rfl⟩:=a;exact zQ x.1 x.2 w)
noncomputable def bix:=kl func36 ⟨[.s',.s'],[.r' (.s'),.r' (.s'),.r' (.b')],λx=>.gs [⟨γ x.1<=1000000000,inferInstance⟩] ((Lib.cut x.1 x.2).1,(Lib.cut x.1 x.2).2.1,(Lib.cut x.1 x.2).2.2)⟩ (SQ (λx=>[str x.1,str x.2]) (λy=>.tuple #[str y.1,str y.2.1,.bool y.2.2]) λw S x y b a=>by obtain⟨⟨c,_⟩,rfl⟩:=a;exact G4 x.1 x.2 w c b.1)
noncomputable def LP:=kl func44 ⟨[.r' .c'],[.r' (.l' 5 1 .c')],λx=>.gs [⟨(0+γ x)*1<=140737488355328,inferInstance⟩] x⟩ (uN (e:=5) (b:=1) (t:=.c') (λx=>x) (λy=>y) λw S x y a n cap i c d f h=>by obtain⟨⟨g,_⟩,rfl⟩:=c;exact KO x w a n cap d f g)
noncomputable def bgb:=kl func62 ⟨[.r' .s',.s'],[.r' .s'],λx=>.gs [⟨γ x.1<=1000000000/\γ (Lib.join x.1 x.2)<=100000000000,inferInstance⟩] (Lib.join x.1 x.2)⟩ (W5 (t:=.s') (λx=>x.1) (λx=>[str x.2]) (λy=>str y) λw S x y a n cap g b c e d=>by obtain⟨⟨f,_⟩,rfl⟩:=b;exact Yp x.2 w a n cap x.1 c e d f)
noncomputable def pU:=kl func63 ⟨[.s',.s'],[.r' (.s')],λx=>.gs [⟨γ x.1<=1000000000,inferInstance⟩,⟨γ x.2<=1000/\x.2.all (λb=>decide (b.toNat<128))=μ,inferInstance⟩] (Lib.trimS x.1 x.2)⟩ (SQ (λx=>[str x.1,str x.2]) (λy=>str y) λw S x y e a=>by obtain⟨⟨d,c,_⟩,rfl⟩:=a;exact OW x.1 x.2 w d c)
noncomputable def bek:=kl func64 ⟨[.s',.s'],[.r' (.s')],λx=>.gs [⟨γ x.1<=1000000000,inferInstance⟩,⟨γ x.2<=1000/\x.2.all (λb=>decide (b.toNat<128))=μ,inferInstance⟩] (Lib.trimRightS x.1 x.2)⟩ (SQ (λx=>[str x.1,str x.2]) (λy=>str y) λw S x y e a=>by obtain⟨⟨d,c,_⟩,rfl⟩:=a;exact Yo x.1 x.2 w d c)
noncomputable def nK:=kl func91 ⟨[.p' 112 (.pr .z' (.l' 5 1 .c'))],[.r' .s'],λx=>.gs [⟨γ x.2<=140737488355328,inferInstance⟩] x.2⟩ (W6 Tryz.lf Tryz.Cr _)
noncomputable def Bb:=kl func117 ⟨[.p' 112 (.pr .z' (.l' 5 1 .c'))],[.o' 0 112 (.pr .z' (.l' 5 1 .c'))],λx=>.gs [] x⟩ (oe Yn)
noncomputable def ayw:=kl func162 ⟨[.s',.s'],[.r' (.i' .i64)],λx=>.gs [⟨γ x.1<=1000000000/\γ x.2<=1000/\x.2.all (λb=>decide (b.toNat<128))=μ,inferInstance⟩] (Lib.indexAny x.1 x.2)⟩ (SQ (λx=>[str x.1,str x.2]) (λy=>.int .i64 y) λw S x y c a=>by obtain⟨⟨d,_⟩,rfl⟩:=a;exact Yq x.1 x.2 w d c.1)
noncomputable def akd:=kl func171 ⟨[.s',.c'],[.r' (.i' .i64)],λx=>.gs [] (dM (·==x.2) x.1)⟩ (SQ (λx=>[str x.1,bt x.2]) (λy=>.int .i64 y) λw S x y b a=>by obtain⟨_,rfl⟩:=a;exact oQ x.1 x.2 w)
noncomputable def bgc:=kl func194 ⟨[.s',.s'],[.r' (.b')],λx=>.gs [⟨γ x.1<=1000000000,inferInstance⟩] (Lib.contains x.1 x.2)⟩ (SQ (λx=>[str x.1,str x.2]) (λy=>.bool y) λw S x y b a=>by obtain⟨⟨c,_⟩,rfl⟩:=a;exact DH x.1 x.2 w c b.1)
noncomputable def GF:=kl func202 ⟨[.r' kZ],[.r' dI],λx=>.gs [⟨(0+γ x)*40<=140737488355328,inferInstance⟩] x⟩ (uN (e:=193) (b:=40) (t:=.pr .s' (.pr .s' .b')) (λx=>x) (λy=>y) λw S x y a n cap i c d f h=>by obtain⟨⟨g,_⟩,rfl⟩:=c;exact DI x w a n cap d f g)
noncomputable def bjp:=kl func207 ⟨[.s',.c'],[.r' (.i' .i64)],λx=>.gs [⟨γ x.1<=1000000000,inferInstance⟩] (kR (·==x.2) x.1)⟩ (SQ (λx=>[str x.1,bt x.2]) (λy=>.int .i64 y) λw S x y c a=>by obtain⟨⟨b,_⟩,rfl⟩:=a;exact Dj x.1 x.2 w b)
noncomputable def nF:=kl func250 ⟨[.s',.s'],[.r' (.l' 9 16 .s')],λx=>match x.2 with|[c]=>.gs [⟨γ x.1<=1000000000,inferInstance⟩] (cJ c x.1)|_=>.one ι⟩ (od (e:=9) (b:=16) (t:=.s') (λy=>y) (λx=>[str x.1,str x.2]) λw S x y d a=>by
  obtain⟨s,c⟩:=x
  match c,a with
  |[c],a=>obtain⟨⟨f,_⟩,rfl⟩:=a;exact G3 s c w f d.1
  |[],a=>cases a
  |_::_::_,a=>cases a)
noncomputable def uV:=kl func272 ⟨[.s',.s'],[.r' (.s')],λx=>.gs [⟨γ x.1<=1000000000,inferInstance⟩,⟨γ x.2<=1000/\x.2.all (λb=>decide (b.toNat<128))=μ,inferInstance⟩] (Lib.trimLeftS x.1 x.2)⟩ (SQ (λx=>[str x.1,str x.2]) (λy=>str y) λw S x y e a=>by obtain⟨⟨d,c,_⟩,rfl⟩:=a;exact DG x.1 x.2 w d c)
noncomputable def qE:=kl func286 ⟨[.s',.s'],[.r' (.s')],λx=>.gs [] (Lib.trimPrefix x.1 x.2)⟩ (SQ (λx=>[str x.1,str x.2]) (λy=>str y) λw S x y b a=>by obtain⟨_,rfl⟩:=a;exact Sf x.1 x.2 w)
end
open Go.Wk Go.Px Go.Oe
abbrev Λ:Sc->Sc:=Sc.s' Sc.n'
abbrev Μ:Ty:=.i' .i64
section
variable(fu:Nat)
noncomputable def bge:=kf fu func83 [] [.c'] [.r' (.b')] (λx=>auc fu x) (Λ (.r' [] [] (.s' (.j' [.s' 3 (.b')] [0,1,2,6] .n' (Λ (.j' [.s' 3 (.b')] [0,1,2,6] .n' .n'))) .n') .n'))
noncomputable def aqx:=kf fu func56 [bge fu] [.s',.i' .i64,.f' 83 .u'] [.r' Μ] (λx=>agb fu x.1 x.2.1) (Λ (Λ (.j' [.s' 1 Μ] [] (.l' [.s' 1 Μ] (.s' (.j' [.s' 22 (.b')] [0,1,3,4] .n' .n') .n')) .n')))
noncomputable def avj:=kf fu func52 [aqx fu,bge fu] [.s',.i' .i64] [.r' Μ] (λx=>ra fu x.1 x.2) (.n')
noncomputable def asq:=kf fu func30 [avj fu] [.s'] [.r' (.b')] (λx=>ZB fu x) (Λ (.j' [.s' 2 (.b')] [0,1,2,9] .n' .n'))
noncomputable def Em:=kf fu func14 [asq fu] [.s'] [.r' (.b')] (λx=>aqj fu x) (Λ (.j' [.s' 2 (.b')] [0,2,7] .n' .n'))
noncomputable def baf:=kf fu func54 [] [.s',.s'] [.r' (.b')] (λx=>aia fu x.1 x.2) (Λ (.j' [.s' 4 (.b')] [0,2,4,5,16] .n' .n'))
noncomputable def bel:=kf fu func32 [baf fu] [.s',.s'] [.r' (.b')] (λx=>agk fu x.1 x.2) (.n')
noncomputable def arf:=kf fu func57 [] [.c'] [.r' (.b')] (λx=>eh fu x) (Λ (.j' [.s' 2 (.b')] [0,1,2,6] .n' .n'))
noncomputable def bdh:=kf fu func56 [arf fu] [.s',.i' .i64,.f' 57 .u'] [.r' Μ] (λx=>ajz fu x.1 x.2.1) (Λ (Λ (.j' [.s' 1 Μ] [] (.l' [.s' 1 Μ] (.s' (.j' [.s' 22 (.b')] [0,1,3,4] .n' .n') .n')) .n')))
noncomputable def auz:=kf fu func34 [aqx fu,bdh fu,arf fu] [.s',.i' .i64] [.r' Μ] (λx=>qw fu x.1 x.2) (.n')
noncomputable def bag:=kf fu func58 [] [.s',.s'] [.r' (.b')] (λx=>aib fu x.1 x.2) (Λ (.j' [.s' 4 (.b')] [0,2,4,5,13] .n' .n'))
noncomputable def rZ:=kf fu func35 [bag fu] [.s',.s'] [.r' (.b')] (λx=>arl fu x.1 x.2) (.n')
noncomputable def bky:=kf fu func15 [Ef,bel fu,bem,auz fu,rZ fu] [.s',.i' .i64,.s'] [.r' (.pr Μ (.pr Μ .b')),.r' (.b')] (λx=>aes fu x.1 x.2.1 x.2.2) (Λ (Λ (Λ (.l' [.s' 9 Μ] (.s' (Λ (Λ (Λ (.s' (.j' [.s' 41 (.b')] [0,1,2] .n' .n') .n')))) .n')))))
noncomputable def auy:=kf fu func87 [] [.c'] [.r' (.b')] (λx=>ahv fu x) (Λ (.j' [.s' 2 (.b')] [0,1,2,6,10] .n' .n'))
noncomputable def Nz:=kf fu func60 [auy fu] [.s'] [.r' Μ,.r' (.b')] (λx=>aru fu x) (Λ (.r' [] [] (Λ (.l' [.s' 4 Μ] .n')) .n'))
noncomputable def ayx:=kf fu func71 [] [.c'] [.r' (.c')] (λx=>aju fu x) (Λ (.s' (.j' [.s' 8 (.b')] [0,1,2] .n' .n') .n'))
noncomputable def xR:=kf fu func70 [] [.c'] [.r' (.s')] (λx=>awm fu x) (.n')
noncomputable def agj:=kf fu func72 [ayx fu] [.s',.f' 71 .u'] [.r' (.s')] (λx=>adc fu x.1) (Λ (Λ (.j' [.w' 5 (.y')] [] (Λ (.l' [.w' 5 (.y'),.s' 12 Μ] .n')) .n')))
noncomputable def arh:=kf fu func74 [] [.c'] [.r' (.c')] (λx=>ann fu x) (Λ (.s' (.j' [.s' 8 (.b')] [0,1,2] .n' .n') .n'))
noncomputable def bjq:=kf fu func73 [ayx fu,arh fu] [.c',.p' 4 .b'] [.r' (.c'),.o' 0 4 .b'] (λx=>ayn fu x.1 x.2) (.n')
noncomputable def ahi:=kf fu func72 [bjq fu] [.s',.f' 73 (.p' 4 .b')] [.r' (.s'),.o' 0 4 .b'] (λx=>adm fu x.1 x.2) (Λ (Λ (.j' [.w' 5 (.y'),.o' 1 0 (.b')] [] (Λ (.l' [.w' 5 (.y'),.s' 12 Μ,.o' 1 0 (.b')] .n')) .n')))
noncomputable def bgf:=kf fu func45 [asq fu,xR fu,ayx fu,agj fu,ahi fu,bjq fu] [.s'] [.r' (.s'),.r' (.c')] (λx=>asv fu x) (Λ (.s' (.j' [.s' 16 (.b')] [0,2,3] .n' .n') (.r' [] [] .n' (Λ (.r' [] [] (Λ (.l' [.s' 30 Μ] .n')) .n')))))
noncomputable def nJ:=kf fu func123 [] [.s'] [.r' Μ] (λx=>wa fu x) (Λ (.r' [] [] (Λ (.l' [.s' 4 Μ] .n')) .n'))
noncomputable def Of:=kf fu func101 [nJ fu] [.s'] [.r' (.b')] (λx=>arw fu x) (Λ (.r' [] [] .n' (Λ (.j' [.s' 2 (.b')] [0,1,2,6] .n' .n'))))
noncomputable def aoa:=kf fu func124 [pU] [.s'] [.r' (.s')] (λx=>ZA fu x) (.n')
noncomputable def agr:=kf fu func191 [auz fu] [.p' 207 (.pr (.w' .s') Μ)] [.o' 0 207 (.pr (.w' .s') Μ)] (λx=>eo fu x) (.n')
noncomputable def akn:=kf fu func211 [] [.p' 207 (.pr (.w' .s') Μ)] [.r' (.b')] (λx=>wk fu x) (.n')
noncomputable def rl:=kf fu func192 [akn fu] [.p' 207 (.pr (.w' .s') Μ),.c'] [.r' (.b')] (λx=>Iu fu x.1 x.2) (Λ (.j' [.s' 4 (.b')] [] .n' .n'))
noncomputable def qI:=kf fu func217 [] [.c'] [.r' (.b')] (λx=>aov fu x) (Λ (.j' [.s' 2 (.b')] [0,1,2,6] .n' .n'))
noncomputable def bea:=kf fu func170 [auy fu,qI fu] [.s',.i' .i64] [.r' (.s'),.r' Μ,.r' (.c')] (λx=>aqc fu x.1 x.2) (Λ (.s' (.j' [.s' 17 (.b')] [0,1,2] .n' .n') (.s' (.j' [.s' 27 (.b')] [0,1,3,4] .n' .n') (Λ (Λ (Λ (.r' [.s' 7 (.l' 5 1 .c'),.s' 8 Μ] [] (.l' [.s' 7 (.l' 5 1 .c'),.s' 8 Μ] .n') .n')))))))
noncomputable def bfc:=kf fu func193 [bea fu,agr fu,rl fu] [.p' 207 (.pr (.w' .s') Μ),.p' 148 (.pr .s' (.pr (.pr .s' (.pr .s' (.pr .s' (.pr Μ (.pr dI dI))))) dI))] [.r' Μ,.r' (.c'),.o' 0 207 (.pr (.w' .s') Μ),.o' 1 148 (.pr .s' (.pr (.pr .s' (.pr .s' (.pr .s' (.pr Μ (.pr dI dI))))) dI))] (λx=>ahs fu x.1 x.2) (.n')
noncomputable def bak:=kf fu func237 [avj fu] [.p' 207 (.pr (.w' .s') Μ)] [.r' (.s'),.o' 0 207 (.pr (.w' .s') Μ)] (λx=>afw fu x) (.n')
noncomputable def bgi:=kf fu func195 [bgb,agr fu,rl fu,bak fu] [.p' 207 (.pr (.w' .s') Μ),.p' 148 (.pr .s' (.pr (.pr .s' (.pr .s' (.pr .s' (.pr Μ (.pr dI dI))))) dI))] [.r' Μ,.r' (.c'),.o' 0 207 (.pr (.w' .s') Μ),.o' 1 148 (.pr .s' (.pr (.pr .s' (.pr .s' (.pr .s' (.pr Μ (.pr dI dI))))) dI))] (λx=>aee fu x.1 x.2) (Λ (Λ (.r' [.s' 6 (.l' 9 16 .s'),.o' 0 0 (.s'),.o' 0 1 Μ] [] (.l' [.s' 6 (.l' 9 16 .s'),.o' 0 0 (.s'),.o' 0 1 Μ] .n') .n')))
noncomputable def aiy:=kf fu func238 [ayw] [.w' .s',.i' .i64,.s'] [.r' Μ] (λx=>BZ fu x.1 x.2.1 x.2.2) (.n')
noncomputable def rb:=kf fu func200 [] [.s'] [.r' (.s')] (λx=>YF fu x) (Λ (Λ (.j' [.w' 3 (.y')] [] (Λ (.l' [.w' 3 (.y'),.s' 10 Μ] (Λ (Λ (.s' (Λ (.j' [.s' 20 (.b')] [0,1,2] .n' .n')) .n'))))) .n')))
noncomputable def bjr:=kf fu func253 [] [.c'] [.r' (.b')] (λx=>amm fu x) (Λ (.j' [.s' 2 (.b')] [0,1,2,6,14] .n' .n'))
noncomputable def asc:=kf fu func251 [] [.c'] [.r' (.b')] (λx=>ZC fu x) (Λ (.j' [.s' 2 (.b')] [0,1,2,6] .n' .n'))
noncomputable def bht:=kf fu func243 [akd,asc fu,bjr fu] [.c',.i' .i64] [.r' (.b')] (λx=>aql fu x.1 x.2) (Λ (.s' (.j' [.s' 15 (.b')] [0,2,6] .n' .n') (.j' [.s' 4 (.b')] [0,1,2,6,14] .n' .n')))
noncomputable def bgg:=kf fu func271 [asc fu] [.c'] [.r' (.c'),.r' (.b')] (λx=>wh fu x) (Λ (.s' (Λ (Λ (.j' [.s' 9 (.b')] [0,1,2,6] .n' (Λ (.j' [.s' 19 (.b')] [0,1,2,6] .n' .n'))))) .n'))
noncomputable def bgh:=kf fu func296 [bgg fu] [.s',.i' .i64] [.r' (.c'),.r' (.b')] (λx=>ans fu x.1 x.2) (Λ (.s' (.j' [.s' 20 (.b')] [0,1,2,4,5] .n' .n') (Λ (Λ (.j' [.s' 5 (.b')] [0,1,2,3,4,5,8,9] .n' .n')))))
noncomputable def bhu:=kf fu func267 [] [.c'] [.r' (.b')] (λx=>awv fu x) (Λ (.j' [.s' 2 (.b')] [0,1,2,6,10] .n' .n'))
noncomputable def baj:=kf fu func284 [bht fu,bhu fu,bgh fu] [.p' 207 (.pr (.w' .s') Μ),.i' .i64,.i' .i64] [.r' Μ,.r' (.b')] (λx=>afv fu x.1 x.2.1 x.2.2) (Λ (.r' [] [] (Λ (.l' [.s' 8 Μ] (Λ (.s' (Λ (Λ (.s' (.j' [.s' 46 (.b')] [0,1,2] .n' .n') .n'))) .n')))) .n'))
noncomputable def uZ:=kf fu func297 [bgh fu] [.s'] [.r' (.s'),.r' Μ,.r' (.c')] (λx=>bbu fu x) (Λ (Λ (.r' [.s' 5 (.l' 5 1 .c')] [] (Λ (.l' [.s' 5 (.l' 5 1 .c'),.s' 6 Μ] .n')) .n')))
noncomputable def bhv:=kf fu func285 [uZ fu] [.s'] [.r' (.s')] (λx=>ald fu x) (.n')
noncomputable def sK:=kf fu func249 [rb fu,nF,bgg fu,uV] [.s'] [.r' (.l' 9 16 .s'),.r' (.b')] (λx=>agm fu x) (Λ (Λ (.r' [.w' 4 (.l' 9 16 .s')] [] (Λ (.l' [.w' 4 (.l' 9 16 .s'),.s' 14 Μ] (Λ (Λ (.r' [.w' 4 (.l' 9 16 .s')] [] (Λ (.s' (.j' [.s' 26 (.b')] [0,2,3] .n' .n') (.r' [] [] (Λ (.l' [.s' 29 Μ] .n')) .n'))) .n'))))) .n')))
noncomputable def Bc:=kf fu func208 [bix,bgb,sK fu] [.s'] [.r' (.s'),.r' (.b')] (λx=>ayp fu x) (Λ (Λ (Λ (.s' (Λ (.s' (Λ (.j' [.s' 2 (.s'),.s' 3 (.b')] [0,2,3,8,9] .n' .n')) .n')) (Λ (Λ (.j' [.s' 9 (.l' 9 16 .s'),.s' 11 (.b')] [] .n' (.j' [.s' 10 (.l' 9 16 .s'),.s' 12 (.b')] [] .n' (.s' (.j' [.s' 64 (.b')] [0,1,2,6] .n' .n') .n')))))))))
noncomputable def xV:=kf fu func209 [baa,nF,asc fu] [.s'] [.r' (.b')] (λx=>awt fu x) (Λ (Λ (Λ (.r' [] [] (Λ (.l' [.s' 15 Μ] (Λ (Λ (.r' [] [] (Λ (Λ (.r' [.s' 6 Μ] [] (Λ (.l' [.s' 6 Μ,.s' 21 Μ] .n')) (.j' [.s' 49 (.b')] [0,1,2,6] .n' .n')))) .n'))))) .n'))))
end
theorem uv:Go.Wk.Enters prog 31:=⟨Tryz.f31,_,func31,Τ,by kernel_rfl⟩
theorem X8:Go.Wk.Enters prog 251:=⟨Tryz.f251,_,func251,Τ,by kernel_rfl⟩
theorem ent252:Go.Wk.Enters prog 252:=⟨Tryz.f252,_,func252,Τ,by kernel_rfl⟩
theorem ent253:Go.Wk.Enters prog 253:=⟨Tryz.f253,_,func253,Τ,by kernel_rfl⟩
theorem ent274:Go.Wk.Enters prog 274:=⟨Tryz.f274,_,func274,Τ,by kernel_rfl⟩
theorem ent290:Go.Wk.Enters prog 290:=⟨Tryz.f290,_,func290,Τ,by kernel_rfl⟩
variable{fu:Nat}{f:ζ}{r:η}{w:ο}
theorem bkk(d:ZC fu f=θ r)(a:Gl w):CR prog 251 [bt f] w λv c=>v=.bool r/\Hp w [] [] c:=
 SM (x:=f) (y:=r) (asc fu).ok (λx=>[bt x]) _ ⟨a,λb e=>by cases e⟩ d
theorem yN(d:amm fu f=θ r)(a:Gl w):CR prog 253 [bt f] w λv c=>v=.bool r/\Hp w [] [] c:=
 SM (x:=f) (y:=r) (bjr fu).ok (λx=>[bt x]) _ ⟨a,λb e=>by cases e⟩ d
variable{a c:aC}{m:Int}{g:(aC×aC×Int)}
theorem tG(h:atk fu a c m=θ g)(q:Gl w):CR prog 274 [(str a),(str c),(Δ .i64 m)] w λv w'=>∃(l:Nat),∃(d:Nat),∃(k:Nat),v=(Θ (.func 290) #[] #[(φ (dG l)),(φ (dG d)),(φ (dG k))])/\Hp w [] [aY l [(str g.1)] 9,aY d [(str g.2.1)] 9,aY k [(Δ .i64 g.2.2)] 3] w':=by have s:=Hp.refl w;refine enter func274 Τ Τ (aZ Τ) ?_;unfold atk at h;refine sr (jS s [(str a)] 9 (λb=>(φ (dG b))) Τ Τ aK λd p r=>jS r [(str c)] 9 (λb=>(φ (dG b))) Τ Τ aK λj o f=>jS f [(Δ .i64 m)] 3 (λb=>(φ (dG b))) Τ Τ aK λi n e=>wp 1 (nq (sr ?_)));refine wp 2 (nq (ct ?_));obtain rfl:=oi h;refine pT (Θ (.func 290) #[] #[(φ (dG j)),(φ (dG d)),(φ (dG i))]) Τ aK ?_;exact⟨j,d,i,iK,(Hp.front (Hp.front e 2 _ Τ) 2 _ Τ).kp⟩
theorem tH(p:atl fu a c=θ g)(o:Gl w):CR prog 252 [(str a),(str c)] w λv w'=>∃(m:Nat),∃(l:Nat),∃(k:Nat),v=(Θ (.func 290) #[] #[(φ (dG m)),(φ (dG l)),(φ (dG k))])/\Hp w [] [aY m [(str g.1)] 9,aY l [(str g.2.1)] 9,aY k [(Δ .i64 g.2.2)] 3] w':=by have j:=Hp.refl w;refine enter func252 Τ Τ (aZ Τ) ?_;unfold atl at p;refine sr (wp 1 (nq (sr (wp 2 (bi p λd e p=>vC 274 #[] [(str a),(str c),(Δ .i64 0)] _ ent274 aK aK (tG e (o.iY j)) ?_)))));rintro _ n ⟨i,h,r,rfl,b⟩;have f:Hp w [] (cf i d.1 h d.2.1 r d.2.2) n:=Hp.dV (L1:=[]) (L2:=[]) j b;clear b;refine wp 1 (nq (ct ?_));obtain rfl:=oi p;refine pT (Θ (.func 290) #[] #[(φ (dG i)),(φ (dG h)),(φ (dG r))]) Τ aK ?_;exact⟨i,h,r,iK,f.kp⟩
theorem aum{z:η}(f:Nat)(d:Loop)(l:Nat)(k:Nat)(i:Nat)(g:Nat)(e:Nat){t:(η×η×aC×Nat)}(F:adj fu r z a c m=θ t)(hG:Gl w)(hM:Hp w (eP [eC f 0 d,aY l [(υ r)] 4,aY k [(υ z)] 4,aY i [(str a)] 9,aY g [(str c)] 9,aY e [(Δ .i64 m)] 3]) [eC f 0 d,aY l [(υ r)] 4,aY k [(υ z)] 4,aY i [(str a)] 9,aY g [(str c)] 9,aY e [(Δ .i64 m)] 3] w)(hS:∀b∈eP [eC f 0 d,aY l [(υ r)] 4,aY k [(υ z)] 4,aY i [(str a)] 9,aY g [(str c)] 9,aY e [(Δ .i64 m)] 3],9<=b)(U:∀(Q:aC) (P:η) (O:η) (w_:ο),Hp w (eP [eC f 0 d,aY l [(υ r)] 4,aY k [(υ z)] 4,aY i [(str a)] 9,aY g [(str c)] 9,aY e [(Δ .i64 m)] 3]) [eC f 0 d,aY l [(υ P)] 4,aY k [(υ O)] 4] w_->∀(yr:(Nat×η×η)),rh fu Q P O=θ yr->YR prog f [(str Q)] w_ λv c1=>v=υ (decide (yr.1=0))/\Hp w_ (eP [eC f 0 d,aY l [(υ P)] 4,aY k [(υ O)] 4]) [eC f yr.1 d,aY l [(υ yr.2.1)] 4,aY k [(υ yr.2.2)] 4] c1):CR prog 290 [(Θ (.yield f) #[] #[]),(φ (dG i)),(φ (dG g)),(φ (dG e))] w λv w'=>v=(Value.tuple #[])/\Hp w (eP [eC f 0 d,aY l [(υ r)] 4,aY k [(υ z)] 4,aY i [(str a)] 9,aY g [(str c)] 9,aY e [(Δ .i64 m)] 3]) [aY l [(υ t.1)] 4,aY k [(υ t.2.1)] 4,aY i [(str a)] 9,aY g [(str t.2.2.1)] 9,aY e [(Δ .i64 m)] 3,eC f t.2.2.2 d] w':=by
 have hH:=hM;refine ML func290 Τ Τ (aZ Τ) ?_;unfold adj at F;refine bi F λc4 x F=>Z9 hH c4 [0,1,2,3] (λc3=>[]) ?_ ?_;refine sr (nV hH 3 i 0 _ 9 _ Τ Τ aK aK (wp 2 (nq (cd x (λc6 x=> ?_) (λc6 x=> ?_)))));refine bi x λd1 b1 x=>nS hH [0,1,2,3] [] ?_ ?_;refine ce (P3 (λT _=>acr fu c T) () hH b1 [0,1,2,3] (λ(_:Unit)=>[]) (λ_=>rfl) ?_);rintro T _ d0 G S A;rw[aqr,aeh]at A;refine cs (sr (nV S 4 g 0 _ 9 _ Τ Τ aK aK (wp 2 (nq (cd A (λc5 A=> ?_) (λc5 A=> ?_))))));exact absurd A aA2;refine Fu (Fx (Fw (Ft (ql ?_))));obtain rfl:=oi A;exact je S.kp;intro c9 G b3;refine ct (pJ ?_);obtain rfl:=oi x;obtain rfl:=oi F;refine xE Τ ?_;exact⟨iK,(Hp.front (Hp.front (Hp.front (Hp.front (Hp.front b3 5 _ Τ) 5 _ Τ) 5 _ Τ) 5 _ Τ) 5 _ Τ).kp⟩;refine ck (ql ?_);obtain rfl:=oi x;exact je1 Τ hH.kp;rintro c3 c8 G b2 rfl;refine bi F λR X F=>cut (σ:=(η×η×aC)) [0,2] (λj=>[]) (λj w'=>Hp w (eP [eC f 0 d,aY l [(υ r)] 4,aY k [(υ z)] 4,aY i [(str a)] 9,aY g [(str c)] 9,aY e [(Δ .i64 m)] 3]) [eC f 0 d,aY l [(υ j.1)] 4,aY k [(υ j.2.1)] 4,aY i [(str a)] 9,aY g [(str j.2.2)] 9,aY e [(Δ .i64 m)] 3] w'/\.inl j=R) ?_ ?_;refine ce (FK (σ:=Nat×η×η×aC) [0,1,2,3] (λ⟨q,o,n,h⟩=>[]) (λ⟨q,o,n,h⟩ w'=>Hp w (eP [eC f 0 d,aY l [(υ r)] 4,aY k _ 4,aY i _ 9,aY g _ 9,aY e _ 3]) [eC f 0 d,aY l [(υ o)] 4,aY k [(υ n)] 4,aY i [(str a)] 9,aY g [(str h)] 9,aY e [(Δ .i64 m)] 3] w'/\aby fu a m q o n h=θ R) (λ⟨q,o,n,h⟩=>q) (fu,r,z,c) (by exact⟨b2.kp,X⟩) ?_);rintro⟨_|q,o,n,h⟩ b0 G ⟨C,u⟩
 ·exact absurd (show ι=θ _ from u) aA2
 rw[aeb,abw]at u;refine ce (sr (nV C 4 g 0 _ 9 _ Τ Τ aK aK (nV C 3 i 0 _ 9 _ Τ Τ aK aK (gi u λc0 u=>vC 31 #[] [(str h),(str a)] _ uv aK aK (Lp h a b0 c0 (hG.hp C hS)) ?_))));rintro _ a9 ⟨rfl,K⟩;have B:=C.call K;clear K;refine wp 1 (nq (cs (sr (wp 2 (nq (cd u (λb5 u=> ?_) (λb5 u=> ?_)))))));refine Fu (Fx (ax aK (Fw (Ft (ql ?_)))));obtain rfl:=oi u;exact⟨(o,n,h),_,Τ,by kernel_rfl,B.kp,Τ⟩;refine ck (qn (sr (nV B 4 g 0 _ 9 _ Τ Τ aK aK (wp 1 (nV B 5 e 0 _ 3 _ Τ Τ aK aK (gi u λb9 u=>Cw _ m aK aK b9 (gi u λb8 u=> ?_)))))));refine Kp h .i64 _ underlying9 aK aK b8 (wp 1 (nq (cs (sr (wp 2 (bi u λp W u=> ?_))))));have a2:=B.front 2 _ Τ;have a1:=a2.front 2 _ Τ;have N:=a1.front 2 _ Τ;have a4:=Hp.AM (L1:=[eC f 0 d,aY l _ 4,aY k _ 4]) (L2:=(cf i a g h e m)) N;refine zH f _ _ aK aK (U _ o n a9 a4 p W) ?_;rintro _ a8 ⟨rfl,J⟩;have y:Hp w (eP [eC f 0 d,aY l [(υ r)] 4,aY k [(υ z)] 4,aY i [(str a)] 9,aY g [(str c)] 9,aY e [(Δ .i64 m)] 3]) [eC f p.1 d,aY l [(υ p.2.1)] 4,aY k [(υ p.2.2)] 4,aY i [(str a)] 9,aY g [(str h)] 9,aY e [(Δ .i64 m)] 3] a8:=Hp.dV (L1:=[eC f 0 d,aY l [(υ o)] 4,aY k [(υ n)] 4]) (L2:=(cf i a g h e m)) N J;clear J;by_cases E:p.1=0;replace u:=LX E u;rw[E]at y;rw[show decide (p.1=0)=μ from(aE E)];refine wp 1 (nq (lV aK (ck (qn (cr (nV y 4 g 0 _ 9 _ Τ Τ aK aK (wp 1 (nV y 3 i 0 _ 9 _ Τ Τ aK aK ?_))))))));refine wp 1 (gi u λb7 u=>Cw _ _ aK aK b7 (gi u λb6 u=>azj h .i64 _ underlying9 aK aK b6 (kA y 4 g 0 _ 9 (str (List.drop (Int.toNat ((Lib.index h a)+γ a)) h)) _ Τ (cU (bZ _) (aZ Τ)) aK aK Τ aK Τ λc7 a0=>wl (bn (ql ?_)))));exact⟨(q,p.2.1,p.2.2,List.drop _ h),_,Τ,by kernel_rfl,⟨a0.kp,u⟩,bZ _⟩;replace u:=LY E u;rw[show decide (p.1=0)=ν from(aD E)];refine wp 1 (nq (tB aK (ct (st (iD (pJ (iD (pJ ?_))))))));obtain rfl:=oi u;obtain rfl:=oi F;refine xE Τ ?_;exact⟨iK,(Hp.front (Hp.front (Hp.front (Hp.front (Hp.front y 5 _ Τ) 5 _ Τ) 5 _ Τ) 5 _ Τ) 5 _ Τ).kp⟩;rintro j a7 G ⟨M,rfl⟩;refine cr (wp 1 (nV M 4 g 0 _ 9 _ Τ Τ aK aK (bi F λs V F=> ?_)));have Z:=M.front 2 _ Τ;have Y:=Z.front 2 _ Τ;have L:=Y.front 2 _ Τ;have a3:=Hp.AM (L1:=[eC f 0 d,aY l _ 4,aY k _ 4]) (L2:=(cf i a g j.2.2 e m)) L;refine zH f _ _ aK aK (U j.2.2 j.1 j.2.1 a7 a3 s V) ?_;rintro _ a6 ⟨rfl,I⟩;have H:Hp w (eP [eC f 0 d,aY l [(υ r)] 4,aY k [(υ z)] 4,aY i [(str a)] 9,aY g [(str c)] 9,aY e [(Δ .i64 m)] 3]) [eC f s.1 d,aY l [(υ s.2.1)] 4,aY k [(υ s.2.2)] 4,aY i [(str a)] 9,aY g [(str j.2.2)] 9,aY e [(Δ .i64 m)] 3] a6:=Hp.dV (L1:=[eC f 0 d,aY l [(υ j.1)] 4,aY k [(υ j.2.1)] 4]) (L2:=(cf i a g j.2.2 e m)) L I;clear I;by_cases D:s.1=0;replace F:=LX D F;rw[D]at H;rw[show decide (s.1=0)=μ from(aE D)];refine wl ?_;obtain rfl:=oi F;refine uA Τ ?_;exact⟨iK,(Hp.front (Hp.front (Hp.front (Hp.front (Hp.front H 5 _ Τ) 5 _ Τ) 5 _ Τ) 5 _ Τ) 5 _ Τ).kp⟩;replace F:=LY D F;rw[show decide (s.1=0)=ν from(aD D)];refine wl ?_;obtain rfl:=oi F;refine uA Τ ?_;exact⟨iK,(Hp.front (Hp.front (Hp.front (Hp.front (Hp.front H 5 _ Τ) 5 _ Τ) 5 _ Τ) 5 _ Τ) 5 _ Τ).kp⟩
theorem Cq(q:aqk fu a=θ r)(R:Gl w):CR prog 210 [(str a)] w λv w'=>v=(υ r)/\Hp w [] [] w':=by
 have hH:=Hp.refl w;refine MK func210 Τ Τ (aZ Τ) ?_;unfold aqk at q;refine sr (jS hH [(υ ν)] 4 (λb=>(φ (dG b))) Τ Τ aK λz w2 c2=>nq (cs (bi q λv8 K q=>nS c2 [0,2,14] [(14,(υ v8))] ?_ ?_)));refine cr (wp 3 (wd K (λh9 K=> ?_) (λh9 K=> ?_)));refine wp 4 (wl (ql ?_));obtain rfl:=oi K;exact je c2.kp;refine wp 4 (wl (ql ?_));obtain rfl:=oi K;exact je c2.kp;intro i0 G W;refine cb q (λf7 q=> ?_) (λf7 q=> ?_);refine sr (kA W 0 z 0 _ 4 (υ ν) _ Τ (cU (bZ _) (aZ Τ)) aK aK Τ aK Τ λh8 V=>nq (ct (st ?_)));obtain rfl:=oi q;refine Nc _ [(υ ν)] (υ ν) Τ Τ (jX (Yu V 0 z 4 _ Τ aK aK) BV) Τ ?_;exact⟨iK,V.kp⟩;refine ck (qn (sr (jS W [(υ ν)] 4 (λb=>(φ (dG b))) Τ Τ aK λi h7 d5=>kA d5 0 i 0 _ 4 (υ ν) _ Τ (cU (bZ _) (aZ Τ)) aK aK Τ aK Τ λh6 U=>nq (cs (cs ?_)))));refine cr (wp 1 (bi q λl d3 q=>vC 252 #[] [(str a),(str _)] _ ent252 aK aK (tH d3 (R.iY U)) ?_));rintro _ f5 ⟨J,I,H,rfl,T⟩
 have d4:Hp w [] [aY J [(str l.1)] 9,aY I [(str l.2.1)] 9,aY H [(Δ .i64 l.2.2)] 3,aY i [(υ ν)] 4,aY z [(υ ν)] 4] f5:=Hp.dV (L1:=[]) (L2:=[aY i [(υ ν)] 4,aY z [(υ ν)] 4]) U T;clear T;refine nq (ce (tC d4 290 [(φ (dG J)),(φ (dG I)),(φ (dG H))] aK ent290 λA s k d0 a5 a4 a3 a2 c5=>bi q λg Y q=> ?_));have b4:=c5.front 4 _ Τ;have b3:=b4.front 4 _ Τ;have b2:=b3.front 4 _ Τ;have b0:=b2.front 6 _ Τ;have a9:=b0.front 6 _ Τ;have n:=a9.front 5 _ Τ;have f2:∀f u t w_,Hp d0 (eP [eC s 0 k,aY i [(υ ν)] 4,aY z [(υ ν)] 4,aY J [(str l.1)] 9,aY I [(str l.2.1)] 9,aY H [(Δ .i64 l.2.2)] 3]) [eC s 0 k,aY i [(υ u)] 4,aY z [(υ t)] 4] w_->∀X,rh fu f u t=θ X->YR prog s [(str f)] w_ λv f3=>v=υ (decide (X.1=0))/\Hp w_ (eP [eC s 0 k,aY i [(υ u)] 4,aY z [(υ t)] 4]) [eC s X.1 k,aY i [(υ X.2.1)] 4,aY z [(υ X.2.2)] 4] f3:=by
  intro f u t c9 y X B;have O:=Hp.dV n y;have d6:=R;replace R:=R.iY O;have a6:=Hp.sM O d6 (λ_ h=>absurd h aA2) 3 Τ;unfold rh at B;refine Ki (Hp.hand (L2:=[]) (by simpa using y)) 0 Τ a5 a4 a3 a2 Τ ?_;have hH:=Hp.hand (L2:=[]) (by simpa using y);clear O y;refine cr (wp 1 (wl (Qn hH 0 Τ λh5 p=>ce (cs (bi B λd2 c B=>nS p [2,3,4,38] [(38,(υ d2))] ?_ ?_)))));refine cr (wp 3 (wd c (λe5 c=> ?_) (λe5 c=> ?_)));refine wp 17 (wl (ql ?_));obtain rfl:=oi c;exact je p.kp;refine wp 4 (wd c (λe4 c=> ?_) (λe4 c=> ?_));refine wp 12 (wl (ql ?_));obtain rfl:=oi c;exact je p.kp;refine wp 1 (gy 26 (gi c λf1 c=>qb f .i64 0 underlying9 aK aK f1 (gy 26 (qZ (Κ f 0) 45 aK aK (wp 1 (wd c (λe3 c=> ?_) (λe3 c=> ?_)))))));refine wp 7 (wl (ql ?_));obtain rfl:=oi c;exact je p.kp;refine wp 3 (gy 31 (gi c λf0 c=>oL (γ f) _ aK aK f0 (gy 31 (gi c λe9 c=>qb f .i64 _ underlying9 aK aK e9 (gy 31 (qZ (Κ f (γ f-1)) 45 aK aK (wp 1 ?_)))))));refine wl (ql ?_);obtain rfl:=oi c;exact je p.kp;intro h4 G N;refine cb B (λe2 B=> ?_) (λe2 B=> ?_);refine sr (kA N 2 z 0 _ 4 (υ ν) _ Τ (cU (bZ _) (aZ Τ)) aK aK Τ aK Τ λh3 c4=>nq (ct (st (iD ?_))));obtain rfl:=oi B;refine PF c4 0 Τ λh2 c3=> ?_;exact⟨aC5,c3.kp⟩;refine ck (qn (sr (wp 3 (nq (ce (FK (σ:=Nat×Int×η) [2,3,4,40,41] (λ⟨j,e,m⟩=>[(41,(Δ .i64 e))]) (λ⟨j,e,m⟩ w'=>Hp c9 (eP [eC s 0 k,aY i [(υ u)] 4,aY z _ 4]) [Nh s k,aY i [(υ m)] 4,aY z [(υ t)] 4] w'/\rm fu f t j e m=θ X) (λ⟨j,e,m⟩=>j) (fu,(0:Int),u) (by exact⟨N.kp,B⟩) ?_))))));rintro⟨_|j,e,m⟩ h1 G ⟨x,b1⟩
  ·exact absurd (show ι=θ _ from b1) aA2
  rw[aoi,agy]at b1;refine sr (wp 1 (nq (cs (cd b1 (λe1 b1=> ?_) (λe1 b1=> ?_)))));refine ck (qn (cs (ce (sr (wp 2 (nq (cs ?_)))))));refine cr (wp 2 (gi b1 λe8 b1=>qb f .i64 e underlying9 aK aK e8 (wp 1 (nq (cs (bi b1 λd1 d b1=>nS x [2,3,4,6,40,41,58] [(58,(υ d1))] ?_ ?_))))));refine cr (wp 1 (bi d λf9 a1 d=>wc ent253 x (yN a1 (R.hp x a6)) λh0 F=>wp 1 (wb d (λe0 d=> ?_) (λe0 d=> ?_))));refine wp 1 (gy 50 (bi d λf8 a0 d=>wc X8 F (bkk a0 (R.hp F a6)) λg9 M=>wp 2 (wb d (λd9 d=> ?_) (λd9 d=> ?_))));refine wp 1 (gy 55 (oM (Κ f e) 45 aK aK (wp 1 (wl (ql ?_)))));obtain rfl:=oi d;exact je M.kp;refine wp 3 (wl (ql ?_));obtain rfl:=oi d;exact je M.kp;refine wp 8 (wl (ql ?_));obtain rfl:=oi d;exact je F.kp;intro g8 G o;refine cb b1 (λd8 b1=> ?_) (λd8 b1=> ?_);refine sr (kA o 2 z 0 _ 4 (υ ν) _ Τ (cU (bZ _) (aZ Τ)) aK aK Τ aK Τ λg7 c1=>nq (ct (st (iD (st (pJ ?_))))));refine iD (iD ?_);obtain rfl:=oi b1;refine PF c1 0 Τ λg6 c0=> ?_;exact⟨aC5,c0.kp⟩;refine ck (qn (cr (nV o 1 i 0 _ 4 _ Τ Τ aK aK (wb b1 (λd7 b1=> ?_) (λd7 b1=> ?_)))));refine wp 4 (kA o 1 i 0 _ 4 (υ μ) _ Τ (cU (bZ _) (aZ Τ)) aK aK Τ aK Τ λg5 b9=>wl (bn (qn (cr (gi b1 λe7 b1=>Cw e _ aK aK e7 (wp 1 (wl ?_)))))));refine ql ?_;exact⟨(j,e+1,μ),_,Τ,by kernel_rfl,⟨b9.kp,b1⟩,bZ _⟩;refine wp 1 (gy 60 (bi b1 λS Z b1=>wc X8 o (bkk Z (R.hp o a6)) λg4 b8=>wp 2 (kA b8 1 i 0 _ 4 (υ (!S)) _ Τ (cU (bZ _) (aZ Τ)) aK aK Τ aK Τ λg3 b7=>wl (bn (qn (cr ?_))))));refine gi b1 λe6 b1=>Cw e _ aK aK e6 (wp 1 (wl (ql ?_)));exact⟨(j,e+1,(!S)),_,Τ,by kernel_rfl,⟨b7.kp,b1⟩,bZ _⟩;refine Fu (Fx (Fw (Ft (bn ?_))));obtain rfl:=oi b1;refine oT x 0 Τ λg2 b6=> ?_;exact⟨aC5,b6.kp⟩
 refine CR.mono (aum s k i z J I H Y (R.iY n) (n.hand) (n.sM R (λ_ h=>absurd h aA2) 6 Τ) f2) ?_;rintro _ c8 ⟨rfl,L⟩;have b5:Hp w [] [aY i [(υ g.1)] 4,aY z [(υ g.2.1)] 4,aY J [(str l.1)] 9,aY I [(str g.2.2.1)] 9,aY H [(Δ .i64 l.2.2)] 3,eC s g.2.2.2 k,HY A] c8:=Hp.dV (L1:=[eC s 0 k,aY i [(υ ν)] 4,aY z [(υ ν)] 4,aY J [(str l.1)] 9,aY I [(str l.2.1)] 9,aY H [(Δ .i64 l.2.2)] 3]) (L2:=[HY A]) n L;clear L;have a8:=b5.front 5 _ Τ;refine⟨g.2.2.2,[aY i _ 4,aY z _ 4,aY J _ 9,aY I _ 9,aY H _ 3,HY A],a8,?_⟩;intro g1 E;by_cases Q:g.2.2.2=0;replace q:=LX Q q;refine rg0 Q (bn (qn (sr (nV E 0 i 0 _ 4 _ Τ Τ aK aK (kA E 1 z 0 _ 4 (υ g.1) _ Τ (cU (bZ _) (aZ Τ)) aK aK Τ aK Τ λg0 a7=>nq (ct ?_))))));obtain rfl:=oi q;refine AB a7 5 A Τ _ [(υ g.1)] (υ g.1) Τ Τ (λc7 D=>(jX (Yu D 1 z 4 _ Τ aK aK) BV)) Τ λc7 D=> ?_;exact⟨iK,D.kp⟩;replace q:=LY Q q;by_cases P:g.2.2.2=1;replace q:=LX P q;refine rg1 P (ct (iD (st ?_)));obtain rfl:=oi q;refine AB E 5 A Τ _ _ (υ g.2.1) Τ Τ (λc6 C=>(jX (Yu C 1 z 4 _ Τ aK aK) BV)) Τ λc6 C=> ?_;exact⟨iK,C.kp⟩;replace q:=LY P q;exact absurd q aA2
noncomputable def Eo(fu:Nat):=kl func210 ⟨[.s'],[.r' (.b')],λx=>.one (aqk fu x)⟩ (SQ (λx=>[str x]) (λy=>.bool y) λw S x y b a=>Cq a b.1)
section
variable(fu:Nat)
noncomputable def apl:=kf fu func164 [rb fu,Bc fu,xV fu,Eo fu] [.s'] [.r' (.s'),.r' (.b')] (λx=>ed fu x) (Λ (.s' (.j' [.s' 21 (.b')] [0,2,3,8] .n' .n') .n'))
noncomputable def bae:=kf fu func165 [] [.s'] [.r' Μ,.r' (.c')] (λx=>vz fu x) (Λ (.s' (.j' [.s' 13 (.b')] [0,2,3] .n' .n') (Λ (.r' [.s' 4 Μ] [] (Λ (.l' [.s' 4 Μ,.s' 16 Μ] (Λ (Λ (.s' (Λ (.s' (.j' [.s' 28 (.b')] [0,1,2,3,4] .n' .n') .n')) .n'))))) .n'))))
noncomputable def bkz:=kf fu func264 [apl fu,bae fu,akd,rl fu,akn fu,aiy fu,baj fu,bhv fu] [.p' 207 (.pr (.w' .s') Μ),.p' 146 (.pr .s' (.pr .s' (.pr .s' (.pr Μ (.pr dI dI)))))] [.r' Μ,.r' (.c'),.o' 0 207 (.pr (.w' .s') Μ),.o' 1 146 (.pr .s' (.pr .s' (.pr .s' (.pr Μ (.pr dI dI)))))] (λx=>amb fu x.1 x.2) (Λ (.r' [.o' 0 1 Μ,.o' 1 1 (.s')] [] .n' (Λ (Λ (.j' [.s' 11 Μ] [] .n' (Λ (Λ (Λ (.s' (Λ (.s' (Λ (Λ (Λ (.j' [.s' 15 (.c')] [] (.j' [.s' 167 (.b')] [0,1,2] .n' .n') .n')))) .n')) (.s' (.j' [.s' 192 (.b')] [0,2,3,8] .n' .n') .n'))))))))))
noncomputable def bjt:=kf fu func265 [rl fu,aiy fu,qE] [.p' 207 (.pr (.w' .s') Μ),.p' 146 (.pr .s' (.pr .s' (.pr .s' (.pr Μ (.pr dI dI)))))] [.r' Μ,.r' (.c'),.o' 0 207 (.pr (.w' .s') Μ),.o' 1 146 (.pr .s' (.pr .s' (.pr .s' (.pr Μ (.pr dI dI)))))] (λx=>aks fu x.1 x.2) (Λ (Λ (Λ (Λ (Λ (.j' [.s' 8 (.l' 5 1 .c'),.o' 0 1 Μ] [] .n' (.r' [.s' 8 (.l' 5 1 .c'),.o' 0 1 Μ] [] (.l' [.s' 8 (.l' 5 1 .c'),.o' 0 1 Μ] (Λ (.r' [.s' 8 (.l' 5 1 .c')] [] (Λ (.j' [.s' 58 (.b')] [] (.j' [.s' 58 (.b')] [0,1,2,6] .n' .n') (Λ (.j' [.s' 79 (.b')] [0,1,2,6,10,14] .n' .n')))) .n'))) .n')))))))
noncomputable def bai:=kf fu func245 [] [.pr .s' (.pr .s' .b'),.p' 9 .s'] [.r' (.b')] (λx=>awu fu x.1 x.2) (.n')
noncomputable def asz:=kf fu func268 [bai fu] [.r' kZ,.f' 245 (.p' 9 .s')] [.r' Μ] (λx=>aez fu x.1 x.2) (Λ (.r' [] [] (Λ (.l' [.s' 8 Μ] .n')) .n'))
noncomputable def aqq:=kf fu func244 [bai fu,asz fu] [.r' kZ,.f' 245 (.p' 9 .s')] [.r' (.b')] (λx=>aei fu x.1 x.2) (.n')
noncomputable def beb:=kf fu func201 [aqq fu,bai fu] [.r' kZ,.s'] [.r' (.b')] (λx=>aqm fu x.1 x.2) (.n')
noncomputable def pY:=kf fu func213 [beb fu] [.r' kZ,.s'] [.r' (.c')] (λx=>asx fu x.1 x.2) (.n')
noncomputable def bla:=kf fu func266 [akd,rb fu,pY fu,baj fu,bhv fu] [.p' 207 (.pr (.w' .s') Μ),.l' 193 40 kZ,.i' .i64,.i' .i64] [.r' dI,.r' Μ,.r' (.c'),.o' 0 207 (.pr (.w' .s') Μ)] (λx=>aii fu x.1 x.2.1 x.2.2.1 x.2.2.2) (Λ (Λ (Λ (Λ (.j' [.s' 13 Μ] [] .n' (Λ (Λ (Λ (Λ (.r' [.o' 0 1 Μ,.o' 16 1 (.s')] [] (Λ (.s' (Λ (Λ (.s' (.j' [.s' 94 (.b')] [0,2,4,5,6] .n' .n') .n'))) .n')) .n'))))))))))
noncomputable def uY:=kf fu func247 [] [.s'] [.r' (.b')] (λx=>auh fu x) (.n')
noncomputable def bdi:=kf fu func205 [uY fu] [.s',.s'] [.r' Μ] (λx=>aoy fu x.1 x.2) (.n')
noncomputable def ari:=kf fu func204 [bdi fu] [.pr .s' (.pr .s' .b'),.pr .s' (.pr .s' .b')] [.r' Μ] (λx=>auj fu x.1 x.2) (.n')
noncomputable def aeu:=kf fu func269 [ari fu] [.l' 193 40 kZ,.i' .i64,.i' .i64,.f' 204 .u'] [.w' 0 dI] (λx=>aav fu x.1 x.2.1 x.2.2.1) (Λ (.l' [.w' 0 dI,.s' 8 Μ] (Λ (.j' [.w' 0 dI] [] (Λ (.l' [.w' 0 dI,.s' 9 Μ] (.s' (.j' [.s' 34 (.b')] [] .n' .n') .n'))) .n'))))
noncomputable def agh:=kf fu func246 [ari fu,aeu fu] [.l' 193 40 kZ,.i' .i64,.f' 204 .u'] [.w' 0 dI] (λx=>acl fu x.1 x.2.1) (Λ (Λ (.j' [.w' 0 dI,.s' 7 Μ] [] (.l' [.w' 0 dI,.s' 7 Μ,.s' 8 Μ] .n') (Λ (.l' [.w' 0 dI,.s' 6 Μ] (.s' (Λ (.z' .n')) .n'))))))
noncomputable def anx:=kf fu func203 [ari fu,agh fu] [.l' 193 40 kZ,.f' 204 .u'] [.w' 0 dI] (λx=>abb fu x.1) (.n')
noncomputable def bcm:=kf fu func161 [GF,anx fu,ari fu] [.r' kZ] [.r' dI] (λx=>qz fu x) (.n')
noncomputable def Er:=kf fu func239 [bcm fu,akd,rl fu,rb fu,akn fu,aiy fu,bkz fu,bjt fu,bla fu] [.s'] [.r' (.pr .s' (.pr .s' (.pr .s' (.pr Μ (.pr dI dI))))),.r' Μ,.r' (.c')] (λx=>avh fu x) (Λ (Λ (Λ (Λ (Λ (Λ (Λ (Λ (.j' [.s' 8 Μ,.s' 9 (.c'),.s' 10 (.s'),.o' 27 0 (.s'),.o' 27 1 Μ,.o' 7 0 (.s'),.o' 7 1 (.s'),.o' 7 2 (.s'),.o' 7 3 Μ,.o' 7 4 dI,.o' 7 5 dI] [] (Λ (.j' [.s' 35 (.b')] [] .n' .n')) (.j' [.s' 8 Μ,.s' 9 (.c'),.o' 6 0 (.s'),.o' 6 1 Μ,.o' 7 4 dI] [] (.l' [.s' 8 Μ,.s' 9 (.c'),.o' 6 0 (.s'),.o' 6 1 Μ,.o' 7 4 dI] (.s' (.j' [.s' 55 (.b')] [0,1,2] .n' .n') .n')) (.j' [.s' 8 Μ,.s' 9 (.c'),.o' 6 0 (.s'),.o' 6 1 Μ,.o' 7 5 dI] [] (.l' [.s' 8 Μ,.s' 9 (.c'),.o' 6 0 (.s'),.o' 6 1 Μ,.o' 7 5 dI] (.s' (.j' [.s' 88 (.b')] [0,1,2] .n' .n') .n')) .n')))))))))))
noncomputable def bjs:=kf fu func196 [rl fu,aiy fu,Er fu] [.p' 207 (.pr (.w' .s') Μ),.p' 148 (.pr .s' (.pr (.pr .s' (.pr .s' (.pr .s' (.pr Μ (.pr dI dI))))) dI))] [.r' Μ,.r' (.c'),.o' 0 207 (.pr (.w' .s') Μ),.o' 1 148 (.pr .s' (.pr (.pr .s' (.pr .s' (.pr .s' (.pr Μ (.pr dI dI))))) dI))] (λx=>ahr fu x.1 x.2) (Λ (Λ (.r' [.s' 6 Μ,.s' 7 Μ,.s' 8 Μ] [] .n' .n')))
noncomputable def bju:=kf fu func212 [apl fu,bea fu,agr fu,rl fu,rb fu,bak fu,aiy fu] [.p' 207 (.pr (.w' .s') Μ)] [.r' kZ,.r' Μ,.r' (.c'),.o' 0 207 (.pr (.w' .s') Μ)] (λx=>akt fu x) (.n')
noncomputable def bcn:=kf fu func166 [agr fu,rl fu,akn fu,bju fu,pY fu] [.s'] [.r' dI,.r' Μ,.r' (.c')] (λx=>aka fu x) (Λ (Λ (Λ (.l' [.s' 6 dI,.o' 5 0 (.s'),.o' 5 1 Μ] (Λ (Λ (Λ (Λ (Λ (Λ (Λ (.j' [.s' 9 Μ,.s' 10 (.c')] [] .n' .n'))))))))))))
noncomputable def blc:=kf fu func158 [bcn fu,agr fu,rl fu,bfc fu,bgc,bgi fu,bjs fu] [.s'] [.r' (.pr .s' (.pr (.pr .s' (.pr .s' (.pr .s' (.pr Μ (.pr dI dI))))) dI)),.r' Μ,.r' (.c')] (λx=>amd fu x) (Λ (Λ (Λ (Λ (Λ (Λ (.j' [.s' 7 Μ,.s' 8 (.c'),.o' 16 0 (.s'),.o' 16 1 Μ,.o' 6 0 (.s'),.o' 6 1 (.s'),.o' 6 2 (.s'),.o' 6 3 (.s'),.o' 6 4 Μ,.o' 6 5 dI,.o' 6 6 dI,.o' 6 7 dI] [] .n' (.j' [.s' 7 Μ,.s' 8 (.c'),.o' 5 0 (.s'),.o' 5 1 Μ,.o' 6 0 (.s'),.o' 6 1 (.s'),.o' 6 2 (.s'),.o' 6 3 (.s'),.o' 6 4 Μ,.o' 6 5 dI,.o' 6 6 dI,.o' 6 7 dI] [] .n' (.j' [.s' 7 Μ,.s' 8 (.c'),.o' 6 7 dI] [] .n' .n')))))))))
noncomputable def Ba:=kf fu func125 [aoa fu,blc fu] [.s'] [.r' (.pr .s' (.pr (.pr .s' (.pr .s' (.pr .s' (.pr Μ (.pr dI dI))))) dI)),.r' (.c')] (λx=>ayo fu x) (.n')
noncomputable def bja:=kf fu func134 [auy fu] [.s'] [.r' (.s'),.r' (.c')] (λx=>awl fu x) (Λ (Λ (Λ (.r' [.s' 4 (.l' 5 1 .c')] [] (Λ (.l' [.s' 4 (.l' 5 1 .c'),.s' 16 Μ] (Λ (Λ (.s' (Λ (Λ (Λ (.j' [.s' 4 (.l' 5 1 .c')] [] (.j' [.s' 29 (.b')] [0,1,2] .n' .n') .n')))) .n'))))) .n'))))
noncomputable def nL:=kf fu func240 [bhu fu] [.s'] [.r' (.b')] (λx=>aqn fu x) (Λ (.r' [] [] (Λ (.l' [.s' 6 Μ] .n')) .n'))
noncomputable def Be:=kf fu func241 [bem,asc fu] [.s'] [.r' (.b')] (λx=>ayq fu x) (Λ (Λ (.s' (.j' [.s' 18 (.b')] [0,1,2] .n' .n') (.r' [] [] (Λ (.l' [.s' 21 Μ] (Λ (Λ (.s' (Λ (Λ (.j' [.s' 40 (.b')] [0,2,3] .n' .n'))) .n'))))) .n'))))
noncomputable def Bd:=kf fu func242 [bcm fu,rb fu,beb fu,nL fu] [.r' kZ,.i' .i64] [.r' dI,.r' (.b')] (λx=>asn fu x.1 x.2) (Λ (Λ (Λ (.r' [.s' 6 dI] [] (Λ (.l' [.s' 6 dI,.s' 14 Μ] (Λ (Λ (.s' (Λ (Λ (.s' (.j' [.s' 42 (.b')] [0,2,3,9,15] .n' .n') (.s' (.j' [.s' 61 (.b')] [0,1,2,7] .n' .n') .n')))) .n'))))) .n'))))
noncomputable def Bf:=kf fu func197 [apl fu,rb fu,nL fu,Be fu,Bd fu] [.pr .s' (.pr .s' (.pr .s' (.pr Μ (.pr (.r' kZ) (.r' kZ)))))] [.r' (.pr .s' (.pr .s' (.pr .s' (.pr Μ (.pr dI dI))))),.r' (.c')] (λx=>ayr fu x) (Λ (Λ (Λ (.j' [.s' 5 (.b'),.o' 4 2 (.s')] [] (Λ (.j' [.s' 20 (.b')] [] .n' .n')) (Λ (Λ (.s' (.j' [.s' 88 (.b')] [0,1,2,6] .n' .n') .n')))))))
noncomputable def aqw:=kf fu func90 [Bb] [.p' 112 (.pr .z' (.l' 5 1 .c')),.s'] [.r' Μ,.r' (.o' 2),.o' 0 112 (.pr .z' (.l' 5 1 .c'))] (λx=>CO fu x.1 x.2) (.n')
noncomputable def Bg:=kf fu func198 [bht fu] [.s',.i' .i64] [.r' (.s')] (λx=>bq fu x.1 x.2) (Λ (Λ (.j' [.s' 5 (.l' 5 1 .c')] [] (Λ (.l' [.s' 5 (.l' 5 1 .c'),.s' 12 Μ] .n')) .n')))
noncomputable def bfa:=kf fu func199 [Bb] [.p' 112 (.pr .z' (.l' 5 1 .c')),.c'] [.r' (.o' 2),.o' 0 112 (.pr .z' (.l' 5 1 .c'))] (λx=>afe fu x.1 x.2) (.n')
noncomputable def Ep:=kf fu func159 [baa,aqw fu,nK,Bf fu,Bg fu,bfa fu] [.pr .s' (.pr .s' (.pr .s' (.pr Μ (.pr (.r' kZ) (.r' kZ)))))] [.r' (.s'),.r' (.c')] (λx=>bbv fu x) (Λ (Λ (Λ (Λ (Λ (.j' [.o' 6 0 (.z'),.o' 6 1 (.l' 5 1 .c')] [] .n' (Λ (.j' [.o' 6 0 (.z'),.o' 6 1 (.l' 5 1 .c')] [] .n' (.j' [.o' 6 0 (.z'),.o' 6 1 (.l' 5 1 .c')] [] (Λ (.l' [.s' 51 Μ,.o' 6 0 (.z'),.o' 6 1 (.l' 5 1 .c')] .n')) (.j' [.o' 6 0 (.z'),.o' 6 1 (.l' 5 1 .c')] [] (Λ (.l' [.s' 71 Μ,.o' 6 0 (.z'),.o' 6 1 (.l' 5 1 .c')] (Λ (Λ (.s' (Λ (.j' [.o' 6 0 (.z'),.o' 6 1 (.l' 5 1 .c')] [] .n' .n')) .n'))))) .n'))))))))))
noncomputable def ata:=kf fu func160 [asq fu,aqw fu,nK,bja fu,apl fu,rb fu,beb fu] [.r' kZ] [.r' (.s'),.r' (.c')] (λx=>YH fu x) (Λ (Λ (Λ (.r' [.o' 4 0 (.z'),.o' 4 1 (.l' 5 1 .c')] [] (Λ (.l' [.s' 17 Μ,.o' 4 0 (.z'),.o' 4 1 (.l' 5 1 .c')] (Λ (Λ (.s' (Λ (.s' (.j' [.s' 41 (.b')] [] .n' .n') (Λ (Λ (Λ (.r' [.s' 7 (.s')] [] (Λ (.j' [.s' 75 (.b')] [0,2,3] .n' .n')) .n')))))) .n'))))) .n'))))
noncomputable def blb:=kf fu func126 [bja fu,Ep fu,ata fu,bcm fu] [.pr .s' (.pr (.pr .s' (.pr .s' (.pr .s' (.pr Μ (.pr (.r' kZ) (.r' kZ)))))) (.r' kZ))] [.r' (.s'),.r' (.c')] (λx=>amc fu x) (.n')
noncomputable def ali:=kf fu func72 [arh fu] [.s',.f' 74 .u'] [.r' (.s')] (λx=>aci fu x.1) (Λ (Λ (.j' [.w' 5 (.y')] [] (Λ (.l' [.w' 5 (.y'),.s' 12 Μ] .n')) .n')))
noncomputable def Az:=kf fu func163 [bgc,bjp] [.s'] [.r' (.s'),.r' (.s'),.r' (.b')] (λx=>aym fu x) (Λ (Λ (.s' (.j' [.s' 21 (.b')] [0,1,2] .n' .n') .n')))
noncomputable def Ol:=kf fu func167 [rb fu] [.r' kZ,.s'] [.r' (.s'),.r' (.b')] (λx=>bbw fu x.1 x.2) (Λ (Λ (.r' [] [] (Λ (.l' [.s' 12 Μ] .n')) .n')))
noncomputable def Td:=kf fu func127 [auz fu,avj fu,agj fu,ahi fu,ali fu,arh fu,aoa fu,ayw,Az fu,apl fu,bae fu,bcn fu,Ol fu] [.s'] [.r' (.pr .s' (.pr .s' (.pr Μ (.pr .s' dI)))),.r' (.c')] (λx=>bir fu x) (Λ (Λ (.s' (.j' [.s' 30 (.b')] [0,2,3] .n' .n') (Λ (Λ (.s' (.j' [.s' 43 (.b')] [0,1,2] .n' .n') (Λ (Λ (.j' [.s' 7 (.s'),.s' 8 (.s')] [] .n' (Λ (Λ (Λ (Λ (.r' [.o' 6 2 Μ] [] (Λ (.s' (Λ (.j' [.s' 16 (.c')] [] (.j' [.s' 94 (.b')] [0,1,2] .n' .n') .n')) .n')) .n'))))))))))))))
noncomputable def bah:=kf fu func216 [bdi fu] [.pr .s' (.pr .s' .b'),.pr .s' (.pr .s' .b')] [.r' Μ] (λx=>Ck fu x.1 x.2) (.n')
noncomputable def akv:=kf fu func269 [bah fu] [.l' 193 40 kZ,.i' .i64,.i' .i64,.f' 216 .u'] [.w' 0 dI] (λx=>alo fu x.1 x.2.1 x.2.2.1) (Λ (.l' [.w' 0 dI,.s' 8 Μ] (Λ (.j' [.w' 0 dI] [] (Λ (.l' [.w' 0 dI,.s' 9 Μ] (.s' (.j' [.s' 34 (.b')] [] .n' .n') .n'))) .n'))))
noncomputable def apk:=kf fu func246 [bah fu,aeu fu,akv fu] [.l' 193 40 kZ,.i' .i64,.f' 216 .u'] [.w' 0 dI] (λx=>aqs fu x.1 x.2.1) (Λ (Λ (.j' [.w' 0 dI,.s' 7 Μ] [] (.l' [.w' 0 dI,.s' 7 Μ,.s' 8 Μ] .n') (Λ (.l' [.w' 0 dI,.s' 6 Μ] (.s' (Λ (.z' .n')) .n'))))))
noncomputable def aoo:=kf fu func203 [bah fu,agh fu,apk fu] [.l' 193 40 kZ,.f' 216 .u'] [.w' 0 dI] (λx=>acm fu x.1) (.n')
end
theorem ent203:Go.Wk.Enters prog 203:=⟨Tryz.f203,_,func203,Τ,by kernel_rfl⟩
theorem ent214:Go.Wk.Enters prog 214:=⟨Tryz.f214,_,func214,Τ,by kernel_rfl⟩
theorem ent215:Go.Wk.Enters prog 215:=⟨Tryz.f215,_,func215,Τ,by kernel_rfl⟩
theorem ent254:Go.Wk.Enters prog 254:=⟨Tryz.f254,_,func254,Τ,by kernel_rfl⟩
theorem ent255:Go.Wk.Enters prog 255:=⟨Tryz.f255,_,func255,Τ,by kernel_rfl⟩
theorem ent275:Go.Wk.Enters prog 275:=⟨Tryz.f275,_,func275,Τ,by kernel_rfl⟩
variable{j e:LQ}
theorem aok(c:ε Nat)(d:ε Γ)(a:Nat)(f:acm fu j=θ e)(i:Gl w)(h:Hp w (eP [bM eD 193 3 c d a j]) [bM eD 193 3 c d a j] w)(g:∀b∈eP [bM eD 193 3 c d a j],9<=b):CR prog 203 [(π d (γ j) a),(Θ (.func 216) #[] #[])] w λv w'=>v=(Value.tuple #[])/\γ e=γ j/\Hp w (eP [bM eD 193 3 c d a j]) [bM eD 193 3 c d a e] w':=
 MF (aoo fu).ok f ⟨i,g⟩ h
theorem ahe(i:Nat)(f:Loop)(l:Nat)(t:ε Nat)(k:ε Γ)(a:Nat)(o:Nat)(m:ε Γ)(V:Nat)(d:Nat){r:(LQ×Nat)}(hr:abc fu j e=θ r)(hG:Gl w)(R:V=γ e)(C:Rd w m (Η eD e))(a8:V<=d)(hM:Hp w (eP [eC i 0 f,aY l [(π k (γ j) a)] 144,aY o [(π m (γ e) d)] 144,bM eD 193 3 t k a j]) [eC i 0 f,aY l [(π k (γ j) a)] 144,aY o [(π m (γ e) d)] 144,bM eD 193 3 t k a j] w)(hS:∀b∈eP [eC i 0 f,aY l [(π k (γ j) a)] 144,aY o [(π m (γ e) d)] 144,bM eD 193 3 t k a j],9<=b)(D:Η eD e≠[]->∀p,m=θ p->p.block∉eP [eC i 0 f,aY l [(π k (γ j) a)] 144,aY o [(π m (γ e) d)] 144,bM eD 193 3 t k a j])(a2:∀(J:PQ) (H:LQ) (U:ε Nat) (L:ε Γ) (x:Nat) (w_:ο),Hp w (eP [eC i 0 f,aY l [(π k (γ j) a)] 144,aY o [(π m (γ e) d)] 144,bM eD 193 3 t k a j]) [eC i 0 f,aY l [(π L (γ H) x)] 144,bM eD 193 3 U L x H] w_->∀(S:(Nat×LQ)),ace fu J H=θ S->YR prog i [(Value.agg #[(str J.1),(str J.2.1),(υ J.2.2)])] w_ λv a3=>∃(a7:ε Nat),∃(T:ε Γ),∃(B:Nat),v=υ (decide (S.1=0))/\Hp w_ (eP [eC i 0 f,aY l [(π L (γ H) x)] 144,bM eD 193 3 U L x H]) [eC i S.1 f,aY l [(π T (γ S.2) B)] 144,bM eD 193 3 a7 T B S.2] a3):CR prog 255 [(Θ (.yield i) #[] #[]),(φ (dG o))] w λv w'=>∃(o0:ε Nat),∃(a0:ε Γ),∃(P:Nat),v=(Value.tuple #[])/\Hp w (eP [eC i 0 f,aY l [(π k (γ j) a)] 144,aY o [(π m (γ e) d)] 144,bM eD 193 3 t k a j]) [aY l [(π a0 (γ r.1) P)] 144,aY o [(π m (γ e) d)] 144,bM eD 193 3 o0 a0 P r.1,eC i r.2 f] w':=by
 subst R;have hH:=hM;refine ML func255 Τ Τ (aZ Τ) ?_;unfold abc at hr;refine sr (nV hH 2 o 0 _ 144 _ Τ Τ aK aK (wp 2 (nq (ce (FK (σ:=Nat×Int×(δ _)×(ε Nat)×(ε Γ)×Nat) [0,5,6,7] (λ⟨s,g,n,z,q,h⟩=>[(7,(Δ .i64 g))]) (λ⟨s,g,n,z,q,h⟩ w'=>Hp w (eP [eC i 0 f,aY l [(π k (γ j) a)] 144,aY o _ 144,bM eD 193 3 t k a j]) [eC i 0 f,aY l [(π q (γ n) h)] 144,aY o [(π m (γ e) d)] 144,bM eD 193 3 z q h n] w'/\aaj fu e s g n=θ r) (λ⟨s,g,n,z,q,h⟩=>s) (fu,(0:Int),j,t,k,a) (by exact⟨hH.kp,hr⟩) ?_)))));rintro⟨_|s,g,n,z,q,h⟩ b7 G ⟨A,c⟩
 ·exact absurd (show ι=θ _ from c) aA2
 rw[abn,aao]at c;refine sr (wp 1 (nq (cs (cd c (λa9 c=> ?_) (λa9 c=> ?_)))));refine ck (qn (cs (ce (sr (gi c λb2 c=>Qj m (γ e) d 193 3 .i64 g underlying144 aK aK aK e Τ b2 (C.dj A D) IW aA1 (gi c λb1 c=>Gq m eD e 3 g IW (C.dj A D) (wu e g) b1 aK aK aK aK aA1 ?_))))));refine jS A [(str []),(str []),(υ ν)] 193 (λb=>(φ (dG b))) Τ Τ aK λI b6 Z=>Cf Z 0 I 0 _ (wu e g) 193 _ Τ (aZ Τ) aK aK Τ aK Τ λa6 O=>nq (sr (wp 1 (mM O 0 I 0 3 _ _ 193 Τ Τ Τ aK aK aK (bi c λy W c=> ?_))));have Y:=O.front 4 _ Τ;have X:=Y.front 3 _ Τ;have N:=X.front 3 _ Τ;have a1:=Hp.AM (L1:=[eC i 0 f,aY l _ 144,bM eD 193 3 z q h n]) (L2:=[aY I (wu e g) 193,aY o [(π m (γ e) d)] 144]) N;refine zH i _ _ aK aK (a2 _ n z q h a6 a1 y W) ?_;rintro _ a5 ⟨Q,K,u,rfl,M⟩;have E:Hp w (eP [eC i 0 f,aY l [(π k (γ j) a)] 144,aY o [(π m (γ e) d)] 144,bM eD 193 3 t k a j]) [eC i y.1 f,aY l [(π K (γ y.2) u)] 144,bM eD 193 3 Q K u y.2,aY I (wu e g) 193,aY o [(π m (γ e) d)] 144] a5:=Hp.dV (L1:=[eC i 0 f,aY l [(π q (γ n) h)] 144,bM eD 193 3 z q h n]) (L2:=[aY I (wu e g) 193,aY o [(π m (γ e) d)] 144]) N M;clear M;by_cases F:y.1=0;replace c:=LX F c;rw[F]at E;rw[show decide (y.1=0)=μ from(aE F)];refine wp 1 (nq (lV aK (ck (bn (qn (cr (gi c λb0 c=>Cw g _ aK aK b0 ?_)))))));refine wp 1 (wl (ql ?_));exact⟨(s,g+1,y.2,Q,K,u),_,Τ,by kernel_rfl,⟨(Hp.front (Hp.front (Hp.front (Hp.front E 2 _ Τ) 4 _ Τ) 3 _ Τ) 3 _ Τ).kp,c⟩,bZ _⟩;replace c:=LY F c;rw[show decide (y.1=0)=ν from(aD F)];refine wp 1 (nq (tB aK (ct (iD (st (pJ (iD ?_)))))));obtain rfl:=oi c;refine xE Τ ?_;exact⟨Q,K,u,iK,(Hp.front (Hp.front (Hp.front E 2 _ Τ) 4 _ Τ) 3 _ Τ).kp⟩;refine Fu (Fx (Fw (Ft ?_)));obtain rfl:=oi c;refine uA Τ ?_;exact⟨z,q,h,iK,(Hp.front (Hp.front (Hp.front A 3 _ Τ) 3 _ Τ) 3 _ Τ).kp⟩
theorem aww{s_0:LQ}(l:ε Nat)(h:ε Γ)(a:Nat)(r:Nat)(g:ε Γ)(U:Nat)(c:Nat)(H:ady fu s_0 j=θ e)(hG:Gl w)(P:U=γ j)(u:Rd w g (Η eD j))(Q:U<=c)(hM:Hp w (eP [aY r [(π g (γ j) c)] 144,bM eD 193 3 l h a s_0]) [aY r [(π g (γ j) c)] 144,bM eD 193 3 l h a s_0] w)(hS:∀b∈eP [aY r [(π g (γ j) c)] 144,bM eD 193 3 l h a s_0],9<=b)(x:Η eD j≠[]->∀p,g=θ p->p.block∉eP [aY r [(π g (γ j) c)] 144,bM eD 193 3 l h a s_0]):CR prog 275 [(π h (γ s_0) a),(Θ (.func 255) #[] #[(φ (dG r))])] w λv w'=>∃(o0:ε Nat),∃(a0:ε Γ),∃(N:Nat),v=(π a0 (γ e) N)/\Hp w (eP [aY r [(π g (γ j) c)] 144,bM eD 193 3 l h a s_0]) [aY r [(π g (γ j) c)] 144,bM eD 193 3 o0 a0 N e] w':=by
 subst P;have hH:=hM;refine MK func275 Τ Τ (aZ Τ) ?_;unfold ady at H;refine sr (jS hH [(π h (γ s_0) a)] 144 (λb=>(φ (dG b))) Τ Τ aK λC w2 c6=>wp 1 (nq (cs (sr (wp 1 ?_)))));refine nq (ce (tC c6 255 [(φ (dG r))] aK ent255 λE I o c3 Z Y X W b0=>bi H λn V H=> ?_));have a4:=b0.front 4 _ Τ;have a3:=a4.front 4 _ Τ;have a2:=a3.front 4 _ Τ;have d:=a2.front 3 _ Τ;have c9:∀i m F s f (w_:ο),Hp c3 (eP [eC I 0 o,aY C [(π h (γ s_0) a)] 144,aY r [(π g (γ j) c)] 144,bM eD 193 3 l h a s_0]) [eC I 0 o,aY C [(π s (γ m) f)] 144,bM eD 193 3 F s f m] w_->∀(S:(Nat×(δ _))),ace fu i m=θ S->YR prog I [(Value.agg #[(str i.1),(str i.2.1),(υ i.2.2)])] w_ λv b7=>∃c4,∃T,∃t,v=υ (decide (S.1=0))/\Hp w_ (eP [eC I 0 o,aY C [(π s (γ m) f)] 144,bM eD 193 3 F s f m]) [eC I S.1 o,aY C [(π T (γ S.2) t)] 144,bM eD 193 3 c4 T t S.2] b7:=by intro i m F s f c2 q S G;have A:=Hp.dV d q;have b2:=hG;replace hG:=hG.hp A hS;have d9:=Hp.sM A b2 hS 3 Τ;unfold ace at G;refine Ki (Hp.hand (L2:=[]) aE7) 0 Τ Z Y X W Τ ?_;have hH:=Hp.hand (L2:=[]) aE7;clear A q;refine cr (jS hH [(str []),(str []),(υ ν)] 193 (λb=>(φ (dG b))) Τ Τ aK λb4 d7 a9=>Cf a9 0 b4 0 _ [(str i.1),(str i.2.1),(υ i.2.2)] 193 _ Τ (aZ Τ) aK aK Τ aK Τ λd6 a8=>wl (Qn a8 1 Τ λd5 z=>ce (cr (nV z 2 C 0 _ 144 _ Τ Τ aK aK (mM z 0 b4 0 3 _ _ 193 Τ Τ Τ aK aK aK (jS z [(str i.1),(str i.2.1),(υ i.2.2)] 193 (λb=>(π (dG b) 1 1)) Τ Τ aK λe1 d4 M=> ?_))))));refine gi G λc8 G=>NK M 4 F s (θ _) f 1 193 3 40 m _ IW Τ underlying144 aB0 aA1 aA1 aK (eU aK (NJ aA9)) (M.fQ 0 Τ) c8 λc5 b5 B c1 y=> ?_;replace y:Hp c2 _ _ c1:=y;refine kA y 3 C 0 _ 144 (π b5 (γ (m++[i])) B) _ Τ (cU (bZ _) (aZ Τ)) aK aK Τ aK Τ λd3 a7=>wl (bn ?_);obtain rfl:=oi G;refine oT a7 2 Τ λd2 a6=> ?_;exact⟨c5,b5,B,aC5,(Hp.front (Hp.front (Hp.front a6 4 _ Τ) 4 _ Τ) 4 _ Τ).kp⟩
 refine CR.mono (ahe I o C l h a r g (γ j) c V (hG.hp d hS) Τ (u.dj d x) Q (d.hand) (d.sM hG hS 4 Τ) (d.Ch 4 u x Τ) c9) ?_;rintro _ c0 ⟨O,D,k,rfl,J⟩;have a5:Hp w (eP [aY r [(π g (γ j) c)] 144,bM eD 193 3 l h a s_0]) [aY C [(π D (γ n.1) k)] 144,aY r [(π g (γ j) c)] 144,bM eD 193 3 O D k n.1,eC I n.2 o,HY E] c0:=Hp.dV (L1:=[eC I 0 o,aY C [(π h (γ s_0) a)] 144,aY r [(π g (γ j) c)] 144,bM eD 193 3 l h a s_0]) (L2:=[HY E]) d J;clear J;have a1:=a5.front 3 _ Τ;refine⟨n.2,[aY C _ 144,aY r _ 144,bM eD 193 3 O D k n.1,HY E],a1,?_⟩;intro d1 L;by_cases R:n.2=0;replace H:=LX R H;refine rg0 R (bn (qn (sr (nV L 0 C 0 _ 144 _ Τ Τ aK aK (wp 1 (nq (ct ?_)))))));obtain rfl:=oi H;refine AB L 3 E Τ _ _ (π D (γ n.1) k) Τ Τ (λb9 K=>(jX (qN aK) BV)) Τ λb9 K=> ?_;exact⟨O,D,k,iK,(Hp.front (Hp.front K 2 _ Τ) 2 _ Τ).kp⟩;replace H:=LY R H;exact absurd H aA2
theorem ayb(d:Nat)(r:ε Γ)(q:Nat)(a:Nat)(t:ada fu j=θ e)(B:Gl w)(l:q=γ j)(h:Rd w r (Η eD j))(n:q<=a)(F:Hp w (eP [aY d [(π r (γ j) a)] 144]) [aY d [(π r (γ j) a)] 144] w)(A:∀b∈eP [aY d [(π r (γ j) a)] 144],9<=b)(i:Η eD j≠[]->∀p,r=θ p->p.block∉eP [aY d [(π r (γ j) a)] 144]):CR prog 254 [(Θ (.func 255) #[] #[(φ (dG d))])] w λv w'=>∃(E:ε Nat),∃(C:ε Γ),∃(c:Nat),v=(π C (γ e) c)/\Hp w (eP [aY d [(π r (γ j) a)] 144]) [aY d [(π r (γ j) a)] 144,bM eD 193 3 E C c e] w':=by subst l;have G:Hp w (eP (Qx d r (γ j) a)) (Qx d r (γ j) a) w:=F;refine enter (k:=5) func254 Τ Τ (aZ Τ) ?_;unfold ada at t;refine sr (wp 1 (nq (sr (wp 1 ?_))));have m:=G.cX eD 193 3 ι;replace m:Hp w (eP (Qx d r (γ j) a)) [bM eD 193 3 ι ι 0 ([]:LQ),aY d [(π r (γ j) a)] 144] w:=m;refine bi t λy u t=> ?_;have g:Hp w (eP (Qx d r (γ j) a)) [aY d [(π r (γ j) a)] 144,bM eD 193 3 ι ι 0 ([]:LQ)] w:=m.front 1 _ Τ;refine vC 275 #[] [(π ι 0 0),(Θ (.func 255) #[] #[(φ (dG d))])] _ ent275 aK aK (aww (s_0:=([]:LQ)) ι ι 0 d r (γ j) a u (B.hp g A) Τ (h.dj g i) n (g.hand (L1:=[aY d [(π r (γ j) a)] 144,bM eD 193 3 ι ι 0 ([]:LQ)]) (L2:=[])) (g.sM B A 2 Τ) (g.Ch 2 h i Τ)) ?_;rintro _ D ⟨z,o,f,rfl,s⟩;have x:Hp w (eP (Qx d r (γ j) a)) [aY d [(π r (γ j) a)] 144,bM eD 193 3 z o f y] D:=Hp.dV (L1:=[aY d [(π r (γ j) a)] 144,bM eD 193 3 ι ι 0 ([]:LQ)]) (L2:=[]) g s;clear s;refine wp 1 (nq (ct ?_));obtain rfl:=oi t;refine pT (π o (γ y) f) Τ aK ?_;exact⟨z,o,f,iK,x.kp⟩
theorem aic(r:Nat)(d:ε Γ)(t:Nat)(a:Nat)(o:abf fu j=θ e)(B:Gl w)(l:t=γ j)(h:Rd w d (Η eD j))(m:t<=a)(K:Hp w (eP [aY r [(π d (γ j) a)] 144]) [aY r [(π d (γ j) a)] 144] w)(A:∀b∈eP [aY r [(π d (γ j) a)] 144],9<=b)(i:Η eD j≠[]->∀p,d=θ p->p.block∉eP [aY r [(π d (γ j) a)] 144]):CR prog 214 [(Θ (.func 255) #[] #[(φ (dG r))]),(Θ (.func 216) #[] #[])] w λv w'=>∃(J:ε Nat),∃(G:ε Γ),∃(k:Nat),v=(π G (γ e) k)/\Hp w (eP [aY r [(π d (γ j) a)] 144]) [aY r [(π d (γ j) a)] 144,bM eD 193 3 J G k e] w':=by subst l;have q:=K;refine enter func214 Τ Τ (aZ Τ) ?_;unfold abf at o;refine sr (wp 1 (nq (sr (wp 1 (bi o λz D o=>vC 254 #[] [(Θ _ #[] #[(φ _)])] _ ent254 aK aK (ayb r d (γ j) a D (B.hp q A) Τ (h.dj q i) m (q.hand) (q.sM B A 1 Τ) (q.Ch 1 h i Τ)) ?_)))));rintro _ I ⟨s,n,f,rfl,x⟩;have E:Hp w (eP (Qx r d (γ j) a)) [aY r [(π d (γ j) a)] 144,bM eD 193 3 s n f z] I:=Hp.dV (L1:=(Qx r d (γ j) a)) (L2:=[]) q x;clear x;refine wp 1 (nq (sr (wp 2 (bi o λH u o=> ?_))));have g:=E.front 1 _ Τ;refine vC 203 #[] [(π n (γ z) f),(Θ _ #[] #[])] _ ent203 aK aK (aok s n f u (B.hp g A) (g.hand) (g.sM B A 1 Τ)) ?_;rintro _ C ⟨rfl,F,c⟩;have y:Hp w (eP (Qx r d (γ j) a)) [bM eD 193 3 s n f H,aY r [(π d (γ j) a)] 144] C:=Hp.dV (L1:=[bM eD 193 3 s n f z]) (L2:=(Qx r d (γ j) a)) g c;clear c;refine nq (sr (wp 2 (nq (ct ?_))));obtain rfl:=oi o;refine pT (π n (γ z) f) Τ aK ?_;exact⟨s,n,f,iK,(Hp.front y 1 _ Τ).kp⟩
theorem blr(c:ε Γ)(d:Nat)(a:Nat)(i:amq fu j=θ e)(n:Gl w)(o:d=γ j)(f:Rd w c (Η eD j))(h:d<=a):CR prog 215 [(π c d a)] w λv w'=>∃(k:Nat),v=(Θ (.func 255) #[] #[(φ (dG k))])/\Hp w [] [aY k [(π c (γ j) a)] 144] w':=by subst o;have l:=Hp.refl w;refine enter func215 Τ Τ (aZ Τ) ?_;unfold amq at i;refine sr (jS l [(π c (γ j) a)] 144 (λb=>(φ (dG b))) Τ Τ aK λr m g=>wp 1 (nq (sr (wp 2 (wl ?_)))));refine qn (ct ?_);obtain rfl:=oi i;refine pT (Θ (.func 255) #[] #[(φ (dG r))]) Τ aK ?_;exact⟨r,iK,g.kp⟩
theorem Cn(c:ε Γ)(k:Nat)(a:Nat)(n:YG fu j=θ e)(y:Gl w)(l:k=γ j)(d:Rd w c (Η eD j))(g:k<=a):CR prog 168 [(π c k a)] w λv w'=>∃(D:ε Nat),∃(A:ε Γ),∃(b:Nat),v=(π A (γ e) b)/\Hp w [] [bM eD 193 3 D A b e] w':=by subst l;have x:=Hp.refl w;refine enter func168 Τ Τ (aZ Τ) ?_;unfold YG at n;refine sr (wp 1 (nq (sr (wp 1 (bi n λE u n=>vC 215 #[] [(π c (γ j) a)] _ ent215 aK aK (blr c (γ j) a u (y.iY x) Τ (d.hp x) g) ?_)))));rintro _ C ⟨s,rfl,p⟩;have f:Hp w [] (Qx s c (γ j) a) C:=Hp.dV (L1:=[]) (L2:=[]) x p;clear p;refine bi n λz t n=>vC 214 #[] [(Θ _ #[] #[(φ _)]),(Θ _ #[] #[])] _ ent214 aK aK (aic s c (γ j) a t (y.iY f) Τ (d.hp f) g (f.hand) (f.sM y (λ_ h=>absurd h aA2) 1 Τ) (f.Ch 1 d (λ_ _ _ h=>absurd h aA2) Τ)) ?_;rintro _ B ⟨o,m,r,rfl,i⟩;have q:Hp w [] [aY s [(π c (γ j) a)] 144,bM eD 193 3 o m r z] B:=Hp.dV (L1:=(Qx s c (γ j) a)) (L2:=[]) f i;clear i;refine wp 1 (nq (ct ?_));obtain rfl:=oi n;refine pT (π m (γ z) r) Τ aK ?_;exact⟨o,m,r,iK,(Hp.front q 1 _ Τ).kp⟩
noncomputable def nI(fu:Nat):=kl func168 ⟨[.r' kZ],[.r' dI],λx=>.one (YG fu x)⟩ (uN (e:=193) (b:=40) (t:=.pr .s' (.pr .s' .b')) (λx=>x) (λy=>y) λw S x y a n cap h c d g f=>Cn a n cap c h.1 d g f)
section
variable(fu:Nat)
noncomputable def xS:=kf fu func128 [baa,asq fu,agj fu,ahi fu,ali fu,arh fu,ata fu,apl fu,nI fu] [.pr .s' (.pr .s' (.pr Μ (.pr .s' (.r' kZ))))] [.r' (.s'),.r' (.c')] (λx=>awn fu x) (Λ (Λ (.s' (.j' [.s' 34 (.b')] [0,1,2,8,13] .n' .n') (Λ (.j' [.s' 6 dI] [] (Λ (.l' [.s' 6 dI,.s' 38 Μ] .n')) (.j' [.s' 6 dI] [] .n' (Λ (Λ (.j' [.s' 4 (.s')] [] .n' .n')))))))))
noncomputable def bhs:=kf fu func169 [auz fu,ayw,bae fu] [.s'] [.r' Μ,.r' (.s'),.r' (.c')] (λx=>aqe fu x) (Λ (Λ (.j' [.s' 5 Μ] [] .n' .n')))
noncomputable def sJ:=kf fu func129 [asq fu,aoa fu,bhs fu] [.s'] [.r' Μ,.r' (.s'),.r' (.c')] (λx=>bbm fu x) (.n')
noncomputable def Oh:=kf fu func130 [aoa fu,sJ fu,bhs fu] [.s'] [.r' Μ,.r' Μ,.r' (.s'),.r' (.c')] (λx=>bfp fu x) (.n')
noncomputable def Ek:=kf fu func131 [aoa fu,bae fu] [.s'] [.r' Μ,.r' (.c')] (λx=>bbl fu x) (.n')
noncomputable def Oj:=kf fu func132 [avj fu,aoa fu,bcn fu] [.s'] [.r' (.pr .s' dI),.r' (.c')] (λx=>bfr fu x) (Λ (Λ (Λ (Λ (.r' [.s' 4 Μ] [] (.j' [.s' 25 (.b')] [0,1,3,4] .n' .n') .n')))))
noncomputable def uX:=kf fu func133 [asq fu,bix,ata fu,nI fu] [.pr .s' (.r' kZ)] [.r' (.s'),.r' (.c')] (λx=>auf fu x) (Λ (Λ (.s' (.j' [.s' 26 (.b')] [0,2,3] .n' .n') .n')))
noncomputable def Od:=kf fu func102 [baa,nJ fu,aoa fu,Ba fu,blb fu,Td fu,xS fu,sJ fu,Oh fu,Ek fu,Oj fu,uX fu,bja fu] [.s',.s'] [.r' (.s'),.r' (.c')] (λx=>bbj fu x.1 x.2) (Λ (.s' (Λ (Λ (.s' (.s' (.j' [.s' 33 (.b')] [0,1,2] .n' .n') .n') (Λ (Λ (Λ (Λ (Λ (Λ (Λ (Λ (.j' [.s' 109 (.b')] [] .n' .n')))))))))))) .n'))
noncomputable def Oa:=kf fu func172 [auz fu,bek] [.s',.i' .i64,.i' .i64] [.r' (.pr Μ .s')] (λx=>bbi fu x.1 x.2.1 x.2.2) (.n')
noncomputable def Oc:=kf fu func135 [arf fu,bea fu,akd,Oa fu] [.s',.c'] [.r' (.l' 68 24 (.pr Μ .s')),.r' Μ,.r' (.c')] (λx=>bfm fu x.1 x.2) (Λ (.s' (.j' [.s' 27 (.b')] [0,2,6,10] .n' .n') (Λ (Λ (.r' [.s' 7 (.l' 68 24 (.pr Μ .s')),.s' 8 Μ] [] (Λ (.l' [.s' 7 (.l' 68 24 (.pr Μ .s')),.s' 8 Μ,.s' 9 Μ] .n')) .n')))))
noncomputable def Oi:=kf fu func103 [Oc fu] [.s'] [.r' (.l' 9 16 .s'),.r' (.c')] (λx=>bfq fu x) (Λ (Λ (Λ (Λ (.r' [.s' 7 (.l' 9 16 .s')] [] (Λ (.l' [.s' 7 (.l' 9 16 .s'),.s' 21 Μ] .n')) .n')))))
noncomputable def Og:=kf fu func75 [bgf fu,bgb,Of fu,Od fu,Oi fu] [.s',.s'] [.r' (.s'),.r' (.c')] (λx=>bfo fu x.1 x.2) (Λ (Λ (Λ (Λ (Λ (Λ (.r' [.w' 8 (.l' 9 16 .s')] [] (Λ (.l' [.w' 8 (.l' 9 16 .s'),.s' 36 Μ] .n')) .n')))))))
noncomputable def bbx:=kf fu func46 [Og fu] [.s',.s'] [.r' (.pr .s' .s'),.r' (.c')] (λx=>aje fu x.1 x.2) (.n')
noncomputable def xU:=kf fu func38 [bix,bgf fu,bbx fu,pU,bek] [.s'] [.r' (.pr .s' .s'),.r' (.c')] (λx=>aqi fu x) (.n')
noncomputable def xQ:=kf fu func99 [] [.c'] [.r' (.b')] (λx=>awj fu x) (Λ (.s' (.j' [.s' 26 (.b')] [0,1,2,6,14] .n' .n') (Λ (.r' [] [] (Λ (.l' [.s' 4 Μ] .n')) .n'))))
noncomputable def akw:=kf fu func65 [xQ fu] [.s',.i' .i64] [.r' Μ] (λx=>eg fu x.1 x.2) (Λ (Λ (.j' [.s' 5 Μ] [] (.l' [.s' 5 Μ] (.s' (.j' [.s' 20 (.b')] [0,1,3,4] .n' .n') .n')) .n')))
noncomputable def axn:=kf fu func39 [akw fu] [.s'] [.r' (.b')] (λx=>bp fu x) (Λ (.j' [.s' 2 (.b')] [0,1,2,9] .n' .n'))
noncomputable def Nl:=kf fu func17 [axn fu] [.s'] [.r' (.b')] (λx=>bas fu x) (Λ (.j' [.s' 2 (.b')] [0,2,7] .n' .n'))
noncomputable def sA:=kf fu func29 [] [.s',.i' .i64,.s'] [.r' (.b')] (λx=>XZ fu x.1 x.2.1 x.2.2) (Λ (.j' [.s' 6 (.b')] [0,1,2,11,22] .n' .n'))
noncomputable def Nk:=kf fu func25 [sA fu] [.s',.i' .i64,.s'] [.r' (.b')] (λx=>bff fu x.1 x.2.1 x.2.2) (Λ (.j' [.s' 6 (.b')] [0,1,2,3,5,15] .n' .n'))
noncomputable def anz:=kf fu func67 [] [.c'] [.r' (.b')] (λx=>TA fu x) (Λ (.j' [.s' 2 (.b')] [0,1,2,6] .n' .n'))
noncomputable def we:=kf fu func66 [anz fu] [.s',.i' .i64] [.r' Μ] (λx=>JP fu x.1 x.2) (Λ (Λ (.j' [.s' 5 Μ] [] (.l' [.s' 5 Μ] (.s' (.j' [.s' 20 (.b')] [0,1,3,4] .n' .n') .n')) .n')))
noncomputable def xN:=kf fu func40 [Nk fu,sA fu,we fu] [.s',.i' .i64,.s'] [.r' Μ,.r' (.b')] (λx=>avp fu x.1 x.2.1 x.2.2) (Λ (Λ (Λ (Λ (.j' [.s' 8 Μ] [] .n' .n')))))
noncomputable def Sq:=kf fu func18 [xN fu] [.s',.i' .i64,.s'] [.r' Μ,.r' Μ,.r' (.b')] (λx=>ava fu x.1 x.2.1 x.2.2) (Λ (.r' [] [] (Λ (.l' [.s' 9 Μ] .n')) .n'))
noncomputable def ami:=kf fu func100 [] [.c'] [.r' (.b')] (λx=>qx fu x) (Λ (.j' [.s' 2 (.b')] [0,1,2,6,10] .n' .n'))
noncomputable def AL:=kf fu func68 [ami fu] [.s',.i' .i64] [.r' Μ,.r' Μ,.r' (.c')] (λx=>blm fu x.1 x.2) (Λ (.r' [] [] (Λ (.l' [.s' 7 Μ] (Λ (.s' (.s' (.j' [.s' 32 (.b')] [0,1,2,3,4,11] .n' .n') (.j' [.s' 50 (.b')] [0,1,2,4] .n' .n')) .n')))) .n'))
noncomputable def qv:=kf fu func69 [we fu,anz fu] [.s'] [.r' (.s')] (λx=>YB fu x) (Λ (Λ (Λ (.j' [.s' 3 Μ] [] (.l' [.s' 3 Μ] (.s' (.j' [.s' 18 (.b')] [0,1,2] .n' .n') .n')) .n'))))
noncomputable def Iq:=kf fu func41 [anz fu,AL fu,qv fu] [.s'] [.r' (.l' 68 24 (.pr Μ .s')),.r' Μ,.r' (.c')] (λx=>axz fu x) (Λ (Λ (Λ (.r' [.s' 5 (.l' 68 24 (.pr Μ .s'))] [] (.l' [.s' 5 (.l' 68 24 (.pr Μ .s')),.s' 6 Μ] (Λ (.s' (.j' [.s' 22 (.b')] [0,1,2] .n' .n') (Λ (Λ (Λ (.s' (Λ (Λ (Λ (.s' (Λ (.j' [.s' 10 (.s')] [] .n' .n')) .n')))) .n'))))))) .n'))))
noncomputable def ef:=kf fu func106 [] [.s'] [.r' (.s')] (λx=>IU fu x) (Λ (Λ (.j' [.w' 3 (.y')] [] (Λ (.l' [.w' 3 (.y'),.s' 4 Μ] (Λ (.s' (.j' [.s' 24 (.b')] [0,1,4,5] .n' .n') .n')))) .n')))
end
theorem pZ(h:baw fu f=θ a)(C:Gl w):CR prog 107 [(bt f)] w λv w'=>v=(str a)/\Hp w [] [] w':=by have A:=Hp.refl w;refine enter func107 Τ Τ (aZ Τ) ?_;unfold baw at h;refine sr (wp 1 (nq (sr (jS A [(str (Zz14)),(str (Zz13)),(str (Zz7)),(str [102,70,114,111,109]),(str [105,67,97,108,108,45,73,68]),(str (Zz16)),(str (Zz9)),(str (Zz20)),(str [111,69,118,101,110,116]),(str (Zz17)),(str (Zz21)),(str [116,84,111]),(str (Zz11)),(str [118,86,105,97]),(str (Zz8))] 9 (λb=>(π (dG b) 15 15)) Τ Τ aK λD B k=>wp 1 (wl ?_)))));refine qn (bi h λj g h=>cut (σ:=Unit) [2] (λe=>[]) (λe w'=>Hp w [] [] w'/\.inl e=j) ?_ ?_);refine sr (wp 1 (nq (ce (P3 _ 0 k g [0,2,3,4] (λc=>[(4,(Δ .i64 c))]) (λ_=>rfl) ?_))));rintro x c z G d r;rw[vF,bav]at r;refine cs (sr (wp 4 (nq (cd r (λm r=> ?_) (λm r=> ?_)))));refine ck (qn (cs (ce (sr (wp 2 (gi r λu r=>Qj _ 15 15 9 1 .i64 c underlying89 aK aK aK _ aA9 u (d.fQ 0 Τ) sS aA1 (gi r λt r=> ?_)))))));refine lY _ eS _ 1 c sS (d.fQ 0 Τ) (str (el ((Zz22):δ aC) c)) t aA1 aK aK aK (gi r λs r=>qb _ .i64 0 underlying9 aK aK s (wp 1 (qZ (Κ (el ((Zz22):δ aC) c) 0) f aK aK (nq (cd r (λl r=> ?_) (λl r=> ?_))))));refine sr (wp 2 (gi r λq r=>Qj _ 15 15 9 1 .i64 c underlying89 aK aK aK _ aA9 q (d.fQ 0 Τ) sS aA1 (gi r λp r=>lY _ eS _ 1 c sS (d.fQ 0 Τ) (str (el ((Zz22):δ aC) c)) p aA1 aK aK aK (gi r λo r=>azj _ .i64 _ underlying9 aK aK o (wp 1 ?_)))));refine nq (ct (iD (st (pJ (iD (pJ ?_))))));obtain rfl:=oi r;obtain rfl:=oi h;exact rv d.kp;exact ck (bn (qn (cr (wp 1 (gi r λn r=>Cw c _ aK aK n (wp 1 (wl (ql (le' _ d.kp r)))))))));refine Fu (Fx (Fw (Ft (ql ?_))));obtain rfl:=oi r;exact⟨(),_,Τ,by kernel_rfl,d.kp,Τ⟩;rintro e y G ⟨i,rfl⟩;refine sr (wp 1 (nq (ct ?_)));obtain rfl:=oi h;exact rv i.kp
theorem ent39:Go.Wk.Enters prog 39:=⟨Tryz.f39,_,func39,Τ,by kernel_rfl⟩
theorem Y2:Go.Wk.Enters prog 106:=⟨Tryz.f106,_,func106,Τ,by kernel_rfl⟩
theorem Y1:Go.Wk.Enters prog 107:=⟨Tryz.f107,_,func107,Τ,by kernel_rfl⟩
theorem Iy(d:bp fu a=θ r)(f:Gl w):CR prog 39 [str a] w λv c=>v=.bool r/\Hp w [] [] c:=
 SM (x:=a) (y:=r) (axn fu).ok (λx=>[str x]) _ ⟨f,λb e=>by cases e⟩ d
theorem qA(d:IU fu a=θ c)(f:Gl w):CR prog 106 [str a] w λv r=>v=str c/\Hp w [] [] r:=
 SM (x:=a) (y:=c) (ef fu).ok (λx=>[str x]) _ ⟨f,λb e=>by cases e⟩ d
theorem Ix{r:(aC×ζ)}(o:vx fu a=θ r)(V:Gl w):CR prog 80 [(str a)] w λv w'=>v=(Value.tuple #[(str r.1),(bt r.2)])/\Hp w [] [] w':=by
 have hH:=Hp.refl w;refine enter func80 Τ Τ (aZ Τ) ?_;unfold vx at o;refine sr (wp 2 (nq (cs (bi o λv10 t o=>nS hH [0,2,3,16] [(16,(υ v10))] ?_ ?_))));refine cr (wp 1 (bi t λe5 Q t=>wc ent39 hH (Iy Q (V.iY hH)) λf2 D=>wp 1 (wb t (λd2 t=> ?_) (λd2 t=> ?_))));refine wp 4 (wl (ql ?_));obtain rfl:=oi t;exact je D.kp;refine wp 4 (wl (ql ?_));obtain rfl:=oi t;exact je D.kp;intro f1 G B;refine cb o (λd1 o=> ?_) (λd1 o=> ?_);refine sr (wp 2 (nq (ct (st ?_))));obtain rfl:=oi o;exact rv B.kp;refine ck (qn (sr (wp 1 (bi o λk P o=>wc Y2 B (qA P (V.iY B)) λf0 z=>wp 1 (nq ?_)))));refine cs (bi o λc6 n o=>nS z [2,3,4,27] [(27,(υ c6))] ?_ ?_);refine cr (wp 3 (wd n (λd0 n=> ?_) (λd0 n=> ?_)));refine wp 1 (gy 22 (gi n λd4 n=>qb k .i64 0 underlying9 aK aK d4 (gy 22 (bi n λe4 O n=>wc Y1 z (pZ O (V.iY z)) λe9 U=>wp 2 (wl (ql ?_))))));obtain rfl:=oi n;exact je U.kp;refine wp 5 (wl (ql ?_));obtain rfl:=oi n;exact je z.kp;intro e8 G A;refine cb o (λc9 o=> ?_) (λc9 o=> ?_);refine sr (wp 1 (gi o λd3 o=>qb k .i64 _ underlying9 aK aK d3 (bi o λe3 N o=>wc Y1 A (pZ N (V.iY A)) λe7 T=>wp 2 (nq ?_))));refine ct (st ?_);obtain rfl:=oi o;exact rv T.kp;refine ck (qn (sr (jS A [(str ([67,97,108,108,45,73,68]:aC)),(str ([67,83,101,113]:aC)),(str ((Zz19):aC)),(str ([77,105,110,45,83,69]:aC)),(str ([82,65,99,107]:aC)),(str ([82,83,101,113]:aC)),(str ((Zz15):aC))] 9 (λb=>(π (dG b) 7 7)) Τ Τ aK λf3 e6 S=>wp 1 (nq (bi o λc7 R o=>cut (σ:=Unit) [2,3,4] (λE=>[]) (λE w'=>Hp w [] [] w'/\.inl E=c7) ?_ ?_)))));refine sr (wp 1 (nq (ce (P3 _ _ S R [2,3,4,5,6] (λj=>[(6,(Δ .i64 j))]) (λ_=>rfl) ?_))));rintro d5 j e2 G p f;rw[vG,bba]at f;refine cs (sr (wp 4 (nq (cd f (λa3 f=> ?_) (λa3 f=> ?_)))));refine ck (qn (cs (ce (sr (wp 2 (gi f λc5 f=>Qj _ 7 7 9 1 .i64 j underlying89 aK aK aK _ aA9 c5 (p.fQ 0 Τ) sS aA1 (gi f λc4 f=> ?_)))))));refine lY _ eS _ 1 j sS (p.fQ 0 Τ) (str (el ([[67,97,108,108,45,73,68],[67,83,101,113],(Zz19),[77,105,110,45,83,69],[82,65,99,107],[82,83,101,113],(Zz15)]:δ aC) j)) c4 aA1 aK aK aK (bi f λd6 F f=>wc Y2 p (qA F (V.iY p)) λe1 s=>wp 2 (nq (cd f (λa2 f=> ?_) (λa2 f=> ?_))));refine sr (wp 2 (gi f λc3 f=>Qj _ 7 7 9 1 .i64 j underlying89 aK aK aK _ aA9 c3 (s.fQ 0 Τ) sS aA1 (gi f λc2 f=>lY _ eS _ 1 j sS (s.fQ 0 Τ) (str (el ([[67,97,108,108,45,73,68],[67,83,101,113],(Zz19),[77,105,110,45,83,69],[82,65,99,107],[82,83,101,113],(Zz15)]:δ aC) j)) c2 aA1 aK aK aK (wp 2 (nq ?_)))));refine ct (iD (st (pJ (iD (pJ ?_)))));obtain rfl:=oi f;obtain rfl:=oi o;exact rv s.kp;exact ck (bn (qn (cr (wp 1 (gi f λc1 f=>Cw j _ aK aK c1 (wp 1 (wl (ql (le' _ s.kp f)))))))));refine Fu (Fx (Fw (Ft (ql ?_))));obtain rfl:=oi f;exact⟨(),_,Τ,by kernel_rfl,p.kp,Τ⟩;rintro E e0 G ⟨J,rfl⟩;refine sr (wp 1 (bjg J k 5 underlying9 underlying22 underlying5 aK λi h d9 I=>wp 1 (nq (bi o λC H o=>cut (σ:=aC) [2,3,7] (λq=>[]) (λq w'=>Hp w [] [gF (π i (γ k) h) (γ k) q] w'/\q=C) ?_ ?_))));refine sr (wp 1 (nq (ce (FK (σ:=Nat×aC×Int) [2,3,7,8] (λ⟨m,d,c⟩=>[(8,(Δ .i64 c))]) (λ⟨m,d,c⟩ w'=>Hp w [] [gF (π i (γ k) h) (γ k) d] w'/\ail fu k m d c=θ C) (λ⟨m,d,c⟩=>m) (fu,k,(0:Int)) (by exact⟨I.kp,H⟩) ?_))));rintro⟨_|m,d,c⟩ d8 G ⟨g,e⟩
 ·exact absurd (show ι=θ _ from e) aA2
 rw[azb,amt]at e;refine cs (sr (wp 4 (nq (cd e (λa1 e=> ?_) (λa1 e=> ?_)))));refine ck (qn (cs (ce (bi e λM y e=>nS g [2,3,7,8,80] [(80,(υ M))] ?_ ?_))));refine cr (wp 2 (wd y (λa0 y=> ?_) (λa0 y=> ?_)));refine wp 10 (gy 67 (gi y λc0 y=>Qj i (γ k) h 5 1 .i64 c underlying22 aK aK aK d (g.gY 0 Τ).symm c0 (Rd.dD (g.dN 0 Τ)) Xb aA1 (gy 67 (gi y λb9 y=>lY i eB d 1 c Xb (Rd.dD (g.dN 0 Τ)) (bt (Κ d c)) b9 aA1 aK aK aK (gy 67 (C1 (Κ d c) 97 aK aK (wp 1 (wd y (λZ y=> ?_) (λZ y=> ?_)))))))));refine wp 2 (gy 74 (gi y λb8 y=>Qj i (γ k) h 5 1 .i64 c underlying22 aK aK aK d (g.gY 0 Τ).symm b8 (Rd.dD (g.dN 0 Τ)) Xb aA1 (gy 74 (gi y λb7 y=>lY i eB d 1 c Xb (Rd.dD (g.dN 0 Τ)) (bt (Κ d c)) b7 aA1 aK aK aK (gy 74 (C0 (Κ d c) 122 aK aK (wp 1 ?_)))))));refine wl (ql ?_);obtain rfl:=oi y;exact je g.kp;refine wp 6 (wl (ql ?_));obtain rfl:=oi y;exact je g.kp;refine wp 2 (gy 59 (gi y λb6 y=>oL c _ aK aK b6 (gy 59 (gi y λb5 y=>Qj i (γ k) h 5 1 .i64 _ underlying22 aK aK aK d (g.gY 0 Τ).symm b5 (Rd.dD (g.dN 0 Τ)) Xb aA1 (gy 59 (gi y λb4 y=>lY i eB d 1 _ Xb (Rd.dD (g.dN 0 Τ)) (bt (Κ d (c-1))) b4 aA1 aK aK aK ?_))))));refine gy 59 (qZ (Κ d (c-1)) 45 aK aK (wp 1 (wd y (λY y=> ?_) (λY y=> ?_))));refine wp 2 (gy 67 (gi y λb3 y=>Qj i (γ k) h 5 1 .i64 c underlying22 aK aK aK d (g.gY 0 Τ).symm b3 (Rd.dD (g.dN 0 Τ)) Xb aA1 (gy 67 (gi y λb2 y=>lY i eB d 1 c Xb (Rd.dD (g.dN 0 Τ)) (bt (Κ d c)) b2 aA1 aK aK aK (gy 67 (C1 (Κ d c) 97 aK aK (wp 1 (wd y (λX y=> ?_) (λX y=> ?_)))))))));refine wp 2 (gy 74 (gi y λb1 y=>Qj i (γ k) h 5 1 .i64 c underlying22 aK aK aK d (g.gY 0 Τ).symm b1 (Rd.dD (g.dN 0 Τ)) Xb aA1 (gy 74 (gi y λb0 y=>lY i eB d 1 c Xb (Rd.dD (g.dN 0 Τ)) (bt (Κ d c)) b0 aA1 aK aK aK (gy 74 (C0 (Κ d c) 122 aK aK (wp 1 ?_)))))));refine wl (ql ?_);obtain rfl:=oi y;exact je g.kp;refine wp 6 (wl (ql ?_));obtain rfl:=oi y;exact je g.kp;refine wp 13 (wl (ql ?_));obtain rfl:=oi y;exact je g.kp;intro d7 G l;refine cb e (λW e=> ?_) (λW e=> ?_);refine cr (wp 4 (gi e λa9 e=>Qj i (γ k) h 5 1 .i64 c underlying22 aK aK aK d (l.gY 0 Τ).symm a9 (Rd.dD (l.dN 0 Τ)) Xb aA1 (gi e λa8 e=>lY i eB d 1 c Xb (Rd.dD (l.dN 0 Τ)) (bt (Κ d c)) a8 aA1 aK aK aK (xp (Κ d c) 32 aK aK (gi e λa7 e=>Qj i (γ k) h 5 1 .i64 c underlying22 aK aK aK d (l.gY 0 Τ).symm a7 (Rd.dD (l.dN 0 Τ)) Xb aA1 (gi e λa6 e=> ?_))))));refine tc l 0 i (γ k) h c d ((Κ d c)-32) Τ a6 aK aK aK λL x=> ?_;replace x:Hp w [] _ L:=x;refine wl (bn (qn (cr (wp 1 (gi e λa5 e=>Cw c _ aK aK a5 (wp 1 (wl (ql ?_))))))));exact⟨(m,List.set d _ _,c+1),_,Τ,by kernel_rfl,⟨x.kp,e⟩,bZ _⟩;refine ck (bn (qn (cr (wp 1 (gi e λa4 e=>Cw c _ aK aK a4 (wp 1 (wl (ql ?_))))))));exact⟨(m,d,c+1),_,Τ,by kernel_rfl,⟨l.kp,e⟩,bZ _⟩;refine Fu (Fx (Fw (Ft (ql ?_))));obtain rfl:=oi e;exact⟨d,_,Τ,by kernel_rfl,g.kp,Τ⟩;rintro q K G ⟨u,rfl⟩;refine sr (wp 1 (gC (v:=(str q)) (w':=K) Τ Τ (zD q i (γ k) h 5 (Rd.bytes (Rd.dD (u.dN 0 Τ))) (u.gY 0 Τ) underlying22 underlying9 underlying5 aK) (wp 2 (nq (ct ?_)))));obtain rfl:=oi o;exact rv u.kp
noncomputable def biy(fu:Nat):=kl func80 ⟨[.s'],[.r' (.s'),.r' (.c')],λx=>.one (vx fu x)⟩ (SQ (λx=>[str x]) (λy=>.tuple #[str y.1,bt y.2]) λw S x y b a=>Ix a b.1)
section
variable(fu:Nat)
noncomputable def sD:=kf fu func137 [] [.s',.r' .s'] [.r' (.b')] (λx=>eb fu x.1 x.2) (Λ (.r' [] [] (Λ (.l' [.s' 5 Μ] .n')) .n'))
noncomputable def vW:=kf fu func136 [sD fu] [.s'] [.r' Μ] (λx=>vt fu x) (.n')
noncomputable def Sy:=kf fu func108 [biy fu,vW fu,sD fu] [.s'] [.r' (.b')] (λx=>big fu x) (Λ (Λ (.j' [.s' 2 (.b')] [0,1,2,12] .n' .n')))
noncomputable def Nr:=kf fu func218 [] [.s',.i' .i64,.c'] [.r' Μ] (λx=>awb fu x.1 x.2.1 x.2.2) (Λ (.r' [] [] (Λ (.l' [.s' 7 Μ] .n')) .n'))
noncomputable def bcl:=kf fu func282 [] [.s',.c'] [.r' (.b')] (λx=>ZE fu x.1 x.2) (Λ (.r' [] [] (Λ (.l' [.s' 5 Μ] .n')) .n'))
noncomputable def agq:=kf fu func276 [bcl fu] [.p' 270 (.pr .s' (.pr Μ (.pr Μ .c'))),.s'] [.r' Μ] (λx=>ZF fu x.1 x.2) (Λ (Λ (.j' [.s' 5 Μ] [] (.l' [.s' 5 Μ] (.s' (.j' [.s' 27 (.b')] [0,1,3,6,7] .n' .n') .n')) .n')))
noncomputable def axm:=kf fu func263 [] [.c'] [.r' (.b')] (λx=>YE fu x) (Λ (.j' [.s' 2 (.b')] [0,1,2,6] .n' .n'))
noncomputable def Ay:=kf fu func295 [axm fu] [.c'] [.r' Μ] (λx=>dy fu x) (Λ (Λ (.s' (.j' [.s' 13 (.b')] [0,1,2] .n' .n') (.s' (.j' [.s' 23 (.b')] [0,1,2] .n' .n') .n'))))
noncomputable def Io:=kf fu func302 [Ay fu] [.s',.i' .i64] [.r' Μ] (λx=>bdb fu x.1 x.2) (Λ (.s' (.j' [.s' 31 (.b')] [0,1,2,4,5,11,19] .n' .n') .n'))
noncomputable def afr:=kf fu func292 [] [.p' 270 (.pr .s' (.pr Μ (.pr Μ .c'))),.i' .i64,.c'] [.o' 0 270 (.pr .s' (.pr Μ (.pr Μ .c')))] (λx=>Kg fu x.1 x.2.1 x.2.2) (.n')
noncomputable def pW:=kf fu func262 [] [.c'] [.r' (.b')] (λx=>axx fu x) (Λ (.j' [.s' 2 (.b')] [0,1,2,6,14] .n' .n'))
noncomputable def Hh:=kf fu func260 [pW fu,axm fu,bcl fu] [.c',.i' .i64] [.r' (.b')] (λx=>bkh fu x.1 x.2) (Λ (.s' (.j' [.s' 14 (.b')] [0,2,6] .n' .n') .n'))
noncomputable def bab:=kf fu func291 [ami fu,Hh fu,afr fu,Io fu] [.p' 270 (.pr .s' (.pr Μ (.pr Μ .c'))),.i' .i64,.i' .i64] [.r' (.s'),.o' 0 270 (.pr .s' (.pr Μ (.pr Μ .c')))] (λx=>wm fu x.1 x.2.1 x.2.2) (Λ (Λ (.r' [.s' 7 (.l' 5 1 .c')] [] (Λ (.l' [.s' 7 (.l' 5 1 .c'),.s' 8 Μ] (Λ (.s' (Λ (.r' [.s' 8 Μ,.s' 9 Μ] [] (Λ (.s' (Λ (.s' (.j' [.s' 42 (.b')] [0,1,2] .n' .n') .n')) .n')) .n')) .n')))) .n')))
noncomputable def sE:=kf fu func277 [agq fu,bab fu,afr fu] [.p' 270 (.pr .s' (.pr Μ (.pr Μ .c')))] [.r' (.s'),.o' 0 270 (.pr .s' (.pr Μ (.pr Μ .c')))] (λx=>alp fu x) (Λ (Λ (Λ (.r' [] [] (Λ (.l' [.s' 4 Μ] .n')) (.j' [.o' 0 0 (.s'),.o' 0 1 Μ,.o' 0 2 Μ,.o' 0 3 (.c')] [] .n' .n')))))
noncomputable def ati:=kf fu func293 [] [.p' 270 (.pr .s' (.pr Μ (.pr Μ .c'))),.c'] [.r' (.b')] (λx=>NN fu x.1 x.2) (Λ (.j' [.s' 4 (.b')] [] .n' .n'))
noncomputable def pV:=kf fu func230 [] [.s',.c'] [.r' (.l' 9 16 .s')] (λx=>axw fu x.1 x.2) (Λ (Λ (Λ (.j' [.s' 5 (.l' 9 16 .s'),.s' 6 Μ] [] (Λ (.l' [.s' 5 (.l' 9 16 .s'),.s' 6 Μ,.s' 7 Μ] .n')) .n'))))
noncomputable def Ns:=kf fu func283 [ef fu,Ay fu] [.s'] [.r' (.s'),.r' (.b')] (λx=>bfi fu x) (Λ (.s' (.j' [.s' 12 (.b')] [0,2,3] .n' .n') (.r' [] [] (Λ (.l' [.s' 4 Μ] .n')) (.j' [.s' 0 (.s')] [] (.l' [.s' 0 (.s')] (.s' (.j' [.s' 31 (.b')] [0,2,3] .n' .n') .n')) .n'))))
noncomputable def Im:=kf fu func261 [pV fu,Ns fu] [.s'] [.r' (.s'),.r' Μ,.r' (.b')] (λx=>asu fu x) (Λ (Λ (Λ (Λ (.r' [.s' 6 (.s')] [] (Λ (.l' [.s' 6 (.s'),.s' 7 Μ] (Λ (.s' (Λ (Λ (.j' [.s' 6 (.s')] [] .n' .n'))) .n')))) .n')))))
noncomputable def AJ:=kf fu func229 [Im fu] [.s'] [.r' (.s'),.r' (.b')] (λx=>blj fu x) (Λ (.r' [] [] (Λ (.l' [.s' 4 Μ] (Λ (.s' (.s' (.j' [.s' 31 (.b')] [0,1,2,3,4] .n' .n') (Λ (Λ (.s' (.j' [.s' 60 (.b')] [0,1,2,6] .n' .n') .n')))) .n')))) (Λ (.j' [.s' 3 (.b')] [0,1,2,6,7] .n' .n'))))
noncomputable def Nq:=kf fu func231 [pW fu,axm fu] [.s'] [.r' (.b'),.r' (.b')] (λx=>bfh fu x) (Λ (.s' (.j' [.s' 26 (.b')] [0,2,3,8,13] .n' .n') (Λ (.r' [.s' 4 (.b')] [] (Λ (.l' [.s' 4 (.b'),.s' 5 Μ] (Λ (.s' (.s' (.j' [.s' 50 (.b')] [0,1,2,4,5,12] .n' .n') .n') .n')))) .n'))))
noncomputable def Il:=kf fu func232 [axm fu] [.s'] [.r' (.b')] (λx=>bda fu x) (Λ (.s' (.j' [.s' 22 (.b')] [0,2,3,8] .n' .n') (Λ (.r' [.s' 3 Μ] [] (Λ (.l' [.s' 3 Μ,.s' 4 Μ] .n')) .n'))))
noncomputable def avi:=kf fu func179 [ef fu,AJ fu,pV fu,Nq fu,Il fu] [.s'] [.r' (.s'),.r' (.b')] (λx=>qq fu x) (Λ (Λ (.s' (.j' [.s' 28 (.b')] [0,1,2,7] .n' .n') (Λ (Λ (.r' [.s' 8 (.b'),.s' 9 (.b')] [] (Λ (.l' [.s' 8 (.b'),.s' 9 (.b'),.s' 10 Μ] (Λ (.s' (Λ (Λ (.j' [.s' 9 (.b')] [1,4] .n' .n'))) .n')))) (.s' (.j' [.s' 84 (.b')] [0,1,2] .n' .n') .n')))))))
noncomputable def sH:=kf fu func278 [avi fu,agq fu,afr fu,ati fu] [.p' 270 (.pr .s' (.pr Μ (.pr Μ .c')))] [.r' (.s'),.o' 0 270 (.pr .s' (.pr Μ (.pr Μ .c')))] (λx=>ri fu x) (Λ (Λ (Λ (.j' [.s' 3 Μ] [] .n' (Λ (.j' [.o' 0 0 (.s'),.o' 0 1 Μ,.o' 0 2 Μ,.o' 0 3 (.c')] [] .n' .n'))))))
noncomputable def bac:=kf fu func184 [] [.s'] [.r' Μ,.r' (.c')] (λx=>aog fu x) (Λ (Λ (.r' [.s' 4 Μ] [] (Λ (.l' [.s' 4 Μ,.s' 5 Μ] (Λ (.s' (.s' (.j' [.s' 25 (.b')] [0,1,2,3,4,10] .n' .n') .n') .n')))) .n')))
noncomputable def sF:=kf fu func279 [bac fu,agq fu,afr fu,ati fu] [.p' 270 (.pr .s' (.pr Μ (.pr Μ .c')))] [.r' Μ,.o' 0 270 (.pr .s' (.pr Μ (.pr Μ .c')))] (λx=>ei fu x) (Λ (.s' (Λ (.s' (.j' [.o' 0 0 (.s'),.o' 0 1 Μ,.o' 0 2 Μ,.o' 0 3 (.c')] [] (.j' [.s' 28 (.b')] [] .n' .n') .n') .n')) (Λ (Λ (Λ (.j' [.o' 0 0 (.s'),.o' 0 1 Μ,.o' 0 2 Μ,.o' 0 3 (.c')] [] .n' (.j' [.o' 0 0 (.s'),.o' 0 1 Μ,.o' 0 2 Μ,.o' 0 3 (.c')] [] (.j' [.s' 72 (.b')] [0,1,2] .n' .n') .n')))))))
noncomputable def qF:=kf fu func294 [ef fu,bab fu,afr fu] [.p' 270 (.pr .s' (.pr Μ (.pr Μ .c'))),.i' .i64,.i' .i64] [.r' kZ,.o' 0 270 (.pr .s' (.pr Μ (.pr Μ .c')))] (λx=>aoq fu x.1 x.2.1 x.2.2) (Λ (Λ (.j' [.s' 7 Μ] [] (.l' [.s' 7 Μ] (.s' (.j' [.s' 26 (.b')] [0,1,2,3] .n' .n') .n')) (Λ (Λ (.j' [.o' 0 0 (.s'),.o' 0 1 Μ,.o' 0 2 Μ,.o' 0 3 (.c')] [] .n' (Λ (.j' [.o' 0 0 (.s'),.o' 0 1 Μ,.o' 0 2 Μ,.o' 0 3 (.c')] [] (.j' [.s' 51 (.b')] [0,1,2] .n' .n') (.j' [.o' 0 0 (.s'),.o' 0 1 Μ,.o' 0 2 Μ,.o' 0 3 (.c'),.o' 10 1 (.s'),.o' 10 2 (.b')] [] (Λ (.s' (Λ (Λ (Λ (.j' [.s' 75 (.b')] [0,1,2] .n' .n')))) .n')) .n')))))))))
noncomputable def vZ:=kf fu func234 [ef fu] [.r' kZ,.s'] [.r' Μ] (λx=>bdr fu x.1 x.2) (Λ (.r' [] [] (Λ (.l' [.s' 5 Μ] .n')) .n'))
noncomputable def bfb:=kf fu func227 [vZ fu] [.r' kZ,.s'] [.r' (.c')] (λx=>IS fu x.1 x.2) (.n')
end
theorem Gb(A:ε Γ)(b7:Nat)(O:Nat)(hr:ee fu j=θ e)(hG:Gl w)(b9:b7=γ j)(J:Rd w A (Η eD j))(e6:b7<=O):CR prog 176 [(π A b7 O)] w λv w'=>∃(o0:ε Nat),∃(a0:ε Γ),∃(b0:Nat),v=(π a0 (γ e) b0)/\Hp w [] [bM eD 193 3 o0 a0 b0 e] w':=by
 subst b9;have hH:Hp w [] [] w:=Hp.refl w;refine enter (k:=51) func176 Τ Τ (aZ Τ) ?_;unfold ee at hr;refine sr (wp 1 (nq (sr (wp 1 (nq ?_)))));refine bi hr λY a6 hr=>cut (σ:=LQ×(ε Nat)×(ε Γ)×Nat) [2,3] (λ⟨z,I,B,o⟩=>[(3,(π B (γ z) o))]) (λ⟨z,I,B,o⟩ w'=>Hp w [] [bM eD 193 3 I B o z] w'/\z=Y) ?_ ?_;refine sr (wp 1 (nq (ce (FK (σ:=Nat×LQ×Int×(ε Nat)×(ε Γ)×Nat) [0,2,3,4] (λ⟨s,a,c,p,r,d⟩=>[(3,(π r (γ a) d)),(4,(Δ .i64 c))]) (λ⟨s,a,c,p,r,d⟩ w'=>Hp w [] [bM eD 193 3 p r d a] w'/\ajs fu j s a c=θ Y) (λ⟨s,a,c,p,r,d⟩=>s) (fu,([]:LQ),(0:Int),ι,ι,0) (by exact⟨(Hp.cX hH eD 193 3 ι).kp,a6⟩) ?_ (mc aK (mc aK (mc (eU (b:=(π ι 0 0)) aK (NJ (by(try simp only[gD])<;>first|rfl|omega|simp))) (mc aK Τ))))))));rintro⟨_|s,a,c,p,r,d⟩ e5 G ⟨M,m⟩
 ·exact absurd (show ι=θ _ from m) aA2
 rw[axc,als]at m;refine cs (sr (wp 4 (nq (cd m (λc1 m=> ?_) (λc1 m=> ?_)))));refine ck (qn (bi m λb8 g m=>cut (σ:=LQ×(ε Nat)×(ε Γ)×Nat) [0,2,3,4] (λ⟨y,H,E,q⟩=>[(3,(π E (γ y) q))]) (λ⟨y,H,E,q⟩ w'=>Hp w [] [bM eD 193 3 H E q y] w'/\y=b8) ?_ ?_));refine ce (sr (wp 3 (nq (bi g λl a5 g=>nS M [0,2,3,4,5] [(5,(Δ .i64 l))] ?_ ?_))));refine ce (P3 (λV f=>anc fu j a c V f) (γ a:Int) M a5 [0,2,3,4,5] (λf=>[(5,(Δ .i64 f))]) (λ_=>rfl) ?_);rintro V f e4 G L n;rw[axb,arp]at n;refine cs (bi n λb5 i n=>nS L [0,2,3,4,5,30] [(30,(υ b5))] ?_ ?_);by_cases N:(0:Int)<f;replace i:=LX N i;refine gi i λd5 i=>gi i λd4 i=>gi i λd3 i=>gi i λd2 i=>gi i λd1 i=>YX 14 (λj_ w_ F=>eI [7,8,14,15] (λw'=>Rd w' r (Η eD a)) j_ w_ F/\eI [14,15] (λw'=>Rd w' r (Η eD a)) j_ w_ F/\eI [12,13,14,15] (λw'=>Rd w' A (Η eD j)) j_ w_ F/\eI [14,15] (λw'=>Rd w' A (Η eD j)) j_ w_ F/\True) (Zz18) (λ_ _=>⟨eI.same,eI.same,eI.same,eI.same,trivial⟩) aK aK L Τ (uT (Hr (uT (yG (uT (yG (uT (uT (yG (uT XX)))))))))) λe3 x=>rp 12 [0,1] (rt 2 (υ μ) Τ Τ (qU Τ (by intro w C;exact eU (b:=Result.ok (Next.value (.bool (decide ((0:Int)<f)))) w) aK (bA (λb=>Result.ok (Next.value (.bool b)) w) (aE N)))) (rp 9 [3,4] (rt 5 (Δ .i64 (f-(1:Int))) Τ Τ (oG 17 aK aK aK (by intro w C;exact(oH f (1:Int) aK aK d5))) ?_)));refine BU [μ,μ,μ,μ,μ,μ,μ,ν,ν,ν,ν,ν,ν,ν,ν,ν] 6 21 (φ (θ (ea r ((f-(1:Int)).toNat*3)))) [7,8,14,15] (λ_ _ _ h=>h.1) _ Τ Τ aK aK aK aK aK Τ (oG 17 aK aK aK (by intro w C;exact(Tw r (γ a) d 193 3 .i64 (f-(1:Int)) underlying144 aK aK aK a Τ d4 C IW aA1))) (by exact(x.gL 0 Τ)) (rt 7 (φ (θ (ea r ((f-(1:Int)).toNat*3+0)))) Τ Τ (oG 17 aK aK aK (by intro w C;exact(Kk r ((f-(1:Int)).toNat*3) 0 aK aK))) (BU [μ,μ,μ,μ,μ,μ,μ,μ,μ,ν,ν,ν,ν,ν,ν,ν] 8 23 (str ((el a (f-(1:Int))).1)) [14,15] (λ_ _ _ h=>h.2.1) _ Τ Τ aK aK aK aK aK Τ (oG 17 aK aK aK (by intro w C;exact(CT r eD a 3 (f-(1:Int)) 0 IW C (str ((el a (f-(1:Int))).1)) d3 aA1 aK aK aK))) (by exact(x.gL 0 Τ)) (rp 3 [9,10] (BU [μ,μ,μ,μ,μ,μ,μ,μ,μ,μ,μ,μ,ν,ν,ν,ν] 11 26 (φ (θ (ea A (c.toNat*3)))) [12,13,14,15] (λ_ _ _ h=>h.2.2.1) _ Τ Τ aK aK aK aK aK Τ (oG 17 aK aK aK (by intro w C;exact(Tw A (γ j) O 193 3 .i64 c underlying144 aK aK aK j Τ d2 C IW aA1))) (by exact(J.hp x)) (rt 12 (φ (θ (ea A (c.toNat*3+0)))) Τ Τ (oG 17 aK aK aK (by intro w C;exact(Kk A ((c).toNat*3) 0 aK aK))) (BU [μ,μ,μ,μ,μ,μ,μ,μ,μ,μ,μ,μ,μ,μ,ν,ν] 13 28 (str ((el j c).1)) [14,15] (λ_ _ _ h=>h.2.2.2.1) _ Τ Τ aK aK aK aK aK Τ (oG 17 aK aK aK (by intro w C;exact(CT A eD j 3 c 0 IW C (str ((el j c).1)) d1 aA1 aK aK aK))) (by exact(J.hp x)) (SL aK (wp 2 (wl ?_)))))))));refine ql ?_;obtain rfl:=oi i;exact je x.kp;replace i:=LY N i;refine YX 14 (λj_ w_ F=>eI [7,8,14,15] (λw'=>Rd w' r (Η eD a)) j_ w_ F/\eI [14,15] (λw'=>Rd w' r (Η eD a)) j_ w_ F/\eI [12,13,14,15] (λw'=>Rd w' A (Η eD j)) j_ w_ F/\eI [14,15] (λw'=>Rd w' A (Η eD j)) j_ w_ F/\True) (Zz18) (λ_ _=>⟨eI.same,eI.same,eI.same,eI.same,trivial⟩) aK aK L Τ (uT (Hr (uT (yG (uT (yG (uT (uT (yG (uT XX)))))))))) λe2 a9=>rp 12 [0,1] (rt 2 (υ ν) Τ Τ (qU Τ (by intro w C;exact eU (b:=Result.ok (Next.value (.bool (decide ((0:Int)<f)))) w) aK (bA (λb=>Result.ok (Next.value (.bool b)) w) (aD N)))) (rp 0 [3,4,5,6,7,8,9,10,11,12,13] (SL aK (wp 2 (wl (ql ?_))))));obtain rfl:=oi i;exact je a9.kp;intro e1 G U;refine cb n (λc0 n=> ?_) (λc0 n=> ?_);refine ck (qn (ce (cr (wp 1 (gi n λd0 n=>oL f (1:Int) aK aK d0 (wp 1 (wl (bn ?_))))))));exact ql (le' (f-(1:Int)) U.kp n);refine Fu (Fx (Fw (Ft (ql ?_))));obtain rfl:=oi n;exact je U.kp;intro b4 G T;refine sr (wp 1 (nq (sr (wp 3 (gi g λc9 g=>B6 r (γ a) d 193 3 .i64 l underlying144 aK aK aK a Τ c9 (T.Gy 0 Τ) ?_)))));have D:=T.cX eD 193 3 ι;replace D:Hp w [] [bM eD 193 3 ι ι 0 ([]:LQ),bM eD 193 3 p r d a] b4:=D;refine gi g λc8 g=>NK D 0 ι ι r 0 d 193 3 40 ([]:LQ) (List.take (Int.toNat l) a) IW Τ underlying144 aB0 aA1 aA1 (eU (b:=(π ι 0 0)) aK (NJ aA9)) (eU (b:=(π r (Int.toNat l) d)) aK (NJ aA9)) (Rd.takeT IW (Int.toNat l) (D.gL 1 Τ)) c8 λX a2 Q b3 u=> ?_;replace u:Hp w [] [bM eD 193 3 X a2 Q (([]:LQ)++(List.take (Int.toNat l) a)),bM eD 193 3 p r d a] b3:=u;refine wp 1 (nq (sr (wp 3 (gi g λc7 g=>Qj A (γ j) O 193 3 .i64 c underlying144 aK aK aK j Τ c7 (J.hp u) IW aA1 (gi g λc6 g=>Gq A eD j 3 c IW (J.hp u) (wu j c) c6 aK aK aK aK aA1 ?_)))));refine jS u (wu j c) 193 (λb=>(π (dG b) 1 1)) Τ Τ aK λR e0 S=>gi g λc5 g=>NK S 1 X a2 (dG R) Q 1 193 3 40 (([]:LQ)++(List.take (Int.toNat l) a)) ([((el j c).1,(el j c).2.1,((el j c).2.2))]:LQ) IW Τ underlying144 aB0 aA1 aA1 aK (eU (b:=(π (dG R) 1 1)) aK (NJ aA9)) (S.fQ 0 Τ) c5 λW a1 P b2 t=> ?_;replace t:Hp w [] [aY R (wu j c) 193,bM eD 193 3 W a1 P ((([]:LQ)++(List.take (Int.toNat l) a))++([((el j c).1,(el j c).2.1,((el j c).2.2))]:LQ)),bM eD 193 3 p r d a] b2:=t;refine wp 1 (nq (cr (wp 3 (gi g λc4 g=>B7 r (γ a) d 193 3 .i64 l underlying144 aK aK aK a Τ c4 (gi g λc3 g=>NK t 1 W a1 (F8 r d (Int.toNat l) 3) P (d-(Int.toNat l)) 193 3 40 ((([]:LQ)++(List.take (Int.toNat l) a))++([((el j c).1,(el j c).2.1,((el j c).2.2))]:LQ)) (List.drop (Int.toNat l) a) IW Τ underlying144 aB0 aA1 aA1 aK (eU (b:=(π (F8 r d (Int.toNat l) 3) (γ a-(Int.toNat l)) _)) aK (NJ aA9)) (Rd.By IW d _ (tN (Nat.le_of_eq Τ) (t.Gy 2 Τ)) (t.gL 2 Τ)) c3 λb6 d6 Z b1 K=> ?_)))));replace K:Hp w [] _ b1:=K;refine wp 1 (wl (bn (ql ?_)));obtain rfl:=oi g;exact⟨((([]++(List.take _ a))++[((el j c).1,(el j c).2.1,((el j c).2.2))])++(List.drop _ a),b6,d6,Z),_,Τ,by kernel_rfl,(Hp.front K 1 _ Τ).kp,Τ⟩;rintro⟨y,H,E,q⟩ d9 G ⟨a8,rfl⟩;refine cr (wp 1 (gi m λc2 m=>Cw c (1:Int) aK aK c2 (wp 1 (wl (ql ?_)))));exact⟨(s,y,c+(1:Int),H,E,q),_,Τ,by kernel_rfl,⟨a8.kp,m⟩,bZ _⟩;refine Fu (Fx (Fw (Ft (ql ?_))));obtain rfl:=oi m;exact⟨(a,p,r,d),_,Τ,by kernel_rfl,M.kp,Τ⟩;rintro⟨z,I,B,o⟩ d8 G ⟨a7,rfl⟩;refine sr (wp 2 (nq (ct ?_)));obtain rfl:=oi hr;refine pT (π B (γ z) o) Τ aK ?_;exact⟨I,B,o,iK,a7.kp⟩
noncomputable def aux(fu:Nat):=kl func176 ⟨[.r' kZ],[.r' dI],λx=>.one (ee fu x)⟩ (uN (e:=193) (b:=40) (t:=.pr .s' (.pr .s' .b')) (λx=>x) (λy=>y) λw S x y a n cap h c d g f=>Gb a n cap c h.1 d g f)
section
variable(fu:Nat)
noncomputable def sG:=kf fu func280 [aux fu,bfb fu,agq fu,afr fu,ati fu,qF fu] [.p' 270 (.pr .s' (.pr Μ (.pr Μ .c'))),.c',.c',.s',.i' .i64] [.r' dI,.o' 0 270 (.pr .s' (.pr Μ (.pr Μ .c')))] (λx=>BY fu x.1 x.2.1 x.2.2.1 x.2.2.2.1 x.2.2.2.2) (Λ (Λ (Λ (.j' [.s' 11 dI,.o' 0 0 (.s'),.o' 0 1 Μ,.o' 0 2 Μ,.o' 0 3 (.c')] [] (.l' [.s' 11 dI,.s' 12 (.c'),.o' 0 0 (.s'),.o' 0 1 Μ,.o' 0 2 Μ,.o' 0 3 (.c')] (Λ (Λ (Λ (Λ (Λ (Λ (.j' [.o' 0 0 (.s'),.o' 0 1 Μ,.o' 0 2 Μ,.o' 0 3 (.c')] [] .n' .n')))))))) .n'))))
noncomputable def axl:=kf fu func281 [axm fu,agq fu,bcl fu,afr fu,ati fu] [.p' 270 (.pr .s' (.pr Μ (.pr Μ .c')))] [.r' (.s'),.o' 0 270 (.pr .s' (.pr Μ (.pr Μ .c')))] (λx=>afb fu x) (Λ (Λ (Λ (Λ (Λ (.r' [.s' 6 (.l' 5 1 .c')] [] (Λ (.l' [.s' 6 (.l' 5 1 .c'),.s' 7 Μ] (Λ (.s' (Λ (.j' [.s' 54 (.b')] [0,2,14] .n' .n')) .n')))) (Λ (.j' [.s' 9 Μ] [] .n' (.j' [.o' 0 0 (.s'),.o' 0 1 Μ,.o' 0 2 Μ,.o' 0 3 (.c')] [] .n' (.j' [.o' 0 0 (.s'),.o' 0 1 Μ,.o' 0 2 Μ,.o' 0 3 (.c')] [] .n' .n'))))))))))
noncomputable def Nu:=kf fu func256 [ef fu,agq fu,sE fu,sH fu,sF fu,sG fu,axl fu] [.s'] [.r' (.pr .s' (.pr .s' (.pr .s' (.pr Μ (.pr dI dI))))),.r' Μ,.r' (.c')] (λx=>bfk fu x) (Λ (Λ (Λ (Λ (Λ (Λ (Λ (.r' [.o' 14 0 (.s'),.o' 14 1 Μ,.o' 14 2 Μ,.o' 14 3 (.c'),.o' 7 1 (.s'),.o' 7 2 (.s'),.o' 7 3 Μ,.o' 7 4 dI,.o' 7 5 dI] [] (Λ (.j' [.s' 37 (.b')] [] .n' .n')) .n'))))))))
noncomputable def Nw:=kf fu func235 [] [.s',.i' .i64,.c'] [.r' Μ,.r' (.c')] (λx=>bll fu x.1 x.2.1 x.2.2) (Λ (.s' (.j' [.s' 15 (.b')] [0,1,2] .n' .n') (.s' (.j' [.s' 26 (.b')] [0,1,3,4] .n' .n') .n')))
noncomputable def Tc:=kf fu func236 [ami fu] [.s',.i' .i64] [.r' Μ,.r' Μ,.r' (.c')] (λx=>bip fu x.1 x.2) (Λ (Λ (Λ (Λ (Λ (.s' (.j' [.s' 40 (.b')] [0,1,2,3,4,5] .n' .n') .n'))))))
noncomputable def bdz:=kf fu func187 [Nw fu,Tc fu] [.s',.i' .i64] [.r' (.s'),.r' Μ,.r' (.c')] (λx=>aqa fu x.1 x.2) (Λ (Λ (Λ (Λ (Λ (.l' [.s' 9 (.l' 5 1 .c'),.s' 10 Μ] (Λ (Λ (.s' (.j' [.s' 44 (.b')] [0,1,2] .n' .n') .n')))))))))
noncomputable def No:=kf fu func233 [akw fu,avi fu,bdz fu] [.s',.i' .i64] [.r' (.s'),.r' Μ,.r' (.c')] (λx=>bfg fu x.1 x.2) (Λ (.s' (.j' [.s' 20 (.b')] [0,1,3,4] .n' .n') (.r' [] [] (.j' [.s' 36 (.b')] [0,1,3,4] .n' (.s' (Λ (.j' [.s' 7 Μ] [] (.l' [.s' 7 Μ] (.s' (.j' [.s' 47 (.b')] [0,1,3,4] .n' .n') .n')) .n')) .n')) .n')))
noncomputable def bgd:=kf fu func181 [akw fu,we fu,ef fu,bfb fu,No fu] [.s'] [.r' dI,.r' Μ,.r' (.c')] (λx=>aoe fu x) (Λ (Λ (Λ (.r' [.s' 5 dI] [] (.l' [.s' 5 dI,.s' 6 Μ] (Λ (Λ (Λ (Λ (Λ (Λ (Λ (.r' [.s' 6 Μ,.o' 9 1 (.s'),.o' 9 2 (.b')] [] (.j' [.s' 54 (.b')] [0,1,3,4] .n' .n') .n'))))))))) .n'))))
noncomputable def vY:=kf fu func221 [bgd fu,Nu fu] [.s',.s',.i' .i64,.i' .i64,.i' .i64] [.r' (.pr .s' (.pr (.pr .s' (.pr .s' (.pr .s' (.pr Μ (.pr dI dI))))) dI)),.r' Μ,.r' (.c')] (λx=>azp fu x.1 x.2.1 x.2.2.1 x.2.2.2.1 x.2.2.2.2) (.n')
noncomputable def Tb:=kf fu func219 [anz fu,vY fu] [.s',.i' .i64] [.r' (.pr .s' (.pr (.pr .s' (.pr .s' (.pr .s' (.pr Μ (.pr dI dI))))) dI)),.r' Μ,.r' (.c')] (λx=>bim fu x.1 x.2) (Λ (Λ (.j' [.s' 7 Μ] [] (.l' [.s' 7 Μ] (.s' (.j' [.s' 26 (.b')] [0,1,3,4,10] .n' .n') .n')) (.r' [] [] (Λ (.l' [.s' 8 Μ] (Λ (.s' (.j' [.s' 44 (.b')] [0,1,2,3,4] .n' .n') .n')))) .n'))))
noncomputable def Ei:=kf fu func220 [akw fu,we fu,bdz fu] [.s',.i' .i64,.i' .i64] [.r' (.s'),.r' Μ,.r' Μ,.r' (.c')] (λx=>bbe fu x.1 x.2.1 x.2.2) (Λ (.s' (Λ (.s' (Λ (Λ (Λ (.s' (.j' [.s' 42 (.b')] [0,1,3,4] .n' .n') .n')))) .n')) (Λ (.r' [.s' 13 (.s')] [] (.l' [.s' 1 Μ,.s' 13 (.s')] (Λ (Λ (Λ (.j' [.s' 13 (.s')] [] .n' .n'))))) .n'))))
noncomputable def qH:=kf fu func173 [we fu,Nr fu,Tb fu,Ei fu,vY fu] [.s'] [.r' (.pr .s' (.pr (.pr .s' (.pr .s' (.pr .s' (.pr Μ (.pr dI dI))))) dI)),.r' Μ,.r' (.c')] (λx=>akg fu x) (Λ (Λ (Λ (Λ (.s' (.j' [.s' 34 (.b')] [0,1,2] .n' .n') .n')))))
noncomputable def Eg:=kf fu func138 [qv fu,qH fu] [.s'] [.r' (.pr .s' (.pr (.pr .s' (.pr .s' (.pr .s' (.pr Μ (.pr dI dI))))) dI)),.r' (.c')] (λx=>bbb fu x) (.n')
noncomputable def biz:=kf fu func226 [ami fu] [.s'] [.r' (.b')] (λx=>vv fu x) (Λ (.r' [] [] (Λ (.l' [.s' 3 Μ] .n')) .n'))
noncomputable def Np:=kf fu func257 [biz fu,bfb fu] [.r' kZ,.i' .i64] [.r' (.b')] (λx=>bbc fu x.1 x.2) (Λ (.r' [] [] (Λ (.l' [.s' 5 Μ] (Λ (.s' (Λ (.j' [.s' 67 (.b')] [] .n' .n')) .n')))) .n'))
noncomputable def Eh:=kf fu func258 [ef fu,aux fu] [.r' kZ] [.r' dI] (λx=>avc fu x) (Λ (Λ (.j' [.s' 3 dI] [] (Λ (.l' [.s' 3 dI,.s' 4 Μ] .n')) .n')))
noncomputable def uW:=kf fu func259 [axl fu] [.s'] [.r' (.b')] (λx=>att fu x) (Λ (Λ (Λ (.j' [.s' 2 (.b')] [0,2,4,5,10] .n' .n'))))
noncomputable def Ip:=kf fu func222 [ef fu,avi fu,biz fu,Np fu,Eh fu,uW fu] [.pr .s' (.pr .s' (.pr .s' (.pr Μ (.pr (.r' kZ) (.r' kZ)))))] [.r' (.pr .s' (.pr .s' (.pr .s' (.pr Μ (.pr dI dI))))),.r' (.c')] (λx=>bdc fu x) (Λ (Λ (.s' (.j' [.s' 25 (.b')] [0,3,4,10] .n' .n') (Λ (Λ (.s' (Λ (.j' [.s' 37 (.b')] [] .n' (.s' (Λ (.s' (.j' [.s' 57 (.b')] [0,1,2,7] .n' .n') .n')) (Λ (.s' (.j' [.s' 82 (.b')] [0,2,3,8,14] .n' .n') .n'))))) .n'))))))
noncomputable def pX:=kf fu func224 [Hh fu] [.s',.i' .i64] [.r' (.s')] (λx=>aof fu x.1 x.2) (Λ (Λ (.j' [.s' 5 (.l' 5 1 .c')] [] (Λ (.l' [.s' 5 (.l' 5 1 .c'),.s' 6 Μ] .n')) .n')))
noncomputable def Nn:=kf fu func223 [pX fu] [.r' kZ,.s',.s',.i' .i64] [.r' (.s')] (λx=>vw fu x.1 x.2.1 x.2.2.1 x.2.2.2) (Λ (Λ (Λ (.j' [.s' 9 (.s')] [] (Λ (.l' [.s' 9 (.s'),.s' 10 (.s'),.s' 11 Μ] .n')) .n'))))
end
noncomputable def bee(fu:Nat):yO:=⟨[.i' .i64],[.r' (.s')],λx=>.one (qy fu x)⟩
theorem nR:Go.Wk.Enters CK.P 225:=⟨Tryz.f225,_,func225,Τ,by kernel_rfl⟩
theorem Fh(fu:Nat):Tq CK.P CK.GS 225 (bee fu):=by
 induction fu with
 |zero=>intro w S c L d x y _ _ _ _ b;cases b
 |succ fu a=>exact(kf fu func225 [⟨225,bee fu,nR,a⟩] [.i' .i64] [.r' (.s')] (λx=>qy (fu+1) x) (.n')).ok
noncomputable def Ej(fu:Nat):CK.K:=⟨225,bee fu,nR,Fh fu⟩
section
variable(fu:Nat)
noncomputable def Nt:=kf fu func174 [Ip fu,Nn fu,pX fu,Ej fu] [.pr .s' (.pr .s' (.pr .s' (.pr Μ (.pr (.r' kZ) (.r' kZ)))))] [.r' (.s'),.r' (.c')] (λx=>bfj fu x) (Λ (Λ (Λ (Λ (Λ (.j' [.s' 6 (.s')] [] .n' (Λ (.j' [.s' 6 (.s')] [] .n' .n'))))))))
noncomputable def xP:=kf fu func228 [avi fu] [.s'] [.r' (.b')] (λx=>apz fu x) (Λ (Λ (.j' [.s' 2 (.b')] [0,1,6,11] .n' .n')))
noncomputable def sI:=kf fu func177 [ami fu] [.s'] [.r' (.s'),.r' (.c')] (λx=>bbh fu x) (Λ (Λ (.r' [.s' 4 (.l' 5 1 .c')] [] (Λ (.l' [.s' 4 (.l' 5 1 .c'),.s' 5 Μ] (Λ (.s' (Λ (.j' [.s' 4 (.l' 5 1 .c')] [] (.j' [.s' 26 (.b')] [0,1,2,3,4] .n' .n') .n')) .n')))) .n')))
noncomputable def axa:=kf fu func175 [axn fu,ef fu,sI fu,biz fu,bfb fu,xP fu] [.r' kZ] [.r' (.s'),.r' (.c')] (λx=>aim fu x) (Λ (Λ (.r' [.s' 4 (.s')] [] (Λ (.l' [.s' 4 (.s'),.s' 5 Μ] (Λ (.s' (Λ (.s' (.j' [.s' 55 (.b')] [] .n' .n') (Λ (.j' [.s' 72 (.b')] [0,2] .n' .n')))) .n')))) .n')))
noncomputable def qG:=kf fu func139 [Nt fu,axa fu,aux fu,sI fu] [.pr .s' (.pr (.pr .s' (.pr .s' (.pr .s' (.pr Μ (.pr (.r' kZ) (.r' kZ)))))) (.r' kZ))] [.r' (.s'),.r' (.c')] (λx=>aot fu x) (Λ (Λ (Λ (Λ (.s' (.j' [.s' 38 (.b')] [0,1,2,6] .n' .n') .n')))))
noncomputable def sB:=kf fu func178 [] [.s'] [.r' (.s')] (λx=>avs fu x) (Λ (Λ (.j' [.w' 3 (.y')] [] (Λ (.l' [.w' 3 (.y'),.s' 4 Μ] (Λ (.s' (.j' [.s' 24 (.b')] [0,1,4,5] .n' .n') .n')))) .n')))
noncomputable def Sv:=kf fu func180 [bac fu] [.s'] [.r' Μ,.r' (.c')] (λx=>bic fu x) (Λ (Λ (.s' (.j' [.s' 20 (.b')] [0,1,2] .n' .n') .n')))
noncomputable def AK:=kf fu func182 [vZ fu] [.r' kZ,.s'] [.r' (.s'),.r' (.b')] (λx=>bgz fu x.1 x.2) (.n')
noncomputable def AI:=kf fu func140 [akw fu,we fu,anz fu,qv fu,sB fu,avi fu,Sv fu,bgd fu,AK fu] [.s'] [.r' (.pr .s' (.pr .s' (.pr Μ (.pr .s' dI)))),.r' (.c')] (λx=>bli fu x) (Λ (Λ (Λ (Λ (.s' (.j' [.s' 44 (.b')] [0,2,3,9,13] .n' .n') (Λ (.j' [.s' 7 Μ] [] (.l' [.s' 7 Μ] (.s' (.j' [.s' 63 (.b')] [0,1,3,4,10] .n' .n') .n')) (Λ (.j' [.s' 8 Μ] [] (Λ (.l' [.s' 8 Μ,.s' 9 Μ] (Λ (.s' (.j' [.s' 8 Μ] [] .n' .n') .n')))) (Λ (Λ (Λ (.r' [.o' 12 2 Μ] [] .n' .n')))))))))))))
end
noncomputable def bed(fu:Nat):yO:=⟨[.i' .i64],[.r' (.s')],λx=>.one (ZD fu x)⟩
theorem nQ:Go.Wk.Enters CK.P 28:=⟨Tryz.f28,_,func28,Τ,by kernel_rfl⟩
theorem Fg(fu:Nat):Tq CK.P CK.GS 28 (bed fu):=by
 induction fu with
 |zero=>intro w S c L d x y _ _ _ _ b;cases b
 |succ fu a=>exact(kf fu func28 [⟨28,bed fu,nQ,a⟩] [.i' .i64] [.r' (.s')] (λx=>ZD (fu+1) x) (.n')).ok
noncomputable def nH(fu:Nat):CK.K:=⟨28,bed fu,nQ,Fg fu⟩
section
variable(fu:Nat)
noncomputable def Ax:=kf fu func141 [nH fu,axn fu,axa fu,aux fu,sB fu,avi fu] [.pr .s' (.pr .s' (.pr Μ (.pr .s' (.r' kZ))))] [.r' (.s'),.r' (.c')] (λx=>ayf fu x) (Λ (Λ (.s' (.j' [.s' 34 (.b')] [0,3,4,8,13] .n' .n') (Λ (.j' [.s' 6 dI] [] (Λ (.l' [.s' 6 dI,.s' 7 Μ] .n')) (.j' [.s' 6 dI] [] .n' .n'))))))
noncomputable def sC:=kf fu func183 [we fu,anz fu,qv fu,bac fu] [.s'] [.r' Μ,.r' (.s'),.r' (.c')] (λx=>bax fu x) (Λ (Λ (Λ (.j' [.s' 6 Μ] [] (.l' [.s' 6 Μ] (.s' (.j' [.s' 21 (.b')] [0,1,3,4] .n' .n') .n')) .n'))))
noncomputable def vX:=kf fu func142 [axn fu,sC fu] [.s'] [.r' Μ,.r' (.s'),.r' (.c')] (λx=>bdp fu x) (.n')
noncomputable def Sx:=kf fu func143 [vX fu,sC fu] [.s'] [.r' Μ,.r' Μ,.r' (.s'),.r' (.c')] (λx=>bie fu x) (.n')
noncomputable def Ik:=kf fu func144 [qv fu,bac fu] [.s'] [.r' Μ,.r' (.c')] (λx=>bcz fu x) (.n')
noncomputable def nG:=kf fu func185 [akw fu] [.s'] [.r' Μ] (λx=>avb fu x) (Λ (Λ (.s' (.j' [.s' 20 (.b')] [0,1,2,8] .n' .n') .n')))
noncomputable def Ta:=kf fu func145 [qv fu,bgd fu,nG fu] [.s'] [.r' (.pr .s' dI),.r' (.c')] (λx=>bij fu x) (.n')
noncomputable def xO:=kf fu func146 [axa fu,aux fu,nG fu] [.pr .s' (.r' kZ)] [.r' (.s'),.r' (.c')] (λx=>avv fu x) (Λ (Λ (.s' (.j' [.s' 28 (.b')] [] .n' .n') .n')))
noncomputable def Su:=kf fu func109 [nH fu,ami fu,vW fu,Eg fu,qG fu,AI fu,Ax fu,vX fu,Sx fu,Ik fu,Ta fu,xO fu] [.s',.s'] [.r' (.s'),.r' (.c')] (λx=>bdo fu x.1 x.2) (Λ (.s' (Λ (Λ (.s' (.s' (.j' [.s' 31 (.b')] [0,1,2] .n' .n') .n') (Λ (Λ (Λ (Λ (Λ (Λ (Λ (Λ (.j' [.s' 108 (.b')] [] .n' .n')))))))))))) (.r' [] [] (Λ (.l' [.s' 21 Μ] .n')) .n')))
noncomputable def Nv:=kf fu func186 [we fu,qv fu] [.s',.i' .i64,.i' .i64] [.r' (.pr Μ .s')] (λx=>bbf fu x.1 x.2.1 x.2.2) (.n')
noncomputable def Ny:=kf fu func147 [anz fu,Nv fu,bdz fu] [.s',.c'] [.r' (.l' 68 24 (.pr Μ .s')),.r' Μ,.r' (.c')] (λx=>bfl fu x.1 x.2) (Λ (.s' (.j' [.s' 26 (.b')] [0,2,6,10] .n' .n') (Λ (Λ (.r' [.s' 7 (.l' 68 24 (.pr Μ .s')),.s' 8 Μ] [] (.l' [.s' 7 (.l' 68 24 (.pr Μ .s')),.s' 8 Μ,.s' 9 Μ] (Λ (Λ (Λ (Λ (Λ (Λ (Λ (Λ (Λ (.s' (.j' [.s' 9 Μ] [] (.l' [.s' 9 Μ] (.s' (.j' [.s' 78 (.b')] [0,1,3,4] .n' .n') .n')) .n') .n'))))))))))) .n')))))
noncomputable def Sz:=kf fu func110 [Ny fu] [.s'] [.r' (.l' 9 16 .s'),.r' (.c')] (λx=>bii fu x) (Λ (Λ (Λ (Λ (.r' [.s' 7 (.l' 9 16 .s')] [] (Λ (.l' [.s' 7 (.l' 9 16 .s'),.s' 8 Μ] .n')) .n')))))
noncomputable def Sw:=kf fu func81 [qv fu,biy fu,Sy fu,Su fu,Sz fu] [.s',.s'] [.r' (.s'),.r' (.c')] (λx=>bid fu x.1 x.2) (Λ (Λ (Λ (Λ (Λ (Λ (Λ (.r' [.s' 9 (.s')] [] (Λ (.l' [.s' 9 (.s'),.s' 10 Μ] (Λ (.s' (Λ (Λ (.j' [.s' 9 (.s')] [] .n' .n'))) .n')))) .n'))))))))
noncomputable def Ij:=kf fu func49 [biy fu,Sw fu] [.pr .s' .s',.i' .i64] [.r' (.pr .s' .s'),.r' (.c')] (λx=>bcy fu x.1 x.2) (Λ (Λ (Λ (Λ (Λ (Λ (.s' (.j' [.s' 41 (.b')] [0,2,3] .n' .n') .n')))))))
noncomputable def Sr:=kf fu func42 [Ij fu,qv fu] [.s',.i' .i64] [.r' (.pr .s' .s'),.r' (.c')] (λx=>bdn fu x.1 x.2) (Λ (.r' [] [] (Λ (.l' [.s' 6 Μ] .n')) .n'))
noncomputable def Ss:=kf fu func43 [] [.pr .s' (.pr .s' (.pr Μ (.pr .s' (.pr (.r' (.pr .s' .s')) (.r' .c'))))),.pr .s' (.pr .s' (.pr Μ (.pr .s' (.pr (.r' (.pr .s' .s')) (.r' .c')))))] [.r' (.b')] (λx=>pM fu x.1 x.2) (Λ (.s' (.j' [.s' 49 (.b')] [0,2,4,5,12,19,26,35] .n' .n') (.r' [] [] (Λ (.l' [.s' 5 Μ] .n')) .n')))
noncomputable def Aw:=kf fu func20 [Ss fu] [.pr (.r' (.pr .s' .s')) (.r' .c'),.pr (.r' (.pr .s' .s')) (.r' .c')] [.r' (.b')] (λx=>ase fu x.1 x.2) (.n')
noncomputable def El:=kf fu func21 [LP,bgf fu,bbx fu] [.pr (.r' (.pr .s' .s')) (.r' .c')] [.r' (.pr (.l' 49 32 (.pr .s' .s')) (.l' 5 1 .c')),.r' (.b')] (λx=>bhf fu x) (Λ (.s' (Λ (.z' .n')) (Λ (.j' [.o' 4 0 (.l' 49 32 (.pr .s' .s'))] [] (Λ (.l' [.s' 21 Μ,.o' 4 0 (.l' 49 32 (.pr .s' .s'))] (Λ (Λ (.s' (Λ (Λ (.s' (Λ (.z' .n')) (.s' (Λ (Λ (.z' .n'))) .n')))) .n'))))) .n'))))
noncomputable def Ok:=kf fu func47 [] [.r' .c',.r' .c'] [.r' (.b')] (λx=>wM fu x.1 x.2) (.n')
noncomputable def xT:=kf fu func22 [Ok fu] [.r' .c',.r' .c'] [.r' (.b')] (λx=>bcu fu x.1 x.2) (Λ (.j' [.s' 4 (.b')] [0,2,4,5,13] .n' .n'))
end
open Go.Value renaming slice → Vs, int → Vi, bool → Vb, pointer → Vp
open Go.Value renaming agg → yS, tuple → Rn
open List renaming flatMap → oD
open Tryz
theorem bkj(d:aqj fu a=θ r)(f:Gl w):CR prog 14 [str a] w λv c=>v=.bool r/\Hp w [] [] c:=
 SM (x:=a) (y:=r) (Em fu).ok (λx=>[str x]) (λr=>.bool r) ⟨f,λb e=>by cases e⟩ d
theorem fR{r:(Int×(Int×η))×η}(f:aes fu a m c=θ r)(h:Gl w):CR prog 15 [str a,.int .i64 m,str c] w λv e=>v=.tuple #[.agg #[.int .i64 r.1.1,.int .i64 r.1.2.1,.bool r.1.2.2],.bool r.2]/\Hp w [] [] e:=
 SM (x:=(a,m,c)) (y:=r) (bky fu).ok (λx=>[str x.1,.int .i64 x.2.1,str x.2.2]) (λr=>.tuple #[.agg #[.int .i64 r.1.1,.int .i64 r.1.2.1,.bool r.1.2.2],.bool r.2]) ⟨h,λb g=>by cases g⟩ f
variable{d:(aC×aC)×ζ}
theorem vP(r:aqi fu a=θ d)(f:Gl w):CR prog 38 [str a] w λv c=>v=.tuple #[.agg #[str d.1.1,str d.1.2],bt d.2]/\Hp w [] [] c:=
 SM (x:=a) (y:=d) (xU fu).ok (λx=>[str x]) (λd=>.tuple #[.agg #[str d.1.1,str d.1.2],bt d.2]) ⟨f,λb e=>by cases e⟩ r
theorem beu(d:eh fu f=θ r)(a:Gl w):CR prog 57 [bt f] w λv c=>v=.bool r/\Hp w [] [] c:=
 SM (x:=f) (y:=r) (arf fu).ok (λx=>[bt x]) (λr=>.bool r) ⟨a,λb e=>by cases e⟩ d
theorem Iz{r:Int×η}(d:aru fu a=θ r)(f:Gl w):CR prog 60 [str a] w λv c=>v=.tuple #[.int .i64 r.1,.bool r.2]/\Hp w [] [] c:=
 SM (x:=a) (y:=r) (Nz fu).ok (λx=>[str x]) (λr=>.tuple #[.int .i64 r.1,.bool r.2]) ⟨f,λb e=>by cases e⟩ d
theorem qP(e:agk fu a c=θ r)(g:Gl w):CR prog 32 [str a,str c] w λv d=>v=.bool r/\Hp w [] [] d:=
 SM (x:=(a,c)) (y:=r) (bel fu).ok (λx=>[str x.1,str x.2]) (λr=>.bool r) ⟨g,λb f=>by cases f⟩ e
variable{i:Qy}
theorem Co(j:ε Γ)(f:Nat)(d:Nat)(h:ε Γ)(e:Nat)(g:Nat){r:(Qy×η)}(q:bhf fu i=θ r)(t:Gl w)(D:f=γ i.1)(C:Rd w j (oD oC i.1))(B:f<=d)(A:e=γ i.2)(z:Rd w h (oD eB i.2))(u:e<=g):CR prog 21 [(yS #[(Vs j f d),(Vs h e g)])] w λv w'=>∃(n:ε Nat),∃(l:ε Γ),∃(c:Nat),∃(m:ε Nat),∃(k:ε Γ),∃(a:Nat),v=(Rn #[(yS #[(Vs l (γ r.1.1) c),(Vs k (γ r.1.2) a)]),(Vb r.2)])/\Hp w [] [bM oC 49 2 n l c r.1.1,bM eB 5 1 m k a r.1.2] w':=
 W3 (x:=i) (y:=r) (El fu).ok [(j,f,d),(h,e,g)] [(yS #[(Vs j f d),(Vs h e g)])] 49 32 (.pr .s' .s') r.1.1 5 1 .c' r.1.2 (λl p c k o a=>(Rn #[(yS #[(Vs l p c),(Vs k o a)]),(Vb r.2)])) ⟨t,λb s=>by cases s⟩ q (.intro (.intro D (.intro C B)) (.intro (.intro A (.intro z u)) trivial))
variable{h:δ ζ}
theorem bhh{s_0:δ ζ}(g:ε Γ)(c:Nat)(f:Nat)(e:ε Γ)(a:Nat)(d:Nat)(i:bcu fu s_0 h=θ r)(k:Gl w)(q:c=γ s_0)(p:Rd w g (oD eB s_0))(o:c<=f)(n:a=γ h)(m:Rd w e (oD eB h))(l:a<=d):CR prog 22 [(Vs g c f),(Vs e a d)] w λv w'=>v=(Vb r)/\Hp w [] [] w':=
 HJ (x:=(s_0,h)) (y:=r) (xT fu).ok [(g,c,f),(e,a,d)] [(Vs g c f),(Vs e a d)] (Vb r) ⟨k,λb j=>by cases j⟩ i (.intro (.intro q (.intro p o)) (.intro (.intro n (.intro m l)) trivial))
theorem yK{a:Qy}(o:ε Γ)(g:Nat)(n:Nat)(m:ε Γ)(f:Nat)(l:Nat)(k:ε Γ)(e:Nat)(j:Nat)(c:ε Γ)(d:Nat)(h:Nat)(p:ase fu i a=θ r)(s:Gl w)(I:g=γ i.1)(H:Rd w o (oD oC i.1))(G:g<=n)(F:f=γ i.2)(E:Rd w m (oD eB i.2))(D:f<=l)(C:e=γ a.1)(B:Rd w k (oD oC a.1))(A:e<=j)(z:d=γ a.2)(u:Rd w c (oD eB a.2))(t:d<=h):CR prog 20 [(yS #[(Vs o g n),(Vs m f l)]),(yS #[(Vs k e j),(Vs c d h)])] w λv w'=>v=(Vb r)/\Hp w [] [] w':=
 HJ (x:=(i,a)) (y:=r) (Aw fu).ok [(o,g,n),(m,f,l),(k,e,j),(c,d,h)] [(yS #[(Vs o g n),(Vs m f l)]),(yS #[(Vs k e j),(Vs c d h)])] (Vb r) ⟨s,λb q=>by cases q⟩ p (.intro (.intro I (.intro H G)) (.intro (.intro F (.intro E D)) (.intro (.intro C (.intro B A)) (.intro (.intro z (.intro u t)) trivial))))
theorem Iv(d:bas fu a=θ r)(f:Gl w):CR prog 17 [str a] w λv c=>v=.bool r/\Hp w [] [] c:=
 SM (x:=a) (y:=r) (Nl fu).ok (λx=>[str x]) (λr=>.bool r) ⟨f,λb e=>by cases e⟩ d
theorem tJ{r:Int×Int×η}(f:ava fu a m c=θ r)(h:Gl w):CR prog 18 [str a,.int .i64 m,str c] w λv e=>v=.tuple #[.int .i64 r.1,.int .i64 r.2.1,.bool r.2.2]/\Hp w [] [] e:=
 SM (x:=(a,m,c)) (y:=r) (Sq fu).ok (λx=>[str x.1,.int .i64 x.2.1,str x.2.2]) (λr=>.tuple #[.int .i64 r.1,.int .i64 r.2.1,.bool r.2.2]) ⟨h,λb g=>by cases g⟩ f
variable{b:(eR×Int×ζ)}
theorem Gc(f:axz fu a=θ b)(h:Gl w):CR prog 41 [(str a)] w λv w'=>∃(d:ε Nat),∃(c:ε Γ),∃(r:Nat),v=(Rn #[(Vs c (γ b.1) r),(Vi .i64 b.2.1),(bt b.2.2)])/\Hp w [] [bM gZ 68 2 d c r b.1] w':=
 W4 (x:=a) (y:=b) (Iq fu).ok [] [(str a)] 68 24 (.pr (.i' .i64) .s') b.1 (λc e r=>(Rn #[(Vs c e r),(Vi .i64 b.2.1),(bt b.2.2)])) ⟨h,λk g=>by cases g⟩ f trivial
theorem Cm(f:XZ fu a m c=θ r)(h:Gl w):CR prog 29 [str a,.int .i64 m,str c] w λv e=>v=.bool r/\Hp w [] [] e:=
 SM (x:=(a,m,c)) (y:=r) (sA fu).ok (λx=>[str x.1,.int .i64 x.2.1,str x.2.2]) (λr=>.bool r) ⟨h,λb g=>by cases g⟩ f
theorem Ra(e:bdn fu a m=θ d)(g:Gl w):CR prog 42 [str a,.int .i64 m] w λv c=>v=.tuple #[.agg #[str d.1.1,str d.1.2],bt d.2]/\Hp w [] [] c:=
 SM (x:=(a,m)) (y:=d) (Sr fu).ok (λx=>[str x.1,.int .i64 x.2]) (λd=>.tuple #[.agg #[str d.1.1,str d.1.2],bt d.2]) ⟨g,λb f=>by cases f⟩ e
open Go.Wk Go.Px
open Go.Lib renaming cut → eF, index → cO, join → cK, trimPrefix → eH
open Int renaming toNat → bL
open List renaming drop → cC, set → jH, take → eN
theorem ent32:Wk.Enters prog 32:=⟨f32,_,func32,Τ,aK⟩
theorem ent33:Wk.Enters prog 33:=⟨f33,_,func33,Τ,aK⟩
theorem ent36:Wk.Enters prog 36:=⟨f36,_,func36,Τ,aK⟩
theorem ent37:Wk.Enters prog 37:=⟨f37,_,func37,Τ,aK⟩
theorem ent38:Wk.Enters prog 38:=⟨f38,_,func38,Τ,aK⟩
theorem ur:Wk.Enters prog 57:=⟨f57,_,func57,Τ,aK⟩
theorem ent60:Wk.Enters prog 60:=⟨f60,_,func60,Τ,aK⟩
theorem ent61:Wk.Enters prog 61:=⟨f61,_,func61,Τ,aK⟩
theorem uq:Wk.Enters prog 62:=⟨f62,_,func62,Τ,aK⟩
theorem ent63:Wk.Enters prog 63:=⟨f63,_,func63,Τ,aK⟩
theorem ent88:Wk.Enters prog 88:=⟨f88,_,func88,Τ,aK⟩
theorem yL(k:asm fu a=θ c)(h:Gl w):CR prog 61 [(str a)] w λv w'=>∃(d:Nat),v=(Θ (.func 88) #[] #[(Vp (dG d))])/\Hp w [] [aY d [(str c)] 9] w':=by have e:=Hp.refl w;refine enter func61 Τ Τ iJ ?_;unfold asm at k;refine sr (jS e [(str a)] 9 (λb=>(Vp (dG b))) Τ Τ aK λr g f=>wp 1 (nq (sr (wp 2 (wl ?_)))));refine qn (ct ?_);obtain rfl:=oi k;refine pT (Θ (.func 88) #[] #[(Vp (dG r))]) Τ aK ?_;exact⟨r,iK,f.kp⟩
theorem axh{i:δ aC}{h:eR}(c:Nat)(g:Loop)(f:Nat)(D:ε Nat)(t:ε Γ)(s:Nat)(e:Nat)(C:ε Nat)(q:ε Γ)(p:Nat)(d:Nat){r:((δ aC)×eR×Nat)}(P:acs fu i h a=θ r)(hG:Gl w)(hM:Hp w (eP [eC c 0 g,aY f [(Vs t (γ i) s)] 89,aY e [(Vs q (γ h) p)] 64,aY d [(str a)] 9,bM eS 9 1 D t s i,bM gZ 68 2 C q p h]) [eC c 0 g,aY f [(Vs t (γ i) s)] 89,aY e [(Vs q (γ h) p)] 64,aY d [(str a)] 9,bM eS 9 1 D t s i,bM gZ 68 2 C q p h] w)(hS:∀b∈eP [eC c 0 g,aY f [(Vs t (γ i) s)] 89,aY e [(Vs q (γ h) p)] 64,aY d [(str a)] 9,bM eS 9 1 D t s i,bM gZ 68 2 C q p h],9<=b)(e2:∀(e3:Int) (e4:aC) (L:δ aC) (K:eR) (e5:ε Nat) (d3:ε Γ) (d4:Nat) (Z:ε Nat) (d5:ε Γ) (d6:Nat) (M:ο),Hp w (eP [eC c 0 g,aY f [(Vs t (γ i) s)] 89,aY e [(Vs q (γ h) p)] 64,aY d [(str a)] 9,bM eS 9 1 D t s i,bM gZ 68 2 C q p h]) [eC c 0 g,aY f [(Vs d3 (γ L) d4)] 89,aY e [(Vs d5 (γ K) d6)] 64,bM eS 9 1 e5 d3 d4 L,bM gZ 68 2 Z d5 d6 K] M->∀(H:(Nat×(δ aC)×eR)),rf fu e3 e4 L K=θ H->YR prog c [(Vi .i64 e3),(str e4)] M λv g6=>∃(g7:ε Nat),∃(Y:ε Γ),∃(z:Nat),∃(g8:ε Nat),∃(X:ε Γ),∃(y:Nat),v=Vb (decide (H.1=0))/\Hp M (eP [eC c 0 g,aY f [(Vs d3 (γ L) d4)] 89,aY e [(Vs d5 (γ K) d6)] 64,bM eS 9 1 e5 d3 d4 L,bM gZ 68 2 Z d5 d6 K]) [eC c H.1 g,aY f [(Vs Y (γ H.2.1) z)] 89,aY e [(Vs X (γ H.2.2) y)] 64,bM eS 9 1 g7 Y z H.2.1,bM gZ 68 2 g8 X y H.2.2] g6):CR prog 88 [(Θ (.yield c) #[] #[]),(Vp (dG d))] w λv w'=>∃(o0:ε Nat),∃(a0:ε Γ),∃(F:Nat),∃(o1:ε Nat),∃(a1:ε Γ),∃(E:Nat),v=(Rn #[])/\Hp w (eP [eC c 0 g,aY f [(Vs t (γ i) s)] 89,aY e [(Vs q (γ h) p)] 64,aY d [(str a)] 9,bM eS 9 1 D t s i,bM gZ 68 2 C q p h]) [aY f [(Vs a0 (γ r.1) F)] 89,aY e [(Vs a1 (γ r.2.1) E)] 64,aY d [(str a)] 9,bM eS 9 1 o0 a0 F r.1,bM gZ 68 2 o1 a1 E r.2.1,eC c r.2.2 g] w':=by
 have hH:=hM;refine ML func88 Τ Τ iJ ?_;unfold acs at P;refine sr (wp 1 (nq (ce (FK (σ:=Nat×Int×_×_×(ε Nat)×(ε Γ)×Nat×(ε Nat)×(ε Γ)×Nat) [0,1,3] (λ⟨J,x,o,n,B,m,l,A,k,j⟩=>[(3,(Vi .i64 x))]) (λ⟨J,x,o,n,B,m,l,A,k,j⟩ w'=>Hp w (eP [eC c 0 g,aY f _ 89,aY e _ 64,aY d _ 9,bM eS 9 1 D t s i,bM gZ 68 2 C q p h]) [eC c 0 g,aY f [(Vs m (γ o) l)] 89,aY e [(Vs k (γ n) j)] 64,aY d [(str a)] 9,bM eS 9 1 B m l o,bM gZ 68 2 A k j n] w'/\rq fu a J x o n=θ r) (λ⟨J,x,o,n,B,m,l,A,k,j⟩=>J) (fu,0,i,h,D,t,s,C,q,p) (by exact⟨hH.kp,P⟩) ?_))));rintro⟨_|J,x,o,n,B,m,l,A,k,j⟩ g9 G ⟨d0,u⟩
 ·exact Sm u
 rw[aba,rr]at u;refine cs (sr (wp 1 (nV d0 3 d 0 _ 9 _ Τ Τ aK aK (wp 2 (nq (cd u (λh0 u=> ?_) (λh0 u=> ?_)))))));refine ck (qn (ce (sr (nV d0 3 d 0 _ 9 _ Τ Τ aK aK (wp 1 (gi u λh1 u=>azj a .i64 x underlying9 aK aK h1 (gi u λh2 u=> ?_)))))));refine vC 31 #[] [(str (cC _ a)),(str [13,10])] _ uv aK aK (Lp _ [13,10] g9 h2 (hG.hp d0 hS)) ?_;rintro _ d7 ⟨rfl,W⟩;have d8:=d0.call W;clear W;refine wp 1 (nq (cs (sr (wp 2 (nq (cd u (λh3 u=> ?_) (λh3 u=> ?_)))))));refine sr (wp 2 (nV d8 3 d 0 _ 9 _ Τ Τ aK aK (wp 1 (gi u λh4 u=>azj a .i64 x underlying9 aK aK h4 (bi u λd9 h5 u=> ?_)))));have h6:=d8.front 5 _ Τ;have h7:=h6.front 5 _ Τ;have h8:=h7.front 4 _ Τ;have h9:=h8.front 4 _ Τ;have f0:=h9.front 4 _ Τ;have i0:Hp w (eP [eC c 0 g,aY f [(Vs t (γ i) s)] 89,aY e [(Vs q (γ h) p)] 64,aY d [(str a)] 9,bM eS 9 1 D t s i,bM gZ 68 2 C q p h]) [eC c 0 g,aY f [(Vs m (γ o) l)] 89,aY e [(Vs k (γ n) j)] 64,bM eS 9 1 B m l o,bM gZ 68 2 A k j n] d7:=Hp.AM (L1:=[eC c 0 g,aY f [(Vs m (γ o) l)] 89,aY e [(Vs k (γ n) j)] 64,bM eS 9 1 B m l o,bM gZ 68 2 A k j n]) (L2:=[aY d _ 9]) f0;refine zH c _ _ aK aK (e2 x _ o n B m l A k j d7 i0 d9 h5) ?_;rintro _ j2 ⟨f1,f2,f3,f4,f5,f6,rfl,f7⟩;have O:=Hp.dV f0 f7;clear f7;by_cases d1:d9.1=0;replace u:=LX d1 u;rw[d1]at O;rw[show decide (d9.1=0)=μ from(aE d1)];refine nq (ct (st (iD (pJ (iD ?_)))));obtain rfl:=oi u;refine xE Τ ?_;exact⟨f1,f2,f3,f4,f5,f6,iK,(Hp.front (Hp.front (Hp.front (Hp.front (Hp.front O 4 _ Τ) 4 _ Τ) 5 _ Τ) 5 _ Τ) 5 _ Τ).kp⟩;replace u:=LY d1 u;rw[show decide (d9.1=0)=ν from(aD d1)];refine nq (ct (st (iD (pJ (iD ?_)))));obtain rfl:=oi u;refine xE Τ ?_;exact⟨f1,f2,f3,f4,f5,f6,iK,(Hp.front (Hp.front (Hp.front (Hp.front (Hp.front O 4 _ Τ) 4 _ Τ) 5 _ Τ) 5 _ Τ) 5 _ Τ).kp⟩;refine ck (qn (cs (sr (wp 2 (nV d8 3 d 0 _ 9 _ Τ Τ aK aK (wp 3 (gi u λi1 u=>Cw x _ aK aK i1 ?_)))))));refine gi u λi2 u=>Xu a .i64 .i64 x _ underlying9 aK aK aK i2 (bi u λI i3 u=> ?_);have i4:=d8.front 5 _ Τ;have i5:=i4.front 5 _ Τ;have i6:=i5.front 4 _ Τ;have i7:=i6.front 4 _ Τ;have f8:=i7.front 4 _ Τ;have i9:Hp w (eP [eC c 0 g,aY f [(Vs t (γ i) s)] 89,aY e [(Vs q (γ h) p)] 64,aY d [(str a)] 9,bM eS 9 1 D t s i,bM gZ 68 2 C q p h]) [eC c 0 g,aY f [(Vs m (γ o) l)] 89,aY e [(Vs k (γ n) j)] 64,bM eS 9 1 B m l o,bM gZ 68 2 A k j n] d7:=Hp.AM (L1:=[eC c 0 g,aY f [(Vs m (γ o) l)] 89,aY e [(Vs k (γ n) j)] 64,bM eS 9 1 B m l o,bM gZ 68 2 A k j n]) (L2:=[aY d _ 9]) f8;refine zH c _ _ aK aK (e2 x _ o n B m l A k j d7 i9 I i3) ?_;rintro _ j3 ⟨f9,V,U,T,S,R,rfl,Q⟩;have N:=Hp.dV f8 Q;clear Q;by_cases d2:I.1=0;replace u:=LX d2 u;rw[d2]at N;rw[show decide (I.1=0)=μ from(aE d2)];refine wp 1 (nq (lV aK (ck (qn (cr (wp 2 (gi u λj0 u=>Cw _ _ aK aK j0 ?_)))))));refine gi u λj1 u=>Cw x _ aK aK j1 (wp 1 (wl (bn (ql ?_))));exact⟨(J,x+((cO _ [13,10])+2),I.2.1,I.2.2,f9,V,U,T,S,R),_,Τ,by kernel_rfl,⟨(Hp.front (Hp.front (Hp.front (Hp.front (Hp.front (Hp.front N 4 _ Τ) 4 _ Τ) 5 _ Τ) 5 _ Τ) 5 _ Τ) 5 _ Τ).kp,u⟩,Cu _⟩;replace u:=LY d2 u;rw[show decide (I.1=0)=ν from(aD d2)];refine wp 1 (nq (tB aK (ct (st (iD (pJ (iD ?_)))))));obtain rfl:=oi u;refine xE Τ ?_;exact⟨f9,V,U,T,S,R,iK,(Hp.front (Hp.front (Hp.front (Hp.front (Hp.front N 4 _ Τ) 4 _ Τ) 5 _ Τ) 5 _ Τ) 5 _ Τ).kp⟩;refine Fu (Fx (Fw (Ft ?_)));obtain rfl:=oi u;refine uA Τ ?_;exact⟨B,m,l,A,k,j,iK,(Hp.front (Hp.front (Hp.front (Hp.front (Hp.front d0 5 _ Τ) 5 _ Τ) 5 _ Τ) 5 _ Τ) 5 _ Τ).kp⟩
theorem Gd(r:aoh fu a=θ b)(D:Gl w):CR prog 37 [(str a)] w λv w'=>∃(o0:ε Nat),∃(a0:ε Γ),∃(L:Nat),v=(Rn #[(Vs a0 (γ b.1) L),(Vi .i64 b.2.1),(bt b.2.2)])/\Hp w [] [bM gZ 68 2 o0 a0 L b.1] w':=by
 have U:=Hp.refl w;refine MK func37 Τ Τ iJ ?_;unfold aoh at r;refine sr (wp 3 (nq (cs (sr (wp 2 (wl ?_))))));refine qn (cd r (λh1 r=> ?_) (λh1 r=> ?_));refine sr (wp 3 (nq (ct (st ?_))));obtain rfl:=oi r;refine Nc _ [(Vs ι 0 0),(Vi .i64 0),(bt _)] (Rn #[(Vs ι 0 0),(Vi .i64 0),(bt 0)]) Τ Τ (jX (qN aK) (jX (qN aK) (jX (qN aK) BV))) Τ ?_;exact⟨ι,ι,0,iK,(Hp.cX U gZ 68 2 ι).kp⟩;refine ck (qn (cs (sr (wp 1 (gi r λg2 r=>qb a .i64 _ underlying9 aK aK g2 (bi r λy3 h5 r=>wc ur U (beu h5 (D.iY U)) λw5 e2=> ?_))))));refine nq (cb r (λh8 r=> ?_) (λh8 r=> ?_));refine sr (wp 3 (nq (ct (st ?_))));obtain rfl:=oi r;refine Nc _ [(Vs ι 0 0),(Vi .i64 0),(bt 5)] _ Τ Τ (jX (qN aK) (jX (qN aK) (jX (qN aK) BV))) Τ ?_;exact⟨ι,ι,0,iK,(Hp.cX e2 gZ 68 2 ι).kp⟩;refine ck (qn (cs (sr (wp 1 (bi r λy9 h6 r=>wc ent60 e2 (Iz h6 (D.iY e2)) λo1 e3=>wp 5 (wl ?_))))));refine qn (sr (wp 1 (nq (cb r (λh7 r=> ?_) (λh7 r=> ?_)))));refine sr (wp 4 (nq (ct (st ?_))));obtain rfl:=oi r;refine Nc _ [(Vs ι 0 0),(Vi .i64 y9.1),(bt 5)] _ Τ Τ (jX (qN aK) (jX (qN aK) (jX (qN aK) BV))) Τ ?_;exact⟨ι,ι,0,iK,(Hp.cX e3 gZ 68 2 ι).kp⟩;refine ck (qn (cs (sr (wp 1 (bi r λo2 h9 r=>wc ent32 e3 (qP h9 (D.iY e3)) λo4 f4=>wp 1 (wl ?_))))));refine qn (cb r (λi0 r=> ?_) (λi0 r=> ?_));refine sr (wp 5 (nq (ct (st ?_))));obtain rfl:=oi r;refine Nc _ [(Vs ι 0 0),(Vi .i64 (γ a)),(bt 6)] _ Τ Τ (jX (qN aK) (jX (qN aK) (jX (qN aK) BV))) Τ ?_;exact⟨ι,ι,0,iK,(Hp.cX f4 gZ 68 2 ι).kp⟩;refine ck (qn (sr (jS f4 [(Vs ι 0 0)] 64 (λa1=>(Vp (dG a1))) Τ Τ aK λd o5 i1=>nq (sr (jS i1 [(Vs ι 0 0)] 89 (λa1=>(Vp (dG a1))) Τ Τ aK λi o6 f5=> ?_)))));refine nq (cs (sr (wp 1 (bi r λf6 i2 r=>vC 61 #[] [(str a)] _ ent61 aK aK (yL i2 (D.iY f5)) ?_))));rintro _ i3 ⟨E,rfl,f7⟩;have i4:Hp w [] [aY E [(str f6)] 9,aY i [(Vs ι 0 0)] 89,aY d [(Vs ι 0 0)] 64] i3:=Hp.dV (L1:=[]) (L2:=[aY i _ 89,aY d _ 64]) f5 f7;clear f7;refine nq (ce (tC i4 88 [(Vp (dG E))] aK ent88 λP o p W i5 i6 i7 i9 j0=> ?_));have e4:=j0.cX eS 9 1 ι;replace e4:Hp w [] [bM eS 9 1 ι ι 0 _,eC o 0 p,HY P,aY E _ 9,aY i _ 89,aY d _ 64] W:=e4;have e5:=e4.cX gZ 68 2 ι;replace e5:Hp w [] [bM gZ 68 2 ι ι 0 [],bM eS 9 1 ι ι 0 [],eC o 0 p,HY P,aY E _ 9,aY i _ 89,aY d _ 64] W:=e5;have e6:=e5.cX eS 9 1 ι;replace e6:Hp w [] [bM eS 9 1 ι ι 0 [],bM gZ 68 2 ι ι 0 [],bM eS 9 1 ι ι 0 _,eC o 0 p,HY P,aY E _ 9,aY i _ 89,aY d _ 64] W:=e6;have e7:=e6.cX gZ 68 2 ι;replace e7:Hp w [] [bM gZ 68 2 ι ι 0 [],bM eS 9 1 ι ι 0 _,bM gZ 68 2 ι ι 0 [],bM eS 9 1 ι ι 0 [],eC o 0 p,HY P,aY E _ 9,aY i _ 89,aY d _ 64] W:=e7;refine bi r λn j1 r=> ?_;have j2:=e7.front 1 _ Τ;have j3:=j2.front 6 _ Τ;have j4:=j3.front 8 _ Τ;have j5:=j4.front 8 _ Τ;have d0:=j5.front 7 _ Τ;have X:∀d1 O f c x k j u l m y,Hp W (eP [eC o 0 p,aY i [(Vs ι 0 0)] 89,aY d [(Vs ι 0 0)] 64,aY E [(str f6)] 9,bM eS 9 1 ι ι 0 [],bM gZ 68 2 ι ι 0 []]) [eC o 0 p,aY i [(Vs k (γ f) j)] 89,aY d [(Vs l (γ c) m)] 64,bM eS 9 1 x k j f,bM gZ 68 2 u l m c] y->∀K,rf fu d1 O f c=θ K->YR prog o [(Vi .i64 d1),(str O)] y λv j6=>∃j7,∃f8,∃A,∃j8,∃f9,∃z,v=Vb (decide (K.1=0))/\Hp y (eP [eC o 0 p,aY i [(Vs k (γ f) j)] 89,aY d [(Vs l (γ c) m)] 64,bM eS 9 1 x k j f,bM gZ 68 2 u l m c]) [eC o K.1 p,aY i [(Vs f8 (γ K.2.1) A)] 89,aY d [(Vs f9 (γ K.2.2) z)] 64,bM eS 9 1 j7 f8 A K.2.1,bM gZ 68 2 j8 f9 z K.2.2] j6:=by intro d1 O f c x k j u l m C d5 K g;have B:=Hp.dV d0 d5;have V:=D;replace D:=D.iY B;have e:=Hp.sM B V (λ_ h=>absurd h aA2) 5 Τ;unfold rf at g;refine Ki (Hp.hand (L1:=[eC o 0 p,aY i [(Vs k (γ f) j)] 89,aY d [(Vs l (γ c) m)] 64,bM eS 9 1 x k j f,bM gZ 68 2 u l m c]) (L2:=[]) (by simpa using d5)) 0 Τ i5 i6 i7 i9 Τ ?_;have U:Hp C (eP [eC o 0 p,aY i [(Vs k (γ f) j)] 89,aY d [(Vs l (γ c) m)] 64,bM eS 9 1 x k j f,bM gZ 68 2 u l m c]) [eC o 0 p,aY i [(Vs k (γ f) j)] 89,aY d [(Vs l (γ c) m)] 64,bM eS 9 1 x k j f,bM gZ 68 2 u l m c] C:=Hp.hand (L1:=[eC o 0 p,aY i [(Vs k (γ f) j)] 89,aY d [(Vs l (γ c) m)] 64,bM eS 9 1 x k j f,bM gZ 68 2 u l m c]) (L2:=[]) (by simpa using d5);clear B d5;refine sr (wp 1 (nq (cr (wp 1 (wl (Qn U 0 Τ λo7 d6=>ce ?_))))));refine bi g λj9 t g=>cut (σ:=((δ aC)×(δ _))×(ε Nat)×(ε Γ)×Nat) [8,10] (λ⟨J,d2,T,S⟩=>[]) (λ⟨J,d2,T,S⟩ w'=>Hp C (eP [eC o 0 p,aY i [(Vs k (γ f) j)] 89,aY d [(Vs l (γ c) m)] 64,bM eS 9 1 x k j f,bM gZ 68 2 u l m c]) [Nh o p,aY i [(Vs k (γ J.1) j)] 89,aY d [(Vs T (γ J.2) S)] 64,bM eS 9 1 x k j J.1,bM gZ 68 2 d2 T S J.2] w'/\J=j9) ?_ ?_;refine bi t λk0 I t=>nS d6 [7,8,9,10,40] [(40,(Vb k0))] ?_ ?_;refine cr (wp 2 (wd I (λk1 I=> ?_) (λk1 I=> ?_)));refine wp 5 (wl (ql ?_));obtain rfl:=oi I;exact je d6.kp;refine wp 1 (gy 35 (gi I λk2 I=>qb O .i64 _ underlying9 aK aK k2 (gy 35 (bi I λo8 k3 I=>wc ur d6 (beu k3 (D.hp d6 e)) λo9 k4=>wp 2 (wl (ql ?_))))));obtain rfl:=oi I;exact je k4.kp;intro p0 G d7;refine cb t (λk5 t=> ?_) (λk5 t=> ?_);refine bi t λk6 s t=>cut (σ:=(δ _)) [7,8,9,10] (λH=>[]) (λH w'=>Hp C (eP [eC o 0 p,aY i [(Vs k (γ f) j)] 89,aY d [(Vs l (γ c) m)] 64,bM eS 9 1 x k j f,bM gZ 68 2 u l m c]) [Nh o p,aY i [(Vs k (γ f) j)] 89,aY d [(Vs l (γ H) m)] 64,bM eS 9 1 x k j f,bM gZ 68 2 u l m H] w'/\γ H=γ c/\H=k6) ?_ ?_;refine sr (nV d7 2 d 0 _ 64 _ Τ Τ aK aK (wp 2 (nq (cd s (λk7 s=> ?_) (λk7 s=> ?_)))));refine gi s λk8 s=>gi s λk9 s=>c_np (Wz 6 (λN y q=>eI _ (λw'=>w'.heap[d]? =θ (.cells [(Vs l (γ c) m)].toArray 64 (0,0))) N y q/\eI _ (λw'=>w'.heap[d]? =θ (.cells [(Vs l (γ c) m)].toArray 64 (0,0))) N y q/\eI _ (λw'=>w'.heap[i]? =θ (.cells [(Vs k (γ f) j)].toArray 89 (0,0))) N y q/\True) _ (λ_ _=>⟨eI.same,eI.same,eI.same,trivial⟩) aK aK d7 Τ tx λl0 R=>bks _ 0 44 _ [6,7,8] (λ_ _ _ h=>h.1) _ Τ Τ aK aK aK aK aK Τ (qU Τ (by intro C e;exact(lN d 0 _ 64 _ e Τ aK aK))) (by exact R.dO 2 Τ) (bks _ 1 45 _ [2,3,6,7,8] (λ_ _ _ h=>h.2.1) _ Τ Τ aK aK aK aK aK Τ (qU Τ (by intro C e;exact(lN d 0 _ 64 _ e Τ aK aK))) (by exact R.dO 2 Τ) (rpO 3 [2] (rtO 3 _ Τ Τ (qU Τ (by intro C e;exact(oH _ 1 aK aK k8))) (bks _ 4 48 _ [5,6,7,8] (λ_ _ _ h=>h.2.2.1) _ Τ Τ aK aK aK aK aK Τ (qU Τ (by intro C e;exact(lN i 0 _ 89 _ e Τ aK aK))) (by exact R.dO 1 Τ) (roO 5 Τ ?_))))));refine vC 62 #[] [(Vs k (γ f) j),(str [32])] _ uq aK aK (Yp [32] l0 k (γ f) j f Τ (R.gL 3 Τ) (R.Gy 3 Τ) k9) ?_;rintro _ p1 ⟨rfl,g0⟩;have d8:=R.call g0;clear g0;refine wl (QD (by exact⟨eI.new (d8.dO 2 Τ),eI.new (d8.dO 2 Τ),eI.out Τ,trivial⟩) (QB aK (gi s λl1 s=>Qj l (γ c) m 68 2 .i64 _ underlying64 aK aK aK c Τ l1 (d8.gL 4 Τ) bm aA1 (JZ l ((γ c-(1:Int)).toNat*2) 1 aK aK (gi s λl2 s=>tb d8 4 u l m 68 2 _ 1 c ((el c (γ c-1)).1,cK f [32]) Τ bm (str (cK f [32])) l2 aK aK aK aK aA1 λl3 e8=> ?_)))));replace e8:Hp C _ _ l3:=e8;refine wl (Vl (ql ?_));obtain rfl:=oi s;exact⟨jH c _ _,_,Τ,by kernel_rfl,(e8.blkeq 2 d _ [(Vs l (γ (jH c (bL (γ c-1)) ((el c (γ c-1)).1,cK f [32]))) m)] 64 Τ aA2).kp,lsz,Τ⟩;refine ck (ql ?_);obtain rfl:=oi s;exact⟨c,_,Τ,by kernel_rfl,d7.kp,lsz,Τ⟩;rintro H p2 G ⟨g1,p3,rfl⟩;refine sr (nV g1 2 d 0 _ 64 _ Τ Τ aK aK (wp 2 (jS g1 _ 68 (λa1=>(Vs (dG a1) 1 1)) Τ Τ aK λp4 p5 g3=>gi t λl4 t=>NK g3 5 u l _ m 1 68 2 24 H _ bm Τ underlying64 aB0 aA1 aA1 aK (eU aK (NJ aA8)) (g3.fQ 0 Τ) l4 λl5 g4 g5 l6 e9=> ?_)));replace e9:Hp C _ _ l6:=e9;refine kA e9 3 d 0 _ 64 (Vs g4 (γ (H++([(d1,[])]:δ _))) g5) _ Τ (NV (Cu _) iJ) aK aK Τ aK Τ λp6 f0=>nq (cr (nV f0 2 i 0 _ 89 _ Τ Τ aK aK (gi t λl7 t=>B6 k (γ f) j 9 1 .i64 (0:Int) underlying89 aK aK aK f Τ l7 (f0.Gy 4 Τ) (kA f0 2 i 0 _ 89 (Vs k (bL 0) j) _ Τ (NV (Cu _) iJ) aK aK Τ aK Τ λp7 l8=>wl (ql ?_)))));obtain rfl:=oi t;exact⟨((eN _ f,H++([(d1,[])]:δ _)),l5,g4,g5),_,Τ,by kernel_rfl,(Hp.front (Hp.front (Hp.front (Hp.front (Hp.front (Hp.cuts l8 sS 4 Τ (bL 0)) 5 _ Τ) 5 _ Τ) 5 _ Τ) 5 _ Τ) 5 _ Τ).kp,Τ⟩;refine ck (ql ?_);obtain rfl:=oi t;exact⟨((f,c),u,l,m),_,Τ,by kernel_rfl,d7.kp,Τ⟩;rintro⟨J,d2,T,S⟩ l9 G ⟨m0,rfl⟩;refine sr (wp 1 (gi g λm1 g=>gi g λm2 g=>vC 63 #[] [(str O),(str [32,9])] _ ent63 aK aK (OW O _ l9 m1 m2) ?_));rintro _ p8 ⟨rfl,g6⟩;have f1:=m0.call g6;clear g6;refine wp 1 (nq (sr (wp 2 (nq (cn g (λm3 g=> ?_) (λm3 g=> ?_))))));refine cr (nV f1 1 i 0 _ 89 _ Τ Τ aK aK (wp 1 (jS f1 _ 9 (λa1=>(Vs (dG a1) 1 1)) Τ Τ aK λp9 q0 g7=>gi g λm4 g=>NK g7 4 x k _ j 1 9 1 16 J.1 _ sS Τ underlying89 aB0 aA1 aA1 aK (eU aK (NJ aA8)) (g7.fQ 0 Τ) m4 λm5 g8 g9 m6 f2=> ?_)));replace f2:Hp C _ _ m6:=f2;refine kA f2 2 i 0 _ 89 (Vs g8 (γ (J.1++([Lib.trimS O [32,9]]:δ aC))) g9) _ Τ (NV (Cu _) iJ) aK aK Τ aK Τ λq1 m7=>wl (bn ?_);obtain rfl:=oi g;refine oT m7 1 Τ λq2 m8=> ?_;exact⟨m5,g8,g9,d2,T,S,aC5,(Hp.front (Hp.front (Hp.front (Hp.front (Hp.front m8 5 _ Τ) 5 _ Τ) 5 _ Τ) 5 _ Τ) 5 _ Τ).kp⟩;refine ck (bn ?_);obtain rfl:=oi g;refine oT f1 0 Τ λq3 m9=> ?_;exact⟨x,k,j,d2,T,S,aC5,m9.kp⟩
 refine CR.mono (axh o p i ι ι 0 d ι ι 0 E j1 (D.iY d0) (d0.hand) (d0.sM D (λ_ h=>absurd h aA2) 6 Τ) X) ?_;rintro _ q4 ⟨h0,d3,d4,d9,F,M,rfl,h2⟩;have n0:=Hp.dV d0 h2;clear h2;have n1:=n0.front 5 _ Τ;refine⟨n.2.2,[aY i _ 89,aY d _ 64,aY E _ 9,bM eS 9 1 h0 d3 d4 n.1,bM gZ 68 2 d9 F M n.2.1,bM gZ 68 2 ι ι 0 [],bM eS 9 1 ι ι 0 [],HY P],n1,?_⟩;intro q5 n2;by_cases f3:n.2.2=0;replace r:=LX f3 r;refine rg0 f3 (bn (qn (cs (gi r λn3 r=>gi r λn4 r=>c_np (Wz 6 (λN y q=>eI _ (λw'=>w'.heap[d]? =θ (.cells [(Vs F (γ n.2.1) M)].toArray 64 (0,0))) N y q/\eI _ (λw'=>w'.heap[d]? =θ (.cells [(Vs F (γ n.2.1) M)].toArray 64 (0,0))) N y q/\eI [5,6,7,8] (λw'=>w'.heap[i]? =θ (.cells [(Vs d3 (γ n.1) d4)].toArray 89 (0,0))) N y q/\True) _ (λ_ _=>⟨eI.same,eI.same,eI.same,trivial⟩) aK aK n2 Τ tx λn5 Q=>bks _ 0 67 _ [6,7,8] (λ_ _ _ h=>h.1) _ Τ Τ aK aK aK aK aK Τ (qU Τ (by intro w e;exact(lN d 0 _ 64 _ e Τ aK aK))) (by exact Q.dO 1 Τ) (bks _ 1 68 _ [2,3,6,7,8] (λ_ _ _ h=>h.2.1) _ Τ Τ aK aK aK aK aK Τ (qU Τ (by intro w e;exact(lN d 0 _ 64 _ e Τ aK aK))) (by exact Q.dO 1 Τ) ?_))))));refine rpO 3 [2] (rtO 3 _ Τ Τ (qU Τ (by intro w e;exact(oH _ 1 aK aK n3))) (bks _ 4 71 _ _ (λ_ _ _ h=>h.2.2.1) _ Τ Τ aK aK aK aK aK Τ (qU Τ (by intro w e;exact(lN i 0 _ 89 _ e Τ aK aK))) (by exact Q.dO 0 Τ) (roO 5 Τ (vC 62 #[] [(Vs d3 (γ n.1) d4),(str [32])] _ uq aK aK (Yp [32] n5 d3 (γ n.1) d4 n.1 Τ (Q.gL 3 Τ) (Q.Gy 3 Τ) n4) ?_))));rintro _ q6 ⟨rfl,h3⟩;have Z:=Q.call h3;clear h3;refine wl (QD (by exact⟨eI.new (Z.dO 1 Τ),eI.new (Z.dO 1 Τ),eI.out Τ,trivial⟩) (QB aK (gi r λn6 r=>Qj F (γ n.2.1) M 68 2 .i64 _ underlying64 aK aK aK n.2.1 Τ n6 (Z.gL 4 Τ) bm aA1 (JZ F ((γ n.2.1-(1:Int)).toNat*2) 1 aK aK (gi r λn7 r=>tb Z 4 d9 F M 68 2 _ 1 n.2.1 ((el n.2.1 (γ n.2.1-1)).1,cK n.1 [32]) Τ bm (str (cK n.1 [32])) n7 aK aK aK aK aA1 λn8 Y=> ?_)))));replace Y:Hp w [] [aY i _ 89,aY d _ 64,aY E _ 9,bM eS 9 1 h0 d3 d4 n.1,bM gZ 68 2 d9 F M _,bM gZ 68 2 ι ι 0 _,bM eS 9 1 ι ι 0 [],HY P] n8:=Y;refine wl (Vl (qn (sr (nV Y 1 d 0 _ 64 _ Τ Τ aK aK (wp 3 (nq (ct ?_)))))));obtain rfl:=oi r;refine AB Y 7 P Τ _ [(Vs F (γ n.2.1) M),(Vi .i64 0),(bt 0)] _ Τ Τ (λn9 h4=>(jX (qN aK) (jX (qN aK) (jX (qN aK) BV)))) Τ λn9 h4=> ?_;exact⟨d9,F,M,iK,(Hp.front h4 4 _ Τ).kp⟩;replace r:=LY f3 r;exact Sm r
theorem vO{r:(Qy×Int×ζ)}(c:aqh fu a=θ r)(M:Gl w):CR prog 16 [(str a)] w λv w'=>∃(o0:ε Nat),∃(a0:ε Γ),∃(n:Nat),∃(o1:ε Nat),∃(Z:ε Γ),∃(m:Nat),v=(Rn #[(yS #[(Vs a0 (γ r.1.1) n),(Vs Z (γ r.1.2) m)]),(Vi .i64 r.2.1),(bt r.2.2)])/\Hp w [] [bM oC 49 2 o0 a0 n r.1.1,JJ eB o1 Z m r.1.2] w':=by
 have hH:=Hp.refl w;refine enter func16 Τ Τ iJ ?_;unfold aqh at c;refine sr (jS hH (yJ) 42 (λb=>(Vp (dG b))) Τ Τ aK λi w2 f3=>wp 2 (nq (cs (sr (wp 1 ?_)))));refine vC 33 #[] [(str a),(str ([13,10]:aC))] _ ent33 aK aK (zQ a _ w2) ?_;rintro _ w4 ⟨rfl,d8⟩;have O:=f3.call d8;clear d8;refine wp 5 (nq (sr (wp 1 (nq (cb c (λh7 c=> ?_) (λh7 c=> ?_))))));refine sr (wp 1 (bjg O (eH a [13,10]) 5 underlying9 underlying22 underlying5 aK λJ g i1 f4=>wp 1 (Cf f4 1 i 0 _ [(Vs ι 0 0),(Vs J (γ (eH a [13,10])) g)] 42 _ Τ iJ aK aK Τ aK Τ λi2 d9=>wp 2 (nq (ct ?_)))));refine st ?_;obtain rfl:=oi c;refine vT _ [(yS #[(Vs ι 0 0),(Vs J _ g)]),(Vi .i64 (0:Int)),(bt 0)] _ Τ Τ (jX (dp d9 1 i 42 _ Τ aK aK aK) (jX (qN aK) (jX (qN aK) BV))) Τ ?_;exact⟨ι,ι,0,(Vs J (γ (eH a [13,10])) g).ownBlock,J,g,iK,(Hp.SJ (Hp.cX d9 oC 49 2 ι) 1 Τ).kp⟩;refine ck (qn (sr (wp 1 (gi c λf5 c=>vC 36 #[] [(str a),(str ([13,10,13,10]:aC))] _ ent36 aK aK (G4 a [13,10,13,10] w4 f5 (M.iY O)) ?_))));rintro _ i3 ⟨rfl,Y⟩;have N:=O.call Y;clear Y;refine wp 7 (nq (cs (sr (wp 2 (nq (cb c (λf6 c=> ?_) (λf6 c=> ?_)))))));refine sr (wp 1 (Cf N 0 i 0 _ (yJ) 42 _ Τ iJ aK aK Τ aK Τ λi4 X=>wp 2 (nq (ct (st ?_)))));obtain rfl:=oi c;refine vT _ [(yS #[(Vs ι 0 0),(Vs ι 0 0)]),(Vi .i64 (0:Int)),(bt 5)] _ Τ Τ (jX (dp X 0 i 42 _ Τ aK aK aK) (jX (qN aK) (jX (qN aK) BV))) Τ ?_;exact⟨ι,ι,0,ι,ι,0,iK,(Hp.front (Hp.Dz (Hp.cX X oC 49 2 ι) eB) 1 _ Τ).kp⟩;refine ck (qn (sr (wp 1 (gi c λf7 c=>dr _ _ aK aK f7 (bi c λf f8 c=>vC 37 #[] [(str (((eF a [13,10,13,10]).1)++([13,10]:aC)))] _ ent37 aK aK (Gd f8 (M.iY N)) ?_)))));rintro _ i5 ⟨W,I,d0,rfl,V⟩;have U:=Hp.dV (L1:=[]) (L2:=[aY i (yJ) 42]) N V;clear V;refine wp 7 (nq (cs (sr (wp 1 (oM f.2.2 0 aK aK (nq (cn c (λf9 c=> ?_) (λf9 c=> ?_))))))));refine sr (wp 3 (Cf U 1 i 0 _ (yJ) 42 _ Τ iJ aK aK Τ aK Τ λi6 T=>wp 2 (nq (ct (st ?_)))));obtain rfl:=oi c;refine vT _ [(yS #[(Vs ι 0 0),(Vs ι 0 0)]),(Vi .i64 f.2.1),(bt f.2.2)] _ Τ Τ (jX (dp T 1 i 42 _ Τ aK aK aK) (jX (qN aK) (jX (qN aK) BV))) Τ ?_;exact⟨ι,ι,0,ι,ι,0,iK,(Hp.front (Hp.Dz (Hp.cX T oC 49 2 ι) eB) 1 _ Τ).kp⟩;refine ck (qn (sr (wp 1 (bjg U ((eF a [13,10,13,10]).2.1) 5 underlying9 underlying22 underlying5 aK λl k i7 g0=>wp 1 (jS g0 (yJ) 42 (λb=>(Vp (dG b))) Τ Τ aK λo i9 g1=>Cf g1 0 o 0 _ [(Vs ι 0 0),(Vs l (γ ((eF a ([13,10,13,10]:aC)).2.1)) k)] 42 _ Τ iJ aK aK Τ aK Τ λj0 g2=>wl ?_)))));refine qn (bi c λS g3 c=>cut (σ:=jY×(ε Nat)×(ε Γ)×Nat) [2,3,4,13] (λ⟨x,H,u,t⟩=>[]) (λ⟨x,H,u,t⟩ w'=>Hp w [] [aY o [(Vs u (γ x) t),(Vs l (γ ((eF a [13,10,13,10]).2.1)) k)] 42,gF (Vs l (γ ((eF a [13,10,13,10]).2.1)) k) (γ ((eF a [13,10,13,10]).2.1)) ((eF a [13,10,13,10]).2.1),aY i (yJ) 42,bM oC 49 2 H u t x] w'/\.inl x=S) ?_ ?_);refine sr (wp 3 (nq (ce (FK (σ:=Nat×Int×_×_×_×Nat) [2,3,4,13,51,52,53] (λ⟨z,e,j,y,s,q⟩=>[(53,(Vi .i64 e))]) (λ⟨z,e,j,y,s,q⟩ w'=>Hp w [] [aY o [(Vs s (γ j) q),(Vs l (γ ((eF a [13,10,13,10]).2.1)) k)] 42,gF (Vs l (γ ((eF a [13,10,13,10]).2.1)) k) (γ ((eF a [13,10,13,10]).2.1)) ((eF a [13,10,13,10]).2.1),bM gZ 68 2 W I d0 f.1,aY i (yJ) 42,bM oC 49 2 y s q j] w'/\agx fu f z e j=θ S) (λ⟨z,e,j,y,s,q⟩=>z) (fu,(0:Int),([]:jY),ι,ι,0) (by exact⟨(Hp.front (Hp.front (Hp.front (Hp.front (Hp.cX g2 oC 49 2 ι) 4 _ Τ) 4 _ Τ) 4 _ Τ) 4 _ Τ).kp,g3⟩) ?_))));rintro⟨_|z,e,j,y,s,q⟩ j1 G ⟨F,d⟩
 ·exact Sm d
 rw[ary,aih]at d;refine sr (wp 1 (nq (cs (cd d (λg4 d=> ?_) (λg4 d=> ?_)))));refine ck (qn (cs (ce (sr (gi d λg5 d=>Qj I (γ f.1) d0 68 2 .i64 e underlying64 aK aK aK f.1 Τ g5 (F.gL 2 Τ) bm aA1 (gi d λg6 d=>Gq I gZ f.1 2 e bm (F.gL 2 Τ) [(Vi .i64 ((el f.1 e).1)),(str ((el f.1 e).2))] g6 aK aK aK aK aA1 ?_))))));refine jS F [(Vi .i64 (0:Int)),(str ([]:aC))] 68 (λb=>(Vp (dG b))) Τ Τ aK λD j2 g7=>Cf g7 0 D 0 _ [(Vi .i64 ((el f.1 e).1)),(str ((el f.1 e).2))] 68 _ Τ iJ aK aK Τ aK Τ λj3 d1=>nq (sr (wp 1 (nV d1 0 D 1 _ 68 _ Τ Τ aK aK (bi d λC g8 d=>wc ent38 d1 (vP g8 (M.iY d1)) λj4 g9=> ?_))));refine wp 3 (jS g9 [(str ([]:aC)),(str ([]:aC))] 49 (λb=>(Vp (dG b))) Τ Τ aK λd2 j5 h0=>Cf h0 0 d2 0 _ [(str C.1.1),(str C.1.2)] 49 _ Τ iJ aK aK Τ aK Τ λj6 B=>wp 1 (nq (bi d λd3 p d=>nS B [2,3,4,13,15,16,17,51,52,53] [(17,(bt d3))] ?_ ?_)));refine bi p λh1 A p=>nS B [2,3,4,13,15,16,17,51,52,53,70] [(70,(Vb h1))] ?_ ?_;refine cr (wp 1 (qZ C.2 0 aK aK (wd A (λh2 A=> ?_) (λh2 A=> ?_))));refine wp 1 (gy 65 (nV B 2 o 0 _ 42 _ Τ Τ aK aK (wp 3 (wl (ql ?_)))));obtain rfl:=oi A;exact je B.kp;refine wp 5 (wl (ql ?_));obtain rfl:=oi A;exact je B.kp;intro j7 G R;refine cb p (λh3 p=> ?_) (λh3 p=> ?_);refine cr (wp 1 (wl (ql ?_)));obtain rfl:=oi p;exact je R.kp;refine ck (ql ?_);obtain rfl:=oi p;exact je R.kp;intro j8 G E;refine cs (sr (wp 1 (oM d3 0 aK aK (nq (cn d (λh4 d=> ?_) (λh4 d=> ?_))))));refine cs (YX 6 (λj_ w_ K=>eI [5,6] (λw'=>w'.heap[D]? =θ (.cells [(Vi .i64 ((el f.1 e).1)),(str ((el f.1 e).2))].toArray 68 (0,0))) j_ w_ K/\True) _ (λ_ _=>⟨eI.same,trivial⟩) aK aK E Τ (Hr (Hr (yG (Hr (uT (yG (uT XX))))))) λj9 Q=>rp 4 [0,1] (BU _ 2 75 _ _ (λ_ _ _ h=>h.1) _ Τ Τ aK aK aK aK aK Τ (qU Τ (by intro w L;exact(lN D 0 _ 68 _ L Τ aK aK))) (by exact Q.dO 1 Τ) (rp 2 [3] (ro 4 Τ (Cf Q 5 i 0 _ (yJ) 42 _ Τ iJ aK aK Τ aK Τ λk0 d4=>wl (kE (by exact⟨eI.new (d4.dO 1 Τ),trivial⟩) (rp 0 [5] ?_)))))));refine SL aK (wp 1 (nq (ct (st (iD (st (pJ (iD ?_))))))));refine pJ ?_;obtain rfl:=oi d;obtain rfl:=oi c;refine vT _ [(yS #[(Vs ι 0 0),(Vs ι 0 0)]),(Vi .i64 ((el f.1 e).1)),(bt d3)] _ Τ Τ (jX (dp d4 5 i 42 _ Τ aK aK aK) (jX (qN aK) (jX (qN aK) BV))) Τ ?_;exact⟨ι,ι,0,ι,ι,0,iK,(Hp.front (Hp.Dz (Hp.cX d4 oC 49 2 ι) eB) 1 _ Τ).kp⟩;refine ck (qn (cr (wp 1 (nV E 2 o 0 _ 42 _ Τ Τ aK aK (mM E 0 d2 0 2 _ _ 49 Τ Τ Τ aK aK aK (jS E _ 49 (λb=>(Vs (dG b) 1 1)) Τ Τ aK λh5 k1 P=>gi d λh6 d=>NK P 7 y s _ q 1 49 2 32 j _ aob Τ underlying40 aB0 aA1 aA1 aK (eU aK (NJ aA8)) (P.fQ 0 Τ) h6 λf0 d5 d6 h8 d7=> ?_))))));replace d7:Hp w [] [aY h5 _ 49,aY d2 _ 49,aY D _ 68,aY o _ 42,gF _ (γ ((eF a _).2.1)) ((eF a _).2.1),bM gZ 68 2 W I d0 f.1,aY i _ 42,bM oC 49 2 f0 d5 d6 _] h8:=d7;refine wp 1 (kA d7 3 o 0 _ 42 (Vs d5 (γ (j++([C.1]:jY))) d6) _ Τ (NV (Cu _) iJ) aK aK Τ aK Τ λk2 h9=>wl (bn (qn (cr (gi d λi0 d=>Cw e _ aK aK i0 (wp 1 (wl ?_)))))));refine ql ?_;exact⟨(z,e+(1:Int),j++([C.1]:jY),f0,d5,d6),_,Τ,by kernel_rfl,⟨(Hp.front (Hp.front (Hp.front (Hp.front (Hp.front h9 7 _ Τ) 7 _ Τ) 7 _ Τ) 7 _ Τ) 7 _ Τ).kp,d⟩,Cu _⟩;refine Fu (Fx (Fw (Ft (ql ?_))));obtain rfl:=oi d;exact⟨(j,y,s,q),_,Τ,by kernel_rfl,(Hp.front (Hp.front (Hp.front (Hp.front F 4 _ Τ) 4 _ Τ) 3 _ Τ) 3 _ Τ).kp,Τ⟩;rintro⟨x,H,u,t⟩ k3 G ⟨f1,rfl⟩;refine sr (mM f1 0 o 0 2 _ _ 42 Τ Τ Τ aK aK aK (Cf f1 2 i 0 _ [(Vs u (γ x) t),(Vs l (γ ((eF a [13,10,13,10]).2.1)) k)] 42 _ Τ iJ aK aK Τ aK Τ λk4 f2=>wp 2 (nq (ct ?_))));obtain rfl:=oi c;refine vT _ [(yS #[(Vs u (γ x) t),(Vs l _ k)]),(Vi .i64 (0:Int)),(bt 0)] _ Τ Τ (jX (dp f2 2 i 42 _ Τ aK aK aK) (jX (qN aK) (jX (qN aK) BV))) Τ ?_;exact⟨H,u,t,(Vs l (γ ((eF a [13,10,13,10]).2.1)) k).ownBlock,l,k,iK,(Hp.front (Hp.front (Hp.SJ f2 1 Τ) 1 _ Τ) 3 _ Τ).kp⟩
open Go.Value renaming tuple → Rn
theorem va:Wk.Enters prog 14:=⟨f14,_,func14,Τ,aK⟩
theorem uz:Wk.Enters prog 15:=⟨f15,_,func15,Τ,aK⟩
theorem ent16:Wk.Enters prog 16:=⟨f16,_,func16,Τ,aK⟩
theorem ent26:Wk.Enters prog 26:=⟨f26,_,func26,Τ,aK⟩
theorem ent27:Wk.Enters prog 27:=⟨f27,_,func27,Τ,aK⟩
theorem uu:Wk.Enters prog 48:=⟨f48,_,func48,Τ,aK⟩
theorem ent50:Wk.Enters prog 50:=⟨f50,_,func50,Τ,aK⟩
variable{y:δ ζ}
theorem nZ(d4:ε Γ)(d5:Nat)(d6:Nat){r:(eK×Int×ζ)}(c:asw fu y a=θ r)(S:Gl w)(e8:d5=γ y)(e9:Rd w d4 (oD eB y))(i7:d5<=d6):CR prog 5 [(Vs d4 d5 d6),(str a)] w λv w'=>∃(o0:ε Nat),∃(a0:ε Γ),∃(z:Nat),∃(V:Nat->(PA×PA)),v=(Rn #[(Vs a0 (γ r.1) z),(Vi .i64 r.2.1),(bt r.2.2)])/\Hp w [] (bM dR 42 2 o0 a0 z (gz V r.1)::(gI eJ V r.1++[])) w':=by
 subst e8;have U:=Hp.refl w;refine enter func5 Τ Τ iJ ?_;unfold asw at c;refine sr (wp 3 (nq (cs (sr (wp 1 (bi c λy1 f0 c=> ?_))))));refine wc va U (bkj f0 (S.iY U)) λw3 R=>wp 1 (nq (cb c (λh6 c=> ?_) (λh6 c=> ?_)));refine sr (wp 3 (nq (ct (st ?_))));obtain rfl:=oi c;refine IN (Vs ι 0 0) (Vi .i64 0) (bt 2) Τ aK aK aK ?_;exact⟨ι,ι,0,lE,iK,((Hp.cX R dR 42 2 ι).rY 1 1 aA1)⟩;refine ck (qn (cs (sr (wp 3 (nq (cd c (λh7 c=> ?_) (λh7 c=> ?_)))))));refine sr (wp 3 (nq (ct (st ?_))));obtain rfl:=oi c;refine IN (Vs ι 0 0) (Vi .i64 8192) (bt 4) Τ aK aK aK ?_;exact⟨ι,ι,0,lE,iK,((Hp.cX R dR 42 2 ι).rY 1 1 aA1)⟩;refine ck (qn (sr (wp 1 (gC (w':=w3) Τ Τ (zD y d4 (γ y) d6 5 (Rd.bytes (e9.hp R)) aA8 underlying22 underlying9 underlying5 aK) (wp 1 (nq (cs ?_)))))));refine cr (wp 2 (bi c λm f1 c=>wc uz R (fR f1 (S.iY R)) λi9 f2=>wp 3 (jS f2 [(Vi .i64 0),(Vi .i64 0),(Vb ν)] 37 (λb=>(Vp (dG b))) Τ Τ aK λe j0 f3=>Cf f3 0 e 0 _ (JR m.1.1 m.1.2.1 m.1.2.2) 37 _ Τ iJ aK aK Τ aK Τ λf4 T=>wp 1 (nq ?_))));refine cs (sr (wp 2 (nq (cb c (λf5 c=> ?_) (λf5 c=> ?_)))));refine sr (wp 5 (nq (ct (st ?_))));obtain rfl:=oi c;refine IN (Vs ι 0 0) (Vi .i64 (γ y)) (bt 6) Τ aK aK aK ?_;exact⟨ι,ι,0,lE,iK,((Hp.cX T dR 42 2 ι).rY 1 2 aA1)⟩;refine ck (qn (cs (sr (wp 1 (nV T 0 e 2 _ 37 _ Τ Τ aK aK (nq (cb c (λf6 c=> ?_) (λf6 c=> ?_))))))));refine cs (YX 3 (λN M t=>eI [3,4] (λw'=>w'.heap[e]? =θ (.cells (JR m.1.1 m.1.2.1 m.1.2.2).toArray 37 (0,0))) N M t/\True) _ (λ_ _=>⟨eI.same,trivial⟩) aK aK T Τ (Hr (Hr XX)) λj1 d9=>rp 2 [0] (BU _ 1 37 _ _ (λ_ _ _ h=>h.1) _ Τ Τ aK aK aK aK aK Τ (qU Τ (by intro w n;exact(lN e 0 _ 37 _ n Τ aK aK))) (by exact d9.dO 0 Τ) (rp 0 [2] (SL aK (wp 2 (nq (ct ?_)))))));refine st ?_;obtain rfl:=oi c;refine IN (Vs ι 0 0) (Vi .i64 m.1.1) (bt 5) Τ aK aK aK ?_;exact⟨ι,ι,0,lE,iK,((Hp.cX d9 dR 42 2 ι).rY 1 2 aA1)⟩;refine ck (qn (sr (wp 1 (nq (bi c λe0 f7 c=>cut (σ:=((δ _)×Int×Int×η)×(ε Nat)×(ε Γ)×Nat×_) [4,5,6,8,10] (λ⟨x,d0,K,J,Q⟩=>[(10,(Vs K (γ x.1) J))]) (λ⟨x,d0,K,J,Q⟩ w'=>Hp w [] (aY e (JR x.2.1 x.2.2.1 x.2.2.2) 37::bM dR 42 2 d0 K J (gz Q x.1)::(gI eJ Q x.1++[])) w'/\.inl x=e0) ?_ ?_)))));refine ce (FK (σ:=Nat×eK×Int×Int×η×(ε Nat)×(ε Γ)×Nat×(Nat->(PA×PA))) [1,4,5,6,7,8,10] (λ⟨I,d,o,k,s,u,q,p,f⟩=>[(10,(Vs q (γ d) p))]) (λ⟨I,d,o,k,s,u,q,p,f⟩ w'=>Hp w [] (aY e (JR o k s) 37::bM dR 42 2 u q p (gz f d)::(gI eJ f d++[])) w'/\ano fu y a I d o k s=θ e0) (λ⟨I,d,o,k,s,u,q,p,f⟩=>I) (fu,([]:eK),m.1.1,m.1.2.1,m.1.2.2,ι,ι,0,lE) (by exact⟨((Hp.front (show Hp w [] (bM dR 42 2 ι ι 0 (gz lE ([]:eK))::aY e (JR m.1.1 m.1.2.1 m.1.2.2) 37::(gI eJ lE ([]:eK)++[])) f4 from Hp.cX T dR 42 2 ι) 1 _ Τ).rY 2 2 aA1),f7⟩) ?_ (mc aK (mc aK (mc aK (mc aK (mc aK (mc aK (mc (eU (b:=(Vs ι 0 0)) aK (NJ lsy)) Τ))))))));rintro⟨_|I,d,o,k,s,u,q,p,f⟩ j2 G ⟨H,a1⟩
 ·exact Sm a1
 rw[bet,arz]at a1;refine cs (sr (wp 1 (nV H 0 e 2 _ 37 _ Τ Τ aK aK (wp 1 (nq (cb a1 (λf8 a1=> ?_) (λf8 a1=> ?_)))))));refine ck (qn (ce (cs (sr (wp 3 (nq (cd a1 (λf9 a1=> ?_) (λf9 a1=> ?_))))))));refine cs (YX 3 (λN M t=>eI [3,4] (λw'=>w'.heap[e]? =θ (.cells (JR o k s).toArray 37 (0,0))) N M t/\True) _ (λ_ _=>⟨eI.same,trivial⟩) aK aK H Τ (Hr (Hr (yG (uT (yG (uT XX)))))) λg1 e1=>rp 2 [0] (BU _ 1 45 _ _ (λ_ _ _ h=>h.1) _ Τ Τ aK aK aK aK aK Τ (qU Τ (by intro w n;exact(lN e 0 _ 37 _ n Τ aK aK))) (by exact e1.dO 0 Τ) (rp 0 [2] (SL aK (wp 2 (nq (ct ?_)))))));refine st (iD (pJ (iD (pJ ?_))));obtain rfl:=oi a1;obtain rfl:=oi c;refine IN (Vs ι 0 0) (Vi .i64 o) (bt 4) Τ aK aK aK ?_;exact⟨ι,ι,0,lE,iK,(Hp.By [bM dR 42 2 ι ι 0 (gz lE ([]:eK))] (gI eJ lE ([]:δ _)++(gI eJ f d++[])) (gI eJ lE _++[]) ((show Hp w [] (bM dR 42 2 ι ι 0 (gz lE ([]:eK))::aY e (JR o k s) 37::bM dR 42 2 u q p (gz f d)::(gI eJ lE ([]:eK)++(gI eJ f d++[]))) g1 from Hp.cX e1 dR 42 2 ι).rY 1 3 aA1) (cA (fH (jT []) (xa _ _)) _))⟩;refine ck (qn (sr (wp 2 (nV H 0 e 1 _ 37 _ Τ Τ aK aK (wp 1 (bi a1 λi g2 a1=>wc uz H (fR g2 (S.iY H)) λj3 g3=>wp 3 ?_))))));refine jS g3 [(Vi .i64 0),(Vi .i64 0),(Vb ν)] 37 (λb=>(Vp (dG b))) Τ Τ aK λE j4 g4=>Cf g4 0 E 0 _ (JR i.1.1 i.1.2.1 i.1.2.2) 37 _ Τ iJ aK aK Τ aK Τ λg5 F=>wp 1 (nq (cs (sr (wp 2 (wl ?_)))));refine qn (cb a1 (λg6 a1=> ?_) (λg6 a1=> ?_));refine sr (wp 5 (nq (ct (st (iD (pJ (iD ?_)))))));refine pJ ?_;obtain rfl:=oi a1;obtain rfl:=oi c;refine IN (Vs ι 0 0) (Vi .i64 (γ y)) (bt 6) Τ aK aK aK ?_;exact⟨ι,ι,0,lE,iK,(Hp.By [bM dR 42 2 ι ι 0 (gz lE ([]:eK))] (gI eJ lE ([]:δ _)++(gI eJ f d++[])) (gI eJ lE _++[]) ((show Hp w [] (bM dR 42 2 ι ι 0 (gz lE ([]:eK))::aY E (JR i.1.1 i.1.2.1 i.1.2.2) 37::aY e (JR o k s) 37::bM dR 42 2 u q p (gz f d)::(gI eJ lE ([]:eK)++(gI eJ f d++[]))) g5 from Hp.cX F dR 42 2 ι).rY 1 4 aA1) (cA (fH (jT []) (xa _ _)) _))⟩;refine ck (qn (sr (wp 2 (nV F 1 e 1 _ 37 _ Τ Τ aK aK (wp 1 (nV F 0 E 0 _ 37 _ Τ Τ aK aK (gi a1 λg7 a1=>oL i.1.1 _ aK aK g7 ?_)))))));refine wp 1 (nV F 1 e 1 _ 37 _ Τ Τ aK aK (td .i64 (i.1.1-2) k aK aK (gi a1 λg8 a1=>Xu y .i64 .i64 k _ underlying9 aK aK aK g8 (bi a1 λj g9 a1=>vC 16 #[] [(str (sub y k _))] _ ent16 aK aK (vO g9 (S.iY F)) ?_))));rintro _ h0 ⟨P,D,C,O,B,A,rfl,e2⟩;have h1:Hp w [] (bM oC 49 2 P D C j.1.1::JJ eB O B A j.1.2::aY E (JR i.1.1 i.1.2.1 i.1.2.2) 37::aY e (JR o k s) 37::bM dR 42 2 u q p (gz f d)::(gI eJ f d++[])) h0:=Hp.dV (L1:=[]) (L2:=(aY E _ 37::aY e _ 37::bM dR 42 2 u q p _::(gI eJ f d++[]))) F e2;clear e2;refine wp 4 (jS h1 (yJ) 42 (λb=>(Vp (dG b))) Τ Τ aK λd1 j5 h2=>Cf h2 0 d1 0 _ [(Vs D (γ j.1.1) C),(Vs B (γ j.1.2) A)] 42 _ Τ iJ aK aK Τ aK Τ λj6 d7=>wp 2 (nq (cs (sr (wp 1 ?_)))));refine oM j.2.2 0 aK aK (nq (cn a1 (λh3 a1=> ?_) (λh3 a1=> ?_)));refine cs (gi a1 λh4 a1=>YX 7 (λN M t=>eI [3,6,7] (λw'=>w'.heap[e]? =θ (.cells (JR o k s).toArray 37 (0,0))) N M t/\True) _ (λ_ _=>⟨eI.same,trivial⟩) aK aK d7 Τ (Hr (Hr (yG (uT (yG (uT XX)))))) λh5 e3=>rp 6 [0] (BU _ 1 76 _ _ (λ_ _ _ h=>h.1) _ Τ Τ aK aK aK aK aK Τ (qU Τ (by intro w n;exact(lN e 1 _ 37 _ n Τ aK aK))) (by exact e3.dO 4 Τ) (rp 4 [2] (rt 3 _ Τ Τ (qU Τ (by intro w n;exact(Jh k j.2.1 aK aK h4))) (rp 0 [4,5,6] (SL aK (wp 1 ?_)))))));refine nq (ct (st (iD (pJ (iD (pJ ?_))))));obtain rfl:=oi a1;obtain rfl:=oi c;refine IN (Vs ι 0 0) (Vi .i64 (k+j.2.1)) (bt j.2.2) Τ aK aK aK ?_;exact⟨ι,ι,0,lE,iK,(Hp.By [bM dR 42 2 ι ι 0 (gz lE ([]:eK))] (gI eJ lE ([]:δ _)++(gI eJ f d++[])) (gI eJ lE _++[]) ((show Hp w [] (bM dR 42 2 ι ι 0 (gz lE ([]:eK))::aY d1 [(Vs D (γ j.1.1) C),(Vs B (γ j.1.2) A)] 42::bM oC 49 2 P D C j.1.1::JJ eB O B A j.1.2::aY E (JR i.1.1 i.1.2.1 i.1.2.2) 37::aY e (JR o k s) 37::bM dR 42 2 u q p (gz f d)::(gI eJ lE ([]:eK)++(gI eJ f d++[]))) h5 from Hp.cX e3 dR 42 2 ι).rY 1 7 aA1) (cA (fH (jT []) (xa _ _)) _))⟩;refine ck (qn (sr (wp 1 (mM d7 0 d1 0 2 _ _ 42 Τ Τ Τ aK aK aK (jS d7 [(Vs D (γ j.1.1) C),(Vs B (γ j.1.2) A)] 42 (λb=>(Vs (dG b) 1 1)) Τ Τ aK λh8 h9 i0=>gi a1 λi1 a1=> ?_)))));have d2:=i0.OY aob 2 Τ;replace d2:Hp w [] _ h9:=d2;refine Ua d2 6 u q _ p 1 42 2 48 f d j.1 ((P,D,C),(O,B,A)) JQ Τ underlying23 aB0 aA1 aA1 aK aK (d2.fQ 0 Τ) i1 λZ Y X i2 d8=> ?_;replace d8:Hp w [] _ i2:=d8;have i3:=d8.front 3 _ Τ;have i4:=i3.front 3 _ Τ;have W:=Hp.V3 (L:=[aY h8 _ 42,aY d1 _ 42,aY E _ 37,aY e _ 37,bM dR 42 2 Z Y X _]) (inn:=eJ) (g:=f) (l:=d) j.1 ((P,D,C),(O,B,A)) [] i4;refine wp 1 (nq (cr (mM W 2 E 0 3 _ _ 37 Τ Τ Τ aK aK aK (Cf W 3 e 0 _ (JR i.1.1 i.1.2.1 i.1.2.2) 37 _ Τ iJ aK aK Τ aK Τ λj7 i5=>wl (bn (ql ?_))))));exact⟨(I,d++[j.1],i.1.1,i.1.2.1,i.1.2.2,Z,Y,X,RL f (γ d) ((P,D,C),(O,B,A))),_,Τ,by kernel_rfl,⟨((Hp.front (Hp.front i5 4 _ Τ) 4 _ Τ).rY 2 5 aA1),a1⟩,Cu _⟩;refine Fu (Fx (Fw (Ft (ql ?_))));obtain rfl:=oi a1;exact⟨((d,o,k,s),u,q,p,f),_,Τ,by kernel_rfl,(H.rY 2 2 aA1),Τ⟩;rintro⟨x,d0,K,J,Q⟩ j8 G ⟨i6,rfl⟩;refine sr (wp 4 (nq (ct ?_)));obtain rfl:=oi c;refine IN (Vs K (γ x.1) J) (Vi .i64 0) (bt 0) Τ aK aK aK ?_;exact⟨d0,K,J,Q,iK,((Hp.front i6 1 _ Τ).rY 1 2 aA1)⟩
theorem Jb{d:δ Int}(c:Nat)(f:ε Γ)(k:Nat)(g:Nat){r:δ Int}(l:bln fu d y=θ r)(u:Gl w)(H:k=γ y)(F:Rd w f (oD eB y))(E:k<=g)(D:f=ι->g=0)(s:Hp w (eP [YT c d]) [YT c d] w)(q:∀b∈eP [YT c d],9<=b)(C:oD eB y≠[]->∀p,f=θ p->p.block∉eP [YT c d]):CR prog 26 [(Value.map (θ c)),(Vs f k g)] w λv w'=>v=(Rn #[])/\Hp w (eP [YT c d]) [YT c r] w':=by subst H;have t:=s;refine enter func26 Τ Τ iJ ?_;unfold bln at l;refine sr (jS t [(bt _),(bt _),(bt _)] 5 (λb=>(Vs (dG b) 3 3)) Τ Τ aK λh I B=>Ji B 0 h 3 5 _ ([45,45,98]:δ ζ) Τ Τ Τ underlying22 underlying5 aK λo j=> ?_);replace j:Hp w (eP [YT c d]) [gF (Vs (dG h) 3 3) 3 ([45,45,98]:δ ζ),YT c d] o:=j;refine wp 1 (nq (ce (P3 (λn _=>awo fu d y n) () j l [0,1,4] (λ(_:Unit)=>[]) (λ_=>rfl) ?_)));rintro n _ A G i e;rw[vJ,bbn]at e;refine ce (sr (wp 2 (fm 50 #[] [(Vs f (γ y) g),(Vs (dG h) 3 3)] ent50 aK aK (enter func50 Τ Τ iJ (sr (wp 3 (wl ?_)))))));refine qn (cs (sr (wp 2 (gi e λz e=>vC 48 #[] [(Vs f (γ y) g),(Vs (dG h) 3 3)] _ uu aK aK (OV f _ (γ y) g 3 3 y [(45:ζ),(45:ζ),(98:ζ)] A Τ (by first|rfl|(simp;done)|omega|(simp;omega)) (F.dj i C) (Rd.dD (i.dN 0 Τ)) E D z (u.hp i q)) ?_))));rintro _ J ⟨rfl,m⟩;have a:=i.call m;clear m;refine wp 1 (nq (sr (wp 2 (nq (cd e (λx e=> ?_) (λx e=> ?_))))));exact Sm e;refine ck (qn (sr (wp 4 (nq (ct (IN (Vs f (γ y) g) (Vs ι 0 0) (Vb ν) Τ aK aK aK (wp 7 ?_)))))));refine nq (cs (sr (wp 2 (nq (tB aK (ct ?_))))));refine st (iD (pJ (iD ?_)));obtain rfl:=oi e;refine xE Τ ?_;exact⟨iK,(Hp.front a 1 _ Τ).kp⟩
theorem vQ{e:eK}(s:ε Γ)(y:Nat)(x:Nat)(d:Nat->(PA×PA))(f:bcv fu e=θ a)(t:Gl w)(R:y=γ e)(I:Rd w s (oD dR (gz d e)))(Y:y<=x)(p:∀i:Int,0<=i/\i<(γ e:Int)->(Rd w (d (bL i)).1.2.1 (oD oC ((el e i).1))/\γ ((el e i).1)<=(d (bL i)).1.2.2/\((d (bL i)).1.2.1=ι->(d (bL i)).1.2.2=0))/\(Rd w (d (bL i)).2.2.1 (oD eB ((el e i).2))/\γ ((el e i).2)<=(d (bL i)).2.2.2/\((d (bL i)).2.2.1=ι->(d (bL i)).2.2.2=0))):CR prog 12 [(Vs s y x)] w λv w'=>v=(str a)/\Hp w [] [] w':=by
 subst R;have J:=Hp.refl w;refine enter func12 Τ Τ iJ ?_;unfold bcv at f;refine sr (wp 1 (nq (sr (fe J λq S Q=>wp 1 (wl ?_)))));refine qn (bi f λH P f=>cut (σ:=(δ Int)) [2,3] (λn=>[]) (λn w'=>Hp w [] [YT q n] w'/\n=H) ?_ ?_);refine sr (wp 3 (nq (ce (FK (σ:=Nat×Int×_) [2,3,8,9,10] (λ⟨m,r,l⟩=>[(10,(Vi .i64 r))]) (λ⟨m,r,l⟩ w'=>Hp w [] [YT q l] w'/\anq fu e m r l=θ H) (λ⟨m,r,l⟩=>m) (fu,0,[]) (by exact⟨Q.kp,P⟩) ?_))));rintro⟨_|m,r,l⟩ X G ⟨o,c⟩
 ·exact Sm c
 rw[blq,ate]at c;refine sr (wp 1 (nq (cs (cd c (λO c=> ?_) (λO c=> ?_)))));refine ck (qn (cs (ce (sr (gi c λd0 c=>Qj s (γ e) x 42 2 .i64 r underlying23 aK aK aK _ (IL _ _).symm (lS _ _ d0) (I.hp o) JQ aA1 (gi c λk c=>Gq s dR _ 2 r JQ (I.hp o) (yT d e r) (lS _ _ k) (by rw[Wg _ _ _ k];rfl) aK aK aK aA1 ?_))))));refine jS o (yJ) 42 (λb=>(Vp (dG b))) Τ Τ aK λF W d1=>Cf d1 0 F 0 _ (yT d e r) 42 _ Τ iJ aK aK Τ aK Τ λV E=>nq (cr (wp 2 (nV E 0 F 1 _ 42 _ Τ Τ aK aK (bi c λd2 d3 c=> ?_))));have j:=E.front 1 _ Τ;refine vC 26 #[] [(Value.map _),(vBq d e r)] _ ent26 aK aK (Jb q ((d (bL r)).2.2.1) _ _ d3 (t.iY j) Τ (((p r k).2).1.hp j) ((p r k).2).2.1 ((p r k).2).2.2 (j.hand) (j.sM t (λ_ h=>absurd h aA2) 1 Τ) (j.Ch 1 ((p r k).2).1 (λ_ _ _ h=>absurd h aA2) Τ)) ?_;rintro _ U ⟨rfl,D⟩;have d4:=Hp.dV j D;clear D;refine wl (bn (qn (cr (gi c λd5 c=>Cw r _ aK aK d5 (wp 1 (wl (ql ?_)))))));exact⟨(m,r+1,d2),_,Τ,by kernel_rfl,⟨d4.kp,c⟩,Cu _⟩;refine Fu (Fx (Fw (Ft (ql ?_))));obtain rfl:=oi c;exact⟨l,_,Τ,by kernel_rfl,o.kp,Τ⟩;rintro n T G ⟨d6,rfl⟩;refine sr (wp 1 (nq (bi f λd7 d8 f=>cut (σ:=Unit) [2,6] (λu=>[]) (λu w'=>Hp w [] [] w'/\u=d7) ?_ ?_)));refine ce (P3 (λC _=>anp fu n C) () d6 d8 [2,3,6] (λ(_:Unit)=>[]) (λ_=>rfl) ?_);rintro C _ f0 G B g;rw[blp,atd]at g;refine cs (sr (wp 2 (xo B 0 q n 0 Τ underlying54 underlying3 aK aK aK (nq (cd g (λd9 g=> ?_) (λd9 g=> ?_))))));exact Sm g;refine Fu (Fx (Fw (Ft (ql ?_))));obtain rfl:=oi g;exact⟨(),_,Τ,by kernel_rfl,B.kp,Τ⟩;rintro u N G ⟨A,rfl⟩;refine sr (wp 1 (gi f λM f=>vC 27 #[] [(Vi .i64 0)] _ ent27 aK aK (OX 0 N M (t.iY A)) ?_));rintro _ f1 ⟨rfl,z⟩;have L:=A.call z;clear z;refine gi f λK f=>dr _ _ aK aK K (wp 1 (nq (ct ?_)));obtain rfl:=oi f;exact rv L.kp
theorem yM(f:ε Γ)(j:Nat)(e:Nat)(d:ε Γ)(i:Nat)(c:Nat)(g:beg fu y h=θ r)(l:Gl w)(u:j=γ y)(t:Rd w f (oD eB y))(s:j<=e)(q:f=ι->e=0)(p:i=γ h)(o:Rd w d (oD eB h))(z:i<=c)(a:d=ι->c=0):CR prog 23 [(Vs f j e),(Vs d i c)] w λv w'=>v=(Vb r)/\Hp w [] [] w':=by subst u;subst p;have b:=Hp.refl w;refine enter func23 Τ Τ iJ ?_;unfold beg at g;refine sr (wp 1 (nq (sr (wp 2 (gi g λm g=>vC 48 #[] [(Vs f (γ y) e),(Vs d (γ h) c)] _ uu aK aK (OV f d (γ y) e (γ h) c y h w Τ Τ (t.hp b) (o.hp b) s q m (l.iY b)) ?_)))));rintro _ x ⟨rfl,k⟩;have n:=b.call k;clear k;refine wp 2 (nq (ct ?_));obtain rfl:=oi g;exact rv n.kp
end Go.Proofs
